/- A part of the proof: contracts of functions of the program. No condition. -/
import Derived.Test.YtccleakfgmcjpaaDoorDkI
namespace Go.Proofs.YtccleakfgmcjpaaDoor
open Go.Eng Dk
set_option maxRecDepth 100000
def elf : List UInt8 := [69, 108, 102]
def imp : List UInt8 := [73, 109, 112]
def oak : List UInt8 := [79, 97, 107]
def std : List UInt8 := [115, 116, 100]
def none4 : List UInt8 := [110, 111, 110, 101]
def card0 (s : List UInt8) : CardT := ⟨s, false, 0, 0, 0, 0, 0, 0, [], [], [], 0⟩
def fmtB : FmtT := ⟨std, 2, 9, 2, [oak], [elf], 0⟩
def bookT : BkT := ⟨[card0 elf, card0 imp, card0 oak], [fmtB]⟩
def cardC (s : List UInt8) : List Value := [sV s, .bool false, iV 0, iV 0, iV 0, iV 0, iV 0, iV 0, .slice none 0 0, .slice none 0 0, .slice none 0 0, iV 0]
theorem effs0 (m : Mp) : EffsR m none 0 [] := ⟨rfl, by decide, [], Rd.nil _ _, rfl, fun i hi => by cases hi⟩
theorem wf0 : (Lit.int IntKind.i64 0).wf = true := by decide
theorem cardC_ok (m : Mp) {s : List UInt8} (h : s.length ≤ maxLen) : CardR m (cardC s) (card0 s) := ⟨_, _, _, _, _, _, _, _, _, rfl, h, effs0 m, effs0 m, effs0 m, wf0, wf0, wf0, wf0, wf0, wf0, wf0⟩
theorem Pick.pack4 {L : List Ent} {a b c d : Ent} : Pick (a :: b :: c :: d :: L) (pack [a, b, c, d] :: L) := fun m h hs => HS.pack_iff.1 (show HS m ([a, b, c, d] ++ L) h from hs)
set_option maxHeartbeats 8000000 in
theorem book_ok {m : Mp} : CS Tryd.prog 21 [] m [] (fun v L' => ∃ (bv : List Value) (e : Ent), v = .agg bv.toArray ∧ L' = [e] ∧ ∀ ns, e.inv ns → BkR ns bv bookT) := by
  refine CS_of [.cell 0 25] Tryd.func21 rfl rfl rfl ?_
  refine TS_seq ?_
  refine TS_region ?_
  refine VS_step (S_alloc zl25 rfl (fun b1 => ?_)) rfl
  refine VS_nil ?_
  refine QS_then ?_
  refine TS_seq ?_
  refine TS_region ?_
  iterate 3 (refine VS_pure (P_build zl69 pl69 rfl rfl) rfl rfl rfl ?_)
  refine VS_step (S_buildSlice sl22 rfl rfl rfl rfl (fun b2 => ?_)) rfl
  refine VS_step (S_buildSlice sl26 rfl rfl rfl rfl (fun b3 => ?_)) rfl
  refine VS_step (S_buildSlice sl26 rfl rfl rfl rfl (fun b4 => ?_)) rfl
  refine VS_pure (P_build zl51 pl51 rfl rfl) rfl rfl rfl ?_
  refine VS_step (S_buildSlice sl23 rfl rfl rfl rfl (fun b5 => ?_)) rfl
  refine VS_pure (P_build zl25 pl25 rfl rfl) rfl rfl rfl ?_
  refine VS_step (S_storeAgg ag25 rfl rfl rfl (.there (.there (.there (.there (.here))))) rfl rfl ?_) rfl
  refine VS_nil ?_
  refine QS_then ?_
  refine TS_ret ?_
  refine QS_ret [_] ⟨⟨_, _, _, _, rfl, .there (.there (.there (.there .here))), .inr ⟨ag25, rfl⟩⟩, trivial⟩ [pack [cel b5 [sV std, iV 2, iV 9, iV 2, .slice (some ⟨b3, 0, none⟩) 1 1, .slice (some ⟨b4, 0, none⟩) 1 1, iV 0] 51, cel b4 [sV elf] 9, cel b3 [sV oak] 9, cel b2 (cardC elf ++ cardC imp ++ cardC oak) 69]] (Pick.tr (.cons .here (.cons .here (.cons .here (.cons .here (.nil _))))) Pick.pack4) ⟨[.slice (some ⟨b2, 0, none⟩) 3 3, .slice (some ⟨b5, 0, none⟩) 1 1], _, rfl, rfl, fun ns hi => ?_⟩
  have h5 := hi.1 _ List.mem_cons_self
  have h4 := hi.1 _ (List.mem_cons_of_mem _ List.mem_cons_self)
  have h3 := hi.1 _ (List.mem_cons_of_mem _ (List.mem_cons_of_mem _ List.mem_cons_self))
  have h2 := hi.1 _ (List.mem_cons_of_mem _ (List.mem_cons_of_mem _ (List.mem_cons_of_mem _ List.mem_cons_self)))
  refine ⟨some ⟨b2, 0, none⟩, 3, some ⟨b5, 0, none⟩, 1, rfl, ⟨rfl, by decide, cardC elf ++ cardC imp ++ cardC oak, Rd.blk h2, rfl, fun i hi => ?_⟩, ⟨by decide, _, Rd.blk h5, rfl, fun i hi => ?_⟩⟩
  · rcases i with _ | _ | _ | i
    · exact cardC_ok ns (s := elf) (by decide)
    · exact cardC_ok ns (s := imp) (by decide)
    · exact cardC_ok ns (s := oak) (by decide)
    · simp [bookT] at hi
      omega
  · rcases i with _ | i
    · exact ⟨some ⟨b3, 0, none⟩, 1, some ⟨b4, 0, none⟩, 1, rfl, ⟨Rd.blk h3, by show 1 ≤ _; decide⟩, ⟨Rd.blk h4, by show 1 ≤ _; decide⟩⟩
    · simp [bookT] at hi
theorem k1 : checkP bookT std [elf, elf, elf] = ([⟨5, elf, 3⟩, ⟨6, elf, 3⟩], 292) := by decide +kernel
theorem k2 : checkP bookT std [] = ([⟨1, [], 0⟩], 292) := by decide +kernel
theorem k3 : checkP bookT none4 [] = ([], 4) := by decide +kernel
theorem k4 : checkP bookT std [imp, elf, imp] = ([], 0) := by decide +kernel
theorem it3 : Lib.itoa 3 = [51] := by
  show Lib.decDigits 3 = _
  rw [Lib.decDigits]
  rfl
theorem it0 : Lib.itoa 0 = [48] := by
  show Lib.decDigits 0 = _
  rw [Lib.decDigits]
  rfl
def tx1 : List UInt8 := [115, 105, 110, 103, 108, 101, 58, 32, 69, 108, 102, 32, 120, 51, 59, 32, 99, 111, 112, 105, 101, 115, 58, 32, 69, 108, 102, 32, 120, 51]
def tx2 : List UInt8 := [116, 111, 111, 32, 102, 101, 119, 58, 32, 48]
theorem t1 : Lib.join (([⟨5, elf, 3⟩, ⟨6, elf, 3⟩] : List Rea).map (partR Lib.itoa)) sep2 = tx1 := by
  have e5 : partR Lib.itoa ⟨5, elf, 3⟩ = w5 ++ colon ++ (elf ++ spx) ++ Lib.itoa 3 := rfl
  have e6 : partR Lib.itoa ⟨6, elf, 3⟩ = w6 ++ colon ++ (elf ++ spx) ++ Lib.itoa 3 := rfl
  rw [List.map_cons, List.map_cons, List.map_nil, e5, e6, it3]
  decide +kernel
theorem t2 : Lib.join (([⟨1, [], 0⟩] : List Rea).map (partR Lib.itoa)) sep2 = tx2 := by
  have e1 : partR Lib.itoa ⟨1, [], 0⟩ = w1 ++ colon ++ Lib.itoa 0 := rfl
  rw [List.map_cons, List.map_nil, e1, it0]
  decide +kernel
set_option maxHeartbeats 16000000 in
theorem wakes_ok {m : Mp} (hT : Tabs m) : CS Tryd.prog 8 [] m [] (Gives (.bool true)) := by
  refine CS_of [.tmp 0] Tryd.func8 rfl rfl rfl ?_
  have C1 := fun m' bv (h : BkR m' bv bookT) A c (hs : StrsR m' A [elf, elf, elf]) => Check_ok (c := c) h std hs (by decide)
  have C2 := fun m' bv (h : BkR m' bv bookT) => Check_ok (A := none) (c := 0) (deck := []) h std ⟨Rd.nil _ _, by decide⟩ (by decide)
  have C3 := fun m' bv (h : BkR m' bv bookT) => Check_ok (A := none) (c := 0) (deck := []) h none4 ⟨Rd.nil _ _, by decide⟩ (by decide)
  have C4 := fun m' bv (h : BkR m' bv bookT) A c (hs : StrsR m' A [imp, elf, imp]) => Check_ok (c := c) h std hs (by decide)
  have T1 := fun m' (hm : Le m m') A c (ho : (own 38 3 A 2 c (([⟨5, elf, 3⟩, ⟨6, elf, 3⟩] : List Rea).flatMap reaC)).inv m') => Text_ok (m := m') (rs := [⟨5, elf, 3⟩, ⟨6, elf, 3⟩]) (c := c) (hT.mono hm) (Eng.Own.rd ho) (by decide) (fun r hr => by
    simp only [List.mem_cons, List.not_mem_nil, or_false] at hr
    rcases hr with rfl | rfl
    · exact ⟨⟨by decide, by decide⟩, ⟨by decide, by decide⟩, by decide⟩
    · exact ⟨⟨by decide, by decide⟩, ⟨by decide, by decide⟩, by decide⟩) (by rw [t1]; decide)
  have T2 := fun m' (hm : Le m m') A c (ho : (own 38 3 A 1 c (([⟨1, [], 0⟩] : List Rea).flatMap reaC)).inv m') => Text_ok (m := m') (rs := [⟨1, [], 0⟩]) (c := c) (hT.mono hm) (Eng.Own.rd ho) (by decide) (fun r hr => by
    simp only [List.mem_cons, List.not_mem_nil, or_false] at hr
    subst hr
    exact ⟨⟨by decide, by decide⟩, ⟨by decide, by decide⟩, by decide⟩) (by rw [t2]; decide)
  rw [t1] at T1
  rw [t2] at T2
  rw [k1] at C1
  rw [k2] at C2
  rw [k3] at C3
  rw [k4] at C4
  refine TS_seq ?_
  refine TS_region ?_
  refine VS_pure (P_assign rfl) rfl rfl rfl ?_
  refine VS_nil ?_
  refine QS_then ?_
  refine TS_seq ?_
  refine TS_region ?_
  refine VS_step ((S_call cl21 rfl (fun m' hm he => book_ok) rfl ?_)) rfl
  rintro _ _ ⟨bv1, e1, rfl, rfl, hb1⟩
  refine VS_step (S_buildSlice sl26 rfl rfl rfl rfl (fun b1 => ?_)) rfl
  refine VS_step ((S_call cl9 rfl (fun m' hm he => C1 m' bv1 (hb1 m' (he _ (List.mem_cons_of_mem _ List.mem_cons_self))) _ _ ⟨Rd.blk (he _ List.mem_cons_self), by decide⟩) rfl ?_)) rfl
  rintro _ _ ⟨A1, c1, rfl, rfl⟩
  refine VS_pure (P_move rfl) rfl rfl rfl ?_
  refine VS_pure (P_extract rfl rfl) rfl rfl rfl ?_
  refine VS_pure (P_extract rfl rfl) rfl rfl rfl ?_
  refine VS_pure (P_assign rfl) rfl rfl rfl ?_
  refine VS_pure (P_assign rfl) rfl rfl rfl ?_
  refine VS_nil ?_
  refine QS_then ?_
  refine TS_seq ?_
  refine TS_region ?_
  refine VS_step ((S_call cl21 rfl (fun m' hm he => book_ok) rfl ?_)) rfl
  rintro _ _ ⟨bv2, e2, rfl, rfl, hb2⟩
  skip
  refine VS_step ((S_call cl9 rfl (fun m' hm he => C2 m' bv2 (hb2 m' (he _ List.mem_cons_self))) rfl ?_)) rfl
  rintro _ _ ⟨A2, c2, rfl, rfl⟩
  refine VS_pure (P_move rfl) rfl rfl rfl ?_
  refine VS_pure (P_extract rfl rfl) rfl rfl rfl ?_
  refine VS_pure (P_extract rfl rfl) rfl rfl rfl ?_
  refine VS_pure (P_assign rfl) rfl rfl rfl ?_
  refine VS_pure (P_assign rfl) rfl rfl rfl ?_
  refine VS_nil ?_
  refine QS_then ?_
  refine TS_seq ?_
  refine TS_region ?_
  refine VS_step ((S_call cl21 rfl (fun m' hm he => book_ok) rfl ?_)) rfl
  rintro _ _ ⟨bv3, e3, rfl, rfl, hb3⟩
  skip
  refine VS_step ((S_call cl9 rfl (fun m' hm he => C3 m' bv3 (hb3 m' (he _ List.mem_cons_self))) rfl ?_)) rfl
  rintro _ _ ⟨A3, c3, rfl, rfl⟩
  refine VS_pure (P_move rfl) rfl rfl rfl ?_
  refine VS_pure (P_extract rfl rfl) rfl rfl rfl ?_
  refine VS_pure (P_extract rfl rfl) rfl rfl rfl ?_
  refine VS_pure (P_assign rfl) rfl rfl rfl ?_
  refine VS_pure (P_assign rfl) rfl rfl rfl ?_
  refine VS_nil ?_
  refine QS_then ?_
  refine TS_seq ?_
  refine TS_region ?_
  refine VS_step ((S_call cl21 rfl (fun m' hm he => book_ok) rfl ?_)) rfl
  rintro _ _ ⟨bv4, e4, rfl, rfl, hb4⟩
  refine VS_step (S_buildSlice sl26 rfl rfl rfl rfl (fun b2 => ?_)) rfl
  refine VS_step ((S_call cl9 rfl (fun m' hm he => C4 m' bv4 (hb4 m' (he _ (List.mem_cons_of_mem _ List.mem_cons_self))) _ _ ⟨Rd.blk (he _ List.mem_cons_self), by decide⟩) rfl ?_)) rfl
  rintro _ _ ⟨A4, c4, rfl, rfl⟩
  refine VS_pure (P_move rfl) rfl rfl rfl ?_
  refine VS_pure (P_extract rfl rfl) rfl rfl rfl ?_
  refine VS_pure (P_extract rfl rfl) rfl rfl rfl ?_
  refine VS_pure (P_assign rfl) rfl rfl rfl ?_
  refine VS_pure (P_assign rfl) rfl rfl rfl ?_
  refine VS_nil ?_
  refine QS_then ?_
  refine TS_seq ?_
  refine TS_region ?_
  refine VS_pure (P_move rfl) rfl rfl rfl ?_
  refine VS_pure (dt (P_eql rfl rfl) rfl) rfl rfl rfl ?_
  refine VS_pure (P_move rfl) rfl rfl rfl ?_
  refine VS_pure (P_move rfl) rfl rfl rfl ?_
  refine VS_step (S_callR cl12 rfl (fun m' hm he => (T1 m' hm _ _ (he _ (List.mem_cons_of_mem _ (List.mem_cons_of_mem _ (List.mem_cons_of_mem _ (List.mem_cons_of_mem _ (List.mem_cons_of_mem _ (List.mem_cons_of_mem _ (List.mem_cons_of_mem _ List.mem_cons_self)))))))))) rfl ?_) rfl
  rintro _ rfl
  refine VS_pure (dt (P_seql rfl rfl) rfl) rfl rfl rfl ?_
  refine VS_pure (P_pick_t rfl rfl) rfl rfl rfl ?_
  refine VS_pure (P_move rfl) rfl rfl rfl ?_
  refine VS_pure (P_move rfl) rfl rfl rfl ?_
  refine VS_pure (dt (P_eql rfl rfl) rfl) rfl rfl rfl ?_
  refine VS_pure (P_pick_t rfl rfl) rfl rfl rfl ?_
  refine VS_pure (P_move rfl) rfl rfl rfl ?_
  refine VS_pure (P_move rfl) rfl rfl rfl ?_
  refine VS_step (S_callR cl12 rfl (fun m' hm he => (T2 m' hm _ _ (he _ (List.mem_cons_of_mem _ (List.mem_cons_of_mem _ (List.mem_cons_of_mem _ (List.mem_cons_of_mem _ (List.mem_cons_of_mem _ List.mem_cons_self)))))))) rfl ?_) rfl
  rintro _ rfl
  refine VS_pure (dt (P_seql rfl rfl) rfl) rfl rfl rfl ?_
  refine VS_pure (P_pick_t rfl rfl) rfl rfl rfl ?_
  refine VS_pure (P_move rfl) rfl rfl rfl ?_
  refine VS_pure (P_move rfl) rfl rfl rfl ?_
  refine VS_pure (dt (P_eql rfl rfl) rfl) rfl rfl rfl ?_
  refine VS_pure (P_pick_t rfl rfl) rfl rfl rfl ?_
  refine VS_pure (P_move rfl) rfl rfl rfl ?_
  refine VS_pure (P_move rfl) rfl rfl rfl ?_
  refine VS_pure (dt (P_eql rfl rfl) rfl) rfl rfl rfl ?_
  refine VS_pure (P_pick_t rfl rfl) rfl rfl rfl ?_
  refine VS_pure (P_assign rfl) rfl rfl rfl ?_
  refine VS_nil ?_
  refine QS_then ?_
  refine TS_ret ?_
  exact QS_ret [_] ⟨rfl, trivial⟩ [] (Pick.nil _) ⟨rfl, rfl⟩
end Go.Proofs.YtccleakfgmcjpaaDoor
