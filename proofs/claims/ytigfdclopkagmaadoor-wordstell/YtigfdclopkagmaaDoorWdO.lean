/- A part of the proof: contracts of functions of the program. No condition. -/
import Derived.Test.YtigfdclopkagmaaDoorWdN
namespace Go.Proofs.YtigfdclopkagmaaDoor
open Go.Eng Wd Go.RowKit
theorem Box.put {bx c l : Nat} {A : Option Addr} {ws : List Wrd} {V : World} {o o' : Obj} (hb : Box bx A c ws V.heap) (hl : V.heap[l]? = some o) (ho : o.isCells = false) : Box bx A c ws (V.putObj l o').heap := by
  have same : ∀ k, k ≠ l → mp (V.putObj l o').heap k = mp V.heap k := fun k hk => World.putObj_heap_other hk
  refine ⟨?_, hb.2.of_eq fun k hk => same k ?_⟩
  · have h1 := hb.1
    have hne : bx ≠ l := by
      rintro rfl
      unfold mc at h1
      rw [show mp V.heap bx = some o from hl] at h1
      cases o <;> simp [Obj.isCells] at ho h1
    unfold mc at h1 ⊢
    rw [same bx hne]
    exact h1
  · rintro rfl
    obtain ⟨cur, hm⟩ := hb.2.at_ hk
    rw [show mp V.heap k = some o from hl] at hm
    cases hm
    cases ho
theorem wF_inj {x y : Wrd} (h : wF x = wF y) : x = y := by
  cases x; cases y
  simp [wF] at h
  simp [h]
/-- the function's own blocks -/
structure Bk where
  b5 : Nat
  b6 : Nat
  b7 : Nat
  b8 : Nat
  b9 : Nat
  bx : Nat
  A : Option Addr
  c : Nat
  A' : Option Addr
  c' : Nat
  n : Int
  e : Int
  a : Int
  ws : List Wrd
def Bk.L (z : Bk) (k : Nat) (r : Bool) : List Ent := [cel z.b9 [.int .i64 (k : Nat)] 3, cel z.bx [.slice z.A' z.ws.length z.c'] 22, own 30 4 z.A' z.ws.length z.c' (wsV z.ws),
  cel z.b8 [.int .i64 z.e, .int .i64 z.a] 25, cel z.b7 [.slice z.A z.ws.length z.c] 22, own 30 4 z.A z.ws.length z.c (wsV z.ws), cel z.b6 [.bool r] 4, cel z.b5 [.int .i64 z.n] 3]
def Bk.E (z : Bk) (s t : List UInt8) : Env := [(0, .string (bs s)), (1, .string (bs t)), (5, .pointer (some ⟨z.b5, 0, none⟩)), (6, .pointer (some ⟨z.b6, 0, none⟩)), (7, .pointer (some ⟨z.b7, 0, none⟩)), (8, .pointer (some ⟨z.b8, 0, none⟩)),
  (9, .pointer (some ⟨z.b9, 0, none⟩)), (10, .func (.func 24) #[] #[.pointer (some ⟨z.bx, 0, none⟩)])]
theorem Bk.only (z : Bk) (k : Nat) (r : Bool) : ∀ e ∈ z.L k r, CellsOnly e := by
  intro e he
  simp only [Bk.L, List.mem_cons, List.not_mem_nil, or_false] at he
  rcases he with rfl | rfl | rfl | rfl | rfl | rfl | rfl | rfl <;> first | exact cel_only _ _ _ | exact own_only _ _ _ _ _ _
set_option maxHeartbeats 8000000 in
theorem tell_core {m : Mp} (hT : Tabs m) {s t : List UInt8} {n : Int} (hs : s.length ≤ 140737488351232) (ht : t.length ≤ 140737488351232) : CS Tryd.prog 5 [.string (bs s), .string (bs t), .int .i64 n] m [] (Gives (.bool true)) := by
  intro h hH x0 d0
  have hwl : (wordsOf (cutP s)).length ≤ 65537 := by
    cases hc : cutP s with
    | error p => exact Nat.zero_le _
    | ok ws => exact cutP_len hc
  refine (callsIn_wide (n := 3)).1 (callsIn_of_wp_marks Tryd.func5 rfl trivial ?_)
  refine wpIn_wide.2 ?_
  refine at_W (x := ⟨x0.tape, x0.os, x0.out, []⟩) (h := h) (d := d0) rfl (fun a hag => ?_) (agD0 (by show 3 ≤ 62; decide))
  refine wp_seq_T (m := m) (L := []) (K := fun env' L' => ∃ b5 b6, L' = [cel b6 [.bool false] 4, cel b5 [.int .i64 n] 3] ∧ Sub [(0, .string (bs s)), (1, .string (bs t)), (5, .pointer (some ⟨b5, 0, none⟩)), (6, .pointer (some ⟨b6, 0, none⟩))] env') ?_ hH hag ?_
  · refine TS_region ?_
    refine VS_step (S_box rfl rfl (fun b1 => ?_)) rfl
    refine VS_step (S_alloc zl4 rfl (fun b2 => ?_)) rfl
    refine VS_nil ?_
    exact QS_mid _ (Pick.refl _) ⟨b1, b2, rfl, rfl, rfl, rfl, rfl, trivial⟩
  rintro env1 _ h1 d1 a1 ⟨b5, b6, rfl, hsub⟩ hs1 hag1
  have hag1 := hag1.sub hsub
  refine wp_seq_T (m := m) (K := fun env' L' => ∃ b7 b8 A c e a, L' = [cel b8 [.int .i64 e, .int .i64 a] 25, cel b7 [.slice A (wordsOf (cutP s)).length c] 22, own 30 4 A (wordsOf (cutP s)).length c (wsV (wordsOf (cutP s))), cel b6 [.bool false] 4, cel b5 [.int .i64 n] 3] ∧
    Sub [(0, .string (bs s)), (1, .string (bs t)), (5, .pointer (some ⟨b5, 0, none⟩)), (6, .pointer (some ⟨b6, 0, none⟩)), (7, .pointer (some ⟨b7, 0, none⟩)), (8, .pointer (some ⟨b8, 0, none⟩))] env') ?_ hs1 hag1 ?_
  · refine TS_region ?_
    refine VS_pure (P_move rfl) rfl rfl rfl ?_
    refine VS_step ((S_call cl6 rfl (fun m' hm he => CutAny_ok (Cut_ok (hT.mono hm) (by omega))) rfl ?_)) rfl
    rintro _ _ ⟨A, c, e, a, rfl, rfl⟩
    refine VS_pure (P_move rfl) rfl rfl rfl ?_
    refine VS_pure (P_extract rfl rfl) rfl rfl rfl ?_
    refine VS_pure (P_extract rfl rfl) rfl rfl rfl ?_
    refine VS_step (S_alloc zl22 rfl (fun b1 => ?_)) rfl
    refine VS_step (S_alloc zl25 rfl (fun b2 => ?_)) rfl
    refine VS_step (S_store co22 rfl rfl rfl (.there (.here)) (.here) ?_) rfl
    refine VS_step (S_storeAgg ag25 rfl rfl rfl (.here) rfl rfl ?_) rfl
    refine VS_nil ?_
    exact QS_mid _ (Pick.refl _) ⟨b1, b2, A, c, e, a, rfl, rfl, rfl, rfl, rfl, rfl, rfl, trivial⟩
  rintro env2 _ h2 d2 a2 ⟨b7, b8, A, c, e, ea, rfl, hsub⟩ hs2 hag2
  have hag2 := hag2.sub hsub
  refine wp_seq_T (m := m) (K := fun env' L' => ∃ b9, L' = [cel b9 [.int .i64 (0 : Nat)] 3, cel b8 [.int .i64 e, .int .i64 ea] 25, cel b7 [.slice A (wordsOf (cutP s)).length c] 22, own 30 4 A (wordsOf (cutP s)).length c (wsV (wordsOf (cutP s))), cel b6 [.bool false] 4, cel b5 [.int .i64 n] 3] ∧
    Sub [(0, .string (bs s)), (1, .string (bs t)), (5, .pointer (some ⟨b5, 0, none⟩)), (6, .pointer (some ⟨b6, 0, none⟩)), (7, .pointer (some ⟨b7, 0, none⟩)), (8, .pointer (some ⟨b8, 0, none⟩)), (9, .pointer (some ⟨b9, 0, none⟩))] env') ?_ hs2 hag2 ?_
  · refine TS_region ?_
    refine VS_step (S_alloc zl3 rfl (fun b1 => ?_)) rfl
    refine VS_step (S_store co3 rfl rfl rfl (.here) (.here) ?_) rfl
    refine VS_nil ?_
    exact QS_mid _ (Pick.refl _) ⟨b1, rfl, rfl, rfl, rfl, rfl, rfl, rfl, rfl, trivial⟩
  rintro env3 _ h3 d3 a3 ⟨b9, rfl, hsub⟩ hs3 hag3
  have hag3 := hag3.sub hsub
  refine wp_seq_T (m := m) (K := fun env' L' => ∃ z : Bk, z.ws = wordsOf (cutP s) ∧ z.n = n ∧ L' = z.L 0 false ∧ Sub (z.E s t) env') ?_ hs3 hag3 ?_
  · refine TS_region ?_
    refine VS_pure (P_move rfl) rfl rfl rfl ?_
    refine VS_step ((S_call cl9 rfl (fun m' hm he => Each_ok (hT.mono hm) (by omega)) rfl ?_)) rfl
    rintro _ _ ⟨bx, A', c', rfl, rfl⟩
    refine VS_pure (P_assign rfl) rfl rfl rfl ?_
    refine VS_nil ?_
    exact QS_mid _ (Pick.cons (.there (.there .here)) (Pick.refl _)) ⟨⟨b5, b6, b7, b8, b9, bx, A, c, A', c', n, e, ea, wordsOf (cutP s)⟩, rfl, rfl, rfl, rfl, rfl, rfl, rfl, rfl, rfl, rfl, rfl, trivial⟩
  rintro env4 _ h4 d4 a4 ⟨z, hz, hzn, rfl, hsub⟩ hs4 hag4
  have hag4 := hag4.sub hsub
  refine wp_seq_T (m := m) (K := fun env' L' => L' = z.L 0 false ∧ Sub (z.E s t) env') ?_ hs4 hag4 ?_
  · unfold Bk.L Bk.E
    refine TS_seq ?_
    refine TS_region ?_
    refine VS_pure (P_move rfl) rfl rfl rfl ?_
    refine VS_pure ((P_feqlNil (by kernel_rfl) rfl rfl)) rfl rfl rfl ?_
    refine VS_nil ?_
    refine QS_then ?_
    refine TS_false rfl ?_
    refine TS_skip ?_
    exact QS_mid _ (Pick.refl _) ⟨rfl, rfl, rfl, rfl, rfl, rfl, rfl, rfl, rfl, trivial⟩
  rintro env5 _ h5 d5 a5 ⟨rfl, hsub⟩ hs5 hag5
  have hag5 := hag5.sub hsub
  refine wp_seq ?_
  refine wp_seq_T (m := m) (K := fun env' L' => L' = z.L 0 false ∧ Sub ((21, .func (.func 24) #[] #[.pointer (some ⟨z.bx, 0, none⟩)]) :: z.E s t) env') ?_ hs5 hag5 ?_
  · unfold Bk.L Bk.E
    refine TS_region ?_
    refine VS_pure (P_move rfl) rfl rfl rfl ?_
    refine VS_nil ?_
    exact QS_mid _ (Pick.refl _) ⟨rfl, rfl, rfl, rfl, rfl, rfl, rfl, rfl, rfl, rfl, trivial⟩
  rintro env6 _ h6 d6 a6 ⟨rfl, hsub⟩ hs6 hag6
  have hag6 := hag6.sub hsub
  clear hs hag hag1 hag2 hag3 hag4 hag5 hs1 hs2 hs3 hs4 hs5 hsub
  have box_of : ∀ {k : Nat} {r : Bool} {m' : Mp} {h : Heap} {L' : List Ent}, HS m' (L' ++ z.L k r) h → Box z.bx z.A' z.c' z.ws h := fun hh => by
    have g1 := hh.inv (cel z.bx [.slice z.A' z.ws.length z.c'] 22) (by simp [Bk.L])
    have g2 := hh.inv (own 30 4 z.A' z.ws.length z.c' (wsV z.ws)) (by simp [Bk.L])
    exact ⟨mc_blk g1 rfl, g2⟩
  have hmB : ∀ k, h6.size ≤ k → m k = none := fun k hk => by
    cases hm : m k with
    | none => rfl
    | some o =>
      have := hs6.base k o hm
      have := (Array.getElem?_eq_some_iff.1 this).1
      omega
  have ownG : ∀ {L : List Ent} {V V' : World} {row : Option Nat}, (∀ e ∈ L, CellsOnly e) → HS m L V.heap → V.grownBy V' row → (∀ r, row = some r → h6.size ≤ r ∧ ∃ o : Obj, V.heap[r]? = some o ∧ o.isCells = false) → HS m L V'.heap := fun hc hh hg hr =>
    hh.grow hc (fun k hk hne => hg.block k hk (fun e => hne e)) (fun r e => ⟨hmB r (hr r e).1, (hr r e).2⟩)
  have fin : ∀ (a' : Act) (V' : World) (D k : Nat), h6.size ≤ D → a'.defers = [{ target := .collected D, args := #[] }] → Ag 62 [(6, .pointer (some ⟨z.b6, 0, none⟩))] a' → V'.tape = x0.tape → V'.os = x0.os → V'.output = x0.out → HS m (z.L k true) V'.heap →
      V'.heap[D]? = some (.deferred (some [])) → bodyPostM Fence.wide 3 Tryd.prog Tryd.f5 (fun e w' => ∃ v h' d', e = .returned v ∧ w' = W x0 h' d' ∧ ∃ L', Gives (.bool true) v L' ∧ HS m L' h') .ret a' V' := by
    intro a' V' D k hD hdf hA t1 t2 t3 hh hdef
    show LeavesInM _ _ _ _ a'.tmps _ a'.defers _ V'
    rw [hdf]
    refine ⟨by simp, .inl ⟨D, _, rfl, run_takeDeferred hdef, ?_⟩⟩
    have hp : V'.putObj D (.deferred none) = W x0 (V'.putObj D (.deferred none)).heap V'.drawn := by
      show (⟨_, V'.tape, _, V'.os, V'.output⟩ : World) = ⟨_, x0.tape, _, x0.os, x0.out⟩
      rw [t1, t2, t3]
      rfl
    have hg := ownG (z.only k true) hh (grownBy_putObj' V' D (.deferred none)) (fun r e => by cases e; exact ⟨hD, _, hdef, rfl⟩)
    have hres := RvsOk.results (P := Tryd.prog) (fn := Tryd.f5) (fx := x0) (dr := V'.drawn) (rs := [.cell 6 4]) (vs := [.bool true]) rfl hA (RvsS.ok hg (rs := [.cell 6 4]) (vs := [.bool true]) ⟨⟨z.b6, [.bool true], 4, _, rfl, .there (.there (.there (.there (.there (.there .here))))), .inl ⟨by kernel_rfl, rfl⟩⟩, trivial⟩)
    rw [hp]
    exact ⟨_, hres, _, _, _, rfl, rfl, [], ⟨rfl, rfl⟩, Pick.nil _ m _ hg⟩
  refine wp_block ?_
  refine (wpIn_wide (n := 3)).1 (wpIn_rangeFunc_ownH (n := 3) (w0 := W ⟨x0.tape, x0.os, x0.out, []⟩ h6 d6) (N := z.ws.length) (S := fun ys => ys = z.ws) (Sp := fun pre => pre <+: z.ws) (Kp := KpW z.bx z.A' z.c' z.ws) (encs := encW) rfl (by decide) (hag6.toAg.eval rfl) trivial (fun args w => callable_spec cl24 args w)
    (each_stops (n := 1) (by rw [hz]; exact hwl) (box_of (L' := []) hs6)) (fun h1 h2 hb => h2 (h1 hb)) ?hKb (Below.refl _ _) (fun _ => rfl)
    (fun pre V => V.tape = x0.tape ∧ V.os = x0.os ∧ V.output = x0.out ∧ HS m (z.L pre.length false) V.heap)
    (fun c pre V => c = .ret ∧ V.tape = x0.tape ∧ V.os = x0.os ∧ V.output = x0.out ∧ ∃ k r, (pre <+: z.ws → r = true) ∧ HS m (z.L k r) V.heap)
    ?hI ?hIx ⟨rfl, rfl, rfl, hs6⟩
    (fun w' a' V => ∃ b k, HS m (cel b (wV w') 30 :: z.L k false) V.heap ∧ a'.defers = [] ∧ Ag 62 ((11, .pointer (some ⟨b, 0, none⟩)) :: z.E s t) a') ?hAx ?hassign ?hbody ?hdone ?hstop)
  case hKb =>
    intro V l o o' _ hl ho _ hb
    exact hb.put hl ho
  case hI =>
    rintro pre V V' row ⟨t1, t2, t3, hh⟩ hg hr
    exact ⟨hg.tape.trans t1, hg.os.trans t2, hg.output.trans t3, ownG (z.only _ _) hh hg hr⟩
  case hIx =>
    rintro c pre V V' row ⟨hc, t1, t2, t3, k, r, hkr, hh⟩ hg hr
    exact ⟨hc, hg.tape.trans t1, hg.os.trans t2, hg.output.trans t3, k, r, hkr, ownG (z.only _ _) hh hg hr⟩
  case hAx =>
    rintro x a' _ V V' row ⟨b, k, hh, hd, ha⟩ hg hr
    refine ⟨b, k, ownG (fun e he => ?_) hh hg hr, hd, ha⟩
    rcases List.mem_cons.1 he with rfl | he
    · exact cel_only _ _ _
    · exact z.only _ _ e he
  case hassign =>
    rintro l pre x V K ⟨t1, t2, t3, hh⟩ hK
    have hput := (hag6.sub (r := z.E s t) ⟨rfl, rfl, rfl, rfl, rfl, rfl, rfl, rfl, trivial⟩).put 22 (.agg (wV x).toArray) (by decide)
    refine TR_at (n := 62) (env := (22, .agg (wV x).toArray) :: z.E s t) (m := mp V.heap) (L := []) (Q0 := midQ (mp V.heap) (fun env' L' => ∃ b, L' = [cel b (wV x) 30] ∧ Sub ((11, .pointer (some ⟨b, 0, none⟩)) :: z.E s t) env') noQ) (x := ⟨V.tape, V.os, V.output, []⟩) (h := V.heap) (d := V.drawn) (W_of V)
      (TR_region rfl midQ_roomy ?_) (HS.nil (Le.refl _)) ⟨⟨by simpa [Act.put] using hput.size, by simpa [Act.put] using hput.at_⟩, rfl⟩ ?_
    · unfold Bk.E
      refine VS_step (S_alloc zl30 rfl (fun b1 => ?_)) rfl
      refine VS_step (S_storeAgg ag30 rfl rfl rfl (.here) rfl rfl ?_) rfl
      refine VS_nil ?_
      exact QS_mid _ (Pick.refl _) ⟨_, rfl, rfl, rfl, rfl, rfl, rfl, rfl, rfl, rfl, rfl, trivial⟩
    rintro e a' w' ⟨env', h', d', hag', rfl, hq⟩
    cases e with
    | normal =>
      obtain ⟨L', hs', b, rfl, hsub⟩ := hq
      exact hK a' _ ⟨mp_size hs'.base, fun k o _ hk _ => hs'.base k o hk⟩ (fun hb => hb.mono hs'.base) ⟨t1, t2, t3, hh.le hs'.base⟩ ⟨b, pre.length, hh.frame0 hs', hag'.defers, (hag'.sub hsub).toAg⟩
    | ret => exact hq.elim
    | exit i => exact hq.elim
    | goto i => exact hq.elim
    | panic c => exact hq.elim
    | outgrown => exact hq.elim
  case hbody =>
    rintro l pre x a' V hl hr ⟨t1, t2, t3, hh⟩ ⟨b, k, hA, hda, haA⟩ hlen
    have hk : k = pre.length := by
      have g1 := hh.inv (cel z.b9 [.int .i64 (pre.length : Nat)] 3) (by simp [Bk.L])
      have g2 := hA.inv (cel z.b9 [.int .i64 (k : Nat)] 3) (by simp [Bk.L])
      have g3 : (some (Obj.cells [Value.int .i64 (k : Nat)].toArray 3 (0, 0))) = some (Obj.cells [Value.int .i64 (pre.length : Nat)].toArray 3 (0, 0)) := g2.symm.trans g1
      have g4 : ((k : Nat) : Int) = (pre.length : Nat) := by simpa using g3
      omega
    subst hk
    have hAs := own_isSome (L := cel b (wV x) 30 :: z.L pre.length false) (.there (.there (.there (.there (.there (.there .here)))))) (by rw [wsV_len]; omega) V.heap hA
    have hel := wsV_at hlen
    have hT' := hT.mono hA.le_away
    have honly : ∀ e ∈ cel b (wV x) 30 :: z.L pre.length false, CellsOnly e := fun e he => by
      rcases List.mem_cons.1 he with rfl | he
      · exact cel_only _ _ _
      · exact z.only _ _ e he
    have hs0 := hA.awayL
    obtain ⟨mA, hmA⟩ : ∃ mA, mA = awayL (cel b (wV x) 30 :: z.L pre.length false) (mp V.heap) := ⟨_, rfl⟩
    rw [← hmA] at hs0 hT'
    have hws : z.ws.length ≤ 65537 := by rw [hz]; exact hwl
    refine TR_at (n := 62) (env := (11, .pointer (some ⟨b, 0, none⟩)) :: z.E s t) (m := mA) (L := cel b (wV x) 30 :: z.L pre.length false) (Q0 := fun e _ h' => match e with
        | .normal => HS mA (cel b (wV x) 30 :: z.L (pre.length + 1) false) h'
        | .ret => ∃ k r, ((pre ++ [x]) <+: z.ws → r = true) ∧ HS mA (cel b (wV x) 30 :: z.L k r) h'
        | _ => False) (x := ⟨V.tape, V.os, V.output, []⟩) (h := V.heap) (d := V.drawn) (W_of V) ?_ hs0 ⟨haA, hda⟩ ?_
    · by_cases hxe : x = z.ws[pre.length]
      · subst hxe
        refine TR_block (TR_seq (TR_seq (TR_draw (.step 0 .read (.step 1 .read (.step 2 .pure (.step 3 .pure (.step 4 .pure (.step 5 .read (.step 6 .read (.step 7 .read (.step 8 .pure (.step 9 .read (.step 10 .pure (.step 11 .pure .done)))))))))))) rfl midQ_roomy mixed (by kernel_rfl) (fun _ _ _ _ hq => hq) ?_)))
        unfold Bk.L Bk.E
        refine VTS_read rfl (S_loadB sg3 rfl (.there (.here)) rfl) rfl rfl rfl ?_
        refine VTS_read rfl (S_loadB sg22 rfl (.there (.there (.there (.there (.there (.here)))))) rfl) rfl rfl rfl ?_
        refine VTS_pure rfl (P_len il22 rfl) rfl rfl rfl ?_
        refine VTS_pure rfl (df (P_geq rfl rfl) (by first | assumption | omega | decide | exact fun hx => hx (by assumption))) rfl rfl rfl ?_
        refine VTS_pure rfl (P_move rfl) rfl rfl rfl ?_
        refine VTS_read rfl (S_loadBA ag30 rfl (.here) rfl) rfl rfl rfl ?_
        refine VTS_read rfl (S_loadB sg22 rfl (.there (.there (.there (.there (.there (.here)))))) rfl) rfl rfl rfl ?_
        refine VTS_read rfl (S_loadB sg3 rfl (.there (.here)) rfl) rfl rfl rfl ?_
        refine VTS_pure rfl (P_indexAddrN ez22 rfl rfl hAs (by omega)) rfl rfl rfl ?_
        refine VTS_read rfl (S_loadOS ag30 rfl (.there (.there (.there (.there (.there (.there (.here))))))) (by assumption) rfl) rfl rfl rfl ?_
        refine VTS_pure rfl ((df (P_structNeq (wF z.ws[pre.length]) (wF z.ws[pre.length]) fg30 rfl rfl rfl rfl) (fun h => h rfl))) rfl rfl rfl ?_
        refine VTS_pure rfl (P_pick_f rfl rfl) rfl rfl rfl ?_
        refine VTS_nil ?_
        refine QS_mid _ (Pick.refl _) (TR_false rfl (TR_skip (QS_mid _ (Pick.refl _) ?_)))
        refine TR_seq (TR_region rfl midQ_roomy ?_)
        refine VS_read (S_loadB sg3 rfl (.there (.here)) rfl) rfl rfl rfl ?_
        refine VS_pure (P_add rfl rfl (w64 (by omega) (by omega))) rfl rfl rfl ?_
        refine VS_step (S_store co3 rfl rfl rfl (.there (.here)) (.here) ?_) rfl
        refine VS_nil ?_
        refine QS_mid _ (Pick.refl _) ?_
        by_cases hn : ((pre.length : Nat) : Int) + 1 = z.n
        · refine TR_seq (TR_region rfl midQ_roomy ?_)
          refine VS_read (S_loadB sg3 rfl (.there (.here)) rfl) rfl rfl rfl ?_
          refine VS_read (S_loadB sg3 rfl (.there (.there (.there (.there (.there (.there (.there (.there (.here))))))))) rfl) rfl rfl rfl ?_
          refine VS_pure (dt (P_eql rfl rfl) (by first | assumption | rfl | omega | decide)) rfl rfl rfl ?_
          refine VS_nil ?_
          refine QS_mid _ (Pick.refl _) (TR_true rfl (TR_seq (TR_region rfl midQ_roomy ?_)))
          skip
          refine VS_step (S_callR cl8 rfl (fun m' hm he => (wakes_ok (hT'.mono hm))) rfl ?_) rfl
          rintro _ rfl
          refine VS_step (S_store co4 rfl rfl rfl (.there (.there (.there (.there (.there (.there (.there (.here)))))))) (.here) ?_) rfl
          refine VS_nil ?_
          refine QS_mid _ (Pick.refl _) (TR_ret ?_)
          exact fun h hs => ⟨pre.length + 1, true, fun _ => rfl, hs⟩
        · refine TR_seq (TR_region rfl midQ_roomy ?_)
          refine VS_read (S_loadB sg3 rfl (.there (.here)) rfl) rfl rfl rfl ?_
          refine VS_read (S_loadB sg3 rfl (.there (.there (.there (.there (.there (.there (.there (.there (.here))))))))) rfl) rfl rfl rfl ?_
          refine VS_pure (df (P_eql rfl rfl) (by first | assumption | omega | decide | exact fun hx => hx (by assumption))) rfl rfl rfl ?_
          refine VS_nil ?_
          refine QS_mid _ (Pick.refl _) (TR_false rfl (TR_skip ?_))
          exact fun h hs => hs
      · refine TR_block (TR_seq (TR_seq (TR_draw (.step 0 .read (.step 1 .read (.step 2 .pure (.step 3 .pure (.step 4 .pure (.step 5 .read (.step 6 .read (.step 7 .read (.step 8 .pure (.step 9 .read (.step 10 .pure (.step 11 .pure .done)))))))))))) rfl midQ_roomy mixed (by kernel_rfl) (fun _ _ _ _ hq => hq) ?_)))
        unfold Bk.L Bk.E
        refine VTS_read rfl (S_loadB sg3 rfl (.there (.here)) rfl) rfl rfl rfl ?_
        refine VTS_read rfl (S_loadB sg22 rfl (.there (.there (.there (.there (.there (.here)))))) rfl) rfl rfl rfl ?_
        refine VTS_pure rfl (P_len il22 rfl) rfl rfl rfl ?_
        refine VTS_pure rfl (df (P_geq rfl rfl) (by first | assumption | omega | decide | exact fun hx => hx (by assumption))) rfl rfl rfl ?_
        refine VTS_pure rfl (P_move rfl) rfl rfl rfl ?_
        refine VTS_read rfl (S_loadBA ag30 rfl (.here) rfl) rfl rfl rfl ?_
        refine VTS_read rfl (S_loadB sg22 rfl (.there (.there (.there (.there (.there (.here)))))) rfl) rfl rfl rfl ?_
        refine VTS_read rfl (S_loadB sg3 rfl (.there (.here)) rfl) rfl rfl rfl ?_
        refine VTS_pure rfl (P_indexAddrN ez22 rfl rfl hAs (by omega)) rfl rfl rfl ?_
        refine VTS_read rfl (S_loadOS ag30 rfl (.there (.there (.there (.there (.there (.there (.here))))))) (by assumption) rfl) rfl rfl rfl ?_
        refine VTS_pure rfl ((dt (P_structNeq (wF x) (wF z.ws[pre.length]) fg30 rfl rfl rfl rfl) (fun h => hxe (wF_inj h)))) rfl rfl rfl ?_
        refine VTS_pure rfl (P_pick_f rfl rfl) rfl rfl rfl ?_
        refine VTS_nil ?_
        refine QS_mid _ (Pick.refl _) (TR_true rfl (TR_seq (TR_region rfl midQ_roomy ?_)))
        refine VS_step (S_store co4 rfl rfl rfl (.there (.there (.there (.there (.there (.there (.there (.here)))))))) (.here) ?_) rfl
        refine VS_nil ?_
        refine QS_mid _ (Pick.refl _) (TR_ret ?_)
        refine fun h hs => ⟨pre.length, false, fun hp => ?_, hs⟩
        obtain ⟨u, hu⟩ := hp
        refine absurd ?_ hxe
        simp [← hu]
    · rintro e a' w' ⟨env', h', d', hag', rfl, hq⟩
      cases e with
      | normal =>
        obtain ⟨g1, g2⟩ := body_keeps (B := h6.size) (x := ⟨V.tape, V.os, V.output, []⟩) (x' := ⟨V.tape, V.os, V.output, []⟩) (d := V.drawn) (d' := d') hA (L' := cel b (wV x) 30 :: z.L (pre.length + 1) false) (by rw [hmA] at hq; exact hq) honly (fun k hk => hk)
        exact ⟨g1, fun _ => box_of (L' := [cel b (wV x) 30]) g2, t1, t2, t3, by rw [List.length_append]; exact g2.tail⟩
      | ret =>
        obtain ⟨k, r, hr, hq⟩ := hq
        obtain ⟨g1, g2⟩ := body_keeps (B := h6.size) (x := ⟨V.tape, V.os, V.output, []⟩) (x' := ⟨V.tape, V.os, V.output, []⟩) (d := V.drawn) (d' := d') hA (L' := cel b (wV x) 30 :: z.L k r) (by rw [hmA] at hq; exact hq) honly (fun k hk => hk)
        exact ⟨g1, rfl, t1, t2, t3, k, r, hr, g2.tail⟩
      | exit i => exact hq.elim
      | goto i => exact hq.elim
      | panic c => exact hq.elim
      | outgrown => exact hq.elim
  case hdone =>
    rintro D xs V hD hxs ⟨t1, t2, t3, hh⟩ hdef
    subst hxs
    have hV : V = W ⟨x0.tape, x0.os, x0.out, [{ target := .collected D, args := #[] }]⟩ V.heap V.drawn := by
      show (⟨_, V.tape, _, V.os, V.output⟩ : World) = ⟨_, x0.tape, _, x0.os, x0.out⟩
      rw [t1, t2, t3]
    have hs0 := hh.awayL
    have hT' := hT.mono hh.le_away
    have hDA : awayL (z.L z.ws.length false) (mp V.heap) D = some (.deferred (some [])) := by
      unfold awayL
      rw [if_neg]
      · exact hdef
      · intro ha
        obtain ⟨e, he, hdk⟩ := List.any_eq_true.1 ha
        obtain ⟨o', h1, h2⟩ := z.only _ _ e he _ D (hh.inv e he) hdk
        rw [show mp V.heap D = some (.deferred (some [])) from hdef] at h1
        cases h1
        cases h2
    obtain ⟨mA, hmA⟩ : ∃ mA, mA = awayL (z.L z.ws.length false) (mp V.heap) := ⟨_, rfl⟩
    have hle := hh.le_away
    rw [← hmA] at hs0 hT' hDA hle
    have hws : z.ws.length ≤ 65537 := by rw [hz]; exact hwl
    refine at_W hV (fun a' hag' => ?_) (n := 62) (env := z.E s t) ⟨⟨hag6.size, (hag6.toAg.sub (r := z.E s t) ⟨rfl, rfl, rfl, rfl, rfl, rfl, rfl, rfl, trivial⟩).at_⟩, congrArg (_ :: ·) hag6.defers⟩
    refine wp_at (m := mA) (L := z.L z.ws.length false) (Q0 := fun e env h' => e = .ret ∧ Sub [(6, .pointer (some ⟨z.b6, 0, none⟩))] env ∧ HS mA (z.L z.ws.length true) h') ?_ hs0 hag' ?_
    · unfold Bk.L Bk.E
      have F1 : ∀ m', Le mA m' → CS Tryd.prog 10 [.string (bs t)] m' [] (Gives (.bool (ownP t))) := fun m' hm => Own_ok (hT'.mono hm) t
      have F2 : ∀ m', Le mA m' → CS Tryd.prog 11 [.string (bs t)] m' [] (Gives (.bool (ownP t))) := fun m' hm => OwnR_ok t
      have F3 : ∀ m', Le mA m' → CS Tryd.prog 12 [.string (bs t)] m' [] (Gives (.bool (nameP t))) := fun m' hm => Name_ok (hT'.mono hm) (by omega)
      have F4 : ∀ m', Le mA m' → CS Tryd.prog 13 [.string (bs t)] m' [] (Gives (.bool (nameP t))) := fun m' hm => NameR_ok (by omega)
      cases h1 : ownP t
      · rw [h1] at F1 F2
        cases h2 : nameP t
        · rw [h2] at F3 F4
          refine TS_seq ?_
          refine TS_region ?_
          refine VS_read (S_loadB sg3 rfl (.here) rfl) rfl rfl rfl ?_
          refine VS_read (S_loadB sg22 rfl (.there (.there (.there (.there (.here))))) rfl) rfl rfl rfl ?_
          refine VS_pure (P_len il22 rfl) rfl rfl rfl ?_
          refine VS_pure (dt (P_eql rfl rfl) (by first | assumption | rfl | omega | decide)) rfl rfl rfl ?_
          refine VS_pure (P_move rfl) rfl rfl rfl ?_
          refine VS_pure (P_move rfl) rfl rfl rfl ?_
          refine VS_step (S_callR cl10 rfl (fun m' hm he => (F1 _ hm)) rfl ?_) rfl
          rintro _ rfl
          refine VS_pure (P_move rfl) rfl rfl rfl ?_
          refine VS_step (S_callR cl11 rfl (fun m' hm he => (F2 _ hm)) rfl ?_) rfl
          rintro _ rfl
          refine VS_pure (P_beql bo4 rfl rfl) rfl rfl rfl ?_
          refine VS_pure (P_pick_t rfl rfl) rfl rfl rfl ?_
          refine VS_pure (P_move rfl) rfl rfl rfl ?_
          refine VS_pure (P_move rfl) rfl rfl rfl ?_
          refine VS_step (S_callR cl12 rfl (fun m' hm he => (F3 _ hm)) rfl ?_) rfl
          rintro _ rfl
          refine VS_pure (P_move rfl) rfl rfl rfl ?_
          refine VS_step (S_callR cl13 rfl (fun m' hm he => (F4 _ hm)) rfl ?_) rfl
          rintro _ rfl
          refine VS_pure (P_beql bo4 rfl rfl) rfl rfl rfl ?_
          refine VS_pure (P_pick_t rfl rfl) rfl rfl rfl ?_
          refine VS_pure (P_move rfl) rfl rfl rfl ?_
          refine VS_step (S_callR cl8 rfl (fun m' hm he => (wakes_ok (hT'.mono hm))) rfl ?_) rfl
          rintro _ rfl
          refine VS_pure (P_pick_t rfl rfl) rfl rfl rfl ?_
          refine VS_step (S_store co4 rfl rfl rfl (.there (.there (.there (.there (.there (.there (.here))))))) (.here) ?_) rfl
          refine VS_nil ?_
          refine QS_then ?_
          refine TS_ret ?_
          exact fun h hs => ⟨rfl, ⟨rfl, trivial⟩, hs⟩
        · rw [h2] at F3 F4
          refine TS_seq ?_
          refine TS_region ?_
          refine VS_read (S_loadB sg3 rfl (.here) rfl) rfl rfl rfl ?_
          refine VS_read (S_loadB sg22 rfl (.there (.there (.there (.there (.here))))) rfl) rfl rfl rfl ?_
          refine VS_pure (P_len il22 rfl) rfl rfl rfl ?_
          refine VS_pure (dt (P_eql rfl rfl) (by first | assumption | rfl | omega | decide)) rfl rfl rfl ?_
          refine VS_pure (P_move rfl) rfl rfl rfl ?_
          refine VS_pure (P_move rfl) rfl rfl rfl ?_
          refine VS_step (S_callR cl10 rfl (fun m' hm he => (F1 _ hm)) rfl ?_) rfl
          rintro _ rfl
          refine VS_pure (P_move rfl) rfl rfl rfl ?_
          refine VS_step (S_callR cl11 rfl (fun m' hm he => (F2 _ hm)) rfl ?_) rfl
          rintro _ rfl
          refine VS_pure (P_beql bo4 rfl rfl) rfl rfl rfl ?_
          refine VS_pure (P_pick_t rfl rfl) rfl rfl rfl ?_
          refine VS_pure (P_move rfl) rfl rfl rfl ?_
          refine VS_pure (P_move rfl) rfl rfl rfl ?_
          refine VS_step (S_callR cl12 rfl (fun m' hm he => (F3 _ hm)) rfl ?_) rfl
          rintro _ rfl
          refine VS_pure (P_move rfl) rfl rfl rfl ?_
          refine VS_step (S_callR cl13 rfl (fun m' hm he => (F4 _ hm)) rfl ?_) rfl
          rintro _ rfl
          refine VS_pure (P_beql bo4 rfl rfl) rfl rfl rfl ?_
          refine VS_pure (P_pick_t rfl rfl) rfl rfl rfl ?_
          refine VS_pure (P_move rfl) rfl rfl rfl ?_
          refine VS_step (S_callR cl8 rfl (fun m' hm he => (wakes_ok (hT'.mono hm))) rfl ?_) rfl
          rintro _ rfl
          refine VS_pure (P_pick_t rfl rfl) rfl rfl rfl ?_
          refine VS_step (S_store co4 rfl rfl rfl (.there (.there (.there (.there (.there (.there (.here))))))) (.here) ?_) rfl
          refine VS_nil ?_
          refine QS_then ?_
          refine TS_ret ?_
          exact fun h hs => ⟨rfl, ⟨rfl, trivial⟩, hs⟩
      · rw [h1] at F1 F2
        cases h2 : nameP t
        · rw [h2] at F3 F4
          refine TS_seq ?_
          refine TS_region ?_
          refine VS_read (S_loadB sg3 rfl (.here) rfl) rfl rfl rfl ?_
          refine VS_read (S_loadB sg22 rfl (.there (.there (.there (.there (.here))))) rfl) rfl rfl rfl ?_
          refine VS_pure (P_len il22 rfl) rfl rfl rfl ?_
          refine VS_pure (dt (P_eql rfl rfl) (by first | assumption | rfl | omega | decide)) rfl rfl rfl ?_
          refine VS_pure (P_move rfl) rfl rfl rfl ?_
          refine VS_pure (P_move rfl) rfl rfl rfl ?_
          refine VS_step (S_callR cl10 rfl (fun m' hm he => (F1 _ hm)) rfl ?_) rfl
          rintro _ rfl
          refine VS_pure (P_move rfl) rfl rfl rfl ?_
          refine VS_step (S_callR cl11 rfl (fun m' hm he => (F2 _ hm)) rfl ?_) rfl
          rintro _ rfl
          refine VS_pure (P_beql bo4 rfl rfl) rfl rfl rfl ?_
          refine VS_pure (P_pick_t rfl rfl) rfl rfl rfl ?_
          refine VS_pure (P_move rfl) rfl rfl rfl ?_
          refine VS_pure (P_move rfl) rfl rfl rfl ?_
          refine VS_step (S_callR cl12 rfl (fun m' hm he => (F3 _ hm)) rfl ?_) rfl
          rintro _ rfl
          refine VS_pure (P_move rfl) rfl rfl rfl ?_
          refine VS_step (S_callR cl13 rfl (fun m' hm he => (F4 _ hm)) rfl ?_) rfl
          rintro _ rfl
          refine VS_pure (P_beql bo4 rfl rfl) rfl rfl rfl ?_
          refine VS_pure (P_pick_t rfl rfl) rfl rfl rfl ?_
          refine VS_pure (P_move rfl) rfl rfl rfl ?_
          refine VS_step (S_callR cl8 rfl (fun m' hm he => (wakes_ok (hT'.mono hm))) rfl ?_) rfl
          rintro _ rfl
          refine VS_pure (P_pick_t rfl rfl) rfl rfl rfl ?_
          refine VS_step (S_store co4 rfl rfl rfl (.there (.there (.there (.there (.there (.there (.here))))))) (.here) ?_) rfl
          refine VS_nil ?_
          refine QS_then ?_
          refine TS_ret ?_
          exact fun h hs => ⟨rfl, ⟨rfl, trivial⟩, hs⟩
        · rw [h2] at F3 F4
          refine TS_seq ?_
          refine TS_region ?_
          refine VS_read (S_loadB sg3 rfl (.here) rfl) rfl rfl rfl ?_
          refine VS_read (S_loadB sg22 rfl (.there (.there (.there (.there (.here))))) rfl) rfl rfl rfl ?_
          refine VS_pure (P_len il22 rfl) rfl rfl rfl ?_
          refine VS_pure (dt (P_eql rfl rfl) (by first | assumption | rfl | omega | decide)) rfl rfl rfl ?_
          refine VS_pure (P_move rfl) rfl rfl rfl ?_
          refine VS_pure (P_move rfl) rfl rfl rfl ?_
          refine VS_step (S_callR cl10 rfl (fun m' hm he => (F1 _ hm)) rfl ?_) rfl
          rintro _ rfl
          refine VS_pure (P_move rfl) rfl rfl rfl ?_
          refine VS_step (S_callR cl11 rfl (fun m' hm he => (F2 _ hm)) rfl ?_) rfl
          rintro _ rfl
          refine VS_pure (P_beql bo4 rfl rfl) rfl rfl rfl ?_
          refine VS_pure (P_pick_t rfl rfl) rfl rfl rfl ?_
          refine VS_pure (P_move rfl) rfl rfl rfl ?_
          refine VS_pure (P_move rfl) rfl rfl rfl ?_
          refine VS_step (S_callR cl12 rfl (fun m' hm he => (F3 _ hm)) rfl ?_) rfl
          rintro _ rfl
          refine VS_pure (P_move rfl) rfl rfl rfl ?_
          refine VS_step (S_callR cl13 rfl (fun m' hm he => (F4 _ hm)) rfl ?_) rfl
          rintro _ rfl
          refine VS_pure (P_beql bo4 rfl rfl) rfl rfl rfl ?_
          refine VS_pure (P_pick_t rfl rfl) rfl rfl rfl ?_
          refine VS_pure (P_move rfl) rfl rfl rfl ?_
          refine VS_step (S_callR cl8 rfl (fun m' hm he => (wakes_ok (hT'.mono hm))) rfl ?_) rfl
          rintro _ rfl
          refine VS_pure (P_pick_t rfl rfl) rfl rfl rfl ?_
          refine VS_step (S_store co4 rfl rfl rfl (.there (.there (.there (.there (.there (.there (.here))))))) (.here) ?_) rfl
          refine VS_nil ?_
          refine QS_then ?_
          refine TS_ret ?_
          exact fun h hs => ⟨rfl, ⟨rfl, trivial⟩, hs⟩
    · rintro e a2 w2 ⟨env2, h2, d2, hag2, rfl, rfl, hsub, hs2⟩
      exact fin a2 _ D z.ws.length hD hag2.defers (hag2.toAg.sub hsub) rfl rfl rfl (hs2.weak hle) (hs2.base D _ hDA)
  case hstop =>
    rintro D c pre V hD hpre ⟨rfl, t1, t2, t3, k, r, hkr, hh⟩ hdef
    have hr := hkr hpre
    subst hr
    refine wpIn_ret ?_
    exact fin _ V D k hD (congrArg (_ :: ·) hag6.defers) ⟨hag6.size, (hag6.toAg.sub (r := [(6, .pointer (some ⟨z.b6, 0, none⟩))]) ⟨rfl, trivial⟩).at_⟩ t1 t2 t3 hh hdef
end Go.Proofs.YtigfdclopkagmaaDoor
