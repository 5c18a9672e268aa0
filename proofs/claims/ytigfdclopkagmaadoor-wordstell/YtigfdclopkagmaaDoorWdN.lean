/- A part of the proof: contracts of functions of the program. No condition. -/
import Derived.Test.YtigfdclopkagmaaDoorWdM
import Derived.Test.YtigfdclopkagmaaDoorEng2
namespace Go.Proofs.YtigfdclopkagmaaDoor
open Go.Eng Wd Go.RowKit
/-- what the closure reads -/
def Box (bx : Nat) (A : Option Addr) (c : Nat) (ws : List Wrd) (h : Heap) : Prop := mc (mp h) ⟨bx, 0, none⟩ = some (.slice A ws.length c) ∧ Go.Eng.Own (mp h) 30 4 A ws.length c (wsV ws)
theorem Box.mono {bx c : Nat} {A : Option Addr} {ws : List Wrd} {h h' : Heap} (hb : Box bx A c ws h) (hl : Le (mp h) (mp h')) : Box bx A c ws h' := ⟨mc_mono hl hb.1, hb.2.mono hl⟩
abbrev encW (w : Wrd) : Array Value := #[.agg (wV w).toArray]
def KpW (bx : Nat) (A : Option Addr) (c : Nat) (ws : List Wrd) (V W : World) : Prop := Box bx A c ws V.heap → Box bx A c ws W.heap
def ev24 (l bx : Nat) (A : Option Addr) (c : Nat) (ws : List Wrd) (k : Nat) : Env := [(0, .func (.yield l) #[] #[]), (1, .pointer (some ⟨bx, 0, none⟩)), (5, .slice A ws.length c), (6, .int .i64 (ws.length : Nat)), (7, .int .i64 (k : Nat))]
def slotN (a : Act) : Nat := match a.tmps[7]? with
  | some (Value.int _ n) => n.toNat
  | _ => 0
set_option maxHeartbeats 8000000 in
theorem each_stops {n bx c : Nat} {A : Option Addr} {ws : List Wrd} {w : World} (hl : ws.length ≤ 65537) (hb : Box bx A c ws w.heap) :
    SeqStopsK Fence.wide (n + 1) Tryd.prog 24 #[.pointer (some ⟨bx, 0, none⟩)] encW (KpW bx A c ws) (fun ys => ys = ws) (fun pre => pre <+: ws) ws.length w := fun l J Jx W0 hB hJ hJx hY h0 => by
  have hE0 : Box bx A c ws W0.heap := hb.mono (fun k o hk => by
    have hlt : k < w.heap.size := (Array.getElem?_eq_some_iff.1 hk).1
    exact (hB.block k hlt).trans hk)
  have hJ' : ∀ {s : List Wrd} {x : Fx} {h h' : Heap} {d d' : Nat}, J s (W x h d) → Le (mp h) (mp h') → J s (W x h' d') := fun hs hle => hJ _ _ _ none hs (grown_of hle none) (fun r e => by cases e)
  rw [show (#[Value.func (.yield l) #[] #[]] ++ #[.pointer (some ⟨bx, 0, none⟩)] : Array Value) = [Value.func (.yield l) #[] #[], .pointer (some ⟨bx, 0, none⟩)].toArray from rfl]
  refine callsIn_wide.2 (calls_of_wp Tryd.func24 rfl ?_)
  refine at_W (W_of W0) (fun a hag => ?_) (agD0 (by show 2 ≤ 16; decide))
  have hm0 := hE0.1
  refine wp_seq_T (m := mp W0.heap) (L := []) (K := fun env' L' => L' = [] ∧ Sub (ev24 l bx A c ws 0) env') ?_ (HS.nil (Le.refl _)) hag ?_
  · refine TS_region ?_
    refine VS_read (S_load sg22 rfl hm0) rfl rfl rfl ?_
    refine VS_pure (P_len il22 rfl) rfl rfl rfl ?_
    refine VS_pure (P_move rfl) rfl rfl rfl ?_
    refine VS_nil ?_
    exact QS_mid [] (Pick.nil _) ⟨rfl, rfl, rfl, rfl, rfl, rfl, trivial⟩
  rintro env1 _ h1 d1 a1 ⟨rfl, hsub⟩ hs1 hag1
  refine wp_block ?_
  refine wp_loop (fun a V => ∃ (x : Fx) (h : Heap) (d k : Nat), x.ds = [] ∧ AgD 16 x (ev24 l bx A c ws k) a ∧ V = W x h d ∧ Box bx A c ws h ∧ k ≤ ws.length ∧ J (ws.take k) V)
    (fun a _ => ws.length - (slotN a)) ⟨_, h1, d1, 0, rfl, hag1.sub hsub, rfl, hE0.mono hs1.base, Nat.zero_le _, hJ' (x := ⟨W0.tape, W0.os, W0.output, []⟩) (d := W0.drawn) h0 hs1.base⟩ ?_
  clear hag hag1 hsub hs1 hm0
  rintro a _ ⟨x, h, d, k, hds, hag, rfl, hbx, hk, hJk⟩
  have slot : ∀ {a : Act} {x : Fx} {k : Nat}, AgD 16 x (ev24 l bx A c ws k) a → slotN a = k := fun h => by unfold slotN; rw [h.at_ 7 _ rfl]; rfl
  have hrun : ∀ (a : Act) (w : World), (results Tryd.f24 a.tmps).run Tryd.prog w = .ok (tup []) w := fun a w => results_run (rs := []) rfl _ _
  by_cases hlt : k < ws.length
  · refine wp_seq_T (m := mp h) (L := []) (K := fun env' L' => L' = [] ∧ Sub ((8, .bool true) :: ev24 l bx A c ws k) env') ?_ (HS.nil (Le.refl _)) hag ?_
    · unfold ev24
      refine TS_region ?_
      refine VS_pure (dt (P_lss rfl rfl) (by first | assumption | rfl | omega | decide)) rfl rfl rfl ?_
      refine VS_nil ?_
      exact QS_mid [] (Pick.nil _) ⟨rfl, rfl, rfl, rfl, rfl, rfl, rfl, trivial⟩
    rintro env1 _ h1 d1 a1 ⟨rfl, hsub⟩ hs1 hag1
    have hJ1 := hJ' (d' := d1) hJk hs1.base
    have hb1 := hbx.mono hs1.base
    have hag1 := hag1.sub hsub
    refine wp_seq (wp_cond_true (hag1.toAg.eval rfl) (wp_skip ?_))
    refine wp_seq (wp_block ?_)
    have hA := own_isSome (m := fun _ => none) (L := [own 30 4 A ws.length c (wsV ws)]) .here (by rw [wsV_len]; omega) h1 (HS.cons_iff.2 ⟨HS.nil (fun _ _ e => by cases e), hb1.2, fun _ _ => rfl, fun _ h => by cases h⟩)
    have hel : At (mp h1) ((sa A).add (k * 4)) (wV ws[k]) := by
      have := hb1.2.rd.elem (k * 4) 4
      rwa [wsV_at hlt] at this
    refine wp_seq_T (m := mp h1) (L := []) (K := fun env' L' => ∃ b, L' = [cel b (wV ws[k]) 30] ∧ Sub ((4, .pointer (some ⟨b, 0, none⟩)) :: ev24 l bx A c ws k) env') ?_ (HS.nil (Le.refl _)) hag1 ?_
    · unfold ev24
      refine TS_region ?_
      refine VS_pure (P_indexAddrN ez22 rfl rfl hA (by omega)) rfl rfl rfl ?_
      refine VS_read (S_loadAt ag30 rfl rfl hel) rfl rfl rfl ?_
      refine VS_step (S_alloc zl30 rfl (fun b1 => ?_)) rfl
      refine VS_step (S_storeAgg ag30 rfl rfl rfl (.here) rfl rfl ?_) rfl
      refine VS_nil ?_
      exact QS_mid [cel b1 (wV ws[k]) 30] (Pick.refl _) ⟨b1, rfl, rfl, rfl, rfl, rfl, rfl, rfl, trivial⟩
    rintro env2 _ h2 d2 a2 ⟨b, rfl, hsub2⟩ hs2 hag2
    have hJ2 := hJ' (d' := d2) hJ1 hs2.base
    have hb2 := hb1.mono hs2.base
    have hag2 := hag2.sub hsub2
    refine wp_seq (wpIn_wide (n := n + 1).1 (wpIn_region_lit ?_))
    refine LI_pure (P_move rfl) rfl rfl hag2 ?_
    have hag3 := hag2.put 11 (.func (.yield l) #[] #[]) (by decide)
    refine LI_read (R_loadAt ag30 rfl rfl (At.blk hs2.head)) rfl rfl hag3 (Le.refl _) ?_
    have hag4 := hag3.put 12 (.agg (wV ws[k]).toArray) (by decide)
    refine LI_yield rfl rfl rfl hag4 (hY _ ws[k] _ hJ2 (by rw [List.length_take]; omega)) ?_
    rintro e W3 (⟨rfl, hJ3, hk3⟩ | ⟨rfl, hJ3⟩)
    · refine ⟨_, rfl, ?_⟩
      have hag5 := hag4.put 13 (.bool true) (by decide)
      refine LI_pure (P_not rfl) rfl rfl hag5 (wpListIn_nil ?_)
      have hag6 := hag5.put 14 (.bool (!true)) (by decide)
      refine wp_cond_false (hag6.toAg.eval rfl) (wp_skip ?_)
      have hag7 := (hag6.re (x' := ⟨W3.tape, W3.os, W3.output, []⟩) hds).sub (r := ev24 l bx A c ws k) ⟨rfl, rfl, rfl, rfl, rfl, trivial⟩
      refine at_W (W_of W3) (fun a3 hag3 => ?_) hag7
      refine wp_T (m := mp W3.heap) (L := []) (K := fun env' L' => L' = [] ∧ Sub (ev24 l bx A c ws (k + 1)) env') ?_ (HS.nil (Le.refl _)) hag3 ?_
      · unfold ev24
        refine TS_region ?_
        refine VS_pure (P_add rfl rfl (w64 (by omega) (by omega))) rfl rfl rfl ?_
        refine VS_pure (P_move rfl) rfl rfl rfl ?_
        refine VS_nil ?_
        exact QS_mid [] (Pick.nil _) ⟨rfl, rfl, rfl, rfl, rfl, rfl, trivial⟩
      rintro env4 _ h4 d4 a4 ⟨rfl, hsub4⟩ hs4 hag8
      have hag8 := hag8.sub hsub4
      refine ⟨⟨_, h4, d4, k + 1, rfl, hag8, rfl, (hk3 hb2).mono hs4.base, hlt, ?_⟩, ?_⟩
      · rw [List.take_succ_eq_append_getElem hlt]
        exact hJ' (x := ⟨W3.tape, W3.os, W3.output, []⟩) (d := W3.drawn) hJ3 hs4.base
      · rw [slot hag8, slot hag]; omega
    · refine ⟨_, rfl, ?_⟩
      have hag5 := hag4.put 13 (.bool false) (by decide)
      refine LI_pure (P_not rfl) rfl rfl hag5 (wpListIn_nil ?_)
      have hag6 := hag5.put 14 (.bool (!false)) (by decide)
      refine wp_cond_true (hag6.toAg.eval rfl) (wp_ret ?_)
      exact ⟨hag6.defers.trans hds, _, hrun _ _, ⟨_, rfl⟩, .inr ⟨_, List.take_prefix (k + 1) _, by rw [List.take_succ_eq_append_getElem hlt]; exact hJ3⟩⟩
  · refine wp_seq_T (m := mp h) (L := []) (K := fun env' L' => L' = [] ∧ Sub ((8, .bool false) :: ev24 l bx A c ws k) env') ?_ (HS.nil (Le.refl _)) hag ?_
    · unfold ev24
      refine TS_region ?_
      refine VS_pure (df (P_lss rfl rfl) (by first | assumption | omega | decide | exact fun hx => hx (by assumption))) rfl rfl rfl ?_
      refine VS_nil ?_
      exact QS_mid [] (Pick.nil _) ⟨rfl, rfl, rfl, rfl, rfl, rfl, rfl, trivial⟩
    rintro env1 _ h1 d1 a1 ⟨rfl, hsub⟩ hs1 hag1
    have hJ1 := hJ' (d' := d1) hJk hs1.base
    have hag1 := hag1.sub hsub
    refine wp_seq (wp_cond_false (hag1.toAg.eval rfl) (wp_exit ?_))
    refine ⟨hag1.defers.trans hds, _, hrun _ _, ⟨_, rfl⟩, .inl ⟨_, rfl, ?_⟩⟩
    rwa [List.take_of_length_le (by omega)] at hJ1
end Go.Proofs.YtigfdclopkagmaaDoor
