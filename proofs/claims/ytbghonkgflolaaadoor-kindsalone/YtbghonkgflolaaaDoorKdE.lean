/- A part of the proof: contracts of functions of the program. No condition. -/
import Derived.Test.YtbghonkgflolaaaDoorKdD
namespace Go.Proofs.YtbghonkgflolaaaDoor
open Go.Eng Kd
set_option maxRecDepth 100000
/-- all effects of a card -/
def kidsC (x : CardT) : List PartT := x.played.map .eff ++ x.dead.map .eff ++ x.dawn.map .eff
theorem kidsC_len (x : CardT) : (kidsC x).length = x.played.length + x.dead.length + x.dawn.length := by simp [kidsC]; omega
theorem kidsC0 {x : CardT} {j : Nat} (h : j < x.played.length) : (kidsC x)[0 + j]'(by rw [kidsC_len]; omega) = .eff x.played[j] := by
  simp only [kidsC, Nat.zero_add]
  rw [List.getElem_append_left (by simp; omega), List.getElem_append_left (by simp; omega), List.getElem_map]
theorem kidsC1 {x : CardT} {j : Nat} (h : j < x.dead.length) : (kidsC x)[x.played.length + j]'(by rw [kidsC_len]; omega) = .eff x.dead[j] := by
  simp only [kidsC]
  rw [List.getElem_append_left (by simp; omega), List.getElem_append_right (by simp), List.getElem_map]
  simp
theorem kidsC2 {x : CardT} {j : Nat} (h : j < x.dawn.length) : (kidsC x)[x.played.length + x.dead.length + j]'(by rw [kidsC_len]; omega) = .eff x.dawn[j] := by
  simp only [kidsC]
  rw [List.getElem_append_right (by simp), List.getElem_map]
  simp
def offC (x : CardT) : Nat → Nat
  | 0 => 0
  | 1 => x.played.length
  | 2 => x.played.length + x.dead.length
  | _ => x.played.length + x.dead.length + x.dawn.length
set_option maxHeartbeats 32000000 in
theorem all_ok {σ : Type} {g : Nat} {q : List Value} {E : σ → Ent} {f : PartT → σ → σ × Bool} {I : σ → Prop} {m : Mp} (hI : ∀ p s, I s → (f p s).2 = true → I (f p s).1) (hcl : callable Tryd.prog g = true)
    (hsee : ∀ m', Le m m' → ∀ v p s, I s → PartR m' v p → CS Tryd.prog g (([] ++ [v]) ++ q) m' [E s] (fun v' L' => v' = .bool (f p s).2 ∧ L' = [E (f p s).1])) {x : CardT} {l : List PartT} (hF : FlatL (kidsC x) l) (hlen : l.length ≤ 3999)
    {a : Addr} {cs : List Value} (hat : At m a cs) (hx : CardR m cs x) (s : σ) (hs : I s) : CS Tryd.prog 17 [.pointer (some a), .func (.func g) #[] q.toArray] m [E s] (fun v' L' => v' = U0 ∧ L' = [E (goL f l s).1]) := by
  obtain ⟨ls, hl, hk, rfl⟩ := hF
  obtain ⟨hkn, hkm⟩ := flat_lens hl hk
  have hE := fun i (h : i < ls.length) => each_ok hI hcl hsee (hk i (by omega)) (by have := hkm i h; omega)
  obtain ⟨A, la, ca, B, lb, cb, D, ld, cd, rfl, _, hp, hd, hw, _⟩ := hx
  obtain ⟨rfl, hp2, pvs, hp3, hp4, hp5⟩ := hp
  obtain ⟨rfl, hd2, dvs, hd3, hd4, hd5⟩ := hd
  obtain ⟨rfl, hw2, wvs, hw3, hw4, hw5⟩ := hw
  have hkl := kidsC_len x
  clear hsee hcl hk hkm
  refine CS_of [] Tryd.func17 rfl rfl rfl ?_
  refine TS_seq ?_
  refine TS_draw (.step 0 .pure (.step 1 .pure (.step 2 .pure (.step 4 .pure (.step 5 .pure (.step 6 .pure (.step 8 .pure (.step 9 .pure (.step 10 .pure (.step 13 .pure (.step 3 .read (.step 7 .read (.step 11 .read (.step 12 .pure (.done))))))))))))))) mixed (by kernel_rfl) (fun _ _ _ _ hq => hq) ?_
  refine VTS_pure rfl (P_move rfl) rfl rfl rfl ?_
  refine VTS_pure rfl (P_nilCheck rfl) rfl rfl rfl ?_
  refine VTS_pure rfl (P_fieldAddr fo31_8 rfl) rfl rfl rfl ?_
  refine VTS_pure rfl (P_move rfl) rfl rfl rfl ?_
  refine VTS_pure rfl (P_nilCheck rfl) rfl rfl rfl ?_
  refine VTS_pure rfl (P_fieldAddr fo31_9 rfl) rfl rfl rfl ?_
  refine VTS_pure rfl (P_move rfl) rfl rfl rfl ?_
  refine VTS_pure rfl (P_nilCheck rfl) rfl rfl rfl ?_
  refine VTS_pure rfl (P_fieldAddr fo31_10 rfl) rfl rfl rfl ?_
  refine VTS_pure rfl (P_move rfl) rfl rfl rfl ?_
  iterate 3 (refine VTS_read rfl (S_load sg29 rfl (hat.at_ rfl)) rfl rfl rfl ?_)
  refine VTS_pure rfl (P_buildArr ar80 zl80 rfl rfl) rfl rfl rfl ?_
  refine VTS_nil ?_
  refine QS_then ?_
  refine TS_block ?_
  refine TS_loop (α := Nat × σ) (fun y => [(1, .func (.func g) #[] q.toArray), (19, .agg [.slice A x.played.length ca, .slice B x.dead.length cb, .slice D x.dawn.length cd].toArray), (20, .int .i64 (y.1 : Nat))]) (fun y => [E y.2]) (fun y => y.1 ≤ 3 ∧ goL f (ls.take (offC x y.1)).flatten s = (y.2, true)) (fun y => 3 - y.1) (0, s) ⟨rfl, rfl, rfl, trivial⟩ (Pick.refl _) ⟨by dsimp only; omega, rfl⟩ ?_
  rintro ⟨k, s2⟩ ⟨hk3, hg2⟩
  dsimp only at hk3 hg2 ⊢
  match k, hk3, hg2 with
  | 0, _, hg2 =>
    have hg2' : goL f (ls.take (0 + 0)).flatten s = (s2, true) := hg2
    refine TS_seq ?_
    refine TS_region ?_
    refine VS_pure (dt (P_lss rfl rfl) (by omega)) rfl rfl rfl ?_
    refine VS_nil ?_
    refine QS_then ?_
    refine TS_seq ?_
    refine TS_true rfl ?_
    refine TS_skip ?_
    refine QS_then ?_
    refine TS_seq ?_
    refine TS_block ?_
    refine TS_seq ?_
    refine TS_region ?_
    refine VS_pure (P_index1 ar80 ars80 rfl rfl (by omega) (by omega) rfl) rfl rfl rfl ?_
    refine VS_pure (P_assign rfl) rfl rfl rfl ?_
    refine VS_nil ?_
    refine QS_then ?_
    refine TS_seq ?_
    refine TS_region ?_
    refine VS_pure (P_move rfl) rfl rfl rfl ?_
    refine VS_pure (P_len il29 rfl) rfl rfl rfl ?_
    refine VS_pure (P_move rfl) rfl rfl rfl ?_
    refine VS_nil ?_
    refine QS_then ?_
    refine TS_block ?_
    refine TS_loop (α := Nat × σ) (fun y => [(1, .func (.func g) #[] q.toArray), (19, .agg [.slice A x.played.length ca, .slice B x.dead.length cb, .slice D x.dawn.length cd].toArray), (20, .int .i64 0), (5, .slice A x.played.length ca), (24, .int .i64 (x.played.length : Nat)), (25, .int .i64 (y.1 : Nat))]) (fun y => [E y.2]) (fun y => y.1 ≤ x.played.length ∧ goL f (ls.take (0 + y.1)).flatten s = (y.2, true)) (fun y => x.played.length - y.1) (0, s2) ⟨rfl, rfl, rfl, rfl, rfl, rfl, trivial⟩ (Pick.refl _) ⟨Nat.zero_le _, hg2'⟩ ?_
    rintro ⟨j, s3⟩ ⟨hj, hg3⟩
    dsimp only at hj hg3 ⊢
    by_cases hlt : j < x.played.length
    · have hA : A.isSome = true := hp3.isSome (by omega)
      have hpe := PartR.eff (hp3.elem (j * 14) 14) (hp5 j hlt)
      rw [← kidsC0 hlt] at hpe
      have hgn := goL_next (f := f) (ls := ls) (i := 0 + j) (by omega) s (by rw [hg3])
      rw [hg3] at hgn
      dsimp only at hgn
      have hc := fun m1 (hm : Le m m1) => hE (0 + j) (by omega) m1 hm _ (hpe.mono hm) s3 (by have := goL_inv hI (l := (ls.take (0 + j)).flatten) hs (by rw [hg3]); rw [hg3] at this; exact this)
      generalize hgq : goL f (ls[0 + j]'(by omega)) s3 = gq at hgn hc
      obtain ⟨s4, b4⟩ := gq
      dsimp only at hc
      refine TS_seq ?_
      refine TS_region ?_
      refine VS_pure (dt (P_lss rfl rfl) (by omega)) rfl rfl rfl ?_
      refine VS_nil ?_
      refine QS_then ?_
      refine TS_seq ?_
      refine TS_true rfl ?_
      refine TS_skip ?_
      refine QS_then ?_
      refine TS_seq ?_
      refine TS_block ?_
      refine TS_seq ?_
      refine TS_region ?_
      refine VS_pure (P_move rfl) rfl rfl rfl ?_
      refine VS_pure (P_assign rfl) rfl rfl rfl ?_
      refine VS_nil ?_
      refine QS_then ?_
      refine TS_seq ?_
      refine TS_region ?_
      refine VS_pure (P_move rfl) rfl rfl rfl ?_
      refine VS_pure (P_move rfl) rfl rfl rfl ?_
      refine VS_pure (P_indexAddrN ez29 rfl rfl hA (by omega)) rfl rfl rfl ?_
      refine VS_pure (P_build zl62 pl62 rfl rfl) rfl rfl rfl ?_
      refine VS_pure (P_mkIface ni62 us62 rfl) rfl rfl rfl ?_
      refine VS_pure (P_move rfl) rfl rfl rfl ?_
      refine VS_step ((S_call1 cl34 rfl .here (fun m1 hm he => hc m1 hm) rfl ?_)) rfl
      rintro _ _ ⟨rfl, rfl⟩
      cases b4 with
      | true =>
        refine VS_pure (P_not rfl) rfl rfl rfl ?_
        refine VS_nil ?_
        refine QS_then ?_
        refine TS_false rfl ?_
        refine TS_skip ?_
        refine QS_block ?_
        refine QS_then ?_
        refine TS_region ?_
        refine VS_pure (P_add rfl rfl (w64 (by omega) (by omega))) rfl rfl rfl ?_
        refine VS_pure (P_move rfl) rfl rfl rfl ?_
        refine VS_nil ?_
        exact QS_round (j + 1, s4) ⟨rfl, rfl, rfl, rfl, rfl, rfl, trivial⟩ (Pick.refl _) ⟨hlt, hgn⟩ (by dsimp only; omega)
      | false =>
        have hst := goL_stop (f := f) (ls := ls) (i := 0 + j + 1) s (by rw [hgn])
        rw [hgn] at hst
        refine VS_pure (P_not rfl) rfl rfl rfl ?_
        refine VS_nil ?_
        refine QS_then ?_
        refine TS_true rfl ?_
        refine TS_ret ?_
        refine QS_block_ret ?_
        refine QS_then_ret ?_
        refine QS_round_ret ?_
        refine QS_block_ret ?_
        refine QS_block_ret ?_
        refine QS_then_ret ?_
        refine QS_round_ret ?_
        refine QS_block_ret ?_
        exact QS_ret [] trivial [_] (Pick.refl _) ⟨rfl, by simp only [hst]⟩
    · have hje : j = x.played.length := by omega
      subst hje
      refine TS_seq ?_
      refine TS_region ?_
      refine VS_pure (df (P_lss rfl rfl) (by omega)) rfl rfl rfl ?_
      refine VS_nil ?_
      refine QS_then ?_
      refine TS_seq ?_
      refine TS_false rfl ?_
      refine TS_exit ?_
      refine QS_then_exit ?_
      refine QS_round_exit ?_
      refine QS_block_here ?_
      refine QS_block ?_
      refine QS_then ?_
      refine TS_region ?_
      refine VS_pure (P_add rfl rfl (w64 (by omega) (by omega))) rfl rfl rfl ?_
      refine VS_pure (P_move rfl) rfl rfl rfl ?_
      refine VS_nil ?_
      exact QS_round (0 + 1, s3) ⟨rfl, rfl, rfl, trivial⟩ (Pick.refl _) ⟨by dsimp only; omega, by rw [Nat.zero_add] at hg3; exact hg3⟩ (by dsimp only; omega)
  | 1, _, hg2 =>
    have hg2' : goL f (ls.take (x.played.length + 0)).flatten s = (s2, true) := hg2
    refine TS_seq ?_
    refine TS_region ?_
    refine VS_pure (dt (P_lss rfl rfl) (by omega)) rfl rfl rfl ?_
    refine VS_nil ?_
    refine QS_then ?_
    refine TS_seq ?_
    refine TS_true rfl ?_
    refine TS_skip ?_
    refine QS_then ?_
    refine TS_seq ?_
    refine TS_block ?_
    refine TS_seq ?_
    refine TS_region ?_
    refine VS_pure (P_index1 ar80 ars80 rfl rfl (by omega) (by omega) rfl) rfl rfl rfl ?_
    refine VS_pure (P_assign rfl) rfl rfl rfl ?_
    refine VS_nil ?_
    refine QS_then ?_
    refine TS_seq ?_
    refine TS_region ?_
    refine VS_pure (P_move rfl) rfl rfl rfl ?_
    refine VS_pure (P_len il29 rfl) rfl rfl rfl ?_
    refine VS_pure (P_move rfl) rfl rfl rfl ?_
    refine VS_nil ?_
    refine QS_then ?_
    refine TS_block ?_
    refine TS_loop (α := Nat × σ) (fun y => [(1, .func (.func g) #[] q.toArray), (19, .agg [.slice A x.played.length ca, .slice B x.dead.length cb, .slice D x.dawn.length cd].toArray), (20, .int .i64 1), (5, .slice B x.dead.length cb), (24, .int .i64 (x.dead.length : Nat)), (25, .int .i64 (y.1 : Nat))]) (fun y => [E y.2]) (fun y => y.1 ≤ x.dead.length ∧ goL f (ls.take (x.played.length + y.1)).flatten s = (y.2, true)) (fun y => x.dead.length - y.1) (0, s2) ⟨rfl, rfl, rfl, rfl, rfl, rfl, trivial⟩ (Pick.refl _) ⟨Nat.zero_le _, hg2'⟩ ?_
    rintro ⟨j, s3⟩ ⟨hj, hg3⟩
    dsimp only at hj hg3 ⊢
    by_cases hlt : j < x.dead.length
    · have hA : B.isSome = true := hd3.isSome (by omega)
      have hpe := PartR.eff (hd3.elem (j * 14) 14) (hd5 j hlt)
      rw [← kidsC1 hlt] at hpe
      have hgn := goL_next (f := f) (ls := ls) (i := x.played.length + j) (by omega) s (by rw [hg3])
      rw [hg3] at hgn
      dsimp only at hgn
      have hc := fun m1 (hm : Le m m1) => hE (x.played.length + j) (by omega) m1 hm _ (hpe.mono hm) s3 (by have := goL_inv hI (l := (ls.take (x.played.length + j)).flatten) hs (by rw [hg3]); rw [hg3] at this; exact this)
      generalize hgq : goL f (ls[x.played.length + j]'(by omega)) s3 = gq at hgn hc
      obtain ⟨s4, b4⟩ := gq
      dsimp only at hc
      refine TS_seq ?_
      refine TS_region ?_
      refine VS_pure (dt (P_lss rfl rfl) (by omega)) rfl rfl rfl ?_
      refine VS_nil ?_
      refine QS_then ?_
      refine TS_seq ?_
      refine TS_true rfl ?_
      refine TS_skip ?_
      refine QS_then ?_
      refine TS_seq ?_
      refine TS_block ?_
      refine TS_seq ?_
      refine TS_region ?_
      refine VS_pure (P_move rfl) rfl rfl rfl ?_
      refine VS_pure (P_assign rfl) rfl rfl rfl ?_
      refine VS_nil ?_
      refine QS_then ?_
      refine TS_seq ?_
      refine TS_region ?_
      refine VS_pure (P_move rfl) rfl rfl rfl ?_
      refine VS_pure (P_move rfl) rfl rfl rfl ?_
      refine VS_pure (P_indexAddrN ez29 rfl rfl hA (by omega)) rfl rfl rfl ?_
      refine VS_pure (P_build zl62 pl62 rfl rfl) rfl rfl rfl ?_
      refine VS_pure (P_mkIface ni62 us62 rfl) rfl rfl rfl ?_
      refine VS_pure (P_move rfl) rfl rfl rfl ?_
      refine VS_step ((S_call1 cl34 rfl .here (fun m1 hm he => hc m1 hm) rfl ?_)) rfl
      rintro _ _ ⟨rfl, rfl⟩
      cases b4 with
      | true =>
        refine VS_pure (P_not rfl) rfl rfl rfl ?_
        refine VS_nil ?_
        refine QS_then ?_
        refine TS_false rfl ?_
        refine TS_skip ?_
        refine QS_block ?_
        refine QS_then ?_
        refine TS_region ?_
        refine VS_pure (P_add rfl rfl (w64 (by omega) (by omega))) rfl rfl rfl ?_
        refine VS_pure (P_move rfl) rfl rfl rfl ?_
        refine VS_nil ?_
        exact QS_round (j + 1, s4) ⟨rfl, rfl, rfl, rfl, rfl, rfl, trivial⟩ (Pick.refl _) ⟨hlt, hgn⟩ (by dsimp only; omega)
      | false =>
        have hst := goL_stop (f := f) (ls := ls) (i := x.played.length + j + 1) s (by rw [hgn])
        rw [hgn] at hst
        refine VS_pure (P_not rfl) rfl rfl rfl ?_
        refine VS_nil ?_
        refine QS_then ?_
        refine TS_true rfl ?_
        refine TS_ret ?_
        refine QS_block_ret ?_
        refine QS_then_ret ?_
        refine QS_round_ret ?_
        refine QS_block_ret ?_
        refine QS_block_ret ?_
        refine QS_then_ret ?_
        refine QS_round_ret ?_
        refine QS_block_ret ?_
        exact QS_ret [] trivial [_] (Pick.refl _) ⟨rfl, by simp only [hst]⟩
    · have hje : j = x.dead.length := by omega
      subst hje
      refine TS_seq ?_
      refine TS_region ?_
      refine VS_pure (df (P_lss rfl rfl) (by omega)) rfl rfl rfl ?_
      refine VS_nil ?_
      refine QS_then ?_
      refine TS_seq ?_
      refine TS_false rfl ?_
      refine TS_exit ?_
      refine QS_then_exit ?_
      refine QS_round_exit ?_
      refine QS_block_here ?_
      refine QS_block ?_
      refine QS_then ?_
      refine TS_region ?_
      refine VS_pure (P_add rfl rfl (w64 (by omega) (by omega))) rfl rfl rfl ?_
      refine VS_pure (P_move rfl) rfl rfl rfl ?_
      refine VS_nil ?_
      exact QS_round (1 + 1, s3) ⟨rfl, rfl, rfl, trivial⟩ (Pick.refl _) ⟨by dsimp only; omega, hg3⟩ (by dsimp only; omega)
  | 2, _, hg2 =>
    have hg2' : goL f (ls.take (x.played.length + x.dead.length + 0)).flatten s = (s2, true) := hg2
    refine TS_seq ?_
    refine TS_region ?_
    refine VS_pure (dt (P_lss rfl rfl) (by omega)) rfl rfl rfl ?_
    refine VS_nil ?_
    refine QS_then ?_
    refine TS_seq ?_
    refine TS_true rfl ?_
    refine TS_skip ?_
    refine QS_then ?_
    refine TS_seq ?_
    refine TS_block ?_
    refine TS_seq ?_
    refine TS_region ?_
    refine VS_pure (P_index1 ar80 ars80 rfl rfl (by omega) (by omega) rfl) rfl rfl rfl ?_
    refine VS_pure (P_assign rfl) rfl rfl rfl ?_
    refine VS_nil ?_
    refine QS_then ?_
    refine TS_seq ?_
    refine TS_region ?_
    refine VS_pure (P_move rfl) rfl rfl rfl ?_
    refine VS_pure (P_len il29 rfl) rfl rfl rfl ?_
    refine VS_pure (P_move rfl) rfl rfl rfl ?_
    refine VS_nil ?_
    refine QS_then ?_
    refine TS_block ?_
    refine TS_loop (α := Nat × σ) (fun y => [(1, .func (.func g) #[] q.toArray), (19, .agg [.slice A x.played.length ca, .slice B x.dead.length cb, .slice D x.dawn.length cd].toArray), (20, .int .i64 2), (5, .slice D x.dawn.length cd), (24, .int .i64 (x.dawn.length : Nat)), (25, .int .i64 (y.1 : Nat))]) (fun y => [E y.2]) (fun y => y.1 ≤ x.dawn.length ∧ goL f (ls.take (x.played.length + x.dead.length + y.1)).flatten s = (y.2, true)) (fun y => x.dawn.length - y.1) (0, s2) ⟨rfl, rfl, rfl, rfl, rfl, rfl, trivial⟩ (Pick.refl _) ⟨Nat.zero_le _, hg2'⟩ ?_
    rintro ⟨j, s3⟩ ⟨hj, hg3⟩
    dsimp only at hj hg3 ⊢
    by_cases hlt : j < x.dawn.length
    · have hA : D.isSome = true := hw3.isSome (by omega)
      have hpe := PartR.eff (hw3.elem (j * 14) 14) (hw5 j hlt)
      rw [← kidsC2 hlt] at hpe
      have hgn := goL_next (f := f) (ls := ls) (i := x.played.length + x.dead.length + j) (by omega) s (by rw [hg3])
      rw [hg3] at hgn
      dsimp only at hgn
      have hc := fun m1 (hm : Le m m1) => hE (x.played.length + x.dead.length + j) (by omega) m1 hm _ (hpe.mono hm) s3 (by have := goL_inv hI (l := (ls.take (x.played.length + x.dead.length + j)).flatten) hs (by rw [hg3]); rw [hg3] at this; exact this)
      generalize hgq : goL f (ls[x.played.length + x.dead.length + j]'(by omega)) s3 = gq at hgn hc
      obtain ⟨s4, b4⟩ := gq
      dsimp only at hc
      refine TS_seq ?_
      refine TS_region ?_
      refine VS_pure (dt (P_lss rfl rfl) (by omega)) rfl rfl rfl ?_
      refine VS_nil ?_
      refine QS_then ?_
      refine TS_seq ?_
      refine TS_true rfl ?_
      refine TS_skip ?_
      refine QS_then ?_
      refine TS_seq ?_
      refine TS_block ?_
      refine TS_seq ?_
      refine TS_region ?_
      refine VS_pure (P_move rfl) rfl rfl rfl ?_
      refine VS_pure (P_assign rfl) rfl rfl rfl ?_
      refine VS_nil ?_
      refine QS_then ?_
      refine TS_seq ?_
      refine TS_region ?_
      refine VS_pure (P_move rfl) rfl rfl rfl ?_
      refine VS_pure (P_move rfl) rfl rfl rfl ?_
      refine VS_pure (P_indexAddrN ez29 rfl rfl hA (by omega)) rfl rfl rfl ?_
      refine VS_pure (P_build zl62 pl62 rfl rfl) rfl rfl rfl ?_
      refine VS_pure (P_mkIface ni62 us62 rfl) rfl rfl rfl ?_
      refine VS_pure (P_move rfl) rfl rfl rfl ?_
      refine VS_step ((S_call1 cl34 rfl .here (fun m1 hm he => hc m1 hm) rfl ?_)) rfl
      rintro _ _ ⟨rfl, rfl⟩
      cases b4 with
      | true =>
        refine VS_pure (P_not rfl) rfl rfl rfl ?_
        refine VS_nil ?_
        refine QS_then ?_
        refine TS_false rfl ?_
        refine TS_skip ?_
        refine QS_block ?_
        refine QS_then ?_
        refine TS_region ?_
        refine VS_pure (P_add rfl rfl (w64 (by omega) (by omega))) rfl rfl rfl ?_
        refine VS_pure (P_move rfl) rfl rfl rfl ?_
        refine VS_nil ?_
        exact QS_round (j + 1, s4) ⟨rfl, rfl, rfl, rfl, rfl, rfl, trivial⟩ (Pick.refl _) ⟨hlt, hgn⟩ (by dsimp only; omega)
      | false =>
        have hst := goL_stop (f := f) (ls := ls) (i := x.played.length + x.dead.length + j + 1) s (by rw [hgn])
        rw [hgn] at hst
        refine VS_pure (P_not rfl) rfl rfl rfl ?_
        refine VS_nil ?_
        refine QS_then ?_
        refine TS_true rfl ?_
        refine TS_ret ?_
        refine QS_block_ret ?_
        refine QS_then_ret ?_
        refine QS_round_ret ?_
        refine QS_block_ret ?_
        refine QS_block_ret ?_
        refine QS_then_ret ?_
        refine QS_round_ret ?_
        refine QS_block_ret ?_
        exact QS_ret [] trivial [_] (Pick.refl _) ⟨rfl, by simp only [hst]⟩
    · have hje : j = x.dawn.length := by omega
      subst hje
      refine TS_seq ?_
      refine TS_region ?_
      refine VS_pure (df (P_lss rfl rfl) (by omega)) rfl rfl rfl ?_
      refine VS_nil ?_
      refine QS_then ?_
      refine TS_seq ?_
      refine TS_false rfl ?_
      refine TS_exit ?_
      refine QS_then_exit ?_
      refine QS_round_exit ?_
      refine QS_block_here ?_
      refine QS_block ?_
      refine QS_then ?_
      refine TS_region ?_
      refine VS_pure (P_add rfl rfl (w64 (by omega) (by omega))) rfl rfl rfl ?_
      refine VS_pure (P_move rfl) rfl rfl rfl ?_
      refine VS_nil ?_
      exact QS_round (2 + 1, s3) ⟨rfl, rfl, rfl, trivial⟩ (Pick.refl _) ⟨by dsimp only; omega, hg3⟩ (by dsimp only; omega)
  | 3, _, hg2 =>
    have hal : offC x 3 = ls.length := by rw [hl, hkl]; rfl
    rw [hal, List.take_length] at hg2
    refine TS_seq ?_
    refine TS_region ?_
    refine VS_pure (df (P_lss rfl rfl) (by omega)) rfl rfl rfl ?_
    refine VS_nil ?_
    refine QS_then ?_
    refine TS_seq ?_
    refine TS_false rfl ?_
    refine TS_exit ?_
    refine QS_then_exit ?_
    refine QS_round_exit ?_
    refine QS_block_here ?_
    exact QS_ret [] trivial [_] (Pick.refl _) ⟨rfl, by simp only [hg2]⟩
set_option maxHeartbeats 4000000 in
theorem cnt19 {m : Mp} {b : Nat} {v : Value} {s : Int} (h0 : 0 ≤ s) (h1 : s ≤ 4611686018427387904) : CS Tryd.prog 19 [v, .pointer (some ⟨b, 0, none⟩)] m [cel b [iV s] 3] (fun v' L' => v' = .bool (decide (s + 1 < 1073741824)) ∧ L' = [cel b [iV (s + 1)] 3]) := by
  refine CS_of [.tmp 3] Tryd.func19 rfl rfl rfl ?_
  by_cases h : s + 1 < 1073741824
  · refine TS_seq ?_
    refine TS_region ?_
    refine VS_pure (P_assign rfl) rfl rfl rfl ?_
    refine VS_nil ?_
    refine QS_then ?_
    refine TS_seq ?_
    refine TS_region ?_
    refine VS_read (S_loadB sg3 rfl (.here) rfl) rfl rfl rfl ?_
    refine VS_pure (P_add rfl rfl (w64 (by omega) (by omega))) rfl rfl rfl ?_
    refine VS_step (S_store co3 rfl rfl rfl (.here) (.here) ?_) rfl
    refine VS_nil ?_
    refine QS_then ?_
    refine TS_seq ?_
    refine TS_region ?_
    refine VS_read (S_loadB sg3 rfl (.here) rfl) rfl rfl rfl ?_
    refine VS_pure (dt (P_lss rfl rfl) (by assumption)) rfl rfl rfl ?_
    refine VS_pure (P_assign rfl) rfl rfl rfl ?_
    refine VS_nil ?_
    refine QS_then ?_
    refine TS_ret ?_
    exact QS_ret [_] ⟨rfl, trivial⟩ [_] (Pick.refl _) ⟨by rw [decide_eq_true h]; rfl, rfl⟩
  · refine TS_seq ?_
    refine TS_region ?_
    refine VS_pure (P_assign rfl) rfl rfl rfl ?_
    refine VS_nil ?_
    refine QS_then ?_
    refine TS_seq ?_
    refine TS_region ?_
    refine VS_read (S_loadB sg3 rfl (.here) rfl) rfl rfl rfl ?_
    refine VS_pure (P_add rfl rfl (w64 (by omega) (by omega))) rfl rfl rfl ?_
    refine VS_step (S_store co3 rfl rfl rfl (.here) (.here) ?_) rfl
    refine VS_nil ?_
    refine QS_then ?_
    refine TS_seq ?_
    refine TS_region ?_
    refine VS_read (S_loadB sg3 rfl (.here) rfl) rfl rfl rfl ?_
    refine VS_pure (df (P_lss rfl rfl) (by assumption)) rfl rfl rfl ?_
    refine VS_pure (P_assign rfl) rfl rfl rfl ?_
    refine VS_nil ?_
    refine QS_then ?_
    refine TS_ret ?_
    exact QS_ret [_] ⟨rfl, trivial⟩ [_] (Pick.refl _) ⟨by rw [decide_eq_false h]; rfl, rfl⟩
end Go.Proofs.YtbghonkgflolaaaDoor
