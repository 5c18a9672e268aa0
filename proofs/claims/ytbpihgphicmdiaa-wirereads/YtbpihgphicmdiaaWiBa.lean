/- A part of the proof: contracts of functions of the program. No condition. -/
import Derived.Test.YtbpihgphicmdiaaWiAi
namespace Go.Proofs.Ytbpihgphicmdiaa
open Go.Eng Wi
set_option maxRecDepth 100000
/-! the document's reader -/
/-- where the reader stands: no fault yet, or the first fault and where it stopped -/
inductive St where
  | ok (a : Nat)
  | bad (k a : Nat)
def St.at_ : St → Nat
  | .ok a => a
  | .bad _ a => a
def rdE (rb : Nat) (A : Option Addr) (c n : Nat) : St → Ent
  | .ok a => cel rb [.slice A n c, .int .i64 (a : Nat), .int .i64 (-1)] 103
  | .bad k a => cel rb [.slice A n c, .int .i64 (a : Nat), .int .i64 (k : Nat)] 103
/-- a step of the reader, beside the plain parser -/
def Stp {α : Type} (p : Prs α) (b : List UInt8) (s : St) (x : α) (s' : St) : Prop :=
  match s with
  | .ok a => (∃ a', p b a = .ok x a' ∧ s' = .ok a' ∧ a' ≤ b.length) ∨ (∃ k a', p b a = .bad k ∧ s' = .bad k a' ∧ a' ≤ b.length ∧ k ≤ b.length)
  | .bad k a => s' = .bad k a
def St.fits (b : List UInt8) : St → Prop
  | .ok a => a ≤ b.length
  | .bad k a => a ≤ b.length ∧ k ≤ b.length
theorem Stp.fits {α : Type} {p : Prs α} {b : List UInt8} {s s' : St} {x : α} (h : Stp p b s x s') (hs : s.fits b) : s'.fits b := by
  cases s with
  | ok a =>
    rcases h with ⟨a', _, rfl, h⟩ | ⟨k, a', _, rfl, h⟩
    · exact h
    · exact h
  | bad k a => cases h; exact hs
/-- a step, and then another -/
theorem Stp.bind {α β : Type} {p : Prs α} {q : α → Prs β} {b : List UInt8} {s s1 s2 : St} {x : α} {y : β} (h1 : Stp p b s x s1) (h2 : Stp (q x) b s1 y s2) : Stp (fun b a => (p b a).bind fun x a1 => q x b a1) b s y s2 := by
  cases s with
  | ok a =>
    rcases h1 with ⟨a', h, rfl, _⟩ | ⟨k, a', h, rfl, h3⟩
    · rcases h2 with ⟨a2, h4, rfl, h5⟩ | ⟨k, a2, h4, rfl, h5⟩
      · exact .inl ⟨a2, by show Res.bind (p b a) _ = _; rw [h]; exact h4, rfl, h5⟩
      · exact .inr ⟨k, a2, by show Res.bind (p b a) _ = _; rw [h]; exact h4, rfl, h5⟩
    · cases h2
      exact .inr ⟨k, a', by show Res.bind (p b a) _ = _; rw [h]; rfl, rfl, h3⟩
  | bad k a => cases h1; exact h2
theorem Stp.pure {α : Type} {b : List UInt8} {s : St} {x : α} (hs : s.fits b) : Stp (fun _ a => .ok x a) b s x s := by
  cases s with
  | ok a => exact .inl ⟨a, rfl, rfl, hs⟩
  | bad k a => rfl
set_option maxHeartbeats 4000000 in
theorem wrong_bad {m : Mp} {rb : Nat} {A : Option Addr} {c n k a : Nat} {j : Int} : CS Try.prog 35 [.pointer (some ⟨rb, 0, none⟩), .int .i64 j] m [rdE rb A c n (.bad k a)] (fun v L' => v = U0 ∧ L' = [rdE rb A c n (.bad k a)]) := by
  refine CS_of [] Try.func35 rfl rfl rfl ?_
  unfold rdE
  refine TS_seq ?_
  refine TS_region ?_
  refine VS_pure (P_move rfl) rfl rfl rfl ?_
  refine VS_pure (P_nilCheck rfl) rfl rfl rfl ?_
  refine VS_pure (P_fieldAddr0 fo103_2 rfl) rfl rfl rfl ?_
  refine VS_read (S_loadB sg3 rfl (.here) rfl) rfl rfl rfl ?_
  refine VS_pure (df (P_lss rfl rfl) (by omega)) rfl rfl rfl ?_
  refine VS_nil ?_
  refine QS_then ?_
  refine TS_false rfl ?_
  refine TS_skip ?_
  exact QS_retN [] trivial [_] (Pick.refl _) ⟨rfl, rfl⟩
set_option maxHeartbeats 4000000 in
theorem wrong_ok {m : Mp} {rb : Nat} {A : Option Addr} {c n k a : Nat} : CS Try.prog 35 [.pointer (some ⟨rb, 0, none⟩), .int .i64 (k : Nat)] m [rdE rb A c n (.ok a)] (fun v L' => v = U0 ∧ L' = [rdE rb A c n (.bad k a)]) := by
  refine CS_of [] Try.func35 rfl rfl rfl ?_
  unfold rdE
  refine TS_seq ?_
  refine TS_region ?_
  refine VS_pure (P_move rfl) rfl rfl rfl ?_
  refine VS_pure (P_nilCheck rfl) rfl rfl rfl ?_
  refine VS_pure (P_fieldAddr0 fo103_2 rfl) rfl rfl rfl ?_
  refine VS_read (S_loadB sg3 rfl (.here) rfl) rfl rfl rfl ?_
  refine VS_pure (dt (P_lss rfl rfl) (by omega)) rfl rfl rfl ?_
  refine VS_nil ?_
  refine QS_then ?_
  refine TS_true rfl ?_
  refine TS_region ?_
  refine VS_pure (P_move rfl) rfl rfl rfl ?_
  refine VS_pure (P_move rfl) rfl rfl rfl ?_
  refine VS_pure (P_nilCheck rfl) rfl rfl rfl ?_
  refine VS_pure (P_fieldAddr0 fo103_2 rfl) rfl rfl rfl ?_
  refine VS_step (S_store co3 rfl rfl rfl (.here) (.there (.there (.here))) ?_) rfl
  refine VS_nil ?_
  exact QS_retN [] trivial [_] (Pick.refl _) ⟨rfl, rfl⟩
/-- what a function of the reader does: it yields a thing, and steps -/
def DC {α : Type} (f : FuncId) (rb : Nat) (extra : List Value) (m : Mp) (A : Option Addr) (c : Nat) (b : List UInt8) (p : Prs α) (val : α → Value) : Prop :=
  ∀ s : St, s.fits b → CS Try.prog f (.pointer (some ⟨rb, 0, none⟩) :: extra) m [rdE rb A c b.length s] (fun v L' => ∃ x s', Stp p b s x s' ∧ v = val x ∧ L' = [rdE rb A c b.length s'])
set_option maxHeartbeats 4000000 in
theorem oneD {m : Mp} {rb : Nat} {A : Option Addr} {c : Nat} {b : List UInt8} (hr : Rd m A (b.map byteV)) (hb : b.length ≤ 1099511627776) : DC 34 rb [] m A c b pByte byteV := by
  intro s hs
  refine CS_of [.tmp 2] Try.func34 rfl rfl rfl ?_
  cases s with
  | bad k a =>
    have hk : ((k : Nat) : Int) ≥ 0 := by omega
    unfold rdE
    refine TS_seq ?_
    refine TS_region ?_
    refine VS_pure (P_assign rfl) rfl rfl rfl ?_
    refine VS_nil ?_
    refine QS_then ?_
    refine TS_seq ?_
    refine TS_seq ?_
    refine TS_draw (.step 0 .pure (.step 1 .pure (.step 2 .pure (.step 3 .read (.step 4 .pure (.step 5 .pure (.step 6 .pure (.step 7 .pure (.step 8 .pure (.step 10 .pure (.step 11 .pure (.step 12 .pure (.step 9 .read (.step 13 .read (.step 14 .pure (.step 15 .pure (.step 16 .pure (.done)))))))))))))))))) mixed (by kernel_rfl) (fun _ _ _ _ hq => hq) ?_
    refine VTS_pure rfl (P_move rfl) rfl rfl rfl ?_
    refine VTS_pure rfl (P_nilCheck rfl) rfl rfl rfl ?_
    refine VTS_pure rfl (P_fieldAddr0 fo103_2 rfl) rfl rfl rfl ?_
    refine VTS_read rfl (S_loadB sg3 rfl (.here) rfl) rfl rfl rfl ?_
    refine VTS_pure rfl (df (P_lss rfl rfl) (by omega)) rfl rfl rfl ?_
    refine VTS_pure rfl (P_move rfl) rfl rfl rfl ?_
    iterate 10 (refine VTS_skip rfl rfl rfl rfl rfl ?_)
    refine VTS_pure rfl (P_pick_f rfl rfl) rfl rfl rfl ?_
    refine VTS_nil ?_
    refine QS_then ?_
    refine TS_false rfl ?_
    refine TS_skip ?_
    refine QS_then ?_
    refine TS_seq ?_
    refine TS_seq ?_
    refine TS_region ?_
    refine VS_pure (P_move rfl) rfl rfl rfl ?_
    refine VS_pure (P_nilCheck rfl) rfl rfl rfl ?_
    refine VS_pure (P_fieldAddr0 fo103_2 rfl) rfl rfl rfl ?_
    refine VS_read (S_loadB sg3 rfl (.here) rfl) rfl rfl rfl ?_
    refine VS_pure (dt (P_geq rfl rfl) (by assumption)) rfl rfl rfl ?_
    refine VS_nil ?_
    refine QS_then ?_
    refine TS_true rfl ?_
    refine TS_seq ?_
    refine TS_region ?_
    refine VS_pure (P_assign rfl) rfl rfl rfl ?_
    refine VS_nil ?_
    refine QS_then ?_
    refine TS_ret ?_
    refine QS_then_ret ?_
    exact QS_ret [_] ⟨rfl, trivial⟩ [_] (Pick.refl _) ⟨0, .bad k a, rfl, rfl, rfl⟩
  | ok a =>
    have ha : a ≤ b.length := hs
    unfold rdE
    by_cases he : a = b.length
    · subst he
      refine TS_seq ?_
      refine TS_region ?_
      refine VS_pure (P_assign rfl) rfl rfl rfl ?_
      refine VS_nil ?_
      refine QS_then ?_
      refine TS_seq ?_
      refine TS_seq ?_
      refine TS_draw (.step 0 .pure (.step 1 .pure (.step 2 .pure (.step 3 .read (.step 4 .pure (.step 5 .pure (.step 6 .pure (.step 7 .pure (.step 8 .pure (.step 10 .pure (.step 11 .pure (.step 12 .pure (.step 9 .read (.step 13 .read (.step 14 .pure (.step 15 .pure (.step 16 .pure (.done)))))))))))))))))) mixed (by kernel_rfl) (fun _ _ _ _ hq => hq) ?_
      refine VTS_pure rfl (P_move rfl) rfl rfl rfl ?_
      refine VTS_pure rfl (P_nilCheck rfl) rfl rfl rfl ?_
      refine VTS_pure rfl (P_fieldAddr0 fo103_2 rfl) rfl rfl rfl ?_
      refine VTS_read rfl (S_loadB sg3 rfl (.here) rfl) rfl rfl rfl ?_
      refine VTS_pure rfl (dt (P_lss rfl rfl) (by omega)) rfl rfl rfl ?_
      refine VTS_pure rfl (P_move rfl) rfl rfl rfl ?_
      refine VTS_pure rfl (P_move rfl) rfl rfl rfl ?_
      refine VTS_pure rfl (P_nilCheck rfl) rfl rfl rfl ?_
      refine VTS_pure rfl (P_fieldAddr0 fo103_1 rfl) rfl rfl rfl ?_
      refine VTS_pure rfl (P_move rfl) rfl rfl rfl ?_
      refine VTS_pure rfl (P_nilCheck rfl) rfl rfl rfl ?_
      refine VTS_pure rfl (P_fieldAddr0 fo103_0 rfl) rfl rfl rfl ?_
      refine VTS_read rfl (S_loadB sg3 rfl (.here) rfl) rfl rfl rfl ?_
      refine VTS_read rfl (S_loadB sg22 rfl (.here) rfl) rfl rfl rfl ?_
      refine VTS_pure rfl (P_len il22 rfl) rfl rfl rfl ?_
      refine VTS_pure rfl (dt (P_geq rfl rfl) (by omega)) rfl rfl rfl ?_
      refine VTS_pure rfl (P_pick_t rfl rfl) rfl rfl rfl ?_
      refine VTS_nil ?_
      refine QS_then ?_
      refine TS_true rfl ?_
      refine TS_region ?_
      refine VS_pure (P_move rfl) rfl rfl rfl ?_
      refine VS_pure (P_move rfl) rfl rfl rfl ?_
      refine VS_pure (P_nilCheck rfl) rfl rfl rfl ?_
      refine VS_pure (P_fieldAddr0 fo103_0 rfl) rfl rfl rfl ?_
      refine VS_read (S_loadB sg22 rfl (.here) rfl) rfl rfl rfl ?_
      refine VS_pure (P_len il22 rfl) rfl rfl rfl ?_
      refine VS_step ((S_callL cl35 rfl (.cons .here .nil) (fun m' hm he => wrong_ok (A := A) (c := c) (n := b.length) (k := b.length) (a := b.length)) rfl ?_)) rfl
      rintro _ _ ⟨rfl, rfl⟩
      unfold rdE
      refine VS_nil ?_
      refine QS_then ?_
      refine TS_seq ?_
      refine TS_seq ?_
      refine TS_region ?_
      refine VS_pure (P_move rfl) rfl rfl rfl ?_
      refine VS_pure (P_nilCheck rfl) rfl rfl rfl ?_
      refine VS_pure (P_fieldAddr0 fo103_2 rfl) rfl rfl rfl ?_
      refine VS_read (S_loadB sg3 rfl (.here) rfl) rfl rfl rfl ?_
      refine VS_pure (dt (P_geq rfl rfl) (by omega)) rfl rfl rfl ?_
      refine VS_nil ?_
      refine QS_then ?_
      refine TS_true rfl ?_
      refine TS_seq ?_
      refine TS_region ?_
      refine VS_pure (P_assign rfl) rfl rfl rfl ?_
      refine VS_nil ?_
      refine QS_then ?_
      refine TS_ret ?_
      refine QS_then_ret ?_
      exact QS_ret [_] ⟨rfl, trivial⟩ [_] (Pick.refl _) ⟨0, .bad b.length b.length, .inr ⟨_, _, by simp [pByte], rfl, Nat.le_refl _, Nat.le_refl _⟩, rfl, rfl⟩
    · have hlt : a < b.length := by omega
      refine TS_seq ?_
      refine TS_region ?_
      refine VS_pure (P_assign rfl) rfl rfl rfl ?_
      refine VS_nil ?_
      refine QS_then ?_
      refine TS_seq ?_
      refine TS_seq ?_
      refine TS_draw (.step 0 .pure (.step 1 .pure (.step 2 .pure (.step 3 .read (.step 4 .pure (.step 5 .pure (.step 6 .pure (.step 7 .pure (.step 8 .pure (.step 10 .pure (.step 11 .pure (.step 12 .pure (.step 9 .read (.step 13 .read (.step 14 .pure (.step 15 .pure (.step 16 .pure (.done)))))))))))))))))) mixed (by kernel_rfl) (fun _ _ _ _ hq => hq) ?_
      refine VTS_pure rfl (P_move rfl) rfl rfl rfl ?_
      refine VTS_pure rfl (P_nilCheck rfl) rfl rfl rfl ?_
      refine VTS_pure rfl (P_fieldAddr0 fo103_2 rfl) rfl rfl rfl ?_
      refine VTS_read rfl (S_loadB sg3 rfl (.here) rfl) rfl rfl rfl ?_
      refine VTS_pure rfl (dt (P_lss rfl rfl) (by omega)) rfl rfl rfl ?_
      refine VTS_pure rfl (P_move rfl) rfl rfl rfl ?_
      refine VTS_pure rfl (P_move rfl) rfl rfl rfl ?_
      refine VTS_pure rfl (P_nilCheck rfl) rfl rfl rfl ?_
      refine VTS_pure rfl (P_fieldAddr0 fo103_1 rfl) rfl rfl rfl ?_
      refine VTS_pure rfl (P_move rfl) rfl rfl rfl ?_
      refine VTS_pure rfl (P_nilCheck rfl) rfl rfl rfl ?_
      refine VTS_pure rfl (P_fieldAddr0 fo103_0 rfl) rfl rfl rfl ?_
      refine VTS_read rfl (S_loadB sg3 rfl (.here) rfl) rfl rfl rfl ?_
      refine VTS_read rfl (S_loadB sg22 rfl (.here) rfl) rfl rfl rfl ?_
      refine VTS_pure rfl (P_len il22 rfl) rfl rfl rfl ?_
      refine VTS_pure rfl (df (P_geq rfl rfl) (by omega)) rfl rfl rfl ?_
      refine VTS_pure rfl (P_pick_t rfl rfl) rfl rfl rfl ?_
      refine VTS_nil ?_
      refine QS_then ?_
      refine TS_false rfl ?_
      refine TS_skip ?_
      refine QS_then ?_
      refine TS_seq ?_
      refine TS_seq ?_
      refine TS_region ?_
      refine VS_pure (P_move rfl) rfl rfl rfl ?_
      refine VS_pure (P_nilCheck rfl) rfl rfl rfl ?_
      refine VS_pure (P_fieldAddr0 fo103_2 rfl) rfl rfl rfl ?_
      refine VS_read (S_loadB sg3 rfl (.here) rfl) rfl rfl rfl ?_
      refine VS_pure (df (P_geq rfl rfl) (by omega)) rfl rfl rfl ?_
      refine VS_nil ?_
      refine QS_then ?_
      refine TS_false rfl ?_
      refine TS_skip ?_
      refine QS_then ?_
      refine TS_seq ?_
      refine TS_region ?_
      refine VS_pure (P_move rfl) rfl rfl rfl ?_
      refine VS_pure (P_nilCheck rfl) rfl rfl rfl ?_
      refine VS_pure (P_fieldAddr0 fo103_1 rfl) rfl rfl rfl ?_
      refine VS_read (S_loadB sg3 rfl (.here) rfl) rfl rfl rfl ?_
      refine VS_pure (P_add rfl rfl (w64 (by omega) (by omega))) rfl rfl rfl ?_
      refine VS_pure (P_nilCheck rfl) rfl rfl rfl ?_
      refine VS_pure (P_fieldAddr0 fo103_1 rfl) rfl rfl rfl ?_
      refine VS_step (S_store co3 rfl rfl rfl (.here) (.there (.here)) ?_) rfl
      refine VS_nil ?_
      refine QS_then ?_
      refine TS_seq ?_
      refine TS_draw (.step 0 .pure (.step 1 .pure (.step 2 .pure (.step 4 .pure (.step 5 .pure (.step 6 .pure (.step 3 .read (.step 7 .read (.step 8 .pure (.step 9 .pure (.step 10 .read (.step 11 .pure (.done))))))))))))) mixed (by kernel_rfl) (fun _ _ _ _ hq => hq) ?_
      refine VTS_pure rfl (P_move rfl) rfl rfl rfl ?_
      refine VTS_pure rfl (P_nilCheck rfl) rfl rfl rfl ?_
      refine VTS_pure rfl (P_fieldAddr0 fo103_0 rfl) rfl rfl rfl ?_
      refine VTS_pure rfl (P_move rfl) rfl rfl rfl ?_
      refine VTS_pure rfl (P_nilCheck rfl) rfl rfl rfl ?_
      refine VTS_pure rfl (P_fieldAddr0 fo103_1 rfl) rfl rfl rfl ?_
      refine VTS_read rfl (S_loadB sg22 rfl (.here) rfl) rfl rfl rfl ?_
      refine VTS_read rfl (S_loadB sg3 rfl (.here) rfl) rfl rfl rfl ?_
      refine VTS_pure rfl (P_sub rfl rfl (w64 (by omega) (by omega))) rfl rfl rfl ?_
      refine VTS_pure rfl (P_indexAddr1 ez22 rfl rfl (hr.isSome (by simp <;> omega)) (by omega) (by omega)) rfl rfl rfl ?_
      refine VTS_read rfl (S_load sg5 rfl (hr.map (by omega))) rfl rfl rfl ?_
      refine VTS_pure rfl (P_assign rfl) rfl rfl rfl ?_
      refine VTS_nil ?_
      refine QS_then ?_
      refine TS_ret ?_
      exact QS_ret [_] ⟨rfl, trivial⟩ [_] (Pick.refl _) ⟨_, .ok (a + 1), .inl ⟨_, by unfold pByte; rw [List.getElem?_eq_getElem hlt]; simp, rfl, hlt⟩, rfl, rfl⟩
end Go.Proofs.Ytbpihgphicmdiaa
