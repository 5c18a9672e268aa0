/- A part of the proof: contracts of functions of the program. No condition. -/
import Derived.Test.YtbpihgphicmdiaaWiAa
namespace Go.Proofs.Ytbpihgphicmdiaa
open Go.Eng Wi
set_option maxRecDepth 100000
theorem Res.bind_assoc {α β γ : Type} (r : Res α) (f : α → Nat → Res β) (g : β → Nat → Res γ) : (r.bind f).bind g = r.bind fun x a => (f x a).bind g := by cases r <;> rfl
theorem pN_snoc {α : Type} (p : Prs α) (b : List UInt8) : ∀ (n a : Nat), pN p (n + 1) b a = (pN p n b a).bind fun l a1 => (p b a1).bind fun x a2 => .ok (l ++ [x]) a2
  | 0, a => by
    simp only [pN]
    show _ = Res.bind (p b a) _
    cases p b a <;> rfl
  | n + 1, a => by
    rw [pN, pN]
    cases h : p b a with
    | bad k => rfl
    | ok x a1 =>
      show (pN p (n + 1) b a1).bind _ = ((pN p n b a1).bind _).bind _
      rw [pN_snoc p b n a1, Res.bind_assoc, Res.bind_assoc]
      congr 1
      funext l a2
      show ((p b a2).bind _).bind _ = _
      rw [Res.bind_assoc]
      show _ = Res.bind (p b a2) _
      congr 1
theorem pN_bad {α : Type} {p : Prs α} {b : List UInt8} {a k : Nat} : ∀ {n j : Nat}, j ≤ n → pN p j b a = .bad k → pN p n b a = .bad k := by
  intro n j hj h
  induction n with
  | zero => have : j = 0 := by omega
            subst this; exact h
  | succ n ih =>
    by_cases e : j = n + 1
    · subst e; exact h
    · rw [pN_snoc, ih (by omega)]; rfl
theorem pN_stop {α : Type} {p : Prs α} {b : List UInt8} {a a1 k n j : Nat} {l : List α} (hj : j < n) (h : pN p j b a = .ok l a1) (hb : p b a1 = .bad k) : pN p n b a = .bad k := by
  refine pN_bad (j := j + 1) hj ?_
  rw [pN_snoc, h]
  show (p b a1).bind _ = _
  rw [hb]
  rfl
theorem pN_go {α : Type} {p : Prs α} {b : List UInt8} {a a1 a2 j : Nat} {l : List α} {x : α} (h : pN p j b a = .ok l a1) (hb : p b a1 = .ok x a2) : pN p (j + 1) b a = .ok (l ++ [x]) a2 := by
  rw [pN_snoc, h]
  show (p b a1).bind _ = _
  rw [hb]
  rfl
theorem Plc.last {e k c : Nat} {A : Option Addr} {xs : List Value} : Plc ((sa A).add xs.length) (fun v => own e 1 A k c (xs ++ [v])) := by
  have := Plc.own (e := e) (sz := 1) (k := k) (c := c) (A := A) (i := xs.length) (xs := xs ++ [.bool false]) (by simp)
  have e1 : (fun v => Eng.own e 1 A k c ((xs ++ [Value.bool false]).set xs.length v)) = (fun v => Eng.own e 1 A k c (xs ++ [v])) := by
    funext v
    rw [List.set_append_right _ _ (Nat.le_refl _), Nat.sub_self]
    rfl
  rw [e1] at this
  exact this
/-- a list read: the slice in its place, and its cells -/
def MC {α : Type} (f : FuncId) (bc : Nat) (args : List Value) (m : Mp) (A : Option Addr) (c : Nat) (b : List UInt8) (E : Value → Ent) (z : Value) (p : Prs (List α)) (T sz : Nat) (val : List α → List Value) : Prop :=
  ∀ at_, at_ ≤ b.length → CSP Try.prog f args m [curR bc A c b.length at_, E z] (fun v L' => ∃ xs a' A2 c2, p b at_ = .ok xs a' ∧ a' ≤ b.length ∧ xs.length ≤ 65535 ∧ v = U0 ∧ L' = [curR bc A c b.length a', E (.slice A2 xs.length c2), own T sz A2 xs.length c2 (val xs)]) (fun v _ => ∃ k, p b at_ = .bad k ∧ v = wrongV k)
set_option maxHeartbeats 8000000 in
theorem manyRB {α : Type} {m : Mp} {bc : Nat} {A a0 : Option Addr} {c cz : Nat} {b : List UInt8} {la : Addr} {E : Value → Ent} {p : Prs α} {val : α → Value} {each : Nat} (hp : Plc la E) (hr : Rd m A (b.map byteV)) (hb : b.length ≤ 1099511627776) (hea : each ≤ 43)
    (hone : ∀ m' (E' : Value → Ent) (a' : Addr), Le m m' → Plc a' E' → RC 24 bc [.pointer (some ⟨bc, 0, none⟩), .pointer (some a')] m' A c b E' (byteV 0) p val) :
    MC 61 bc [.pointer (some ⟨bc, 0, none⟩), .pointer (some la), .int .i64 (each : Nat), .func (.func 24) [.pointer (some ⟨bc, 0, none⟩)].toArray [].toArray] m A c b E (.slice a0 0 cz) (pMany each p) 5 1 (fun xs => xs.map val) := by
  intro at_ hat
  refine CSP_of [] Try.func61 rfl rfl rfl ?_
  refine TS_seq ?_
  refine TS_region ?_
  refine VS_pure (P_move rfl) rfl rfl rfl ?_
  refine VS_pure (P_move rfl) rfl rfl rfl ?_
  refine VS_pure (P_nilCheck rfl) rfl rfl rfl ?_
  refine VS_read (S_loadP hp sg22 rfl (.there (.here))) rfl rfl rfl ?_
  refine VS_pure (P_len il22 rfl) rfl rfl rfl ?_
  refine VS_pure (P_move rfl) rfl rfl rfl ?_
  refine VS_step (S_callP cl62 rfl (.cons .here .nil) (fun m' hm he => sizeR (hr.mono hm) hb hea at_ hat) rfl ?_ ?_) rfl
  · rintro v L' ⟨k, hk, rfl⟩
    refine QS_then_pan ?_
    exact QS_pan [] (Pick.nil _) ⟨k, by rw [pMany, hk]; rfl, rfl⟩
  rintro v L' ⟨n, a1, hn, ha1, hn2, hn3, rfl, rfl⟩
  have hpm : pMany each p b at_ = pN p n b a1 := by rw [pMany, hn]; rfl
  dsimp only [curR]
  refine VS_pure (P_assign rfl) rfl rfl rfl ?_
  refine VS_nil ?_
  refine QS_then ?_
  refine TS_seq ?_
  refine TS_seq ?_
  refine TS_region ?_
  refine VS_pure (P_move rfl) rfl rfl rfl ?_
  refine VS_pure (P_nilCheck rfl) rfl rfl rfl ?_
  refine VS_pure (P_fieldAddr0 fo86_2 rfl) rfl rfl rfl ?_
  refine VS_read (S_loadB sg4 rfl (.here) rfl) rfl rfl rfl ?_
  refine VS_nil ?_
  refine QS_then ?_
  refine TS_true rfl ?_
  refine TS_region ?_
  refine VS_pure (P_move rfl) rfl rfl rfl ?_
  refine VS_pure (P_nilCheck rfl) rfl rfl rfl ?_
  refine VS_step (S_storeP hp co22 rfl rfl rfl (.there (.here)) ?_) rfl
  refine VS_nil ?_
  refine QS_then ?_
  refine TS_seq ?_
  refine TS_region ?_
  refine VS_pure (P_move rfl) rfl rfl rfl ?_
  refine VS_pure (P_move rfl) rfl rfl rfl ?_
  refine VS_nil ?_
  refine QS_then ?_
  refine TS_block ?_
  refine TS_nilOwn 5 1 ?_
  refine TS_loop4 (β := List α × Nat) (fun j A' c' _ => [(0, .pointer (some ⟨bc, 0, none⟩)), (1, .pointer (some la)), (3, .func (.func 24) [.pointer (some ⟨bc, 0, none⟩)].toArray [].toArray), (24, .int .i64 (n : Nat)), (25, .int .i64 (j : Nat))]) (fun j A' c' s => [curR bc A c b.length s.2, E (.slice A' s.1.length c'), own 5 1 A' s.1.length c' (s.1.map val)]) (fun j s => j ≤ n ∧ s.1.length = j ∧ s.2 ≤ b.length ∧ pN p j b a1 = .ok s.1 s.2) (fun j => n - j) 0 none 0 ([], a1) ⟨rfl, rfl, rfl, rfl, rfl, trivial⟩ (.cons (.there .here) (.cons (.there .here) (.cons .here (.nil _)))) ⟨Nat.zero_le _, rfl, ha1, rfl⟩ ?_
  rintro j A' c' ⟨xs, a2⟩ ⟨hj, hl, ha2, hpn⟩
  dsimp only at hl ha2 hpn ⊢
  subst hl
  dsimp only [curR]
  by_cases hlt : xs.length < n
  · refine TS_seq ?_
    refine TS_region ?_
    refine VS_pure (dt (P_lss rfl rfl) (by omega)) rfl rfl rfl ?_
    refine VS_nil ?_
    refine QS_then ?_
    refine TS_seq ?_
    refine TS_true rfl ?_
    refine TS_skip ?_
    refine QS_then ?_
    refine TS_seq ?_
    refine TS_block ?_
    refine TS_seq ?_
    refine TS_region ?_
    refine VS_pure (P_move rfl) rfl rfl rfl ?_
    refine VS_pure (P_assign rfl) rfl rfl rfl ?_
    refine VS_nil ?_
    refine QS_then ?_
    refine TS_seq ?_
    refine TS_seq ?_
    refine TS_region ?_
    refine VS_pure (P_move rfl) rfl rfl rfl ?_
    refine VS_pure (P_nilCheck rfl) rfl rfl rfl ?_
    refine VS_pure (P_fieldAddr0 fo86_2 rfl) rfl rfl rfl ?_
    refine VS_read (S_loadB sg4 rfl (.here) rfl) rfl rfl rfl ?_
    refine VS_nil ?_
    refine QS_then ?_
    refine TS_true rfl ?_
    refine TS_seq ?_
    refine TS_region ?_
    refine VS_pure (P_assign rfl) rfl rfl rfl ?_
    refine VS_nil ?_
    refine QS_then ?_
    refine TS_region ?_
    refine VS_pure (P_move rfl) rfl rfl rfl ?_
    refine VS_pure (P_move rfl) rfl rfl rfl ?_
    refine VS_pure (P_nilCheck rfl) rfl rfl rfl ?_
    refine VS_read (S_loadP hp sg22 rfl (.there (.here))) rfl rfl rfl ?_
    refine VS_pure (P_move rfl) rfl rfl rfl ?_
    refine VS_step (S_buildSlice sl22 rfl rfl rfl rfl (fun b1 => ?_)) rfl
    refine VS_step (S_append sl22 rfl rfl rfl rfl (.here) (fun _ _ => (.there (.there (.there (.here))))) rfl rfl (by first | omega | (simp only [maxLen]; omega)) (by omega) rfl (fun A1 c1 => ?_)) rfl
    refine VS_pure (P_nilCheck rfl) rfl rfl rfl ?_
    refine VS_step (S_storeP hp co22 rfl rfl rfl (.there (.there (.here))) ?_) rfl
    refine VS_nil ?_
    refine QS_then ?_
    refine TS_region ?_
    refine VS_pure (P_move rfl) rfl rfl rfl ?_
    refine VS_pure (P_move rfl) rfl rfl rfl ?_
    refine VS_pure (P_nilCheck rfl) rfl rfl rfl ?_
    refine VS_read (S_loadP hp sg22 rfl (.there (.there (.here)))) rfl rfl rfl ?_
    refine VS_pure (P_move rfl) rfl rfl rfl ?_
    have hx1 : (xs.map val).length = xs.length := List.length_map ..
    refine VS_fact (own_isSome (A := A1) (.there (.there (.there .here))) (by show 0 < (xs.map val ++ [(byteV 0)]).length; simp)) (fun hA1 => ?_)
    refine VS_pure (P_indexAddr1N ez22 rfl rfl hA1 (by omega)) rfl rfl rfl ?_
    refine VS_step (S_callPVd (p := [.pointer (some ⟨bc, 0, none⟩)]) (q := []) (vs := [.pointer (some ((sa A1).add xs.length))]) cl24 rfl rfl (.cons (.there .here) (.cons (.there (.there .here)) .nil)) (fun m' hm he => hone m' (fun v => own 5 1 A1 (xs.length + 1) c1 (xs.map val ++ [v])) ((sa A1).add xs.length) hm (by have := Plc.last (e := 5) (k := xs.length + 1) (c := c1) (A := A1) (xs := xs.map val); rw [hx1] at this; exact this) a2 ha2) rfl ?_ ?_) rfl
    · rintro v L' ⟨k, hk, rfl⟩
      refine QS_block_pan ?_
      refine QS_then_pan ?_
      refine QS_round4_pan ?_
      refine QS_block_pan ?_
      exact QS_pan [] (Pick.nil _) ⟨k, by rw [hpm, pN_stop hlt hpn hk], rfl⟩
    rintro v L' ⟨x, a3, hx, ha3, rfl, rfl⟩
    dsimp only [curR]
    refine VS_nil ?_
    refine QS_block ?_
    refine QS_then ?_
    refine TS_region ?_
    refine VS_pure (P_add rfl rfl (w64 (by omega) (by omega))) rfl rfl rfl ?_
    refine VS_pure (P_move rfl) rfl rfl rfl ?_
    refine VS_nil ?_
    refine QS_round4 (Le.refl _) (xs.length + 1) A1 c1 (xs ++ [x], a3) ⟨rfl, rfl, rfl, rfl, rfl, trivial⟩ ?_ ⟨hlt, by simp, ha3, pN_go hpn hx⟩ (by omega)
    simp only [List.length_append, List.length_singleton, List.map_append, List.map_cons, List.map_nil]
    exact .cons .here (.cons (.there (.there .here)) (.cons .here (.nil _)))
  · refine TS_seq ?_
    refine TS_region ?_
    refine VS_pure (df (P_lss rfl rfl) (by omega)) rfl rfl rfl ?_
    refine VS_nil ?_
    refine QS_then ?_
    refine TS_seq ?_
    refine TS_false rfl ?_
    refine TS_exit ?_
    refine QS_then_exit ?_
    refine QS_round4_exit ?_
    refine QS_block_here ?_
    have hj' : xs.length = n := by omega
    rw [hj'] at hpn
    exact QS_retPN [] trivial [_, _, _] (Pick.refl _) ⟨xs, a2, A', c', by rw [hpm, hpn], ha2, by omega, rfl, rfl⟩
set_option maxHeartbeats 8000000 in
theorem manyRI {α : Type} {m : Mp} {bc : Nat} {A a0 : Option Addr} {c cz : Nat} {b : List UInt8} {la : Addr} {E : Value → Ent} {p : Prs α} {val : α → Value} {each : Nat} (hp : Plc la E) (hr : Rd m A (b.map byteV)) (hb : b.length ≤ 1099511627776) (hea : each ≤ 43)
    (hone : ∀ m' (E' : Value → Ent) (a' : Addr), Le m m' → Plc a' E' → RC 47 bc [.pointer (some ⟨bc, 0, none⟩), .pointer (some a')] m' A c b E' (iV 0) p val) :
    MC 64 bc [.pointer (some ⟨bc, 0, none⟩), .pointer (some la), .int .i64 (each : Nat), .func (.func 47) [.pointer (some ⟨bc, 0, none⟩)].toArray [].toArray] m A c b E (.slice a0 0 cz) (pMany each p) 3 1 (fun xs => xs.map val) := by
  intro at_ hat
  refine CSP_of [] Try.func64 rfl rfl rfl ?_
  refine TS_seq ?_
  refine TS_region ?_
  refine VS_pure (P_move rfl) rfl rfl rfl ?_
  refine VS_pure (P_move rfl) rfl rfl rfl ?_
  refine VS_pure (P_nilCheck rfl) rfl rfl rfl ?_
  refine VS_read (S_loadP hp sg25 rfl (.there (.here))) rfl rfl rfl ?_
  refine VS_pure (P_len il25 rfl) rfl rfl rfl ?_
  refine VS_pure (P_move rfl) rfl rfl rfl ?_
  refine VS_step (S_callP cl62 rfl (.cons .here .nil) (fun m' hm he => sizeR (hr.mono hm) hb hea at_ hat) rfl ?_ ?_) rfl
  · rintro v L' ⟨k, hk, rfl⟩
    refine QS_then_pan ?_
    exact QS_pan [] (Pick.nil _) ⟨k, by rw [pMany, hk]; rfl, rfl⟩
  rintro v L' ⟨n, a1, hn, ha1, hn2, hn3, rfl, rfl⟩
  have hpm : pMany each p b at_ = pN p n b a1 := by rw [pMany, hn]; rfl
  dsimp only [curR]
  refine VS_pure (P_assign rfl) rfl rfl rfl ?_
  refine VS_nil ?_
  refine QS_then ?_
  refine TS_seq ?_
  refine TS_seq ?_
  refine TS_region ?_
  refine VS_pure (P_move rfl) rfl rfl rfl ?_
  refine VS_pure (P_nilCheck rfl) rfl rfl rfl ?_
  refine VS_pure (P_fieldAddr0 fo86_2 rfl) rfl rfl rfl ?_
  refine VS_read (S_loadB sg4 rfl (.here) rfl) rfl rfl rfl ?_
  refine VS_nil ?_
  refine QS_then ?_
  refine TS_true rfl ?_
  refine TS_region ?_
  refine VS_pure (P_move rfl) rfl rfl rfl ?_
  refine VS_pure (P_nilCheck rfl) rfl rfl rfl ?_
  refine VS_step (S_storeP hp co25 rfl rfl rfl (.there (.here)) ?_) rfl
  refine VS_nil ?_
  refine QS_then ?_
  refine TS_seq ?_
  refine TS_region ?_
  refine VS_pure (P_move rfl) rfl rfl rfl ?_
  refine VS_pure (P_move rfl) rfl rfl rfl ?_
  refine VS_nil ?_
  refine QS_then ?_
  refine TS_block ?_
  refine TS_nilOwn 3 1 ?_
  refine TS_loop4 (β := List α × Nat) (fun j A' c' _ => [(0, .pointer (some ⟨bc, 0, none⟩)), (1, .pointer (some la)), (3, .func (.func 47) [.pointer (some ⟨bc, 0, none⟩)].toArray [].toArray), (24, .int .i64 (n : Nat)), (25, .int .i64 (j : Nat))]) (fun j A' c' s => [curR bc A c b.length s.2, E (.slice A' s.1.length c'), own 3 1 A' s.1.length c' (s.1.map val)]) (fun j s => j ≤ n ∧ s.1.length = j ∧ s.2 ≤ b.length ∧ pN p j b a1 = .ok s.1 s.2) (fun j => n - j) 0 none 0 ([], a1) ⟨rfl, rfl, rfl, rfl, rfl, trivial⟩ (.cons (.there .here) (.cons (.there .here) (.cons .here (.nil _)))) ⟨Nat.zero_le _, rfl, ha1, rfl⟩ ?_
  rintro j A' c' ⟨xs, a2⟩ ⟨hj, hl, ha2, hpn⟩
  dsimp only at hl ha2 hpn ⊢
  subst hl
  dsimp only [curR]
  by_cases hlt : xs.length < n
  · refine TS_seq ?_
    refine TS_region ?_
    refine VS_pure (dt (P_lss rfl rfl) (by omega)) rfl rfl rfl ?_
    refine VS_nil ?_
    refine QS_then ?_
    refine TS_seq ?_
    refine TS_true rfl ?_
    refine TS_skip ?_
    refine QS_then ?_
    refine TS_seq ?_
    refine TS_block ?_
    refine TS_seq ?_
    refine TS_region ?_
    refine VS_pure (P_move rfl) rfl rfl rfl ?_
    refine VS_pure (P_assign rfl) rfl rfl rfl ?_
    refine VS_nil ?_
    refine QS_then ?_
    refine TS_seq ?_
    refine TS_seq ?_
    refine TS_region ?_
    refine VS_pure (P_move rfl) rfl rfl rfl ?_
    refine VS_pure (P_nilCheck rfl) rfl rfl rfl ?_
    refine VS_pure (P_fieldAddr0 fo86_2 rfl) rfl rfl rfl ?_
    refine VS_read (S_loadB sg4 rfl (.here) rfl) rfl rfl rfl ?_
    refine VS_nil ?_
    refine QS_then ?_
    refine TS_true rfl ?_
    refine TS_seq ?_
    refine TS_region ?_
    refine VS_pure (P_assign rfl) rfl rfl rfl ?_
    refine VS_nil ?_
    refine QS_then ?_
    refine TS_region ?_
    refine VS_pure (P_move rfl) rfl rfl rfl ?_
    refine VS_pure (P_move rfl) rfl rfl rfl ?_
    refine VS_pure (P_nilCheck rfl) rfl rfl rfl ?_
    refine VS_read (S_loadP hp sg25 rfl (.there (.here))) rfl rfl rfl ?_
    refine VS_pure (P_move rfl) rfl rfl rfl ?_
    refine VS_step (S_buildSlice sl25 rfl rfl rfl rfl (fun b1 => ?_)) rfl
    refine VS_step (S_append sl25 rfl rfl rfl rfl (.here) (fun _ _ => (.there (.there (.there (.here))))) rfl rfl (by first | omega | (simp only [maxLen]; omega)) (by omega) rfl (fun A1 c1 => ?_)) rfl
    refine VS_pure (P_nilCheck rfl) rfl rfl rfl ?_
    refine VS_step (S_storeP hp co25 rfl rfl rfl (.there (.there (.here))) ?_) rfl
    refine VS_nil ?_
    refine QS_then ?_
    refine TS_region ?_
    refine VS_pure (P_move rfl) rfl rfl rfl ?_
    refine VS_pure (P_move rfl) rfl rfl rfl ?_
    refine VS_pure (P_nilCheck rfl) rfl rfl rfl ?_
    refine VS_read (S_loadP hp sg25 rfl (.there (.there (.here)))) rfl rfl rfl ?_
    refine VS_pure (P_move rfl) rfl rfl rfl ?_
    have hx1 : (xs.map val).length = xs.length := List.length_map ..
    refine VS_fact (own_isSome (A := A1) (.there (.there (.there .here))) (by show 0 < (xs.map val ++ [(iV 0)]).length; simp)) (fun hA1 => ?_)
    refine VS_pure (P_indexAddr1N ez25 rfl rfl hA1 (by omega)) rfl rfl rfl ?_
    refine VS_step (S_callPVd (p := [.pointer (some ⟨bc, 0, none⟩)]) (q := []) (vs := [.pointer (some ((sa A1).add xs.length))]) cl47 rfl rfl (.cons (.there .here) (.cons (.there (.there .here)) .nil)) (fun m' hm he => hone m' (fun v => own 3 1 A1 (xs.length + 1) c1 (xs.map val ++ [v])) ((sa A1).add xs.length) hm (by have := Plc.last (e := 3) (k := xs.length + 1) (c := c1) (A := A1) (xs := xs.map val); rw [hx1] at this; exact this) a2 ha2) rfl ?_ ?_) rfl
    · rintro v L' ⟨k, hk, rfl⟩
      refine QS_block_pan ?_
      refine QS_then_pan ?_
      refine QS_round4_pan ?_
      refine QS_block_pan ?_
      exact QS_pan [] (Pick.nil _) ⟨k, by rw [hpm, pN_stop hlt hpn hk], rfl⟩
    rintro v L' ⟨x, a3, hx, ha3, rfl, rfl⟩
    dsimp only [curR]
    refine VS_nil ?_
    refine QS_block ?_
    refine QS_then ?_
    refine TS_region ?_
    refine VS_pure (P_add rfl rfl (w64 (by omega) (by omega))) rfl rfl rfl ?_
    refine VS_pure (P_move rfl) rfl rfl rfl ?_
    refine VS_nil ?_
    refine QS_round4 (Le.refl _) (xs.length + 1) A1 c1 (xs ++ [x], a3) ⟨rfl, rfl, rfl, rfl, rfl, trivial⟩ ?_ ⟨hlt, by simp, ha3, pN_go hpn hx⟩ (by omega)
    simp only [List.length_append, List.length_singleton, List.map_append, List.map_cons, List.map_nil]
    exact .cons .here (.cons (.there (.there .here)) (.cons .here (.nil _)))
  · refine TS_seq ?_
    refine TS_region ?_
    refine VS_pure (df (P_lss rfl rfl) (by omega)) rfl rfl rfl ?_
    refine VS_nil ?_
    refine QS_then ?_
    refine TS_seq ?_
    refine TS_false rfl ?_
    refine TS_exit ?_
    refine QS_then_exit ?_
    refine QS_round4_exit ?_
    refine QS_block_here ?_
    have hj' : xs.length = n := by omega
    rw [hj'] at hpn
    exact QS_retPN [] trivial [_, _, _] (Pick.refl _) ⟨xs, a2, A', c', by rw [hpm, hpn], ha2, by omega, rfl, rfl⟩
set_option maxHeartbeats 8000000 in
theorem manyRS {α : Type} {m : Mp} {bc : Nat} {A a0 : Option Addr} {c cz : Nat} {b : List UInt8} {la : Addr} {E : Value → Ent} {p : Prs α} {val : α → Value} {each : Nat} (hp : Plc la E) (hr : Rd m A (b.map byteV)) (hb : b.length ≤ 1099511627776) (hea : each ≤ 43)
    (hone : ∀ m' (E' : Value → Ent) (a' : Addr), Le m m' → Plc a' E' → RC 48 bc [.pointer (some ⟨bc, 0, none⟩), .pointer (some a')] m' A c b E' (sV []) p val) :
    MC 49 bc [.pointer (some ⟨bc, 0, none⟩), .pointer (some la), .int .i64 (each : Nat), .func (.func 48) [.pointer (some ⟨bc, 0, none⟩)].toArray [].toArray] m A c b E (.slice a0 0 cz) (pMany each p) 9 1 (fun xs => xs.map val) := by
  intro at_ hat
  refine CSP_of [] Try.func49 rfl rfl rfl ?_
  refine TS_seq ?_
  refine TS_region ?_
  refine VS_pure (P_move rfl) rfl rfl rfl ?_
  refine VS_pure (P_move rfl) rfl rfl rfl ?_
  refine VS_pure (P_nilCheck rfl) rfl rfl rfl ?_
  refine VS_read (S_loadP hp sg23 rfl (.there (.here))) rfl rfl rfl ?_
  refine VS_pure (P_len il23 rfl) rfl rfl rfl ?_
  refine VS_pure (P_move rfl) rfl rfl rfl ?_
  refine VS_step (S_callP cl62 rfl (.cons .here .nil) (fun m' hm he => sizeR (hr.mono hm) hb hea at_ hat) rfl ?_ ?_) rfl
  · rintro v L' ⟨k, hk, rfl⟩
    refine QS_then_pan ?_
    exact QS_pan [] (Pick.nil _) ⟨k, by rw [pMany, hk]; rfl, rfl⟩
  rintro v L' ⟨n, a1, hn, ha1, hn2, hn3, rfl, rfl⟩
  have hpm : pMany each p b at_ = pN p n b a1 := by rw [pMany, hn]; rfl
  dsimp only [curR]
  refine VS_pure (P_assign rfl) rfl rfl rfl ?_
  refine VS_nil ?_
  refine QS_then ?_
  refine TS_seq ?_
  refine TS_seq ?_
  refine TS_region ?_
  refine VS_pure (P_move rfl) rfl rfl rfl ?_
  refine VS_pure (P_nilCheck rfl) rfl rfl rfl ?_
  refine VS_pure (P_fieldAddr0 fo86_2 rfl) rfl rfl rfl ?_
  refine VS_read (S_loadB sg4 rfl (.here) rfl) rfl rfl rfl ?_
  refine VS_nil ?_
  refine QS_then ?_
  refine TS_true rfl ?_
  refine TS_region ?_
  refine VS_pure (P_move rfl) rfl rfl rfl ?_
  refine VS_pure (P_nilCheck rfl) rfl rfl rfl ?_
  refine VS_step (S_storeP hp co23 rfl rfl rfl (.there (.here)) ?_) rfl
  refine VS_nil ?_
  refine QS_then ?_
  refine TS_seq ?_
  refine TS_region ?_
  refine VS_pure (P_move rfl) rfl rfl rfl ?_
  refine VS_pure (P_move rfl) rfl rfl rfl ?_
  refine VS_nil ?_
  refine QS_then ?_
  refine TS_block ?_
  refine TS_nilOwn 9 1 ?_
  refine TS_loop4 (β := List α × Nat) (fun j A' c' _ => [(0, .pointer (some ⟨bc, 0, none⟩)), (1, .pointer (some la)), (3, .func (.func 48) [.pointer (some ⟨bc, 0, none⟩)].toArray [].toArray), (24, .int .i64 (n : Nat)), (25, .int .i64 (j : Nat))]) (fun j A' c' s => [curR bc A c b.length s.2, E (.slice A' s.1.length c'), own 9 1 A' s.1.length c' (s.1.map val)]) (fun j s => j ≤ n ∧ s.1.length = j ∧ s.2 ≤ b.length ∧ pN p j b a1 = .ok s.1 s.2) (fun j => n - j) 0 none 0 ([], a1) ⟨rfl, rfl, rfl, rfl, rfl, trivial⟩ (.cons (.there .here) (.cons (.there .here) (.cons .here (.nil _)))) ⟨Nat.zero_le _, rfl, ha1, rfl⟩ ?_
  rintro j A' c' ⟨xs, a2⟩ ⟨hj, hl, ha2, hpn⟩
  dsimp only at hl ha2 hpn ⊢
  subst hl
  dsimp only [curR]
  by_cases hlt : xs.length < n
  · refine TS_seq ?_
    refine TS_region ?_
    refine VS_pure (dt (P_lss rfl rfl) (by omega)) rfl rfl rfl ?_
    refine VS_nil ?_
    refine QS_then ?_
    refine TS_seq ?_
    refine TS_true rfl ?_
    refine TS_skip ?_
    refine QS_then ?_
    refine TS_seq ?_
    refine TS_block ?_
    refine TS_seq ?_
    refine TS_region ?_
    refine VS_pure (P_move rfl) rfl rfl rfl ?_
    refine VS_pure (P_assign rfl) rfl rfl rfl ?_
    refine VS_nil ?_
    refine QS_then ?_
    refine TS_seq ?_
    refine TS_seq ?_
    refine TS_region ?_
    refine VS_pure (P_move rfl) rfl rfl rfl ?_
    refine VS_pure (P_nilCheck rfl) rfl rfl rfl ?_
    refine VS_pure (P_fieldAddr0 fo86_2 rfl) rfl rfl rfl ?_
    refine VS_read (S_loadB sg4 rfl (.here) rfl) rfl rfl rfl ?_
    refine VS_nil ?_
    refine QS_then ?_
    refine TS_true rfl ?_
    refine TS_seq ?_
    refine TS_region ?_
    refine VS_pure (P_assign rfl) rfl rfl rfl ?_
    refine VS_nil ?_
    refine QS_then ?_
    refine TS_region ?_
    refine VS_pure (P_move rfl) rfl rfl rfl ?_
    refine VS_pure (P_move rfl) rfl rfl rfl ?_
    refine VS_pure (P_nilCheck rfl) rfl rfl rfl ?_
    refine VS_read (S_loadP hp sg23 rfl (.there (.here))) rfl rfl rfl ?_
    refine VS_pure (P_move rfl) rfl rfl rfl ?_
    refine VS_step (S_buildSlice sl23 rfl rfl rfl rfl (fun b1 => ?_)) rfl
    refine VS_step (S_append sl23 rfl rfl rfl rfl (.here) (fun _ _ => (.there (.there (.there (.here))))) rfl rfl (by first | omega | (simp only [maxLen]; omega)) (by omega) rfl (fun A1 c1 => ?_)) rfl
    refine VS_pure (P_nilCheck rfl) rfl rfl rfl ?_
    refine VS_step (S_storeP hp co23 rfl rfl rfl (.there (.there (.here))) ?_) rfl
    refine VS_nil ?_
    refine QS_then ?_
    refine TS_region ?_
    refine VS_pure (P_move rfl) rfl rfl rfl ?_
    refine VS_pure (P_move rfl) rfl rfl rfl ?_
    refine VS_pure (P_nilCheck rfl) rfl rfl rfl ?_
    refine VS_read (S_loadP hp sg23 rfl (.there (.there (.here)))) rfl rfl rfl ?_
    refine VS_pure (P_move rfl) rfl rfl rfl ?_
    have hx1 : (xs.map val).length = xs.length := List.length_map ..
    refine VS_fact (own_isSome (A := A1) (.there (.there (.there .here))) (by show 0 < (xs.map val ++ [(sV [])]).length; simp)) (fun hA1 => ?_)
    refine VS_pure (P_indexAddr1N ez23 rfl rfl hA1 (by omega)) rfl rfl rfl ?_
    refine VS_step (S_callPVd (p := [.pointer (some ⟨bc, 0, none⟩)]) (q := []) (vs := [.pointer (some ((sa A1).add xs.length))]) cl48 rfl rfl (.cons (.there .here) (.cons (.there (.there .here)) .nil)) (fun m' hm he => hone m' (fun v => own 9 1 A1 (xs.length + 1) c1 (xs.map val ++ [v])) ((sa A1).add xs.length) hm (by have := Plc.last (e := 9) (k := xs.length + 1) (c := c1) (A := A1) (xs := xs.map val); rw [hx1] at this; exact this) a2 ha2) rfl ?_ ?_) rfl
    · rintro v L' ⟨k, hk, rfl⟩
      refine QS_block_pan ?_
      refine QS_then_pan ?_
      refine QS_round4_pan ?_
      refine QS_block_pan ?_
      exact QS_pan [] (Pick.nil _) ⟨k, by rw [hpm, pN_stop hlt hpn hk], rfl⟩
    rintro v L' ⟨x, a3, hx, ha3, rfl, rfl⟩
    dsimp only [curR]
    refine VS_nil ?_
    refine QS_block ?_
    refine QS_then ?_
    refine TS_region ?_
    refine VS_pure (P_add rfl rfl (w64 (by omega) (by omega))) rfl rfl rfl ?_
    refine VS_pure (P_move rfl) rfl rfl rfl ?_
    refine VS_nil ?_
    refine QS_round4 (Le.refl _) (xs.length + 1) A1 c1 (xs ++ [x], a3) ⟨rfl, rfl, rfl, rfl, rfl, trivial⟩ ?_ ⟨hlt, by simp, ha3, pN_go hpn hx⟩ (by omega)
    simp only [List.length_append, List.length_singleton, List.map_append, List.map_cons, List.map_nil]
    exact .cons .here (.cons (.there (.there .here)) (.cons .here (.nil _)))
  · refine TS_seq ?_
    refine TS_region ?_
    refine VS_pure (df (P_lss rfl rfl) (by omega)) rfl rfl rfl ?_
    refine VS_nil ?_
    refine QS_then ?_
    refine TS_seq ?_
    refine TS_false rfl ?_
    refine TS_exit ?_
    refine QS_then_exit ?_
    refine QS_round4_exit ?_
    refine QS_block_here ?_
    have hj' : xs.length = n := by omega
    rw [hj'] at hpn
    exact QS_retPN [] trivial [_, _, _] (Pick.refl _) ⟨xs, a2, A', c', by rw [hpm, hpn], ha2, by omega, rfl, rfl⟩
end Go.Proofs.Ytbpihgphicmdiaa
