/- A part of the proof: contracts of functions of the program. No condition. -/
import Derived.Test.YtbpihgphicmdiaaWiJ
namespace Go.Proofs.Ytbpihgphicmdiaa
open Go.Eng Wi
set_option maxRecDepth 100000
/-- a function of the cursor that writes: what it writes, or that it panics -/
def WC (f : FuncId) (bc : Nat) (args : List Value) (m : Mp) (Bd : Nat) (r : Option (List UInt8)) : Prop :=
  ∀ (A : Option Addr) (c : Nat) (out : List UInt8), out.length < Bd → CSP Try.prog f args m (curE bc A c out) (fun v L' => ∃ e, r = some e ∧ WPost bc (out ++ e) v L') (fun v _ => r = none ∧ ∃ at_, v = wrongV at_)
theorem byteC {m : Mp} {bc : Nat} {a : Addr} {b : UInt8} (hx : Wc m a (byteV b)) : WC 24 bc [.pointer (some ⟨bc, 0, none⟩), .pointer (some a)] m 549755813888 (some [b]) :=
  fun A c out hl => ((byteW (A := A) (c := c) hx (by omega)).mono fun v L' h => ⟨_, rfl, h⟩).toP
theorem numC {m : Mp} {bc : Nat} {a : Addr} {n : Int} (hx : Wc m a (iV n)) (hn : -9223372036854775808 ≤ n ∧ n ≤ 9223372036854775807) : WC 47 bc [.pointer (some ⟨bc, 0, none⟩), .pointer (some a)] m 549755813888 (some (be8 n)) :=
  fun A c out hl => ((numW (A := A) (c := c) hx hn.1 hn.2 hl).mono fun v L' h => ⟨_, rfl, h⟩).toP
def wSmall (op : Int) : Option (List UInt8) := if 0 ≤ op then some [ub op] else none
theorem CSP.mono {P : Program} {f : FuncId} {args : List Value} {m : Mp} {pre : List Ent} {post post' ppost ppost' : Value → List Ent → Prop} (hc : CSP P f args m pre post ppost) (h1 : ∀ v L', post v L' → post' v L') (h2 : ∀ v L', ppost v L' → ppost' v L') : CSP P f args m pre post' ppost' :=
  fun h hs x d => (hc h hs x d).mono fun _ _ ⟨v, h', d', e, k⟩ => ⟨v, h', d', e, k.imp (fun ⟨a, L', b, c⟩ => ⟨a, L', h1 _ _ b, c⟩) (fun ⟨a, L', b, c⟩ => ⟨a, L', h2 _ _ b, c⟩)⟩
theorem smallC {m : Mp} {bc : Nat} {a : Addr} {op : Int} (hx : Wc m a (.int .i8 op)) (ho : -128 ≤ op ∧ op ≤ 127) : WC 63 bc [.pointer (some ⟨bc, 0, none⟩), .pointer (some a)] m 549755813888 (wSmall op) :=
  fun A c out hl => CSP.mono (smallW (A := A) (c := c) hx ho.1 ho.2 (by omega)) (fun v L' h => ⟨_, by rw [wSmall, if_pos h.1], h.2⟩) (fun v _ h => ⟨by rw [wSmall, if_neg (by omega)], h.2⟩)
def encL {α : Type} (enc : α → Option (List UInt8)) : List α → Option (List UInt8)
  | [] => some []
  | x :: r => (enc x).bind fun e => (encL enc r).map fun t => e ++ t
theorem encL_app {α : Type} (enc : α → Option (List UInt8)) (l2 : List α) : ∀ l : List α, encL enc (l ++ l2) = (encL enc l).bind fun e => (encL enc l2).map fun t => e ++ t
  | [] => by simp [encL]
  | y :: r => by
    simp only [List.cons_append, encL, encL_app enc l2 r]
    cases enc y <;> simp
    cases encL enc r <;> simp
    cases encL enc l2 <;> simp
theorem encL_snoc {α : Type} (enc : α → Option (List UInt8)) (x : α) (l : List α) : encL enc (l ++ [x]) = (encL enc l).bind fun e => (enc x).map fun t => e ++ t := by
  rw [encL_app]
  simp only [encL]
  cases enc x <;> simp
theorem encL_some {α : Type} (f : α → List UInt8) : ∀ l : List α, encL (fun x => some (f x)) l = some (l.flatMap f)
  | [] => rfl
  | x :: r => by simp [encL, encL_some f r]
theorem encL_none {α : Type} {enc : α → Option (List UInt8)} {l : List α} {j : Nat} (hj : j < l.length) (h : enc l[j] = none) : encL enc l = none := by
  have : l = l.take j ++ l[j] :: l.drop (j + 1) := by simp
  rw [this, encL_app]
  simp [encL, h]
theorem encL_len {α : Type} {enc : α → Option (List UInt8)} {K : Nat} : ∀ {l : List α} {e : List UInt8}, (∀ x ∈ l, ∀ e, enc x = some e → e.length ≤ K) → encL enc l = some e → e.length ≤ l.length * K
  | [], e, _, h => by simp [encL] at h; subst h; simp
  | x :: r, e, hK, h => by
    simp only [encL] at h
    cases hx : enc x with
    | none => rw [hx] at h; cases h
    | some u =>
      rw [hx] at h
      simp only [Option.bind_some] at h
      cases hr : encL enc r with
      | none => rw [hr] at h; cases h
      | some t =>
        rw [hr] at h
        simp only [Option.map_some, Option.some.injEq] at h
        subst h
        have h1 := hK x (by simp) u hx
        have h2 := encL_len (fun y hy => hK y (by simp [hy])) hr
        simp only [List.length_append, List.length_cons, Nat.add_mul, Nat.one_mul]
        omega
def encMany {α : Type} (enc : α → Option (List UInt8)) (l : List α) : Option (List UInt8) := if l.length ≤ 65535 then (encL enc l).map fun e => sz2 l.length ++ e else none
theorem encMany_len {α : Type} {enc : α → Option (List UInt8)} {K : Nat} {l : List α} {e : List UInt8} (hK : ∀ x ∈ l, ∀ e, enc x = some e → e.length ≤ K) (h : encMany enc l = some e) : e.length ≤ 2 + 65535 * K := by
  unfold encMany at h
  split at h
  · rename_i hl
    cases hr : encL enc l with
    | none => rw [hr] at h; cases h
    | some t =>
      rw [hr] at h
      simp only [Option.map_some, Option.some.injEq] at h
      subst h
      have h1 := encL_len hK hr
      have h2 : l.length * K ≤ 65535 * K := Nat.mul_le_mul_right _ hl
      have h3 : (sz2 l.length).length = 2 := rfl
      simp only [List.length_append]
      omega
  · cases h
theorem encL_take {α : Type} {enc : α → Option (List UInt8)} {l : List α} {j : Nat} (hj : j < l.length) {e u : List UInt8} (he : encL enc (l.take j) = some e) (hu : enc l[j] = some u) : encL enc (l.take (j + 1)) = some (e ++ u) := by
  rw [List.take_add_one, List.getElem?_eq_getElem hj, Option.toList_some, encL_snoc, he, hu]; rfl
set_option maxHeartbeats 8000000 in
theorem manyB {α : Type} {m : Mp} {bc : Nat} {la : Addr} {a : Option Addr} {c0 : Nat} {xs : List α} {enc : α → Option (List UInt8)} {each : Int} {K Bd : Nat} (hv : Wc m la (.slice a xs.length c0)) (hA : 0 < xs.length → a.isSome = true) (hK : ∀ x ∈ xs, ∀ e, enc x = some e → e.length ≤ K)
    (hone : ∀ i (hi : i < xs.length) m', Le m m' → WC 24 bc [.pointer (some ⟨bc, 0, none⟩), .pointer (some ((sa a).add i))] m' Bd (enc xs[i])) (hBd : Bd ≤ 549755813888) (Bd' : Nat) (hBd' : Bd' + 2 + 65535 * K ≤ Bd) (hm : xs.length ≤ 140737488355328) :
    WC 61 bc [.pointer (some ⟨bc, 0, none⟩), .pointer (some la), .int .i64 each, .func (.func 24) [.pointer (some ⟨bc, 0, none⟩)].toArray [].toArray] m Bd' (encMany enc xs) := by
  intro A c out hl
  refine CSP_of [] Try.func61 rfl rfl rfl ?_
  unfold curE
  refine TS_seq ?_
  refine TS_region ?_
  refine VS_pure (P_move rfl) rfl rfl rfl ?_
  refine VS_pure (P_move rfl) rfl rfl rfl ?_
  refine VS_pure (P_nilCheck rfl) rfl rfl rfl ?_
  refine VS_read (S_loadW sg22 rfl hv) rfl rfl rfl ?_
  refine VS_pure (P_len il22 rfl) rfl rfl rfl ?_
  refine VS_pure (P_move rfl) rfl rfl rfl ?_
  refine VS_step (S_callP cl62 rfl (.cons .here (.cons .here .nil)) (fun m' hm he => sizeW (A := A) (c := c) (by omega)) rfl ?_ ?_) rfl
  · rintro v L' ⟨h1, at_, rfl⟩
    refine QS_then_pan ?_
    exact QS_pan [] (Pick.nil _) ⟨by rw [encMany, if_neg (by omega)], at_, rfl⟩
  rintro v L' ⟨hle, rfl, A2, c2, rfl⟩
  unfold curE
  refine VS_pure (P_assign rfl) rfl rfl rfl ?_
  refine VS_nil ?_
  refine QS_then ?_
  refine TS_seq ?_
  refine TS_seq ?_
  refine TS_region ?_
  refine VS_pure (P_move rfl) rfl rfl rfl ?_
  refine VS_pure (P_nilCheck rfl) rfl rfl rfl ?_
  refine VS_pure (P_fieldAddr0 fo86_2 rfl) rfl rfl rfl ?_
  refine VS_read (S_loadB sg4 rfl (.here) rfl) rfl rfl rfl ?_
  refine VS_nil ?_
  refine QS_then ?_
  refine TS_false rfl ?_
  refine TS_skip ?_
  refine QS_then ?_
  refine TS_seq ?_
  refine TS_region ?_
  refine VS_pure (P_move rfl) rfl rfl rfl ?_
  refine VS_pure (P_move rfl) rfl rfl rfl ?_
  refine VS_nil ?_
  refine QS_then ?_
  refine TS_block ?_
  refine TS_loop3 (fun j _ _ => [(0, .pointer (some ⟨bc, 0, none⟩)), (1, .pointer (some la)), (3, .func (.func 24) [.pointer (some ⟨bc, 0, none⟩)].toArray [].toArray), (24, .int .i64 (xs.length : Nat)), (25, .int .i64 (j : Nat))]) (fun j A c => curE bc A c (out ++ sz2 xs.length ++ (encL enc (xs.take j)).getD [])) (fun j => j ≤ xs.length ∧ (encL enc (xs.take j)).isSome = true) (fun j => xs.length - j) 0 A2 c2 ⟨rfl, rfl, rfl, rfl, rfl, trivial⟩ (by simp only [List.take_zero, encL, Option.getD_some, List.append_nil]; exact Pick.refl _) ⟨Nat.zero_le _, rfl⟩ ?_
  rintro j A3 c3 ⟨hj, hs⟩
  obtain ⟨ej, hej⟩ := Option.isSome_iff_exists.1 hs
  rw [hej, Option.getD_some]
  unfold curE
  by_cases hlt : j < xs.length
  · have hA' : a.isSome = true := hA (by omega)
    have hlj : ej.length ≤ 65535 * K := by
      have h1 := encL_len (fun x hx => hK x (List.mem_of_mem_take hx)) hej
      rw [List.length_take] at h1
      have h2 : min j xs.length * K ≤ 65535 * K := Nat.mul_le_mul_right _ (by omega)
      omega
    refine TS_seq ?_
    refine TS_region ?_
    refine VS_pure (dt (P_lss rfl rfl) (by omega)) rfl rfl rfl ?_
    refine VS_nil ?_
    refine QS_then ?_
    refine TS_seq ?_
    refine TS_true rfl ?_
    refine TS_skip ?_
    refine QS_then ?_
    refine TS_seq ?_
    refine TS_block ?_
    refine TS_seq ?_
    refine TS_region ?_
    refine VS_pure (P_move rfl) rfl rfl rfl ?_
    refine VS_pure (P_assign rfl) rfl rfl rfl ?_
    refine VS_nil ?_
    refine QS_then ?_
    refine TS_seq ?_
    refine TS_seq ?_
    refine TS_region ?_
    refine VS_pure (P_move rfl) rfl rfl rfl ?_
    refine VS_pure (P_nilCheck rfl) rfl rfl rfl ?_
    refine VS_pure (P_fieldAddr0 fo86_2 rfl) rfl rfl rfl ?_
    refine VS_read (S_loadB sg4 rfl (.here) rfl) rfl rfl rfl ?_
    refine VS_nil ?_
    refine QS_then ?_
    refine TS_false rfl ?_
    refine TS_skip ?_
    refine QS_then ?_
    refine TS_region ?_
    refine VS_pure (P_move rfl) rfl rfl rfl ?_
    refine VS_pure (P_move rfl) rfl rfl rfl ?_
    refine VS_pure (P_nilCheck rfl) rfl rfl rfl ?_
    refine VS_read (S_loadW sg22 rfl hv) rfl rfl rfl ?_
    refine VS_pure (P_move rfl) rfl rfl rfl ?_
    refine VS_pure (P_indexAddr1N ez22 rfl rfl hA' (by omega)) rfl rfl rfl ?_
    refine VS_step (S_callPVd (p := [.pointer (some ⟨bc, 0, none⟩)]) (q := []) (vs := [.pointer (some ((sa a).add j))]) cl24 rfl rfl (.cons .here (.cons .here .nil)) (fun m' hm he => hone j hlt m' hm A3 c3 (out ++ sz2 xs.length ++ ej) (by simp [sz2]; omega)) rfl ?_ ?_) rfl
    · rintro v L' ⟨h1, at_, rfl⟩
      refine QS_block_pan ?_
      refine QS_then_pan ?_
      refine QS_round3_pan ?_
      refine QS_block_pan ?_
      exact QS_pan [] (Pick.nil _) ⟨by rw [encMany, if_pos hle, encL_none hlt h1]; rfl, at_, rfl⟩
    rintro v L' ⟨e, h1, rfl, A4, c4, rfl⟩
    unfold curE
    refine VS_nil ?_
    refine QS_block ?_
    refine QS_then ?_
    refine TS_region ?_
    refine VS_pure (P_add rfl rfl (w64 (by omega) (by omega))) rfl rfl rfl ?_
    refine VS_pure (P_move rfl) rfl rfl rfl ?_
    refine VS_nil ?_
    refine QS_round3 (j + 1) A4 c4 ⟨rfl, rfl, rfl, rfl, rfl, trivial⟩ ?_ ⟨hlt, by rw [encL_take hlt hej h1]; rfl⟩ (by omega)
    rw [encL_take hlt hej h1, Option.getD_some, ← List.append_assoc]
    exact .cons .here (.cons .here (.nil _))
  · refine TS_seq ?_
    refine TS_region ?_
    refine VS_pure (df (P_lss rfl rfl) (by omega)) rfl rfl rfl ?_
    refine VS_nil ?_
    refine QS_then ?_
    refine TS_seq ?_
    refine TS_false rfl ?_
    refine TS_exit ?_
    refine QS_then_exit ?_
    refine QS_round3_exit ?_
    refine QS_block_here ?_
    have hj' : j = xs.length := by omega
    subst hj'
    rw [List.take_length] at hej
    exact QS_retPN [] trivial (curE bc A3 c3 (out ++ (sz2 xs.length ++ ej))) (by rw [← List.append_assoc]; exact Pick.refl _) ⟨sz2 xs.length ++ ej, by rw [encMany, if_pos hle, hej]; rfl, rfl, _, _, rfl⟩
set_option maxHeartbeats 8000000 in
theorem manyI {α : Type} {m : Mp} {bc : Nat} {la : Addr} {a : Option Addr} {c0 : Nat} {xs : List α} {enc : α → Option (List UInt8)} {each : Int} {K Bd : Nat} (hv : Wc m la (.slice a xs.length c0)) (hA : 0 < xs.length → a.isSome = true) (hK : ∀ x ∈ xs, ∀ e, enc x = some e → e.length ≤ K)
    (hone : ∀ i (hi : i < xs.length) m', Le m m' → WC 47 bc [.pointer (some ⟨bc, 0, none⟩), .pointer (some ((sa a).add i))] m' Bd (enc xs[i])) (hBd : Bd ≤ 549755813888) (Bd' : Nat) (hBd' : Bd' + 2 + 65535 * K ≤ Bd) (hm : xs.length ≤ 140737488355328) :
    WC 64 bc [.pointer (some ⟨bc, 0, none⟩), .pointer (some la), .int .i64 each, .func (.func 47) [.pointer (some ⟨bc, 0, none⟩)].toArray [].toArray] m Bd' (encMany enc xs) := by
  intro A c out hl
  refine CSP_of [] Try.func64 rfl rfl rfl ?_
  unfold curE
  refine TS_seq ?_
  refine TS_region ?_
  refine VS_pure (P_move rfl) rfl rfl rfl ?_
  refine VS_pure (P_move rfl) rfl rfl rfl ?_
  refine VS_pure (P_nilCheck rfl) rfl rfl rfl ?_
  refine VS_read (S_loadW sg25 rfl hv) rfl rfl rfl ?_
  refine VS_pure (P_len il25 rfl) rfl rfl rfl ?_
  refine VS_pure (P_move rfl) rfl rfl rfl ?_
  refine VS_step (S_callP cl62 rfl (.cons .here (.cons .here .nil)) (fun m' hm he => sizeW (A := A) (c := c) (by omega)) rfl ?_ ?_) rfl
  · rintro v L' ⟨h1, at_, rfl⟩
    refine QS_then_pan ?_
    exact QS_pan [] (Pick.nil _) ⟨by rw [encMany, if_neg (by omega)], at_, rfl⟩
  rintro v L' ⟨hle, rfl, A2, c2, rfl⟩
  unfold curE
  refine VS_pure (P_assign rfl) rfl rfl rfl ?_
  refine VS_nil ?_
  refine QS_then ?_
  refine TS_seq ?_
  refine TS_seq ?_
  refine TS_region ?_
  refine VS_pure (P_move rfl) rfl rfl rfl ?_
  refine VS_pure (P_nilCheck rfl) rfl rfl rfl ?_
  refine VS_pure (P_fieldAddr0 fo86_2 rfl) rfl rfl rfl ?_
  refine VS_read (S_loadB sg4 rfl (.here) rfl) rfl rfl rfl ?_
  refine VS_nil ?_
  refine QS_then ?_
  refine TS_false rfl ?_
  refine TS_skip ?_
  refine QS_then ?_
  refine TS_seq ?_
  refine TS_region ?_
  refine VS_pure (P_move rfl) rfl rfl rfl ?_
  refine VS_pure (P_move rfl) rfl rfl rfl ?_
  refine VS_nil ?_
  refine QS_then ?_
  refine TS_block ?_
  refine TS_loop3 (fun j _ _ => [(0, .pointer (some ⟨bc, 0, none⟩)), (1, .pointer (some la)), (3, .func (.func 47) [.pointer (some ⟨bc, 0, none⟩)].toArray [].toArray), (24, .int .i64 (xs.length : Nat)), (25, .int .i64 (j : Nat))]) (fun j A c => curE bc A c (out ++ sz2 xs.length ++ (encL enc (xs.take j)).getD [])) (fun j => j ≤ xs.length ∧ (encL enc (xs.take j)).isSome = true) (fun j => xs.length - j) 0 A2 c2 ⟨rfl, rfl, rfl, rfl, rfl, trivial⟩ (by simp only [List.take_zero, encL, Option.getD_some, List.append_nil]; exact Pick.refl _) ⟨Nat.zero_le _, rfl⟩ ?_
  rintro j A3 c3 ⟨hj, hs⟩
  obtain ⟨ej, hej⟩ := Option.isSome_iff_exists.1 hs
  rw [hej, Option.getD_some]
  unfold curE
  by_cases hlt : j < xs.length
  · have hA' : a.isSome = true := hA (by omega)
    have hlj : ej.length ≤ 65535 * K := by
      have h1 := encL_len (fun x hx => hK x (List.mem_of_mem_take hx)) hej
      rw [List.length_take] at h1
      have h2 : min j xs.length * K ≤ 65535 * K := Nat.mul_le_mul_right _ (by omega)
      omega
    refine TS_seq ?_
    refine TS_region ?_
    refine VS_pure (dt (P_lss rfl rfl) (by omega)) rfl rfl rfl ?_
    refine VS_nil ?_
    refine QS_then ?_
    refine TS_seq ?_
    refine TS_true rfl ?_
    refine TS_skip ?_
    refine QS_then ?_
    refine TS_seq ?_
    refine TS_block ?_
    refine TS_seq ?_
    refine TS_region ?_
    refine VS_pure (P_move rfl) rfl rfl rfl ?_
    refine VS_pure (P_assign rfl) rfl rfl rfl ?_
    refine VS_nil ?_
    refine QS_then ?_
    refine TS_seq ?_
    refine TS_seq ?_
    refine TS_region ?_
    refine VS_pure (P_move rfl) rfl rfl rfl ?_
    refine VS_pure (P_nilCheck rfl) rfl rfl rfl ?_
    refine VS_pure (P_fieldAddr0 fo86_2 rfl) rfl rfl rfl ?_
    refine VS_read (S_loadB sg4 rfl (.here) rfl) rfl rfl rfl ?_
    refine VS_nil ?_
    refine QS_then ?_
    refine TS_false rfl ?_
    refine TS_skip ?_
    refine QS_then ?_
    refine TS_region ?_
    refine VS_pure (P_move rfl) rfl rfl rfl ?_
    refine VS_pure (P_move rfl) rfl rfl rfl ?_
    refine VS_pure (P_nilCheck rfl) rfl rfl rfl ?_
    refine VS_read (S_loadW sg25 rfl hv) rfl rfl rfl ?_
    refine VS_pure (P_move rfl) rfl rfl rfl ?_
    refine VS_pure (P_indexAddr1N ez25 rfl rfl hA' (by omega)) rfl rfl rfl ?_
    refine VS_step (S_callPVd (p := [.pointer (some ⟨bc, 0, none⟩)]) (q := []) (vs := [.pointer (some ((sa a).add j))]) cl47 rfl rfl (.cons .here (.cons .here .nil)) (fun m' hm he => hone j hlt m' hm A3 c3 (out ++ sz2 xs.length ++ ej) (by simp [sz2]; omega)) rfl ?_ ?_) rfl
    · rintro v L' ⟨h1, at_, rfl⟩
      refine QS_block_pan ?_
      refine QS_then_pan ?_
      refine QS_round3_pan ?_
      refine QS_block_pan ?_
      exact QS_pan [] (Pick.nil _) ⟨by rw [encMany, if_pos hle, encL_none hlt h1]; rfl, at_, rfl⟩
    rintro v L' ⟨e, h1, rfl, A4, c4, rfl⟩
    unfold curE
    refine VS_nil ?_
    refine QS_block ?_
    refine QS_then ?_
    refine TS_region ?_
    refine VS_pure (P_add rfl rfl (w64 (by omega) (by omega))) rfl rfl rfl ?_
    refine VS_pure (P_move rfl) rfl rfl rfl ?_
    refine VS_nil ?_
    refine QS_round3 (j + 1) A4 c4 ⟨rfl, rfl, rfl, rfl, rfl, trivial⟩ ?_ ⟨hlt, by rw [encL_take hlt hej h1]; rfl⟩ (by omega)
    rw [encL_take hlt hej h1, Option.getD_some, ← List.append_assoc]
    exact .cons .here (.cons .here (.nil _))
  · refine TS_seq ?_
    refine TS_region ?_
    refine VS_pure (df (P_lss rfl rfl) (by omega)) rfl rfl rfl ?_
    refine VS_nil ?_
    refine QS_then ?_
    refine TS_seq ?_
    refine TS_false rfl ?_
    refine TS_exit ?_
    refine QS_then_exit ?_
    refine QS_round3_exit ?_
    refine QS_block_here ?_
    have hj' : j = xs.length := by omega
    subst hj'
    rw [List.take_length] at hej
    exact QS_retPN [] trivial (curE bc A3 c3 (out ++ (sz2 xs.length ++ ej))) (by rw [← List.append_assoc]; exact Pick.refl _) ⟨sz2 xs.length ++ ej, by rw [encMany, if_pos hle, hej]; rfl, rfl, _, _, rfl⟩
set_option maxHeartbeats 8000000 in
theorem manyP {α : Type} {m : Mp} {bc : Nat} {la : Addr} {a : Option Addr} {c0 : Nat} {xs : List α} {enc : α → Option (List UInt8)} {each : Int} {K Bd : Nat} (hv : Wc m la (.slice a xs.length c0)) (hA : 0 < xs.length → a.isSome = true) (hK : ∀ x ∈ xs, ∀ e, enc x = some e → e.length ≤ K)
    (hone : ∀ i (hi : i < xs.length) m', Le m m' → WC 66 bc [.pointer (some ⟨bc, 0, none⟩), .pointer (some ((sa a).add (i * 2)))] m' Bd (enc xs[i])) (hBd : Bd ≤ 549755813888) (Bd' : Nat) (hBd' : Bd' + 2 + 65535 * K ≤ Bd) (hm : xs.length ≤ 140737488355328) :
    WC 65 bc [.pointer (some ⟨bc, 0, none⟩), .pointer (some la), .int .i64 each, .func (.func 66) [.pointer (some ⟨bc, 0, none⟩)].toArray [].toArray] m Bd' (encMany enc xs) := by
  intro A c out hl
  refine CSP_of [] Try.func65 rfl rfl rfl ?_
  unfold curE
  refine TS_seq ?_
  refine TS_region ?_
  refine VS_pure (P_move rfl) rfl rfl rfl ?_
  refine VS_pure (P_move rfl) rfl rfl rfl ?_
  refine VS_pure (P_nilCheck rfl) rfl rfl rfl ?_
  refine VS_read (S_loadW sg26 rfl hv) rfl rfl rfl ?_
  refine VS_pure (P_len il26 rfl) rfl rfl rfl ?_
  refine VS_pure (P_move rfl) rfl rfl rfl ?_
  refine VS_step (S_callP cl62 rfl (.cons .here (.cons .here .nil)) (fun m' hm he => sizeW (A := A) (c := c) (by omega)) rfl ?_ ?_) rfl
  · rintro v L' ⟨h1, at_, rfl⟩
    refine QS_then_pan ?_
    exact QS_pan [] (Pick.nil _) ⟨by rw [encMany, if_neg (by omega)], at_, rfl⟩
  rintro v L' ⟨hle, rfl, A2, c2, rfl⟩
  unfold curE
  refine VS_pure (P_assign rfl) rfl rfl rfl ?_
  refine VS_nil ?_
  refine QS_then ?_
  refine TS_seq ?_
  refine TS_seq ?_
  refine TS_region ?_
  refine VS_pure (P_move rfl) rfl rfl rfl ?_
  refine VS_pure (P_nilCheck rfl) rfl rfl rfl ?_
  refine VS_pure (P_fieldAddr0 fo86_2 rfl) rfl rfl rfl ?_
  refine VS_read (S_loadB sg4 rfl (.here) rfl) rfl rfl rfl ?_
  refine VS_nil ?_
  refine QS_then ?_
  refine TS_false rfl ?_
  refine TS_skip ?_
  refine QS_then ?_
  refine TS_seq ?_
  refine TS_region ?_
  refine VS_pure (P_move rfl) rfl rfl rfl ?_
  refine VS_pure (P_move rfl) rfl rfl rfl ?_
  refine VS_nil ?_
  refine QS_then ?_
  refine TS_block ?_
  refine TS_loop3 (fun j _ _ => [(0, .pointer (some ⟨bc, 0, none⟩)), (1, .pointer (some la)), (3, .func (.func 66) [.pointer (some ⟨bc, 0, none⟩)].toArray [].toArray), (24, .int .i64 (xs.length : Nat)), (25, .int .i64 (j : Nat))]) (fun j A c => curE bc A c (out ++ sz2 xs.length ++ (encL enc (xs.take j)).getD [])) (fun j => j ≤ xs.length ∧ (encL enc (xs.take j)).isSome = true) (fun j => xs.length - j) 0 A2 c2 ⟨rfl, rfl, rfl, rfl, rfl, trivial⟩ (by simp only [List.take_zero, encL, Option.getD_some, List.append_nil]; exact Pick.refl _) ⟨Nat.zero_le _, rfl⟩ ?_
  rintro j A3 c3 ⟨hj, hs⟩
  obtain ⟨ej, hej⟩ := Option.isSome_iff_exists.1 hs
  rw [hej, Option.getD_some]
  unfold curE
  by_cases hlt : j < xs.length
  · have hA' : a.isSome = true := hA (by omega)
    have hlj : ej.length ≤ 65535 * K := by
      have h1 := encL_len (fun x hx => hK x (List.mem_of_mem_take hx)) hej
      rw [List.length_take] at h1
      have h2 : min j xs.length * K ≤ 65535 * K := Nat.mul_le_mul_right _ (by omega)
      omega
    refine TS_seq ?_
    refine TS_region ?_
    refine VS_pure (dt (P_lss rfl rfl) (by omega)) rfl rfl rfl ?_
    refine VS_nil ?_
    refine QS_then ?_
    refine TS_seq ?_
    refine TS_true rfl ?_
    refine TS_skip ?_
    refine QS_then ?_
    refine TS_seq ?_
    refine TS_block ?_
    refine TS_seq ?_
    refine TS_region ?_
    refine VS_pure (P_move rfl) rfl rfl rfl ?_
    refine VS_pure (P_assign rfl) rfl rfl rfl ?_
    refine VS_nil ?_
    refine QS_then ?_
    refine TS_seq ?_
    refine TS_seq ?_
    refine TS_region ?_
    refine VS_pure (P_move rfl) rfl rfl rfl ?_
    refine VS_pure (P_nilCheck rfl) rfl rfl rfl ?_
    refine VS_pure (P_fieldAddr0 fo86_2 rfl) rfl rfl rfl ?_
    refine VS_read (S_loadB sg4 rfl (.here) rfl) rfl rfl rfl ?_
    refine VS_nil ?_
    refine QS_then ?_
    refine TS_false rfl ?_
    refine TS_skip ?_
    refine QS_then ?_
    refine TS_region ?_
    refine VS_pure (P_move rfl) rfl rfl rfl ?_
    refine VS_pure (P_move rfl) rfl rfl rfl ?_
    refine VS_pure (P_nilCheck rfl) rfl rfl rfl ?_
    refine VS_read (S_loadW sg26 rfl hv) rfl rfl rfl ?_
    refine VS_pure (P_move rfl) rfl rfl rfl ?_
    refine VS_pure (P_indexAddrN ez26 rfl rfl hA' (by omega)) rfl rfl rfl ?_
    refine VS_step (S_callPVd (p := [.pointer (some ⟨bc, 0, none⟩)]) (q := []) (vs := [.pointer (some ((sa a).add (j * 2)))]) cl66 rfl rfl (.cons .here (.cons .here .nil)) (fun m' hm he => hone j hlt m' hm A3 c3 (out ++ sz2 xs.length ++ ej) (by simp [sz2]; omega)) rfl ?_ ?_) rfl
    · rintro v L' ⟨h1, at_, rfl⟩
      refine QS_block_pan ?_
      refine QS_then_pan ?_
      refine QS_round3_pan ?_
      refine QS_block_pan ?_
      exact QS_pan [] (Pick.nil _) ⟨by rw [encMany, if_pos hle, encL_none hlt h1]; rfl, at_, rfl⟩
    rintro v L' ⟨e, h1, rfl, A4, c4, rfl⟩
    unfold curE
    refine VS_nil ?_
    refine QS_block ?_
    refine QS_then ?_
    refine TS_region ?_
    refine VS_pure (P_add rfl rfl (w64 (by omega) (by omega))) rfl rfl rfl ?_
    refine VS_pure (P_move rfl) rfl rfl rfl ?_
    refine VS_nil ?_
    refine QS_round3 (j + 1) A4 c4 ⟨rfl, rfl, rfl, rfl, rfl, trivial⟩ ?_ ⟨hlt, by rw [encL_take hlt hej h1]; rfl⟩ (by omega)
    rw [encL_take hlt hej h1, Option.getD_some, ← List.append_assoc]
    exact .cons .here (.cons .here (.nil _))
  · refine TS_seq ?_
    refine TS_region ?_
    refine VS_pure (df (P_lss rfl rfl) (by omega)) rfl rfl rfl ?_
    refine VS_nil ?_
    refine QS_then ?_
    refine TS_seq ?_
    refine TS_false rfl ?_
    refine TS_exit ?_
    refine QS_then_exit ?_
    refine QS_round3_exit ?_
    refine QS_block_here ?_
    have hj' : j = xs.length := by omega
    subst hj'
    rw [List.take_length] at hej
    exact QS_retPN [] trivial (curE bc A3 c3 (out ++ (sz2 xs.length ++ ej))) (by rw [← List.append_assoc]; exact Pick.refl _) ⟨sz2 xs.length ++ ej, by rw [encMany, if_pos hle, hej]; rfl, rfl, _, _, rfl⟩
set_option maxHeartbeats 8000000 in
theorem manyS {α : Type} {m : Mp} {bc : Nat} {la : Addr} {a : Option Addr} {c0 : Nat} {xs : List α} {enc : α → Option (List UInt8)} {each : Int} {K Bd : Nat} (hv : Wc m la (.slice a xs.length c0)) (hA : 0 < xs.length → a.isSome = true) (hK : ∀ x ∈ xs, ∀ e, enc x = some e → e.length ≤ K)
    (hone : ∀ i (hi : i < xs.length) m', Le m m' → WC 48 bc [.pointer (some ⟨bc, 0, none⟩), .pointer (some ((sa a).add i))] m' Bd (enc xs[i])) (hBd : Bd ≤ 549755813888) (Bd' : Nat) (hBd' : Bd' + 2 + 65535 * K ≤ Bd) (hm : xs.length ≤ 140737488355328) :
    WC 49 bc [.pointer (some ⟨bc, 0, none⟩), .pointer (some la), .int .i64 each, .func (.func 48) [.pointer (some ⟨bc, 0, none⟩)].toArray [].toArray] m Bd' (encMany enc xs) := by
  intro A c out hl
  refine CSP_of [] Try.func49 rfl rfl rfl ?_
  unfold curE
  refine TS_seq ?_
  refine TS_region ?_
  refine VS_pure (P_move rfl) rfl rfl rfl ?_
  refine VS_pure (P_move rfl) rfl rfl rfl ?_
  refine VS_pure (P_nilCheck rfl) rfl rfl rfl ?_
  refine VS_read (S_loadW sg23 rfl hv) rfl rfl rfl ?_
  refine VS_pure (P_len il23 rfl) rfl rfl rfl ?_
  refine VS_pure (P_move rfl) rfl rfl rfl ?_
  refine VS_step (S_callP cl62 rfl (.cons .here (.cons .here .nil)) (fun m' hm he => sizeW (A := A) (c := c) (by omega)) rfl ?_ ?_) rfl
  · rintro v L' ⟨h1, at_, rfl⟩
    refine QS_then_pan ?_
    exact QS_pan [] (Pick.nil _) ⟨by rw [encMany, if_neg (by omega)], at_, rfl⟩
  rintro v L' ⟨hle, rfl, A2, c2, rfl⟩
  unfold curE
  refine VS_pure (P_assign rfl) rfl rfl rfl ?_
  refine VS_nil ?_
  refine QS_then ?_
  refine TS_seq ?_
  refine TS_seq ?_
  refine TS_region ?_
  refine VS_pure (P_move rfl) rfl rfl rfl ?_
  refine VS_pure (P_nilCheck rfl) rfl rfl rfl ?_
  refine VS_pure (P_fieldAddr0 fo86_2 rfl) rfl rfl rfl ?_
  refine VS_read (S_loadB sg4 rfl (.here) rfl) rfl rfl rfl ?_
  refine VS_nil ?_
  refine QS_then ?_
  refine TS_false rfl ?_
  refine TS_skip ?_
  refine QS_then ?_
  refine TS_seq ?_
  refine TS_region ?_
  refine VS_pure (P_move rfl) rfl rfl rfl ?_
  refine VS_pure (P_move rfl) rfl rfl rfl ?_
  refine VS_nil ?_
  refine QS_then ?_
  refine TS_block ?_
  refine TS_loop3 (fun j _ _ => [(0, .pointer (some ⟨bc, 0, none⟩)), (1, .pointer (some la)), (3, .func (.func 48) [.pointer (some ⟨bc, 0, none⟩)].toArray [].toArray), (24, .int .i64 (xs.length : Nat)), (25, .int .i64 (j : Nat))]) (fun j A c => curE bc A c (out ++ sz2 xs.length ++ (encL enc (xs.take j)).getD [])) (fun j => j ≤ xs.length ∧ (encL enc (xs.take j)).isSome = true) (fun j => xs.length - j) 0 A2 c2 ⟨rfl, rfl, rfl, rfl, rfl, trivial⟩ (by simp only [List.take_zero, encL, Option.getD_some, List.append_nil]; exact Pick.refl _) ⟨Nat.zero_le _, rfl⟩ ?_
  rintro j A3 c3 ⟨hj, hs⟩
  obtain ⟨ej, hej⟩ := Option.isSome_iff_exists.1 hs
  rw [hej, Option.getD_some]
  unfold curE
  by_cases hlt : j < xs.length
  · have hA' : a.isSome = true := hA (by omega)
    have hlj : ej.length ≤ 65535 * K := by
      have h1 := encL_len (fun x hx => hK x (List.mem_of_mem_take hx)) hej
      rw [List.length_take] at h1
      have h2 : min j xs.length * K ≤ 65535 * K := Nat.mul_le_mul_right _ (by omega)
      omega
    refine TS_seq ?_
    refine TS_region ?_
    refine VS_pure (dt (P_lss rfl rfl) (by omega)) rfl rfl rfl ?_
    refine VS_nil ?_
    refine QS_then ?_
    refine TS_seq ?_
    refine TS_true rfl ?_
    refine TS_skip ?_
    refine QS_then ?_
    refine TS_seq ?_
    refine TS_block ?_
    refine TS_seq ?_
    refine TS_region ?_
    refine VS_pure (P_move rfl) rfl rfl rfl ?_
    refine VS_pure (P_assign rfl) rfl rfl rfl ?_
    refine VS_nil ?_
    refine QS_then ?_
    refine TS_seq ?_
    refine TS_seq ?_
    refine TS_region ?_
    refine VS_pure (P_move rfl) rfl rfl rfl ?_
    refine VS_pure (P_nilCheck rfl) rfl rfl rfl ?_
    refine VS_pure (P_fieldAddr0 fo86_2 rfl) rfl rfl rfl ?_
    refine VS_read (S_loadB sg4 rfl (.here) rfl) rfl rfl rfl ?_
    refine VS_nil ?_
    refine QS_then ?_
    refine TS_false rfl ?_
    refine TS_skip ?_
    refine QS_then ?_
    refine TS_region ?_
    refine VS_pure (P_move rfl) rfl rfl rfl ?_
    refine VS_pure (P_move rfl) rfl rfl rfl ?_
    refine VS_pure (P_nilCheck rfl) rfl rfl rfl ?_
    refine VS_read (S_loadW sg23 rfl hv) rfl rfl rfl ?_
    refine VS_pure (P_move rfl) rfl rfl rfl ?_
    refine VS_pure (P_indexAddr1N ez23 rfl rfl hA' (by omega)) rfl rfl rfl ?_
    refine VS_step (S_callPVd (p := [.pointer (some ⟨bc, 0, none⟩)]) (q := []) (vs := [.pointer (some ((sa a).add j))]) cl48 rfl rfl (.cons .here (.cons .here .nil)) (fun m' hm he => hone j hlt m' hm A3 c3 (out ++ sz2 xs.length ++ ej) (by simp [sz2]; omega)) rfl ?_ ?_) rfl
    · rintro v L' ⟨h1, at_, rfl⟩
      refine QS_block_pan ?_
      refine QS_then_pan ?_
      refine QS_round3_pan ?_
      refine QS_block_pan ?_
      exact QS_pan [] (Pick.nil _) ⟨by rw [encMany, if_pos hle, encL_none hlt h1]; rfl, at_, rfl⟩
    rintro v L' ⟨e, h1, rfl, A4, c4, rfl⟩
    unfold curE
    refine VS_nil ?_
    refine QS_block ?_
    refine QS_then ?_
    refine TS_region ?_
    refine VS_pure (P_add rfl rfl (w64 (by omega) (by omega))) rfl rfl rfl ?_
    refine VS_pure (P_move rfl) rfl rfl rfl ?_
    refine VS_nil ?_
    refine QS_round3 (j + 1) A4 c4 ⟨rfl, rfl, rfl, rfl, rfl, trivial⟩ ?_ ⟨hlt, by rw [encL_take hlt hej h1]; rfl⟩ (by omega)
    rw [encL_take hlt hej h1, Option.getD_some, ← List.append_assoc]
    exact .cons .here (.cons .here (.nil _))
  · refine TS_seq ?_
    refine TS_region ?_
    refine VS_pure (df (P_lss rfl rfl) (by omega)) rfl rfl rfl ?_
    refine VS_nil ?_
    refine QS_then ?_
    refine TS_seq ?_
    refine TS_false rfl ?_
    refine TS_exit ?_
    refine QS_then_exit ?_
    refine QS_round3_exit ?_
    refine QS_block_here ?_
    have hj' : j = xs.length := by omega
    subst hj'
    rw [List.take_length] at hej
    exact QS_retPN [] trivial (curE bc A3 c3 (out ++ (sz2 xs.length ++ ej))) (by rw [← List.append_assoc]; exact Pick.refl _) ⟨sz2 xs.length ++ ej, by rw [encMany, if_pos hle, hej]; rfl, rfl, _, _, rfl⟩
set_option maxHeartbeats 8000000 in
theorem manyE {α : Type} {m : Mp} {bc : Nat} {la : Addr} {a : Option Addr} {c0 : Nat} {xs : List α} {enc : α → Option (List UInt8)} {each : Int} {K Bd : Nat} (hv : Wc m la (.slice a xs.length c0)) (hA : 0 < xs.length → a.isSome = true) (hK : ∀ x ∈ xs, ∀ e, enc x = some e → e.length ≤ K)
    (hone : ∀ i (hi : i < xs.length) m', Le m m' → WC 52 bc [.pointer (some ⟨bc, 0, none⟩), .pointer (some ((sa a).add (i * 7)))] m' Bd (enc xs[i])) (hBd : Bd ≤ 549755813888) (Bd' : Nat) (hBd' : Bd' + 2 + 65535 * K ≤ Bd) (hm : xs.length ≤ 140737488355328) :
    WC 51 bc [.pointer (some ⟨bc, 0, none⟩), .pointer (some la), .int .i64 each, .func (.func 52) [.pointer (some ⟨bc, 0, none⟩)].toArray [].toArray] m Bd' (encMany enc xs) := by
  intro A c out hl
  refine CSP_of [] Try.func51 rfl rfl rfl ?_
  unfold curE
  refine TS_seq ?_
  refine TS_region ?_
  refine VS_pure (P_move rfl) rfl rfl rfl ?_
  refine VS_pure (P_move rfl) rfl rfl rfl ?_
  refine VS_pure (P_nilCheck rfl) rfl rfl rfl ?_
  refine VS_read (S_loadW sg30 rfl hv) rfl rfl rfl ?_
  refine VS_pure (P_len il30 rfl) rfl rfl rfl ?_
  refine VS_pure (P_move rfl) rfl rfl rfl ?_
  refine VS_step (S_callP cl62 rfl (.cons .here (.cons .here .nil)) (fun m' hm he => sizeW (A := A) (c := c) (by omega)) rfl ?_ ?_) rfl
  · rintro v L' ⟨h1, at_, rfl⟩
    refine QS_then_pan ?_
    exact QS_pan [] (Pick.nil _) ⟨by rw [encMany, if_neg (by omega)], at_, rfl⟩
  rintro v L' ⟨hle, rfl, A2, c2, rfl⟩
  unfold curE
  refine VS_pure (P_assign rfl) rfl rfl rfl ?_
  refine VS_nil ?_
  refine QS_then ?_
  refine TS_seq ?_
  refine TS_seq ?_
  refine TS_region ?_
  refine VS_pure (P_move rfl) rfl rfl rfl ?_
  refine VS_pure (P_nilCheck rfl) rfl rfl rfl ?_
  refine VS_pure (P_fieldAddr0 fo86_2 rfl) rfl rfl rfl ?_
  refine VS_read (S_loadB sg4 rfl (.here) rfl) rfl rfl rfl ?_
  refine VS_nil ?_
  refine QS_then ?_
  refine TS_false rfl ?_
  refine TS_skip ?_
  refine QS_then ?_
  refine TS_seq ?_
  refine TS_region ?_
  refine VS_pure (P_move rfl) rfl rfl rfl ?_
  refine VS_pure (P_move rfl) rfl rfl rfl ?_
  refine VS_nil ?_
  refine QS_then ?_
  refine TS_block ?_
  refine TS_loop3 (fun j _ _ => [(0, .pointer (some ⟨bc, 0, none⟩)), (1, .pointer (some la)), (3, .func (.func 52) [.pointer (some ⟨bc, 0, none⟩)].toArray [].toArray), (24, .int .i64 (xs.length : Nat)), (25, .int .i64 (j : Nat))]) (fun j A c => curE bc A c (out ++ sz2 xs.length ++ (encL enc (xs.take j)).getD [])) (fun j => j ≤ xs.length ∧ (encL enc (xs.take j)).isSome = true) (fun j => xs.length - j) 0 A2 c2 ⟨rfl, rfl, rfl, rfl, rfl, trivial⟩ (by simp only [List.take_zero, encL, Option.getD_some, List.append_nil]; exact Pick.refl _) ⟨Nat.zero_le _, rfl⟩ ?_
  rintro j A3 c3 ⟨hj, hs⟩
  obtain ⟨ej, hej⟩ := Option.isSome_iff_exists.1 hs
  rw [hej, Option.getD_some]
  unfold curE
  by_cases hlt : j < xs.length
  · have hA' : a.isSome = true := hA (by omega)
    have hlj : ej.length ≤ 65535 * K := by
      have h1 := encL_len (fun x hx => hK x (List.mem_of_mem_take hx)) hej
      rw [List.length_take] at h1
      have h2 : min j xs.length * K ≤ 65535 * K := Nat.mul_le_mul_right _ (by omega)
      omega
    refine TS_seq ?_
    refine TS_region ?_
    refine VS_pure (dt (P_lss rfl rfl) (by omega)) rfl rfl rfl ?_
    refine VS_nil ?_
    refine QS_then ?_
    refine TS_seq ?_
    refine TS_true rfl ?_
    refine TS_skip ?_
    refine QS_then ?_
    refine TS_seq ?_
    refine TS_block ?_
    refine TS_seq ?_
    refine TS_region ?_
    refine VS_pure (P_move rfl) rfl rfl rfl ?_
    refine VS_pure (P_assign rfl) rfl rfl rfl ?_
    refine VS_nil ?_
    refine QS_then ?_
    refine TS_seq ?_
    refine TS_seq ?_
    refine TS_region ?_
    refine VS_pure (P_move rfl) rfl rfl rfl ?_
    refine VS_pure (P_nilCheck rfl) rfl rfl rfl ?_
    refine VS_pure (P_fieldAddr0 fo86_2 rfl) rfl rfl rfl ?_
    refine VS_read (S_loadB sg4 rfl (.here) rfl) rfl rfl rfl ?_
    refine VS_nil ?_
    refine QS_then ?_
    refine TS_false rfl ?_
    refine TS_skip ?_
    refine QS_then ?_
    refine TS_region ?_
    refine VS_pure (P_move rfl) rfl rfl rfl ?_
    refine VS_pure (P_move rfl) rfl rfl rfl ?_
    refine VS_pure (P_nilCheck rfl) rfl rfl rfl ?_
    refine VS_read (S_loadW sg30 rfl hv) rfl rfl rfl ?_
    refine VS_pure (P_move rfl) rfl rfl rfl ?_
    refine VS_pure (P_indexAddrN ez30 rfl rfl hA' (by omega)) rfl rfl rfl ?_
    refine VS_step (S_callPVd (p := [.pointer (some ⟨bc, 0, none⟩)]) (q := []) (vs := [.pointer (some ((sa a).add (j * 7)))]) cl52 rfl rfl (.cons .here (.cons .here .nil)) (fun m' hm he => hone j hlt m' hm A3 c3 (out ++ sz2 xs.length ++ ej) (by simp [sz2]; omega)) rfl ?_ ?_) rfl
    · rintro v L' ⟨h1, at_, rfl⟩
      refine QS_block_pan ?_
      refine QS_then_pan ?_
      refine QS_round3_pan ?_
      refine QS_block_pan ?_
      exact QS_pan [] (Pick.nil _) ⟨by rw [encMany, if_pos hle, encL_none hlt h1]; rfl, at_, rfl⟩
    rintro v L' ⟨e, h1, rfl, A4, c4, rfl⟩
    unfold curE
    refine VS_nil ?_
    refine QS_block ?_
    refine QS_then ?_
    refine TS_region ?_
    refine VS_pure (P_add rfl rfl (w64 (by omega) (by omega))) rfl rfl rfl ?_
    refine VS_pure (P_move rfl) rfl rfl rfl ?_
    refine VS_nil ?_
    refine QS_round3 (j + 1) A4 c4 ⟨rfl, rfl, rfl, rfl, rfl, trivial⟩ ?_ ⟨hlt, by rw [encL_take hlt hej h1]; rfl⟩ (by omega)
    rw [encL_take hlt hej h1, Option.getD_some, ← List.append_assoc]
    exact .cons .here (.cons .here (.nil _))
  · refine TS_seq ?_
    refine TS_region ?_
    refine VS_pure (df (P_lss rfl rfl) (by omega)) rfl rfl rfl ?_
    refine VS_nil ?_
    refine QS_then ?_
    refine TS_seq ?_
    refine TS_false rfl ?_
    refine TS_exit ?_
    refine QS_then_exit ?_
    refine QS_round3_exit ?_
    refine QS_block_here ?_
    have hj' : j = xs.length := by omega
    subst hj'
    rw [List.take_length] at hej
    exact QS_retPN [] trivial (curE bc A3 c3 (out ++ (sz2 xs.length ++ ej))) (by rw [← List.append_assoc]; exact Pick.refl _) ⟨sz2 xs.length ++ ej, by rw [encMany, if_pos hle, hej]; rfl, rfl, _, _, rfl⟩
end Go.Proofs.Ytbpihgphicmdiaa
