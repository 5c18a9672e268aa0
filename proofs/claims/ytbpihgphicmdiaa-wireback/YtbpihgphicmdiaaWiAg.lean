/- A part of the proof: contracts of functions of the program. No condition. -/
import Derived.Test.YtbpihgphicmdiaaWiAf
namespace Go.Proofs.Ytbpihgphicmdiaa
open Go.Eng Wi
set_option maxRecDepth 100000
theorem textsMR {m : Mp} {bc : Nat} {A a0 : Option Addr} {c cz : Nat} {b : List UInt8} {la : Addr} {E : Value → Ent} (hp : Plc la E) (hr : Rd m A (b.map byteV)) (hb : b.length ≤ 1099511627776) :
    MC 49 bc [.pointer (some ⟨bc, 0, none⟩), .pointer (some la), .int .i64 ((2 : Nat) : Int), .func (.func 48) [.pointer (some ⟨bc, 0, none⟩)].toArray [].toArray] m A c b E (.slice a0 0 cz) (pMany 2 pText) 9 1 (fun xs => xs.map sV) :=
  manyRS hp hr hb (by decide) fun m' E' a' hl hp' => textR hp' (hr.mono hl) hb
/-! ### what is read may be written back, and its numbers are numbers -/
theorem pN_all {α : Type} {p : Prs α} {Q : α → Prop} {b : List UInt8} (hp : ∀ a x a', p b a = .ok x a' → Q x) : ∀ {n a : Nat} {l : List α} {a' : Nat}, pN p n b a = .ok l a' → l.length = n ∧ ∀ x ∈ l, Q x
  | 0, a, l, a', h => by
    simp only [pN] at h
    injection h with h1 h2
    subst h1
    exact ⟨rfl, fun _ h => by cases h⟩
  | n + 1, a, l, a', h => by
    simp only [pN] at h
    cases h1 : p b a with
    | bad k => rw [h1] at h; cases h
    | ok x a1 =>
      rw [h1] at h
      change Res.bind (pN p n b a1) _ = _ at h
      cases h2 : pN p n b a1 with
      | bad k => rw [h2] at h; cases h
      | ok r a2 =>
        rw [h2] at h
        change Res.ok _ _ = _ at h
        injection h with h3 h4
        subst h3
        obtain ⟨e1, e2⟩ := pN_all hp h2
        exact ⟨by simp [e1], fun y hy => by
          rcases List.mem_cons.1 hy with rfl | hy
          · exact hp _ _ _ h1
          · exact e2 y hy⟩
theorem pMany_all {α : Type} {p : Prs α} {Q : α → Prop} {each : Nat} {b : List UInt8} (hp : ∀ a x a', p b a = .ok x a' → Q x) {a : Nat} {l : List α} {a' : Nat} (h : pMany each p b a = .ok l a') : ∀ x ∈ l, Q x := by
  unfold pMany at h
  cases h1 : pSize each b a with
  | bad k => rw [h1] at h; cases h
  | ok n a1 => rw [h1] at h; exact (pN_all hp (show pN p n b a1 = _ from h)).2
theorem val8_64 {l : List UInt8} (h : l.length = 8) : val8 l < 18446744073709551616 := by
  have := val8_lt l
  rw [h] at this
  exact this
theorem i64of_I64 {n : Nat} (h : n < 18446744073709551616) : I64 (i64of n) := by
  unfold i64of I64
  split <;> omega
theorem pNum_I64 {b : List UInt8} {a a' : Nat} {n : Int} (h : pNum b a = .ok n a') : I64 n := by
  unfold pNum at h
  cases h1 : pN pByte 8 b a with
  | bad k => rw [h1] at h; cases h
  | ok l a1 =>
    rw [h1] at h
    change Res.ok _ _ = _ at h
    injection h with h2 h3
    subst h2
    exact i64of_I64 (val8_64 (pN_all (Q := fun _ => True) (fun _ _ _ _ => trivial) h1).1)
theorem pSmall_I8 {b : List UInt8} {a a' : Nat} {n : Int} (h : pSmall b a = .ok n a') : I8 n ∧ 0 ≤ n := by
  unfold pSmall at h
  cases h1 : pByte b a with
  | bad k => rw [h1] at h; cases h
  | ok x a1 =>
    rw [h1] at h
    change (if x.toNat ≤ 127 then Res.ok (x.toNat : Int) a1 else Res.bad a) = _ at h
    split at h
    · injection h with h2 h3
      subst h2
      unfold I8
      omega
    · cases h
theorem pSize_le {each : Nat} {b : List UInt8} {a n a' : Nat} (h : pSize each b a = .ok n a') : n ≤ 65535 ∧ n * each ≤ b.length - a' := by
  unfold pSize at h
  cases h1 : pByte b a with
  | bad k => rw [h1] at h; cases h
  | ok x a1 =>
    rw [h1] at h
    change Res.bind (pByte b a1) _ = _ at h
    cases h2 : pByte b a1 with
    | bad k => rw [h2] at h; cases h
    | ok y a2 =>
      rw [h2] at h
      change (if (x.toNat * 256 + y.toNat) * each ≤ b.length - a2 then Res.ok (x.toNat * 256 + y.toNat) a2 else Res.bad a) = _ at h
      split at h
      · rename_i hle
        injection h with h3 h4
        subst h3
        subst h4
        have := x.toNat_lt
        have := y.toNat_lt
        exact ⟨by omega, hle⟩
      · cases h
theorem pMany_len {α : Type} {p : Prs α} {each : Nat} {b : List UInt8} {a : Nat} {l : List α} {a' : Nat} (h : pMany each p b a = .ok l a') : l.length ≤ 65535 := by
  unfold pMany at h
  cases h1 : pSize each b a with
  | bad k => rw [h1] at h; cases h
  | ok n a1 =>
    rw [h1] at h
    have h2 := (pN_all (Q := fun _ => True) (fun _ _ _ _ => trivial) (show pN p n b a1 = _ from h)).1
    have h3 := (pSize_le h1).1
    omega
theorem pText_len {b : List UInt8} {a a' : Nat} {t : List UInt8} (h : pText b a = .ok t a') : t.length ≤ 65535 := pMany_len h
theorem nums_I64 {b : List UInt8} {a a' : Nat} {l : List Int} {each : Nat} (h : pMany each pNum b a = .ok l a') : ∀ n ∈ l, I64 n := pMany_all (fun _ _ _ h => pNum_I64 h) h
theorem pair_I64 {b : List UInt8} {a a' : Nat} {p : Int × Int} (h : pPair b a = .ok p a') : I64 p.1 ∧ I64 p.2 := by
  unfold pPair at h
  cases h1 : pNum b a with
  | bad k => rw [h1] at h; cases h
  | ok x a1 =>
    rw [h1] at h
    change Res.bind (pNum b a1) _ = _ at h
    cases h2 : pNum b a1 with
    | bad k => rw [h2] at h; cases h
    | ok y a2 =>
      rw [h2] at h
      change Res.ok _ _ = _ at h
      injection h with h3 h4
      subst h3
      exact ⟨pNum_I64 h1, pNum_I64 h2⟩
theorem pAct_N {b : List UInt8} {a a' : Nat} {x : Acn} (h : pAct b a = .ok x a') : ActN x ∧ (∀ n ∈ x.ids, I64 n) ∧ (∀ p ∈ x.pairs, I64 p.1 ∧ I64 p.2) ∧ 0 ≤ x.op := by
  rw [pAct_eq] at h
  cases h0 : pSmall b a with
  | bad k => rw [h0] at h; cases h
  | ok o a0 =>
    rw [h0] at h
    change Res.bind (pN pNum 3 b a0) _ = _ at h
    cases h1 : pN pNum 3 b a0 with
    | bad k => rw [h1] at h; cases h
    | ok l a1 =>
      rw [h1] at h
      change Res.bind (pMany 8 pNum b a1) _ = _ at h
      cases h2 : pMany 8 pNum b a1 with
      | bad k => rw [h2] at h; cases h
      | ok i a2 =>
        rw [h2] at h
        change Res.bind (pMany 16 pPair b a2) _ = _ at h
        cases h3 : pMany 16 pPair b a2 with
        | bad k => rw [h3] at h; cases h
        | ok q a3 =>
          rw [h3] at h
          change Res.ok _ _ = _ at h
          injection h with h4 h5
          subst h4
          obtain ⟨hl, hm⟩ := pN_all (fun _ _ _ h => pNum_I64 h) h1
          have e := len3 hl
          refine ⟨⟨(pSmall_I8 h0).1, hm _ ?_, hm _ ?_, hm _ ?_⟩, nums_I64 h2, pMany_all (fun _ _ _ h => pair_I64 h) h3, (pSmall_I8 h0).2⟩ <;> rw [e] <;> simp
theorem pEvt_N {b : List UInt8} {a a' : Nat} {x : Evt} (h : pEvt b a = .ok x a') : EvtN x ∧ 0 ≤ x.kind := by
  rw [pEvt_eq] at h
  cases h0 : pSmall b a with
  | bad k => rw [h0] at h; cases h
  | ok o a0 =>
    rw [h0] at h
    change Res.bind (pN pNum 5 b a0) _ = _ at h
    cases h1 : pN pNum 5 b a0 with
    | bad k => rw [h1] at h; cases h
    | ok l a1 =>
      rw [h1] at h
      change Res.bind (pMany 8 pNum b a1) _ = _ at h
      cases h2 : pMany 8 pNum b a1 with
      | bad k => rw [h2] at h; cases h
      | ok i a2 =>
        rw [h2] at h
        change Res.ok _ _ = _ at h
        injection h with h4 h5
        subst h4
        obtain ⟨hl, hm⟩ := pN_all (fun _ _ _ h => pNum_I64 h) h1
        have e := len5 hl
        refine ⟨⟨(pSmall_I8 h0).1, hm _ ?_, hm _ ?_, hm _ ?_, hm _ ?_, hm _ ?_, nums_I64 h2⟩, (pSmall_I8 h0).2⟩ <;> rw [e] <;> simp
/-! ### own cells may be written -/
theorem own_wc {m : Mp} {α : Type} {e c : Nat} {A : Option Addr} {f : α → Value} {xs : List α} (h : (own e 1 A xs.length c (xs.map f)).inv m) : (0 < xs.length → A.isSome = true) ∧ ∀ i (hi : i < xs.length), Wc m ((sa A).add i) (f xs[i]) :=
  ⟨fun h0 => (Own.rd h).isSome (by simpa using h0), fun i hi => Wc.own h (by simp [hi])⟩
theorem BytesE.ofOwn {m : Mp} {c : Nat} {A : Option Addr} {xs : List UInt8} (h : (own 5 1 A xs.length c (xs.map byteV)).inv m) (hl : xs.length ≤ 65535) : BytesE m (.slice A xs.length c) xs :=
  ⟨A, c, rfl, (own_wc h).1, by omega, (own_wc h).2⟩
theorem StrsE.ofOwn {m : Mp} {c : Nat} {A : Option Addr} {xs : List (List UInt8)} (h : (own 9 1 A xs.length c (xs.map sV)).inv m) (hl : xs.length ≤ 65535) : StrsE m (.slice A xs.length c) xs :=
  ⟨A, c, rfl, (own_wc h).1, by omega, (own_wc h).2⟩
theorem IntsE.ofOwn {m : Mp} {c : Nat} {A : Option Addr} {xs : List Int} (h : (own 3 1 A xs.length c (xs.map iV)).inv m) (hl : xs.length ≤ 65535) (hr : ∀ n ∈ xs, I64 n) : IntsE m (.slice A xs.length c) xs :=
  ⟨A, c, rfl, (own_wc h).1, by omega, fun i hi => ⟨(own_wc h).2 i hi, hr _ (List.getElem_mem hi)⟩⟩
theorem flat_row {α : Type} {f : α → List Value} {q : Nat} (hf : ∀ x, (f x).length = q) : ∀ (xs : List α) (i : Nat) (hi : i < xs.length) (k : Nat), k < q → (xs.flatMap f)[i * q + k]? = (f xs[i])[k]?
  | [], i, hi, _, _ => by simp at hi
  | x :: r, 0, hi, k, hk => by
    rw [List.flatMap_cons, List.getElem?_append_left (by rw [hf]; omega)]
    simp
  | x :: r, i + 1, hi, k, hk => by
    rw [List.flatMap_cons, List.getElem?_append_right (by rw [hf, Nat.add_mul]; omega), hf, show (i + 1) * q + k - q = i * q + k by rw [Nat.add_mul]; omega, flat_row hf r i (by simpa using hi) k hk]
    simp
theorem PairsE.ofOwn {m : Mp} {c : Nat} {A : Option Addr} {xs : List (Int × Int)} (h : (own 132 2 A xs.length c (xs.flatMap pairC2)).inv m) (hl : xs.length ≤ 65535) (hr : ∀ p ∈ xs, I64 p.1 ∧ I64 p.2) : PairsE m (.slice A xs.length c) xs := by
  have hlen := pairs_len xs
  refine ⟨A, c, rfl, fun h0 => (Own.rd h).isSome (by rw [hlen]; omega), by omega, fun i hi => ?_⟩
  have g := fun k hk => flat_row (f := pairC2) (q := 2) (fun _ => rfl) xs i hi k hk
  obtain ⟨r1, r2⟩ := hr _ (List.getElem_mem hi)
  exact ⟨by rw [add_add]; exact Wc.own h (g 0 (by decide)), by rw [add_add]; exact Wc.own h (g 1 (by decide)), r1, r2⟩
theorem EvsE.ofOwn {m : Mp} {c : Nat} {A : Option Addr} {xs : List EvR} (h : (Eng.own 55 7 A xs.length c (xs.flatMap evC)).inv m) (h2 : (pack (xs.map evO)).inv m) (hl : xs.length ≤ 65535) (hc : ∀ s ∈ xs, s.1.cards.length ≤ 65535) (hr : ∀ s ∈ xs, EvtN s.1) : EvsE m (.slice A xs.length c) (xs.map (·.1)) := by
  have hlen := evs_len xs
  refine ⟨A, c, by rw [List.length_map], fun h0 => (Own.rd h).isSome (by rw [hlen]; rw [List.length_map] at h0; omega), by rw [List.length_map]; omega, fun i hi => ?_⟩
  have hi' : i < xs.length := by simpa using hi
  have g := fun k hk => flat_row (f := evC) (q := 7) (fun _ => rfl) xs i hi' k hk
  have hs := hr _ (List.getElem_mem hi')
  have ho := h2.1 (evO xs[i]) (List.mem_map.2 ⟨_, List.getElem_mem hi', rfl⟩)
  rw [List.getElem_map]
  obtain ⟨o1, o2, o3, o4, o5, o6, o7⟩ := hs
  exact ⟨_, by rw [add_add]; exact Wc.own h (g 0 (by decide)), by rw [add_add]; exact Wc.own h (g 1 (by decide)), by rw [add_add]; exact Wc.own h (g 2 (by decide)), by rw [add_add]; exact Wc.own h (g 3 (by decide)), by rw [add_add]; exact Wc.own h (g 4 (by decide)), by rw [add_add]; exact Wc.own h (g 5 (by decide)), by rw [add_add]; exact Wc.own h (g 6 (by decide)),
    IntsE.ofOwn ho (hc _ (List.getElem_mem hi')) o7, o1, o2, o3, o4, o5, o6⟩
theorem BytesE.z (m : Mp) : BytesE m (.slice none 0 0) [] := ⟨none, 0, rfl, fun h => (by cases h), by simp, fun i hi => (by cases hi)⟩
theorem StrsE.z (m : Mp) : StrsE m (.slice none 0 0) [] := ⟨none, 0, rfl, fun h => (by cases h), by simp, fun i hi => (by cases hi)⟩
theorem IntsE.z (m : Mp) : IntsE m (.slice none 0 0) [] := ⟨none, 0, rfl, fun h => (by cases h), by simp, fun i hi => (by cases hi)⟩
theorem PairsE.z (m : Mp) : PairsE m (.slice none 0 0) [] := ⟨none, 0, rfl, fun h => (by cases h), by simp, fun i hi => (by cases hi)⟩
theorem EvsE.z (m : Mp) : EvsE m (.slice none 0 0) [] := ⟨none, 0, rfl, fun h => (by cases h), by simp, fun i hi => (by cases hi)⟩
end Go.Proofs.Ytbpihgphicmdiaa
