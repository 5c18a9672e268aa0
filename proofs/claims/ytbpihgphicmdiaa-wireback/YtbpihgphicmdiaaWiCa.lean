/- Plain: what is read is written as it was. No condition. -/
import Derived.Test.YtbpihgphicmdiaaWiAg
namespace Go.Proofs.Ytbpihgphicmdiaa
open Go.Eng Wi
set_option maxRecDepth 100000
theorem Res.bind_ok {α β : Type} {r : Res α} {f : α → Nat → Res β} {y : β} {a' : Nat} (h : r.bind f = .ok y a') : ∃ x a1, r = .ok x a1 ∧ f x a1 = .ok y a' := by
  cases r with
  | ok x a1 => exact ⟨x, a1, rfl, h⟩
  | bad k => cases h
/-- e stands in b from a to a' -/
def Cut (b : List UInt8) (a a' : Nat) (e : List UInt8) : Prop := a' ≤ b.length ∧ a' = a + e.length ∧ b.drop a = e ++ b.drop a'
theorem Cut.app {b : List UInt8} {a a1 a2 : Nat} {e1 e2 : List UInt8} (h1 : Cut b a a1 e1) (h2 : Cut b a1 a2 e2) : Cut b a a2 (e1 ++ e2) := by
  obtain ⟨_, h4, h5⟩ := h1
  obtain ⟨h6, h7, h8⟩ := h2
  exact ⟨h6, by rw [List.length_append]; omega, by rw [h5, h8, List.append_assoc]⟩
theorem Cut.nil {b : List UInt8} {a : Nat} (h : a ≤ b.length) : Cut b a a [] := ⟨h, rfl, rfl⟩
def Wr {α : Type} (p : Prs α) (enc : α → Option (List UInt8)) : Prop := ∀ {b : List UInt8} {a : Nat} {x : α} {a' : Nat}, a ≤ b.length → p b a = .ok x a' → ∃ e, enc x = some e ∧ Cut b a a' e
theorem wr_byte : Wr pByte eByte := by
  intro b a x a' ha h
  unfold pByte at h
  cases hb : b[a]? with
  | none => rw [hb] at h; cases h
  | some y =>
    rw [hb] at h
    injection h with h1 h2
    subst h1; subst h2
    obtain ⟨hlt, hy⟩ := List.getElem?_eq_some_iff.1 hb
    exact ⟨[y], rfl, by omega, rfl, by rw [List.drop_eq_getElem_cons hlt, hy]; rfl⟩
theorem wr_N {α : Type} {p : Prs α} {enc : α → Option (List UInt8)} (hp : Wr p enc) : ∀ {n : Nat} {b : List UInt8} {a : Nat} {l : List α} {a' : Nat}, a ≤ b.length → pN p n b a = .ok l a' → l.length = n ∧ ∃ e, encL enc l = some e ∧ Cut b a a' e
  | 0, b, a, l, a', ha, h => by
    simp only [pN] at h
    injection h with h1 h2
    subst h1; subst h2
    exact ⟨rfl, [], rfl, Cut.nil ha⟩
  | n + 1, b, a, l, a', ha, h => by
    simp only [pN] at h
    obtain ⟨x, a1, h1, h⟩ := Res.bind_ok h
    obtain ⟨r, a2, h2, h⟩ := Res.bind_ok h
    injection h with h3 h4
    subst h3; subst h4
    obtain ⟨e1, he1, hc1⟩ := hp ha h1
    obtain ⟨hl, e2, he2, hc2⟩ := wr_N hp hc1.1 h2
    exact ⟨by simp [hl], e1 ++ e2, by simp only [encL, he1, he2, Option.bind_some, Option.map_some], hc1.app hc2⟩
theorem encL_byte : ∀ l : List UInt8, encL eByte l = some l
  | [] => rfl
  | x :: r => by simp only [encL, eByte, encL_byte r, Option.bind_some, Option.map_some]; rfl
theorem i64of_mod {v : Nat} (h : v < 18446744073709551616) : (i64of v % 18446744073709551616).toNat = v := by
  unfold i64of
  split <;> omega
theorem be8_val {l : List UInt8} (h : l.length = 8) : be8 (i64of (val8 l)) = l := by
  have hv := val8_64 h
  rcases l with _ | ⟨x0, _ | ⟨x1, _ | ⟨x2, _ | ⟨x3, _ | ⟨x4, _ | ⟨x5, _ | ⟨x6, _ | ⟨x7, _ | ⟨x8, r⟩⟩⟩⟩⟩⟩⟩⟩⟩ <;> first | (simp at h; done) | skip
  have e : val8 [x0, x1, x2, x3, x4, x5, x6, x7] = (((((((x0.toNat * 256 + x1.toNat) * 256 + x2.toNat) * 256 + x3.toNat) * 256 + x4.toNat) * 256 + x5.toNat) * 256 + x6.toNat) * 256 + x7.toNat) := by
    simp [val8]
  have g0 := x0.toNat_lt
  have g1 := x1.toNat_lt
  have g2 := x2.toNat_lt
  have g3 := x3.toNat_lt
  have g4 := x4.toNat_lt
  have g5 := x5.toNat_lt
  have g6 := x6.toNat_lt
  have g7 := x7.toNat_lt
  unfold be8 nb
  rw [i64of_mod hv, e]
  have key : ∀ {k : Nat} {x : UInt8}, k = x.toNat → UInt8.ofNat k = x := fun h => by rw [h, UInt8.ofNat_toNat]
  rw [key (x := x0) (by omega), key (x := x1) (by omega), key (x := x2) (by omega), key (x := x3) (by omega), key (x := x4) (by omega), key (x := x5) (by omega), key (x := x6) (by omega), key (x := x7) (by omega)]
theorem wr_num : Wr pNum eNum := by
  intro b a x a' ha h
  obtain ⟨l, a1, h1, h⟩ := Res.bind_ok h
  injection h with h2 h3
  subst h2; subst h3
  obtain ⟨hl, e, he, hc⟩ := wr_N wr_byte ha h1
  rw [encL_byte] at he
  injection he with he
  subst he
  exact ⟨l, by rw [eNum, be8_val hl], hc⟩
theorem ub_byte (x : UInt8) : ub (x.toNat : Int) = x := by
  have := x.toNat_lt
  unfold ub
  rw [show ((x.toNat : Int) % 256).toNat = x.toNat by omega, UInt8.ofNat_toNat]
theorem wr_small : Wr pSmall wSmall := by
  intro b a x a' ha h
  obtain ⟨y, a1, h1, h⟩ := Res.bind_ok h
  obtain ⟨e, he, hc⟩ := wr_byte ha h1
  injection he with he
  subst he
  split at h
  · injection h with h2 h3
    subst h2; subst h3
    exact ⟨[y], by rw [wSmall, if_pos (by omega), ub_byte], hc⟩
  · cases h
theorem wr_size {each : Nat} {b : List UInt8} {a n a' : Nat} (ha : a ≤ b.length) (h : pSize each b a = .ok n a') : n ≤ 65535 ∧ Cut b a a' (sz2 n) := by
  obtain ⟨x, a1, h1, h⟩ := Res.bind_ok h
  obtain ⟨y, a2, h2, h⟩ := Res.bind_ok h
  obtain ⟨e, he, hc⟩ := wr_byte ha h1
  injection he with he
  subst he
  obtain ⟨e, he, hc2⟩ := wr_byte hc.1 h2
  injection he with he
  subst he
  have gx := x.toNat_lt
  have gy := y.toNat_lt
  split at h
  · injection h with h3 h4
    subst h3; subst h4
    refine ⟨by omega, ?_⟩
    have key : ∀ {k : Nat} {x : UInt8}, k = x.toNat → UInt8.ofNat k = x := fun h => by rw [h, UInt8.ofNat_toNat]
    have e : sz2 (x.toNat * 256 + y.toNat) = [x] ++ [y] := by
      unfold sz2
      rw [key (x := x) (by omega), key (x := y) (by omega)]
      rfl
    rw [e]
    exact hc.app hc2
  · cases h
theorem wr_many {α : Type} {p : Prs α} {enc : α → Option (List UInt8)} {each : Nat} (hp : Wr p enc) : Wr (pMany each p) (encMany enc) := by
  intro b a x a' ha h
  obtain ⟨n, a1, h1, h⟩ := Res.bind_ok h
  obtain ⟨hn, hc⟩ := wr_size ha h1
  obtain ⟨hl, e, he, hc2⟩ := wr_N hp hc.1 h
  subst hl
  exact ⟨_, by rw [encMany, if_pos hn, he]; rfl, hc.app hc2⟩
theorem wr_text : Wr pText eText := wr_many wr_byte
theorem wr_pair : Wr pPair ePair := by
  intro b a x a' ha h
  obtain ⟨n, a1, h1, h⟩ := Res.bind_ok h
  obtain ⟨k, a2, h2, h⟩ := Res.bind_ok h
  injection h with h3 h4
  subst h3; subst h4
  obtain ⟨e1, he1, hc1⟩ := wr_num ha h1
  obtain ⟨e2, he2, hc2⟩ := wr_num hc1.1 h2
  injection he1 with he1
  injection he2 with he2
  subst he1; subst he2
  exact ⟨_, rfl, hc1.app hc2⟩
theorem wr_num' {b : List UInt8} {a : Nat} {n : Int} {a' : Nat} (ha : a ≤ b.length) (h : pNum b a = .ok n a') : Cut b a a' (be8 n) := by
  obtain ⟨e, he, hc⟩ := wr_num ha h
  injection he with he
  subst he
  exact hc
theorem wr_act : Wr pAct eAct := by
  intro b a x a' ha h
  obtain ⟨o, a0, h0, h⟩ := Res.bind_ok h
  obtain ⟨s, a1, h1, h⟩ := Res.bind_ok h
  obtain ⟨p, a2, h2, h⟩ := Res.bind_ok h
  obtain ⟨t, a3, h3, h⟩ := Res.bind_ok h
  obtain ⟨i, a4, h4, h⟩ := Res.bind_ok h
  obtain ⟨q, a5, h5, h⟩ := Res.bind_ok h
  injection h with h6 h7
  subst h6; subst h7
  obtain ⟨e0, he0, hc0⟩ := wr_small ha h0
  have hc1 := wr_num' hc0.1 h1
  have hc2 := wr_num' hc1.1 h2
  have hc3 := wr_num' hc2.1 h3
  obtain ⟨e4, he4, hc4⟩ := wr_many wr_num hc3.1 h4
  obtain ⟨e5, he5, hc5⟩ := wr_many wr_pair hc4.1 h5
  refine ⟨_, by show (wSmall o).bind _ = _; rw [he0]; show (encMany eNum i).bind _ = _; rw [he4]; show (encMany ePair q).map _ = _; rw [he5]; rfl, ?_⟩
  have := ((hc0.app ((hc1.app (hc2.app hc3)))).app hc4).app hc5
  simpa using this
theorem wr_evt : Wr pEvt eEvt := by
  intro b a x a' ha h
  obtain ⟨o, a0, h0, h⟩ := Res.bind_ok h
  obtain ⟨s, a1, h1, h⟩ := Res.bind_ok h
  obtain ⟨p, a2, h2, h⟩ := Res.bind_ok h
  obtain ⟨t, a3, h3, h⟩ := Res.bind_ok h
  obtain ⟨u, a4, h4, h⟩ := Res.bind_ok h
  obtain ⟨w, a5, h5, h⟩ := Res.bind_ok h
  obtain ⟨i, a6, h6, h⟩ := Res.bind_ok h
  injection h with h8 h9
  subst h8; subst h9
  obtain ⟨e0, he0, hc0⟩ := wr_small ha h0
  have hc1 := wr_num' hc0.1 h1
  have hc2 := wr_num' hc1.1 h2
  have hc3 := wr_num' hc2.1 h3
  have hc4 := wr_num' hc3.1 h4
  have hc5 := wr_num' hc4.1 h5
  obtain ⟨e6, he6, hc6⟩ := wr_many wr_num hc5.1 h6
  refine ⟨_, by show (wSmall o).bind _ = _; rw [he0]; show (encMany eNum i).map _ = _; rw [he6]; rfl, ?_⟩
  have := (hc0.app (hc1.app (hc2.app (hc3.app (hc4.app hc5))))).app hc6
  simpa using this
theorem wr_body {k : Int} {b : List UInt8} {a : Nat} {x : Ltr} {a' : Nat} (ha : a ≤ b.length) (h : pBody k b a = .ok x a') : x.kind = k ∧ x.evs.length ≤ 65535 ∧ ∃ e, eBody x = some e ∧ Cut b a a' e := by
  unfold pBody at h
  split at h
  · rename_i hk
    obtain ⟨t, a1, h1, h⟩ := Res.bind_ok h
    injection h with h2 h3
    subst h2; subst h3; subst hk
    obtain ⟨e, he, hc⟩ := wr_text ha h1
    exact ⟨rfl, Nat.zero_le _, e, he, hc⟩
  split at h
  · rename_i hk
    obtain ⟨t, a1, h1, h⟩ := Res.bind_ok h
    obtain ⟨n, a2, h2, h⟩ := Res.bind_ok h
    injection h with h3 h4
    subst h3; subst h4; subst hk
    obtain ⟨e, he, hc⟩ := wr_byte ha h1
    injection he with he
    subst he
    have hc2 := wr_num' hc.1 h2
    exact ⟨rfl, Nat.zero_le _, _, by show some (ub (t.toNat : Int) :: be8 n) = _; rw [ub_byte]; rfl, hc.app hc2⟩
  split at h
  · rename_i hk
    injection h with h2 h3
    subst h2; subst h3; subst hk
    exact ⟨rfl, Nat.zero_le _, [], rfl, Cut.nil ha⟩
  obtain ⟨n, a1, h1, h⟩ := Res.bind_ok h
  have hc1 := wr_num' ha h1
  split at h
  · rename_i hk
    obtain ⟨t, a2, h2, h⟩ := Res.bind_ok h
    injection h with h3 h4
    subst h3; subst h4; subst hk
    obtain ⟨e, he, hc⟩ := wr_text hc1.1 h2
    exact ⟨rfl, Nat.zero_le _, be8 n ++ e, by show (eText t).map _ = _; rw [he]; rfl, hc1.app hc⟩
  split at h
  · rename_i hk
    obtain ⟨t, a2, h2, h⟩ := Res.bind_ok h
    injection h with h3 h4
    subst h3; subst h4; subst hk
    obtain ⟨e, he, hc⟩ := wr_many wr_text hc1.1 h2
    exact ⟨rfl, Nat.zero_le _, be8 n ++ e, by show (encMany eText t).map _ = _; rw [he]; rfl, hc1.app hc⟩
  split at h
  · rename_i hk
    obtain ⟨t, a2, h2, h⟩ := Res.bind_ok h
    injection h with h3 h4
    subst h3; subst h4; subst hk
    obtain ⟨e, he, hc⟩ := wr_act hc1.1 h2
    exact ⟨rfl, Nat.zero_le _, be8 n ++ e, by show (eAct t).map _ = _; rw [he]; rfl, hc1.app hc⟩
  split at h
  · rename_i hk
    obtain ⟨t, a2, h2, h⟩ := Res.bind_ok h
    injection h with h3 h4
    subst h3; subst h4
    obtain ⟨e, he, hc⟩ := wr_text hc1.1 h2
    refine ⟨rfl, Nat.zero_le _, be8 n ++ e, ?_, hc1.app hc⟩
    rcases hk with rfl | rfl
    · show (eText t).map _ = _; rw [he]; rfl
    · show (eText t).map _ = _; rw [he]; rfl
  split at h
  · rename_i hk
    obtain ⟨t, a2, h2, h⟩ := Res.bind_ok h
    injection h with h3 h4
    subst h3; subst h4; subst hk
    obtain ⟨e, he, hc⟩ := wr_many wr_evt hc1.1 h2
    exact ⟨rfl, pMany_len h2, be8 n ++ e, by show (encMany eEvt t).map _ = _; rw [he]; rfl, hc1.app hc⟩
  · injection h with h3 h4
    subst h3; subst h4
    refine ⟨rfl, Nat.zero_le _, be8 n, ?_, hc1⟩
    unfold eBody
    dsimp only
    have g1 : ¬k = 1 := by assumption
    have g2 : ¬k = 2 := by assumption
    have g3 : ¬k = 3 := by assumption
    have g4 : ¬k = 4 := by assumption
    have g8 : ¬k = 8 := by assumption
    have g64 : ¬k = 64 := by assumption
    have g66 : ¬k = 66 := by assumption
    have g65 : ¬(k = 65 ∨ k = 67) := by assumption
    rw [if_neg g1, if_neg g64, if_neg g8, if_neg g2, if_neg g3, if_neg g4, if_neg g65, if_neg g66]
/-- what is read is written as it was -/
theorem wr_all {b : List UInt8} {x : Ltr} {a : Nat} (h : pAll b = .ok x a) : eAll x = some b ∧ x.evs.length ≤ 65535 := by
  obtain ⟨k, a1, h1, h⟩ := Res.bind_ok h
  obtain ⟨e, he, hc⟩ := wr_byte (Nat.zero_le _) h1
  injection he with he
  subst he
  split at h
  · obtain ⟨l, a2, h2, h⟩ := Res.bind_ok h
    obtain ⟨hk, hev, e, he, hc2⟩ := wr_body hc.1 h2
    split at h
    · cases h
    · injection h with h3 h4
      subst h3; subst h4
      have h5 := (hc.app hc2).2.2
      have h6 : a2 = b.length := by have := hc2.1; omega
      rw [h6, List.drop_length, List.append_nil] at h5
      refine ⟨?_, hev⟩
      rw [eAll, he, hk, ub_byte]
      exact congrArg some h5.symm
  · cases h
end Go.Proofs.Ytbpihgphicmdiaa
