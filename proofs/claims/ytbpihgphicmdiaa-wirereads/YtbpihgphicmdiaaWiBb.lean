/- A part of the proof: contracts of functions of the program. No condition. -/
import Derived.Test.YtbpihgphicmdiaaWiBa
namespace Go.Proofs.Ytbpihgphicmdiaa
open Go.Eng Wi
set_option maxRecDepth 100000
theorem Stp.congr {α : Type} {p q : Prs α} {b : List UInt8} {s s' : St} {x : α} (h : Stp p b s x s') (e : ∀ a, q b a = p b a) : Stp q b s x s' := by
  cases s with
  | ok a =>
    rcases h with ⟨a', h, r⟩ | ⟨k, a', h, r⟩
    · exact .inl ⟨a', by rw [e]; exact h, r⟩
    · exact .inr ⟨k, a', by rw [e]; exact h, r⟩
  | bad k a => exact h
theorem Stp.map {α β : Type} {p : Prs α} {f : α → β} {b : List UInt8} {s s' : St} {x : α} (h : Stp p b s x s') (hs : s.fits b) : Stp (fun b a => (p b a).bind fun x a1 => .ok (f x) a1) b s (f x) s' :=
  Stp.bind (q := fun x _ a1 => .ok (f x) a1) h (Stp.pure (h.fits hs))
theorem Stp.snoc {α : Type} {p : Prs α} {b : List UInt8} {s s1 s2 : St} {l : List α} {x : α} {j : Nat} (h1 : Stp (pN p j) b s l s1) (h2 : Stp p b s1 x s2) (hs : s.fits b) : Stp (pN p (j + 1)) b s (l ++ [x]) s2 :=
  (Stp.bind (q := fun l b a1 => (p b a1).bind fun x a2 => .ok (l ++ [x]) a2) h1 (Stp.map (f := fun x => l ++ [x]) h2 (h1.fits hs))).congr fun a => pN_snoc p b j a
theorem val8_56 {l : List UInt8} (h : l.length < 8) : val8 l < 72057594037927936 := by
  have h1 := val8_lt l
  have h2 : 256 ^ l.length ≤ 256 ^ 7 := Nat.pow_le_pow_right (by decide) (by omega)
  have h3 : 256 ^ 7 = 72057594037927936 := by decide
  omega
theorem num8_step {l : List UInt8} {x : UInt8} (h : l.length < 8) : bits .or .u64 (IntKind.u64.wrap ((val8 l : Int) * 2 ^ (8 : Int).toNat)) (x.toNat : Int) = (val8 (l ++ [x]) : Int) := by
  have hx := x.toNat_lt
  have hv := val8_56 h
  have e8 : (2 : Int) ^ (8 : Int).toNat = 256 := by decide
  have e1 : IntKind.u64.wrap ((val8 l : Int) * 256) = ((2 ^ 8 * val8 l : Nat) : Int) := by rw [IntKind.wrap_u64]; omega
  rw [e8, e1, bits_or_u64_nat _ _ (by omega) (by omega), ← Nat.two_pow_add_eq_or_of_lt (by omega), val8_snoc]
  congr 1
  omega
set_option maxHeartbeats 4000000 in
theorem numD {m : Mp} {rb : Nat} {A : Option Addr} {c : Nat} {b : List UInt8} (hr : Rd m A (b.map byteV)) (hb : b.length ≤ 1099511627776) : DC 36 rb [] m A c b pNum iV := by
  intro s hs
  refine CS_of [.tmp 2] Try.func36 rfl rfl rfl ?_
  refine TS_seq ?_
  refine TS_region ?_
  refine VS_pure (P_assign rfl) rfl rfl rfl ?_
  refine VS_nil ?_
  refine QS_then ?_
  refine TS_seq ?_
  refine TS_region ?_
  refine VS_pure (P_assign rfl) rfl rfl rfl ?_
  refine VS_nil ?_
  refine QS_then ?_
  refine TS_seq ?_
  refine TS_seq ?_
  refine TS_region ?_
  refine VS_pure (P_assign rfl) rfl rfl rfl ?_
  refine VS_nil ?_
  refine QS_then ?_
  refine TS_block ?_
  refine TS_loop4 (β := List UInt8 × St) (fun j _ _ t => [(0, .pointer (some ⟨rb, 0, none⟩)), (3, .int .u64 (val8 t.1 : Nat)), (4, .int .i64 (j : Nat))]) (fun j _ _ t => [rdE rb A c b.length t.2]) (fun j t => j ≤ 8 ∧ t.1.length = j ∧ Stp (pN pByte j) b s t.1 t.2) (fun j => 8 - j) 0 none 0 ([], s) ⟨rfl, rfl, rfl, trivial⟩ (Pick.refl _) ⟨by omega, rfl, Stp.pure hs⟩ ?_
  rintro j _ _ ⟨l, s1⟩ ⟨hj, hl, hst⟩
  dsimp only at hl hst ⊢
  by_cases hlt : j < 8
  · refine TS_seq ?_
    refine TS_seq ?_
    refine TS_region ?_
    refine VS_pure (P_move rfl) rfl rfl rfl ?_
    refine VS_pure (dt (P_lss rfl rfl) (by omega)) rfl rfl rfl ?_
    refine VS_nil ?_
    refine QS_then ?_
    refine TS_true rfl ?_
    refine TS_skip ?_
    refine QS_then ?_
    refine TS_seq ?_
    refine TS_block ?_
    refine TS_seq ?_
    refine TS_region ?_
    refine VS_pure (P_move rfl) rfl rfl rfl ?_
    refine VS_step ((S_callL cl34 rfl (.cons .here .nil) (fun m' hm he => oneD (hr.mono hm) hb s1 (hst.fits hs)) rfl ?_)) rfl
    rintro _ _ ⟨x, s2, hx, rfl, rfl⟩
    refine VS_pure (P_assign rfl) rfl rfl rfl ?_
    refine VS_nil ?_
    refine QS_then ?_
    refine TS_region ?_
    refine VS_pure (P_move rfl) rfl rfl rfl ?_
    refine VS_pure (P_shl rfl rfl (by decide) (by decide) rfl) rfl rfl rfl ?_
    refine VS_pure (P_move rfl) rfl rfl rfl ?_
    refine VS_pure (P_conv_int us5 ik128 rfl rfl) rfl rfl rfl ?_
    refine VS_pure (P_or rfl rfl rfl) rfl rfl rfl ?_
    refine VS_pure (P_assign rfl) rfl rfl rfl ?_
    refine VS_nil ?_
    refine QS_block ?_
    refine QS_then ?_
    refine TS_region ?_
    refine VS_pure (P_move rfl) rfl rfl rfl ?_
    refine VS_pure (P_add rfl rfl (w64 (by omega) (by omega))) rfl rfl rfl ?_
    refine VS_pure (P_assign rfl) rfl rfl rfl ?_
    refine VS_nil ?_
    rw [u64_byte, num8_step (by omega)]
    exact QS_round4 (Le.refl _) (j + 1) none 0 (l ++ [x], s2) ⟨rfl, rfl, rfl, trivial⟩ (Pick.refl _) ⟨by omega, by simp; omega, Stp.snoc hst hx hs⟩ (by omega)
  · have hj8 : j = 8 := by omega
    subst hj8
    refine TS_seq ?_
    refine TS_seq ?_
    refine TS_region ?_
    refine VS_pure (P_move rfl) rfl rfl rfl ?_
    refine VS_pure (df (P_lss rfl rfl) (by omega)) rfl rfl rfl ?_
    refine VS_nil ?_
    refine QS_then ?_
    refine TS_false rfl ?_
    refine TS_exit ?_
    refine QS_then_exit ?_
    refine QS_round4_exit ?_
    refine QS_block_here ?_
    refine QS_then ?_
    refine TS_seq ?_
    refine TS_region ?_
    refine VS_pure (P_move rfl) rfl rfl rfl ?_
    refine VS_pure (P_conv_int us128 ik3 rfl rfl) rfl rfl rfl ?_
    refine VS_pure (P_assign rfl) rfl rfl rfl ?_
    refine VS_nil ?_
    refine QS_then ?_
    refine TS_ret ?_
    have e8 := i64_acc hl
    have e : accN l = val8 l := by simp [accN, hl]
    rw [e] at e8
    rw [e8]
    exact QS_ret [_] ⟨rfl, trivial⟩ [_] (Pick.refl _) ⟨i64of (val8 l), s1, (Stp.map (f := fun l => i64of (val8 l)) hst hs).congr fun _ => rfl, rfl, rfl⟩
theorem and127 {x : UInt8} : bits .and .u8 (x.toNat : Int) 127 = ((x.toNat % 128 : Nat) : Int) := u8_maskN 7 (by decide) _ x.toNat_lt
set_option maxHeartbeats 4000000 in
theorem smallD {m : Mp} {rb : Nat} {A : Option Addr} {c : Nat} {b : List UInt8} (hr : Rd m A (b.map byteV)) (hb : b.length ≤ 1099511627776) : DC 57 rb [] m A c b pSmall (fun n => .int .i8 n) := by
  intro s hs
  refine CS_of [.tmp 2] Try.func57 rfl rfl rfl ?_
  cases s with
  | bad k a =>
    unfold rdE
    refine TS_seq ?_
    refine TS_region ?_
    refine VS_pure (P_assign rfl) rfl rfl rfl ?_
    refine VS_nil ?_
    refine QS_then ?_
    refine TS_seq ?_
    refine TS_region ?_
    refine VS_pure (P_move rfl) rfl rfl rfl ?_
    refine VS_pure (P_nilCheck rfl) rfl rfl rfl ?_
    refine VS_pure (P_fieldAddr0 fo103_1 rfl) rfl rfl rfl ?_
    refine VS_read (S_loadB sg3 rfl (.here) rfl) rfl rfl rfl ?_
    refine VS_pure (P_assign rfl) rfl rfl rfl ?_
    refine VS_nil ?_
    refine QS_then ?_
    refine TS_seq ?_
    refine TS_region ?_
    refine VS_pure (P_move rfl) rfl rfl rfl ?_
    refine VS_step ((S_callL cl34 rfl (.cons .here .nil) (fun m' hm he => oneD (hr.mono hm) hb (.bad k a) hs) rfl ?_)) rfl
    rintro _ _ ⟨x, s2, hx, rfl, rfl⟩
    cases hx
    have hx8 := x.toNat_lt
    have h127 := and127 (x := x)
    by_cases hg : x.toNat ≤ 127
    · refine VS_pure (P_assign rfl) rfl rfl rfl ?_
      refine VS_nil ?_
      refine QS_then ?_
      refine TS_seq ?_
      refine TS_seq ?_
      refine TS_region ?_
      refine VS_pure (P_move rfl) rfl rfl rfl ?_
      refine VS_pure (df (P_gtr rfl rfl) (by omega)) rfl rfl rfl ?_
      refine VS_nil ?_
      refine QS_then ?_
      refine TS_false rfl ?_
      refine TS_skip ?_
      refine QS_then ?_
      refine TS_seq ?_
      refine TS_region ?_
      refine VS_pure (P_move rfl) rfl rfl rfl ?_
      refine VS_pure (P_and rfl rfl (by with_reducible assumption)) rfl rfl rfl ?_
      refine VS_pure (P_conv_int us5 ik24 rfl (w8 (by omega) (by omega))) rfl rfl rfl ?_
      refine VS_pure (P_assign rfl) rfl rfl rfl ?_
      refine VS_nil ?_
      refine QS_then ?_
      refine TS_ret ?_
      exact QS_ret [_] ⟨rfl, trivial⟩ [_] (Pick.refl _) ⟨_, .bad k a, rfl, rfl, rfl⟩
    · refine VS_pure (P_assign rfl) rfl rfl rfl ?_
      refine VS_nil ?_
      refine QS_then ?_
      refine TS_seq ?_
      refine TS_seq ?_
      refine TS_region ?_
      refine VS_pure (P_move rfl) rfl rfl rfl ?_
      refine VS_pure (dt (P_gtr rfl rfl) (by omega)) rfl rfl rfl ?_
      refine VS_nil ?_
      refine QS_then ?_
      refine TS_true rfl ?_
      refine TS_region ?_
      refine VS_pure (P_move rfl) rfl rfl rfl ?_
      refine VS_pure (P_move rfl) rfl rfl rfl ?_
      refine VS_step ((S_callL cl35 rfl (.cons .here .nil) (fun m' hm he => wrong_bad) rfl ?_)) rfl
      rintro _ _ ⟨rfl, rfl⟩
      refine VS_nil ?_
      refine QS_then ?_
      refine TS_seq ?_
      refine TS_region ?_
      refine VS_pure (P_move rfl) rfl rfl rfl ?_
      refine VS_pure (P_and rfl rfl (by with_reducible assumption)) rfl rfl rfl ?_
      refine VS_pure (P_conv_int us5 ik24 rfl (w8 (by omega) (by omega))) rfl rfl rfl ?_
      refine VS_pure (P_assign rfl) rfl rfl rfl ?_
      refine VS_nil ?_
      refine QS_then ?_
      refine TS_ret ?_
      exact QS_ret [_] ⟨rfl, trivial⟩ [_] (Pick.refl _) ⟨_, .bad k a, rfl, rfl, rfl⟩
  | ok a =>
    have ha : a ≤ b.length := hs
    unfold rdE
    refine TS_seq ?_
    refine TS_region ?_
    refine VS_pure (P_assign rfl) rfl rfl rfl ?_
    refine VS_nil ?_
    refine QS_then ?_
    refine TS_seq ?_
    refine TS_region ?_
    refine VS_pure (P_move rfl) rfl rfl rfl ?_
    refine VS_pure (P_nilCheck rfl) rfl rfl rfl ?_
    refine VS_pure (P_fieldAddr0 fo103_1 rfl) rfl rfl rfl ?_
    refine VS_read (S_loadB sg3 rfl (.here) rfl) rfl rfl rfl ?_
    refine VS_pure (P_assign rfl) rfl rfl rfl ?_
    refine VS_nil ?_
    refine QS_then ?_
    refine TS_seq ?_
    refine TS_region ?_
    refine VS_pure (P_move rfl) rfl rfl rfl ?_
    refine VS_step ((S_callL cl34 rfl (.cons .here .nil) (fun m' hm he => oneD (hr.mono hm) hb (.ok a) hs) rfl ?_)) rfl
    rintro _ _ ⟨x, s2, hx, rfl, rfl⟩
    have hx8 := x.toNat_lt
    have h127 := and127 (x := x)
    rcases hx with ⟨a', h, rfl, ha'⟩ | ⟨k, a', h, rfl, ha', hk⟩
    · by_cases hg : x.toNat ≤ 127
      · refine VS_pure (P_assign rfl) rfl rfl rfl ?_
        refine VS_nil ?_
        refine QS_then ?_
        refine TS_seq ?_
        refine TS_seq ?_
        refine TS_region ?_
        refine VS_pure (P_move rfl) rfl rfl rfl ?_
        refine VS_pure (df (P_gtr rfl rfl) (by omega)) rfl rfl rfl ?_
        refine VS_nil ?_
        refine QS_then ?_
        refine TS_false rfl ?_
        refine TS_skip ?_
        refine QS_then ?_
        refine TS_seq ?_
        refine TS_region ?_
        refine VS_pure (P_move rfl) rfl rfl rfl ?_
        refine VS_pure (P_and rfl rfl (by with_reducible assumption)) rfl rfl rfl ?_
        refine VS_pure (P_conv_int us5 ik24 rfl (w8 (by omega) (by omega))) rfl rfl rfl ?_
        refine VS_pure (P_assign rfl) rfl rfl rfl ?_
        refine VS_nil ?_
        refine QS_then ?_
        refine TS_ret ?_
        rw [Nat.mod_eq_of_lt (by omega)]
        exact QS_ret [_] ⟨rfl, trivial⟩ [_] (Pick.refl _) ⟨(x.toNat : Int), .ok a', .inl ⟨a', by rw [pSmall, h]; show (if _ then _ else _) = _; rw [if_pos hg], rfl, ha'⟩, rfl, rfl⟩
      · refine VS_pure (P_assign rfl) rfl rfl rfl ?_
        refine VS_nil ?_
        refine QS_then ?_
        refine TS_seq ?_
        refine TS_seq ?_
        refine TS_region ?_
        refine VS_pure (P_move rfl) rfl rfl rfl ?_
        refine VS_pure (dt (P_gtr rfl rfl) (by omega)) rfl rfl rfl ?_
        refine VS_nil ?_
        refine QS_then ?_
        refine TS_true rfl ?_
        refine TS_region ?_
        refine VS_pure (P_move rfl) rfl rfl rfl ?_
        refine VS_pure (P_move rfl) rfl rfl rfl ?_
        refine VS_step ((S_callL cl35 rfl (.cons .here .nil) (fun m' hm he => wrong_ok (k := a)) rfl ?_)) rfl
        rintro _ _ ⟨rfl, rfl⟩
        refine VS_nil ?_
        refine QS_then ?_
        refine TS_seq ?_
        refine TS_region ?_
        refine VS_pure (P_move rfl) rfl rfl rfl ?_
        refine VS_pure (P_and rfl rfl (by with_reducible assumption)) rfl rfl rfl ?_
        refine VS_pure (P_conv_int us5 ik24 rfl (w8 (by omega) (by omega))) rfl rfl rfl ?_
        refine VS_pure (P_assign rfl) rfl rfl rfl ?_
        refine VS_nil ?_
        refine QS_then ?_
        refine TS_ret ?_
        exact QS_ret [_] ⟨rfl, trivial⟩ [_] (Pick.refl _) ⟨_, .bad a a', .inr ⟨a, a', by rw [pSmall, h]; show (if _ then _ else _) = _; rw [if_neg hg], rfl, ha', ha⟩, rfl, rfl⟩
    · have hbad : pSmall b a = .bad k := by rw [pSmall, h]; rfl
      by_cases hg : x.toNat ≤ 127
      · refine VS_pure (P_assign rfl) rfl rfl rfl ?_
        refine VS_nil ?_
        refine QS_then ?_
        refine TS_seq ?_
        refine TS_seq ?_
        refine TS_region ?_
        refine VS_pure (P_move rfl) rfl rfl rfl ?_
        refine VS_pure (df (P_gtr rfl rfl) (by omega)) rfl rfl rfl ?_
        refine VS_nil ?_
        refine QS_then ?_
        refine TS_false rfl ?_
        refine TS_skip ?_
        refine QS_then ?_
        refine TS_seq ?_
        refine TS_region ?_
        refine VS_pure (P_move rfl) rfl rfl rfl ?_
        refine VS_pure (P_and rfl rfl (by with_reducible assumption)) rfl rfl rfl ?_
        refine VS_pure (P_conv_int us5 ik24 rfl (w8 (by omega) (by omega))) rfl rfl rfl ?_
        refine VS_pure (P_assign rfl) rfl rfl rfl ?_
        refine VS_nil ?_
        refine QS_then ?_
        refine TS_ret ?_
        exact QS_ret [_] ⟨rfl, trivial⟩ [_] (Pick.refl _) ⟨_, .bad k a', .inr ⟨k, a', hbad, rfl, ha', hk⟩, rfl, rfl⟩
      · refine VS_pure (P_assign rfl) rfl rfl rfl ?_
        refine VS_nil ?_
        refine QS_then ?_
        refine TS_seq ?_
        refine TS_seq ?_
        refine TS_region ?_
        refine VS_pure (P_move rfl) rfl rfl rfl ?_
        refine VS_pure (dt (P_gtr rfl rfl) (by omega)) rfl rfl rfl ?_
        refine VS_nil ?_
        refine QS_then ?_
        refine TS_true rfl ?_
        refine TS_region ?_
        refine VS_pure (P_move rfl) rfl rfl rfl ?_
        refine VS_pure (P_move rfl) rfl rfl rfl ?_
        refine VS_step ((S_callL cl35 rfl (.cons .here .nil) (fun m' hm he => wrong_bad) rfl ?_)) rfl
        rintro _ _ ⟨rfl, rfl⟩
        refine VS_nil ?_
        refine QS_then ?_
        refine TS_seq ?_
        refine TS_region ?_
        refine VS_pure (P_move rfl) rfl rfl rfl ?_
        refine VS_pure (P_and rfl rfl (by with_reducible assumption)) rfl rfl rfl ?_
        refine VS_pure (P_conv_int us5 ik24 rfl (w8 (by omega) (by omega))) rfl rfl rfl ?_
        refine VS_pure (P_assign rfl) rfl rfl rfl ?_
        refine VS_nil ?_
        refine QS_then ?_
        refine TS_ret ?_
        exact QS_ret [_] ⟨rfl, trivial⟩ [_] (Pick.refl _) ⟨_, .bad k a', .inr ⟨k, a', hbad, rfl, ha', hk⟩, rfl, rfl⟩
set_option maxHeartbeats 8000000 in
theorem countD {m : Mp} {rb : Nat} {A : Option Addr} {c : Nat} {b : List UInt8} {each : Nat} (hr : Rd m A (b.map byteV)) (hb : b.length ≤ 1099511627776) (hea : each ≤ 43) (s : St) (hs : s.fits b) :
    CS Try.prog 38 [.pointer (some ⟨rb, 0, none⟩), .int .i64 (each : Nat)] m [rdE rb A c b.length s] (fun v L' => ∃ n s', Stp (pSize each) b s n s' ∧ (∀ k a, s' = .bad k a → n = 0) ∧ v = .int .i64 (n : Nat) ∧ L' = [rdE rb A c b.length s']) := by
  refine CS_of [.tmp 4] Try.func38 rfl rfl rfl ?_
  cases s with
  | bad k a =>
    unfold rdE
    refine TS_seq ?_
    refine TS_region ?_
    refine VS_pure (P_assign rfl) rfl rfl rfl ?_
    refine VS_nil ?_
    refine QS_then ?_
    refine TS_seq ?_
    refine TS_region ?_
    refine VS_pure (P_move rfl) rfl rfl rfl ?_
    refine VS_pure (P_nilCheck rfl) rfl rfl rfl ?_
    refine VS_pure (P_fieldAddr0 fo103_1 rfl) rfl rfl rfl ?_
    refine VS_read (S_loadB sg3 rfl (.here) rfl) rfl rfl rfl ?_
    refine VS_pure (P_assign rfl) rfl rfl rfl ?_
    refine VS_nil ?_
    refine QS_then ?_
    refine TS_seq ?_
    refine TS_region ?_
    refine VS_pure (P_move rfl) rfl rfl rfl ?_
    refine VS_step ((S_callL cl34 rfl (.cons .here .nil) (fun m' hm he => oneD (hr.mono hm) hb (.bad k a) hs) rfl ?_)) rfl
    rintro _ _ ⟨x, s2, hx, rfl, rfl⟩
    cases hx
    refine VS_pure (P_assign rfl) rfl rfl rfl ?_
    refine VS_nil ?_
    refine QS_then ?_
    refine TS_seq ?_
    refine TS_region ?_
    refine VS_pure (P_move rfl) rfl rfl rfl ?_
    refine VS_step ((S_callL cl34 rfl (.cons .here .nil) (fun m' hm he => oneD (hr.mono hm) hb (.bad k a) hs) rfl ?_)) rfl
    rintro _ _ ⟨y, s2, hx, rfl, rfl⟩
    cases hx
    have hx8 := x.toNat_lt
    have hy8 := y.toNat_lt
    have hj := sz_joinR (x := x) (y := y)
    have hn : x.toNat * 256 + y.toNat ≤ 65535 := by omega
    generalize x.toNat * 256 + y.toNat = n at *
    unfold rdE
    refine VS_pure (P_assign rfl) rfl rfl rfl ?_
    refine VS_nil ?_
    refine QS_then ?_
    refine TS_seq ?_
    refine TS_region ?_
    refine VS_pure (P_move rfl) rfl rfl rfl ?_
    refine VS_pure (P_convN us5 ik3 rfl (w64 (by omega) (by omega))) rfl rfl rfl ?_
    refine VS_pure (P_shl rfl rfl (by decide) (by decide) (w64 (by simp <;> omega) (by simp <;> omega))) rfl rfl rfl ?_
    refine VS_pure (P_move rfl) rfl rfl rfl ?_
    refine VS_pure (P_convN us5 ik3 rfl (w64 (by omega) (by omega))) rfl rfl rfl ?_
    refine VS_pure (P_or rfl rfl (by with_reducible assumption)) rfl rfl rfl ?_
    refine VS_pure (P_assign rfl) rfl rfl rfl ?_
    refine VS_nil ?_
    refine QS_then ?_
    refine TS_seq ?_
    refine TS_seq ?_
    refine TS_draw (.step 0 .pure (.step 1 .pure (.step 2 .pure (.step 3 .read (.step 4 .pure (.step 5 .pure (.step 6 .pure (.step 7 .pure (.step 8 .pure (.step 9 .pure (.step 10 .pure (.step 11 .pure (.step 14 .pure (.step 15 .pure (.step 16 .pure (.step 12 .read (.step 13 .pure (.step 17 .read (.step 18 .pure (.step 19 .pure (.step 20 .pure (.done)))))))))))))))))))))) mixed (by kernel_rfl) (fun _ _ _ _ hq => hq) ?_
    refine VTS_pure rfl (P_move rfl) rfl rfl rfl ?_
    refine VTS_pure rfl (P_nilCheck rfl) rfl rfl rfl ?_
    refine VTS_pure rfl (P_fieldAddr0 fo103_2 rfl) rfl rfl rfl ?_
    refine VTS_read rfl (S_loadB sg3 rfl (.here) rfl) rfl rfl rfl ?_
    refine VTS_pure rfl (df (P_lss rfl rfl) (by omega)) rfl rfl rfl ?_
    refine VTS_pure rfl (P_move rfl) rfl rfl rfl ?_
    iterate 14 (refine VTS_skip rfl rfl rfl rfl rfl ?_)
    refine VTS_pure rfl (P_pick_f rfl rfl) rfl rfl rfl ?_
    refine VTS_nil ?_
    refine QS_then ?_
    refine TS_false rfl ?_
    refine TS_skip ?_
    refine QS_then ?_
    refine TS_seq ?_
    refine TS_seq ?_
    refine TS_region ?_
    refine VS_pure (P_move rfl) rfl rfl rfl ?_
    refine VS_pure (P_nilCheck rfl) rfl rfl rfl ?_
    refine VS_pure (P_fieldAddr0 fo103_2 rfl) rfl rfl rfl ?_
    refine VS_read (S_loadB sg3 rfl (.here) rfl) rfl rfl rfl ?_
    refine VS_pure (dt (P_geq rfl rfl) (by omega)) rfl rfl rfl ?_
    refine VS_nil ?_
    refine QS_then ?_
    refine TS_true rfl ?_
    refine TS_seq ?_
    refine TS_region ?_
    refine VS_pure (P_assign rfl) rfl rfl rfl ?_
    refine VS_nil ?_
    refine QS_then ?_
    refine TS_ret ?_
    refine QS_then_ret ?_
    exact QS_ret [_] ⟨rfl, trivial⟩ [_] (Pick.refl _) ⟨0, .bad k a, rfl, fun _ _ _ => rfl, rfl, rfl⟩
  | ok a =>
    have ha : a ≤ b.length := hs
    unfold rdE
    refine TS_seq ?_
    refine TS_region ?_
    refine VS_pure (P_assign rfl) rfl rfl rfl ?_
    refine VS_nil ?_
    refine QS_then ?_
    refine TS_seq ?_
    refine TS_region ?_
    refine VS_pure (P_move rfl) rfl rfl rfl ?_
    refine VS_pure (P_nilCheck rfl) rfl rfl rfl ?_
    refine VS_pure (P_fieldAddr0 fo103_1 rfl) rfl rfl rfl ?_
    refine VS_read (S_loadB sg3 rfl (.here) rfl) rfl rfl rfl ?_
    refine VS_pure (P_assign rfl) rfl rfl rfl ?_
    refine VS_nil ?_
    refine QS_then ?_
    refine TS_seq ?_
    refine TS_region ?_
    refine VS_pure (P_move rfl) rfl rfl rfl ?_
    refine VS_step ((S_callL cl34 rfl (.cons .here .nil) (fun m' hm he => oneD (hr.mono hm) hb (.ok a) hs) rfl ?_)) rfl
    rintro _ _ ⟨x, s2, hx, rfl, rfl⟩
    rcases hx with ⟨a1, h, rfl, ha1⟩ | ⟨k, a1, h, rfl, ha1, hk⟩
    · refine VS_pure (P_assign rfl) rfl rfl rfl ?_
      refine VS_nil ?_
      refine QS_then ?_
      refine TS_seq ?_
      refine TS_region ?_
      refine VS_pure (P_move rfl) rfl rfl rfl ?_
      refine VS_step ((S_callL cl34 rfl (.cons .here .nil) (fun m' hm he => oneD (hr.mono hm) hb (.ok a1) ha1) rfl ?_)) rfl
      rintro _ _ ⟨y, s3, hy, rfl, rfl⟩
      rcases hy with ⟨a2, h2, rfl, ha2⟩ | ⟨k, a2, h2, rfl, ha2, hk⟩
      · have hsz : pSize each b a = if (x.toNat * 256 + y.toNat) * each ≤ b.length - a2 then .ok (x.toNat * 256 + y.toNat) a2 else .bad a := by
          rw [pSize, h]
          show Res.bind (pByte b a1) _ = _
          rw [h2]
          rfl
        have hx8 := x.toNat_lt
        have hy8 := y.toNat_lt
        have hj := sz_joinR (x := x) (y := y)
        have hn : x.toNat * 256 + y.toNat ≤ 65535 := by omega
        generalize x.toNat * 256 + y.toNat = n at *
        have hmu : n * each ≤ 65535 * 43 := Nat.mul_le_mul hn hea
        unfold rdE
        by_cases hfit : n * each ≤ b.length - a2
        · refine VS_pure (P_assign rfl) rfl rfl rfl ?_
          refine VS_nil ?_
          refine QS_then ?_
          refine TS_seq ?_
          refine TS_region ?_
          refine VS_pure (P_move rfl) rfl rfl rfl ?_
          refine VS_pure (P_convN us5 ik3 rfl (w64 (by omega) (by omega))) rfl rfl rfl ?_
          refine VS_pure (P_shl rfl rfl (by decide) (by decide) (w64 (by simp <;> omega) (by simp <;> omega))) rfl rfl rfl ?_
          refine VS_pure (P_move rfl) rfl rfl rfl ?_
          refine VS_pure (P_convN us5 ik3 rfl (w64 (by omega) (by omega))) rfl rfl rfl ?_
          refine VS_pure (P_or rfl rfl (by with_reducible assumption)) rfl rfl rfl ?_
          refine VS_pure (P_assign rfl) rfl rfl rfl ?_
          refine VS_nil ?_
          refine QS_then ?_
          refine TS_seq ?_
          refine TS_seq ?_
          refine TS_draw (.step 0 .pure (.step 1 .pure (.step 2 .pure (.step 3 .read (.step 4 .pure (.step 5 .pure (.step 6 .pure (.step 7 .pure (.step 8 .pure (.step 9 .pure (.step 10 .pure (.step 11 .pure (.step 14 .pure (.step 15 .pure (.step 16 .pure (.step 12 .read (.step 13 .pure (.step 17 .read (.step 18 .pure (.step 19 .pure (.step 20 .pure (.done)))))))))))))))))))))) mixed (by kernel_rfl) (fun _ _ _ _ hq => hq) ?_
          refine VTS_pure rfl (P_move rfl) rfl rfl rfl ?_
          refine VTS_pure rfl (P_nilCheck rfl) rfl rfl rfl ?_
          refine VTS_pure rfl (P_fieldAddr0 fo103_2 rfl) rfl rfl rfl ?_
          refine VTS_read rfl (S_loadB sg3 rfl (.here) rfl) rfl rfl rfl ?_
          refine VTS_pure rfl (dt (P_lss rfl rfl) (by omega)) rfl rfl rfl ?_
          iterate 3 (refine VTS_pure rfl (P_move rfl) rfl rfl rfl ?_)
          refine VTS_pure rfl (P_mulN rfl rfl (by omega)) rfl rfl rfl ?_
          refine VTS_pure rfl (P_move rfl) rfl rfl rfl ?_
          refine VTS_pure rfl (P_nilCheck rfl) rfl rfl rfl ?_
          refine VTS_pure rfl (P_fieldAddr0 fo103_0 rfl) rfl rfl rfl ?_
          refine VTS_pure rfl (P_move rfl) rfl rfl rfl ?_
          refine VTS_pure rfl (P_nilCheck rfl) rfl rfl rfl ?_
          refine VTS_pure rfl (P_fieldAddr0 fo103_1 rfl) rfl rfl rfl ?_
          refine VTS_read rfl (S_loadB sg22 rfl (.here) rfl) rfl rfl rfl ?_
          refine VTS_pure rfl (P_len il22 rfl) rfl rfl rfl ?_
          refine VTS_read rfl (S_loadB sg3 rfl (.here) rfl) rfl rfl rfl ?_
          refine VTS_pure rfl (P_subN rfl rfl (by omega) (by omega)) rfl rfl rfl ?_
          refine VTS_pure rfl (df (P_gtr rfl rfl) (by omega)) rfl rfl rfl ?_
          refine VTS_pure rfl (P_pick_t rfl rfl) rfl rfl rfl ?_
          refine VTS_nil ?_
          refine QS_then ?_
          refine TS_false rfl ?_
          refine TS_skip ?_
          refine QS_then ?_
          refine TS_seq ?_
          refine TS_seq ?_
          refine TS_region ?_
          refine VS_pure (P_move rfl) rfl rfl rfl ?_
          refine VS_pure (P_nilCheck rfl) rfl rfl rfl ?_
          refine VS_pure (P_fieldAddr0 fo103_2 rfl) rfl rfl rfl ?_
          refine VS_read (S_loadB sg3 rfl (.here) rfl) rfl rfl rfl ?_
          refine VS_pure (df (P_geq rfl rfl) (by omega)) rfl rfl rfl ?_
          refine VS_nil ?_
          refine QS_then ?_
          refine TS_false rfl ?_
          refine TS_skip ?_
          refine QS_then ?_
          refine TS_seq ?_
          refine TS_region ?_
          refine VS_pure (P_move rfl) rfl rfl rfl ?_
          refine VS_pure (P_assign rfl) rfl rfl rfl ?_
          refine VS_nil ?_
          refine QS_then ?_
          refine TS_ret ?_
          exact QS_ret [_] ⟨rfl, trivial⟩ [_] (Pick.refl _) ⟨n, .ok a2, .inl ⟨a2, by rw [hsz, if_pos hfit], rfl, ha2⟩, fun _ _ h => (by cases h), rfl, rfl⟩
        · refine VS_pure (P_assign rfl) rfl rfl rfl ?_
          refine VS_nil ?_
          refine QS_then ?_
          refine TS_seq ?_
          refine TS_region ?_
          refine VS_pure (P_move rfl) rfl rfl rfl ?_
          refine VS_pure (P_convN us5 ik3 rfl (w64 (by omega) (by omega))) rfl rfl rfl ?_
          refine VS_pure (P_shl rfl rfl (by decide) (by decide) (w64 (by simp <;> omega) (by simp <;> omega))) rfl rfl rfl ?_
          refine VS_pure (P_move rfl) rfl rfl rfl ?_
          refine VS_pure (P_convN us5 ik3 rfl (w64 (by omega) (by omega))) rfl rfl rfl ?_
          refine VS_pure (P_or rfl rfl (by with_reducible assumption)) rfl rfl rfl ?_
          refine VS_pure (P_assign rfl) rfl rfl rfl ?_
          refine VS_nil ?_
          refine QS_then ?_
          refine TS_seq ?_
          refine TS_seq ?_
          refine TS_draw (.step 0 .pure (.step 1 .pure (.step 2 .pure (.step 3 .read (.step 4 .pure (.step 5 .pure (.step 6 .pure (.step 7 .pure (.step 8 .pure (.step 9 .pure (.step 10 .pure (.step 11 .pure (.step 14 .pure (.step 15 .pure (.step 16 .pure (.step 12 .read (.step 13 .pure (.step 17 .read (.step 18 .pure (.step 19 .pure (.step 20 .pure (.done)))))))))))))))))))))) mixed (by kernel_rfl) (fun _ _ _ _ hq => hq) ?_
          refine VTS_pure rfl (P_move rfl) rfl rfl rfl ?_
          refine VTS_pure rfl (P_nilCheck rfl) rfl rfl rfl ?_
          refine VTS_pure rfl (P_fieldAddr0 fo103_2 rfl) rfl rfl rfl ?_
          refine VTS_read rfl (S_loadB sg3 rfl (.here) rfl) rfl rfl rfl ?_
          refine VTS_pure rfl (dt (P_lss rfl rfl) (by omega)) rfl rfl rfl ?_
          iterate 3 (refine VTS_pure rfl (P_move rfl) rfl rfl rfl ?_)
          refine VTS_pure rfl (P_mulN rfl rfl (by omega)) rfl rfl rfl ?_
          refine VTS_pure rfl (P_move rfl) rfl rfl rfl ?_
          refine VTS_pure rfl (P_nilCheck rfl) rfl rfl rfl ?_
          refine VTS_pure rfl (P_fieldAddr0 fo103_0 rfl) rfl rfl rfl ?_
          refine VTS_pure rfl (P_move rfl) rfl rfl rfl ?_
          refine VTS_pure rfl (P_nilCheck rfl) rfl rfl rfl ?_
          refine VTS_pure rfl (P_fieldAddr0 fo103_1 rfl) rfl rfl rfl ?_
          refine VTS_read rfl (S_loadB sg22 rfl (.here) rfl) rfl rfl rfl ?_
          refine VTS_pure rfl (P_len il22 rfl) rfl rfl rfl ?_
          refine VTS_read rfl (S_loadB sg3 rfl (.here) rfl) rfl rfl rfl ?_
          refine VTS_pure rfl (P_subN rfl rfl (by omega) (by omega)) rfl rfl rfl ?_
          refine VTS_pure rfl (dt (P_gtr rfl rfl) (by omega)) rfl rfl rfl ?_
          refine VTS_pure rfl (P_pick_t rfl rfl) rfl rfl rfl ?_
          refine VTS_nil ?_
          refine QS_then ?_
          refine TS_true rfl ?_
          refine TS_region ?_
          refine VS_pure (P_move rfl) rfl rfl rfl ?_
          refine VS_pure (P_move rfl) rfl rfl rfl ?_
          refine VS_step ((S_callL cl35 rfl (.cons .here .nil) (fun m' hm he => wrong_ok (A := A) (c := c) (n := b.length) (k := a) (a := a2)) rfl ?_)) rfl
          rintro _ _ ⟨rfl, rfl⟩
          unfold rdE
          refine VS_nil ?_
          refine QS_then ?_
          refine TS_seq ?_
          refine TS_seq ?_
          refine TS_region ?_
          refine VS_pure (P_move rfl) rfl rfl rfl ?_
          refine VS_pure (P_nilCheck rfl) rfl rfl rfl ?_
          refine VS_pure (P_fieldAddr0 fo103_2 rfl) rfl rfl rfl ?_
          refine VS_read (S_loadB sg3 rfl (.here) rfl) rfl rfl rfl ?_
          refine VS_pure (dt (P_geq rfl rfl) (by omega)) rfl rfl rfl ?_
          refine VS_nil ?_
          refine QS_then ?_
          refine TS_true rfl ?_
          refine TS_seq ?_
          refine TS_region ?_
          refine VS_pure (P_assign rfl) rfl rfl rfl ?_
          refine VS_nil ?_
          refine QS_then ?_
          refine TS_ret ?_
          refine QS_then_ret ?_
          exact QS_ret [_] ⟨rfl, trivial⟩ [_] (Pick.refl _) ⟨0, .bad a a2, .inr ⟨a, a2, by rw [hsz, if_neg hfit], rfl, ha2, ha⟩, fun _ _ _ => rfl, rfl, rfl⟩
      · have hbad : pSize each b a = .bad k := by
          rw [pSize, h]
          show Res.bind (pByte b a1) _ = _
          rw [h2]
          rfl
        have hx8 := x.toNat_lt
        have hy8 := y.toNat_lt
        have hj := sz_joinR (x := x) (y := y)
        have hn : x.toNat * 256 + y.toNat ≤ 65535 := by omega
        generalize x.toNat * 256 + y.toNat = n at *
        unfold rdE
        refine VS_pure (P_assign rfl) rfl rfl rfl ?_
        refine VS_nil ?_
        refine QS_then ?_
        refine TS_seq ?_
        refine TS_region ?_
        refine VS_pure (P_move rfl) rfl rfl rfl ?_
        refine VS_pure (P_convN us5 ik3 rfl (w64 (by omega) (by omega))) rfl rfl rfl ?_
        refine VS_pure (P_shl rfl rfl (by decide) (by decide) (w64 (by simp <;> omega) (by simp <;> omega))) rfl rfl rfl ?_
        refine VS_pure (P_move rfl) rfl rfl rfl ?_
        refine VS_pure (P_convN us5 ik3 rfl (w64 (by omega) (by omega))) rfl rfl rfl ?_
        refine VS_pure (P_or rfl rfl (by with_reducible assumption)) rfl rfl rfl ?_
        refine VS_pure (P_assign rfl) rfl rfl rfl ?_
        refine VS_nil ?_
        refine QS_then ?_
        refine TS_seq ?_
        refine TS_seq ?_
        refine TS_draw (.step 0 .pure (.step 1 .pure (.step 2 .pure (.step 3 .read (.step 4 .pure (.step 5 .pure (.step 6 .pure (.step 7 .pure (.step 8 .pure (.step 9 .pure (.step 10 .pure (.step 11 .pure (.step 14 .pure (.step 15 .pure (.step 16 .pure (.step 12 .read (.step 13 .pure (.step 17 .read (.step 18 .pure (.step 19 .pure (.step 20 .pure (.done)))))))))))))))))))))) mixed (by kernel_rfl) (fun _ _ _ _ hq => hq) ?_
        refine VTS_pure rfl (P_move rfl) rfl rfl rfl ?_
        refine VTS_pure rfl (P_nilCheck rfl) rfl rfl rfl ?_
        refine VTS_pure rfl (P_fieldAddr0 fo103_2 rfl) rfl rfl rfl ?_
        refine VTS_read rfl (S_loadB sg3 rfl (.here) rfl) rfl rfl rfl ?_
        refine VTS_pure rfl (df (P_lss rfl rfl) (by omega)) rfl rfl rfl ?_
        refine VTS_pure rfl (P_move rfl) rfl rfl rfl ?_
        iterate 14 (refine VTS_skip rfl rfl rfl rfl rfl ?_)
        refine VTS_pure rfl (P_pick_f rfl rfl) rfl rfl rfl ?_
        refine VTS_nil ?_
        refine QS_then ?_
        refine TS_false rfl ?_
        refine TS_skip ?_
        refine QS_then ?_
        refine TS_seq ?_
        refine TS_seq ?_
        refine TS_region ?_
        refine VS_pure (P_move rfl) rfl rfl rfl ?_
        refine VS_pure (P_nilCheck rfl) rfl rfl rfl ?_
        refine VS_pure (P_fieldAddr0 fo103_2 rfl) rfl rfl rfl ?_
        refine VS_read (S_loadB sg3 rfl (.here) rfl) rfl rfl rfl ?_
        refine VS_pure (dt (P_geq rfl rfl) (by omega)) rfl rfl rfl ?_
        refine VS_nil ?_
        refine QS_then ?_
        refine TS_true rfl ?_
        refine TS_seq ?_
        refine TS_region ?_
        refine VS_pure (P_assign rfl) rfl rfl rfl ?_
        refine VS_nil ?_
        refine QS_then ?_
        refine TS_ret ?_
        refine QS_then_ret ?_
        exact QS_ret [_] ⟨rfl, trivial⟩ [_] (Pick.refl _) ⟨0, .bad k a2, .inr ⟨k, a2, hbad, rfl, ha2, hk⟩, fun _ _ _ => rfl, rfl, rfl⟩
    · have hbad : pSize each b a = .bad k := by rw [pSize, h]; rfl
      refine VS_pure (P_assign rfl) rfl rfl rfl ?_
      refine VS_nil ?_
      refine QS_then ?_
      refine TS_seq ?_
      refine TS_region ?_
      refine VS_pure (P_move rfl) rfl rfl rfl ?_
      refine VS_step ((S_callL cl34 rfl (.cons .here .nil) (fun m' hm he => oneD (hr.mono hm) hb (.bad k a1) ⟨ha1, hk⟩) rfl ?_)) rfl
      rintro _ _ ⟨y, s3, hy, rfl, rfl⟩
      cases hy
      have hx8 := x.toNat_lt
      have hy8 := y.toNat_lt
      have hj := sz_joinR (x := x) (y := y)
      have hn : x.toNat * 256 + y.toNat ≤ 65535 := by omega
      generalize x.toNat * 256 + y.toNat = n at *
      unfold rdE
      refine VS_pure (P_assign rfl) rfl rfl rfl ?_
      refine VS_nil ?_
      refine QS_then ?_
      refine TS_seq ?_
      refine TS_region ?_
      refine VS_pure (P_move rfl) rfl rfl rfl ?_
      refine VS_pure (P_convN us5 ik3 rfl (w64 (by omega) (by omega))) rfl rfl rfl ?_
      refine VS_pure (P_shl rfl rfl (by decide) (by decide) (w64 (by simp <;> omega) (by simp <;> omega))) rfl rfl rfl ?_
      refine VS_pure (P_move rfl) rfl rfl rfl ?_
      refine VS_pure (P_convN us5 ik3 rfl (w64 (by omega) (by omega))) rfl rfl rfl ?_
      refine VS_pure (P_or rfl rfl (by with_reducible assumption)) rfl rfl rfl ?_
      refine VS_pure (P_assign rfl) rfl rfl rfl ?_
      refine VS_nil ?_
      refine QS_then ?_
      refine TS_seq ?_
      refine TS_seq ?_
      refine TS_draw (.step 0 .pure (.step 1 .pure (.step 2 .pure (.step 3 .read (.step 4 .pure (.step 5 .pure (.step 6 .pure (.step 7 .pure (.step 8 .pure (.step 9 .pure (.step 10 .pure (.step 11 .pure (.step 14 .pure (.step 15 .pure (.step 16 .pure (.step 12 .read (.step 13 .pure (.step 17 .read (.step 18 .pure (.step 19 .pure (.step 20 .pure (.done)))))))))))))))))))))) mixed (by kernel_rfl) (fun _ _ _ _ hq => hq) ?_
      refine VTS_pure rfl (P_move rfl) rfl rfl rfl ?_
      refine VTS_pure rfl (P_nilCheck rfl) rfl rfl rfl ?_
      refine VTS_pure rfl (P_fieldAddr0 fo103_2 rfl) rfl rfl rfl ?_
      refine VTS_read rfl (S_loadB sg3 rfl (.here) rfl) rfl rfl rfl ?_
      refine VTS_pure rfl (df (P_lss rfl rfl) (by omega)) rfl rfl rfl ?_
      refine VTS_pure rfl (P_move rfl) rfl rfl rfl ?_
      iterate 14 (refine VTS_skip rfl rfl rfl rfl rfl ?_)
      refine VTS_pure rfl (P_pick_f rfl rfl) rfl rfl rfl ?_
      refine VTS_nil ?_
      refine QS_then ?_
      refine TS_false rfl ?_
      refine TS_skip ?_
      refine QS_then ?_
      refine TS_seq ?_
      refine TS_seq ?_
      refine TS_region ?_
      refine VS_pure (P_move rfl) rfl rfl rfl ?_
      refine VS_pure (P_nilCheck rfl) rfl rfl rfl ?_
      refine VS_pure (P_fieldAddr0 fo103_2 rfl) rfl rfl rfl ?_
      refine VS_read (S_loadB sg3 rfl (.here) rfl) rfl rfl rfl ?_
      refine VS_pure (dt (P_geq rfl rfl) (by omega)) rfl rfl rfl ?_
      refine VS_nil ?_
      refine QS_then ?_
      refine TS_true rfl ?_
      refine TS_seq ?_
      refine TS_region ?_
      refine VS_pure (P_assign rfl) rfl rfl rfl ?_
      refine VS_nil ?_
      refine QS_then ?_
      refine TS_ret ?_
      refine QS_then_ret ?_
      exact QS_ret [_] ⟨rfl, trivial⟩ [_] (Pick.refl _) ⟨0, .bad k a1, .inr ⟨k, a1, hbad, rfl, ha1, hk⟩, fun _ _ _ => rfl, rfl, rfl⟩
end Go.Proofs.Ytbpihgphicmdiaa
