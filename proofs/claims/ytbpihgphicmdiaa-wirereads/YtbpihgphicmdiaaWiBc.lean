/- A part of the proof: contracts of functions of the program. No condition. -/
import Derived.Test.YtbpihgphicmdiaaWiBb
namespace Go.Proofs.Ytbpihgphicmdiaa
open Go.Eng Wi
set_option maxRecDepth 100000
/-- a list that the reader yields, in cells of its own -/
def DM {α : Type} (f : FuncId) (rb : Nat) (m : Mp) (A : Option Addr) (c : Nat) (b : List UInt8) (p : Prs (List α)) (T sz : Nat) (val : List α → List Value) : Prop :=
  ∀ s : St, s.fits b → CS Try.prog f [.pointer (some ⟨rb, 0, none⟩)] m [rdE rb A c b.length s] (fun v L' => ∃ xs s' A2 c2, Stp p b s xs s' ∧ xs.length ≤ 65535 ∧ v = .slice A2 xs.length c2 ∧ L' = [rdE rb A c b.length s', own T sz A2 xs.length c2 (val xs)])
set_option maxHeartbeats 8000000 in
theorem bytesD {m : Mp} {rb : Nat} {A : Option Addr} {c : Nat} {b : List UInt8} (hr : Rd m A (b.map byteV)) (hb : b.length ≤ 1099511627776) (hc : b.length ≤ c) : DM 37 rb m A c b pText 5 1 (fun xs => xs.map byteV) := by
  intro s hs
  refine CS_of [.tmp 2] Try.func37 rfl rfl rfl ?_
  refine TS_seq ?_
  refine TS_region ?_
  refine VS_pure (P_assign rfl) rfl rfl rfl ?_
  refine VS_nil ?_
  refine QS_then ?_
  refine TS_seq ?_
  refine TS_region ?_
  refine VS_pure (P_move rfl) rfl rfl rfl ?_
  refine VS_step ((S_callL cl38 rfl (.cons .here .nil) (fun m' hm he => countD (each := 1) (hr.mono hm) hb (by decide) s hs) rfl ?_)) rfl
  rintro _ _ ⟨n, s2, hn, hn0, rfl, rfl⟩
  cases s2 with
  | bad k a2 =>
    obtain rfl := hn0 k a2 rfl
    have hf : a2 ≤ b.length := (hn.fits hs).1
    unfold rdE
    refine VS_nilOwn 5 1 ?_
    refine VS_pure (P_assign rfl) rfl rfl rfl ?_
    refine VS_nil ?_
    refine QS_then ?_
    refine TS_seq ?_
    refine TS_region ?_
    refine VS_pure (P_assign rfl) rfl rfl rfl ?_
    refine VS_nil ?_
    refine QS_then ?_
    refine TS_seq ?_
    refine TS_draw (.step 0 .pure (.step 1 .pure (.step 2 .pure (.step 3 .pure (.step 5 .pure (.step 6 .pure (.step 7 .pure (.step 9 .pure (.step 10 .pure (.step 11 .pure (.step 13 .pure (.step 4 .read (.step 8 .read (.step 12 .read (.step 14 .pure (.step 15 .pure (.step 16 .wild (.step 17 .pure (.done))))))))))))))))))) mixed (by kernel_rfl) (fun _ _ _ _ hq => hq) ?_
    refine VTS_pure rfl (P_move rfl) rfl rfl rfl ?_
    refine VTS_pure rfl (P_move rfl) rfl rfl rfl ?_
    refine VTS_pure rfl (P_nilCheck rfl) rfl rfl rfl ?_
    refine VTS_pure rfl (P_fieldAddr0 fo103_0 rfl) rfl rfl rfl ?_
    refine VTS_pure rfl (P_move rfl) rfl rfl rfl ?_
    refine VTS_pure rfl (P_nilCheck rfl) rfl rfl rfl ?_
    refine VTS_pure rfl (P_fieldAddr0 fo103_1 rfl) rfl rfl rfl ?_
    refine VTS_pure rfl (P_move rfl) rfl rfl rfl ?_
    refine VTS_pure rfl (P_nilCheck rfl) rfl rfl rfl ?_
    refine VTS_pure rfl (P_fieldAddr0 fo103_1 rfl) rfl rfl rfl ?_
    refine VTS_pure rfl (P_move rfl) rfl rfl rfl ?_
    refine VTS_read rfl (S_loadB sg22 rfl (.there (.here)) rfl) rfl rfl rfl ?_
    refine VTS_read rfl (S_loadB sg3 rfl (.there (.here)) rfl) rfl rfl rfl ?_
    refine VTS_read rfl (S_loadB sg3 rfl (.there (.here)) rfl) rfl rfl rfl ?_
    refine VTS_pure rfl (P_addN rfl rfl (by omega)) rfl rfl rfl ?_
    refine VTS_pure rfl (P_slice_lh _ _ ez22 rfl rfl rfl rfl rfl (by omega) (by omega)) rfl rfl rfl ?_
    have hnews : ((b.map byteV).drop (a2 * 1)).take ((a2 + 0 - a2) * 1) = [] := by
      rw [Nat.add_zero, Nat.sub_self, Nat.zero_mul, List.take_zero]
    refine VTS_wild rfl rfl (S_appendR (A2 := cutA A a2 c 1) (j := a2 + 0 - a2) (c2 := c - a2) (news := ((b.map byteV).drop (a2 * 1)).take ((a2 + 0 - a2) * 1)) sl22 rfl rfl rfl rfl (fun _ _ => .here) (fun h hs => (hr.mono hs.base).cut _ (by omega)) (by rw [hnews]; simp) (fun u hu => by rw [hnews] at hu; cases hu) (by simp only [maxLen]; omega) (by omega) rfl (fun A1 c1 => ?_)) rfl
    rw [hnews]
    refine VTS_pure rfl (P_assign rfl) rfl rfl rfl ?_
    refine VTS_nil ?_
    refine QS_then ?_
    refine TS_seq ?_
    refine TS_region ?_
    refine VS_pure (P_move rfl) rfl rfl rfl ?_
    refine VS_pure (P_move rfl) rfl rfl rfl ?_
    refine VS_pure (P_nilCheck rfl) rfl rfl rfl ?_
    refine VS_pure (P_fieldAddr0 fo103_1 rfl) rfl rfl rfl ?_
    refine VS_read (S_loadB sg3 rfl (.there (.here)) rfl) rfl rfl rfl ?_
    refine VS_pure (P_move rfl) rfl rfl rfl ?_
    refine VS_pure (P_addN rfl rfl (by omega)) rfl rfl rfl ?_
    refine VS_pure (P_nilCheck rfl) rfl rfl rfl ?_
    refine VS_pure (P_fieldAddr0 fo103_1 rfl) rfl rfl rfl ?_
    refine VS_step (S_store co3 rfl rfl rfl (.there (.here)) (.there (.here)) ?_) rfl
    refine VS_nil ?_
    refine QS_then ?_
    refine TS_seq ?_
    refine TS_region ?_
    refine VS_pure (P_move rfl) rfl rfl rfl ?_
    refine VS_pure (P_assign rfl) rfl rfl rfl ?_
    refine VS_nil ?_
    refine QS_then ?_
    refine TS_ret ?_
    rw [show 0 + (a2 + 0 - a2) = ([] : List UInt8).length by simp]
    have hst : Stp pText b s [] (.bad k a2) := Stp.bind (q := fun n => pN pByte n) hn rfl
    exact QS_ret [_] ⟨rfl, trivial⟩ [_, _] (.cons (.there .here) (.cons .here (.nil _))) ⟨[], .bad k a2, A1, c1, hst, by simp, rfl, rfl⟩
  | ok a2 =>
    have hf : a2 ≤ b.length := hn.fits hs
    have hle2 : a2 + n ≤ b.length ∧ n ≤ 65535 := by
      cases s with
      | ok a =>
        rcases hn with ⟨a', h, e, _⟩ | ⟨k, a', h, e, _⟩
        · cases e
          have := (pSize_le h).1
          have := (pSize_le h).2
          omega
        · cases e
      | bad k a => cases hn
    obtain ⟨hle, hn65⟩ := hle2
    unfold rdE
    refine VS_nilOwn 5 1 ?_
    refine VS_pure (P_assign rfl) rfl rfl rfl ?_
    refine VS_nil ?_
    refine QS_then ?_
    refine TS_seq ?_
    refine TS_region ?_
    refine VS_pure (P_assign rfl) rfl rfl rfl ?_
    refine VS_nil ?_
    refine QS_then ?_
    refine TS_seq ?_
    refine TS_draw (.step 0 .pure (.step 1 .pure (.step 2 .pure (.step 3 .pure (.step 5 .pure (.step 6 .pure (.step 7 .pure (.step 9 .pure (.step 10 .pure (.step 11 .pure (.step 13 .pure (.step 4 .read (.step 8 .read (.step 12 .read (.step 14 .pure (.step 15 .pure (.step 16 .wild (.step 17 .pure (.done))))))))))))))))))) mixed (by kernel_rfl) (fun _ _ _ _ hq => hq) ?_
    refine VTS_pure rfl (P_move rfl) rfl rfl rfl ?_
    refine VTS_pure rfl (P_move rfl) rfl rfl rfl ?_
    refine VTS_pure rfl (P_nilCheck rfl) rfl rfl rfl ?_
    refine VTS_pure rfl (P_fieldAddr0 fo103_0 rfl) rfl rfl rfl ?_
    refine VTS_pure rfl (P_move rfl) rfl rfl rfl ?_
    refine VTS_pure rfl (P_nilCheck rfl) rfl rfl rfl ?_
    refine VTS_pure rfl (P_fieldAddr0 fo103_1 rfl) rfl rfl rfl ?_
    refine VTS_pure rfl (P_move rfl) rfl rfl rfl ?_
    refine VTS_pure rfl (P_nilCheck rfl) rfl rfl rfl ?_
    refine VTS_pure rfl (P_fieldAddr0 fo103_1 rfl) rfl rfl rfl ?_
    refine VTS_pure rfl (P_move rfl) rfl rfl rfl ?_
    refine VTS_read rfl (S_loadB sg22 rfl (.there (.here)) rfl) rfl rfl rfl ?_
    refine VTS_read rfl (S_loadB sg3 rfl (.there (.here)) rfl) rfl rfl rfl ?_
    refine VTS_read rfl (S_loadB sg3 rfl (.there (.here)) rfl) rfl rfl rfl ?_
    refine VTS_pure rfl (P_addN rfl rfl (by omega)) rfl rfl rfl ?_
    refine VTS_pure rfl (P_slice_lh _ _ ez22 rfl rfl rfl rfl rfl (by omega) (by omega)) rfl rfl rfl ?_
    have hnews : ((b.map byteV).drop (a2 * 1)).take ((a2 + n - a2) * 1) = ((b.drop a2).take n).map byteV := by
      rw [Nat.mul_one, Nat.mul_one, Nat.add_sub_cancel_left, ← List.map_drop, ← List.map_take]
    have hlen : ((b.drop a2).take n).length = n := by rw [List.length_take, List.length_drop]; omega
    refine VTS_wild rfl rfl (S_appendR (A2 := cutA A a2 c 1) (j := a2 + n - a2) (c2 := c - a2) (news := ((b.map byteV).drop (a2 * 1)).take ((a2 + n - a2) * 1)) sl22 rfl rfl rfl rfl (fun _ _ => .here) (fun h hs => (hr.mono hs.base).cut _ (by omega)) (by rw [hnews, List.length_map, hlen]; omega) (fun u hu => by rw [hnews] at hu; obtain ⟨x, _, rfl⟩ := List.mem_map.1 hu; rfl) (by simp only [maxLen]; omega) (by omega) rfl (fun A1 c1 => ?_)) rfl
    rw [hnews]
    refine VTS_pure rfl (P_assign rfl) rfl rfl rfl ?_
    refine VTS_nil ?_
    refine QS_then ?_
    refine TS_seq ?_
    refine TS_region ?_
    refine VS_pure (P_move rfl) rfl rfl rfl ?_
    refine VS_pure (P_move rfl) rfl rfl rfl ?_
    refine VS_pure (P_nilCheck rfl) rfl rfl rfl ?_
    refine VS_pure (P_fieldAddr0 fo103_1 rfl) rfl rfl rfl ?_
    refine VS_read (S_loadB sg3 rfl (.there (.here)) rfl) rfl rfl rfl ?_
    refine VS_pure (P_move rfl) rfl rfl rfl ?_
    refine VS_pure (P_addN rfl rfl (by omega)) rfl rfl rfl ?_
    refine VS_pure (P_nilCheck rfl) rfl rfl rfl ?_
    refine VS_pure (P_fieldAddr0 fo103_1 rfl) rfl rfl rfl ?_
    refine VS_step (S_store co3 rfl rfl rfl (.there (.here)) (.there (.here)) ?_) rfl
    refine VS_nil ?_
    refine QS_then ?_
    refine TS_seq ?_
    refine TS_region ?_
    refine VS_pure (P_move rfl) rfl rfl rfl ?_
    refine VS_pure (P_assign rfl) rfl rfl rfl ?_
    refine VS_nil ?_
    refine QS_then ?_
    refine TS_ret ?_
    rw [show 0 + (a2 + n - a2) = ((b.drop a2).take n).length by omega]
    have hst : Stp pText b s ((b.drop a2).take n) (.ok (a2 + n)) := Stp.bind (q := fun n => pN pByte n) hn (.inl ⟨a2 + n, by rw [pN_byte b n a2 hf, if_pos hle], rfl, hle⟩)
    exact QS_ret [_] ⟨rfl, trivial⟩ [_, _] (.cons (.there .here) (.cons .here (.nil _))) ⟨(b.drop a2).take n, .ok (a2 + n), A1, c1, hst, by omega, rfl, rfl⟩
/-- after a fault the rest of a list is not read -/
theorem Stp.stop {α : Type} {p : Prs α} {b : List UInt8} {s : St} {l : List α} {j n k a : Nat} (h : Stp (pN p j) b s l (.bad k a)) (hj : j ≤ n) : Stp (pN p n) b s l (.bad k a) := by
  cases s with
  | ok a0 =>
    rcases h with ⟨a', _, h, _⟩ | ⟨k', a', h1, h2, h3⟩
    · cases h
    · exact .inr ⟨k', a', pN_bad hj h1, h2, h3⟩
  | bad k0 a0 => exact h
set_option maxHeartbeats 8000000 in
theorem numsD {m : Mp} {rb : Nat} {A : Option Addr} {c : Nat} {b : List UInt8} (hr : Rd m A (b.map byteV)) (hb : b.length ≤ 1099511627776) : DM 58 rb m A c b (pMany 8 pNum) 3 1 (fun xs => xs.map iV) := by
  intro s hs
  refine CS_of [.tmp 2] Try.func58 rfl rfl rfl ?_
  refine TS_seq ?_
  refine TS_region ?_
  refine VS_pure (P_assign rfl) rfl rfl rfl ?_
  refine VS_nil ?_
  refine QS_then ?_
  refine TS_seq ?_
  refine TS_region ?_
  refine VS_pure (P_assign rfl) rfl rfl rfl ?_
  refine VS_nil ?_
  refine QS_then ?_
  refine TS_seq ?_
  refine TS_region ?_
  refine VS_pure (P_move rfl) rfl rfl rfl ?_
  refine VS_step ((S_callL cl38 rfl (.cons .here .nil) (fun m' hm he => countD (each := 8) (hr.mono hm) hb (by decide) s hs) rfl ?_)) rfl
  rintro _ _ ⟨n, s2, hn, hn0, rfl, rfl⟩
  have hs2 := hn.fits hs
  have hn65 : n ≤ 65535 := by
    cases s2 with
    | bad k a => rw [hn0 k a rfl]; omega
    | ok a2 =>
      cases s with
      | ok a =>
        rcases hn with ⟨a', h, e, _⟩ | ⟨k, a', h, e, _⟩
        · exact (pSize_le h).1
        · cases e
      | bad k a => cases hn
  refine VS_pure (P_assign rfl) rfl rfl rfl ?_
  refine VS_nil ?_
  refine QS_then ?_
  refine TS_seq ?_
  refine TS_seq ?_
  refine TS_region ?_
  refine VS_pure (P_assign rfl) rfl rfl rfl ?_
  refine VS_nil ?_
  refine QS_then ?_
  refine TS_block ?_
  refine TS_nilOwn 3 1 ?_
  refine TS_loop4 (β := List Int × St) (fun j A' c' t => [(0, .pointer (some ⟨rb, 0, none⟩)), (3, .slice A' t.1.length c'), (4, .int .i64 (n : Nat)), (5, .int .i64 (j : Nat))]) (fun j A' c' t => [rdE rb A c b.length t.2, own 3 1 A' t.1.length c' (t.1.map iV)]) (fun j t => j ≤ n ∧ t.1.length = j ∧ Stp (pN pNum j) b s2 t.1 t.2) (fun j => n - j) 0 none 0 ([], s2) ⟨rfl, rfl, rfl, rfl, trivial⟩ (.cons (.there .here) (.cons .here (.nil _))) ⟨Nat.zero_le _, rfl, Stp.pure hs2⟩ ?_
  rintro j A' c' ⟨l, s1⟩ ⟨hj, hl, hst⟩
  dsimp only at hl hst ⊢
  subst hl
  cases s1 with
  | bad k a =>
    unfold rdE
    by_cases hlt : l.length < n
    · refine TS_seq ?_
      refine TS_seq ?_
      refine TS_region ?_
      refine VS_pure (P_move rfl) rfl rfl rfl ?_
      refine VS_pure (P_move rfl) rfl rfl rfl ?_
      refine VS_pure (dt (P_lss rfl rfl) (by omega)) rfl rfl rfl ?_
      refine VS_pure (P_move rfl) rfl rfl rfl ?_
      refine VS_pure (P_move rfl) rfl rfl rfl ?_
      refine VS_pure (P_nilCheck rfl) rfl rfl rfl ?_
      refine VS_pure (P_fieldAddr0 fo103_2 rfl) rfl rfl rfl ?_
      refine VS_read (S_loadB sg3 rfl (.here) rfl) rfl rfl rfl ?_
      refine VS_pure (df (P_lss rfl rfl) (by omega)) rfl rfl rfl ?_
      refine VS_pure (P_pick_t rfl rfl) rfl rfl rfl ?_
      refine VS_nil ?_
      refine QS_then ?_
      refine TS_false rfl ?_
      refine TS_exit ?_
      refine QS_then_exit ?_
      refine QS_round4_exit ?_
      refine QS_block_here ?_
      refine QS_then ?_
      refine TS_seq ?_
      refine TS_region ?_
      refine VS_pure (P_move rfl) rfl rfl rfl ?_
      refine VS_pure (P_assign rfl) rfl rfl rfl ?_
      refine VS_nil ?_
      refine QS_then ?_
      refine TS_ret ?_
      exact QS_ret [_] ⟨rfl, trivial⟩ [_, _] (Pick.refl _) ⟨l, .bad k a, A', c', Stp.bind (q := fun n => pN pNum n) hn (hst.stop hj), by omega, rfl, rfl⟩
    · refine TS_seq ?_
      refine TS_seq ?_
      refine TS_region ?_
      refine VS_pure (P_move rfl) rfl rfl rfl ?_
      refine VS_pure (P_move rfl) rfl rfl rfl ?_
      refine VS_pure (df (P_lss rfl rfl) (by omega)) rfl rfl rfl ?_
      refine VS_pure (P_move rfl) rfl rfl rfl ?_
      iterate 5 (refine VS_skip rfl rfl rfl ?_)
      refine VS_pure (P_pick_f rfl rfl) rfl rfl rfl ?_
      refine VS_nil ?_
      refine QS_then ?_
      refine TS_false rfl ?_
      refine TS_exit ?_
      refine QS_then_exit ?_
      refine QS_round4_exit ?_
      refine QS_block_here ?_
      refine QS_then ?_
      refine TS_seq ?_
      refine TS_region ?_
      refine VS_pure (P_move rfl) rfl rfl rfl ?_
      refine VS_pure (P_assign rfl) rfl rfl rfl ?_
      refine VS_nil ?_
      refine QS_then ?_
      refine TS_ret ?_
      exact QS_ret [_] ⟨rfl, trivial⟩ [_, _] (Pick.refl _) ⟨l, .bad k a, A', c', Stp.bind (q := fun n => pN pNum n) hn (hst.stop hj), by omega, rfl, rfl⟩
  | ok a =>
    unfold rdE
    by_cases hlt : l.length < n
    · refine TS_seq ?_
      refine TS_seq ?_
      refine TS_region ?_
      refine VS_pure (P_move rfl) rfl rfl rfl ?_
      refine VS_pure (P_move rfl) rfl rfl rfl ?_
      refine VS_pure (dt (P_lss rfl rfl) (by omega)) rfl rfl rfl ?_
      refine VS_pure (P_move rfl) rfl rfl rfl ?_
      refine VS_pure (P_move rfl) rfl rfl rfl ?_
      refine VS_pure (P_nilCheck rfl) rfl rfl rfl ?_
      refine VS_pure (P_fieldAddr0 fo103_2 rfl) rfl rfl rfl ?_
      refine VS_read (S_loadB sg3 rfl (.here) rfl) rfl rfl rfl ?_
      refine VS_pure (dt (P_lss rfl rfl) (by omega)) rfl rfl rfl ?_
      refine VS_pure (P_pick_t rfl rfl) rfl rfl rfl ?_
      refine VS_nil ?_
      refine QS_then ?_
      refine TS_true rfl ?_
      refine TS_skip ?_
      refine QS_then ?_
      refine TS_seq ?_
      refine TS_block ?_
      refine TS_seq ?_
      refine TS_region ?_
      refine VS_pure (P_move rfl) rfl rfl rfl ?_
      refine VS_step ((S_callL cl36 rfl (.cons .here .nil) (fun m' hm he => numD (hr.mono hm) hb (.ok a) (hst.fits hs2)) rfl ?_)) rfl
      rintro _ _ ⟨x, s3, hx, rfl, rfl⟩
      refine VS_pure (P_assign rfl) rfl rfl rfl ?_
      refine VS_nil ?_
      refine QS_then ?_
      refine TS_region ?_
      refine VS_pure (P_move rfl) rfl rfl rfl ?_
      refine VS_pure (P_move rfl) rfl rfl rfl ?_
      refine VS_step (S_buildSlice sl25 rfl rfl rfl rfl (fun b1 => ?_)) rfl
      refine VS_step (S_append sl25 rfl rfl rfl rfl (.here) (fun _ _ => (.there (.there (.here)))) rfl rfl (by first | omega | (simp only [maxLen]; omega)) (by omega) rfl (fun A1 c1 => ?_)) rfl
      refine VS_pure (P_assign rfl) rfl rfl rfl ?_
      refine VS_nil ?_
      refine QS_block ?_
      refine QS_then ?_
      refine TS_region ?_
      refine VS_pure (P_move rfl) rfl rfl rfl ?_
      refine VS_pure (P_add rfl rfl (w64 (by omega) (by omega))) rfl rfl rfl ?_
      refine VS_pure (P_assign rfl) rfl rfl rfl ?_
      refine VS_nil ?_
      refine QS_round4 (Le.refl _) (l.length + 1) A1 c1 (l ++ [x], s3) ⟨rfl, by rw [List.length_append, List.length_singleton]; rfl, rfl, rfl, trivial⟩ ?_ ⟨hlt, by simp, Stp.snoc hst hx hs2⟩ (by omega)
      dsimp only
      rw [List.length_append, List.length_singleton, List.map_append, List.map_cons, List.map_nil]
      exact .cons (.there .here) (.cons (.there .here) (.nil _))
    · refine TS_seq ?_
      refine TS_seq ?_
      refine TS_region ?_
      refine VS_pure (P_move rfl) rfl rfl rfl ?_
      refine VS_pure (P_move rfl) rfl rfl rfl ?_
      refine VS_pure (df (P_lss rfl rfl) (by omega)) rfl rfl rfl ?_
      refine VS_pure (P_move rfl) rfl rfl rfl ?_
      iterate 5 (refine VS_skip rfl rfl rfl ?_)
      refine VS_pure (P_pick_f rfl rfl) rfl rfl rfl ?_
      refine VS_nil ?_
      refine QS_then ?_
      refine TS_false rfl ?_
      refine TS_exit ?_
      refine QS_then_exit ?_
      refine QS_round4_exit ?_
      refine QS_block_here ?_
      refine QS_then ?_
      refine TS_seq ?_
      refine TS_region ?_
      refine VS_pure (P_move rfl) rfl rfl rfl ?_
      refine VS_pure (P_assign rfl) rfl rfl rfl ?_
      refine VS_nil ?_
      refine QS_then ?_
      refine TS_ret ?_
      have e : l.length = n := by omega
      exact QS_ret [_] ⟨rfl, trivial⟩ [_, _] (Pick.refl _) ⟨l, .ok a, A', c', Stp.bind (q := fun n => pN pNum n) hn (by rw [← e]; exact hst), by omega, rfl, rfl⟩
end Go.Proofs.Ytbpihgphicmdiaa
