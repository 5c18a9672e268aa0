/- A part of the proof: contracts of functions of the program. No condition. -/
import Derived.Test.YtbpihgphicmdiaaWiI
import Derived.Test.YtbpihgphicmdiaaEng2
namespace Go.Proofs.Ytbpihgphicmdiaa
open Go.Eng Wi
set_option maxRecDepth 100000
/-- a byte of a number, the j-th from the top -/
def nb (n : Int) (j : Nat) : UInt8 := UInt8.ofNat ((n % 18446744073709551616).toNat / 2 ^ (56 - 8 * j) % 256)
def be8 (n : Int) : List UInt8 := [nb n 0, nb n 1, nb n 2, nb n 3, nb n 4, nb n 5, nb n 6, nb n 7]
theorem ofNat_toNat {k : Nat} (h : k < 256) : (UInt8.ofNat k).toNat = k := by simp; omega
theorem nb_spec (n : Int) {j : Nat} (hj : j < 8) : IntKind.u8.wrap (IntKind.u64.wrap n / 2 ^ ((56 : Int) - 8 * (j : Int)).toNat) = ((nb n j).toNat : Int) := by
  unfold nb
  rw [ofNat_toNat (Nat.mod_lt _ (by decide)), IntKind.wrap_u64, IntKind.wrap_u8]
  have h1 : ((56 : Int) - 8 * (j : Int)).toNat = 56 - 8 * j := by omega
  rw [h1]
  have h2 : ((n % 18446744073709551616).toNat : Int) = n % 18446744073709551616 := Int.toNat_of_nonneg (Int.emod_nonneg _ (by decide))
  push_cast
  rw [h2]
theorem be8_getElem (n : Int) {j : Nat} (hj : j < 8) : (be8 n)[j]? = some (nb n j) := by
  rcases j with _ | _ | _ | _ | _ | _ | _ | _ | j <;> first | rfl | omega
theorem be8_take (n : Int) {j : Nat} (hj : j < 8) : (be8 n).take (j + 1) = (be8 n).take j ++ [nb n j] := by
  rw [List.take_add_one, be8_getElem n hj]; rfl
theorem i64_u64 {n : Int} (h0 : -9223372036854775808 ≤ n) (h1 : n ≤ 9223372036854775807) : IntKind.i64.wrap (IntKind.u64.wrap n) = n := by
  rw [IntKind.wrap_u64, IntKind.wrap_i64]; omega
/-- the cursor that writes, and what it has written -/
def curE (bc : Nat) (A : Option Addr) (c : Nat) (out : List UInt8) : List Ent := [cel bc [.slice A out.length c, .int .i64 0, .bool false] 86, own 5 1 A out.length c (out.map byteV)]
def WPost (bc : Nat) (out : List UInt8) (v : Value) (L' : List Ent) : Prop := v = .tuple #[] ∧ ∃ A c, L' = curE bc A c out
def ptr (a : Addr) : Value := .pointer (some a)
set_option maxHeartbeats 4000000 in
theorem byteW {m : Mp} {bc : Nat} {A : Option Addr} {c : Nat} {out : List UInt8} {a : Addr} {b : UInt8} (hx : Wc m a (byteV b)) (hl : out.length < 1099511627776) : CS Try.prog 24 [.pointer (some ⟨bc, 0, none⟩), .pointer (some a)] m (curE bc A c out) (WPost bc (out ++ [b])) := by
  refine CS_of [] Try.func24 rfl rfl rfl ?_
  unfold curE
  refine TS_seq ?_
  refine TS_seq ?_
  refine TS_region ?_
  refine VS_pure (P_move rfl) rfl rfl rfl ?_
  refine VS_pure (P_nilCheck rfl) rfl rfl rfl ?_
  refine VS_pure (P_fieldAddr0 fo86_2 rfl) rfl rfl rfl ?_
  refine VS_read (S_loadB sg4 rfl (.here) rfl) rfl rfl rfl ?_
  refine VS_pure (P_not rfl) rfl rfl rfl ?_
  refine VS_nil ?_
  refine QS_then ?_
  refine TS_true rfl ?_
  refine TS_seq ?_
  refine TS_draw (.step 0 .pure (.step 1 .pure (.step 2 .pure (.step 3 .pure (.step 5 .pure (.step 6 .pure (.step 4 .read (.step 7 .read (.step 8 .kept (.step 9 .wild (.step 10 .pure (.step 11 .pure (.step 12 .wild (.done)))))))))))))) mixed (by kernel_rfl) (fun _ _ _ _ hq => hq) ?_
  refine VTS_pure rfl (P_move rfl) rfl rfl rfl ?_
  refine VTS_pure rfl (P_move rfl) rfl rfl rfl ?_
  refine VTS_pure rfl (P_nilCheck rfl) rfl rfl rfl ?_
  refine VTS_pure rfl (P_fieldAddr0 fo86_0 rfl) rfl rfl rfl ?_
  refine VTS_pure rfl (P_move rfl) rfl rfl rfl ?_
  refine VTS_pure rfl (P_nilCheck rfl) rfl rfl rfl ?_
  refine VTS_read rfl (S_loadB sg22 rfl (.here) rfl) rfl rfl rfl ?_
  refine VTS_read rfl (S_loadW sg5 rfl hx) rfl rfl rfl ?_
  refine VTS_kept rfl (S_buildSlice sl22 rfl rfl rfl rfl (fun b1 => ?_)) rfl
  refine VTS_wild rfl rfl (S_append sl22 rfl rfl rfl rfl (.here) (fun _ _ => (.there (.there (.here)))) rfl rfl (by first | omega | (simp only [maxLen]; omega)) (by omega) rfl (fun A1 c1 => ?_)) rfl
  refine VTS_pure rfl (P_nilCheck rfl) rfl rfl rfl ?_
  refine VTS_pure rfl (P_fieldAddr0 fo86_0 rfl) rfl rfl rfl ?_
  refine VTS_wild rfl rfl (S_store co22 rfl rfl rfl (.there (.here)) (.here) ?_) rfl
  refine VTS_nil ?_
  refine QS_then ?_
  refine TS_ret ?_
  refine QS_then_ret ?_
  refine QS_ret [] trivial (curE bc A1 c1 (out ++ [b])) ?_ ⟨rfl, _, _, rfl⟩
  simp only [curE, List.length_append, List.length_singleton, List.map_append, List.map_cons, List.map_nil]
  exact .cons (.there .here) (.cons (.there .here) (.nil _))
set_option maxHeartbeats 4000000 in
theorem numW {m : Mp} {bc : Nat} {A : Option Addr} {c : Nat} {out : List UInt8} {a : Addr} {n : Int} (hx : Wc m a (iV n)) (h0 : -9223372036854775808 ≤ n) (h1 : n ≤ 9223372036854775807) (hl : out.length < 549755813888) :
    CS Try.prog 47 [.pointer (some ⟨bc, 0, none⟩), .pointer (some a)] m (curE bc A c out) (WPost bc (out ++ be8 n)) := by
  refine CS_of [] Try.func47 rfl rfl rfl ?_
  unfold curE
  refine TS_seq ?_
  refine TS_region ?_
  refine VS_pure (P_move rfl) rfl rfl rfl ?_
  refine VS_pure (P_nilCheck rfl) rfl rfl rfl ?_
  refine VS_read (S_loadW sg3 rfl hx) rfl rfl rfl ?_
  refine VS_pure (P_conv_int us3 ik128 rfl rfl) rfl rfl rfl ?_
  refine VS_pure (P_assign rfl) rfl rfl rfl ?_
  refine VS_nil ?_
  refine QS_then ?_
  refine TS_seq ?_
  refine TS_seq ?_
  refine TS_region ?_
  refine VS_pure (P_assign rfl) rfl rfl rfl ?_
  refine VS_nil ?_
  refine QS_then ?_
  refine TS_block ?_
  refine TS_loop3 (fun j _ _ => [(0, .pointer (some ⟨bc, 0, none⟩)), (1, .pointer (some a)), (4, .int .u64 (IntKind.u64.wrap n)), (5, .int .i64 ((56 : Int) - 8 * (j : Int)))]) (fun j A c => curE bc A c (out ++ (be8 n).take j)) (fun j => j ≤ 8) (fun j => 8 - j) 0 A c ⟨rfl, rfl, rfl, rfl, trivial⟩ (by rw [List.take_zero, List.append_nil]; exact Pick.refl _) (Nat.zero_le _) ?_
  intro j A2 c2 hj
  unfold curE
  by_cases hlt : j < 8
  · refine TS_seq ?_
    refine TS_seq ?_
    refine TS_region ?_
    refine VS_pure (P_move rfl) rfl rfl rfl ?_
    refine VS_pure (dt (P_geq rfl rfl) (by omega)) rfl rfl rfl ?_
    refine VS_nil ?_
    refine QS_then ?_
    refine TS_true rfl ?_
    refine TS_skip ?_
    refine QS_then ?_
    refine TS_seq ?_
    refine TS_block ?_
    refine TS_seq ?_
    refine TS_region ?_
    refine VS_pure (P_move rfl) rfl rfl rfl ?_
    refine VS_pure (P_move rfl) rfl rfl rfl ?_
    refine VS_pure (P_conv_int us3 ik129 rfl (wu64 (by omega) (by omega))) rfl rfl rfl ?_
    refine VS_pure (P_shr rfl rfl (by omega) (by show _ ≤ (64 : Int); omega) rfl) rfl rfl rfl ?_
    refine VS_pure (P_conv_int us128 ik5 rfl rfl) rfl rfl rfl ?_
    refine VS_step (S_alloc zl5 rfl (fun b1 => ?_)) rfl
    refine VS_step (S_store co5 rfl rfl rfl (.here) (.here) ?_) rfl
    refine VS_nil ?_
    refine QS_then ?_
    refine TS_seq ?_
    refine TS_region ?_
    refine VS_pure (P_move rfl) rfl rfl rfl ?_
    rw [nb_spec n hlt]
    have hb : ∀ m', HE [cel b1 [byteV (nb n j)] 5] m' → Wc m' ⟨b1, 0, none⟩ (byteV (nb n j)) := fun m' h => Wc.he h rfl
    have hlen : (out ++ (be8 n).take j).length < 1099511627776 := by rw [List.length_append, List.length_take]; omega
    refine VS_step ((S_callL cl24 rfl (.cons (.there .here) (.cons (.there .here) .nil)) (fun m' hm he => byteW (A := A2) (c := c2) (hb m' he) hlen) rfl ?_)) rfl
    rintro _ _ ⟨rfl, A3, c3, rfl⟩
    unfold curE
    refine VS_nil ?_
    refine QS_then ?_
    refine TS_seq ?_
    refine TS_region ?_
    refine VS_pure (P_move rfl) rfl rfl rfl ?_
    refine VS_pure (P_nilCheck rfl) rfl rfl rfl ?_
    refine VS_pure (P_fieldAddr0 fo86_2 rfl) rfl rfl rfl ?_
    refine VS_read (S_loadB sg4 rfl (.here) rfl) rfl rfl rfl ?_
    refine VS_nil ?_
    refine QS_then ?_
    refine TS_false rfl ?_
    refine TS_skip ?_
    refine QS_block ?_
    refine QS_then ?_
    refine TS_region ?_
    refine VS_pure (P_move rfl) rfl rfl rfl ?_
    refine VS_pure (P_sub rfl rfl (w64 (by omega) (by omega))) rfl rfl rfl ?_
    refine VS_pure (P_assign rfl) rfl rfl rfl ?_
    refine VS_nil ?_
    refine QS_round3 (j + 1) A3 c3 ⟨rfl, rfl, rfl, ?_, trivial⟩ ?_ (by omega) (by omega)
    · have e : ((56 : Int) - 8 * (j : Int) - 8) = (56 : Int) - 8 * ((j + 1 : Nat) : Int) := by omega
      rw [← e]
      rfl
    · rw [be8_take n hlt, ← List.append_assoc]
      exact .cons .here (.cons .here (.nil _))
  · have : j = 8 := by omega
    subst this
    refine TS_seq ?_
    refine TS_seq ?_
    refine TS_region ?_
    refine VS_pure (P_move rfl) rfl rfl rfl ?_
    refine VS_pure (df (P_geq rfl rfl) (by omega)) rfl rfl rfl ?_
    refine VS_nil ?_
    refine QS_then ?_
    refine TS_false rfl ?_
    refine TS_exit ?_
    refine QS_then_exit ?_
    refine QS_round3_exit ?_
    refine QS_block_here ?_
    refine QS_then ?_
    refine TS_region ?_
    refine VS_pure (P_move rfl) rfl rfl rfl ?_
    refine VS_pure (P_move rfl) rfl rfl rfl ?_
    refine VS_pure (P_conv_int us128 ik3 rfl rfl) rfl rfl rfl ?_
    refine VS_pure (P_nilCheck rfl) rfl rfl rfl ?_
    rw [i64_u64 h0 h1]
    refine VS_step (S_storeSame co3 rfl rfl rfl hx ?_) rfl
    refine VS_nil ?_
    exact QS_retN [] trivial (curE bc A2 c2 (out ++ be8 n)) (Pick.refl _) ⟨rfl, _, _, rfl⟩
def ub (op : Int) : UInt8 := UInt8.ofNat (op % 256).toNat
theorem ub_spec (op : Int) : IntKind.u8.wrap op = ((ub op).toNat : Int) := by
  have h1 : 0 ≤ op % 256 := Int.emod_nonneg _ (by decide)
  have h2 : op % 256 < 256 := Int.emod_lt_of_pos _ (by decide)
  unfold ub
  rw [ofNat_toNat (by omega), IntKind.wrap_u8]
  omega
theorem ub_neg {op : Int} (h0 : -128 ≤ op) (h1 : op < 0) : 127 < ((ub op).toNat : Int) := by rw [← ub_spec, IntKind.wrap_u8]; omega
theorem ub_pos {op : Int} (h0 : 0 ≤ op) (h1 : op ≤ 127) : ((ub op).toNat : Int) = op := by rw [← ub_spec, IntKind.wrap_u8]; omega
def wrongV (at_ : Nat) : Value := .iface 82 (.agg [.int .i64 (at_ : Nat)].toArray)
set_option maxHeartbeats 4000000 in
theorem smallW {m : Mp} {bc : Nat} {A : Option Addr} {c : Nat} {out : List UInt8} {a : Addr} {op : Int} (hx : Wc m a (.int .i8 op)) (h0 : -128 ≤ op) (h1 : op ≤ 127) (hl : out.length < 1099511627776) :
    CSP Try.prog 63 [.pointer (some ⟨bc, 0, none⟩), .pointer (some a)] m (curE bc A c out) (fun v L' => 0 ≤ op ∧ WPost bc (out ++ [ub op]) v L') (fun v _ => op < 0 ∧ ∃ at_, v = wrongV at_) := by
  refine CSP_of [] Try.func63 rfl rfl rfl ?_
  unfold curE
  refine TS_seq ?_
  refine TS_region ?_
  refine VS_pure (P_move rfl) rfl rfl rfl ?_
  refine VS_pure (P_nilCheck rfl) rfl rfl rfl ?_
  refine VS_pure (P_fieldAddr0 fo86_1 rfl) rfl rfl rfl ?_
  refine VS_read (S_loadB sg3 rfl (.here) rfl) rfl rfl rfl ?_
  refine VS_pure (P_assign rfl) rfl rfl rfl ?_
  refine VS_nil ?_
  refine QS_then ?_
  refine TS_seq ?_
  refine TS_region ?_
  refine VS_pure (P_move rfl) rfl rfl rfl ?_
  refine VS_pure (P_nilCheck rfl) rfl rfl rfl ?_
  refine VS_read (S_loadW sg24 rfl hx) rfl rfl rfl ?_
  refine VS_pure (P_conv_int us24 ik5 rfl rfl) rfl rfl rfl ?_
  refine VS_step (S_alloc zl5 rfl (fun b1 => ?_)) rfl
  refine VS_step (S_store co5 rfl rfl rfl (.here) (.here) ?_) rfl
  refine VS_nil ?_
  refine QS_then ?_
  refine TS_seq ?_
  refine TS_region ?_
  refine VS_pure (P_move rfl) rfl rfl rfl ?_
  rw [ub_spec op]
  refine VS_step ((S_callL cl24 rfl (.cons (.there .here) (.cons (.there .here) .nil)) (fun m' hm he => byteW (A := A) (c := c) (b := ub op) (Wc.he he rfl) hl) rfl ?_)) rfl
  rintro _ _ ⟨rfl, A3, c3, rfl⟩
  unfold curE
  by_cases hneg : op < 0
  · have hb := ub_neg h0 hneg
    refine VS_nil ?_
    refine QS_then ?_
    refine TS_seq ?_
    refine TS_seq ?_
    refine TS_region ?_
    refine VS_read (S_loadB sg5 rfl (.there (.there (.here))) rfl) rfl rfl rfl ?_
    refine VS_pure (dt (P_gtr rfl rfl) (by assumption)) rfl rfl rfl ?_
    refine VS_nil ?_
    refine QS_then ?_
    refine TS_true rfl ?_
    refine TS_region ?_
    refine VS_pure (P_move rfl) rfl rfl rfl ?_
    refine VS_pure (P_build zl82 pl82 rfl rfl) rfl rfl rfl ?_
    refine VS_pure (P_mkIface ni82 us82 rfl) rfl rfl rfl ?_
    refine VS_step (kept := false) (S_panic rfl ?_) rfl
    refine QS_then_pan ?_
    exact QS_pan [] (Pick.nil _) ⟨hneg, 0, rfl⟩
  · have hb := ub_pos (by omega) h1
    refine VS_nil ?_
    refine QS_then ?_
    refine TS_seq ?_
    refine TS_seq ?_
    refine TS_region ?_
    refine VS_read (S_loadB sg5 rfl (.there (.there (.here))) rfl) rfl rfl rfl ?_
    refine VS_pure (df (P_gtr rfl rfl) (by omega)) rfl rfl rfl ?_
    refine VS_nil ?_
    refine QS_then ?_
    refine TS_false rfl ?_
    refine TS_skip ?_
    refine QS_then ?_
    refine TS_region ?_
    refine VS_pure (P_move rfl) rfl rfl rfl ?_
    refine VS_read (S_loadB sg5 rfl (.there (.there (.here))) rfl) rfl rfl rfl ?_
    refine VS_pure (P_conv_int us5 ik24 rfl (w8 (by omega) (by omega))) rfl rfl rfl ?_
    refine VS_pure (P_nilCheck rfl) rfl rfl rfl ?_
    rw [hb]
    refine VS_step (S_storeSame co24 rfl rfl rfl hx ?_) rfl
    refine VS_nil ?_
    exact QS_retPN [] trivial (curE bc A3 c3 (out ++ [ub op])) (.cons .here (.cons .here (.nil _))) ⟨by omega, rfl, _, _, rfl⟩
def sz2 (n : Nat) : List UInt8 := [UInt8.ofNat (n / 256 % 256), UInt8.ofNat (n % 256)]
theorem sz_hi {n : Nat} : IntKind.u8.wrap ((n : Int) / 2 ^ (8 : Int).toNat) = ((UInt8.ofNat (n / 256 % 256)).toNat : Int) := by
  rw [ofNat_toNat (Nat.mod_lt _ (by decide)), IntKind.wrap_u8]
  have : (2 : Int) ^ (8 : Int).toNat = 256 := by decide
  rw [this]
  omega
theorem sz_lo {n : Nat} : IntKind.u8.wrap (n : Int) = ((UInt8.ofNat (n % 256)).toNat : Int) := by
  rw [ofNat_toNat (Nat.mod_lt _ (by decide)), IntKind.wrap_u8]
  omega
theorem sz_join {n : Nat} (h : n ≤ 65535) : bits BinOp.or IntKind.i64 (IntKind.i64.wrap (IntKind.i64.wrap ((UInt8.ofNat (n / 256 % 256)).toNat : Int) * 2 ^ (8 : Int).toNat)) (IntKind.i64.wrap ((UInt8.ofNat (n % 256)).toNat : Int)) = (n : Int) := by
  rw [ofNat_toNat (Nat.mod_lt _ (by decide)), ofNat_toNat (Nat.mod_lt _ (by decide))]
  have e8 : (2 : Int) ^ (8 : Int).toNat = 256 := by decide
  rw [e8, w64 (n := ((n / 256 % 256 : Nat) : Int)) (by omega) (by omega), w64 (n := ((n % 256 : Nat) : Int)) (by omega) (by omega), w64 (by omega) (by omega)]
  have := i64_joinN 8 (n / 256 % 256 * 256) (n % 256) (by omega) (by omega) (by omega) (by omega)
  push_cast at this ⊢
  rw [this]
  omega
set_option maxHeartbeats 4000000 in
theorem sizeW {m : Mp} {bc : Nat} {A : Option Addr} {c : Nat} {out : List UInt8} {n : Nat} {each : Int} (hl : out.length < 549755813888) :
    CSP Try.prog 62 [.pointer (some ⟨bc, 0, none⟩), .int .i64 (n : Nat), .int .i64 each] m (curE bc A c out) (fun v L' => n ≤ 65535 ∧ v = .int .i64 (n : Nat) ∧ ∃ A c, L' = curE bc A c (out ++ sz2 n)) (fun v _ => 65535 < n ∧ ∃ at_, v = wrongV at_) := by
  refine CSP_of [.tmp 6] Try.func62 rfl rfl rfl ?_
  unfold curE
  by_cases hn : n ≤ 65535
  · refine TS_seq ?_
    refine TS_region ?_
    refine VS_pure (P_assign rfl) rfl rfl rfl ?_
    refine VS_nil ?_
    refine QS_then ?_
    refine TS_seq ?_
    refine TS_region ?_
    refine VS_pure (P_move rfl) rfl rfl rfl ?_
    refine VS_pure (P_nilCheck rfl) rfl rfl rfl ?_
    refine VS_pure (P_fieldAddr0 fo86_1 rfl) rfl rfl rfl ?_
    refine VS_read (S_loadB sg3 rfl (.here) rfl) rfl rfl rfl ?_
    refine VS_pure (P_assign rfl) rfl rfl rfl ?_
    refine VS_nil ?_
    refine QS_then ?_
    refine TS_seq ?_
    refine TS_seq ?_
    refine TS_region ?_
    refine VS_pure (P_move rfl) rfl rfl rfl ?_
    refine VS_pure (df (P_gtr rfl rfl) (by omega)) rfl rfl rfl ?_
    refine VS_nil ?_
    refine QS_then ?_
    refine TS_false rfl ?_
    refine TS_skip ?_
    refine QS_then ?_
    refine TS_seq ?_
    refine TS_region ?_
    refine VS_pure (P_move rfl) rfl rfl rfl ?_
    refine VS_pure (P_shr rfl rfl (by decide) (by decide) rfl) rfl rfl rfl ?_
    refine VS_pure (P_conv_int us3 ik5 rfl rfl) rfl rfl rfl ?_
    refine VS_pure (P_move rfl) rfl rfl rfl ?_
    refine VS_pure (P_conv_int us3 ik5 rfl rfl) rfl rfl rfl ?_
    refine VS_step (S_alloc zl5 rfl (fun b1 => ?_)) rfl
    refine VS_step (S_alloc zl5 rfl (fun b2 => ?_)) rfl
    refine VS_step (S_store co5 rfl rfl rfl (.there (.here)) (.here) ?_) rfl
    refine VS_step (S_store co5 rfl rfl rfl (.here) (.here) ?_) rfl
    refine VS_nil ?_
    refine QS_then ?_
    refine TS_seq ?_
    refine TS_region ?_
    refine VS_pure (P_move rfl) rfl rfl rfl ?_
    rw [sz_hi, sz_lo]
    refine VS_step ((S_callL cl24 rfl (.cons (.there (.there .here)) (.cons (.there (.there .here)) .nil)) (fun m' hm he => byteW (A := A) (c := c) (b := UInt8.ofNat (n / 256 % 256)) (Wc.he (HE1 he) rfl) (by omega)) rfl ?_)) rfl
    rintro _ _ ⟨rfl, A3, c3, rfl⟩
    unfold curE
    refine VS_nil ?_
    refine QS_then ?_
    refine TS_seq ?_
    refine TS_region ?_
    refine VS_pure (P_move rfl) rfl rfl rfl ?_
    refine VS_step ((S_callL cl24 rfl (.cons .here (.cons .here .nil)) (fun m' hm he => byteW (A := A3) (c := c3) (b := UInt8.ofNat (n % 256)) (Wc.he he rfl) (by simp; omega)) rfl ?_)) rfl
    rintro _ _ ⟨rfl, A4, c4, rfl⟩
    unfold curE
    refine VS_nil ?_
    refine QS_then ?_
    refine TS_seq ?_
    refine TS_region ?_
    refine VS_read (S_loadB sg5 rfl (.there (.there (.there (.here)))) rfl) rfl rfl rfl ?_
    refine VS_pure (P_conv_int us5 ik3 rfl rfl) rfl rfl rfl ?_
    refine VS_pure (P_shl rfl rfl (by decide) (by decide) rfl) rfl rfl rfl ?_
    refine VS_read (S_loadB sg5 rfl (.there (.there (.here))) rfl) rfl rfl rfl ?_
    refine VS_pure (P_conv_int us5 ik3 rfl rfl) rfl rfl rfl ?_
    refine VS_pure (P_or rfl rfl rfl) rfl rfl rfl ?_
    refine VS_pure (P_assign rfl) rfl rfl rfl ?_
    refine VS_nil ?_
    refine QS_then ?_
    refine TS_seq ?_
    refine TS_seq ?_
    refine TS_draw (.step 0 .pure (.step 1 .pure (.step 2 .pure (.step 3 .read (.step 4 .pure (.step 5 .pure (.step 6 .pure (.step 7 .pure (.step 8 .pure (.step 9 .pure (.step 10 .pure (.step 13 .pure (.step 14 .pure (.step 15 .pure (.step 11 .read (.step 12 .pure (.step 16 .read (.step 17 .pure (.step 18 .pure (.step 19 .pure (.done))))))))))))))))))))) mixed (by kernel_rfl) (fun _ _ _ _ hq => hq) ?_
    refine VTS_pure rfl (P_move rfl) rfl rfl rfl ?_
    refine VTS_pure rfl (P_nilCheck rfl) rfl rfl rfl ?_
    refine VTS_pure rfl (P_fieldAddr0 fo86_2 rfl) rfl rfl rfl ?_
    refine VTS_read rfl (S_loadB sg4 rfl (.here) rfl) rfl rfl rfl ?_
    refine VTS_pure rfl (P_move rfl) rfl rfl rfl ?_
    iterate 14 (refine VTS_skip rfl rfl rfl rfl rfl ?_)
    refine VTS_pure rfl (P_pick_f rfl rfl) rfl rfl rfl ?_
    refine VTS_nil ?_
    refine QS_then ?_
    refine TS_false rfl ?_
    refine TS_skip ?_
    refine QS_then ?_
    refine TS_seq ?_
    refine TS_region ?_
    refine VS_pure (P_move rfl) rfl rfl rfl ?_
    refine VS_pure (P_assign rfl) rfl rfl rfl ?_
    refine VS_nil ?_
    refine QS_then ?_
    refine TS_ret ?_
    rw [sz_join hn]
    exact QS_retP [_] ⟨rfl, trivial⟩ (curE bc A4 c4 (out ++ sz2 n)) (by
      rw [show out ++ sz2 n = out ++ [UInt8.ofNat (n / 256 % 256)] ++ [UInt8.ofNat (n % 256)] by simp [sz2]]
      exact .cons .here (.cons .here (.nil _))) ⟨hn, rfl, _, _, rfl⟩
  · refine TS_seq ?_
    refine TS_region ?_
    refine VS_pure (P_assign rfl) rfl rfl rfl ?_
    refine VS_nil ?_
    refine QS_then ?_
    refine TS_seq ?_
    refine TS_region ?_
    refine VS_pure (P_move rfl) rfl rfl rfl ?_
    refine VS_pure (P_nilCheck rfl) rfl rfl rfl ?_
    refine VS_pure (P_fieldAddr0 fo86_1 rfl) rfl rfl rfl ?_
    refine VS_read (S_loadB sg3 rfl (.here) rfl) rfl rfl rfl ?_
    refine VS_pure (P_assign rfl) rfl rfl rfl ?_
    refine VS_nil ?_
    refine QS_then ?_
    refine TS_seq ?_
    refine TS_seq ?_
    refine TS_region ?_
    refine VS_pure (P_move rfl) rfl rfl rfl ?_
    refine VS_pure (dt (P_gtr rfl rfl) (by omega)) rfl rfl rfl ?_
    refine VS_nil ?_
    refine QS_then ?_
    refine TS_true rfl ?_
    refine TS_region ?_
    refine VS_pure (P_move rfl) rfl rfl rfl ?_
    refine VS_pure (P_build zl82 pl82 rfl rfl) rfl rfl rfl ?_
    refine VS_pure (P_mkIface ni82 us82 rfl) rfl rfl rfl ?_
    refine VS_step (kept := false) (S_panic rfl ?_) rfl
    refine QS_then_pan ?_
    exact QS_pan [] (Pick.nil _) ⟨by omega, 0, rfl⟩
end Go.Proofs.Ytbpihgphicmdiaa
