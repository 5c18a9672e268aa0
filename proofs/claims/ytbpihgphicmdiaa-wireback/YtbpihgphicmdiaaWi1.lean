/- Letters as they are handed in: from the row's reading to what the walks ask. No condition. -/
import Derived.Test.YtbpihgphicmdiaaWi0
import Derived.Test.YtbpihgphicmdiaaEng2
namespace Go.Proofs.Ytbpihgphicmdiaa
open Go.Eng Wi
theorem row_get {vs l : List Value} {o sz j : Nat} {u : Value} (h : (vs.drop o).take sz = l) (hu : l[j]? = some u) : vs[o + j]? = some u := by
  rw [← h, List.getElem?_take] at hu
  split at hu
  · rw [List.getElem?_drop] at hu; exact hu
  · cases hu
theorem i64_wf {n : Int} (h : (Lit.int .i64 n).wf = true) : I64 n := by
  simp [Lit.wf, IntKind.min, IntKind.max, IntKind.signed, IntKind.bits] at h
  unfold I64; omega
theorem i8_wf {n : Int} (h : (Lit.int .i8 n).wf = true) : I8 n := by
  simp [Lit.wf, IntKind.min, IntKind.max, IntKind.signed, IntKind.bits] at h
  unfold I8; omega
theorem u8_wf {n : Int} (h : (Lit.int .u8 n).wf = true) : U8 n := by
  simp [Lit.wf, IntKind.min, IntKind.max, IntKind.signed, IntKind.bits] at h
  unfold U8; omega
theorem reach_le {k b : Nat} (hb : 0 < b) (h : k * b ≤ reachBytes) : k ≤ 140737488355328 := by
  have h1 : k * 1 ≤ k * b := Nat.mul_le_mul_left _ hb
  unfold reachBytes at h
  omega
section
variable {H : Type} {enc : TypeId × Value → H} {w : World} {base : Nat} {spare : Nat → Bool} {held : Bool} {fuel : Nat} {cs : List Value} {x : DataW H × List MemPlace}
theorem bytes_inE (h : DataW.trod enc Try.prog w base spare held fuel 22 cs = some x) (hg : GoodR Try.prog w 22 x) : ∃ v xs, cs = [v] ∧ BytesE (mp w.heap) v xs := by
  obtain ⟨A, len, cap, vs, n, rfl, hA, hb, hw, hl, _, hel⟩ := cells_inW (e := 5) (sz := 1) (by_ := 1) (by kernel_rfl) (by kernel_rfl) (by kernel_rfl) h hg
  obtain ⟨xs, hxl, hx⟩ := choose_list (n := len) (p := fun i (b : UInt8) => vs[i]? = some (byteV b)) (fun i hi => by
    obtain ⟨y, hy, _⟩ := hel i hi
    obtain ⟨n, e, hwf⟩ := int_in (k := .u8) (by kernel_rfl) hy
    have hu := u8_wf hwf
    refine ⟨ub n, ?_⟩
    have := row_get (j := 0) e rfl
    rw [Nat.mul_one, Nat.add_zero] at this
    rw [this]
    unfold byteV
    rw [← ub_u8 hu])
  exact ⟨_, xs, rfl, A, cap, by rw [hxl], fun h0 => hA (by omega), by rw [hxl]; exact reach_le (by decide) hb, fun i hi => hw _ _ (hx i hi)⟩
theorem ints_inE (h : DataW.trod enc Try.prog w base spare held fuel 25 cs = some x) (hg : GoodR Try.prog w 25 x) : ∃ v xs, cs = [v] ∧ IntsE (mp w.heap) v xs := by
  obtain ⟨A, len, cap, vs, n, rfl, hA, hb, hw, hl, _, hel⟩ := cells_inW (e := 3) (sz := 1) (by_ := 8) (by kernel_rfl) (by kernel_rfl) (by kernel_rfl) h hg
  obtain ⟨xs, hxl, hx⟩ := choose_list (n := len) (p := fun i (b : Int) => vs[i]? = some (iV b) ∧ I64 b) (fun i hi => by
    obtain ⟨y, hy, _⟩ := hel i hi
    obtain ⟨n, e, hwf⟩ := int_in (k := .i64) (by kernel_rfl) hy
    refine ⟨n, ?_, i64_wf hwf⟩
    have := row_get (j := 0) e rfl
    rw [Nat.mul_one, Nat.add_zero] at this
    exact this)
  exact ⟨_, xs, rfl, A, cap, by rw [hxl], fun h0 => hA (by omega), by rw [hxl]; exact reach_le (by decide) hb, fun i hi => ⟨hw _ _ (hx i hi).1, (hx i hi).2⟩⟩
theorem strs_inE (h : DataW.trod enc Try.prog w base spare held fuel 23 cs = some x) (hg : GoodR Try.prog w 23 x) : ∃ v xs, cs = [v] ∧ StrsE (mp w.heap) v xs ∧ ∀ s ∈ xs, s.length ≤ 140737488355328 := by
  obtain ⟨A, len, cap, vs, n, rfl, hA, hb, hw, hl, _, hel⟩ := cells_inW (e := 9) (sz := 1) (by_ := 16) (by kernel_rfl) (by kernel_rfl) (by kernel_rfl) h hg
  obtain ⟨xs, hxl, hx⟩ := choose_list (n := len) (p := fun i (b : List UInt8) => vs[i]? = some (sV b) ∧ b.length ≤ 140737488355328) (fun i hi => by
    obtain ⟨y, hy, hgy⟩ := hel i hi
    obtain ⟨n, e, hlen⟩ := str_inW (by kernel_rfl) hy hgy
    refine ⟨n, ?_, hlen⟩
    have := row_get (j := 0) e rfl
    rw [Nat.mul_one, Nat.add_zero] at this
    exact this)
  exact ⟨_, xs, rfl, ⟨A, cap, by rw [hxl], fun h0 => hA (by omega), by rw [hxl]; exact reach_le (by decide) hb, fun i hi => hw _ _ (hx i hi).1⟩, fun s hs => by obtain ⟨i, hi, rfl⟩ := List.getElem_of_mem hs; exact (hx i hi).2⟩
theorem pairs_inE (h : DataW.trod enc Try.prog w base spare held fuel 26 cs = some x) (hg : GoodR Try.prog w 26 x) : ∃ v xs, cs = [v] ∧ PairsE (mp w.heap) v xs := by
  obtain ⟨A, len, cap, vs, n, rfl, hA, hb, hw, hl, _, hel⟩ := cells_inW (e := 132) (sz := 2) (by_ := 16) (by kernel_rfl) (by kernel_rfl) (by kernel_rfl) h hg
  obtain ⟨xs, hxl, hx⟩ := choose_list (n := len) (p := fun i (b : Int × Int) => vs[i * 2 + 0]? = some (iV b.1) ∧ vs[i * 2 + 1]? = some (iV b.2) ∧ I64 b.1 ∧ I64 b.2) (fun i hi => by
    obtain ⟨y, hy, hgy⟩ := hel i hi
    obtain ⟨_, y0, rfl, _, r0, _⟩ := fld_inW (i := 0) (fldB_spec (ft := 3) (off := 0) (by kernel_rfl)) hy hgy
    obtain ⟨_, y1, _, _, r1, _⟩ := fld_inW (i := 1) (fldB_spec (ft := 3) (off := 1) (by kernel_rfl)) hy hgy
    obtain ⟨a, e0, w0⟩ := int_in (k := .i64) (by kernel_rfl) r0
    obtain ⟨b, e1, w1⟩ := int_in (k := .i64) (by kernel_rfl) r1
    exact ⟨(a, b), row_get rfl (row_get (j := 0) e0 rfl), row_get rfl (row_get (j := 0) e1 rfl), i64_wf w0, i64_wf w1⟩)
  exact ⟨_, xs, rfl, A, cap, by rw [hxl], fun h0 => hA (by omega), by rw [hxl]; exact reach_le (by decide) hb, fun i hi => ⟨by rw [add_add]; exact hw _ _ (hx i hi).1, by rw [add_add]; exact hw _ _ (hx i hi).2.1, (hx i hi).2.2⟩⟩
theorem evts_inE (h : DataW.trod enc Try.prog w base spare held fuel 30 cs = some x) (hg : GoodR Try.prog w 30 x) : ∃ v xs, cs = [v] ∧ EvsE (mp w.heap) v xs := by
  obtain ⟨A, len, cap, vs, n, rfl, hA, hb, hw, hl, _, hel⟩ := cells_inW (e := 55) (sz := 7) (by_ := 72) (by kernel_rfl) (by kernel_rfl) (by kernel_rfl) h hg
  obtain ⟨xs, hxl, hx⟩ := choose_list (n := len) (p := fun i (b : Evt) => EvtE (mp w.heap) ((sa A).add (i * 7)) b) (fun i hi => by
    obtain ⟨y, hy, hgy⟩ := hel i hi
    obtain ⟨_, y0, rfl, _, r0, _⟩ := fld_inW (i := 0) (fldB_spec (ft := 24) (off := 0) (by kernel_rfl)) hy hgy
    obtain ⟨_, y1, _, _, r1, _⟩ := fld_inW (i := 1) (fldB_spec (ft := 3) (off := 1) (by kernel_rfl)) hy hgy
    obtain ⟨_, y2, _, _, r2, _⟩ := fld_inW (i := 2) (fldB_spec (ft := 3) (off := 2) (by kernel_rfl)) hy hgy
    obtain ⟨_, y3, _, _, r3, _⟩ := fld_inW (i := 3) (fldB_spec (ft := 3) (off := 3) (by kernel_rfl)) hy hgy
    obtain ⟨_, y4, _, _, r4, _⟩ := fld_inW (i := 4) (fldB_spec (ft := 3) (off := 4) (by kernel_rfl)) hy hgy
    obtain ⟨_, y5, _, _, r5, _⟩ := fld_inW (i := 5) (fldB_spec (ft := 3) (off := 5) (by kernel_rfl)) hy hgy
    obtain ⟨_, y6, _, _, r6, g6⟩ := fld_inW (i := 6) (fldB_spec (ft := 25) (off := 6) (by kernel_rfl)) hy hgy
    obtain ⟨a0, e0, w0⟩ := int_in (k := .i8) (by kernel_rfl) r0
    obtain ⟨a1, e1, w1⟩ := int_in (k := .i64) (by kernel_rfl) r1
    obtain ⟨a2, e2, w2⟩ := int_in (k := .i64) (by kernel_rfl) r2
    obtain ⟨a3, e3, w3⟩ := int_in (k := .i64) (by kernel_rfl) r3
    obtain ⟨a4, e4, w4⟩ := int_in (k := .i64) (by kernel_rfl) r4
    obtain ⟨a5, e5, w5⟩ := int_in (k := .i64) (by kernel_rfl) r5
    obtain ⟨v, zs, e6, hz⟩ := ints_inE r6 g6
    have W : ∀ k u, vs[i * 7 + k]? = some u → Wc (mp w.heap) (((sa A).add (i * 7)).add k) u := fun k u hu => by rw [add_add]; exact hw _ _ hu
    exact ⟨⟨a0, a1, a2, a3, a4, a5, zs⟩, v, W _ _ (row_get rfl (row_get (j := 0) e0 rfl)), W _ _ (row_get rfl (row_get (j := 0) e1 rfl)), W _ _ (row_get rfl (row_get (j := 0) e2 rfl)), W _ _ (row_get rfl (row_get (j := 0) e3 rfl)), W _ _ (row_get rfl (row_get (j := 0) e4 rfl)), W _ _ (row_get rfl (row_get (j := 0) e5 rfl)), W _ _ (row_get rfl (row_get (j := 0) e6 rfl)),
      hz, i8_wf w0, i64_wf w1, i64_wf w2, i64_wf w3, i64_wf w4, i64_wf w5⟩)
  exact ⟨_, xs, rfl, A, cap, by rw [hxl], fun h0 => hA (by omega), by rw [hxl]; exact reach_le (by decide) hb, fun i hi => hx i hi⟩
theorem letter_in (h : DataW.trod enc Try.prog w base spare held fuel 32 cs = some x) (hg : GoodR Try.prog w 32 x) : ∃ l, LtA (mp w.heap) cs l := by
  obtain ⟨_, y0, rfl, hl, r0, _⟩ := fld_inW (i := 0) (fldB_spec (ft := 5) (off := 0) (by kernel_rfl)) h hg
  obtain ⟨_, y1, _, _, r1, _⟩ := fld_inW (i := 1) (fldB_spec (ft := 3) (off := 1) (by kernel_rfl)) h hg
  obtain ⟨_, y2, _, _, r2, g2⟩ := fld_inW (i := 2) (fldB_spec (ft := 9) (off := 2) (by kernel_rfl)) h hg
  obtain ⟨_, y3, _, _, r3, g3⟩ := fld_inW (i := 3) (fldB_spec (ft := 22) (off := 3) (by kernel_rfl)) h hg
  obtain ⟨_, y4, _, _, r4, g4⟩ := fld_inW (i := 4) (fldB_spec (ft := 23) (off := 4) (by kernel_rfl)) h hg
  obtain ⟨_, y5, _, _, r5, g5⟩ := fld_inW (i := 5) (fldB_spec (ft := 28) (off := 5) (by kernel_rfl)) h hg
  obtain ⟨_, y6, _, _, r6, _⟩ := fld_inW (i := 6) (fldB_spec (ft := 5) (off := 11) (by kernel_rfl)) h hg
  obtain ⟨_, y7, _, _, r7, _⟩ := fld_inW (i := 7) (fldB_spec (ft := 29) (off := 12) (by kernel_rfl)) h hg
  obtain ⟨_, y8, _, _, r8, g8⟩ := fld_inW (i := 8) (fldB_spec (ft := 30) (off := 13) (by kernel_rfl)) h hg
  obtain ⟨_, z0, rfl, _, s0, _⟩ := fld_inW (i := 0) (fldB_spec (ft := 24) (off := 0) (by kernel_rfl)) r5 g5
  obtain ⟨_, z1, _, _, s1, _⟩ := fld_inW (i := 1) (fldB_spec (ft := 3) (off := 1) (by kernel_rfl)) r5 g5
  obtain ⟨_, z2, _, _, s2, _⟩ := fld_inW (i := 2) (fldB_spec (ft := 3) (off := 2) (by kernel_rfl)) r5 g5
  obtain ⟨_, z3, _, _, s3, _⟩ := fld_inW (i := 3) (fldB_spec (ft := 3) (off := 3) (by kernel_rfl)) r5 g5
  obtain ⟨_, z4, _, _, s4, k4⟩ := fld_inW (i := 4) (fldB_spec (ft := 25) (off := 4) (by kernel_rfl)) r5 g5
  obtain ⟨_, z5, _, _, s5, k5⟩ := fld_inW (i := 5) (fldB_spec (ft := 26) (off := 5) (by kernel_rfl)) r5 g5
  obtain ⟨a0, e0, w0⟩ := int_in (k := .u8) (by kernel_rfl) r0
  obtain ⟨a1, e1, w1⟩ := int_in (k := .i64) (by kernel_rfl) r1
  obtain ⟨a2, e2, w2⟩ := str_inW (by kernel_rfl) r2 g2
  obtain ⟨v3, a3, e3, w3⟩ := bytes_inE r3 g3
  obtain ⟨v4, a4, e4, w4, w4'⟩ := strs_inE r4 g4
  obtain ⟨b0, f0, q0⟩ := int_in (k := .i8) (by kernel_rfl) s0
  obtain ⟨b1, f1, q1⟩ := int_in (k := .i64) (by kernel_rfl) s1
  obtain ⟨b2, f2, q2⟩ := int_in (k := .i64) (by kernel_rfl) s2
  obtain ⟨b3, f3, q3⟩ := int_in (k := .i64) (by kernel_rfl) s3
  obtain ⟨u4, b4, f4, q4⟩ := ints_inE s4 k4
  obtain ⟨u5, b5, f5, q5⟩ := pairs_inE s5 k5
  obtain ⟨a6, e6, w6⟩ := int_in (k := .u8) (by kernel_rfl) r6
  obtain ⟨a7, e7, w7⟩ := int_in (k := .i64) (by kernel_rfl) r7
  obtain ⟨v8, a8, e8, w8⟩ := evts_inE r8 g8
  rw [show Try.prog.cellsOf 32 = 14 by kernel_rfl] at hl
  rw [show Try.prog.cellsOf 28 = 6 by kernel_rfl] at f0 f1 f2 f3 f4 f5
  have c0 := row_get (j := 0) e0 rfl
  have c1 := row_get (j := 0) e1 rfl
  have c2 := row_get (j := 0) e2 rfl
  have c3 := row_get (j := 0) e3 rfl
  have c4 := row_get (j := 0) e4 rfl
  have c5 := row_get rfl (row_get (j := 0) f0 rfl)
  have c6 := row_get rfl (row_get (j := 0) f1 rfl)
  have c7 := row_get rfl (row_get (j := 0) f2 rfl)
  have c8 := row_get rfl (row_get (j := 0) f3 rfl)
  have c9 := row_get rfl (row_get (j := 0) f4 rfl)
  have c10 := row_get rfl (row_get (j := 0) f5 rfl)
  have c11 := row_get (j := 0) e6 rfl
  have c12 := row_get (j := 0) e7 rfl
  have c13 := row_get (j := 0) e8 rfl
  refine ⟨⟨a0, a1, a2, a3, a4, ⟨b0, b1, b2, b3, b4, b5⟩, a6, a7, a8⟩, v3, v4, u4, u5, v8, ?_, w3, w4, q4, q5, w8, u8_wf w0, i64_wf w1, w2, w4', ⟨i8_wf q0, i64_wf q1, i64_wf q2, i64_wf q3⟩, u8_wf w6, i64_wf w7⟩
  apply List.ext_getElem?
  intro i
  rcases i with _ | _ | _ | _ | _ | _ | _ | _ | _ | _ | _ | _ | _ | _ | i
  · exact c0
  · exact c1
  · exact c2
  · exact c3
  · exact c4
  · exact c5
  · exact c6
  · exact c7
  · exact c8
  · exact c9
  · exact c10
  · exact c11
  · exact c12
  · exact c13
  · rw [List.getElem?_eq_none (by omega)]; rfl
end
end Go.Proofs.Ytbpihgphicmdiaa
