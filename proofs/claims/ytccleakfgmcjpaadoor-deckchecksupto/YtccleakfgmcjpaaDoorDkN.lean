/- Books, decks and places as they are handed in: from the row's reading to what the walks ask. No condition. -/
import Derived.Test.YtccleakfgmcjpaaDoorDkM
import Derived.Test.YtccleakfgmcjpaaDoorEng2
import Derived.Test.YtccleakfgmcjpaaDoorEng2
namespace Go.Proofs.YtccleakfgmcjpaaDoor
open Go.Eng Dk Go.WideShapes
set_option maxRecDepth 100000
def Yb : BTy := ⟨36, 3, 9, 95, 93, 98, 96, 100, 67⟩
def Yc : CTy := ⟨Yb, 4, 69, 22⟩
theorem Yc_ok : Yc.ok Tryd.prog = true := by kernel_rfl
theorem row_get {vs l : List Value} {o sz j : Nat} {u : Value} (h : (vs.drop o).take sz = l) (hu : l[j]? = some u) : vs[o + j]? = some u := by
  rw [← h, List.getElem?_take] at hu
  split at hu
  · rw [List.getElem?_drop] at hu; exact hu
  · cases hu
theorem i64_wf {n : Int} (h : (Lit.int .i64 n).wf = true) : -9223372036854775808 ≤ n ∧ n ≤ 9223372036854775807 := by
  simp [Lit.wf, IntKind.min, IntKind.max, IntKind.signed, IntKind.bits] at h
  omega
theorem rd_list {α : Type} {m : Mp} {A : Option Addr} {f : α → Value} {xs : List α} {vs : List Value} (hA : 0 < xs.length → A.isSome = true) (hw : ∀ i u, vs[i]? = some u → Wc m ((sa A).add i) u) (hx : ∀ i (hi : i < xs.length), vs[i]? = some (f xs[i])) : Rd m A (xs.map f) := fun i u hi => by
  rw [List.getElem?_map] at hi
  cases hq : xs[i]? with
  | none => rw [hq] at hi; cases hi
  | some q =>
    rw [hq] at hi
    obtain ⟨hlt, rfl⟩ := List.getElem?_eq_some_iff.1 hq
    cases hi
    exact ⟨hA (by omega), (hw i _ (hx i hlt)).1⟩
section
variable {H : Type} {enc : TypeId × Value → H} {w : World} {base : Nat} {spare : Nat → Bool} {held : Bool} {fuel : Nat} {cs : List Value} {x : DataW H × List MemPlace}
theorem strs_in (h : DataW.trod enc Tryd.prog w base spare held fuel 26 cs = some x) (hg : GoodR Tryd.prog w 26 x) : ∃ (A : Option Addr) (c : Nat) (xs : List (List UInt8)), cs = [.slice A xs.length c] ∧ StrsR (mp w.heap) A xs ∧ ∀ s ∈ xs, s.length ≤ 140737488355328 := by
  obtain ⟨A, len, cap, vs, n, rfl, hA, hb, hw, hl, _, hel⟩ := cells_inW (e := 9) (sz := 1) (by_ := 16) (by kernel_rfl) (by kernel_rfl) (by kernel_rfl) h hg
  obtain ⟨xs, hxl, hx⟩ := choose_list (n := len) (p := fun i (b : List UInt8) => vs[i]? = some (sV b) ∧ b.length ≤ 140737488355328) (fun i hi => by
    obtain ⟨y, hy, hgy⟩ := hel i hi
    obtain ⟨n, e, hlen⟩ := str_inW (by kernel_rfl) hy hgy
    refine ⟨n, ?_, hlen⟩
    have := row_get (j := 0) e rfl
    rw [Nat.mul_one, Nat.add_zero] at this
    exact this)
  subst hxl
  unfold reachBytes at hb
  exact ⟨A, cap, xs, rfl, ⟨rd_list hA hw fun i hi => (hx i hi).1, by omega⟩, fun s hs => by obtain ⟨i, hi, rfl⟩ := List.getElem_of_mem hs; exact (hx i hi).2⟩
theorem fmts_in (h : DataW.trod enc Tryd.prog w base spare held fuel 23 cs = some x) (hg : GoodR Tryd.prog w 23 x) : ∃ (A : Option Addr) (c : Nat) (l : List FmtT), cs = [.slice A l.length c] ∧ FmtsR (mp w.heap) A l := by
  obtain ⟨A, len, cap, vs, n, rfl, hA, hb, hw, hl, _, hel⟩ := cells_inW (e := 51) (sz := 7) (by_ := 96) (by kernel_rfl) (by kernel_rfl) (by kernel_rfl) h hg
  obtain ⟨xs, hxl, hx⟩ := choose_list (n := len) (p := fun i (b : FmtT) => FmtR (mp w.heap) ((vs.drop (i * 7)).take 7) b) (fun i hi => by
    obtain ⟨y, hy, hgy⟩ := hel i hi
    obtain ⟨_, y0, rfl, hlen, r0, g0⟩ := fld_inW (i := 0) (fldB_spec (ft := 9) (off := 0) (by kernel_rfl)) hy hgy
    obtain ⟨_, y1, _, _, r1, _⟩ := fld_inW (i := 1) (fldB_spec (ft := 3) (off := 1) (by kernel_rfl)) hy hgy
    obtain ⟨_, y2, _, _, r2, _⟩ := fld_inW (i := 2) (fldB_spec (ft := 3) (off := 2) (by kernel_rfl)) hy hgy
    obtain ⟨_, y3, _, _, r3, _⟩ := fld_inW (i := 3) (fldB_spec (ft := 3) (off := 3) (by kernel_rfl)) hy hgy
    obtain ⟨_, y4, _, _, r4, g4⟩ := fld_inW (i := 4) (fldB_spec (ft := 26) (off := 4) (by kernel_rfl)) hy hgy
    obtain ⟨_, y5, _, _, r5, g5⟩ := fld_inW (i := 5) (fldB_spec (ft := 26) (off := 5) (by kernel_rfl)) hy hgy
    obtain ⟨_, y6, _, _, r6, _⟩ := fld_inW (i := 6) (fldB_spec (ft := 3) (off := 6) (by kernel_rfl)) hy hgy
    obtain ⟨s0, e0, _⟩ := str_inW (by kernel_rfl) r0 g0
    obtain ⟨a1, e1, _⟩ := int_in (k := .i64) (by kernel_rfl) r1
    obtain ⟨a2, e2, _⟩ := int_in (k := .i64) (by kernel_rfl) r2
    obtain ⟨a3, e3, _⟩ := int_in (k := .i64) (by kernel_rfl) r3
    obtain ⟨A4, c4, x4, e4, h4, _⟩ := strs_in r4 g4
    obtain ⟨A5, c5, x5, e5, h5, _⟩ := strs_in r5 g5
    obtain ⟨a6, e6, _⟩ := int_in (k := .i64) (by kernel_rfl) r6
    have k9 : Tryd.prog.cellsOf 9 = 1 := by kernel_rfl
    have k3 : Tryd.prog.cellsOf 3 = 1 := by kernel_rfl
    have k26 : Tryd.prog.cellsOf 26 = 1 := by kernel_rfl
    have k51 : Tryd.prog.cellsOf 51 = 7 := by kernel_rfl
    rw [k51] at hlen
    rw [k9] at e0
    rw [k3] at e1 e2 e3 e6
    rw [k26] at e4 e5
    generalize (vs.drop (i * 7)).take 7 = cs at hlen e0 e1 e2 e3 e4 e5 e6 ⊢
    match cs, hlen with
    | [c0, c1, c2, c3, c4', c5', c6], _ =>
      simp at e0 e1 e2 e3 e4 e5 e6
      subst e0 e1 e2 e3 e4 e5 e6
      exact ⟨⟨s0, a1, a2, a3, x4, x5, a6⟩, A4, c4, A5, c5, rfl, h4, h5⟩)
  subst hxl
  unfold reachBytes at hb
  refine ⟨A, cap, xs, rfl, by omega, vs, fun i u hi => ⟨hA ?_, (hw i u hi).1⟩, hl, hx⟩
  have := (List.getElem?_eq_some_iff.1 hi).1
  omega
theorem book_in (h : DataW.trod enc Tryd.prog w base spare held fuel 25 cs = some x) (hg : GoodR Tryd.prog w 25 x) : ∃ b, BkR (mp w.heap) cs b := by
  obtain ⟨_, y0, rfl, hlen, r0, g0⟩ := fld_inW (i := 0) (fldB_spec (ft := 22) (off := 0) (by kernel_rfl)) h hg
  obtain ⟨_, y1, _, _, r1, g1⟩ := fld_inW (i := 1) (fldB_spec (ft := 23) (off := 1) (by kernel_rfl)) h hg
  have k25 : Tryd.prog.cellsOf 25 = 2 := by kernel_rfl
  have k22 : Tryd.prog.cellsOf 22 = 1 := by kernel_rfl
  have k23 : Tryd.prog.cellsOf 23 = 1 := by kernel_rfl
  rw [k25] at hlen
  rw [k22] at r0
  rw [k23] at r1
  match cs, hlen with
  | [c0, c1], _ =>
    obtain ⟨F, k, l, e1, h1⟩ := fmts_in r1 g1
    obtain ⟨A, la, ca, hA⟩ := slice_form (v := c0) (sliceT_spec (t := 22) (e := 69) (by kernel_rfl)) r0
    subst hA
    obtain ⟨cl, hc, _, _⟩ := cards_in (c := Yc) Yc_ok r0
    have e2 : c1 = .slice F l.length k := by simpa using e1
    subst e2
    have hcl : cl.length = la := hc.1
    exact ⟨⟨cl, l⟩, A, ca, F, k, by rw [hcl], by rw [hcl]; exact hc, h1⟩
end
theorem struct_form {v : Value} {W : World} {t base : Nat} {fs : Array Field} (ht : Tryd.prog.underlying t = some (.struct fs)) (h : Value.okWide Tryd.prog W .any base t v) : ∃ cs : List Value, v = .agg cs.toArray := by
  obtain ⟨cs, rfl, _⟩ := okWide_struct ht h
  exact ⟨cs.toList, by simp⟩
theorem C_of_CS {f : FuncId} {args : List Value} {h : Heap} (hc : CS Tryd.prog f args (mp h) [] (Gives (.bool true))) : C Tryd.prog f args.toArray h fun v h' => v = .bool true ∧ Le (mp h) (mp h') :=
  (CS.toLe hc).mono fun _ _ ⟨⟨_, e, _⟩, hl⟩ => ⟨e, hl⟩
section
variable {H : Type} {enc : TypeId × Value → H} {base b0 b1 b2 base1 base2 fuel fuel1 fuel2 : Nat} {spare spare1 spare2 : Nat → Bool} {held held1 held2 : Bool}
end
end Go.Proofs.YtccleakfgmcjpaaDoor
