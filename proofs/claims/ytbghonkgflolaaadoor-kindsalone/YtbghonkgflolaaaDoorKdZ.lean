/- Cards and tables as they are handed in: from the row's reading to what the walks ask. No condition. -/
import Derived.Test.YtbghonkgflolaaaDoorKdY
import Derived.Test.YtbghonkgflolaaaDoorEng2
import Derived.Test.YtbghonkgflolaaaDoorEng2
import Derived.Test.YtbghonkgflolaaaDoorRows
import Derived.Lib.LaidTab
import Derived.Lib.LaidU8
import Derived.MakeChecks
namespace Go.Proofs.YtbghonkgflolaaaDoor
open Go.Eng Kd Go.WideShapes Go.Lib Go.Shelf
set_option maxRecDepth 100000
theorem space_eq : (Rows.laid_strings_asciiSpace : DataW Unit) = tabData .u8 asciiSpaceTab := by kernel_rfl
theorem TabIs_ofLe {P : Program} {W w : World} {n : String} {k : IntKind} {zs : List Int} (h : TabIs P W n k zs) (hl : Le (mp W.heap) (mp w.heap)) : TabIs P w n k zs := by
  unfold TabIs World.var? at *
  cases hg : P.globalNamed n with
  | none => rw [hg] at h; cases h
  | some g =>
    rw [hg] at h
    simp only [Option.bind_some] at h ⊢
    cases ho : W.heap[g]? with
    | none => rw [ho] at h; cases h
    | some o => rw [ho] at h; rw [show w.heap[g]? = some o from hl g o ho]; exact h
theorem tabs_of_laid {W : World} (h : laidMetH Tryd.prog Rows.kindsAloneRow.laid W) : Tabs (mp W.heap) := by
  rw [MakeChecks.laidMetH_plain _ _ _ (by kernel_rfl)] at h
  have r3 := Lib.laidMet.reads h (.tail _ (.head _))
  rw [space_eq] at r3
  have hs : TabIs Tryd.prog W "strings.asciiSpace" .u8 asciiSpaceTab := by
    obtain ⟨g, t, cs, fuel, p, hg, ht, hv, hd⟩ := r3
    obtain rfl := Option.some.inj ((show Tryd.prog.globalNamed "strings.asciiSpace" = some 0 by kernel_rfl).symm.trans hg)
    obtain rfl := Option.some.inj ((show (Tryd.prog.globals[0]?).map (·.type) = some 90 by kernel_rfl).symm.trans ht)
    unfold TabIs
    rw [hv, ← cells_of_tab Tryd.underlying90 Tryd.underlying5 (by kernel_rfl) (by kernel_rfl) hd]
  intro w hl
  exact TabIs_ofLe hs hl
def Yb : BTy := ⟨39, 3, 9, 42, 40, 45, 43, 47, 29⟩
def Yc : CTy := ⟨Yb, 4, 31, 22⟩
theorem Yc_ok : Yc.ok Tryd.prog = true := by kernel_rfl
theorem C_of_CS {f : FuncId} {args : List Value} {h : Heap} (hc : CS Tryd.prog f args (mp h) [] (Gives (.bool true))) : C Tryd.prog f args.toArray h fun v h' => v = .bool true ∧ Le (mp h) (mp h') :=
  (CS.toLe hc).mono fun _ _ ⟨⟨_, e, _⟩, hl⟩ => ⟨e, hl⟩
theorem i64_wf {n : Int} (h : (Lit.int .i64 n).wf = true) : -9223372036854775808 ≤ n ∧ n ≤ 9223372036854775807 := by
  simp [Lit.wf, IntKind.min, IntKind.max, IntKind.signed, IntKind.bits] at h
  omega
section
variable {H : Type} {enc : TypeId × Value → H} {base b0 b1 base1 fuel fuel1 : Nat} {spare spare1 : Nat → Bool} {held held1 : Bool}
theorem kindsAlone_in (W : World) (hT : Tabs (mp W.heap)) {x0 x1 : DataW H × List MemPlace} (v0 : Value) (o0 : Value.okWide Tryd.prog W .any b0 22 v0) (k0 : DataW.trod enc Tryd.prog W base spare held fuel 22 v0.cells.toList = some x0) (_ : GoodR Tryd.prog W 22 x0)
    (v1 : Value) (o1 : Value.okWide Tryd.prog W .any b1 3 v1) (k1 : DataW.trod enc Tryd.prog W base1 spare1 held1 fuel1 3 v1.cells.toList = some x1) (_ : GoodR Tryd.prog W 3 x1) :
    C Tryd.prog 3 #[v0, v1] W.heap fun v h' => v = .bool true ∧ Le (mp W.heap) (mp h') := by
  obtain ⟨a, n, c, rfl⟩ := okWide_slice Tryd.underlying22 o0
  obtain ⟨cl, hc, hcap, _⟩ := cards_in (c := Yc) Yc_ok k0
  have hcl : cl.length = n := hc.1
  subst hcl
  obtain ⟨t, rfl⟩ := okWide_int Tryd.underlying3 o1
  obtain ⟨t2, e, ht⟩ := int_in (k := .i64) (by kernel_rfl) k1
  cases e
  exact C_of_CS (KindsAlone3 hT hc hcap (i64_wf ht))
end
end Go.Proofs.YtbghonkgflolaaaDoor
