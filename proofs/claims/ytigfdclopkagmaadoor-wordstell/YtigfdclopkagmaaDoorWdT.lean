/- What the rows' listed tables give: the tables that the library's contracts ask for. No condition. -/
import Derived.Test.YtigfdclopkagmaaDoorWdD
import Derived.Test.YtigfdclopkagmaaDoorRows
import Derived.Lib.LaidU8T
import Derived.MakeChecks
namespace Go.Proofs.YtigfdclopkagmaaDoor
open Go.Eng Go.Lib Go.Shelf
theorem accept_eq : (Rows.laid_unicode_utf8_acceptRanges : DataW Unit) = acceptData := by kernel_rfl
theorem first_eq : Rows.laid_unicode_utf8_first = firstData := by kernel_rfl
theorem space_eq : (Rows.laid_strings_asciiSpace : DataW Unit) = tabData .u8 asciiSpaceTab := by kernel_rfl
theorem TabIs_ofLe {P : Program} {W w : World} {n : String} {k : IntKind} {zs : List Int} (h : TabIs P W n k zs) (hl : Le (mp W.heap) (mp w.heap)) : TabIs P w n k zs := by
  unfold TabIs World.var? at *
  cases hg : P.globalNamed n with
  | none => rw [hg] at h; cases h
  | some g =>
    rw [hg] at h
    simp only [Option.bind_some] at h ⊢
    cases ho : W.heap[g]? with
    | none => rw [ho] at h; cases h
    | some o => rw [ho] at h; rw [show w.heap[g]? = some o from hl g o ho]; exact h
theorem cell_ofLe {W w : World} {a : Addr} {v : Value} (h : W.cell? a = some v) (hl : Le (mp W.heap) (mp w.heap)) : w.cell? a = some v := by
  unfold World.cell? at *
  cases ho : W.heap[a.block]? with
  | none => simp [ho] at h
  | some o => rw [ho] at h; rw [show w.heap[a.block]? = some o from hl _ o ho]; exact h
theorem tabs_of_laid {W : World} (h : laidMetH Tryd.prog Rows.wordsCutRow.laid W) : Tabs (mp W.heap) := by
  rw [MakeChecks.laidMetH_plain _ _ _ (by kernel_rfl)] at h
  have r1 := Lib.laidMet.reads h (.head _)
  have r3 := Lib.laidMet.reads h (.tail _ (.tail _ (.head _)))
  have r4 := Lib.laidMet.reads h (.tail _ (.tail _ (.tail _ (.head _))))
  rw [accept_eq] at r1
  rw [space_eq] at r3
  rw [first_eq] at r4
  have hu := utf8Tabs_of_readsT (P := Tryd.prog) (ρ := Tryd.lays197_ren) ⟨Tryd.lays197.t5, Tryd.lays197.t119, Tryd.lays197.t138, Tryd.lays197.t139⟩ ⟨by kernel_rfl, by kernel_rfl, by kernel_rfl, by kernel_rfl, by kernel_rfl, by kernel_rfl, by kernel_rfl⟩ r4 r1
  have hs : TabIs Tryd.prog W "strings.asciiSpace" .u8 asciiSpaceTab := by
    obtain ⟨g, t, cs, fuel, p, hg, ht, hv, hd⟩ := r3
    obtain rfl := Option.some.inj ((show Tryd.prog.globalNamed "strings.asciiSpace" = some 2 by kernel_rfl).symm.trans hg)
    obtain rfl := Option.some.inj ((show (Tryd.prog.globals[2]?).map (·.type) = some 54 by kernel_rfl).symm.trans ht)
    unfold TabIs
    rw [hv, ← cells_of_tab Tryd.underlying54 Tryd.underlying5 (by kernel_rfl) (by kernel_rfl) hd]
  intro w hl
  exact ⟨TabIs_ofLe hs hl, fun c hc => cell_ofLe (hu.1 c hc) hl, fun i hi => ⟨cell_ofLe (hu.2 i hi).1 hl, cell_ofLe (hu.2 i hi).2 hl⟩⟩
end Go.Proofs.YtigfdclopkagmaaDoor
