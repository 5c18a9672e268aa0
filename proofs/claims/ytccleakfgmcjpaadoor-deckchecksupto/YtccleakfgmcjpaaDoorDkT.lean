/- What the rows' listed tables give: the table that strconv.Itoa's contract asks for. No condition. -/
import Derived.Test.YtccleakfgmcjpaaDoorDkN
import Derived.Test.YtccleakfgmcjpaaDoorRows
import Derived.Lib.LaidTab
import Derived.Lib.LaidU8
import Derived.MakeChecks
namespace Go.Proofs.YtccleakfgmcjpaaDoor
open Go.Eng Go.Lib Go.Shelf
theorem pow_eq : (Rows.laid_internal_strconv_uint64pow10 : DataW Unit) = tabData .u64 pow10Tab := by kernel_rfl
theorem TabIs_ofLe {P : Program} {W w : World} {n : String} {k : IntKind} {zs : List Int} (h : TabIs P W n k zs) (hl : Le (mp W.heap) (mp w.heap)) : TabIs P w n k zs := by
  unfold TabIs World.var? at *
  cases hg : P.globalNamed n with
  | none => rw [hg] at h; cases h
  | some g =>
    rw [hg] at h
    simp only [Option.bind_some] at h ⊢
    cases ho : W.heap[g]? with
    | none => rw [ho] at h; cases h
    | some o => rw [ho] at h; rw [show w.heap[g]? = some o from hl g o ho]; exact h
theorem tabs_of_laid {W : World} (h : laidMetH Tryd.prog Rows.deckPlacesRow.laid W) : Tabs (mp W.heap) := by
  rw [MakeChecks.laidMetH_plain _ _ _ (by kernel_rfl)] at h
  have r3 := Lib.laidMet.reads h (.tail _ (.tail _ (.head _)))
  rw [pow_eq] at r3
  have hs : TabIs Tryd.prog W "internal/strconv.uint64pow10" .u64 pow10Tab := by
    obtain ⟨g, t, cs, fuel, p, hg, ht, hv, hd⟩ := r3
    obtain rfl := Option.some.inj ((show Tryd.prog.globalNamed "internal/strconv.uint64pow10" = some 0 by kernel_rfl).symm.trans hg)
    obtain rfl := Option.some.inj ((show (Tryd.prog.globals[0]?).map (·.type) = some 116 by kernel_rfl).symm.trans ht)
    unfold TabIs
    rw [hv, ← cells_of_tab Tryd.underlying116 Tryd.underlying91 (by kernel_rfl) (by kernel_rfl) hd]
  intro w hl
  exact TabIs_ofLe hs hl
end Go.Proofs.YtccleakfgmcjpaaDoor
