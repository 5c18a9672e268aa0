/- Plain: what is told of the document's few cards. No condition. -/
import Derived.Test.YtbghonkgflolaaaDoorKdU
namespace Go.Proofs.YtbghonkgflolaaaDoor
open Go Go.Eng Kd Wd
def num3 : NumT := .mk 0 3 0 []
def num0 : NumT := .mk 0 0 0 []
def cond0 : CondT := .mk 0 0 [] [] []
def boltE : EffT := .mk 0 2 num3 [] cond0 [] []
def impT : CardT := ⟨[73, 109, 112], true, 0, 0, 1, 0, 0, 0, [], [], [], 3⟩
def elfT : CardT := ⟨[69, 108, 102], true, 0, 0, 0, 0, 0, 0, [], [], [], 5⟩
def boltT : CardT := ⟨[66, 111, 108, 116], false, 0, 0, 0, 0, 0, 0, [boltE], [], [], 0⟩
theorem listNil (u : Us) (t : Bool) : ListOk u t 1 [] := ⟨by decide, by decide, fun i h => by cases h⟩
theorem imp_may (u : Us) : mayP u impT := ⟨by decide, by decide +kernel, by show effsW [] + effsW [] + effsW [] ≤ 200; decide, by decide, by decide, listNil _ _, listNil _ _, listNil _ _⟩
theorem elf_not (u : Us) : ¬ mayP u elfT := fun h => h.2.2.2.1 (by decide)
theorem boltW : effW boltE = 2 := by
  unfold boltE num3 cond0
  rw [effW_eq, numW_eq]
  rfl
theorem bolt_card : cardW boltT = 2 := by
  show effsW [boltE] + effsW [] + effsW [] = 2
  unfold effsW
  simp [boltW]
theorem bolt_may (u : Us) : mayP u boltT := by
  refine ⟨by decide, by decide +kernel, by rw [bolt_card]; decide, by decide, by decide, ?_, listNil _ _, listNil _ _⟩
  refine ⟨by decide, by decide, fun i h => ?_⟩
  have : i = 0 := by have : i < 1 := h; omega
  subst this
  show EffOk u true 1 boltE
  unfold boltE num3 cond0
  rw [EffOk_iff]
  exact ⟨⟨by decide, fun _ => .mk (by decide) fun i h => by cases h⟩, by simp [whoHead], fun h => by cases h⟩
theorem chkA {e a : Int} (h : CheckPost [impT, boltT] e a) : e = 0 := h.of_ok (by decide) fun i hi => by
  have : i = 0 ∨ i = 1 := by have : i < 2 := hi; omega
  rcases this with rfl | rfl
  · exact ⟨by simp [namesC], imp_may _⟩
  · exact ⟨by show boltT.name ∉ [impT.name]; decide, bolt_may _⟩
theorem chkB {e a : Int} (h : CheckPost [impT, elfT] e a) : e = 130 ∧ a = 5 := by
  rcases h with ⟨h, _⟩ | ⟨_, ⟨_, _, h⟩ | ⟨i, hi, _, ha, h⟩⟩
  · cases (by decide : ¬ 240 < [impT, elfT].length) h
  · exact absurd (h 1 (by decide)).2 (elf_not _)
  · have : i = 0 ∨ i = 1 := by have : i < 2 := hi; omega
    rcases this with rfl | rfl
    · rcases h with ⟨_, h⟩ | ⟨_, _, h⟩
      · exact absurd h (by simp [namesC])
      · exact absurd (imp_may _) h
    · rcases h with ⟨_, h⟩ | ⟨h, _⟩
      · exact absurd h (by show elfT.name ∉ [impT.name]; decide)
      · exact ⟨h, ha⟩
theorem chkC {e a : Int} (h : CheckPost [impT, impT] e a) : e = 101 ∧ a = 3 := by
  rcases h with ⟨h, _⟩ | ⟨_, ⟨_, _, h⟩ | ⟨i, hi, _, ha, h⟩⟩
  · cases (by decide : ¬ 240 < [impT, impT].length) h
  · exact absurd (show impT.name ∈ [impT.name] by decide) (h 1 (by decide)).1
  · have : i = 0 ∨ i = 1 := by have : i < 2 := hi; omega
    rcases this with rfl | rfl
    · rcases h with ⟨_, h⟩ | ⟨_, _, h⟩
      · exact absurd h (by simp [namesC])
      · exact absurd (imp_may _) h
    · rcases h with ⟨h, _⟩ | ⟨_, h, _⟩
      · exact ⟨h, ha⟩
      · exact absurd (show impT.name ∈ [impT.name] by decide) h
theorem flatNum : Flat (.num num3) [.num num3] := .mk (ls := []) rfl fun i h => by cases h
theorem flatBolt : FlatL (kidsC boltT) [.eff boltE, .num num3] := by
  refine ⟨[[.eff boltE, .num num3]], rfl, fun i h => ?_, rfl⟩
  have : i = 0 := by have : i < 1 := h; omega
  subst this
  exact .mk (p := .eff boltE) (ls := [[.num num3]]) rfl fun i h => by
    have : i = 0 := by have : i < 1 := h; omega
    subst this
    exact flatNum
theorem flatImp : FlatL (kidsC impT) [] := ⟨[], rfl, (fun i h => by cases h), rfl⟩
end Go.Proofs.YtbghonkgflolaaaDoor
