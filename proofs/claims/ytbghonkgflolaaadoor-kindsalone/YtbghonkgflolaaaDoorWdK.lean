/- Plain: the words of the language. No condition. -/
import Derived.Test.YtbghonkgflolaaaDoorWdQ
import Derived.Test.YtbghonkgflolaaaDoorEng2
import Derived.Lib.Fields
namespace Wd
open Go Go.Eng
def ownText : List UInt8 := [99, 97, 114, 100, 32, 117, 110, 105, 116, 32, 99, 104, 97, 114, 109, 32, 102, 111, 114, 109, 97, 116, 32, 112, 108, 97, 121, 101, 100, 32, 100, 101, 97, 100, 32, 100, 97, 119, 110, 32, 97, 117, 114, 97, 32, 115, 104, 105, 101, 108, 100, 32, 104, 97, 114, 109, 32, 109, 101, 110, 100, 32, 100, 114, 97, 119, 32, 103, 97, 105, 110, 32, 100, 114, 111, 112, 32, 108, 111, 111, 107, 32, 115, 104, 111, 119, 32, 115, 117, 109, 109, 111, 110, 32, 105, 102, 32, 101, 108, 115, 101, 32, 109, 101, 32, 102, 111, 101, 32, 116, 97, 114, 103, 101, 116, 32, 108, 105, 102, 101, 32, 104, 97, 110, 100, 32, 100, 101, 99, 107, 32, 117, 110, 105, 116, 115, 32, 109, 97, 110, 97, 32, 99, 111, 115, 116, 32, 116, 111, 112, 32, 112, 111, 119, 101, 114, 32, 109, 105, 110, 32, 109, 97, 120, 32, 110, 111, 116, 32, 97, 110, 100, 32, 111, 114, 32, 104, 111, 108, 100, 115, 32, 108, 101, 97, 115, 116, 32, 109, 111, 115, 116, 32, 99, 111, 112, 105, 101, 115, 32, 98, 97, 110, 110, 101, 100, 32, 115, 105, 110, 103, 108, 101]
def keysP : List (List UInt8) := [[99, 97, 114, 100], [117, 110, 105, 116], [99, 104, 97, 114, 109], [102, 111, 114, 109, 97, 116], [112, 108, 97, 121, 101, 100], [100, 101, 97, 100], [100, 97, 119, 110], [97, 117, 114, 97], [115, 104, 105, 101, 108, 100], [104, 97, 114, 109], [109, 101, 110, 100], [100, 114, 97, 119], [103, 97, 105, 110], [100, 114, 111, 112], [108, 111, 111, 107], [115, 104, 111, 119], [115, 117, 109, 109, 111, 110], [105, 102], [101, 108, 115, 101], [109, 101], [102, 111, 101], [116, 97, 114, 103, 101, 116], [108, 105, 102, 101], [104, 97, 110, 100], [100, 101, 99, 107], [117, 110, 105, 116, 115], [109, 97, 110, 97], [99, 111, 115, 116], [116, 111, 112], [112, 111, 119, 101, 114], [109, 105, 110], [109, 97, 120], [110, 111, 116], [97, 110, 100], [111, 114], [104, 111, 108, 100, 115], [108, 101, 97, 115, 116], [109, 111, 115, 116], [99, 111, 112, 105, 101, 115], [98, 97, 110, 110, 101, 100], [115, 105, 110, 103, 108, 101]]
set_option maxRecDepth 20000 in
theorem keys_fields : Lib.fields ownText = keysP := by decide +kernel
set_option maxRecDepth 20000 in
theorem own_ascii : ∀ b ∈ ownText, b.toNat < 128 := by decide +kernel
set_option maxRecDepth 20000 in
theorem keys_new : ∀ i : Fin 41, keysP.getD i.val [] ∉ keysP.take i.val := by decide +kernel
def ownP (s : List UInt8) : Bool := decide (s ∈ keysP)
def entK (l : List (List UInt8)) : List (List UInt8 × Value) := l.map fun k => (k, .bool true)
theorem findM_none {k : List UInt8} : ∀ (l : List (List UInt8)) (i : Nat), k ∉ l → findM k i (entK l) = none
  | [], _, _ => rfl
  | a :: r, i, h => by
    have h1 : k ≠ a := fun e => h (by simp [e])
    have h2 := findM_none r (i + 1) (fun e => h (List.mem_cons_of_mem _ e))
    simp only [entK, List.map_cons] at h2 ⊢
    rw [findM, if_neg h1]
    exact h2
theorem put_keys {i : Nat} (hi : i < 41) : putM (entK (keysP.take i)) (keysP.getD i []) (.bool true) = entK (keysP.take (i + 1)) := by
  have h := keys_new ⟨i, hi⟩
  unfold putM
  rw [findM_none _ _ h]
  have hl : i < keysP.length := hi
  simp only
  rw [List.take_succ_eq_append_getElem hl]
  simp only [entK, List.map_append, List.map_cons, List.map_nil]
  congr 3
  simp [List.getD_eq_getElem?_getD, hl]
theorem findM_some {k : List UInt8} : ∀ (l : List (List UInt8)) (i : Nat), k ∈ l → ∃ j, findM k i (entK l) = some (j, .bool true)
  | [], _, h => by cases h
  | a :: r, i, h => by
    simp only [entK, List.map_cons]
    rw [findM]
    by_cases h1 : k = a
    · exact ⟨i, by rw [if_pos h1]⟩
    · rw [if_neg h1]
      exact findM_some r (i + 1) (by rcases List.mem_cons.1 h with h | h; exact absurd h h1; exact h)
theorem get_keys (s : List UInt8) : (getM (entK keysP) s).getD (.bool false) = .bool (ownP s) := by
  unfold getM ownP
  by_cases h : s ∈ keysP
  · obtain ⟨j, hj⟩ := findM_some keysP 0 h
    rw [hj, decide_eq_true h]
    rfl
  · rw [findM_none _ _ h, decide_eq_false h]
    rfl
end Wd
