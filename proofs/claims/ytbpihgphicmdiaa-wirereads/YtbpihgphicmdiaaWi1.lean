/- Letters as they are handed in: from the row's reading to what the walks ask. No condition. -/
import Derived.Test.YtbpihgphicmdiaaWi0
import Derived.Test.YtbpihgphicmdiaaEng2
namespace Go.Proofs.Ytbpihgphicmdiaa
open Go.Eng Wi
theorem row_get {vs l : List Value} {o sz j : Nat} {u : Value} (h : (vs.drop o).take sz = l) (hu : l[j]? = some u) : vs[o + j]? = some u := by
  rw [← h, List.getElem?_take] at hu
  split at hu
  · rw [List.getElem?_drop] at hu; exact hu
  · cases hu
theorem u8_wf {n : Int} (h : (Lit.int .u8 n).wf = true) : U8 n := by
  simp [Lit.wf, IntKind.min, IntKind.max, IntKind.signed, IntKind.bits] at h
  unfold U8; omega
theorem reach_le {k b : Nat} (hb : 0 < b) (h : k * b ≤ reachBytes) : k ≤ 140737488355328 := by
  have h1 : k * 1 ≤ k * b := Nat.mul_le_mul_left _ hb
  unfold reachBytes at h
  omega
section
variable {H : Type} {enc : TypeId × Value → H} {w : World} {base : Nat} {spare : Nat → Bool} {held : Bool} {fuel : Nat} {cs : List Value} {x : DataW H × List MemPlace}
theorem bytes_inE (h : DataW.trod enc Try.prog w base spare held fuel 22 cs = some x) (hg : GoodR Try.prog w 22 x) : ∃ v xs, cs = [v] ∧ BytesE (mp w.heap) v xs := by
  obtain ⟨A, len, cap, vs, n, rfl, hA, hb, hw, hl, _, hel⟩ := cells_inW (e := 5) (sz := 1) (by_ := 1) (by kernel_rfl) (by kernel_rfl) (by kernel_rfl) h hg
  obtain ⟨xs, hxl, hx⟩ := choose_list (n := len) (p := fun i (b : UInt8) => vs[i]? = some (byteV b)) (fun i hi => by
    obtain ⟨y, hy, _⟩ := hel i hi
    obtain ⟨n, e, hwf⟩ := int_in (k := .u8) (by kernel_rfl) hy
    have hu := u8_wf hwf
    refine ⟨ub n, ?_⟩
    have := row_get (j := 0) e rfl
    rw [Nat.mul_one, Nat.add_zero] at this
    rw [this]
    unfold byteV
    rw [← ub_u8 hu])
  exact ⟨_, xs, rfl, A, cap, by rw [hxl], fun h0 => hA (by omega), by rw [hxl]; exact reach_le (by decide) hb, fun i hi => hw _ _ (hx i hi)⟩
end
end Go.Proofs.Ytbpihgphicmdiaa
