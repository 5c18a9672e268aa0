/- Bytes as they are handed in, and WireReads on them. No condition. -/
import Derived.Test.YtbpihgphicmdiaaWiBf
import Derived.Test.YtbpihgphicmdiaaWi2
namespace Go.Proofs.Ytbpihgphicmdiaa
open Go.Eng Wi Go.WideShapes
set_option maxRecDepth 100000
theorem bytes_cap {H : Type} {enc : TypeId × Value → H} {w : World} {base : Nat} {spare : Nat → Bool} {held : Bool} {fuel : Nat} {v : Value} {x : DataW H × List MemPlace} (h : DataW.trod enc Try.prog w base spare held fuel 22 v.cells.toList = some x) (hg : GoodR Try.prog w 22 x) (hv : ∃ a l c, v = .slice a l c) :
    ∃ (A : Option Addr) (c : Nat) (b : List UInt8), v = .slice A b.length c ∧ b.length ≤ c ∧ BytesE (mp w.heap) v b := by
  obtain ⟨a, l, c, rfl⟩ := hv
  obtain ⟨v2, xs, e, h2⟩ := bytes_inE h hg
  cases e
  obtain ⟨A, c0, e1, h3⟩ := h2
  cases e1
  refine ⟨a, c, xs, rfl, ?_, _, _, rfl, h3⟩
  rcases DataW.trod_slice (sliceT_spec (t := 22) (e := 5) (by kernel_rfl)) h with ⟨hcs, _⟩ | ⟨a2, len, cap, elems, rest, n, _, e2, _, _, hl, hm, _⟩
  · have e3 : ([.slice a xs.length c] : List Value) = [.slice none 0 0] := hcs
    simp only [List.cons.injEq, Value.slice.injEq, and_true] at e3
    omega
  · have e3 : ([.slice a xs.length c] : List Value) = [.slice (some a2) len cap] := e2
    simp only [List.cons.injEq, Value.slice.injEq, and_true] at e3
    omega
theorem wireReads_in {H : Type} {enc : TypeId × Value → H} {base b0 fuel : Nat} {spare : Nat → Bool} {held : Bool} (W : World) {x0 : DataW H × List MemPlace} (v0 : Value) (o0 : Value.okWide Try.prog W .any b0 22 v0) (k0 : DataW.trod enc Try.prog W base spare held fuel 22 v0.cells.toList = some x0) (g0 : GoodR Try.prog W 22 x0) :
    C Try.prog 5 #[v0] W.heap fun v h' => v = .bool true ∧ Le (mp W.heap) (mp h') := by
  obtain ⟨A, c, b, rfl, hc, hb⟩ := bytes_cap k0 g0 (okWide_slice Try.underlying22 o0)
  obtain ⟨A2, c2, e, hA, hl, hw⟩ := hb
  cases e
  exact C_of_CS (WireReads_ok (rd_map hA hw) hl hc)
end Go.Proofs.Ytbpihgphicmdiaa
