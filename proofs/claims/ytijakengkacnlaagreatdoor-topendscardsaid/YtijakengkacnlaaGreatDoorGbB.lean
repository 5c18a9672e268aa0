/- The law as its row asks it: the arguments as they are handed in. No condition. -/
import Derived.Test.YtijakengkacnlaaGreatDoorGbA
import Derived.Test.YtijakengkacnlaaGreatDoorGaX
import Derived.Test.YtijakengkacnlaaGreatDoorUkT
import Derived.Test.YtijakengkacnlaaGreatDoorEng2
set_option linter.all false
namespace Go.Proofs.YtijakengkacnlaaGreatDoor
open Go.Eng Go.WideShapes Go.RowKit Go.ChangeShapes Wd Tp Kd La
set_option maxRecDepth 100000
section
variable {H : Type} {enc : TypeId × Value -> H} {w : World} {base : Nat} {spare : Nat -> Bool} {held : Bool} {fuel : Nat} {cs : Lv} {x : DataW H × List MemPlace}
theorem WB (h : DataW.trod enc Tryz.prog w base spare held fuel 26 cs = some x) : ∃ s : Sl, cs = [s.v] /\ gu (mp w.heap) s := by
 rcases open_ints Tryz.underlying26 Tryz.underlying3 (by kernel_rfl) h with ⟨rfl, -⟩ | ⟨a, len, cap, zs, rfl, -, hl, hm, hz, -, hcell, -⟩
 ·exact ⟨nilL, rfl, gu.nilL⟩
 ·have hzl : len <= zs.length := by
   rw [hz]; split <;> omega
  have hlen : (zs.take len).length = len := by rw [List.length_take]; omega
  refine ⟨⟨some a, cap, zs.take len⟩, by simp only [Sl.v, hlen], fun i u hi => ⟨rfl, ?_⟩, by simp only [hlen]; exact hl, fun h => by cases h⟩;dsimp only [Sl.vs] at hi;rw [List.getElem?_map, List.getElem?_take] at hi
  split at hi
  ·rename_i hlt
   have hi2 : i < zs.length := by omega
   rw [List.getElem?_eq_getElem hi2] at hi;simp only [Option.map_some, Option.some.injEq] at hi;subst hi;have := hcell i hi2;rw [w9] at this;show mc (mp w.heap) (a.add i) = _
   simpa [hi2] using this
  ·cases hi
theorem NF (h : DataW.trod enc Tryz.prog w base spare held fuel 27 cs = some x) : ∃ d0 d1 : Sl, cs = [d0.v, d1.v] /\ gu (mp w.heap) d0 /\ gu (mp w.heap) d1 := by
 obtain ⟨xs, n, rfl, -, hl, hx, hel⟩ := DataW.trod_array Tryz.underlying27 h;rw [show Tryz.prog.cellsOf 27 = 2 by kernel_rfl] at hl;rw [show Tryz.prog.cellsOf 26 = 1 by kernel_rfl] at hel
 match cs, hl, xs, hx with
 | [c0, c1], _, [x0, x1], _ =>
   obtain ⟨d0, e0, r0⟩ := WB (hel 0 (by decide));obtain ⟨d1, e1, r1⟩ := WB (hel 1 (by decide))
   simp at e0 e1
   subst e0 e1;exact ⟨d0, d1, rfl, r0, r1⟩
end
theorem VI {W : World} (hT : fR (mp W.heap)) (h0 : mp W.heap 0 = some (.cells ⟨Go.Ev.tabV⟩ 640 (0, 0))) {b : H8} {K F : Oa} {kc fc : Nat} (hR : ue (mp W.heap) K b.cards.length b.cards) (hF : aw (mp W.heap) F b.fmts) (hs : FmL b) (hn : ∀ f ∈ b.fmts, f.name.length <= 140737488355328) {d0 d1 : Sl} (r0 : gu (mp W.heap) d0) (r1 : gu (mp W.heap) d1) :
  CS Tryz.prog 3 [.agg (vg K b.cards.length kc F b.fmts.length fc).toArray, .agg [d0.v, d1.v].toArray] (mp W.heap) [] Oo := by
 refine Oq (SZ := QD b) (fun m' hm => DO (hR.mono hm) (hF.mono hm) hs hn) (fun hz => ?_) (fun m' hm => Go.Ev.lives5 (hm 0 _ h0)) r0 r1
 have key : ∀ m', Le (mp W.heap) m' -> CS Tryz.prog 16 [.agg (vg K b.cards.length kc F b.fmts.length fc).toArray] m' [] (fun v L' => L' = [] /\ ∃ e a, v = uB e a /\ QF b e a) := fun m' hm => S9 (hT.mono hm) (hR.mono hm) ((NZ hR).mono hm) (hF.mono hm) hz;by_cases hok : JX b
 ·refine .inl fun m' hm => (key m' hm).mono fun v L' ⟨hL, e, a, hv, hp⟩ => ⟨⟨a, ?_⟩, hL⟩;rcases hp with ⟨rfl, rfl, -⟩ | ⟨-, hno, -⟩
  ·exact hv
  ·exact absurd hok hno
 ·refine .inr fun m' hm => (key m' hm).mono fun v L' ⟨hL, e, a, hv, hp⟩ => ⟨⟨e, a, ?_, hv⟩, hL⟩;rcases hp with ⟨-, -, h⟩ | ⟨h, -⟩
  ·exact absurd h hok
  ·exact h
theorem QM {H : Type} {enc : TypeId × Value -> H} {base b0 fuel : Nat} {spare : Nat -> Bool} {held : Bool} {base1 b1 fuel1 : Nat} {spare1 : Nat -> Bool} {held1 : Bool} (W : World) (hT : fR (mp W.heap)) (h0 : mp W.heap 0 = some (.cells ⟨Go.Ev.tabV⟩ 640 (0, 0))) {x0 : DataW H × List MemPlace} (v0 : Value) (o0 : Value.okWide Tryz.prog W .any b0 25 v0) (k0 : DataW.trod enc Tryz.prog W base spare held fuel 25 v0.cells.toList = some x0) (g0 : jI Tryz.prog W 25 x0)
  {x1 : DataW H × List MemPlace} (v1 : Value) (o1 : Value.okWide Tryz.prog W .any b1 27 v1) (k1 : DataW.trod enc Tryz.prog W base1 spare1 held1 fuel1 27 v1.cells.toList = some x1) :
  C Tryz.prog 3 #[v0, v1] W.heap fun v h' => v = .bool true /\ Le (mp W.heap) (mp h') := by
 obtain ⟨cs, rfl, -⟩ := okWide_struct Tryz.underlying25 o0;obtain ⟨b, K, kc, F, fc, e, hC, hF, hs, hn⟩ := N2 k0 g0;have e : cs.toList = vg K b.cards.length kc F b.fmts.length fc := by simpa [Value.cells] using e
 obtain ⟨cs'⟩ := cs;subst e
 obtain ⟨cs1, rfl⟩ : ∃ cs1 : Array Value, v1 = .agg cs1 := by
  simp only [Value.okWide, Tryz.underlying27] at o1;obtain ⟨c, h1, -⟩ := o1;exact ⟨c, h1⟩
 obtain ⟨d0, d1, e1, r0, r1⟩ := NF k1;have e1 : cs1.toList = [d0.v, d1.v] := by simpa [Value.cells] using e1
 obtain ⟨cs1'⟩ := cs1;subst e1;exact (CS.toLe (VI hT h0 hC hF hs hn r0 r1)).mono fun _ _ ⟨⟨_, e, _⟩, hl⟩ => ⟨e, hl⟩
end Go.Proofs.YtijakengkacnlaaGreatDoor
