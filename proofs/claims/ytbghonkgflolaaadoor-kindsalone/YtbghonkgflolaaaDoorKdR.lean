/- Plain: how many parts. No condition. -/
import Derived.Test.YtbghonkgflolaaaDoorKdP
namespace Kd
open Go Go.Eng
def numW : NumT → Nat
  | .mk _ _ _ k => 1 + (k.attach.map fun x => numW x.1).sum
termination_by x => SizeOf.sizeOf x
decreasing_by
  have := List.sizeOf_lt_of_mem x.2
  simp only [NumT.mk.sizeOf_spec]
  omega
theorem numW_eq (op n who : Int) (k : List NumT) : numW (.mk op n who k) = 1 + (k.map numW).sum := by
  rw [numW, List.attach_map_val (f := numW)]
def condW : CondT → Nat
  | .mk _ _ _ ns k => 1 + (ns.map numW).sum + (k.attach.map fun x => condW x.1).sum
termination_by x => SizeOf.sizeOf x
decreasing_by
  have := List.sizeOf_lt_of_mem x.2
  simp only [CondT.mk.sizeOf_spec]
  omega
theorem condW_eq (op who : Int) (name : List UInt8) (ns : List NumT) (k : List CondT) : condW (.mk op who name ns k) = 1 + (ns.map numW).sum + (k.map condW).sum := by
  rw [condW, List.attach_map_val (f := condW)]
def effW : EffT → Nat
  | .mk op _ n _ c t e => 1 + (if countsB op then numW n else 0) + (if op = 8 then condW c + (t.attach.map fun x => effW x.1).sum + (e.attach.map fun x => effW x.1).sum else 0)
termination_by x => SizeOf.sizeOf x
decreasing_by
  all_goals
    have := List.sizeOf_lt_of_mem x.2
    simp only [EffT.mk.sizeOf_spec]
    omega
theorem effW_eq (op who : Int) (n : NumT) (name : List UInt8) (c : CondT) (t e : List EffT) : effW (.mk op who n name c t e) = 1 + (if countsB op then numW n else 0) + (if op = 8 then condW c + (t.map effW).sum + (e.map effW).sum else 0) := by
  rw [effW, List.attach_map_val (f := effW), List.attach_map_val (f := effW)]
def effsW (l : List EffT) : Nat := (l.map effW).sum
def partW : PartT → Nat
  | .eff x => effW x
  | .num x => numW x
  | .cond x => condW x
theorem map_eff (l : List EffT) : (l.map PartT.eff).map partW = l.map effW := by rw [List.map_map]; rfl
theorem map_num (l : List NumT) : (l.map PartT.num).map partW = l.map numW := by rw [List.map_map]; rfl
theorem map_cond (l : List CondT) : (l.map PartT.cond).map partW = l.map condW := by rw [List.map_map]; rfl
theorem partW_eq (p : PartT) : partW p = 1 + ((kidsP p).map partW).sum := by
  cases p with
  | eff x =>
    obtain ⟨op, who, n, name, c, t, e⟩ := x
    show effW _ = _
    rw [effW_eq]
    unfold kidsP
    rw [List.map_append, List.sum_append]
    have h1 : ((if countsB op then [PartT.num n] else []).map partW).sum = if countsB op then numW n else 0 := by
      split <;> simp [partW]
    have h2 : ((if op = 8 then PartT.cond c :: (t.map .eff ++ e.map .eff) else []).map partW).sum = if op = 8 then condW c + (t.map effW).sum + (e.map effW).sum else 0 := by
      split
      · rw [List.map_cons, List.map_append, map_eff, map_eff, List.sum_cons, List.sum_append]
        show condW c + _ = _
        omega
      · rfl
    rw [h1, h2]
    omega
  | num x =>
    obtain ⟨op, n, who, k⟩ := x
    show numW _ = _
    unfold kidsP
    rw [numW_eq, map_num]
  | cond x =>
    obtain ⟨op, who, name, ns, k⟩ := x
    show condW _ = _
    unfold kidsP
    rw [condW_eq, List.map_append, map_num, map_cond, List.sum_append]
    omega
theorem flat_len {p : PartT} {l : List PartT} (h : Flat p l) : l.length = partW p := by
  induction h with
  | @mk p ls hl hk ih =>
    rw [partW_eq, List.length_cons, List.length_flatten]
    have : ls.map List.length = (kidsP p).map partW := by
      apply List.ext_getElem
      · simp [hl]
      · intro i h1 h2
        simp only [List.getElem_map]
        simp only [List.length_map] at h2
        exact ih i h2
    rw [this]
    omega
theorem flatL_len {ps l : List PartT} (h : FlatL ps l) : l.length = (ps.map partW).sum := by
  obtain ⟨ls, hl, hk, rfl⟩ := h
  rw [List.length_flatten]
  congr 1
  apply List.ext_getElem
  · simp [hl]
  · intro i h1 h2
    simp only [List.getElem_map]
    simp only [List.length_map] at h2
    exact flat_len (hk i h2)
theorem sum_take {α : Type} (f : α → Nat) {l : List α} {i : Nat} (h : i < l.length) : ((l.take (i + 1)).map f).sum = ((l.take i).map f).sum + f l[i] := by
  rw [List.take_add_one, List.getElem?_eq_getElem h, List.map_append, List.sum_append]
  simp
def capW (n : Nat) : Int := min (n : Int) 1073741824
end Kd
