/-
  NARROWER THAN 'FOR EVERY INPUT', by the rows' own cells (each row's printed sentence says how): LabelTells: loops · LabelRight: loops · LabelDown: loops.
  DERIVED. THE GIVEN ROWS OF THIS SEAT. 4 by the template 'for every input the law returns true; each argument reads behind the call as it read before'; 0 by the template 'total and deterministic' (their statements: YtigmehimficmlaaTotals.lean).
  GIVEN WITH THE SEED: the statements are not yours to turn. If you find one false, say at which input.
  Laid BY PROGRAM, IN A SANDBOX (cutbox-rows.mjs): the forced cells as the released guide's own fill.sh prints them over the translation 014466eb1a7e5023… (all of the seat's roots in one cut). By AI agents, Wed Nov 11 2026. No macro, syntax, notation, axiom, sorry.
-/
import Derived.Test.YtigmehimficmlaaChecked
import GoSem.Claim
import GoSem.ClaimJoined
import GoSem.ClaimMapViews
import Derived.JoinedTies
import Derived.KernelRfl
namespace Go.Proofs.Ytigmehimficmlaa
/- THE CELL 'sum', in the pinned program and in every row, IS THE sha256 OF THE DUMP (.gsa) THAT YtigmehimficmlaaProg.lean LOADS. Nothing in Lean hashes anything: it is a label: what it is worth is what the hold of that sum in a sandbox is worth. -/
noncomputable def Try.pinned : Pinned := { name := "ytigmehimficmlaa", sum := "014466eb1a7e502387db971d3a718b5e4e4e0f75716fbd7ebaf4a406f4e00340", checked := Try.checked }
namespace Rows
def none {H : Type} : Left H := { results := [], args := [] }

/-- 'baizelaw14.LabelTells': WHATEVER THE INPUT: true; the input reads as it did. -/
def labelTellsSpec : ChangeSpec := { name := "labelTells", fn := fun _ => fun
  | [d1, d2, d3, d4] => { results := [.lit (.bool true)], args := [d1, d2, d3, d4] }
  | _ => none }
def labelTellsRow : OpenClaim := { program := "ytigmehimficmlaa", sum := "014466eb1a7e502387db971d3a718b5e4e4e0f75716fbd7ebaf4a406f4e00340", func := "baize/baizelaw14.LabelTells", spec := "labelTells", unfollowed := true, recurses := true, loops := true, apart := false }
def LabelTellsSaid : Prop := labelTellsRow.holds Try.pinned (OpenSpec.ofChange labelTellsSpec)

/-- ITS FALSE NEIGHBOUR: 'it returns false'. Refute it at one input. -/
def labelTellsWrong : ChangeSpec := { name := "labelTells", fn := fun _ => fun
  | [d1, d2, d3, d4] => { results := [.lit (.bool false)], args := [d1, d2, d3, d4] }
  | _ => none }
def LabelTellsWrongFalsely : Prop := labelTellsRow.holds Try.pinned (OpenSpec.ofChange labelTellsWrong)

/-- 'baizelaw14.LabelRight': WHATEVER THE INPUT: true; the input reads as it did. -/
def labelRightSpec : ChangeSpec := { name := "labelRight", fn := fun _ => fun
  | [d1, d2, d3] => { results := [.lit (.bool true)], args := [d1, d2, d3] }
  | _ => none }
def labelRightRow : OpenClaim := { program := "ytigmehimficmlaa", sum := "014466eb1a7e502387db971d3a718b5e4e4e0f75716fbd7ebaf4a406f4e00340", func := "baize/baizelaw14.LabelRight", spec := "labelRight", unfollowed := true, recurses := true, loops := true, apart := false }
def LabelRightSaid : Prop := labelRightRow.holds Try.pinned (OpenSpec.ofChange labelRightSpec)

/-- ITS FALSE NEIGHBOUR: 'it returns false'. Refute it at one input. -/
def labelRightWrong : ChangeSpec := { name := "labelRight", fn := fun _ => fun
  | [d1, d2, d3] => { results := [.lit (.bool false)], args := [d1, d2, d3] }
  | _ => none }
def LabelRightWrongFalsely : Prop := labelRightRow.holds Try.pinned (OpenSpec.ofChange labelRightWrong)

/-- 'baizelaw14.LabelLattice': WHATEVER THE INPUT: true; the input reads as it did. -/
def labelLatticeSpec : ChangeSpec := { name := "labelLattice", fn := fun _ => fun
  | [d1, d2, d3] => { results := [.lit (.bool true)], args := [d1, d2, d3] }
  | _ => none }
def labelLatticeRow : OpenClaim := { program := "ytigmehimficmlaa", sum := "014466eb1a7e502387db971d3a718b5e4e4e0f75716fbd7ebaf4a406f4e00340", func := "baize/baizelaw14.LabelLattice", spec := "labelLattice", unfollowed := true, recurses := true, apart := false }
def LabelLatticeSaid : Prop := labelLatticeRow.holds Try.pinned (OpenSpec.ofChange labelLatticeSpec)

/-- ITS FALSE NEIGHBOUR: 'it returns false'. Refute it at one input. -/
def labelLatticeWrong : ChangeSpec := { name := "labelLattice", fn := fun _ => fun
  | [d1, d2, d3] => { results := [.lit (.bool false)], args := [d1, d2, d3] }
  | _ => none }
def LabelLatticeWrongFalsely : Prop := labelLatticeRow.holds Try.pinned (OpenSpec.ofChange labelLatticeWrong)

/-- 'baizelaw14.LabelDown': WHATEVER THE INPUT: true; the input reads as it did. -/
def labelDownSpec : ChangeSpec := { name := "labelDown", fn := fun _ => fun
  | [d1, d2, d3, d4] => { results := [.lit (.bool true)], args := [d1, d2, d3, d4] }
  | _ => none }
def labelDownRow : OpenClaim := { program := "ytigmehimficmlaa", sum := "014466eb1a7e502387db971d3a718b5e4e4e0f75716fbd7ebaf4a406f4e00340", func := "baize/baizelaw14.LabelDown", spec := "labelDown", unfollowed := true, recurses := true, loops := true, apart := false }
def LabelDownSaid : Prop := labelDownRow.holds Try.pinned (OpenSpec.ofChange labelDownSpec)

/-- ITS FALSE NEIGHBOUR: 'it returns false'. Refute it at one input. -/
def labelDownWrong : ChangeSpec := { name := "labelDown", fn := fun _ => fun
  | [d1, d2, d3, d4] => { results := [.lit (.bool false)], args := [d1, d2, d3, d4] }
  | _ => none }
def LabelDownWrongFalsely : Prop := labelDownRow.holds Try.pinned (OpenSpec.ofChange labelDownWrong)

/- THE SECOND FORM. 'bulk': how many values and letters a reading holds, each counted each time it is reached (what is shared counts as often as it is met; a slice's spare places count too). A statement '..UptoSaid' is the law's where the arguments, and the package variables that the reading takes, are together of bulk at most 1048576: NARROWER than '..Said'. Prove '..Said' where nothing that the law and all that it calls make is longer than what came in: it says more and counts as full. Else prove '..UptoSaid'. A law counts once. -/
mutual
def uptoBulk {H : Type} : DataW H → Nat
  | .lit (.string bytes) => bytes.length + 1
  | .lit _ => 1
  | .nil => 1
  | .ptr d => uptoBulk d + 1
  | .slice elems spare => uptoBulkAll elems + uptoBulkAll spare + 1
  | .agg parts => uptoBulkAll parts + 1
  | .iface _ d => uptoBulk d + 1
  | .map entries => uptoBulkEntries entries + 1
  | .held _ => 1
def uptoBulkAll {H : Type} : List (DataW H) → Nat
  | [] => 0
  | d :: r => uptoBulk d + uptoBulkAll r
def uptoBulkEntries {H : Type} : List (Lit × DataW H) → Nat
  | [] => 0
  | x :: r => uptoBulkEntry x + uptoBulkEntries r
def uptoBulkEntry {H : Type} : Lit × DataW H → Nat
  | (.string bytes, d) => bytes.length + uptoBulk d + 1
  | (_, d) => uptoBulk d + 1
 end
def uptoSmall : (H : Type) → List (DataW H) → Bool := fun _ ds => decide (uptoBulkAll ds ≤ 1048576)
def OpenSpec.upto (s : _root_.Go.ChangeSpec) : _root_.Go.OpenSpec := { _root_.Go.OpenSpec.ofChange s with cond := some uptoSmall }

/-- 'baizelaw14.LabelTells', WHERE WHAT IT READS IS OF BULK AT MOST 1048576: true; the input reads as it did. -/
def labelTellsUptoRow : OpenClaim := { program := "ytigmehimficmlaa", sum := "014466eb1a7e502387db971d3a718b5e4e4e0f75716fbd7ebaf4a406f4e00340", func := "baize/baizelaw14.LabelTells", spec := "labelTells", unfollowed := true, recurses := true, loops := true, apart := false, narrowed := true }
def LabelTellsUptoSaid : Prop := labelTellsUptoRow.holds Try.pinned (OpenSpec.upto labelTellsSpec)

/-- 'baizelaw14.LabelRight', WHERE WHAT IT READS IS OF BULK AT MOST 1048576: true; the input reads as it did. -/
def labelRightUptoRow : OpenClaim := { program := "ytigmehimficmlaa", sum := "014466eb1a7e502387db971d3a718b5e4e4e0f75716fbd7ebaf4a406f4e00340", func := "baize/baizelaw14.LabelRight", spec := "labelRight", unfollowed := true, recurses := true, loops := true, apart := false, narrowed := true }
def LabelRightUptoSaid : Prop := labelRightUptoRow.holds Try.pinned (OpenSpec.upto labelRightSpec)

/-- 'baizelaw14.LabelLattice', WHERE WHAT IT READS IS OF BULK AT MOST 1048576: true; the input reads as it did. -/
def labelLatticeUptoRow : OpenClaim := { program := "ytigmehimficmlaa", sum := "014466eb1a7e502387db971d3a718b5e4e4e0f75716fbd7ebaf4a406f4e00340", func := "baize/baizelaw14.LabelLattice", spec := "labelLattice", unfollowed := true, recurses := true, apart := false, narrowed := true }
def LabelLatticeUptoSaid : Prop := labelLatticeUptoRow.holds Try.pinned (OpenSpec.upto labelLatticeSpec)

/-- 'baizelaw14.LabelDown', WHERE WHAT IT READS IS OF BULK AT MOST 1048576: true; the input reads as it did. -/
def labelDownUptoRow : OpenClaim := { program := "ytigmehimficmlaa", sum := "014466eb1a7e502387db971d3a718b5e4e4e0f75716fbd7ebaf4a406f4e00340", func := "baize/baizelaw14.LabelDown", spec := "labelDown", unfollowed := true, recurses := true, loops := true, apart := false, narrowed := true }
def LabelDownUptoSaid : Prop := labelDownUptoRow.holds Try.pinned (OpenSpec.upto labelDownSpec)

end Rows
end Go.Proofs.Ytigmehimficmlaa
