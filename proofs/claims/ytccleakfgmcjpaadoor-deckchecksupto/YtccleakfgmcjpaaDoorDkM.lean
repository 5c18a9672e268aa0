/- A part of the proof: contracts of functions of the program. No condition. -/
import Derived.Test.YtccleakfgmcjpaaDoorDkL
namespace Go.Proofs.YtccleakfgmcjpaaDoor
open Go.Eng Dk
set_option maxRecDepth 100000
theorem bk_lens {m : Mp} {bv : List Value} {b : BkT} (hb : BkR m bv b) : b.fmts.length ≤ 140737488355328 ∧ b.cards.length ≤ 9223372036854775807 := by
  obtain ⟨_, _, _, _, _, ⟨_, h1, _⟩, h2, _⟩ := hb
  exact ⟨h2, h1⟩
end Go.Proofs.YtccleakfgmcjpaaDoor
