/- A part of the proof: contracts of functions of the program. No condition. -/
import Derived.Test.YtbpihgphicmdiaaWiZ
namespace Go.Proofs.Ytbpihgphicmdiaa
open Go.Eng Wi
set_option maxRecDepth 100000
/-- the method Kind of a message -/
theorem Kind_ok {m : Mp} {v : Value} {x : Ltr} (h : MsgR m v x) : ∃ T val f, v = .iface T val ∧ callable Try.prog f = true ∧ (∀ w, (method (Try.prog.types.size + Made.depth) T val "Kind").run Try.prog w = .ok (f, val) w) ∧ ∀ m', CS Try.prog f [val] m' [] (Gives (.int .u8 x.kind)) := by
  cases h with
  | login vb bytes hb =>
    obtain ⟨_, _, rfl, _⟩ := hb
    exact ⟨_, _, 86, rfl, by kernel_rfl, kind61 _, fun m' => Kind61_ok _ _ _⟩
  | make t text ht hx =>
    exact ⟨_, _, 88, rfl, by kernel_rfl, kind66 _, fun m' => Kind66_ok _ _⟩
  | deck t vc cards ht hc hx =>
    obtain ⟨_, _, rfl, _⟩ := hc
    exact ⟨_, _, 89, rfl, by kernel_rfl, kind68 _, fun m' => Kind68_ok _ _ _ _⟩
  | act t a vi vp ht ho hi hp =>
    obtain ⟨_, _, rfl, _⟩ := hi
    obtain ⟨_, _, rfl, _⟩ := hp
    exact ⟨_, _, 90, rfl, by kernel_rfl, kind70 _, fun m' => Kind70_ok _ _ _ _ _ _ _ _ _ _ _⟩
  | look t ht =>
    exact ⟨_, _, 85, rfl, by kernel_rfl, kind59 _, fun m' => Kind59_ok _⟩
  | replay t ht =>
    exact ⟨_, _, 91, rfl, by kernel_rfl, kind71 _, fun m' => Kind71_ok _⟩
  | audit t ht =>
    exact ⟨_, _, 92, rfl, by kernel_rfl, kind72 _, fun m' => Kind72_ok _⟩
  | bye  =>
    exact ⟨_, _, 84, rfl, by kernel_rfl, kind57 _, fun m' => Kind57_ok ⟩
  | reply to_ e ho ht =>
    exact ⟨_, _, 87, rfl, by kernel_rfl, kind64 _, fun m' => Kind64_ok _ _⟩
  | seen t vb bytes ht hb =>
    obtain ⟨_, _, rfl, _⟩ := hb
    exact ⟨_, _, 93, rfl, by kernel_rfl, kind74 _, fun m' => Kind74_ok _ _ _ _⟩
  | told t ve evs ht he =>
    obtain ⟨_, _, rfl, _⟩ := he
    exact ⟨_, _, 94, rfl, by kernel_rfl, kind76 _, fun m' => Kind76_ok _ _ _ _⟩
  | book t vb bytes ht hb =>
    obtain ⟨_, _, rfl, _⟩ := hb
    exact ⟨_, _, 95, rfl, by kernel_rfl, kind78 _, fun m' => Kind78_ok _ _ _ _⟩
end Go.Proofs.Ytbpihgphicmdiaa
