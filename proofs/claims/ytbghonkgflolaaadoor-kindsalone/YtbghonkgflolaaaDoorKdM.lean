/- A part of the proof: contracts of functions of the program. No condition. -/
import Derived.Test.YtbghonkgflolaaaDoorKdL
import Derived.Test.YtbghonkgflolaaaDoorKdShelf
import Derived.Below
namespace Go.Proofs.YtbghonkgflolaaaDoor
open Go.Eng Wd Kd Go.RowKit
set_option maxRecDepth 100000

/-- the library's tables lie in memory -/
def Tabs (m : Mp) : Prop := ∀ w : World, Le m (mp w.heap) → Lib.TabIs Tryd.prog w "strings.asciiSpace" .u8 Lib.asciiSpaceTab
theorem Tabs.mono {m m' : Mp} (h : Tabs m) (hl : Le m m') : Tabs m' := fun w hw => h w (hl.trans hw)

theorem fields_ok {m : Mp} {s : List UInt8} (hT : Tabs m) (hl : s.length < 4294967281) (ha : ∀ b ∈ s, b.toNat < 128) :
    CS Tryd.prog 38 [.string (bs s)] m [] fun v L' => ∃ b, v = .slice (some ⟨b, 0, none⟩) (Lib.fields s).length (Lib.fields s).length ∧ L' = [cel b ((Lib.fields s).map strV) 9] := fun h hs x d => by
  have := Tryd.strings_Fields_laid (bs s) (W x h d) (by rw [bs_size]; exact hl) (fun j b hj => ha b (List.mem_of_getElem? (by simpa [bs] using hj))) (hT _ hs.base)
  refine this.mono ?_
  rintro e w' ⟨rfl, rfl⟩
  refine ⟨_, h.push (.cells ((Lib.fields s).map strV).toArray 9), d, rfl, rfl, _, ⟨h.size, rfl, rfl⟩, ?_⟩
  exact hs.new (e' := cel h.size ((Lib.fields s).map strV) 9) (mp_push h _) (mp_push_new h _) (fun k hk => by have := dom_cel hk; subst this; exact mp_none h)
end Go.Proofs.YtbghonkgflolaaaDoor
