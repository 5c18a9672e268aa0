/- A part of the proof: contracts of functions of the program. No condition. -/
import Derived.Test.YtigfdclopkagmaaDoorWdC
import Derived.Test.YtigfdclopkagmaaDoorWdShelf
import Derived.Below
namespace Go.Proofs.YtigfdclopkagmaaDoor
open Go.Eng Wd Go.RowKit

/-- the library's tables lie in memory -/
def Tabs (m : Mp) : Prop := ∀ w : World, Le m (mp w.heap) → Lib.TabIs Tryd.prog w "strings.asciiSpace" .u8 Lib.asciiSpaceTab ∧ Lib.Utf8Tabs 0 1 w
theorem Tabs.mono {m m' : Mp} (h : Tabs m) (hl : Le m m') : Tabs m' := fun w hw => h w (hl.trans hw)

theorem C_ofBelow {P : Program} {f : FuncId} {args : Array Value} {h : Heap} {v : Value} (hc : ∀ w : World, w.heap = h → Calls P f args w fun e w' => e = .returned v ∧ Below w.heap.size w w') :
    C P f args h fun u h' => u = v ∧ Le (mp h) (mp h') := fun x d => by
  refine (hc (W x h d) rfl).mono ?_
  rintro e w' ⟨rfl, hb⟩
  refine ⟨v, w'.heap, w'.drawn, rfl, ?_, rfl, fun k o hk => ?_⟩
  · show w' = ⟨w'.heap, x.tape, w'.drawn, x.os, x.out⟩
    have h1 := hb.os
    have h2 := hb.tape
    have h3 := hb.output
    simp only [W] at h1 h2 h3
    rw [← h1, ← h2, ← h3]
  · have h4 := hb.block k (mp_some hk)
    show w'.heap[k]? = some o
    rw [h4]
    exact hk
theorem decodeR_ok {m : Mp} {t : List UInt8} (hT : Tabs m) (h0 : 0 < t.length) : CS Tryd.prog 14 [.string (bs t)] m [] (Gives (.tuple [.int .i32 (dec t 0).1, .int .i64 (dec t 0).2].toArray)) := fun h hs => by
  refine (C_ofBelow (v := .tuple [.int .i32 (dec t 0).1, .int .i64 (dec t 0).2].toArray) fun w hw => ?_).mono fun v h' ⟨h1, h2⟩ => ⟨[], ⟨h1, rfl⟩, HS.nil (hs.base.trans h2)⟩
  subst hw
  have := Tryd.utf8_DecodeRuneInString (bs t) w (hT w hs.base).2
  have e : Lib.decodeGo (bs t) = dec t 0 := by
    unfold Lib.decodeGo
    rw [if_neg (by rw [bs_size]; omega), decode_eq]
  rw [e] at this
  exact this
theorem fields_ok {m : Mp} {s : List UInt8} (hT : Tabs m) (hl : s.length < 4294967281) (ha : ∀ b ∈ s, b.toNat < 128) :
    CS Tryd.prog 29 [.string (bs s)] m [] fun v L' => ∃ b, v = .slice (some ⟨b, 0, none⟩) (Lib.fields s).length (Lib.fields s).length ∧ L' = [cel b ((Lib.fields s).map strV) 9] := fun h hs x d => by
  have := Tryd.strings_Fields_laid (bs s) (W x h d) (by rw [bs_size]; exact hl) (fun j b hj => ha b (List.mem_of_getElem? (by simpa [bs] using hj))) (hT _ hs.base).1
  refine this.mono ?_
  rintro e w' ⟨rfl, rfl⟩
  refine ⟨_, h.push (.cells ((Lib.fields s).map strV).toArray 9), d, rfl, rfl, _, ⟨h.size, rfl, rfl⟩, ?_⟩
  exact hs.new (e' := cel h.size ((Lib.fields s).map strV) 9) (mp_push h _) (mp_push_new h _) (fun k hk => by have := dom_cel hk; subst this; exact mp_none h)
end Go.Proofs.YtigfdclopkagmaaDoor
