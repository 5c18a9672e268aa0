/- The contracts of strings.Join and strconv.Itoa, over heaps. Conditions: what each asks. -/
import Derived.Test.YtccleakfgmcjpaaDoorDkG
import Derived.Test.YtccleakfgmcjpaaDoorDkShelf
import Derived.Below
namespace Go.Proofs.YtccleakfgmcjpaaDoor
open Go.Eng Dk Go.RowKit
/-- the library's table lies in memory -/
def Tabs (m : Mp) : Prop := ∀ w : World, Le m (mp w.heap) → Lib.TabIs Tryd.prog w "internal/strconv.uint64pow10" .u64 Lib.pow10Tab
theorem Tabs.mono {m m' : Mp} (h : Tabs m) (hl : Le m m') : Tabs m' := fun w hw => h w (hl.trans hw)
theorem C_ofBelow {P : Program} {f : FuncId} {args : Array Value} {h : Heap} {v : Value} (hc : ∀ w : World, w.heap = h → Calls P f args w fun e w' => e = .returned v ∧ Below w.heap.size w w') :
    C P f args h fun u h' => u = v ∧ Le (mp h) (mp h') := fun x d => by
  refine (hc (W x h d) rfl).mono ?_
  rintro e w' ⟨rfl, hb⟩
  refine ⟨v, w'.heap, w'.drawn, rfl, ?_, rfl, fun k o hk => ?_⟩
  · show w' = ⟨w'.heap, x.tape, w'.drawn, x.os, x.out⟩
    have h1 := hb.os
    have h2 := hb.tape
    have h3 := hb.output
    simp only [W] at h1 h2 h3
    rw [← h1, ← h2, ← h3]
  · have h4 := hb.block k (mp_some hk)
    show w'.heap[k]? = some o
    rw [h4]
    exact hk
theorem CS_ofBelow {P : Program} {f : FuncId} {args : List Value} {m : Mp} {v : Value} (hc : ∀ w : World, Le m (mp w.heap) → Calls P f args.toArray w fun e w' => e = .returned v ∧ Below w.heap.size w w') :
    CS P f args m [] (Gives v) := fun h hs =>
  (C_ofBelow (v := v) fun w hw => hc w (by rw [hw]; exact hs.base)).mono fun _ _ ⟨h1, h2⟩ => ⟨[], ⟨h1, rfl⟩, HS.nil (hs.base.trans h2)⟩
theorem Itoa_ok {m : Mp} (hT : Tabs m) {n : Int} (h0 : -9223372036854775808 ≤ n) (h1 : n ≤ 9223372036854775807) : CS Tryd.prog 30 [iV n] m [] (Gives (sV (Lib.itoa n))) := by
  refine CS_ofBelow fun w hw => ?_
  refine (Any.strconv_Itoa Tryd.laysM171 n h0 h1 w (hT w hw)).mono ?_
  rintro e w' ⟨he, k, os, rfl⟩
  exact ⟨he, rfl, rfl, rfl, by simp [Sort.grow], fun i hi => by simp [Sort.grow, World.heap_drewN, Array.getElem?_append, hi]⟩
theorem Join_ok {m : Mp} {A : Option Addr} {c : Nat} {xs : List (List UInt8)} {sep : List UInt8} (hx : Rd m A (xs.map sV)) (hc : xs.length ≤ c) (hl : (Lib.join xs sep).length ≤ 140737488355328) (hn : xs.length ≤ 140737488355328) : CS Tryd.prog 31 [.slice A xs.length c, sV sep] m [] (Gives (sV (Lib.join xs sep))) := by
  refine CS_ofBelow fun w hw => ?_
  have hm := hx.mono hw
  match xs, hm, hc, hl, hn with
  | [], _, _, _, _ =>
    refine (Any.strings_Join_none Tryd.lays156 Tryd.extra156 A c (bs sep) w).mono ?_
    rintro e w' ⟨he, rfl⟩
    exact ⟨he, Below.refl _ _⟩
  | x :: r, hm, hc, hl, hn =>
    obtain ⟨hA, h0⟩ := hm 0 (sV x) rfl
    obtain ⟨⟨bk, o, z⟩, rfl⟩ := Option.isSome_iff_exists.1 hA
    have hz : z = none := by
      cases z with
      | none => rfl
      | some s =>
        have h0' : mc (mp w.heap) ((⟨bk, o, some s⟩ : Addr).add 0) = some (sV x) := h0
        unfold mc at h0'
        split at h0'
        · simp [Addr.add] at h0'
        · cases h0'
    subst hz
    have hcell : ∀ (j : Nat) y, (x :: r)[j]? = some y → w.cell? ⟨bk, o + j, none⟩ = some (sV y) := fun j y hj => by
      have := (hm j (sV y) (by rw [List.getElem?_map, hj]; rfl)).2
      rw [cell_mc, ← Addr.add_lit]
      exact this
    have hlt : bk < w.heap.size := by
      have := hcell 0 x rfl
      rw [cell_mc] at this
      unfold mc at this
      split at this
      · rename_i c0 _ _ hb
        exact mp_some hb
      · cases this
    match r, hm, hc, hl, hn with
    | [], _, _, _, _ =>
      refine (Any.strings_Join_one Tryd.lays156 Tryd.extra156 bk o c (bs x) (bs sep) w (hcell 0 x rfl)).mono ?_
      rintro e w' ⟨he, rfl⟩
      exact ⟨by rw [Lib.join_one]; exact he, Below.refl _ _⟩
    | y :: r, _, hc, hl, hn =>
      have e : ((x :: y :: r).map bs).map (·.data.toList) = x :: y :: r := by
        rw [List.map_map]
        conv => rhs; rw [← List.map_id (x :: y :: r)]
        apply List.map_congr_left
        intro z _
        simp [bs]
      have e2 : (bs sep).data.toList = sep := by simp [bs]
      have := Any.strings_Join_many Tryd.lays156 Tryd.extra156 bk o c ((x :: y :: r).map bs) (bs sep) w (fun j z hj => by
        rw [List.getElem?_map] at hj
        cases hq : (x :: y :: r)[j]? with
        | none => rw [hq] at hj; cases hj
        | some q =>
          rw [hq] at hj
          cases hj
          exact hcell j q hq) hlt (by simp) (by rw [List.length_map]; exact hn) (by rw [List.length_map]; exact hc) (by rw [e, e2]; exact hl)
      rw [e, e2, List.length_map] at this
      exact this
end Go.Proofs.YtccleakfgmcjpaaDoor
