/- The statement TopEnds: the contract of the law's function lifted to the row, and the row to the tied card. No condition. -/
import Derived.Test.YtijakengkacnlaaGreatDoorGbC
import Derived.Test.YtijakengkacnlaaGreatDoorTeTie
import Derived.Test.YtijakengkacnlaaGreatDoorGbL
import Derived.Test.YtijakengkacnlaaGreatDoorGbM
import Derived.Test.YtijakengkacnlaaGreatDoorCards
import Derived.Test.YtijakengkacnlaaGreatDoorEng2
import Derived.ProofKit
import Derived.OpenShut
import Derived.LaidMore
import Derived.Lay
import Derived.SevenTiedAt
import Derived.Stop.Joined
import Derived.SizedLaws
set_option linter.all false
namespace Go.Proofs.YtijakengkacnlaaGreatDoor
open Go.Eng Go.ChangeShapes Go.WideShapes Go.ChangeAt Go.RowKit
open Go.ChangeMaps (open_string shut_string)
theorem VH : ownKnob Tryz.prog.godebug = none := by kernel_rfl
set_option maxRecDepth 100000 in
theorem dS (os : Os) (started : os.Started) (H : Type) (enc : TypeId × Value -> H) :
  ReturnsInHanded {} Tryz.checked os 3 .any (fun w args => (Rows.topEndsSpec.pre enc Tryz.prog Tryz.f3 [] false w args /\ laidMetH Tryz.prog Rows.topEndsRow.laid w) /\ sizedMet enc Tryz.prog Tryz.f3 (OpenSpec.ofChange Rows.topEndsSpec) false w args)
   (Rows.topEndsSpec.post enc Tryz.prog Tryz.f3 false true false false) := by
 refine Yt (C := Tryz.checked) (X := fun w _ => laidMetH Tryz.prog Rows.topEndsRow.laid w) (fun _ _ _ hh h => h.of_heap hh) VH started (by kernel_rfl) Tryz.func3
  (ChangeSpec.witness_shaped (enc := enc) (C := Tryz.checked) (os := os) (X := fun w _ => laidMetH Tryz.prog Rows.topEndsRow.laid w) false (World.laidAll Tryz.prog os Rows.topEndsRow.laid) #[.agg #[.slice none 0 0, .slice none 0 0], .agg #[.slice none 0 0, .slice none 0 0]] 8 (World.laidAll_os _ _ _)
   (World.shaped_of_ZipB (by kernel_rfl) (by kernel_rfl)) (by kernel_rfl) (by kernel_rfl) (by kernel_rfl)
   (by rw [MakeChecks.laidMetH_plain _ _ _ (by kernel_rfl)]; exact laidMet_laidAll _ (by kernel_rfl) (by kernel_rfl))) ?_
 intro W base args ds gs before hSh hval0 hW hsz0 hL;have hsz : (DataW.weightsEach Tryz.prog (Tryz.f3.params.toList ++ Rows.topEndsSpec.plain.varTypes Tryz.prog) (ds ++ gs)).all (· <= reachBytes) = true := hsz0;clear hsz0;have hval : ∀ (j : Nat) t v, Tryz.f3.params[j]? = some t -> args[j]? = some v -> Value.okWide Tryz.prog W .any base t v := hval0;have hW' := hW
 obtain ⟨p, q, hA0, hV, rfl, hfz, hnd⟩ := hW;have hA : DataW.TrodAll enc Tryz.prog W 0 (fun _ => true) true Tryz.f3.params.toList args.toList ds p := hA0;rw [Tryz.params3] at hA hval hsz;obtain ⟨v0, vs0, d0, ds0, p0, q0, hargs, rfl, rfl, h0, r0⟩ := trodAll_cons hA;obtain ⟨v1, vs1, d1, ds1, p1, q1, rfl, rfl, rfl, h1, r1⟩ := trodAll_cons r0;obtain ⟨rfl, rfl, rfl⟩ := trodAll_nil r1
 obtain rfl : args = #[v0, v1] := by cases args; simp_all
 obtain ⟨rfl, rfl⟩ := trodVars_none hV;have k0 := h0;have lt0 : ∀ x ∈ p0, x.block < W.heap.size := by obtain ⟨m, hm⟩ := k0; exact DataW.trod_lt m _ _ _ hm
 obtain ⟨fu0, hf0⟩ := h0;have g0 : jI Tryz.prog W 25 (d0, p0) := ⟨fun b o hm => hfz b o (by simp [hm]), fun k hk => of_decide_eq_true (List.all_eq_true.1 hsz k (DataW.weights_mem_each (j := 0) (t := 25) rfl rfl k hk))⟩;have k1 := h1;have lt1 : ∀ x ∈ p1, x.block < W.heap.size := by obtain ⟨m, hm⟩ := k1; exact DataW.trod_lt m _ _ _ hm
 obtain ⟨fu1, hf1⟩ := h1;have g1 : jI Tryz.prog W 27 (d1, p1) := ⟨fun b o hm => hfz b o (by simp [hm]), fun k hk => of_decide_eq_true (List.all_eq_true.1 hsz k (DataW.weights_mem_each (j := 1) (t := 27) rfl rfl k hk))⟩;clear hA0 hval0
 refine (N4 (QM W (eW hL hSh).1 (eW hL hSh).2 v0 (hval 0 25 v0 rfl rfl) hf0 g0 v1 (hval 1 27 v1 rfl rfl) hf1)).mono fun e W' ⟨he, bel⟩ => ?_;subst he
 exact ⟨_, rfl, _, _, _, [], _, [], hW', trodAll_mk1 (shut_bool Tryz.underlying4 _), (trodAll_cons_mk (Below.trod qo (by kernel_rfl) (of_decide_eq_true (by kernel_rfl)) k0 bel lt0) (trodAll_cons_mk (Below.trod qo (by kernel_rfl) (of_decide_eq_true (by kernel_rfl)) k1 bel lt1) trodAll_mk0)), rfl, bel.frame _, fun h => by cases h⟩
theorem Yj : Rows.TopEndsSaid :=
 OpenClaim.holds_of_wide 3 Tryz.f3 rfl rfl rfl rfl rfl rfl rfl ⟨rfl, rfl, rfl, rfl, rfl⟩ rfl rfl rfl rfl rfl jL Tryz.func3 Yk
  (of_decide_eq_true (by kernel_rfl)) (by unfold Func.isWrapper; first | (rw [if_pos (by decide +kernel)]; kernel_rfl) | (rw [if_neg (by decide +kernel)]; exact ⟨rfl, rfl⟩))
  (fun os started H enc _ => dS os started H enc)
theorem topEnds_card : Rows.TopEndsCardSaid :=
 Claim7.holds_tied_plain_at .later [] [.data, .listed, .data, .data, .data] true (true, "084000849214a101161e65de9c7f179377ede37fddcaead90d97fa68246170a5") true
  Yj (fun _ h => by cases h) (by kernel_rfl) (fun _ h => by cases h) bY rfl ⟨rfl, rfl⟩ (by kernel_rfl) rfl
  (fun f fn hf hfn => by
   obtain rfl : f = 3 := Option.some.inj (jL.symm.trans hf) |>.symm
   obtain rfl : fn = Tryz.f3 := (Option.some.inj (Tryz.func3.symm.trans hfn)).symm
   exact ⟨by kernel_rfl, fun j t ht => by
    rw [Tryz.params3] at ht
    have h3 : t = 25 \/ t = 27 := by
     rcases j with _ | j
     ·simp at ht; subst ht; decide
     rcases j with _ | j
     ·simp at ht; subst ht; decide
     ·simp at ht
    rcases h3 with rfl | rfl
    ·exact (show Tryz.prog.wantsStandIn 25 = false by kernel_rfl)
    ·exact (show Tryz.prog.wantsStandIn 27 = false by kernel_rfl)⟩)
  dT
#print axioms topEnds_card
end Go.Proofs.YtijakengkacnlaaGreatDoor
