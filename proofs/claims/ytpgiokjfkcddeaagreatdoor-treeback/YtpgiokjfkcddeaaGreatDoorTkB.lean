/- Parts of the proof: contracts of functions of the program, and plain lemmas. No condition. -/
import Derived.Test.YtpgiokjfkcddeaaGreatDoorTbT
import Derived.Test.YtpgiokjfkcddeaaGreatDoorRows
import Derived.Lib.LaidU8T
import Derived.MakeChecks
import Derived.Test.YtpgiokjfkcddeaaGreatDoorCards
import Derived.Test.YtpgiokjfkcddeaaGreatDoorTie
import Derived.Test.YtpgiokjfkcddeaaGreatDoorEng2
import Derived.ProofKit
import Derived.OpenShut
import Derived.LaidMore
import Derived.Lay
import Derived.SevenTiedAt
import Derived.Stop.Joined
import Derived.SizedLaws
set_option maxHeartbeats 64000000
set_option maxRecDepth 100000
namespace Go.Proofs.YtpgiokjfkcddeaaGreatDoor
open Go.Eng
section
open Go.Lib Go.Shelf
theorem V3 : (Rows.laid_unicode_utf8_acceptRanges : DataW Unit) = acceptData := by kernel_rfl
theorem QP : Rows.laid_unicode_utf8_first = firstData := by kernel_rfl
theorem UY : (Rows.laid_strings_asciiSpace : DataW Unit) = tabData .u8 asciiSpaceTab := by kernel_rfl
theorem pow_eq : (Rows.laid_internal_strconv_uint64pow10 : DataW Unit) = tabData .u64 pow10Tab := by kernel_rfl
theorem kk {P : Program} {W w : World} {n : String} {k : IntKind} {zs : List Int} (h : TabIs P W n k zs) (hl : Le (mp W.heap) (mp w.heap)) : TabIs P w n k zs := by
 unfold TabIs World.var? at *;cases hg : P.globalNamed n with
 | none => rw [hg] at h; cases h
 | some g =>
   rw [hg] at h;simp only [Option.bind_some] at h ⊢;cases ho : W.heap[g]? with
   | none => rw [ho] at h; cases h
   | some o => rw [ho] at h; rw [show w.heap[g]? = some o from hl g o ho]; exact h
theorem jQ {W w : World} {a : Addr} {v : Value} (h : W.cell? a = some v) (hl : Le (mp W.heap) (mp w.heap)) : w.cell? a = some v := by
 unfold World.cell? at *;cases ho : W.heap[a.block]? with
 | none => simp [ho] at h
 | some o => rw [ho] at h; rw [show w.heap[a.block]? = some o from hl _ o ho]; exact h
theorem Zg {W : World} (h : laidMetH Tryz.prog Rows.treeBackRow.laid W) : TabI (mp W.heap) ∧ Tabs (mp W.heap) := by
 rw [MakeChecks.laidMetH_plain _ _ _ (by kernel_rfl)] at h;have r0 := Lib.laidMet.reads h (.tail _ (.tail _ (.head _)));have r1 := Lib.laidMet.reads h (.tail _ (.tail _ (.tail _ (.head _))));have r3 := Lib.laidMet.reads h (.tail _ (.tail _ (.tail _ (.tail _ (.tail _ (.head _))))));have r4 := Lib.laidMet.reads h (.tail _ (.tail _ (.tail _ (.tail _ (.tail _ (.tail _ (.head _)))))));rw [pow_eq] at r0
 rw [V3] at r1;rw [UY] at r3;rw [QP] at r4;have hu := utf8Tabs_of_readsT (P := Tryz.prog) (ρ := Tryz.lays197_ren) ⟨Tryz.lays197.t5, Tryz.lays197.t119, Tryz.lays197.t138, Tryz.lays197.t139⟩ ⟨by kernel_rfl, by kernel_rfl, by kernel_rfl, by kernel_rfl, by kernel_rfl, by kernel_rfl, by kernel_rfl⟩ r4 r1
 have hs : TabIs Tryz.prog W "strings.asciiSpace" .u8 asciiSpaceTab := by
  obtain ⟨g, t, cs, fuel, p, hg, ht, hv, hd⟩ := r3;obtain rfl := Option.some.inj ((show Tryz.prog.globalNamed "strings.asciiSpace" = some 2 by kernel_rfl).symm.trans hg);obtain rfl := Option.some.inj ((show (Tryz.prog.globals[2]?).map (·.type) = some 148 by kernel_rfl).symm.trans ht);unfold TabIs;rw [hv, ← cells_of_tab Tryz.underlying148 Tryz.underlying5 (by kernel_rfl) (by kernel_rfl) hd]
 have hp : TabIs Tryz.prog W "internal/strconv.uint64pow10" .u64 pow10Tab := by
  obtain ⟨g, t, cs, fuel, p, hg, ht, hv, hd⟩ := r0;obtain rfl := Option.some.inj ((show Tryz.prog.globalNamed "internal/strconv.uint64pow10" = some 3 by kernel_rfl).symm.trans hg);obtain rfl := Option.some.inj ((show (Tryz.prog.globals[3]?).map (·.type) = some 176 by kernel_rfl).symm.trans ht);unfold TabIs
  rw [hv, ← cells_of_tab Tryz.underlying176 Tryz.underlying158 (by kernel_rfl) (by kernel_rfl) hd]
 exact ⟨fun w hl => kk hp hl, fun w hl => ⟨kk hs hl, fun c hc => jQ (hu.1 c hc) hl, fun i hi => ⟨jQ (hu.2 i hi).1 hl, jQ (hu.2 i hi).2 hl⟩⟩⟩
open Go.WideShapes Wd Tp Kd
theorem Yg {v : Value} {W : World} {t base : Nat} {fs : Array Field} (ht : Tryz.prog.underlying t = some (.struct fs)) (h : Value.okWide Tryz.prog W .any base t v) : ∃ cs : List Value, v = .agg cs.toArray := by
 obtain ⟨cs, rfl, _⟩ := okWide_struct ht h;exact ⟨cs.toList, by simp⟩
theorem Yc {H : Type} {enc : TypeId × Value → H} {base b0 fuel : Nat} {spare : Nat → Bool} {held : Bool} {base1 b1 fuel1 : Nat} {spare1 : Nat → Bool} {held1 : Bool} (W : World) (hT : TabI (mp W.heap) ∧ Tabs (mp W.heap)) {x0 : DataW H × List MemPlace} (v0 : Value) (o0 : Value.okWide Tryz.prog W .any b0 26 v0) (k0 : DataW.trod enc Tryz.prog W base spare held fuel 26 v0.cells.toList = some x0) (g0 : GoodR Tryz.prog W 26 x0) {x1 : DataW H × List MemPlace} (v1 : Value) (o1 : Value.okWide Tryz.prog W .any b1 9 v1) (k1 : DataW.trod enc Tryz.prog W base1 spare1 held1 fuel1 9 v1.cells.toList = some x1) (g1 : GoodR Tryz.prog W 9 x1) :
  C Tryz.prog 5 #[v0, v1] W.heap fun v h' => v = .bool true ∧ Le (mp W.heap) (mp h') := by
 obtain ⟨cs, rfl⟩ := Yg Tryz.underlying26 o0;obtain ⟨b, K, kc, F, fc, e, hC, hF, hs⟩ := Qh k0 g0;have e : cs = bk2 K b.cards.length kc F b.fmts.length fc := by simpa [Value.cells] using e
 subst e;obtain ⟨s, rfl⟩ := okWide_string Tryz.underlying9 o1;obtain ⟨fm, e1, hl⟩ := uT (by kernel_rfl) k1 g1;have e1' : s = bs fm := by simpa [Value.cells] using e1
 subst e1';exact (CS.toLe (law5 hT.1 hT.2 hC hF hs hl)).mono fun _ _ ⟨⟨_, e, _⟩, hl⟩ => ⟨e, hl⟩
end
section
open Go.ChangeShapes Go.WideShapes Go.ChangeAt Go.RowKit
open Go.ChangeMaps (open_string shut_string)
theorem Zd : ownKnob Tryz.prog.godebug = none := by kernel_rfl
theorem wx : laidOutB Tryz.prog = true := by kernel_rfl
theorem ji (os : Os) (started : os.Started) (H : Type) (enc : TypeId × Value → H) :
  ReturnsInHanded {} Tryz.checked os 5 .any (fun w args => (Rows.treeBackSpec.pre enc Tryz.prog Tryz.f5 [] false w args ∧ laidMetH Tryz.prog Rows.treeBackRow.laid w) ∧ sizedMet enc Tryz.prog Tryz.f5 (OpenSpec.ofChange Rows.treeBackSpec) false w args)
   (Rows.treeBackSpec.post enc Tryz.prog Tryz.f5 false true false false) := by
 refine returnsInHanded_of_change_and (C := Tryz.checked) (X := fun w _ => laidMetH Tryz.prog Rows.treeBackRow.laid w) (fun _ _ _ hh h => h.of_heap hh) Zd started (by kernel_rfl) Tryz.func5
  (ChangeSpec.witness_shaped (enc := enc) (C := Tryz.checked) (os := os) (X := fun w _ => laidMetH Tryz.prog Rows.treeBackRow.laid w) false (World.laidAll Tryz.prog os Rows.treeBackRow.laid) #[.agg #[.slice none 0 0, .slice none 0 0], .string ByteArray.empty] 8 (World.laidAll_os _ _ _)
   (World.shaped_of_ZipB (by kernel_rfl) (by kernel_rfl)) (by kernel_rfl) (by kernel_rfl) (by kernel_rfl)
   (by rw [MakeChecks.laidMetH_plain _ _ _ (by kernel_rfl)]; exact laidMet_laidAll _ (by kernel_rfl) (by kernel_rfl))) ?_
 intro W base args ds gs before hval0 hW _ hsz0 hL _;have hsz : (DataW.weightsEach Tryz.prog (Tryz.f5.params.toList ++ Rows.treeBackSpec.plain.varTypes Tryz.prog) (ds ++ gs)).all (· ≤ reachBytes) = true := hsz0;clear hsz0;have hval : ∀ (j : Nat) t v, Tryz.f5.params[j]? = some t → args[j]? = some v → Value.okWide Tryz.prog W .any base t v := hval0;have hW' := hW
 obtain ⟨p, q, hA0, hV, rfl, hfz, hnd⟩ := hW;have hA : DataW.TrodAll enc Tryz.prog W 0 (fun _ => true) true Tryz.f5.params.toList args.toList ds p := hA0;rw [Tryz.params5] at hA hval hsz;obtain ⟨v0, vs0, d0, ds0, p0, q0, hargs, rfl, rfl, h0, r0⟩ := trodAll_cons hA;obtain ⟨v1, vs1, d1, ds1, p1, q1, rfl, rfl, rfl, h1, r1⟩ := trodAll_cons r0;obtain ⟨rfl, rfl, rfl⟩ := trodAll_nil r1
 obtain rfl : args = #[v0, v1] := by cases args; simp_all
 obtain ⟨rfl, rfl⟩ := trodVars_none hV;have k0 := h0;have lt0 : ∀ x ∈ p0, x.block < W.heap.size := by obtain ⟨m, hm⟩ := k0; exact DataW.trod_lt m _ _ _ hm
 obtain ⟨fu0, hf0⟩ := h0;have g0 : GoodR Tryz.prog W 26 (d0, p0) := ⟨fun b o hm => hfz b o (by simp [hm]), fun k hk => of_decide_eq_true (List.all_eq_true.1 hsz k (DataW.weights_mem_each (j := 0) (t := 26) rfl rfl k hk))⟩;have k1 := h1;have lt1 : ∀ x ∈ p1, x.block < W.heap.size := by obtain ⟨m, hm⟩ := k1; exact DataW.trod_lt m _ _ _ hm
 obtain ⟨fu1, hf1⟩ := h1;have g1 : GoodR Tryz.prog W 9 (d1, p1) := ⟨fun b o hm => hfz b o (by simp [hm]), fun k hk => of_decide_eq_true (List.all_eq_true.1 hsz k (DataW.weights_mem_each (j := 1) (t := 9) rfl rfl k hk))⟩;clear hA0 hval0;refine (Qk (Yc W (Zg hL) v0 (hval 0 26 v0 rfl rfl) hf0 g0 v1 (hval 1 9 v1 rfl rfl) hf1 g1)).mono fun e W' ⟨he, bel⟩ => ?_;subst he
 exact ⟨_, rfl, _, _, _, [], _, [], hW', trodAll_mk1 (shut_bool Tryz.underlying4 _), (trodAll_cons_mk (Below.trod wx (by kernel_rfl) (of_decide_eq_true (by kernel_rfl)) k0 bel lt0) (trodAll_cons_mk (Below.trod wx (by kernel_rfl) (of_decide_eq_true (by kernel_rfl)) k1 bel lt1) trodAll_mk0)), rfl, bel.frame _, fun h => by cases h⟩
theorem jy : Rows.TreeBackSaid :=
 OpenClaim.holds_of_wide 5 Tryz.f5 rfl rfl rfl rfl rfl rfl rfl ⟨rfl, rfl, rfl, rfl, rfl⟩ rfl rfl rfl rfl rfl (by kernel_rfl) Tryz.func5 (by kernel_rfl)
  (of_decide_eq_true (by kernel_rfl)) (by unfold Func.isWrapper; first | (rw [if_pos (by decide +kernel)]; kernel_rfl) | (rw [if_neg (by decide +kernel)]; exact ⟨rfl, rfl⟩))
  (fun os started H enc _ => ji os started H enc)
theorem treeBack_card : Rows.TreeBackCardSaid :=
 Claim7.holds_tied_plain_at .later [] [.data, .data, .data, .data, .listed, .data, .pinned] true (true, "ac0d35c5b2af05093172e8dd32a67d05449e0bd1ba6305de010b3a77ebe17cd0") true
  jy (fun _ h => by cases h) (by kernel_rfl) (fun _ h => by cases h) treeBack_row_tie rfl ⟨rfl, rfl⟩ (by kernel_rfl) rfl
  (fun f fn hf hfn => by
   obtain rfl : f = 5 := Option.some.inj ((show Tryz.prog.funcNamed Rows.treeBackRow.func = some 5 by kernel_rfl).symm.trans hf) |>.symm
   obtain rfl : fn = Tryz.f5 := (Option.some.inj (Tryz.func5.symm.trans hfn)).symm
   exact ⟨by kernel_rfl, fun j t ht => by
    rw [Tryz.params5] at ht
    have h3 : t = 26 ∨ t = 9 := by
     rcases j with _ | j
     ·simp at ht; subst ht; decide
     rcases j with _ | j
     ·simp at ht; subst ht; decide
     ·simp at ht
    rcases h3 with rfl | rfl
    ·exact (show Tryz.prog.wantsStandIn 26 = false by kernel_rfl)
    ·exact (show Tryz.prog.wantsStandIn 9 = false by kernel_rfl)⟩)
  (by kernel_rfl)
#print axioms treeBack_card
end
end Go.Proofs.YtpgiokjfkcddeaaGreatDoor
