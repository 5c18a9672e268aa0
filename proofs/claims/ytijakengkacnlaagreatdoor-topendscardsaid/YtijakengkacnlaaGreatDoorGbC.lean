/- What the row's listed tables give: the table of spaces at its variable; a contract lifted beside the memory's outer form. No condition. -/
import Derived.Test.YtijakengkacnlaaGreatDoorGbB
import Derived.Test.YtijakengkacnlaaGreatDoorRows
import Derived.Lib.LaidU8T
import Derived.MakeChecks
import Derived.Handed
set_option linter.all false
namespace Go.Proofs.YtijakengkacnlaaGreatDoor
open Go.Eng Go.Lib
set_option maxRecDepth 100000
theorem LT : (Rows.laid_strings_asciiSpace : DataW Unit) = tabData .u8 asciiSpaceTab := by kernel_rfl
theorem HK : ((((begin Tryz.prog (fun _ _ => 0) default).world.heap[0]?).bind Obj.row?).map (·.2)) = some 640 := by kernel_rfl
theorem J0 : Nat.blt 0 Tryz.prog.globals.size = true := by kernel_rfl
theorem eW {W : World} (h : laidMetH Tryz.prog Rows.topEndsRow.laid W) (hS : W.ShapedOpen Tryz.prog) : fR (mp W.heap) /\ mp W.heap 0 = some (.cells ⟨Go.Ev.tabV⟩ 640 (0, 0)) := by
 rw [MakeChecks.laidMetH_plain _ _ _ (by kernel_rfl)] at h;have r3 := Lib.laidMet.reads h (.head _);rw [LT] at r3
 have hs : TabIs Tryz.prog W "strings.asciiSpace" .u8 asciiSpaceTab := by
  obtain ⟨g, t, cs, fuel, p, hg, ht, hv, hd⟩ := r3;obtain rfl := Option.some.inj ((show Tryz.prog.globalNamed "strings.asciiSpace" = some 0 by kernel_rfl).symm.trans hg);obtain rfl := Option.some.inj ((show (Tryz.prog.globals[0]?).map (·.type) = some 640 by kernel_rfl).symm.trans ht);unfold TabIs;rw [hv, <- cells_of_tab Tryz.underlying640 Tryz.underlying5 (by kernel_rfl) (by kernel_rfl) hd]
 obtain ⟨cs, hcs⟩ : ∃ cs, W.heap[0]? = some (.cells cs 640) := by
  have hb := HK;cases hr : ((begin Tryz.prog (fun _ _ => 0) default).world.heap[0]?).bind Obj.row? with
  | none => rw [hr] at hb; cases hb
  | some x =>
    rw [hr] at hb;obtain ⟨z, t⟩ := x;cases hb;obtain ⟨cs, h1, -⟩ := hS.1 0 z 640 (by have := J0; simpa using this) hr;exact ⟨cs, h1⟩
 have hv := hs;unfold TabIs World.var? at hv;rw [show Tryz.prog.globalNamed "strings.asciiSpace" = some 0 by kernel_rfl] at hv;simp only [Option.bind_some, hcs, Option.some.injEq] at hv;refine ⟨fun w hl => ?_, ?_⟩
 ·unfold TabIs World.var?;rw [show Tryz.prog.globalNamed "strings.asciiSpace" = some 0 by kernel_rfl];simp only [Option.bind_some];rw [show w.heap[0]? = some (.cells cs 640) from hl 0 _ hcs];exact congrArg some hv
 ·show W.heap[0]? = _;rw [hcs, hv]
section
variable {H : Type} {enc : TypeId × Value -> H}
theorem Yt {a : Assume} {C : Checked} {os : Os} {f : FuncId} {fn : Func} {s : ChangeSpec} {conds : List PathCond} {apart fresh handsOn again : Bool} {X : World -> Array Value -> Prop}
  (hX : ∀ (w w' : World) (args : Array Value), w.heap = w'.heap -> X w args -> X w' args)
  (own : ownKnob C.prog.godebug = none) (started : os.Started) (noInit : C.prog.inits.idxOf? f = none) (hfn : C.prog.funcs[f]? = some fn)
  (witness : ∃ (w : World) (tape : Tape) (i : Input), w.os = os /\ (w.forCall tape i).Shaped C.prog /\ i.vars = [] /\ Input.okWide C.prog (w.forCall tape i) .any w.heap.size f i /\
   ((s.pre enc C.prog fn conds apart (w.forCall tape i).memory i.args /\ X (w.forCall tape i).memory i.args) /\ sizedMet enc C.prog fn (OpenSpec.ofChange s) apart (w.forCall tape i).memory i.args) /\ a.holds C.prog (lone (Frame.enter C.prog f i.args .normal) [] (w.forCall tape i)))
  (contract : ∀ (W : World) (base : Nat) (args : Array Value) (ds gs : List (DataW H)) (before : List MemPlace), W.ShapedOpen C.prog ->
   (∀ (j : Nat) t v, fn.params[j]? = some t -> args[j]? = some v -> Value.okWide C.prog W .any base t v) ->
   DataW.Whole enc C.prog fn.params.toList s.vars apart W args.toList ds gs before ->
   (DataW.weightsEach C.prog (fn.params.toList ++ s.plain.varTypes C.prog) (ds ++ gs)).all (· <= reachBytes) = true -> X W args ->
   Calls C.prog f args W fun e W' => ∃ v, e = .returned v /\ s.post enc C.prog fn apart fresh handsOn again W args v W') :
  ReturnsInHanded a C os f .any (fun w args => (s.pre enc C.prog fn conds apart w args /\ X w args) /\ sizedMet enc C.prog fn (OpenSpec.ofChange s) apart w args) (s.post enc C.prog fn apart fresh handsOn again) := by
 refine returnsInHanded_of_calls own started noInit witness fun w tape i _ hS _ hok hpre _ => ?_;obtain ⟨_, _, _, fn', hfn', _, _, _, _, hval⟩ := hok;cases Option.some.inj (hfn'.symm.trans hfn);obtain ⟨⟨⟨ds, gs, before, hw, -⟩, hx⟩, hz⟩ := hpre
 refine (contract (w.forCall tape i) w.heap.size i.args ds gs before hS hval (DataW.Whole.of_heap (w' := w.forCall tape i) (by rfl) hw) (hz.weights hw) (hX _ _ _ (by rfl) hx)).mono fun e W' ⟨v, he, hp⟩ => ?_;subst he;exact ChangeSpec.post_blind hp
end
end Go.Proofs.YtijakengkacnlaaGreatDoor
