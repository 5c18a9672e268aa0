/- lives() as a contract of the engine: it gives true and leaves all as it was. Condition: the table of spaces lies at its variable. -/
import Derived.Test.YtijakengkacnlaaGreatDoorTfL
import Derived.Lib.Space
set_option linter.all false
set_option maxRecDepth 1000000
namespace Go.Ev
open Go.Eng Go.Proofs Go.Proofs.YtijakengkacnlaaGreatDoor
abbrev tabV : Lv := Go.Lib.asciiSpaceTab.map fun z => .int .u8 z
theorem FB : OR = [(0, .cel tabV 640)] := by kernel_rfl
theorem KO : aQ tabV = true := by kernel_rfl
theorem M3 : E0 [] (.bool true) OR [] ⟨.nd .lf (some (.cel tabV 640)) .lf, 6⟩ (Qc (.bool true) OR []) = done := by kernel_rfl
theorem lives5 {m : Mp} (h0 : m 0 = some (.cells ⟨tabV⟩ 640 (0, 0))) : CS Tryz.prog 5 [] m [] (fun v L' => v = .bool true /\ L' = []) := by
 intro h hs x d;have hdn : done ≠ .no := nofun;obtain ⟨v, s', hk, hC⟩ := MZ.2 M3 hdn;obtain ⟨hv, h5⟩ := qI hdn (.bool true) (show Gj (.bool true) v (Ni s'.h OR (Jh s'.h [] done)) = done from hk);subst hv;obtain ⟨-, h7⟩ := jC hdn h5;have hm : mp h 0 = some (.cells ⟨tabV⟩ 640 (0, 0)) := hs.base 0 _ h0
 have g0 : ∀ i o, get (Tr.nd .lf (some (AO.cel tabV 640)) .lf) i = some o -> i = 0 /\ o = .cel tabV 640 := fun i o hi => by
  cases i with
  | zero => cases hi; exact ⟨rfl, rfl⟩
  | succ i =>
    rw [xV] at hi
    split at hi <;> cases hi
 have M : Ms Tryz.prog x (fun k => if k = 0 then none else mp h k) (fun g => if g < 6 then some (g, 0, none) else none) ⟨.nd .lf (some (.cel tabV 640)) .lf, 6⟩ (W x h d) := by
  refine ⟨fun g hg => if_pos hg, rfl, ⟨fun i o y k1 k2 => ?_, fun i j o o' y z k1 k2 _ _ _ => ((g0 i o k1).1).trans (g0 j o' k2).1.symm, fun i hi => if_neg (Nat.not_lt_of_le hi), fun i o y k1 k2 => ?_, fun b ob hb => ?_, fun i hi => ?_⟩⟩
  ·obtain ⟨rfl, rfl⟩ := g0 i o k1;exact ⟨0, tabV, (0, 0), rfl, hm, eC _ KO, .inl rfl, fun _ => rfl⟩
  ·obtain ⟨rfl, rfl⟩ := g0 i o k1;cases k2;exact if_pos rfl
  ·replace hb : (if b = 0 then none else mp h b) = some ob := hb
   split at hb
   ·cases hb
   ·exact hb
  ·cases hg : get (Tr.nd .lf (some (AO.cel tabV 640)) .lf) i with
   | none => rfl
   | some o =>
     have := (g0 i o hg).1;have hi' : 6 <= i := hi;omega
 refine (hC M [] .nil).mono ?_;rintro e w' ⟨u, J, rfl, g1, g2, g3⟩;cases g2;refine ⟨_, w'.heap, w'.drawn, rfl, g3.wd, [], ⟨rfl, rfl⟩, HS.nil fun k o hk => ?_⟩;by_cases k0 : k = 0
 ·subst k0;obtain ⟨g, us, fz, a1, a2, a3, a4, a5⟩ := g3.hp.obj 0 (.cel tabV 640) (0, 0, none) (h7 0 _ (by rw [FB]; exact .head _)) (g3.gl 0 (by decide));rw [g3.gl 0 (by decide)] at a1;cases a1;rw [h0] at hk;cases hk;rw [a2, a3.pure KO, a5 (by decide)]
 ·exact g3.hp.base k o (by
   show (if k = 0 then none else mp h k) = some o
   rw [if_neg k0]; exact hs.base k o hk)
end Go.Ev
