/- The contracts of the second level: the box. No condition. -/
import Derived.Test.YtijakengkacnlaaGreatDoorTfA
set_option linter.all false
set_option maxRecDepth 1000000
noncomputable section
namespace Go.Ev
open Go.Eng Go.Proofs Go.Proofs.YtijakengkacnlaaGreatDoor
def HJ : List Nat := [99, 124, 119, 123, 242, 107, 111, 197, 48, 1, 103, 43, 254, 215, 171, 118, 202, 130, 201, 125, 250, 89, 71, 240, 173, 212, 162, 175, 156, 164, 114, 192, 183, 253, 147, 38, 54, 63, 247, 204, 52, 165, 229, 241, 113, 216, 49, 21, 4, 199, 35, 195, 24, 150, 5, 154, 7, 18, 128, 226, 235, 39, 178, 117, 9, 131, 44, 26, 27, 110, 90, 160, 82, 59, 214, 179, 41, 227, 47, 132, 83, 209, 0, 237, 32, 252, 177, 91, 106, 203, 190, 57, 74, 76, 88, 207, 208, 239, 170, 251, 67, 77, 51, 133, 69, 249, 2, 127, 80, 60, 159, 168, 81, 163, 64, 143, 146, 157, 56, 245, 188, 182, 218, 33, 16, 255, 243, 210, 205, 12, 19, 236, 95, 151, 68, 23, 196, 167, 126, 61, 100, 93, 25, 115, 96, 129, 79, 220, 34, 42, 144, 136, 70, 238, 184, 20, 222, 94, 11, 219, 224, 50, 58, 10, 73, 6, 36, 92, 194, 211, 172, 98, 145, 149, 228, 121, 231, 200, 55, 109, 141, 213, 78, 169, 108, 86, 244, 234, 101, 122, 174, 8, 186, 120, 37, 46, 28, 166, 180, 198, 232, 221, 116, 31, 75, 189, 139, 138, 112, 62, 181, 102, 72, 3, 246, 14, 97, 53, 87, 185, 134, 193, 29, 158, 225, 248, 152, 17, 105, 217, 142, 148, 155, 30, 135, 233, 206, 85, 40, 223, 140, 161, 137, 13, 191, 230, 66, 104, 65, 153, 45, 15, 176, 84, 187, 22]
def JW (n : Nat) (l : List Nat) : Rs := List.rec (motive := fun _ => Nat -> Rs) (fun _ => done) (fun b _ r n => qA tP xA tD 5000 435 [.int .u8 (.ofNat n)] ⟨dc 14, 6⟩ fun v _ => Gj (.int .u8 (.ofNat b)) v (r (Nat.succ n))) l n
theorem box0 : JW 0 ((HJ.drop 0).take 64) = done := by kernel_rfl
theorem box1 : JW 64 ((HJ.drop 64).take 64) = done := by kernel_rfl
theorem box2 : JW 128 ((HJ.drop 128).take 64) = done := by kernel_rfl
theorem box3 : JW 192 ((HJ.drop 192).take 64) = done := by kernel_rfl
theorem I8 {P : Program} {g : Nat} {vs0 : Lv} {v : Value} {s1 : St} (hc : wv P ⟨dc 14, 6⟩ g vs0 v s1) (hv0 : aQ vs0 = true) (hv : pf v = true) (s : St) : wv P s g vs0 v s := fun {x B I w} M us hus => by
 obtain ⟨B2, b1, b2, b3, b4, M2⟩ := To (t0 := dc 14) (ins := []) M (fun i o h => by rw [qS] at h; cases h) (fun i o h => by cases h) (fun i o h => by cases h) (fun i o h => by cases h);have hus' := hus.pure hv0;subst hus';refine (hc M2 us (eC _ hv0)).mono ?_;rintro e w' ⟨u, J, rfl, g1, g2, g3⟩
 refine ⟨u, I, rfl, wm.refl I s, by rw [g2.pure hv]; exact KC I hv, M.gl, g3.wd, ⟨fun i o y k1 k2 => ?_, M.hp.sep, M.hp.new, M.hp.out, fun b ob hb => g3.hp.base b ob (b2 b ob hb), M.hp.fre⟩⟩;rcases b3 i o y k1 k2 with ⟨o', ho'⟩ | hk
 ·cases ho'
 ·have hok := M.hp.obj i o y k1 k2;obtain ⟨ob, hob⟩ := hok.has k2;refine hok.frame k2 ?_;rw [hob];exact g3.hp.base y.1 ob (by rw [hk]; exact hob)
theorem GA : ∀ {l : List Nat} {n i b : Nat}, JW n l = done -> l[i]? = some b -> ∀ s, wv tP s 435 [.int .u8 (.ofNat (n + i))] (.int .u8 (.ofNat b)) s
 | [], _, _, _, _, h => by cases h
 | c :: l, n, i, b, hr, h => by
   have hdn : done ≠ .no := nofun;obtain ⟨-, v', s1, h3, h4⟩ := gS Vx Yo Yn kp (show qA tP xA tD 5000 435 [.int .u8 (.ofNat n)] ⟨dc 14, 6⟩ (fun v _ => Gj (.int .u8 (.ofNat c)) v (JW (n + 1) l)) = done from hr) hdn;obtain ⟨rfl, h5⟩ := qI hdn _ h3;cases i with
   | zero => cases h; exact I8 h4 rfl rfl
   | succ i =>
     intro s;have h6 : wv tP s 435 [.int .u8 (.ofNat (n + 1 + i))] (.int .u8 (.ofNat b)) s := GA h5 h s;rwa [show n + 1 + i = n + (i + 1) by omega] at h6
def Dj (vs : Lv) (s : St) (k : KS) : Rs := match vs with
 | [.int .u8 (.ofNat n)] => oB (vZ HJ n) fun b => k (.int .u8 (.ofNat b)) s
 | _ => .no
theorem Sm : yZ tP 435 Dj := ⟨BY, fun {vs s k r} h hr => by
 unfold Dj at h
 split at h
 case h_2 => exact absurd h.symm hr
 rename_i n
 obtain ⟨b, h1, h2⟩ := zt h hr;rw [wC] at h1;refine ⟨_, s, h2, ?_⟩
 have at_ : ∀ j, JW (64 * j) ((HJ.drop (64 * j)).take 64) = done -> 64 * j <= n -> n < 64 * j + 64 -> wv tP s 435 [.int .u8 (.ofNat n)] (.int .u8 (.ofNat b)) s := fun j hj k1 k2 => by
  have h3 : wv tP s 435 [.int .u8 (.ofNat (64 * j + (n - 64 * j)))] (.int .u8 (.ofNat b)) s := GA hj (by rw [List.getElem?_take, if_pos (by omega), List.getElem?_drop, show 64 * j + (n - 64 * j) = n by omega]; exact h1) s;rwa [show 64 * j + (n - 64 * j) = n by omega] at h3
 have hlt : n < 256 := (List.getElem?_eq_some_iff.1 h1).1;rcases Nat.lt_or_ge n 64 with k1 | k1
 ·exact @at_ 0 box0 (by omega) (by omega)
 rcases Nat.lt_or_ge n 128 with k2 | k2
 ·exact @at_ 1 box1 (by omega) (by omega)
 rcases Nat.lt_or_ge n 192 with k3 | k3
 ·exact @at_ 2 box2 (by omega) (by omega)
 ·exact @at_ 3 box3 (by omega) (by omega)⟩
end Go.Ev
end
