/- Parts of the proof: contracts of functions of the program, and plain lemmas. No condition. -/
import Derived.Test.YtpgiokjfkcddeaaGreatDoorTxP
import Derived.KernelRfl
set_option maxHeartbeats 64000000
set_option maxRecDepth 100000
namespace Go.Proofs.YtpgiokjfkcddeaaGreatDoor
open Go.Eng
section
open Wd Tp Kd
variable {m : Mp}
def SameV (q : Prop) : Value → List Ent → Prop := fun v L' => ((v = .bool true ∧ q) ∨ (v = .bool false ∧ ¬ q)) ∧ L' = []
theorem same103 {xs : List Value} {x : NumT} (hx : NumR m xs x) : ∀ {ys : List Value} {y : NumT}, NumR m ys y → ∀ m0, Le m m0 → CS Tryz.prog 103 [.agg xs.toArray, .agg ys.toArray] m0 [] (SameV (x = y)) := by
 induction hx with
 | @mk op n who kids A len c vs ho hln hmx hr hv hkk ih =>
 subst hln;intro ys y hy;cases hy with
 | @mk op' n' who' kids' A' len' c' us ho' hln' hmx' hr' hv' hkk' =>
 subst hln';intro m0 hm0;have hmx : kids.length ≤ 9223372036854775807 := hmx;have hmx' : kids'.length ≤ 9223372036854775807 := hmx';skip;refine zp [.tmp 4] Tryz.func103 rfl rfl rfl ?_;refine tr 2 ?_;refine Bx 0 rfl fun b1 => ?_;refine Bx 5 rfl fun b2 => ?_;refine zO .here (fun ns hi _ hd1 => ?_);refine zO .here (fun ns2 hi2 _ hd2 => ?_)
 have hR2 : Rd (uni (uni m0 ns) ns2) (some ⟨b2, 0, none⟩) (n4 op' n' who' A' kids'.length c') := ((Rd.blk hi).mono (zb hd1)).mono (zW _ _);have hR1 : Rd (uni (uni m0 ns) ns2) (some ⟨b1, 0, none⟩) (n4 op n who A kids.length c) := (Rd.blk hi2).mono (zb hd2);have hl2 : Le m0 (uni (uni m0 ns) ns2) := (zW _ _).trans (zW _ _);clear hi hd1 hi2 hd2
 generalize uni (uni m0 ns) ns2 = m9 at hR1 hR2 hl2;have hl9 := hm0.trans hl2;have ha0 : mc m9 ⟨b1, 0, none⟩ = some (.int .i8 op) := hR1.at_ (i := 0) rfl;have ha1 : mc m9 ⟨b1, 1, none⟩ = some (.int .i64 n) := hR1.at_ (i := 1) rfl;have ha2 : mc m9 ⟨b1, 2, none⟩ = some (.int .i8 who) := hR1.at_ (i := 2) rfl;have ha3 : mc m9 ⟨b1, 3, none⟩ = some (.slice A kids.length c) := hR1.at_ (i := 3) rfl
 have hb0 : mc m9 ⟨b2, 0, none⟩ = some (.int .i8 op') := hR2.at_ (i := 0) rfl;have hb1 : mc m9 ⟨b2, 1, none⟩ = some (.int .i64 n') := hR2.at_ (i := 1) rfl;have hb2 : mc m9 ⟨b2, 2, none⟩ = some (.int .i8 who') := hR2.at_ (i := 2) rfl;have hb3 : mc m9 ⟨b2, 3, none⟩ = some (Value.slice A' kids'.length c') := hR2.at_ (i := 3) rfl;by_cases g0 : op = op'
 rotate_left
 ·refine tr 2 ?_;refine Lo 1 sg42 rfl ha0 ?_;refine Lo 0 sg42 rfl hb0 ?_;refine cta 33 ?_;exact rt2 hl2 ⟨rfl, trivial⟩ ⟨.inr ⟨rfl, fun h => g0 (by cases h; rfl)⟩, rfl⟩
 by_cases g1 : n = n'
 rotate_left
 ·refine tr 2 ?_;refine Lo 1 sg42 rfl ha0 ?_;refine Lo 0 sg42 rfl hb0 ?_;refine cfo 2 ?_;refine Lo 1 sg3 rfl ha1 ?_;refine Lo 0 sg3 rfl hb1 ?_;refine cta 27 ?_;exact rt2 hl2 ⟨rfl, trivial⟩ ⟨.inr ⟨rfl, fun h => g1 (by cases h; rfl)⟩, rfl⟩
 by_cases g2 : who = who'
 rotate_left
 ·refine tr 2 ?_;refine Lo 1 sg42 rfl ha0 ?_;refine Lo 0 sg42 rfl hb0 ?_;refine cfo 2 ?_;refine Lo 1 sg3 rfl ha1 ?_;refine Lo 0 sg3 rfl hb1 ?_;refine cfo 3 ?_;refine Lo 1 sg42 rfl ha2 ?_;refine Lo 0 sg42 rfl hb2 ?_;refine cta 20 ?_;exact rt2 hl2 ⟨rfl, trivial⟩ ⟨.inr ⟨rfl, fun h => g2 (by cases h; rfl)⟩, rfl⟩
 by_cases g3 : kids.length = kids'.length
 rotate_left
 ·refine tr 2 ?_;refine Lo 1 sg42 rfl ha0 ?_;refine Lo 0 sg42 rfl hb0 ?_;refine cfo 2 ?_;refine Lo 1 sg3 rfl ha1 ?_;refine Lo 0 sg3 rfl hb1 ?_;refine cfo 3 ?_;refine Lo 1 sg42 rfl ha2 ?_;refine Lo 0 sg42 rfl hb2 ?_;refine cfo 3 ?_;refine Lo 2 sg43 rfl ha3 ?_;refine Lo 1 sg43 rfl hb3 ?_;refine cto 11 ?_;exact rt2 hl2 ⟨rfl, trivial⟩ ⟨.inr ⟨rfl, fun h => g3 (by cases h; rfl)⟩, rfl⟩
 refine tr 2 ?_;refine Lo 1 sg42 rfl ha0 ?_;refine Lo 0 sg42 rfl hb0 ?_;refine cfo 2 ?_;refine Lo 1 sg3 rfl ha1 ?_;refine Lo 0 sg3 rfl hb1 ?_;refine cfo 3 ?_;refine Lo 1 sg42 rfl ha2 ?_;refine Lo 0 sg42 rfl hb2 ?_;refine cfo 3 ?_;refine Lo 2 sg43 rfl ha3 ?_;refine Lo 1 sg43 rfl hb3 ?_;refine cfo 13 ?_
 refine zc (α := Nat) (fun i => [(2, ptr b1), (3, ptr b2), (5, .int .i64 (i : Nat))]) (fun _ => []) (fun i => i ≤ kids.length ∧ ∀ (j : Nat) (h : j < kids.length) (h' : j < kids'.length), j < i → kids[j] = kids'[j]) (fun i => kids.length - i) 0 ⟨rfl, rfl, rfl, trivial⟩ (Pick.nil _) ⟨Nat.zero_le _, fun _ _ _ h => by cases h⟩ ?_;rintro i ⟨hi, hall⟩;by_cases hlt : i < kids.length
 ·have hlt2 : i < kids'.length := by omega
  have hA : A.isSome = true := hr.isSome (by omega);have hA2 : A'.isSome = true := hr'.isSome (by omega);have hat := (hr.elem (i * 4) 4).mono hl9;have hat2 := (hr'.elem (i * 4) 4).mono hl9;have hcall := fun m1 (hm1 : Le m9 m1) => ih i hlt (hkk' i hlt2) m1 (hl9.trans hm1);have hl41 : ((vs.drop (i * 4)).take 4).length = 4 := (hkk i hlt).len
  have hl42 : ((us.drop (i * 4)).take 4).length = 4 := (hkk' i hlt2).len;generalize (vs.drop (i * 4)).take 4 = xs1 at hat hl41 hcall;generalize (us.drop (i * 4)).take 4 = ys1 at hat2 hl42 hcall;refine tr 5 ?_;refine Lo 1 sg43 rfl ha3 ?_;refine cto 8 ?_;refine Db (sq [0, 1, 2, 3, 4, 5, 6, 7, 8, 9, 110, 11] .done) ?_;refine vB 1 ?_;refine Vr 1 rfl (zI sg43 rfl ha3) ?_
  refine Vb 0 rfl (zE ez43 rfl rfl hA (by omega)) ?_;refine Vr 1 rfl ((zQ ag45 rfl hl41 hat)) ?_;refine Vr 1 rfl (zI sg43 rfl hb3) ?_;refine Vb 0 rfl (zE ez43 rfl rfl hA2 (by omega)) ?_;refine Vr 0 rfl ((zQ ag45 rfl hl42 hat2)) ?_;skip;refine zA rfl ((zw cl103 rfl (fun m' hm he => hcall m' hm) rfl ?_)) rfl;rintro _ _ ⟨⟨rfl, hq⟩ | ⟨rfl, hq⟩, rfl⟩
  ·refine vB 1 ?_;refine Vn 7 ?_;refine Pa 2 ?_
   exact QR (i + 1) (Pick.nil _) ⟨hlt, fun j h h' hj => by
    by_cases hji : j < i
    ·exact hall j h h' hji
    ·obtain rfl : j = i := by omega
     exact hq⟩ (by omega)
  ·refine vB 1 ?_;refine Vn 10 ?_;refine zL ?_;refine zJ ?_;refine zR ?_;exact rt2 hl2 ⟨rfl, trivial⟩ ⟨.inr ⟨rfl, fun h => hq (by cases h; rfl)⟩, rfl⟩
 ·have hi2 : i = kids.length := by omega
  subst hi2;have hkk2 : kids = kids' := List.ext_getElem g3 fun j h h' => hall j h h' h;refine tr 5 ?_;refine Lo 1 sg43 rfl ha3 ?_;refine cfo 5 ?_;refine zD ?_;refine zB ?_;refine qt 7 ?_;exact rt2 hl2 ⟨rfl, trivial⟩ ⟨.inl ⟨rfl, by rw [g0, g1, g2, hkk2]⟩, rfl⟩
end
section
open Wd Tp Kd
variable {m : Mp}
theorem same104 {xs : List Value} {x : CondT} (hx : CondR m xs x) : ∀ {ys : List Value} {y : CondT}, CondR m ys y → ∀ m0, Le m m0 → CS Tryz.prog 104 [.agg xs.toArray, .agg ys.toArray] m0 [] (SameV (x = y)) := by
 induction hx with
 | @mk op who name nums kids A B la ca lb cb vs ws ho hw hn hla hma hra hva hka hlb hmb hrb hvb hkb ih =>
 subst hla hlb;intro ys y hy;cases hy with
 | @mk op' who' name' nums' kids' A' B' la' ca' lb' cb' vs' ws' ho' hw' hn' hla' hma' hra' hva' hka' hlb' hmb' hrb' hvb' hkb' =>
 subst hla' hlb';intro m0 hm0;have hma : nums.length ≤ 9223372036854775807 := hma;have hma' : nums'.length ≤ 9223372036854775807 := hma';have hmb : kids.length ≤ 9223372036854775807 := hmb;have hmb' : kids'.length ≤ 9223372036854775807 := hmb';skip;refine zp [.tmp 4] Tryz.func104 rfl rfl rfl ?_;refine tr 2 ?_;refine Bx 0 rfl fun b1 => ?_;refine Bx 5 rfl fun b2 => ?_
 refine zO .here (fun ns hi _ hd1 => ?_);refine zO .here (fun ns2 hi2 _ hd2 => ?_);have hR2 : Rd (uni (uni m0 ns) ns2) (some ⟨b2, 0, none⟩) (c5 op' who' name' A' nums'.length ca' B' kids'.length cb') := ((Rd.blk hi).mono (zb hd1)).mono (zW _ _)
 have hR1 : Rd (uni (uni m0 ns) ns2) (some ⟨b1, 0, none⟩) (c5 op who name A nums.length ca B kids.length cb) := (Rd.blk hi2).mono (zb hd2);have hl2 : Le m0 (uni (uni m0 ns) ns2) := (zW _ _).trans (zW _ _);clear hi hd1 hi2 hd2;generalize uni (uni m0 ns) ns2 = m9 at hR1 hR2 hl2;have hl9 := hm0.trans hl2;have ha0 : mc m9 ⟨b1, 0, none⟩ = some (.int .i8 op) := hR1.at_ (i := 0) rfl
 have ha1 : mc m9 ⟨b1, 1, none⟩ = some (.int .i8 who) := hR1.at_ (i := 1) rfl;have ha2 : mc m9 ⟨b1, 2, none⟩ = some (.string (bs name)) := hR1.at_ (i := 2) rfl;have ha3 : mc m9 ⟨b1, 3, none⟩ = some (.slice A nums.length ca) := hR1.at_ (i := 3) rfl;have ha4 : mc m9 ⟨b1, 4, none⟩ = some (.slice B kids.length cb) := hR1.at_ (i := 4) rfl
 have hb0 : mc m9 ⟨b2, 0, none⟩ = some (.int .i8 op') := hR2.at_ (i := 0) rfl;have hb1 : mc m9 ⟨b2, 1, none⟩ = some (.int .i8 who') := hR2.at_ (i := 1) rfl;have hb2 : mc m9 ⟨b2, 2, none⟩ = some (.string (bs name')) := hR2.at_ (i := 2) rfl;have hb3 : mc m9 ⟨b2, 3, none⟩ = some (Value.slice A' nums'.length ca') := hR2.at_ (i := 3) rfl
 have hb4 : mc m9 ⟨b2, 4, none⟩ = some (Value.slice B' kids'.length cb') := hR2.at_ (i := 4) rfl;by_cases g0 : op = op'
 rotate_left
 ·refine tr 2 ?_;refine Lo 1 sg42 rfl ha0 ?_;refine Lo 0 sg42 rfl hb0 ?_;refine cta 42 ?_;exact rt2 hl2 ⟨rfl, trivial⟩ ⟨.inr ⟨rfl, fun h => g0 (by cases h; rfl)⟩, rfl⟩
 by_cases g1 : who = who'
 rotate_left
 ·refine tr 2 ?_;refine Lo 1 sg42 rfl ha0 ?_;refine Lo 0 sg42 rfl hb0 ?_;refine cfo 2 ?_;refine Lo 1 sg42 rfl ha1 ?_;refine Lo 0 sg42 rfl hb1 ?_;refine cta 36 ?_;exact rt2 hl2 ⟨rfl, trivial⟩ ⟨.inr ⟨rfl, fun h => g1 (by cases h; rfl)⟩, rfl⟩
 by_cases g2 : name = name'
 rotate_left
 ·refine tr 2 ?_;refine Lo 1 sg42 rfl ha0 ?_;refine Lo 0 sg42 rfl hb0 ?_;refine cfo 2 ?_;refine Lo 1 sg42 rfl ha1 ?_;refine Lo 0 sg42 rfl hb1 ?_;refine cfo 3 ?_;refine Lo 1 sg9 rfl ha2 ?_;refine Lo 0 sg9 rfl hb2 ?_;refine cta 29 ?_;exact rt2 hl2 ⟨rfl, trivial⟩ ⟨.inr ⟨rfl, fun h => g2 (by cases h; rfl)⟩, rfl⟩
 by_cases g3 : nums.length = nums'.length
 rotate_left
 ·refine tr 2 ?_;refine Lo 1 sg42 rfl ha0 ?_;refine Lo 0 sg42 rfl hb0 ?_;refine cfo 2 ?_;refine Lo 1 sg42 rfl ha1 ?_;refine Lo 0 sg42 rfl hb1 ?_;refine cfo 3 ?_;refine Lo 1 sg9 rfl ha2 ?_;refine Lo 0 sg9 rfl hb2 ?_;refine cf 3 rfl (fun hx => hx (by assumption)) ?_;refine Lo 2 sg43 rfl ha3 ?_;refine Lo 1 sg43 rfl hb3 ?_;refine cto 20 ?_
  exact rt2 hl2 ⟨rfl, trivial⟩ ⟨.inr ⟨rfl, fun h => g3 (by cases h; rfl)⟩, rfl⟩
 by_cases g4 : kids.length = kids'.length
 rotate_left
 ·refine tr 2 ?_;refine Lo 1 sg42 rfl ha0 ?_;refine Lo 0 sg42 rfl hb0 ?_;refine cfo 2 ?_;refine Lo 1 sg42 rfl ha1 ?_;refine Lo 0 sg42 rfl hb1 ?_;refine cfo 3 ?_;refine Lo 1 sg9 rfl ha2 ?_;refine Lo 0 sg9 rfl hb2 ?_;refine cf 3 rfl (fun hx => hx (by assumption)) ?_;refine Lo 2 sg43 rfl ha3 ?_;refine Lo 1 sg43 rfl hb3 ?_;refine cfo 3 ?_;refine Lo 2 sg46 rfl ha4 ?_;refine Lo 1 sg46 rfl hb4 ?_
  refine cto 11 ?_;exact rt2 hl2 ⟨rfl, trivial⟩ ⟨.inr ⟨rfl, fun h => g4 (by cases h; rfl)⟩, rfl⟩
 refine tr 2 ?_;refine Lo 1 sg42 rfl ha0 ?_;refine Lo 0 sg42 rfl hb0 ?_;refine cfo 2 ?_;refine Lo 1 sg42 rfl ha1 ?_;refine Lo 0 sg42 rfl hb1 ?_;refine cfo 3 ?_;refine Lo 1 sg9 rfl ha2 ?_;refine Lo 0 sg9 rfl hb2 ?_;refine cf 3 rfl (fun hx => hx (by assumption)) ?_;refine Lo 2 sg43 rfl ha3 ?_;refine Lo 1 sg43 rfl hb3 ?_;refine cfo 3 ?_;refine Lo 2 sg46 rfl ha4 ?_;refine Lo 1 sg46 rfl hb4 ?_
 refine cfo 13 ?_;refine zc (α := Nat) (fun i => [(2, ptr b1), (3, ptr b2), (5, .int .i64 (i : Nat))]) (fun _ => []) (fun i => i ≤ nums.length ∧ ∀ (j : Nat) (h : j < nums.length) (h' : j < nums'.length), j < i → nums[j] = nums'[j]) (fun i => nums.length - i) 0 ⟨rfl, rfl, rfl, trivial⟩ (Pick.nil _) ⟨Nat.zero_le _, fun _ _ _ h => by cases h⟩ ?_;rintro i ⟨hi, hall⟩;by_cases hlt : i < nums.length
 ·have hlt2 : i < nums'.length := by omega
  have hA : A.isSome = true := hra.isSome (by omega);have hA2 : A'.isSome = true := hra'.isSome (by omega);have hat := (hra.elem (i * 4) 4).mono hl9;have hat2 := (hra'.elem (i * 4) 4).mono hl9;have hcall := fun m1 (hm1 : Le m9 m1) => same103 (hka i hlt) (hka' i hlt2) m1 (hl9.trans hm1);have hl41 : ((vs.drop (i * 4)).take 4).length = 4 := (hka i hlt).len
  have hl42 : ((vs'.drop (i * 4)).take 4).length = 4 := (hka' i hlt2).len;generalize (vs.drop (i * 4)).take 4 = xs1 at hat hl41 hcall;generalize (vs'.drop (i * 4)).take 4 = ys1 at hat2 hl42 hcall;refine tr 5 ?_;refine Lo 1 sg43 rfl ha3 ?_;refine cto 8 ?_;refine Db (sq [0, 1, 2, 3, 4, 5, 6, 7, 8, 9, 110, 11] .done) ?_;refine vB 1 ?_;refine Vr 1 rfl (zI sg43 rfl ha3) ?_
  refine Vb 0 rfl (zE ez43 rfl rfl hA (by omega)) ?_;refine Vr 1 rfl ((zQ ag45 rfl hl41 hat)) ?_;refine Vr 1 rfl (zI sg43 rfl hb3) ?_;refine Vb 0 rfl (zE ez43 rfl rfl hA2 (by omega)) ?_;refine Vr 0 rfl ((zQ ag45 rfl hl42 hat2)) ?_;skip;refine zA rfl ((zw cl103 rfl (fun m' hm he => hcall m' hm) rfl ?_)) rfl;rintro _ _ ⟨⟨rfl, hq⟩ | ⟨rfl, hq⟩, rfl⟩
  ·refine vB 1 ?_;refine Vn 7 ?_;refine Pa 2 ?_
   exact QR (i + 1) (Pick.nil _) ⟨hlt, fun j h h' hj => by
    by_cases hji : j < i
    ·exact hall j h h' hji
    ·obtain rfl : j = i := by omega
     exact hq⟩ (by omega)
  ·refine vB 1 ?_;refine Vn 10 ?_;refine zL ?_;refine zJ ?_;refine zR ?_;exact rt2 hl2 ⟨rfl, trivial⟩ ⟨.inr ⟨rfl, fun h => hq (by cases h; rfl)⟩, rfl⟩
 ·have hi2 : i = nums.length := by omega
  subst hi2;have hkk2 : nums = nums' := List.ext_getElem g3 fun j h h' => hall j h h' h;clear hall hi hlt;refine tr 5 ?_;refine Lo 1 sg43 rfl ha3 ?_;refine cfo 5 ?_;refine zD ?_;refine zB ?_;refine qt 8 ?_
  refine zc (α := Nat) (fun i => [(2, ptr b1), (3, ptr b2), (6, .int .i64 (i : Nat))]) (fun _ => []) (fun i => i ≤ kids.length ∧ ∀ (j : Nat) (h : j < kids.length) (h' : j < kids'.length), j < i → kids[j] = kids'[j]) (fun i => kids.length - i) 0 ⟨rfl, rfl, rfl, trivial⟩ (Pick.nil _) ⟨Nat.zero_le _, fun _ _ _ h => by cases h⟩ ?_;rintro i ⟨hi, hall⟩;by_cases hlt : i < kids.length
  ·have hlt2 : i < kids'.length := by omega
   have hA : B.isSome = true := hrb.isSome (by omega);have hA2 : B'.isSome = true := hrb'.isSome (by omega);have hat := (hrb.elem (i * 5) 5).mono hl9;have hat2 := (hrb'.elem (i * 5) 5).mono hl9;have hcall := fun m1 (hm1 : Le m9 m1) => ih i hlt (hkb' i hlt2) m1 (hl9.trans hm1);have hl41 : ((ws.drop (i * 5)).take 5).length = 5 := (hkb i hlt).len
   have hl42 : ((ws'.drop (i * 5)).take 5).length = 5 := (hkb' i hlt2).len;generalize (ws.drop (i * 5)).take 5 = xs1 at hat hl41 hcall;generalize (ws'.drop (i * 5)).take 5 = ys1 at hat2 hl42 hcall;refine tr 5 ?_;refine Lo 1 sg46 rfl ha4 ?_;refine cto 8 ?_;refine Db (sq [0, 1, 2, 3, 4, 5, 6, 7, 8, 9, 110, 11] .done) ?_;refine vB 1 ?_;refine Vr 1 rfl (zI sg46 rfl ha4) ?_
   refine Vb 0 rfl (zE ez46 rfl rfl hA (by omega)) ?_;refine Vr 1 rfl ((zQ ag48 rfl hl41 hat)) ?_;refine Vr 1 rfl (zI sg46 rfl hb4) ?_;refine Vb 0 rfl (zE ez46 rfl rfl hA2 (by omega)) ?_;refine Vr 0 rfl ((zQ ag48 rfl hl42 hat2)) ?_;skip;refine zA rfl ((zw cl104 rfl (fun m' hm he => hcall m' hm) rfl ?_)) rfl;rintro _ _ ⟨⟨rfl, hq⟩ | ⟨rfl, hq⟩, rfl⟩
   ·refine vB 1 ?_;refine Vn 7 ?_;refine Pa 2 ?_
    exact QR (i + 1) (Pick.nil _) ⟨hlt, fun j h h' hj => by
     by_cases hji : j < i
     ·exact hall j h h' hji
     ·obtain rfl : j = i := by omega
      exact hq⟩ (by omega)
   ·refine vB 1 ?_;refine Vn 10 ?_;refine zL ?_;refine zJ ?_;refine zR ?_;exact rt2 hl2 ⟨rfl, trivial⟩ ⟨.inr ⟨rfl, fun h => hq (by cases h; rfl)⟩, rfl⟩
  ·have hi2 : i = kids.length := by omega
   subst hi2;have hkk3 : kids = kids' := List.ext_getElem g4 fun j h h' => hall j h h' h;refine tr 5 ?_;refine Lo 1 sg46 rfl ha4 ?_;refine cfo 5 ?_;refine zD ?_;refine zB ?_;refine qt 7 ?_;exact rt2 hl2 ⟨rfl, trivial⟩ ⟨.inl ⟨rfl, by rw [g0, g1, g2, hkk2, hkk3]⟩, rfl⟩
theorem same29 {A A' : Option Addr} {c c' : Nat} {l l' : List (List UInt8)} (hA : Rd m A (l.map strV)) (hA' : Rd m A' (l'.map strV)) (hl : l.length ≤ 140737488355328) (hl' : l'.length ≤ 140737488355328) : CS Tryz.prog 29 [.slice A l.length c, .slice A' l'.length c'] m [] (SameV (l = l')) := by
 skip;have hl2 := Le.refl m;refine zp [.tmp 4] Tryz.func29 rfl rfl rfl ?_;by_cases g0 : l.length = l'.length
 rotate_left
 ·refine tr 12 ?_;refine cto 10 ?_;exact rt2 hl2 ⟨rfl, trivial⟩ ⟨.inr ⟨rfl, fun h => g0 (by rw [h])⟩, rfl⟩
 refine tr 12 ?_;refine cfo 12 ?_;refine zc (α := Nat) (fun i => [(0, .slice A l.length c), (1, .slice A' l'.length c'), (5, .int .i64 (i : Nat))]) (fun _ => []) (fun i => i ≤ l.length ∧ ∀ (j : Nat) (h : j < l.length) (h' : j < l'.length), j < i → l[j] = l'[j]) (fun i => l.length - i) 0 ⟨rfl, rfl, rfl, trivial⟩ (Pick.nil _) ⟨Nat.zero_le _, fun _ _ _ h => by cases h⟩ ?_;rintro i ⟨hi, hall⟩
 by_cases hlt : i < l.length
 ·have hlt2 : i < l'.length := by omega
  have hX : A.isSome = true := hA.isSome (by rw [List.length_map]; omega);have hX2 : A'.isSome = true := hA'.isSome (by rw [List.length_map]; omega);have hcx := hA.at_ (show (l.map strV)[i]? = some (.string (bs l[i])) by simp [hlt, strV]);have hcy := hA'.at_ (show (l'.map strV)[i]? = some (.string (bs l'[i])) by simp [hlt2, strV])
  have hnx : l[i] = l'[i] → ∀ (j : Nat) (h : j < l.length) (h' : j < l'.length), j < i + 1 → l[j] = l'[j] := fun hq j h h' hj => by
   by_cases hji : j < i
   ·exact hall j h h' hji
   ·obtain rfl : j = i := by omega
    exact hq
  have hno : l[i] ≠ l'[i] → l ≠ l' := fun hq h => hq (by subst h; rfl);generalize l[i] = s at hcx hnx hno;generalize l'[i] = t at hcy hnx hno;by_cases hst : s = t
  ·refine tr 6 ?_;refine cto 8 ?_;refine Db (sq [0, 1, 2, 3, 4, 5, 6, 7, 8] .done) ?_;refine vB 2 ?_;refine Vb 0 rfl (zH ez61 rfl rfl hX (by omega)) ?_;refine Vr 2 rfl (zI sg9 rfl hcx) ?_;refine Vb 0 rfl (zH ez61 rfl rfl hX2 (by omega)) ?_;refine Vr 0 rfl (zI sg9 rfl hcy) ?_;refine Vb 0 rfl (df (Z0 rfl rfl) (fun hx => hx (by assumption))) ?_;refine Vn 7 ?_
   refine Pa 2 ?_;exact QR (i + 1) (Pick.nil _) ⟨hlt, hnx hst⟩ (by omega)
  ·refine tr 6 ?_;refine cto 8 ?_;refine Db (sq [0, 1, 2, 3, 4, 5, 6, 7, 8] .done) ?_;refine vB 2 ?_;refine Vb 0 rfl (zH ez61 rfl rfl hX (by omega)) ?_;refine Vr 2 rfl (zI sg9 rfl hcx) ?_;refine Vb 0 rfl (zH ez61 rfl rfl hX2 (by omega)) ?_;refine Vr 0 rfl (zI sg9 rfl hcy) ?_;refine Vb 0 rfl (dt (Z0 rfl rfl) (by assumption)) ?_;refine Vn 10 ?_;refine zL ?_
   refine zJ ?_;refine zR ?_;exact rt2 hl2 ⟨rfl, trivial⟩ ⟨.inr ⟨rfl, hno hst⟩, rfl⟩
 ·have hi2 : i = l.length := by omega
  subst hi2;have hkk2 : l = l' := List.ext_getElem g0 fun j h h' => hall j h h' h;refine tr 6 ?_;refine cfo 5 ?_;refine zD ?_;refine zB ?_;refine qt 7 ?_;exact rt2 hl2 ⟨rfl, trivial⟩ ⟨.inl ⟨rfl, hkk2⟩, rfl⟩
end
section
open Wd Tp Kd
variable {m : Mp}
def ES (l : List EffT) : Prop := ∀ (m : Mp) (A : Option Addr) (c : Nat) (l2 : List EffT) (A2 : Option Addr) (c2 : Nat), EffsR m A l.length l → EffsR m A2 l2.length l2 → CS Tryz.prog 84 [.slice A l.length c, .slice A2 l2.length c2] m [] (SameV (l = l2))
theorem kU {l : List EffT} (ih : ∀ (i : Nat) (h : i < l.length) (op who : Int) (n : NumT) (name : List UInt8) (c : CondT) (a e : List EffT), l[i] = .mk op who n name c a e → ES a ∧ ES e) : ES l := by
 rintro m A c l2 A2 c2 ⟨-, hml, vs, hrd, hvl, hel⟩ ⟨-, hml2, us, hrd2, hul, hel2⟩;have hml : l.length ≤ 9223372036854775807 := hml;have hml2 : l2.length ≤ 9223372036854775807 := hml2;have hl2 := Le.refl m;skip;refine zp [.tmp 4] Tryz.func84 rfl rfl rfl ?_;by_cases g0 : l.length = l2.length
 rotate_left
 ·refine tr 12 ?_;refine cto 10 ?_;exact rt2 hl2 ⟨rfl, trivial⟩ ⟨.inr ⟨rfl, fun h => g0 (by rw [h])⟩, rfl⟩
 refine tr 12 ?_;refine cfo 12 ?_;refine zc (α := Nat) (fun i => [(0, .slice A l.length c), (1, .slice A2 l2.length c2), (5, .int .i64 (i : Nat))]) (fun _ => []) (fun i => i ≤ l.length ∧ ∀ (j : Nat) (h : j < l.length) (h' : j < l2.length), j < i → l[j] = l2[j]) (fun i => l.length - i) 0 ⟨rfl, rfl, rfl, trivial⟩ (Pick.nil _) ⟨Nat.zero_le _, fun _ _ _ h => by cases h⟩ ?_;rintro i ⟨hi, hall⟩
 by_cases hlt : i < l.length
 rotate_left
 ·have hi2 : i = l.length := by omega
  subst hi2;have hkk2 : l = l2 := List.ext_getElem g0 fun j h h' => hall j h h' h;refine tr 6 ?_;refine cfo 5 ?_;refine zD ?_;refine zB ?_;refine qt 7 ?_;exact rt2 hl2 ⟨rfl, trivial⟩ ⟨.inl ⟨rfl, hkk2⟩, rfl⟩
 have hlt2 : i < l2.length := by omega
 have hX : A.isSome = true := hrd.isSome (by omega);have hX2 : A2.isSome = true := hrd2.isSome (by omega);have hat := hrd.elem (i * 14) 14;have hat2 := hrd2.elem (i * 14) 14;have hx := hel i hlt;have hy := hel2 i hlt2;have hih := ih i hlt
 have hnx : l[i] = l2[i] → ∀ (j : Nat) (h : j < l.length) (h' : j < l2.length), j < i + 1 → l[j] = l2[j] := fun hq j h h' hj => by
  by_cases hji : j < i
  ·exact hall j h h' hji
  ·obtain rfl : j = i := by omega
   exact hq
 have hno : l[i] ≠ l2[i] → l ≠ l2 := fun hq h => hq (by subst h; rfl);clear ih hel hel2 hall;generalize l[i] = x at hx hnx hno hih;generalize l2[i] = y at hy hnx hno;generalize (vs.drop (i * 14)).take 14 = xs at hx hat;generalize (us.drop (i * 14)).take 14 = ys at hy hat2
 obtain ⟨op, who, nop, nn, nwho, nA, nlen, nc, name, cop, cwho, cname, cA, cla, cca, cB, clb, ccb, TA, la, ca, EB, lb, cb, n, cond, thn, els, rfl, rfl, -, hn, hc, hthn, hels⟩ := EffR.parts hx
 obtain ⟨op', who', nop', nn', nwho', nA', nlen', nc', name', cop', cwho', cname', cA', cla', cca', cB', clb', ccb', TA', la', ca', EB', lb', cb', n', cond', thn', els', rfl, rfl, -, hn', hc', hthn', hels'⟩ := EffR.parts hy;obtain ⟨ihT, ihE⟩ := hih _ _ _ _ _ _ _ rfl;have e1 := hthn.1;have e2 := hels.1;have e3 := hthn'.1;have e4 := hels'.1;subst e1 e2 e3 e4;clear hx hy hih;refine tr 6 ?_
 refine cto 8 ?_
 refine Wi (α := Nat × Nat) (fun y => [(0, .slice A l.length c), (1, .slice A2 l2.length c2), (5, .int .i64 (i : Nat)), (6, ptr y.1), (7, ptr y.2)]) (fun y => [cel y.1 (e14 op who nop nn nwho nA nlen nc name cop cwho cname cA cla cca cB clb ccb TA thn.length ca EB els.length cb) 50, cel y.2 (e14 op' who' nop' nn' nwho' nA' nlen' nc' name' cop' cwho' cname' cA' cla' cca' cB' clb' ccb' TA' thn'.length ca' EB' els'.length cb') 50]) (fun _ => True) ?_ ?_
 ·refine Db (sq [0, 1, 2, 3, 4, 5, 6, 7] (.fork (sq [108, 109, 110, 111] .done) (sq [109, 108, 110, 111] .done))) ?_;refine vB 2 ?_;refine Vb 0 rfl (zE ez38 rfl rfl hX (by omega)) ?_;refine Vr 2 rfl (zQ ag50 rfl rfl hat) ?_;refine Vb 0 rfl (zE ez38 rfl rfl hX2 (by omega)) ?_;refine Vr 0 rfl (zQ ag50 rfl rfl hat2) ?_;refine zt ?_ ?_
  refine zA rfl (z7 zl50 rfl (fun b1 => ?_)) rfl;refine zA rfl (z7 zl50 rfl (fun b2 => ?_)) rfl;refine zA rfl (zT ag50 rfl rfl rfl .h1 rfl rfl ?_) rfl;refine zA rfl (zT ag50 rfl rfl rfl .here rfl rfl ?_) rfl;refine Vn 0 ?_
  ·exact QR (b1, b2) (.cons .h1 .p0) trivial (by decide)
  ·refine zA rfl (z7 zl50 rfl (fun b1 => ?_)) rfl;refine zA rfl (z7 zl50 rfl (fun b2 => ?_)) rfl;refine zA rfl (zT ag50 rfl rfl rfl .here rfl rfl ?_) rfl;refine zA rfl (zT ag50 rfl rfl rfl .h1 rfl rfl ?_) rfl;refine Vn 0 ?_;exact QR (b2, b1) .pp trivial (by decide)
 rintro ⟨B1, B2⟩ -;dsimp only;refine zO .here (fun ns hi _ hd1 => ?_);refine zO .here (fun ns2 hi2 _ hd2 => ?_);have hR1 : Rd (uni (uni m ns) ns2) (some ⟨B1, 0, none⟩) (e14 op who nop nn nwho nA nlen nc name cop cwho cname cA cla cca cB clb ccb TA thn.length ca EB els.length cb) := ((Rd.blk hi).mono (zb hd1)).mono (zW _ _)
 have haN : At (uni (uni m ns) ns2) ⟨B1, 2, none⟩ (n4 nop nn nwho nA nlen nc) := ((At.blkO (o := 2) (k := 4) hi).mono (zb hd1)).mono (zW _ _);have haC : At (uni (uni m ns) ns2) ⟨B1, 7, none⟩ (c5 cop cwho cname cA cla cca cB clb ccb) := ((At.blkO (o := 7) (k := 5) hi).mono (zb hd1)).mono (zW _ _)
 have hR2 : Rd (uni (uni m ns) ns2) (some ⟨B2, 0, none⟩) (e14 op' who' nop' nn' nwho' nA' nlen' nc' name' cop' cwho' cname' cA' cla' cca' cB' clb' ccb' TA' thn'.length ca' EB' els'.length cb') := (Rd.blk hi2).mono (zb hd2);have hbN : At (uni (uni m ns) ns2) ⟨B2, 2, none⟩ (n4 nop' nn' nwho' nA' nlen' nc') := (At.blkO (o := 2) (k := 4) hi2).mono (zb hd2)
 have hbC : At (uni (uni m ns) ns2) ⟨B2, 7, none⟩ (c5 cop' cwho' cname' cA' cla' cca' cB' clb' ccb') := (At.blkO (o := 7) (k := 5) hi2).mono (zb hd2);have hl2 : Le m (uni (uni m ns) ns2) := (zW _ _).trans (zW _ _);clear hi hd1 hi2 hd2;generalize uni (uni m ns) ns2 = m9 at hR1 hR2 hl2 haN haC hbN hbC;have ha0 : mc m9 ⟨B1, 0, none⟩ = some (.int .i8 op) := hR1.at_ (i := 0) rfl
 have hb0 : mc m9 ⟨B2, 0, none⟩ = some (.int .i8 op') := hR2.at_ (i := 0) rfl;have ha1 : mc m9 ⟨B1, 1, none⟩ = some (.int .i8 who) := hR1.at_ (i := 1) rfl;have hb1 : mc m9 ⟨B2, 1, none⟩ = some (.int .i8 who') := hR2.at_ (i := 1) rfl;have ha6 : mc m9 ⟨B1, 6, none⟩ = some (.string (bs name)) := hR1.at_ (i := 6) rfl;have hb6 : mc m9 ⟨B2, 6, none⟩ = some (.string (bs name')) := hR2.at_ (i := 6) rfl
 have ha12 : mc m9 ⟨B1, 12, none⟩ = some (.slice TA thn.length ca) := hR1.at_ (i := 12) rfl;have hb12 : mc m9 ⟨B2, 12, none⟩ = some (Value.slice TA' thn'.length ca') := hR2.at_ (i := 12) rfl;have ha13 : mc m9 ⟨B1, 13, none⟩ = some (.slice EB els.length cb) := hR1.at_ (i := 13) rfl;have hb13 : mc m9 ⟨B2, 13, none⟩ = some (Value.slice EB' els'.length cb') := hR2.at_ (i := 13) rfl
 by_cases g1 : op = op'
 rotate_left
 ·refine tr 3 ?_;refine Lo 1 sg42 rfl ha0 ?_;refine Lo 0 sg42 rfl hb0 ?_;refine cta 57 ?_;exact rt2 hl2 ⟨rfl, trivial⟩ ⟨.inr ⟨rfl, hno (fun h => g1 (by cases h; rfl))⟩, rfl⟩
 by_cases g2 : who = who'
 rotate_left
 ·refine tr 3 ?_;refine Lo 1 sg42 rfl ha0 ?_;refine Lo 0 sg42 rfl hb0 ?_;refine cfo 2 ?_;refine Lo 1 sg42 rfl ha1 ?_;refine Lo 0 sg42 rfl hb1 ?_;refine cta 51 ?_;exact rt2 hl2 ⟨rfl, trivial⟩ ⟨.inr ⟨rfl, hno (fun h => g2 (by cases h; rfl))⟩, rfl⟩
 by_cases g3 : name = name'
 rotate_left
 ·refine tr 3 ?_;refine Lo 1 sg42 rfl ha0 ?_;refine Lo 0 sg42 rfl hb0 ?_;refine cfo 2 ?_;refine Lo 1 sg42 rfl ha1 ?_;refine Lo 0 sg42 rfl hb1 ?_;refine cfo 3 ?_;refine Lo 1 sg9 rfl ha6 ?_;refine Lo 0 sg9 rfl hb6 ?_;refine cta 44 ?_;exact rt2 hl2 ⟨rfl, trivial⟩ ⟨.inr ⟨rfl, hno (fun h => g3 (by cases h; rfl))⟩, rfl⟩
 refine tr 3 ?_;refine Lo 1 sg42 rfl ha0 ?_;refine Lo 0 sg42 rfl hb0 ?_;refine cfo 2 ?_;refine Lo 1 sg42 rfl ha1 ?_;refine Lo 0 sg42 rfl hb1 ?_;refine cfo 3 ?_;refine Lo 1 sg9 rfl ha6 ?_;refine Lo 0 sg9 rfl hb6 ?_;refine cf 3 rfl (fun hx => hx (by assumption)) ?_;refine La 1 ag45 haN ?_;refine La 0 ag45 hbN ?_
 refine zG ((zw cl103 rfl (fun m' hm he => same103 (hn.mono hl2) (hn'.mono hl2) m' hm) rfl ?_)) rfl;rintro _ _ ⟨⟨rfl, q1⟩ | ⟨rfl, hq⟩, rfl⟩
 rotate_left
 ·refine vr 37 ?_;exact rt2 hl2 ⟨rfl, trivial⟩ ⟨.inr ⟨rfl, hno (fun h => hq (by cases h; rfl))⟩, rfl⟩
 refine vr 4 ?_;refine La 1 ag48 haC ?_;refine La 0 ag48 hbC ?_;refine zG ((zw cl104 rfl (fun m' hm he => same104 (hc.mono hl2) (hc'.mono hl2) m' hm) rfl ?_)) rfl;rintro _ _ ⟨⟨rfl, q2⟩ | ⟨rfl, hq⟩, rfl⟩
 rotate_left
 ·refine vr 29 ?_;exact rt2 hl2 ⟨rfl, trivial⟩ ⟨.inr ⟨rfl, hno (fun h => hq (by cases h; rfl))⟩, rfl⟩
 refine vr 4 ?_;refine Lo 1 sg38 rfl ha12 ?_;refine Lo 0 sg38 rfl hb12 ?_;refine zG ((zw cl84 rfl (fun m' hm he => ihT m' TA ca thn' TA' ca' (hthn.mono (hl2.trans hm)) (hthn'.mono (hl2.trans hm))) rfl ?_)) rfl;rintro _ _ ⟨⟨rfl, q3⟩ | ⟨rfl, hq⟩, rfl⟩
 rotate_left
 ·refine vr 21 ?_;exact rt2 hl2 ⟨rfl, trivial⟩ ⟨.inr ⟨rfl, hno (fun h => hq (by cases h; rfl))⟩, rfl⟩
 refine vr 4 ?_;refine Lo 1 sg38 rfl ha13 ?_;refine Lo 0 sg38 rfl hb13 ?_;refine zG ((zw cl84 rfl (fun m' hm he => ihE m' EB cb els' EB' cb' (hels.mono (hl2.trans hm)) (hels'.mono (hl2.trans hm))) rfl ?_)) rfl;rintro _ _ ⟨⟨rfl, q4⟩ | ⟨rfl, hq⟩, rfl⟩
 rotate_left
 ·refine vr 13 ?_;exact rt2 hl2 ⟨rfl, trivial⟩ ⟨.inr ⟨rfl, hno (fun h => hq (by cases h; rfl))⟩, rfl⟩
 have hq : EffT.mk op who n name cond thn els = EffT.mk op' who' n' name' cond' thn' els' := by rw [g1, g2, g3, q1, q2, q3, q4]
 refine vr 10 ?_;refine Pa 2 ?_;exact jh hl2 (QR (i + 1) (Pick.nil _) ⟨hlt, hnx hq⟩ (by omega))
theorem same84 (l : List EffT) : ES l := kU fun i h op who n name c a e he => ⟨same84 a, same84 e⟩
termination_by SizeOf.sizeOf l
decreasing_by
 all_goals
  have h1 := List.sizeOf_lt_of_mem (List.getElem_mem h);rw [he] at h1;simp only [EffT.mk.sizeOf_spec] at h1;omega
end
section
open Wd Tp Kd
variable {m : Mp}
def sameC (x y : CardT) : Prop := x.name = y.name ∧ x.unit = y.unit ∧ x.cost = y.cost ∧ x.power = y.power ∧ x.health = y.health ∧ x.shield = y.shield ∧ x.apow = y.apow ∧ x.aheal = y.aheal ∧ x.played = y.played ∧ x.dead = y.dead ∧ x.dawn = y.dawn
def sameF (x y : FmtT) : Prop := x.name = y.name ∧ x.least = y.least ∧ x.most = y.most ∧ x.copies = y.copies ∧ x.banned = y.banned ∧ x.single = y.single
structure sameB (a b : BkT) : Prop where
 lc : a.cards.length = b.cards.length
 lf : a.fmts.length = b.fmts.length
 c : ∀ (i : Nat) (h : i < a.cards.length) (h' : i < b.cards.length), sameC a.cards[i] b.cards[i]
 f : ∀ (i : Nat) (h : i < a.fmts.length) (h' : i < b.fmts.length), sameF a.fmts[i] b.fmts[i]
theorem sameB.rfl (a : BkT) : sameB a a := ⟨_root_.rfl, _root_.rfl, fun _ _ _ => ⟨_root_.rfl, _root_.rfl, _root_.rfl, _root_.rfl, _root_.rfl, _root_.rfl, _root_.rfl, _root_.rfl, _root_.rfl, _root_.rfl, _root_.rfl⟩, fun _ _ _ => ⟨_root_.rfl, _root_.rfl, _root_.rfl, _root_.rfl, _root_.rfl, _root_.rfl⟩⟩
theorem same28 {xs ys : List Value} {x y : CardT} (hx : CardX m xs x) (hy : CardX m ys y) : CS Tryz.prog 28 [.agg xs.toArray, .agg ys.toArray] m [] (SameV (sameC x y)) := by
 obtain ⟨q, rfl, hp, hd, hw⟩ := hx;obtain ⟨r, rfl, hp', hd', hw'⟩ := hy;have hm0 := Le.refl m;skip;refine zp [.tmp 4] Tryz.func28 rfl rfl rfl ?_;refine tr 2 ?_;refine Bx 0 rfl fun b1 => ?_;refine Bx 4 rfl fun b2 => ?_;refine zO .here (fun ns hi _ hd1 => ?_);refine zO .here (fun ns2 hi2 _ hd2 => ?_)
 have hR2 : Rd (uni (uni m ns) ns2) (some ⟨b2, 0, none⟩) (r.v y) := ((Rd.blk hi).mono (zb hd1)).mono (zW _ _);have hR1 : Rd (uni (uni m ns) ns2) (some ⟨b1, 0, none⟩) (q.v x) := (Rd.blk hi2).mono (zb hd2);have hl2 : Le m (uni (uni m ns) ns2) := (zW _ _).trans (zW _ _);clear hi hd1 hi2 hd2;generalize uni (uni m ns) ns2 = m9 at hR1 hR2 hl2;have hl9 := hl2
 have ha0 : mc m9 ⟨b1, 0, none⟩ = some (.string (bs x.name)) := hR1.at_ (i := 0) rfl;have ha1 : mc m9 ⟨b1, 1, none⟩ = some (.bool x.unit) := hR1.at_ (i := 1) rfl;have ha2 : mc m9 ⟨b1, 2, none⟩ = some (.int .i64 x.cost) := hR1.at_ (i := 2) rfl;have ha3 : mc m9 ⟨b1, 3, none⟩ = some (.int .i64 x.power) := hR1.at_ (i := 3) rfl
 have ha4 : mc m9 ⟨b1, 4, none⟩ = some (.int .i64 x.health) := hR1.at_ (i := 4) rfl;have ha5 : mc m9 ⟨b1, 5, none⟩ = some (.int .i64 x.shield) := hR1.at_ (i := 5) rfl;have ha6 : mc m9 ⟨b1, 6, none⟩ = some (.int .i64 x.apow) := hR1.at_ (i := 6) rfl;have ha7 : mc m9 ⟨b1, 7, none⟩ = some (.int .i64 x.aheal) := hR1.at_ (i := 7) rfl
 have ha8 : mc m9 ⟨b1, 8, none⟩ = some (.slice q.A x.played.length q.ca) := hR1.at_ (i := 8) rfl;have ha9 : mc m9 ⟨b1, 9, none⟩ = some (.slice q.B x.dead.length q.cb) := hR1.at_ (i := 9) rfl;have ha10 : mc m9 ⟨b1, 10, none⟩ = some (.slice q.D x.dawn.length q.cd) := hR1.at_ (i := 10) rfl;have hb0 : mc m9 ⟨b2, 0, none⟩ = some (.string (bs y.name)) := hR2.at_ (i := 0) rfl
 have hb1 : mc m9 ⟨b2, 1, none⟩ = some (.bool y.unit) := hR2.at_ (i := 1) rfl;have hb2 : mc m9 ⟨b2, 2, none⟩ = some (.int .i64 y.cost) := hR2.at_ (i := 2) rfl;have hb3 : mc m9 ⟨b2, 3, none⟩ = some (.int .i64 y.power) := hR2.at_ (i := 3) rfl;have hb4 : mc m9 ⟨b2, 4, none⟩ = some (.int .i64 y.health) := hR2.at_ (i := 4) rfl
 have hb5 : mc m9 ⟨b2, 5, none⟩ = some (.int .i64 y.shield) := hR2.at_ (i := 5) rfl;have hb6 : mc m9 ⟨b2, 6, none⟩ = some (.int .i64 y.apow) := hR2.at_ (i := 6) rfl;have hb7 : mc m9 ⟨b2, 7, none⟩ = some (.int .i64 y.aheal) := hR2.at_ (i := 7) rfl;have hb8 : mc m9 ⟨b2, 8, none⟩ = some (.slice r.A y.played.length r.ca) := hR2.at_ (i := 8) rfl
 have hb9 : mc m9 ⟨b2, 9, none⟩ = some (.slice r.B y.dead.length r.cb) := hR2.at_ (i := 9) rfl;have hb10 : mc m9 ⟨b2, 10, none⟩ = some (.slice r.D y.dawn.length r.cd) := hR2.at_ (i := 10) rfl;by_cases g0 : x.name = y.name
 rotate_left
 ·skip;refine tr 2 ?_;refine Lo 1 sg9 rfl ha0 ?_;refine Lo 0 sg9 rfl hb0 ?_;refine cfa 74 ?_;exact rt2 hl2 ⟨rfl, trivial⟩ ⟨.inr ⟨rfl, fun h => g0 h.1⟩, rfl⟩
 by_cases g1 : x.unit = y.unit
 rotate_left
 ·have hcmp : (x.unit = true ∧ y.unit = false) ∨ (x.unit = false ∧ y.unit = true) := by
   cases hu : x.unit <;> cases hv : y.unit <;> simp_all
  rcases hcmp with ⟨hu, hv⟩ | ⟨hu, hv⟩
  ·rw [hu] at ha1;rw [hv] at hb1;refine tr 2 ?_;refine Lo 1 sg9 rfl ha0 ?_;refine Lo 0 sg9 rfl hb0 ?_;refine cta 2 ?_;refine Lo 1 sg4 rfl ha1 ?_;refine Lo 0 sg4 rfl hb1 ?_;refine pe 68 (xB bo4 rfl rfl) ?_;exact rt2 hl2 ⟨rfl, trivial⟩ ⟨.inr ⟨rfl, fun h => g1 h.2.1⟩, rfl⟩
  ·rw [hu] at ha1;rw [hv] at hb1;refine tr 2 ?_;refine Lo 1 sg9 rfl ha0 ?_;refine Lo 0 sg9 rfl hb0 ?_;refine cta 2 ?_;refine Lo 1 sg4 rfl ha1 ?_;refine Lo 0 sg4 rfl hb1 ?_;refine pe 68 (xB bo4 rfl rfl) ?_;exact rt2 hl2 ⟨rfl, trivial⟩ ⟨.inr ⟨rfl, fun h => g1 h.2.1⟩, rfl⟩
 by_cases g2 : x.cost = y.cost
 rotate_left
 ·cases hu : y.unit with
  | false =>
    rw [g1, hu] at ha1;rw [hu] at hb1;refine tr 2 ?_;refine Lo 1 sg9 rfl ha0 ?_;refine Lo 0 sg9 rfl hb0 ?_;refine cta 2 ?_;refine Lo 1 sg4 rfl ha1 ?_;refine Lo 0 sg4 rfl hb1 ?_;refine pe 3 (xB bo4 rfl rfl) ?_;refine Lo 1 sg3 rfl ha2 ?_;refine Lo 0 sg3 rfl hb2 ?_;refine cfa 61 ?_;exact rt2 hl2 ⟨rfl, trivial⟩ ⟨.inr ⟨rfl, fun h => g2 h.2.2.1⟩, rfl⟩
  | true =>
    rw [g1, hu] at ha1;rw [hu] at hb1;refine tr 2 ?_;refine Lo 1 sg9 rfl ha0 ?_;refine Lo 0 sg9 rfl hb0 ?_;refine cta 2 ?_;refine Lo 1 sg4 rfl ha1 ?_;refine Lo 0 sg4 rfl hb1 ?_;refine pe 3 (xB bo4 rfl rfl) ?_;refine Lo 1 sg3 rfl ha2 ?_;refine Lo 0 sg3 rfl hb2 ?_;refine cfa 61 ?_;exact rt2 hl2 ⟨rfl, trivial⟩ ⟨.inr ⟨rfl, fun h => g2 h.2.2.1⟩, rfl⟩
 by_cases g3 : x.power = y.power
 rotate_left
 ·cases hu : y.unit with
  | false =>
    rw [g1, hu] at ha1;rw [hu] at hb1;refine tr 2 ?_;refine Lo 1 sg9 rfl ha0 ?_;refine Lo 0 sg9 rfl hb0 ?_;refine cta 2 ?_;refine Lo 1 sg4 rfl ha1 ?_;refine Lo 0 sg4 rfl hb1 ?_;refine pe 3 (xB bo4 rfl rfl) ?_;refine Lo 1 sg3 rfl ha2 ?_;refine Lo 0 sg3 rfl hb2 ?_;refine cta 3 ?_;refine Lo 1 sg3 rfl ha3 ?_;refine Lo 0 sg3 rfl hb3 ?_;refine cfa 54 ?_
    exact rt2 hl2 ⟨rfl, trivial⟩ ⟨.inr ⟨rfl, fun h => g3 h.2.2.2.1⟩, rfl⟩
  | true =>
    rw [g1, hu] at ha1;rw [hu] at hb1;refine tr 2 ?_;refine Lo 1 sg9 rfl ha0 ?_;refine Lo 0 sg9 rfl hb0 ?_;refine cta 2 ?_;refine Lo 1 sg4 rfl ha1 ?_;refine Lo 0 sg4 rfl hb1 ?_;refine pe 3 (xB bo4 rfl rfl) ?_;refine Lo 1 sg3 rfl ha2 ?_;refine Lo 0 sg3 rfl hb2 ?_;refine cta 3 ?_;refine Lo 1 sg3 rfl ha3 ?_;refine Lo 0 sg3 rfl hb3 ?_;refine cfa 54 ?_
    exact rt2 hl2 ⟨rfl, trivial⟩ ⟨.inr ⟨rfl, fun h => g3 h.2.2.2.1⟩, rfl⟩
 by_cases g4 : x.health = y.health
 rotate_left
 ·cases hu : y.unit with
  | false =>
    rw [g1, hu] at ha1;rw [hu] at hb1;refine tr 2 ?_;refine Lo 1 sg9 rfl ha0 ?_;refine Lo 0 sg9 rfl hb0 ?_;refine cta 2 ?_;refine Lo 1 sg4 rfl ha1 ?_;refine Lo 0 sg4 rfl hb1 ?_;refine pe 3 (xB bo4 rfl rfl) ?_;refine Lo 1 sg3 rfl ha2 ?_;refine Lo 0 sg3 rfl hb2 ?_;refine cta 3 ?_;refine Lo 1 sg3 rfl ha3 ?_;refine Lo 0 sg3 rfl hb3 ?_;refine cta 3 ?_;refine Lo 1 sg3 rfl ha4 ?_
    refine Lo 0 sg3 rfl hb4 ?_;refine cfa 47 ?_;exact rt2 hl2 ⟨rfl, trivial⟩ ⟨.inr ⟨rfl, fun h => g4 h.2.2.2.2.1⟩, rfl⟩
  | true =>
    rw [g1, hu] at ha1;rw [hu] at hb1;refine tr 2 ?_;refine Lo 1 sg9 rfl ha0 ?_;refine Lo 0 sg9 rfl hb0 ?_;refine cta 2 ?_;refine Lo 1 sg4 rfl ha1 ?_;refine Lo 0 sg4 rfl hb1 ?_;refine pe 3 (xB bo4 rfl rfl) ?_;refine Lo 1 sg3 rfl ha2 ?_;refine Lo 0 sg3 rfl hb2 ?_;refine cta 3 ?_;refine Lo 1 sg3 rfl ha3 ?_;refine Lo 0 sg3 rfl hb3 ?_;refine cta 3 ?_;refine Lo 1 sg3 rfl ha4 ?_
    refine Lo 0 sg3 rfl hb4 ?_;refine cfa 47 ?_;exact rt2 hl2 ⟨rfl, trivial⟩ ⟨.inr ⟨rfl, fun h => g4 h.2.2.2.2.1⟩, rfl⟩
 by_cases g5 : x.shield = y.shield
 rotate_left
 ·cases hu : y.unit with
  | false =>
    rw [g1, hu] at ha1;rw [hu] at hb1;refine tr 2 ?_;refine Lo 1 sg9 rfl ha0 ?_;refine Lo 0 sg9 rfl hb0 ?_;refine cta 2 ?_;refine Lo 1 sg4 rfl ha1 ?_;refine Lo 0 sg4 rfl hb1 ?_;refine pe 3 (xB bo4 rfl rfl) ?_;refine Lo 1 sg3 rfl ha2 ?_;refine Lo 0 sg3 rfl hb2 ?_;refine cta 3 ?_;refine Lo 1 sg3 rfl ha3 ?_;refine Lo 0 sg3 rfl hb3 ?_;refine cta 3 ?_;refine Lo 1 sg3 rfl ha4 ?_
    refine Lo 0 sg3 rfl hb4 ?_;refine cta 3 ?_;refine Lo 1 sg3 rfl ha5 ?_;refine Lo 0 sg3 rfl hb5 ?_;refine cfa 40 ?_;exact rt2 hl2 ⟨rfl, trivial⟩ ⟨.inr ⟨rfl, fun h => g5 h.2.2.2.2.2.1⟩, rfl⟩
  | true =>
    rw [g1, hu] at ha1;rw [hu] at hb1;refine tr 2 ?_;refine Lo 1 sg9 rfl ha0 ?_;refine Lo 0 sg9 rfl hb0 ?_;refine cta 2 ?_;refine Lo 1 sg4 rfl ha1 ?_;refine Lo 0 sg4 rfl hb1 ?_;refine pe 3 (xB bo4 rfl rfl) ?_;refine Lo 1 sg3 rfl ha2 ?_;refine Lo 0 sg3 rfl hb2 ?_;refine cta 3 ?_;refine Lo 1 sg3 rfl ha3 ?_;refine Lo 0 sg3 rfl hb3 ?_;refine cta 3 ?_;refine Lo 1 sg3 rfl ha4 ?_
    refine Lo 0 sg3 rfl hb4 ?_;refine cta 3 ?_;refine Lo 1 sg3 rfl ha5 ?_;refine Lo 0 sg3 rfl hb5 ?_;refine cfa 40 ?_;exact rt2 hl2 ⟨rfl, trivial⟩ ⟨.inr ⟨rfl, fun h => g5 h.2.2.2.2.2.1⟩, rfl⟩
 by_cases g6 : x.apow = y.apow
 rotate_left
 ·cases hu : y.unit with
  | false =>
    rw [g1, hu] at ha1;rw [hu] at hb1;refine tr 2 ?_;refine Lo 1 sg9 rfl ha0 ?_;refine Lo 0 sg9 rfl hb0 ?_;refine cta 2 ?_;refine Lo 1 sg4 rfl ha1 ?_;refine Lo 0 sg4 rfl hb1 ?_;refine pe 3 (xB bo4 rfl rfl) ?_;refine Lo 1 sg3 rfl ha2 ?_;refine Lo 0 sg3 rfl hb2 ?_;refine cta 3 ?_;refine Lo 1 sg3 rfl ha3 ?_;refine Lo 0 sg3 rfl hb3 ?_;refine cta 3 ?_;refine Lo 1 sg3 rfl ha4 ?_
    refine Lo 0 sg3 rfl hb4 ?_;refine cta 3 ?_;refine Lo 1 sg3 rfl ha5 ?_;refine Lo 0 sg3 rfl hb5 ?_;refine cta 3 ?_;refine Lo 1 sg3 rfl ha6 ?_;refine Lo 0 sg3 rfl hb6 ?_;refine cfa 33 ?_;exact rt2 hl2 ⟨rfl, trivial⟩ ⟨.inr ⟨rfl, fun h => g6 h.2.2.2.2.2.2.1⟩, rfl⟩
  | true =>
    rw [g1, hu] at ha1;rw [hu] at hb1;refine tr 2 ?_;refine Lo 1 sg9 rfl ha0 ?_;refine Lo 0 sg9 rfl hb0 ?_;refine cta 2 ?_;refine Lo 1 sg4 rfl ha1 ?_;refine Lo 0 sg4 rfl hb1 ?_;refine pe 3 (xB bo4 rfl rfl) ?_;refine Lo 1 sg3 rfl ha2 ?_;refine Lo 0 sg3 rfl hb2 ?_;refine cta 3 ?_;refine Lo 1 sg3 rfl ha3 ?_;refine Lo 0 sg3 rfl hb3 ?_;refine cta 3 ?_;refine Lo 1 sg3 rfl ha4 ?_
    refine Lo 0 sg3 rfl hb4 ?_;refine cta 3 ?_;refine Lo 1 sg3 rfl ha5 ?_;refine Lo 0 sg3 rfl hb5 ?_;refine cta 3 ?_;refine Lo 1 sg3 rfl ha6 ?_;refine Lo 0 sg3 rfl hb6 ?_;refine cfa 33 ?_;exact rt2 hl2 ⟨rfl, trivial⟩ ⟨.inr ⟨rfl, fun h => g6 h.2.2.2.2.2.2.1⟩, rfl⟩
 by_cases g7 : x.aheal = y.aheal
 rotate_left
 ·cases hu : y.unit with
  | false =>
    rw [g1, hu] at ha1;rw [hu] at hb1;refine tr 2 ?_;refine Lo 1 sg9 rfl ha0 ?_;refine Lo 0 sg9 rfl hb0 ?_;refine cta 2 ?_;refine Lo 1 sg4 rfl ha1 ?_;refine Lo 0 sg4 rfl hb1 ?_;refine pe 3 (xB bo4 rfl rfl) ?_;refine Lo 1 sg3 rfl ha2 ?_;refine Lo 0 sg3 rfl hb2 ?_;refine cta 3 ?_;refine Lo 1 sg3 rfl ha3 ?_;refine Lo 0 sg3 rfl hb3 ?_;refine cta 3 ?_;refine Lo 1 sg3 rfl ha4 ?_
    refine Lo 0 sg3 rfl hb4 ?_;refine cta 3 ?_;refine Lo 1 sg3 rfl ha5 ?_;refine Lo 0 sg3 rfl hb5 ?_;refine cta 3 ?_;refine Lo 1 sg3 rfl ha6 ?_;refine Lo 0 sg3 rfl hb6 ?_;refine cta 3 ?_;refine Lo 1 sg3 rfl ha7 ?_;refine Lo 0 sg3 rfl hb7 ?_;refine cfa 26 ?_;exact rt2 hl2 ⟨rfl, trivial⟩ ⟨.inr ⟨rfl, fun h => g7 h.2.2.2.2.2.2.2.1⟩, rfl⟩
  | true =>
    rw [g1, hu] at ha1;rw [hu] at hb1;refine tr 2 ?_;refine Lo 1 sg9 rfl ha0 ?_;refine Lo 0 sg9 rfl hb0 ?_;refine cta 2 ?_;refine Lo 1 sg4 rfl ha1 ?_;refine Lo 0 sg4 rfl hb1 ?_;refine pe 3 (xB bo4 rfl rfl) ?_;refine Lo 1 sg3 rfl ha2 ?_;refine Lo 0 sg3 rfl hb2 ?_;refine cta 3 ?_;refine Lo 1 sg3 rfl ha3 ?_;refine Lo 0 sg3 rfl hb3 ?_;refine cta 3 ?_;refine Lo 1 sg3 rfl ha4 ?_
    refine Lo 0 sg3 rfl hb4 ?_;refine cta 3 ?_;refine Lo 1 sg3 rfl ha5 ?_;refine Lo 0 sg3 rfl hb5 ?_;refine cta 3 ?_;refine Lo 1 sg3 rfl ha6 ?_;refine Lo 0 sg3 rfl hb6 ?_;refine cta 3 ?_;refine Lo 1 sg3 rfl ha7 ?_;refine Lo 0 sg3 rfl hb7 ?_;refine cfa 26 ?_;exact rt2 hl2 ⟨rfl, trivial⟩ ⟨.inr ⟨rfl, fun h => g7 h.2.2.2.2.2.2.2.1⟩, rfl⟩
 cases hu : y.unit with
 | false =>
   rw [g1, hu] at ha1;rw [hu] at hb1;refine tr 2 ?_;refine Lo 1 sg9 rfl ha0 ?_;refine Lo 0 sg9 rfl hb0 ?_;refine cta 2 ?_;refine Lo 1 sg4 rfl ha1 ?_;refine Lo 0 sg4 rfl hb1 ?_;refine pe 3 (xB bo4 rfl rfl) ?_;refine Lo 1 sg3 rfl ha2 ?_;refine Lo 0 sg3 rfl hb2 ?_;refine cta 3 ?_;refine Lo 1 sg3 rfl ha3 ?_;refine Lo 0 sg3 rfl hb3 ?_;refine cta 3 ?_;refine Lo 1 sg3 rfl ha4 ?_
   refine Lo 0 sg3 rfl hb4 ?_;refine cta 3 ?_;refine Lo 1 sg3 rfl ha5 ?_;refine Lo 0 sg3 rfl hb5 ?_;refine cta 3 ?_;refine Lo 1 sg3 rfl ha6 ?_;refine Lo 0 sg3 rfl hb6 ?_;refine cta 3 ?_;refine Lo 1 sg3 rfl ha7 ?_;refine Lo 0 sg3 rfl hb7 ?_;refine cta 3 ?_;refine Lo 1 sg38 rfl ha8 ?_;refine Lo 0 sg38 rfl hb8 ?_
   refine zG ((zw cl84 rfl (fun m' hm he => same84 x.played m' q.A q.ca y.played r.A r.ca (hp.mono (hl2.trans hm)) (hp'.mono (hl2.trans hm))) rfl ?_)) rfl;rintro _ _ ⟨⟨rfl, q8⟩ | ⟨rfl, hq⟩, rfl⟩
   rotate_left
   ·refine vr 19 ?_;exact rt2 hl2 ⟨rfl, trivial⟩ ⟨.inr ⟨rfl, fun h => hq h.2.2.2.2.2.2.2.2.1⟩, rfl⟩
   refine vr 3 ?_;refine Lo 1 sg38 rfl ha9 ?_;refine Lo 0 sg38 rfl hb9 ?_;refine zG ((zw cl84 rfl (fun m' hm he => same84 x.dead m' q.B q.cb y.dead r.B r.cb (hd.mono (hl2.trans hm)) (hd'.mono (hl2.trans hm))) rfl ?_)) rfl;rintro _ _ ⟨⟨rfl, q9⟩ | ⟨rfl, hq⟩, rfl⟩
   rotate_left
   ·refine vr 12 ?_;exact rt2 hl2 ⟨rfl, trivial⟩ ⟨.inr ⟨rfl, fun h => hq h.2.2.2.2.2.2.2.2.2.1⟩, rfl⟩
   refine vr 3 ?_;refine Lo 1 sg38 rfl ha10 ?_;refine Lo 0 sg38 rfl hb10 ?_;refine zG ((zw cl84 rfl (fun m' hm he => same84 x.dawn m' q.D q.cd y.dawn r.D r.cd (hw.mono (hl2.trans hm)) (hw'.mono (hl2.trans hm))) rfl ?_)) rfl;rintro _ _ ⟨⟨rfl, q10⟩ | ⟨rfl, hq⟩, rfl⟩
   rotate_left
   ·refine vr 5 ?_;exact rt2 hl2 ⟨rfl, trivial⟩ ⟨.inr ⟨rfl, fun h => hq h.2.2.2.2.2.2.2.2.2.2⟩, rfl⟩
   refine vr 5 ?_;exact rt2 hl2 ⟨rfl, trivial⟩ ⟨.inl ⟨rfl, ⟨g0, g1, g2, g3, g4, g5, g6, g7, q8, q9, q10⟩⟩, rfl⟩
 | true =>
   rw [g1, hu] at ha1;rw [hu] at hb1;refine tr 2 ?_;refine Lo 1 sg9 rfl ha0 ?_;refine Lo 0 sg9 rfl hb0 ?_;refine cta 2 ?_;refine Lo 1 sg4 rfl ha1 ?_;refine Lo 0 sg4 rfl hb1 ?_;refine pe 3 (xB bo4 rfl rfl) ?_;refine Lo 1 sg3 rfl ha2 ?_;refine Lo 0 sg3 rfl hb2 ?_;refine cta 3 ?_;refine Lo 1 sg3 rfl ha3 ?_;refine Lo 0 sg3 rfl hb3 ?_;refine cta 3 ?_;refine Lo 1 sg3 rfl ha4 ?_
   refine Lo 0 sg3 rfl hb4 ?_;refine cta 3 ?_;refine Lo 1 sg3 rfl ha5 ?_;refine Lo 0 sg3 rfl hb5 ?_;refine cta 3 ?_;refine Lo 1 sg3 rfl ha6 ?_;refine Lo 0 sg3 rfl hb6 ?_;refine cta 3 ?_;refine Lo 1 sg3 rfl ha7 ?_;refine Lo 0 sg3 rfl hb7 ?_;refine cta 3 ?_;refine Lo 1 sg38 rfl ha8 ?_;refine Lo 0 sg38 rfl hb8 ?_
   refine zG ((zw cl84 rfl (fun m' hm he => same84 x.played m' q.A q.ca y.played r.A r.ca (hp.mono (hl2.trans hm)) (hp'.mono (hl2.trans hm))) rfl ?_)) rfl;rintro _ _ ⟨⟨rfl, q8⟩ | ⟨rfl, hq⟩, rfl⟩
   rotate_left
   ·refine vr 19 ?_;exact rt2 hl2 ⟨rfl, trivial⟩ ⟨.inr ⟨rfl, fun h => hq h.2.2.2.2.2.2.2.2.1⟩, rfl⟩
   refine vr 3 ?_;refine Lo 1 sg38 rfl ha9 ?_;refine Lo 0 sg38 rfl hb9 ?_;refine zG ((zw cl84 rfl (fun m' hm he => same84 x.dead m' q.B q.cb y.dead r.B r.cb (hd.mono (hl2.trans hm)) (hd'.mono (hl2.trans hm))) rfl ?_)) rfl;rintro _ _ ⟨⟨rfl, q9⟩ | ⟨rfl, hq⟩, rfl⟩
   rotate_left
   ·refine vr 12 ?_;exact rt2 hl2 ⟨rfl, trivial⟩ ⟨.inr ⟨rfl, fun h => hq h.2.2.2.2.2.2.2.2.2.1⟩, rfl⟩
   refine vr 3 ?_;refine Lo 1 sg38 rfl ha10 ?_;refine Lo 0 sg38 rfl hb10 ?_;refine zG ((zw cl84 rfl (fun m' hm he => same84 x.dawn m' q.D q.cd y.dawn r.D r.cd (hw.mono (hl2.trans hm)) (hw'.mono (hl2.trans hm))) rfl ?_)) rfl;rintro _ _ ⟨⟨rfl, q10⟩ | ⟨rfl, hq⟩, rfl⟩
   rotate_left
   ·refine vr 5 ?_;exact rt2 hl2 ⟨rfl, trivial⟩ ⟨.inr ⟨rfl, fun h => hq h.2.2.2.2.2.2.2.2.2.2⟩, rfl⟩
   refine vr 5 ?_;exact rt2 hl2 ⟨rfl, trivial⟩ ⟨.inl ⟨rfl, ⟨g0, g1, g2, g3, g4, g5, g6, g7, q8, q9, q10⟩⟩, rfl⟩
end
section
open Wd Tp Kd
variable {m : Mp}
def FmL (b : BkT) : Prop := b.cards.length ≤ 140737488355328 ∧ b.fmts.length ≤ 140737488355328 ∧ ∀ f ∈ b.fmts, f.banned.length ≤ 140737488355328 ∧ f.single.length ≤ 140737488355328
theorem same9 {K F K' F' : Option Addr} {kc fc kc' fc' : Nat} {a b : BkT} (hC : CardsX m K a.cards) (hF : FmtsX m F a.fmts) (hC' : CardsX m K' b.cards) (hF' : FmtsX m F' b.fmts) (hs : FmL a) (hs' : FmL b) :
  CS Tryz.prog 9 [.agg (bk2 K a.cards.length kc F a.fmts.length fc).toArray, .agg (bk2 K' b.cards.length kc' F' b.fmts.length fc').toArray] m [] (SameV (sameB a b)) := by
 obtain ⟨hlc, hlf, hfb⟩ := hs;obtain ⟨hlc', hlf', hfb'⟩ := hs';skip;refine zp [.tmp 4] Tryz.func9 rfl rfl rfl ?_;refine tr 2 ?_;refine Bx 0 rfl fun b1 => ?_;refine Bx 5 rfl fun b2 => ?_;refine zO .here (fun ns hi _ hd1 => ?_);refine zO .here (fun ns2 hi2 _ hd2 => ?_)
 have hR2 : Rd (uni (uni m ns) ns2) (some ⟨b2, 0, none⟩) (bk2 K' b.cards.length kc' F' b.fmts.length fc') := ((Rd.blk hi).mono (zb hd1)).mono (zW _ _);have hR1 : Rd (uni (uni m ns) ns2) (some ⟨b1, 0, none⟩) (bk2 K a.cards.length kc F a.fmts.length fc) := (Rd.blk hi2).mono (zb hd2);have hl2 : Le m (uni (uni m ns) ns2) := (zW _ _).trans (zW _ _);clear hi hd1 hi2 hd2
 generalize uni (uni m ns) ns2 = m9 at hR1 hR2 hl2;have hl9 := hl2;have ha0 : mc m9 ⟨b1, 0, none⟩ = some (.slice K a.cards.length kc) := hR1.at_ (i := 0) rfl;have ha1 : mc m9 ⟨b1, 1, none⟩ = some (.slice F a.fmts.length fc) := hR1.at_ (i := 1) rfl;have hb0 : mc m9 ⟨b2, 0, none⟩ = some (Value.slice K' b.cards.length kc') := hR2.at_ (i := 0) rfl
 have hb1 : mc m9 ⟨b2, 1, none⟩ = some (Value.slice F' b.fmts.length fc') := hR2.at_ (i := 1) rfl;obtain ⟨vs, hrd, hvl, hel⟩ := hC;obtain ⟨vs', hrd', hvl', hel'⟩ := hC';obtain ⟨us, hrf, hul, hef⟩ := hF;obtain ⟨us', hrf', hul', hef'⟩ := hF';by_cases g0 : a.cards.length = b.cards.length
 rotate_left
 ·refine tr 2 ?_;refine Lo 2 sg23 rfl ha0 ?_;refine Lo 1 sg23 rfl hb0 ?_;refine cto 19 ?_;exact rt2 hl2 ⟨rfl, trivial⟩ ⟨.inr ⟨rfl, fun h => g0 h.lc⟩, rfl⟩
 by_cases g1 : a.fmts.length = b.fmts.length
 rotate_left
 ·refine tr 2 ?_;refine Lo 2 sg23 rfl ha0 ?_;refine Lo 1 sg23 rfl hb0 ?_;refine cfo 2 ?_;refine Lo 2 sg24 rfl ha1 ?_;refine Lo 1 sg24 rfl hb1 ?_;refine cto 11 ?_;exact rt2 hl2 ⟨rfl, trivial⟩ ⟨.inr ⟨rfl, fun h => g1 h.lf⟩, rfl⟩
 refine tr 2 ?_;refine Lo 2 sg23 rfl ha0 ?_;refine Lo 1 sg23 rfl hb0 ?_;refine cfo 2 ?_;refine Lo 2 sg24 rfl ha1 ?_;refine Lo 1 sg24 rfl hb1 ?_;refine cfo 13 ?_
 refine zc (α := Nat) (fun i => [(2, ptr b1), (3, ptr b2), (5, .int .i64 (i : Nat))]) (fun _ => []) (fun i => i ≤ a.cards.length ∧ ∀ (j : Nat) (h : j < a.cards.length) (h' : j < b.cards.length), j < i → sameC a.cards[j] b.cards[j]) (fun i => a.cards.length - i) 0 ⟨rfl, rfl, rfl, trivial⟩ (Pick.nil _) ⟨Nat.zero_le _, fun _ _ _ h => by cases h⟩ ?_;rintro i ⟨hi, hall⟩
 by_cases hlt : i < a.cards.length
 ·have hlt2 : i < b.cards.length := by omega
  have hA : K.isSome = true := hrd.isSome (by omega);have hA2 : K'.isSome = true := hrd'.isSome (by omega);have hat := (hrd.elem (i * 12) 12).mono hl9;have hat2 := (hrd'.elem (i * 12) 12).mono hl9;have hx := (hel i hlt).mono hl9;have hy := (hel' i hlt2).mono hl9;have hl41 : ((vs.drop (i * 12)).take 12).length = 12 := by obtain ⟨q, h, -⟩ := hx; rw [h]; rfl
  have hl42 : ((vs'.drop (i * 12)).take 12).length = 12 := by obtain ⟨q, h, -⟩ := hy; rw [h]; rfl
  generalize (vs.drop (i * 12)).take 12 = xs1 at hat hl41 hx;generalize (vs'.drop (i * 12)).take 12 = ys1 at hat2 hl42 hy;refine tr 5 ?_;refine Lo 1 sg23 rfl ha0 ?_;refine cto 8 ?_;refine Db (sq [0, 1, 2, 3, 4, 5, 6, 7, 8, 9, 110, 11] .done) ?_;refine vB 1 ?_;refine Vr 1 rfl (zI sg23 rfl ha0) ?_;refine Vb 0 rfl (zE ez23 rfl rfl hA (by omega)) ?_
  refine Vr 1 rfl ((zQ ag40 rfl hl41 hat)) ?_;refine Vr 1 rfl (zI sg23 rfl hb0) ?_;refine Vb 0 rfl (zE ez23 rfl rfl hA2 (by omega)) ?_;refine Vr 0 rfl ((zQ ag40 rfl hl42 hat2)) ?_;skip;refine zA rfl ((zw cl28 rfl (fun m' hm he => same28 (hx.mono hm) (hy.mono hm)) rfl ?_)) rfl;rintro _ _ ⟨⟨rfl, hq⟩ | ⟨rfl, hq⟩, rfl⟩
  ·refine vB 1 ?_;refine Vn 7 ?_;refine Pa 2 ?_
   exact QR (i + 1) (Pick.nil _) ⟨hlt, fun j h h' hj => by
    by_cases hji : j < i
    ·exact hall j h h' hji
    ·obtain rfl : j = i := by omega
     exact hq⟩ (by omega)
  ·refine vB 1 ?_;refine Vn 10 ?_;refine zL ?_;refine zJ ?_;refine zR ?_;exact rt2 hl2 ⟨rfl, trivial⟩ ⟨.inr ⟨rfl, fun h => hq (h.c i hlt hlt2)⟩, rfl⟩
 have hi2 : i = a.cards.length := by omega
 subst hi2;have hcs : ∀ (j : Nat) (h : j < a.cards.length) (h' : j < b.cards.length), sameC a.cards[j] b.cards[j] := fun j h h' => hall j h h' h;clear hall hi hlt;refine tr 5 ?_;refine Lo 1 sg23 rfl ha0 ?_;refine cfo 5 ?_;refine zD ?_;refine zB ?_;refine qt 8 ?_
 refine zc (α := Nat) (fun i => [(2, ptr b1), (3, ptr b2), (6, .int .i64 (i : Nat))]) (fun _ => []) (fun i => i ≤ a.fmts.length ∧ ∀ (j : Nat) (h : j < a.fmts.length) (h' : j < b.fmts.length), j < i → sameF a.fmts[j] b.fmts[j]) (fun i => a.fmts.length - i) 0 ⟨rfl, rfl, rfl, trivial⟩ (Pick.nil _) ⟨Nat.zero_le _, fun _ _ _ h => by cases h⟩ ?_;rintro i ⟨hi, hall⟩;by_cases hlt : i < a.fmts.length
 rotate_left
 ·have hi2 : i = a.fmts.length := by omega
  subst hi2;refine tr 5 ?_;refine Lo 1 sg24 rfl ha1 ?_;refine cfo 5 ?_;refine zD ?_;refine zB ?_;refine qt 7 ?_;exact rt2 hl2 ⟨rfl, trivial⟩ ⟨.inl ⟨rfl, ⟨g0, g1, hcs, fun j h h' => hall j h h' h⟩⟩, rfl⟩
 have hlt2 : i < b.fmts.length := by omega
 have hA : F.isSome = true := hrf.isSome (by omega);have hA2 : F'.isSome = true := hrf'.isSome (by omega);have hat := (hrf.elem (i * 7) 7).mono hl9;have hat2 := (hrf'.elem (i * 7) 7).mono hl9;obtain ⟨q, hqv, hqB, hqS⟩ := (hef i hlt).mono hl9;obtain ⟨r, hrv, hrB, hrS⟩ := (hef' i hlt2).mono hl9;rw [hqv] at hat;rw [hrv] at hat2;obtain ⟨hb1', hb2'⟩ := hfb _ (List.getElem_mem hlt)
 obtain ⟨hb3', hb4'⟩ := hfb' _ (List.getElem_mem hlt2)
 have hnx : sameF a.fmts[i] b.fmts[i] → ∀ (j : Nat) (h : j < a.fmts.length) (h' : j < b.fmts.length), j < i + 1 → sameF a.fmts[j] b.fmts[j] := fun hq j h h' hj => by
  by_cases hji : j < i
  ·exact hall j h h' hji
  ·obtain rfl : j = i := by omega
   exact hq
 have hno : ¬ sameF a.fmts[i] b.fmts[i] → ¬ sameB a b := fun hq h => hq (h.f i hlt hlt2);clear hall hqv hrv;generalize a.fmts[i] = x at hat hqB hqS hb1' hb2' hnx hno;generalize b.fmts[i] = y at hat2 hrB hrS hb3' hb4' hnx hno;refine tr 5 ?_;refine Lo 1 sg24 rfl ha1 ?_;refine cto 8 ?_
 refine Wi (α := Nat × Nat) (fun y' => [(2, ptr b1), (3, ptr b2), (6, .int .i64 (i : Nat)), (7, ptr y'.1), (8, ptr y'.2)]) (fun y' => [cel y'.1 (q.v x) 63, cel y'.2 (r.v y) 63]) (fun _ => True) ?_ ?_
 ·refine Db (sq [0, 1, 2, 3, 4, 5, 6, 7, 8, 9] (.fork (sq [110, 111, 112, 113] .done) (sq [111, 110, 112, 113] .done))) ?_;refine vB 1 ?_;refine Vr 1 rfl (zI sg24 rfl ha1) ?_;refine Vb 0 rfl (zE ez24 rfl rfl hA (by omega)) ?_;refine Vr 1 rfl (zQ ag63 rfl rfl hat) ?_;refine Vr 1 rfl (zI sg24 rfl hb1) ?_;refine Vb 0 rfl (zE ez24 rfl rfl hA2 (by omega)) ?_
  refine Vr 0 rfl (zQ ag63 rfl rfl hat2) ?_;refine zt ?_ ?_;refine zA rfl (z7 zl63 rfl (fun b3 => ?_)) rfl;refine zA rfl (z7 zl63 rfl (fun b4 => ?_)) rfl;refine zA rfl (zT ag63 rfl rfl rfl .h1 rfl rfl ?_) rfl;refine zA rfl (zT ag63 rfl rfl rfl .here rfl rfl ?_) rfl;refine Vn 0 ?_
  ·exact QR (b3, b4) (.cons .h1 .p0) trivial (by decide)
  ·refine zA rfl (z7 zl63 rfl (fun b3 => ?_)) rfl;refine zA rfl (z7 zl63 rfl (fun b4 => ?_)) rfl;refine zA rfl (zT ag63 rfl rfl rfl .here rfl rfl ?_) rfl;refine zA rfl (zT ag63 rfl rfl rfl .h1 rfl rfl ?_) rfl;refine Vn 0 ?_;exact QR (b4, b3) .pp trivial (by decide)
 rintro ⟨B1, B2⟩ -;dsimp only;refine zO .here (fun ns hi _ hd1 => ?_);refine zO .here (fun ns2 hi2 _ hd2 => ?_);have hR1' : Rd (uni (uni m9 ns) ns2) (some ⟨B1, 0, none⟩) (q.v x) := ((Rd.blk hi).mono (zb hd1)).mono (zW _ _);have hR2' : Rd (uni (uni m9 ns) ns2) (some ⟨B2, 0, none⟩) (r.v y) := (Rd.blk hi2).mono (zb hd2)
 have hl3 : Le m9 (uni (uni m9 ns) ns2) := (zW _ _).trans (zW _ _);clear hi hd1 hi2 hd2;generalize uni (uni m9 ns) ns2 = m10 at hR1' hR2' hl3;have hl2 := hl2.trans hl3;have hx0 : mc m10 ⟨B1, 0, none⟩ = some (.string (bs x.name)) := hR1'.at_ (i := 0) rfl;have hy0 : mc m10 ⟨B2, 0, none⟩ = some (.string (bs y.name)) := hR2'.at_ (i := 0) rfl
 have hx1 : mc m10 ⟨B1, 1, none⟩ = some (.int .i64 x.least) := hR1'.at_ (i := 1) rfl;have hy1 : mc m10 ⟨B2, 1, none⟩ = some (.int .i64 y.least) := hR2'.at_ (i := 1) rfl;have hx2 : mc m10 ⟨B1, 2, none⟩ = some (.int .i64 x.most) := hR1'.at_ (i := 2) rfl;have hy2 : mc m10 ⟨B2, 2, none⟩ = some (.int .i64 y.most) := hR2'.at_ (i := 2) rfl
 have hx3 : mc m10 ⟨B1, 3, none⟩ = some (.int .i64 x.copies) := hR1'.at_ (i := 3) rfl;have hy3 : mc m10 ⟨B2, 3, none⟩ = some (.int .i64 y.copies) := hR2'.at_ (i := 3) rfl;have hx4 : mc m10 ⟨B1, 4, none⟩ = some (.slice q.A x.banned.length q.ca) := hR1'.at_ (i := 4) rfl;have hy4 : mc m10 ⟨B2, 4, none⟩ = some (.slice r.A y.banned.length r.ca) := hR2'.at_ (i := 4) rfl
 have hx5 : mc m10 ⟨B1, 5, none⟩ = some (.slice q.B x.single.length q.cb) := hR1'.at_ (i := 5) rfl;have hy5 : mc m10 ⟨B2, 5, none⟩ = some (.slice r.B y.single.length r.cb) := hR2'.at_ (i := 5) rfl;by_cases k0 : x.name = y.name
 rotate_left
 ·refine tr 3 ?_;refine Lo 1 sg9 rfl hx0 ?_;refine Lo 0 sg9 rfl hy0 ?_;refine cta 48 ?_;exact rt2 hl2 ⟨rfl, trivial⟩ ⟨.inr ⟨rfl, hno (fun h => k0 h.1)⟩, rfl⟩
 by_cases k1 : x.least = y.least
 rotate_left
 ·refine tr 3 ?_;refine Lo 1 sg9 rfl hx0 ?_;refine Lo 0 sg9 rfl hy0 ?_;refine cf 2 rfl (fun hx => hx (by assumption)) ?_;refine Lo 1 sg3 rfl hx1 ?_;refine Lo 0 sg3 rfl hy1 ?_;refine cta 42 ?_;exact rt2 hl2 ⟨rfl, trivial⟩ ⟨.inr ⟨rfl, hno (fun h => k1 h.2.1)⟩, rfl⟩
 by_cases k2 : x.most = y.most
 rotate_left
 ·refine tr 3 ?_;refine Lo 1 sg9 rfl hx0 ?_;refine Lo 0 sg9 rfl hy0 ?_;refine cf 2 rfl (fun hx => hx (by assumption)) ?_;refine Lo 1 sg3 rfl hx1 ?_;refine Lo 0 sg3 rfl hy1 ?_;refine cfo 3 ?_;refine Lo 1 sg3 rfl hx2 ?_;refine Lo 0 sg3 rfl hy2 ?_;refine cta 35 ?_;exact rt2 hl2 ⟨rfl, trivial⟩ ⟨.inr ⟨rfl, hno (fun h => k2 h.2.2.1)⟩, rfl⟩
 by_cases k3 : x.copies = y.copies
 rotate_left
 ·refine tr 3 ?_;refine Lo 1 sg9 rfl hx0 ?_;refine Lo 0 sg9 rfl hy0 ?_;refine cf 2 rfl (fun hx => hx (by assumption)) ?_;refine Lo 1 sg3 rfl hx1 ?_;refine Lo 0 sg3 rfl hy1 ?_;refine cfo 3 ?_;refine Lo 1 sg3 rfl hx2 ?_;refine Lo 0 sg3 rfl hy2 ?_;refine cfo 3 ?_;refine Lo 1 sg3 rfl hx3 ?_;refine Lo 0 sg3 rfl hy3 ?_;refine cta 28 ?_
  exact rt2 hl2 ⟨rfl, trivial⟩ ⟨.inr ⟨rfl, hno (fun h => k3 h.2.2.2.1)⟩, rfl⟩
 refine tr 3 ?_;refine Lo 1 sg9 rfl hx0 ?_;refine Lo 0 sg9 rfl hy0 ?_;refine cf 2 rfl (fun hx => hx (by assumption)) ?_;refine Lo 1 sg3 rfl hx1 ?_;refine Lo 0 sg3 rfl hy1 ?_;refine cfo 3 ?_;refine Lo 1 sg3 rfl hx2 ?_;refine Lo 0 sg3 rfl hy2 ?_;refine cfo 3 ?_;refine Lo 1 sg3 rfl hx3 ?_;refine Lo 0 sg3 rfl hy3 ?_;refine cfo 3 ?_;refine Lo 1 sg61 rfl hx4 ?_;refine Lo 0 sg61 rfl hy4 ?_
 refine zG ((zw cl29 rfl (fun m' hm he => same29 (hqB.1.mono (hl3.trans hm)) (hrB.1.mono (hl3.trans hm)) hb1' hb3') rfl ?_)) rfl;rintro _ _ ⟨⟨rfl, k4⟩ | ⟨rfl, hq⟩, rfl⟩
 rotate_left
 ·refine vr 21 ?_;exact rt2 hl2 ⟨rfl, trivial⟩ ⟨.inr ⟨rfl, hno (fun h => hq h.2.2.2.2.1)⟩, rfl⟩
 refine vr 4 ?_;refine Lo 1 sg61 rfl hx5 ?_;refine Lo 0 sg61 rfl hy5 ?_;refine zG ((zw cl29 rfl (fun m' hm he => same29 (hqS.1.mono (hl3.trans hm)) (hrS.1.mono (hl3.trans hm)) hb2' hb4') rfl ?_)) rfl;rintro _ _ ⟨⟨rfl, k5⟩ | ⟨rfl, hq⟩, rfl⟩
 rotate_left
 ·refine vr 13 ?_;exact rt2 hl2 ⟨rfl, trivial⟩ ⟨.inr ⟨rfl, hno (fun h => hq h.2.2.2.2.2)⟩, rfl⟩
 refine vr 10 ?_;refine Pa 2 ?_;exact jh hl3 (QR (i + 1) (Pick.nil _) ⟨hlt, hnx ⟨k0, k1, k2, k3, k4, k5⟩⟩ (by omega))
theorem places10 {K F K' F' : Option Addr} {kc fc kc' fc' : Nat} {a : BkT} (hC : CardsX m K a.cards) (hF : FmtsX m F a.fmts) (hC' : CardsX m K' a.cards) (hF' : FmtsX m F' a.fmts) (hs : FmL a) :
  CS Tryz.prog 10 [.agg (bk2 K a.cards.length kc F a.fmts.length fc).toArray, .agg (bk2 K' a.cards.length kc' F' a.fmts.length fc').toArray] m [] (Gives (.bool true)) := by
 obtain ⟨hlc, hlf, hfb⟩ := hs;skip;refine zp [.tmp 4] Tryz.func10 rfl rfl rfl ?_;refine tr 2 ?_;refine Bx 0 rfl fun b1 => ?_;refine Bx 5 rfl fun b2 => ?_;refine zO .here (fun ns hi _ hd1 => ?_);refine zO .here (fun ns2 hi2 _ hd2 => ?_)
 have hR2 : Rd (uni (uni m ns) ns2) (some ⟨b2, 0, none⟩) (bk2 K' a.cards.length kc' F' a.fmts.length fc') := ((Rd.blk hi).mono (zb hd1)).mono (zW _ _);have hR1 : Rd (uni (uni m ns) ns2) (some ⟨b1, 0, none⟩) (bk2 K a.cards.length kc F a.fmts.length fc) := (Rd.blk hi2).mono (zb hd2);have hl2 : Le m (uni (uni m ns) ns2) := (zW _ _).trans (zW _ _);clear hi hd1 hi2 hd2
 generalize uni (uni m ns) ns2 = m9 at hR1 hR2 hl2;have hl9 := hl2;have ha0 : mc m9 ⟨b1, 0, none⟩ = some (.slice K a.cards.length kc) := hR1.at_ (i := 0) rfl;have ha1 : mc m9 ⟨b1, 1, none⟩ = some (.slice F a.fmts.length fc) := hR1.at_ (i := 1) rfl;have hb0 : mc m9 ⟨b2, 0, none⟩ = some (Value.slice K' a.cards.length kc') := hR2.at_ (i := 0) rfl
 have hb1 : mc m9 ⟨b2, 1, none⟩ = some (Value.slice F' a.fmts.length fc') := hR2.at_ (i := 1) rfl;obtain ⟨vs, hrd, hvl, hel⟩ := hC;obtain ⟨vs', hrd', hvl', hel'⟩ := hC';obtain ⟨us, hrf, hul, hef⟩ := hF;obtain ⟨us', hrf', hul', hef'⟩ := hF';refine tr 5 ?_
 refine zc (α := Nat) (fun i => [(2, ptr b1), (3, ptr b2), (5, .int .i64 (i : Nat))]) (fun _ => []) (fun i => i ≤ a.cards.length) (fun i => a.cards.length - i) 0 ⟨rfl, rfl, rfl, trivial⟩ (Pick.nil _) (Nat.zero_le _) ?_;rintro i hi;by_cases hlt : i < a.cards.length
 ·have hA : K.isSome = true := hrd.isSome (by omega);have hA2 : K'.isSome = true := hrd'.isSome (by omega);have hat := (hrd.elem (i * 12) 12).mono hl9;have hat2 := (hrd'.elem (i * 12) 12).mono hl9;obtain ⟨q, hqv, -⟩ := hel i hlt;obtain ⟨r, hrv, -⟩ := hel' i hlt;rw [hqv] at hat;rw [hrv] at hat2;clear hqv hrv;generalize a.cards[i] = x at hat hat2;refine tr 5 ?_;refine Lo 1 sg23 rfl ha0 ?_
  refine cto 8 ?_;refine Db (sq [0, 1, 2, 3, 4, 5, 6, 7, 8, 9, 10, 11, 12] .done) ?_;refine vB 1 ?_;refine Vr 1 rfl (zI sg23 rfl ha0) ?_;refine Vb 1 rfl (zE ez23 rfl rfl hA (by omega)) ?_;refine Vr 1 rfl (zI sg3 rfl (hat.at_ rfl)) ?_;refine Vr 1 rfl (zI sg23 rfl hb0) ?_;refine Vb 1 rfl (zE ez23 rfl rfl hA2 (by omega)) ?_
  refine Vr 0 rfl (zI sg3 rfl (hat2.at_ rfl)) ?_;refine Vb 0 rfl (df (vQ rfl rfl) (by omega)) ?_;refine Vn 7 ?_;refine Pa 2 ?_;exact QR (i + 1) (Pick.nil _) hlt (by omega)
 obtain rfl : i = a.cards.length := by omega
 clear hi hlt;refine tr 5 ?_;refine Lo 1 sg23 rfl ha0 ?_;refine cfo 5 ?_;refine zD ?_;refine zB ?_;refine qt 8 ?_;refine zc (α := Nat) (fun i => [(2, ptr b1), (3, ptr b2), (6, .int .i64 (i : Nat))]) (fun _ => []) (fun i => i ≤ a.fmts.length) (fun i => a.fmts.length - i) 0 ⟨rfl, rfl, rfl, trivial⟩ (Pick.nil _) (Nat.zero_le _) ?_;rintro i hi;by_cases hlt : i < a.fmts.length
 ·have hA : F.isSome = true := hrf.isSome (by omega);have hA2 : F'.isSome = true := hrf'.isSome (by omega);have hat := (hrf.elem (i * 7) 7).mono hl9;have hat2 := (hrf'.elem (i * 7) 7).mono hl9;obtain ⟨q, hqv, -⟩ := hef i hlt;obtain ⟨r, hrv, -⟩ := hef' i hlt;rw [hqv] at hat;rw [hrv] at hat2;clear hqv hrv;generalize a.fmts[i] = x at hat hat2;refine tr 5 ?_;refine Lo 1 sg24 rfl ha1 ?_;refine cto 8 ?_
  refine Db (sq [0, 1, 2, 3, 4, 5, 6, 7, 8, 9, 10, 11, 12] .done) ?_;refine vB 1 ?_;refine Vr 1 rfl (zI sg24 rfl ha1) ?_;refine Vb 1 rfl (zE ez24 rfl rfl hA (by omega)) ?_;refine Vr 1 rfl (zI sg3 rfl (hat.at_ rfl)) ?_;refine Vr 1 rfl (zI sg24 rfl hb1) ?_;refine Vb 1 rfl (zE ez24 rfl rfl hA2 (by omega)) ?_;refine Vr 0 rfl (zI sg3 rfl (hat2.at_ rfl)) ?_
  refine Vb 0 rfl (df (vQ rfl rfl) (by omega)) ?_;refine Vn 7 ?_;refine Pa 2 ?_;exact QR (i + 1) (Pick.nil _) hlt (by omega)
 obtain rfl : i = a.fmts.length := by omega
 refine tr 5 ?_;refine Lo 1 sg24 rfl ha1 ?_;refine cfo 5 ?_;refine zD ?_;refine zB ?_;refine qt 7 ?_;exact rt2 hl2 ⟨rfl, trivial⟩ ⟨rfl, rfl⟩
end
section
open Wd Tp Kd
def wk1 : List UInt8 := [99, 97, 114, 100, 32, 73, 109, 112, 32, 117, 110, 105, 116, 32, 49, 32, 50, 47, 49, 32, 123, 32, 112, 108, 97, 121, 101, 100, 32, 123, 32, 104, 97, 114, 109, 32, 116, 97, 114, 103, 101, 116, 32, 49, 32, 43, 32, 50, 32, 42, 32, 51, 59, 32, 125, 32, 125]
def wk2 : List UInt8 := [99, 97, 114, 100, 32, 105, 102, 32, 99, 104, 97, 114, 109, 32, 49, 32, 123, 32, 125]
def wk3 : List UInt8 := [99, 97, 114, 100, 32, 73, 109, 112, 32, 117, 110, 105, 116, 32, 49, 32, 50, 47, 49, 32, 123, 10, 32, 112, 108, 97, 121, 101, 100, 32, 123, 32, 104, 97, 114, 109, 32, 116, 97, 114, 103, 101, 116, 32, 49, 32, 43, 32, 50, 32, 42, 32, 51, 59, 32, 125, 10, 125, 10]
def wkB : BkT := ⟨[⟨[73, 109, 112], true, 1, 2, 1, 0, 0, 0, [.mk 0 2 (.mk 8 0 0 [.mk 0 1 0 [], .mk 10 0 0 [.mk 0 2 0 [], .mk 0 3 0 []]]) [] cond0 [] []], [], [], 0⟩], []⟩
def okB : R BkT → Option BkT
 | .ok b _ => some b
 | _ => none
def badB : R BkT → Option (Int × Int)
 | .bad e a => some (e, a)
 | _ => none
theorem wake1 : okB (readP wk1) = some wkB := by kernel_rfl
theorem wake2 : badB (readP wk2) = some (120, 5) := by kernel_rfl
theorem wake3 : textP wkB = (wk3, 0) := by kernel_rfl
end
section
open Wd Tp Kd
variable {m : Mp}
theorem WK : CondSm cond0 := .mk (Nat.zero_le _) (fun k h => by cases h)
theorem wkB_sm : BkSm wkB where
 lc := by decide
 lf := by decide
 c := fun x hx => by
  rw [show wkB.cards = [wkB.cards[0]'(by decide)] from rfl, List.mem_singleton] at hx;subst hx
  exact ⟨by decide, by decide, by decide, by decide, fun x hx => by
   rw [List.mem_singleton.1 hx]
   exact .mk (Nat.zero_le _) WK (Nat.zero_le _) (Nat.zero_le _) (fun _ h => by cases h) (fun _ h => by cases h), (fun _ h => by cases h), (fun _ h => by cases h)⟩
 f := fun x hx => by cases hx
theorem wakes6 (hT : TabI m) (hU : Tabs m) : CS Tryz.prog 6 [] m [] (Gives (.bool true)) := by
 skip;refine zp [.tmp 0] Tryz.func6 rfl rfl rfl ?_;refine tr 7 ?_;refine zG ((zw cl7 rfl (fun m' hm he => qR (s := wk1) (hU.mono hm) (by decide)) rfl ?_)) rfl;rintro _ _ hq;rcases hq with ⟨bk, ts, K, kc, F, fc, e, h1, rfl, rfl, h2, h3, h4⟩ | ⟨e, a, h1, rfl, rfl⟩
 rotate_left
 ·have h5 := wake1;rw [h1] at h5;cases h5
 have hbk : bk = wkB := by
  have h5 := wake1;rw [h1] at h5;exact Option.some.inj h5
 subst hbk;clear h1 h2 h3;unfold faultV;refine vr 3 ?_;refine Al 0 zl26 fun b1 => ?_;refine Al 0 zl29 fun b2 => ?_;refine Sg 0 ag26 .h1 ?_;refine Sg 3 ag29 .here ?_;refine zO .h2 (fun ns hi _ hd => ?_);obtain ⟨hCq, hFq⟩ := h4 ns hi;have hCq := hCq.mono (zb hd (m := m));have hFq := hFq.mono (zb hd (m := m));have hl2 : Le m (uni m ns) := zW _ _;clear hi hd h4
 generalize uni m ns = m9 at hCq hFq hl2;have hT := hT.mono hl2;have hU := hU.mono hl2;refine tr 1 ?_;refine zG ((zw cl7 rfl (fun m' hm he => qR (s := wk2) (hU.mono hm) (by decide)) rfl ?_)) rfl;rintro _ _ hq;rcases hq with ⟨bk, ts, K2, kc2, F2, fc2, e2, h1, rfl, rfl, h2, h3, h4⟩ | ⟨e2, a2, h1, rfl, rfl⟩
 ·have h5 := wake2;rw [h1] at h5;cases h5
 have hee : e2 = 120 ∧ a2 = 5 := by
  have h5 := wake2;rw [h1] at h5;have h6 := Option.some.inj h5;exact ⟨congrArg Prod.fst h6, congrArg Prod.snd h6⟩
 obtain ⟨rfl, rfl⟩ := hee;clear h1;unfold faultV;refine vr 3 ?_;refine Al 0 zl26 fun b3 => ?_;refine Al 0 zl29 fun b4 => ?_;refine Sg 0 ag26 .h1 ?_;refine Sg 4 ag29 .here ?_;refine Lc 0 ag26 .h3 ?_;refine Cr cl12 rfl (fun m' hm he => (Text12 (b := wkB) (hT.mono hm) (hU.mono hm) (hCq.mono hm).x (hFq.mono hm).x wkB_sm)) ?_;rintro _ rfl;rw [wake3];dsimp only [txV];obtain ⟨vs, hrd, hvl, hel⟩ := hCq
 obtain ⟨q, hqv, -, hpl, -, -⟩ := hel 0 (by decide);have hat := hrd.elem (0 * 12) 12;rw [hqv] at hat;have hat : At m9 ((sa K).add (0 * 12)) [.string (bs [73, 109, 112]), .bool true, .int .i64 1, .int .i64 2, .int .i64 1, .int .i64 0, .int .i64 0, .int .i64 0, .slice q.A 1 q.ca, .slice q.B 0 q.cb, .slice q.D 0 q.cd, .int .i64 0] := hat;have hk1 : wkB.cards.length = 1 := rfl
 obtain ⟨-, -, vs2, hrd2, hvl2, hel2⟩ := hpl;have hx := hel2 0 (by decide);have hat2 := hrd2.elem (0 * 14) 14;generalize (vs2.drop (0 * 14)).take 14 = xs at hx hat2;obtain ⟨op, who, nop, nn, nwho, nA, nlen, nc, name, cop, cwho, cname, cA, cla, cca, cB, clb, ccb, TA, la, ca, EB, lb, cb, n, cond, thn, els, rfl, hmk, -, hn, hc, hthn, hels⟩ := EffR.parts hx
 have hmk : EffT.mk 0 2 (.mk 8 0 0 [.mk 0 1 0 [], .mk 10 0 0 [.mk 0 2 0 [], .mk 0 3 0 []]]) [] cond0 [] [] = EffT.mk op who n name cond thn els := hmk;cases hmk;cases hn with
 | @mk _ _ _ _ _ _ _ vs3 ho hl hm' hr hv hk =>
 have f2 : NumR m9 ((vs3.drop (1 * 4)).take 4) (.mk 10 0 0 [.mk 0 2 0 [], .mk 0 3 0 []]) := hk 1 (by decide);have hat3 := hr.elem (1 * 4) 4;obtain ⟨n2, w2, A2, l2, c2, e2⟩ := NumR.formO f2;rw [e2] at hat3;have hX1 : K.isSome = true := hrd.isSome (by rw [hvl]; decide);have hX2 : q.A.isSome = true := hrd2.isSome (by rw [hvl2]; decide);have hX3 : nA.isSome = true := hr.isSome (by rw [hv]; decide)
 have hnl : nlen = 2 := hl.symm;have hN0 : mc m9 (((((sa q.A).add (0 * 14))).add 2).add 0) = some (.int .i8 8) := (At.sub hat2 2 4).at_ (o := 0) rfl;have hN3 : mc m9 (((((sa q.A).add (0 * 14))).add 2).add 3) = some (.slice nA nlen nc) := (At.sub hat2 2 4).at_ (o := 3) rfl;refine vr 10 ?_;refine Lb 0 sg27 .h2 ?_;refine ctr 2 ?_;refine Lb 1 sg23 .h3 ?_;refine ctr 3 ?_;refine Lb 0 sg23 .h3 ?_
 refine pe 1 (zX ez23 rfl rfl hX1 (by omega) (by omega)) ?_;refine Lo 0 sg38 rfl (hat.at_ rfl) ?_;refine pe 2 (zX ez38 rfl rfl hX2 (by omega) (by omega)) ?_;refine Lo 0 sg42 rfl hN0 ?_;refine ctr 3 ?_;refine Lb 0 sg23 .h3 ?_;refine pe 1 (zX ez23 rfl rfl hX1 (by omega) (by omega)) ?_;refine Lo 0 sg38 rfl (hat.at_ rfl) ?_
 refine pe 2 (zX ez38 rfl rfl hX2 (by omega) (by omega)) ?_;refine Lo 0 sg43 rfl hN3 ?_;refine pe 1 (zX ez43 rfl rfl hX3 (by omega) (by omega)) ?_;refine Lo 0 sg42 rfl (hat3.at_ rfl) ?_;refine ctr 2 ?_;refine Lc 0 ag29 .here ?_;refine pe 0 (zK zl29 pl29 rfl rfl) ?_;refine pe 3 ((xk [.i .i64 120, .i .i64 5] [.i .i64 120, .i .i64 5] fg29 rfl rfl rfl rfl)) ?_
 refine ctr 3 ?_;refine ctr 5 ?_;exact rt2 hl2 ⟨rfl, trivial⟩ ⟨rfl, rfl⟩
end
section
open Wd Tp Kd
structure RSt where
 at_ : Nat
 ts : List Wrd
 e : Int
 a : Int
def Okk (ws : List Wrd) (s : RSt) : Prop := s.at_ < ws.length ∧ ((s.e = 0 ∧ s.a = 0 ∧ Pos ws s.at_ s.ts) ∨ s.e ≠ 0)
def Stp {α : Type} (ws : List Wrd) (P : List Wrd → R α) (s : RSt) (x : α) (s' : RSt) : Prop :=
 Okk ws s' ∧ (s.e ≠ 0 → s' = s) ∧ (s.e = 0 → (∃ ts', P s.ts = .ok x ts' ∧ s'.e = 0 ∧ s'.ts = ts') ∨ (∃ e a, P s.ts = .bad e a ∧ s'.e = e ∧ s'.a = a ∧ e ≠ 0))
abbrev rf (b : Nat) (A : Option Addr) (c : Nat) (ws : List Wrd) (d : Nat) (s : RSt) : Ent := cel b [.slice A ws.length c, .int .i64 (s.at_ : Nat), .int .i64 (d : Nat), .int .i64 s.e, .int .i64 s.a] 67
theorem Okk.lt {ws : List Wrd} {s : RSt} (h : Okk ws s) : s.at_ < ws.length := h.1
theorem Okk.pos {ws : List Wrd} {s : RSt} (h : Okk ws s) (he : s.e = 0) : Pos ws s.at_ s.ts := by
 rcases h.2 with ⟨_, _, hp⟩ | hb
 ·exact hp
 ·exact absurd he hb
theorem Okk.a0 {ws : List Wrd} {s : RSt} (h : Okk ws s) (he : s.e = 0) : s.a = 0 := by
 rcases h.2 with ⟨_, ha, _⟩ | hb
 ·exact ha
 ·exact absurd he hb
theorem Stp.bad {α : Type} {ws : List Wrd} {P : List Wrd → R α} {s : RSt} {x : α} (h : Okk ws s) (he : s.e ≠ 0) : Stp ws P s x s := ⟨h, fun _ => rfl, fun h0 => absurd h0 he⟩
theorem Stp.pure {α : Type} {ws : List Wrd} {s : RSt} {x : α} (h : Okk ws s) : Stp ws (fun ts => .ok x ts) s x s := ⟨h, fun _ => rfl, fun h0 => .inl ⟨s.ts, rfl, h0, rfl⟩⟩
theorem Stp.bind {α β : Type} {ws : List Wrd} {P : List Wrd → R α} {Q : α → List Wrd → R β} {s s1 s2 : RSt} {x : α} {y : β} (h1 : Stp ws P s x s1) (h2 : Stp ws (Q x) s1 y s2) : Stp ws (fun ts => (P ts).bind Q) s y s2 := by
 obtain ⟨a1, b1, c1⟩ := h1;obtain ⟨a2, b2, c2⟩ := h2;refine ⟨a2, fun he => ?_, fun he => ?_⟩
 ·have := b1 he;subst this;exact b2 he
 ·rcases c1 he with ⟨ts', g1, g2, rfl⟩ | ⟨e, a, g1, g2, g3, g4⟩
  ·rcases c2 g2 with ⟨ts2, k1, k2, k3⟩ | ⟨e, a, k1, k2, k3, k4⟩
   ·exact .inl ⟨ts2, by show R.bind _ _ = _; rw [g1]; exact k1, k2, k3⟩
   ·exact .inr ⟨e, a, by show R.bind _ _ = _; rw [g1]; exact k1, k2, k3, k4⟩
  ·have := b2 (by rw [g2]; exact g4);subst this;exact .inr ⟨e, a, by show R.bind _ _ = _; rw [g1]; rfl, g2, g3, g4⟩
theorem Stp.congr {α : Type} {ws : List Wrd} {P Q : List Wrd → R α} {s s' : RSt} {x : α} (h : Stp ws P s x s') (he : s.e = 0 → P s.ts = Q s.ts) : Stp ws Q s x s' := ⟨h.1, h.2.1, fun h0 => by rw [← he h0]; exact h.2.2 h0⟩
theorem Stp.ok {α : Type} {ws : List Wrd} {P : List Wrd → R α} {s s' : RSt} {x : α} (h : Stp ws P s x s') : Okk ws s' := h.1
theorem Stp.len {α : Type} {ws : List Wrd} {P : List Wrd → R α} {s s' : RSt} {x : α} {w : α → Nat} {n : Nat} (h : Stp ws P s x s') (he : s.e = 0) (hE : Tp.Ends (P s.ts) w n) (h0 : s'.e = 0) : w x + s'.ts.length ≤ n := by
 rcases h.2.2 he with ⟨ts', g1, g2, rfl⟩ | ⟨e, a, g1, g2, g3, g4⟩
 ·exact hE.2 _ _ g1
 ·exact absurd (g2.symm.trans h0) g4
theorem Stp.was {α : Type} {ws : List Wrd} {P : List Wrd → R α} {s s' : RSt} {x : α} (h : Stp ws P s x s') (h0 : s'.e = 0) : s.e = 0 := by
 by_cases he : s.e = 0
 ·exact he
 ·rw [← h.2.1 he]; exact h0
theorem Okk.word {m : Mp} {A : Option Addr} {ws : List Wrd} {s : RSt} (hw : WsR m A ws) (h : Okk ws s) : ∃ w : Wrd, (s.e = 0 → w = hd s.ts) ∧ At m ((sa A).add (s.at_ * 4)) [.int .i8 w.kind, .string (bs w.text), .int .i64 w.n, .int .i64 w.at_] := by
 refine ⟨ws[s.at_]'h.1, fun he => (h.pos he).hdEq, ?_⟩;have h1 := hw.elem (s.at_ * 4) 4;rw [vq h.1] at h1;exact h1
theorem Okk.isSome {m : Mp} {A : Option Addr} {ws : List Wrd} {s : RSt} (hw : WsR m A ws) (h : Okk ws s) : A.isSome = true := hw.isSome (by have := h.1; rw [qH]; omega)
variable {m : Mp} {b c d : Nat} {A : Option Addr} {ws : List Wrd} {s : RSt} {str : List UInt8}
theorem fine23 : CS Tryz.prog 23 [ptr b] m [rf b A c ws d s] (fun v L' => v = .bool (decide (s.e = 0)) ∧ L' = [rf b A c ws d s]) := by
 refine zp [.tmp 2] Tryz.func23 rfl rfl rfl ?_;by_cases h : s.e = 0
 ·refine tr 11 ?_;refine Lb 0 sg27 .here ?_;refine cta 4 ?_;exact zM [_] ⟨rfl, trivial⟩ [_] .p0 ⟨by rw [decide_eq_true h]; rfl, rfl⟩
 ·refine tr 11 ?_;refine Lb 0 sg27 .here ?_;refine cfa 4 ?_;exact zM [_] ⟨rfl, trivial⟩ [_] .p0 ⟨by rw [decide_eq_false h]; rfl, rfl⟩
theorem is24 (hw : WsR m A ws) (hs : Okk ws s) (hsm : ws.length ≤ 65537) : CS Tryz.prog 24 [ptr b, .string (bs str)] m [rf b A c ws d s] (fun v L' => v = .bool (decide (s.e = 0) && isW str s.ts) ∧ L' = [rf b A c ws d s]) := by
 obtain ⟨w, hwd, hat⟩ := hs.word hw;have hA := hs.isSome hw;have hlt := hs.lt;refine zp [.tmp 4] Tryz.func24 rfl rfl rfl ?_;by_cases h : s.e = 0
 ·have hwd := hwd h;rw [decide_eq_true h, Bool.true_and];unfold isW;rw [← hwd];clear hwd;refine tr 6 ?_;refine zi (sT [0, 1, 2, 4, 5, 6, 103, 107, 8, 109, 210, 311] .done) mixed (by kernel_rfl) (fun _ _ _ _ hq => hq) ?_;refine vt 6 ?_;refine Vl 0 rfl sg51 .here ?_;refine Vl 0 rfl sg3 .here ?_;refine Vt 0 rfl (zE ez51 rfl rfl hA (by omega)) ?_
  refine Vu 0 rfl (zQ ag58 rfl rfl hat) ?_;refine zm rfl (z7 zl58 rfl (fun b1 => ?_)) rfl;refine zV rfl rfl (zT ag58 rfl rfl rfl .here rfl rfl ?_) rfl;refine Vm 4 ?_;refine C1 cl23 rfl .h1 (fun m' hm he => fine23) ?_;rintro _ _ ⟨rfl, rfl⟩;rw [decide_eq_true h];by_cases h1 : w.kind = 1
  ·by_cases ht : w.text = str
   ·refine vr 2 ?_;refine Lb 0 sg42 .h1 ?_;refine cta 8 ?_;refine Lb 1 sg9 .h1 ?_;refine cta 5 ?_;exact zM [_] ⟨rfl, trivial⟩ [_] .p0 ⟨by rw [decide_eq_true h1, decide_eq_true ht]; rfl, rfl⟩
   ·refine vr 2 ?_;refine Lb 0 sg42 .h1 ?_;refine cta 8 ?_;refine Lb 1 sg9 .h1 ?_;refine cfa 5 ?_;exact zM [_] ⟨rfl, trivial⟩ [_] .p0 ⟨by rw [decide_eq_false ht, Bool.and_false]; rfl, rfl⟩
  ·by_cases h3 : w.kind = 3
   ·by_cases ht : w.text = str
    ·refine vr 2 ?_;refine Lb 0 sg42 .h1 ?_;refine cfa 2 ?_;refine Lb 0 sg42 .h1 ?_;refine cta 4 ?_;refine Lb 1 sg9 .h1 ?_;refine cta 5 ?_;exact zM [_] ⟨rfl, trivial⟩ [_] .p0 ⟨by rw [decide_eq_true h3, decide_eq_true ht, Bool.or_true]; rfl, rfl⟩
    ·refine vr 2 ?_;refine Lb 0 sg42 .h1 ?_;refine cfa 2 ?_;refine Lb 0 sg42 .h1 ?_;refine cta 4 ?_;refine Lb 1 sg9 .h1 ?_;refine cfa 5 ?_;exact zM [_] ⟨rfl, trivial⟩ [_] .p0 ⟨by rw [decide_eq_false ht, Bool.and_false]; rfl, rfl⟩
   ·refine vr 2 ?_;refine Lb 0 sg42 .h1 ?_;refine cfa 2 ?_;refine Lb 0 sg42 .h1 ?_;refine cfa 12 ?_;exact zM [_] ⟨rfl, trivial⟩ [_] .p0 ⟨by rw [decide_eq_false h1, decide_eq_false h3]; rfl, rfl⟩
 ·rw [decide_eq_false h, Bool.false_and];refine tr 6 ?_;refine zi (sT [0, 1, 2, 4, 5, 6, 103, 107, 8, 109, 210, 311] .done) mixed (by kernel_rfl) (fun _ _ _ _ hq => hq) ?_;refine vt 6 ?_;refine Vl 0 rfl sg51 .here ?_;refine Vl 0 rfl sg3 .here ?_;refine Vt 0 rfl (zE ez51 rfl rfl hA (by omega)) ?_;refine Vu 0 rfl (zQ ag58 rfl rfl hat) ?_
  refine zm rfl (z7 zl58 rfl (fun b1 => ?_)) rfl;refine zV rfl rfl (zT ag58 rfl rfl rfl .here rfl rfl ?_) rfl;refine Vm 4 ?_;refine C1 cl23 rfl .h1 (fun m' hm he => fine23) ?_;rintro _ _ ⟨rfl, rfl⟩;rw [decide_eq_false h];refine vr 20 ?_;exact zM [_] ⟨rfl, trivial⟩ [_] .p0 ⟨rfl, rfl⟩
def RSt.flt (s : RSt) (e : Int) : RSt := if s.e = 0 then ⟨s.at_, s.ts, e, (hd s.ts).at_⟩ else s
theorem yX {α : Type} {x : α} {e : Int} (hs : Okk ws s) (he : e ≠ 0) : Stp ws (fun ts => (fail e ts : R α)) s x (s.flt e) := by
 unfold RSt.flt;by_cases h : s.e = 0
 ·rw [if_pos h];exact ⟨⟨hs.1, .inr he⟩, fun h2 => absurd h h2, fun _ => .inr ⟨e, _, rfl, rfl, rfl, he⟩⟩
 ·rw [if_neg h];exact Stp.bad hs h
theorem wrong25 (e : Int) (hw : WsR m A ws) (hs : Okk ws s) (hsm : ws.length ≤ 65537) : CS Tryz.prog 25 [ptr b, .int .i64 e] m [rf b A c ws d s] (fun v L' => v = U0 ∧ L' = [rf b A c ws d (s.flt e)]) := by
 obtain ⟨w, hwd, hat⟩ := hs.word hw;have hA := hs.isSome hw;have hlt := hs.lt;unfold RSt.flt;refine zp [] Tryz.func25 rfl rfl rfl ?_;refine tr 3 ?_;refine C1 cl23 rfl .here (fun m' hm he => fine23) ?_;rintro _ _ ⟨rfl, rfl⟩;by_cases h : s.e = 0
 ·rw [decide_eq_true h, if_pos h, ← hwd h];refine vr 3 ?_;refine zi (sT [0, 1, 2, 3, 4, 6, 7, 8, 105, 109, 10, 11, 112, 13, 14, 15, 316] .done) mixed (by kernel_rfl) (fun _ _ _ _ hq => hq) ?_;refine vt 8 ?_;refine Vl 0 rfl sg51 .here ?_;refine Vl 0 rfl sg3 .here ?_;refine Vt 1 rfl (zE ez51 rfl rfl hA (by omega)) ?_;refine Vu 0 rfl (zI sg3 rfl (hat.at_ rfl)) ?_
  refine Vt 2 rfl (zK zl29 pl29 rfl rfl) ?_;refine zV rfl rfl (ze ag29 rfl rfl rfl .here (.there (.there (.there (.cons (.cons .nil))))) rfl ?_) rfl;refine Vm 0 ?_;exact yu [] trivial [_] .p0 ⟨rfl, rfl⟩
 ·rw [decide_eq_false h, if_neg h];refine vr 4 ?_;exact yu [] trivial [_] .p0 ⟨rfl, rfl⟩
end
section
open Wd Tp Kd
variable {m : Mp} {b c d : Nat} {A : Option Addr} {ws : List Wrd} {s : RSt} {str : List UInt8}
abbrev RSt.nx (s : RSt) : RSt := ⟨s.at_ + 1, s.ts.tail, s.e, s.a⟩
theorem Okk.nx (h : Okk ws s) (he : s.e = 0) (hk : (hd s.ts).kind ≠ 0) : Okk ws s.nx := by
 have hp := (h.pos he).next hk;exact ⟨hp.lt, .inl ⟨he, h.a0 he, hp⟩⟩
theorem take77 (hw : WsR m A ws) (hs : Okk ws s) (hsm : ws.length ≤ 65537) : CS Tryz.prog 77 [ptr b, .string (bs str)] m [rf b A c ws d s]
  (fun v L' => (s.e = 0 ∧ isW str s.ts = true ∧ Okk ws s.nx ∧ v = .bool true ∧ L' = [rf b A c ws d s.nx]) ∨ ((s.e = 0 → isW str s.ts = false) ∧ v = .bool false ∧ L' = [rf b A c ws d s])) := by
 have hlt := hs.lt;refine zp [.tmp 4] Tryz.func77 rfl rfl rfl ?_;refine tr 10 ?_;refine C1 cl24 rfl .here (fun m' hm he => is24 (hw.mono hm) hs hsm) ?_;rintro _ _ ⟨rfl, rfl⟩;by_cases h : s.e = 0
 ·rw [decide_eq_true h, Bool.true_and];cases hk : isW str s.ts with
  | true =>
    refine vr 11 ?_;refine Lb 0 sg3 .here ?_;refine Pa 2 ?_;refine Sr 8 co3 .here .h1 ?_;exact zM [_] ⟨rfl, trivial⟩ [_] .p0 (.inl ⟨h, rfl, hs.nx h (xg hk), rfl, rfl⟩)
  | false =>
    refine vr 11 ?_;exact zM [_] ⟨rfl, trivial⟩ [_] .p0 (.inr ⟨fun _ => rfl, rfl, rfl⟩)
 ·rw [decide_eq_false h, Bool.false_and];refine vr 11 ?_;exact zM [_] ⟨rfl, trivial⟩ [_] .p0 (.inr ⟨fun h0 => absurd h0 h, rfl, rfl⟩)
def DcC {α : Type} (f : FuncId) (args : List Value) (m : Mp) (b : Nat) (A : Option Addr) (c : Nat) (ws : List Wrd) (d d' : Nat) (s : RSt) (P : List Wrd → R α) (V : α → Value → List Ent → Prop) : Prop :=
 CS Tryz.prog f args m [rf b A c ws d s] (fun v L' => ∃ x s' Es, Stp ws P s x s' ∧ V x v Es ∧ L' = rf b A c ws d' s' :: Es)
theorem v8 {α : Type} {P : List Wrd → R α} {x : α} (hs : Okk ws s) (he : s.e = 0) (hk : (hd s.ts).kind ≠ 0) (hP : P s.ts = .ok x s.ts.tail) : Stp ws P s x s.nx := ⟨hs.nx he hk, fun h => absurd he h, fun _ => .inl ⟨_, hP, he, rfl⟩⟩
theorem must79 (hw : WsR m A ws) (hs : Okk ws s) (hsm : ws.length ≤ 65537) : DcC 79 [ptr b, .string (bs str)] m b A c ws d d s (must str) uV := by
 refine zp [] Tryz.func79 rfl rfl rfl ?_;refine tr 4 ?_;refine C1 cl77 rfl .here (fun m' hm he => take77 (hw.mono hm) hs hsm) ?_;rintro _ _ (⟨h0, hk, hn, rfl, rfl⟩ | ⟨hk, rfl, rfl⟩)
 ·refine vr 5 ?_;exact yu [] trivial [_] .p0 ⟨(), _, [], v8 hs h0 (xg hk) (by rw [must, if_pos hk]), ⟨rfl, rfl⟩, rfl⟩
 ·refine vr 6 ?_;refine C1 cl25 rfl .here (fun m' hm he => wrong25 120 (hw.mono hm) hs hsm) ?_;rintro _ _ ⟨rfl, rfl⟩;refine vr 1 ?_;exact yu [] trivial [_] .p0 ⟨(), _, [], (yX hs (by decide)).congr (fun h0 => by rw [must, if_neg (by rw [hk h0]; decide)]), ⟨rfl, rfl⟩, rfl⟩
theorem number78 (hw : WsR m A ws) (hs : Okk ws s) (hsm : ws.length ≤ 65537) : DcC 78 [ptr b] m b A c ws d d s pNumber iiV := by
 obtain ⟨w, hwd, hat⟩ := hs.word hw;have hA := hs.isSome hw;have hlt := hs.lt;refine zp [.tmp 2] Tryz.func78 rfl rfl rfl ?_;refine tr 6 ?_;refine zi (sT [0, 1, 2, 4, 5, 6, 103, 107, 8, 109, 210, 311] .done) mixed (by kernel_rfl) (fun _ _ _ _ hq => hq) ?_;refine vt 6 ?_;refine Vl 0 rfl sg51 .here ?_;refine Vl 0 rfl sg3 .here ?_;refine Vt 0 rfl (zE ez51 rfl rfl hA (by omega)) ?_
 refine Vu 0 rfl (zQ ag58 rfl rfl hat) ?_;refine zm rfl (z7 zl58 rfl (fun b1 => ?_)) rfl;refine zV rfl rfl (zT ag58 rfl rfl rfl .here rfl rfl ?_) rfl;refine Vm 5 ?_;refine C1 cl23 rfl .h1 (fun m' hm he => fine23) ?_;rintro _ _ ⟨rfl, rfl⟩;by_cases h : s.e = 0
 ·have hwd := hwd h;subst hwd;rw [decide_eq_true h];by_cases h2 : (hd s.ts).kind = 2
  ·refine vr 3 ?_;refine Lb 0 sg42 .h1 ?_;refine cfo 11 ?_;refine Lb 0 sg3 .here ?_;refine Pa 2 ?_;refine Sr 5 co3 .here .h1 ?_;refine Lb 4 sg3 .h1 ?_;exact zM [_] ⟨rfl, trivial⟩ [_] .p0 ⟨_, s.nx, [], v8 hs h (by omega) (by rw [pNumber, if_pos h2]), ⟨rfl, rfl⟩, rfl⟩
  ·refine vr 3 ?_;refine Lb 0 sg42 .h1 ?_;refine cta 7 ?_;refine C1 cl25 rfl .here (fun m' hm he => wrong25 120 (hw.mono hm) hs hsm) ?_;rintro _ _ ⟨rfl, rfl⟩;refine vr 9 ?_;exact zM [_] ⟨rfl, trivial⟩ [_] .p0 ⟨0, _, [], (yX hs (by decide)).congr (fun h0 => by rw [pNumber, if_neg h2]), ⟨rfl, rfl⟩, rfl⟩
 ·rw [decide_eq_false h];refine vr 12 ?_;refine C1 cl25 rfl .here (fun m' hm he => wrong25 120 (hw.mono hm) hs hsm) ?_;rintro _ _ ⟨rfl, rfl⟩;refine vr 9 ?_;exact zM [_] ⟨rfl, trivial⟩ [_] .p0 ⟨0, _, [], (yX hs (by decide)).congr (fun h0 => absurd h0 h), ⟨rfl, rfl⟩, rfl⟩
end
section
open Wd Tp Kd
variable {m : Mp} {b c d : Nat} {A : Option Addr} {ws : List Wrd} {s : RSt} {str : List UInt8}
abbrev tV2 : List UInt8 → Value → List Ent → Prop := fun x v Es => v = .string (bs x) ∧ Es = [] ∧ x.length ≤ 65536
theorem name76 (hw : WsR m A ws) (hs : Okk ws s) (hsm : ws.length ≤ 65537) : DcC 76 [ptr b] m b A c ws d d s pName tV2 := by
 obtain ⟨w, hwd, hat⟩ := hs.word hw;have hA := hs.isSome hw;have hlt := hs.lt;refine zp [.tmp 2] Tryz.func76 rfl rfl rfl ?_;refine tr 6 ?_;refine zi (sT [0, 1, 2, 4, 5, 6, 103, 107, 8, 109, 210, 311] .done) mixed (by kernel_rfl) (fun _ _ _ _ hq => hq) ?_;refine vt 6 ?_;refine Vl 0 rfl sg51 .here ?_;refine Vl 0 rfl sg3 .here ?_;refine Vt 0 rfl (zE ez51 rfl rfl hA (by omega)) ?_
 refine Vu 0 rfl (zQ ag58 rfl rfl hat) ?_;refine zm rfl (z7 zl58 rfl (fun b1 => ?_)) rfl;refine zV rfl rfl (zT ag58 rfl rfl rfl .here rfl rfl ?_) rfl;refine Vm 5 ?_;refine C1 cl23 rfl .h1 (fun m' hm he => fine23) ?_;rintro _ _ ⟨rfl, rfl⟩;by_cases h : s.e = 0
 ·have hwd := hwd h;subst hwd;have hp := hs.pos h;rw [decide_eq_true h];by_cases h1 : (hd s.ts).kind = 1
  ·refine vr 3 ?_;refine Lb 0 sg42 .h1 ?_;refine cfo 3 ?_;refine Lb 0 sg9 .h1 ?_;refine Cr cl95 rfl (fun m' hm he => (OwnR_ok (hd s.ts).text)) ?_;rintro _ rfl;cases ho : ownP (hd s.ts).text with
   | false =>
     refine vr 11 ?_;refine Lb 0 sg3 .here ?_;refine Pa 2 ?_;refine Sr 5 co3 .here .h1 ?_;refine Lb 4 sg9 .h1 ?_;exact zM [_] ⟨rfl, trivial⟩ [_] .p0 ⟨_, s.nx, [], v8 hs h (by omega) (by rw [pName, if_pos ⟨h1, ho⟩]), ⟨rfl, rfl, hp.good.text (by omega)⟩, rfl⟩
   | true =>
     refine vr 7 ?_;refine C1 cl25 rfl .here (fun m' hm he => wrong25 120 (hw.mono hm) hs hsm) ?_;rintro _ _ ⟨rfl, rfl⟩;refine vr 9 ?_;exact zM [_] ⟨rfl, trivial⟩ [_] .p0 ⟨[], _, [], (yX hs (by decide)).congr (fun h0 => by rw [pName, if_neg (fun h2 => by rw [ho] at h2; cases h2.2)]), ⟨rfl, rfl, by decide⟩, rfl⟩
  ·refine vr 3 ?_;refine Lb 0 sg42 .h1 ?_;refine cta 12 ?_;refine C1 cl25 rfl .here (fun m' hm he => wrong25 120 (hw.mono hm) hs hsm) ?_;rintro _ _ ⟨rfl, rfl⟩;refine vr 9 ?_;exact zM [_] ⟨rfl, trivial⟩ [_] .p0 ⟨[], _, [], (yX hs (by decide)).congr (fun h0 => by rw [pName, if_neg (fun h2 => h1 h2.1)]), ⟨rfl, rfl, by decide⟩, rfl⟩
 ·rw [decide_eq_false h];refine vr 17 ?_;refine C1 cl25 rfl .here (fun m' hm he => wrong25 120 (hw.mono hm) hs hsm) ?_;rintro _ _ ⟨rfl, rfl⟩;refine vr 9 ?_;exact zM [_] ⟨rfl, trivial⟩ [_] .p0 ⟨[], _, [], (yX hs (by decide)).congr (fun h0 => absurd h0 h), ⟨rfl, rfl, by decide⟩, rfl⟩
theorem in133 (hw : WsR m A ws) (hs : Okk ws s) (hsm : ws.length ≤ 65537) (hd1 : d ≤ 1000) : DcC 133 [ptr b] m b A c ws d (d + 1) s (pIn d) uV := by
 refine zp [] Tryz.func133 rfl rfl rfl ?_;by_cases h8 : 8 < d + 1
 ·refine tr 5 ?_;refine Lb 0 sg3 .here ?_;refine Pa 2 ?_;refine Sr 7 co3 .here .h2 ?_;refine Lb 0 sg3 .here ?_;refine cto 5 ?_;refine C1 cl25 rfl .here (fun m' hm he => wrong25 (d := d + 1) 121 (hw.mono hm) hs hsm) ?_;rintro _ _ ⟨rfl, rfl⟩;refine vr 1 ?_;exact yu [] trivial [_] .p0 ⟨(), _, [], (yX hs (by decide)).congr (fun h0 => by rw [pIn, if_pos h8]), ⟨rfl, rfl⟩, rfl⟩
 ·refine tr 5 ?_;refine Lb 0 sg3 .here ?_;refine Pa 2 ?_;refine Sr 7 co3 .here .h2 ?_;refine Lb 0 sg3 .here ?_;refine cfo 4 ?_;exact yu [] trivial [_] .p0 ⟨(), s, [], (Stp.pure hs).congr (fun h0 => by rw [pIn, if_neg h8]), ⟨rfl, rfl⟩, rfl⟩
theorem out135 (hd1 : d ≤ 1000) : CS Tryz.prog 135 [ptr b] m [rf b A c ws (d + 1) s] (fun v L' => v = U0 ∧ L' = [rf b A c ws d s]) := by
 refine zp [] Tryz.func135 rfl rfl rfl ?_;refine tr 4 ?_;refine Lb 0 sg3 .here ?_;refine pe 2 (y4 rfl rfl (w64 (by omega) (by omega))) ?_;refine Sr 1 co3 .here .h2 ?_;rw [show ((d + 1 : Nat) : Int) - 1 = (d : Nat) by omega];exact yu [] trivial [_] .p0 ⟨rfl, rfl⟩
theorem zS {s t : List UInt8} {ts : List Wrd} (h : isW s ts = true) (hne : s ≠ t) : isW t ts = false := by
 unfold isW at *;simp only [Bool.and_eq_true, decide_eq_true_eq] at h;rw [h.2, decide_eq_false hne, Bool.and_false]
def pWhoB (t : Bool) (ts : List Wrd) : R Int := if t then pWho ts else pSide ts
theorem Xw {t : Bool} {ts : List Wrd} (h : isW sMe ts = true) : pWhoB t ts = .ok 0 ts.tail := by
 unfold pWhoB pWho pSide;rw [zS h (by decide : sMe ≠ sTarget), h];cases t <;> rfl
theorem Yh {t : Bool} {ts : List Wrd} (h : isW sFoe ts = true) : pWhoB t ts = .ok 1 ts.tail := by
 unfold pWhoB pWho pSide;rw [zS h (by decide : sFoe ≠ sTarget), zS h (by decide : sFoe ≠ sMe), h];cases t <;> rfl
theorem jw {ts : List Wrd} (h : isW sTarget ts = true) : pWhoB true ts = .ok 2 ts.tail := by
 unfold pWhoB pWho;rw [h]
 rfl
theorem qa {t : Bool} {ts : List Wrd} (h1 : isW sMe ts = false) (h2 : isW sFoe ts = false) (h3 : t = true → isW sTarget ts = false) : pWhoB t ts = fail 120 ts := by
 unfold pWhoB pWho pSide;cases t with
 | true => rw [h1, h2, h3 rfl]; rfl
 | false => rw [h1, h2]; rfl
abbrev bV2 : Int → Value → List Ent → Prop := fun x v Es => v = .int .i8 x ∧ Es = [] ∧ In8 x
theorem who131 {t : Bool} (hw : WsR m A ws) (hs : Okk ws s) (hsm : ws.length ≤ 65537) : DcC 131 [ptr b, .bool t] m b A c ws d d s (pWhoB t) bV2 := by
 refine zp [.tmp 4] Tryz.func131 rfl rfl rfl ?_;refine tr 10 ?_;refine C1 cl77 rfl .here (fun m' hm he => take77 (str := sMe) (hw.mono hm) hs hsm) ?_;rintro _ _ (⟨h0, hk, hn, rfl, rfl⟩ | ⟨hk, rfl, rfl⟩)
 ·refine vr 12 ?_;exact zM [_] ⟨rfl, trivial⟩ [_] .p0 ⟨0, _, [], v8 hs h0 (xg hk) (Xw hk), ⟨rfl, rfl, by decide, by decide⟩, rfl⟩
 refine vr 7 ?_;refine C1 cl77 rfl .here (fun m' hm he => take77 (str := sFoe) (hw.mono hm) hs hsm) ?_;rintro _ _ (⟨h0, hk2, hn, rfl, rfl⟩ | ⟨hk2, rfl, rfl⟩)
 ·refine vr 12 ?_;exact zM [_] ⟨rfl, trivial⟩ [_] .p0 ⟨1, _, [], v8 hs h0 (xg hk2) (Yh hk2), ⟨rfl, rfl, by decide, by decide⟩, rfl⟩
 cases t with
 | true =>
   refine vr 9 ?_;refine C1 cl77 rfl .here (fun m' hm he => take77 (str := sTarget) (hw.mono hm) hs hsm) ?_;rintro _ _ (⟨h0, hk3, hn, rfl, rfl⟩ | ⟨hk3, rfl, rfl⟩)
   ·refine vr 13 ?_;exact zM [_] ⟨rfl, trivial⟩ [_] .p0 ⟨2, _, [], v8 hs h0 (xg hk3) (jw hk3), ⟨rfl, rfl, by decide, by decide⟩, rfl⟩
   refine vr 11 ?_;refine C1 cl25 rfl .here (fun m' hm he => wrong25 120 (hw.mono hm) hs hsm) ?_;rintro _ _ ⟨rfl, rfl⟩;refine vr 8 ?_;exact zM [_] ⟨rfl, trivial⟩ [_] .p0 ⟨0, _, [], (yX hs (by decide)).congr (fun h0 => (qa (hk h0) (hk2 h0) fun _ => hk3 h0).symm), ⟨rfl, rfl, by decide, by decide⟩, rfl⟩
 | false =>
   refine vr 21 ?_;refine C1 cl25 rfl .here (fun m' hm he => wrong25 120 (hw.mono hm) hs hsm) ?_;rintro _ _ ⟨rfl, rfl⟩;refine vr 8 ?_;exact zM [_] ⟨rfl, trivial⟩ [_] .p0 ⟨0, _, [], (yX hs (by decide)).congr (fun h0 => (qa (hk h0) (hk2 h0) fun h => by cases h).symm), ⟨rfl, rfl, by decide, by decide⟩, rfl⟩
end
section
open Wd Tp Kd
variable {m : Mp} {b c d : Nat} {A : Option Addr} {ws : List Wrd} {s : RSt} {str : List UInt8}
theorem Stp.nx {α : Type} {P Q : List Wrd → R α} {x : α} {s' : RSt} (he : s.e = 0) (hP : P s.ts = Q s.ts.tail) (h : Stp ws Q s.nx x s') : Stp ws P s x s' := ⟨h.1, fun h0 => absurd he h0, fun _ => by rw [hP]; exact h.2.2 he⟩
theorem X8 {s : List UInt8} {ts : List Wrd} (h : (hd ts).kind = 2) : isW s ts = false := by
 unfold isW;rw [h]
 rfl
section
variable {sum : Nat → List Wrd → R NumT} {ts : List Wrd}
theorem Xy (h : (hd ts).kind = 2) : pOne sum d ts = .ok (plainN 0 (hd ts).n 0) ts.tail := by
 unfold pOne;rw [X8 h, if_neg (by decide), if_pos h]
theorem ug {k : List UInt8} (h : isW k ts = true) (hk : k ≠ sOpen) : pOne sum d ts = (match whos.find? fun s => isW s.1 ts with
 | some s => (must sOpen ts.tail).bind fun _ ts => (pSide ts).bind fun w ts => (must sClose ts).bind fun _ ts => .ok (plainN s.2 0 w) ts
 | none =>
   if isW sMana ts then (musts [sOpen, sMe, sClose] ts.tail).bind fun _ ts => .ok (plainN 5 0 0) ts
   else if isW sCost ts then (musts [sOpen, sTop, sOpen, sMe, sClose, sClose] ts.tail).bind fun _ ts => .ok (plainN 6 0 0) ts
   else if isW sPower ts then (musts [sOpen, sTarget, sClose] ts.tail).bind fun _ ts => .ok (plainN 7 0 0) ts
   else if isW sMin ts then (pBr sum true d ts.tail).bind fun x ts => .ok (putN 11 x.1 x.2) ts
   else if isW sMax ts then (pBr sum true d ts.tail).bind fun x ts => .ok (putN 12 x.1 x.2) ts
   else fail 120 ts) := by
 have h2 : (hd ts).kind ≠ 2 := fun e => by rw [X8 e] at h; cases h
 conv => lhs; unfold pOne
 rw [zS h hk, if_neg (by decide), if_neg h2]
 rfl
theorem wR {k : List UInt8} (h : isW k ts = true) (hk : ∀ s ∈ whos, k ≠ s.1) : (whos.find? fun s => isW s.1 ts) = none := by
 rw [List.find?_eq_none];intro s hs;rw [zS h (hk s hs)]
 decide
theorem Xx {i : Nat} (hi : i < whos.length) (h : isW whos[i].1 ts = true) : pOne sum d ts = (must sOpen ts.tail).bind fun _ ts => (pSide ts).bind fun w ts => (must sClose ts).bind fun _ ts => .ok (plainN whos[i].2 0 w) ts := by
 have hu : ∀ i : Fin 4, ∀ j : Fin 4, j.1 < i.1 → (whos[i.1]'i.2).1 ≠ (whos[j.1]'j.2).1 := by decide
 have ho : ∀ i : Fin 4, (whos[i.1]'i.2).1 ≠ sOpen := by decide
 rw [ug h (ho ⟨i, hi⟩), xH hi h (fun j hj hji => zS h (hu ⟨i, hi⟩ ⟨j, hj⟩ hji))]
theorem Ym (h : isW sMana ts = true) : pOne sum d ts = (musts [sOpen, sMe, sClose] ts.tail).bind fun _ ts => .ok (plainN 5 0 0) ts := by
 rw [ug h (by decide), wR h (by decide)];dsimp only;rw [if_pos h]
theorem Yn (h : isW sCost ts = true) : pOne sum d ts = (musts [sOpen, sTop, sOpen, sMe, sClose, sClose] ts.tail).bind fun _ ts => .ok (plainN 6 0 0) ts := by
 rw [ug h (by decide), wR h (by decide)];dsimp only;rw [zS h (by decide : sCost ≠ sMana), if_neg (by decide), if_pos h]
theorem Zb (h : isW sPower ts = true) : pOne sum d ts = (musts [sOpen, sTarget, sClose] ts.tail).bind fun _ ts => .ok (plainN 7 0 0) ts := by
 rw [ug h (by decide), wR h (by decide)];dsimp only;rw [zS h (by decide : sPower ≠ sMana), zS h (by decide : sPower ≠ sCost), if_neg (by decide), if_neg (by decide), if_pos h]
theorem ka (h : isW sMin ts = true) : pOne sum d ts = (pBr sum true d ts.tail).bind fun x ts => .ok (putN 11 x.1 x.2) ts := by
 rw [ug h (by decide), wR h (by decide)];dsimp only;rw [zS h (by decide : sMin ≠ sMana), zS h (by decide : sMin ≠ sCost), zS h (by decide : sMin ≠ sPower), if_neg (by decide), if_neg (by decide), if_neg (by decide), if_pos h]
theorem kb (h : isW sMax ts = true) : pOne sum d ts = (pBr sum true d ts.tail).bind fun x ts => .ok (putN 12 x.1 x.2) ts := by
 rw [ug h (by decide), wR h (by decide)];dsimp only;rw [zS h (by decide : sMax ≠ sMana), zS h (by decide : sMax ≠ sCost), zS h (by decide : sMax ≠ sPower), zS h (by decide : sMax ≠ sMin), if_neg (by decide), if_neg (by decide), if_neg (by decide), if_neg (by decide), if_pos h]
theorem Yj (h : isW sOpen ts = true) : pOne sum d ts = (pBr sum false d ts).bind fun x ts => .ok x.1 ts := by
 unfold pOne;rw [if_pos h]
theorem Yk (h2 : (hd ts).kind ≠ 2) (ho : isW sOpen ts = false) (hw : ∀ (i : Nat) (h : i < whos.length), isW whos[i].1 ts = false) (h3 : isW sMana ts = false) (h4 : isW sCost ts = false) (h5 : isW sPower ts = false) (h6 : isW sMin ts = false) (h7 : isW sMax ts = false) : pOne sum d ts = fail 120 ts := by
 unfold pOne;rw [ho, if_neg (by decide), if_neg h2, wK hw];dsimp only;rw [h3, h4, h5, h6, h7]
 rfl
end
abbrev z4 : List Value := [.int .i8 0, .int .i64 0, .int .i8 0, .slice none 0 0]
theorem two156 {op : Int} {q r : NumC} : CS Tryz.prog 156 [.int .i8 op, .agg q.v.toArray, .agg r.v.toArray] m [] (fun v L' => ∃ K, v = .agg [.int .i8 op, .int .i64 0, .int .i8 0, .slice (some ⟨K, 0, none⟩) 2 2].toArray ∧ L' = [cel K (q.v ++ r.v) 45]) := by
 refine zp [.cell 6 45] Tryz.func156 rfl rfl rfl ?_;refine tr 2 ?_;refine Bx 0 rfl fun b1 => ?_;refine Bx 0 rfl fun b2 => ?_;refine Al 5 zl45 fun b3 => ?_;refine Lc 0 ag45 .h2 ?_;refine Lc 0 ag45 .h1 ?_;refine Bs 0 sl43 fun b4 => ?_;refine pe 0 (zK zl45 pl45 rfl rfl) ?_;refine Sg 3 ag45 .h1 ?_;exact zM [_] ⟨⟨b3, _, _, _, rfl, .h1, .inr ⟨rfl, rfl⟩⟩, trivial⟩ _ .p0 ⟨b4, rfl, rfl⟩
theorem YA (hw : WsR m A ws) (hs : Okk ws s) (hsm : ws.length ≤ 65537) (hb : s.e ≠ 0) : CS Tryz.prog 175 [ptr b] m [rf b A c ws d s] (fun v L' => v = .agg z4.toArray ∧ L' = [rf b A c ws d s, pack []]) := by
 obtain ⟨w, hwd, hat⟩ := hs.word hw;have hA := hs.isSome hw;have hlt := hs.lt;refine zp [.cell 2 45] Tryz.func175 rfl rfl rfl ?_;refine tr 2 ?_;refine Al 3 zl45 fun b1 => ?_;refine zi (sT [0, 1, 2, 4, 5, 6, 103, 107, 8, 109, 210, 311] .done) mixed (by kernel_rfl) (fun _ _ _ _ hq => hq) ?_;refine vt 6 ?_;refine Vl 0 rfl sg51 .h1 ?_;refine Vl 0 rfl sg3 .h1 ?_
 refine Vt 0 rfl (zE ez51 rfl rfl hA (by omega)) ?_;refine Vu 0 rfl (zQ ag58 rfl rfl hat) ?_;refine zm rfl (z7 zl58 rfl (fun b2 => ?_)) rfl;refine zV rfl rfl (zT ag58 rfl rfl rfl .here rfl rfl ?_) rfl;refine Vm 5 ?_;refine C1 cl23 rfl .h2 (fun m' hm he => fine23) ?_;rintro _ _ ⟨rfl, rfl⟩;rw [decide_eq_false hb];refine vr 12 ?_;refine Bs 10 sl61 fun b3 => ?_
 refine zO .here (fun ns hi _ hd => ?_);have hX : Rd (uni m ns) (some ⟨b3, 0, none⟩) (([] :: whos.map (·.1)).map strV) := (Rd.blk hi).mono (zb hd);have hl2 : Le m (uni m ns) := zW _ _;have hw := hw.mono hl2;clear hi hd hat hwd
 refine zc (α := Nat) (fun i => [(0, ptr b), (2, ptr b1), (4, .slice (some ⟨b3, 0, none⟩) 5 5), (5, .int .i64 (i : Nat))]) (fun _ => [rf b A c ws d s, cel b1 z4 45]) (fun i => 1 ≤ i ∧ i ≤ 5) (fun i => 5 - i) 1 ⟨rfl, rfl, rfl, rfl, trivial⟩ (.cons .here .p1) ⟨Nat.le_refl _, by decide⟩ ?_;rintro i ⟨hi1, hi⟩;by_cases h5 : i < 5
 ·have hcx := hX.at_ (i := i) (u := strV (([] :: whos.map (·.1))[i]'h5)) (by rw [List.getElem?_map, List.getElem?_eq_getElem h5]; rfl);generalize ([] :: whos.map (·.1))[i]'h5 = str at hcx;refine tr 6 ?_;refine cto 12 ?_;refine pe 0 (zH ez61 rfl rfl (hX.isSome (by simp <;> omega)) (by omega)) ?_;refine Lo 0 sg9 rfl hcx ?_
  refine C1 cl77 rfl .here (fun m' hm he => take77 (str := str) (hw.mono hm) hs hsm) ?_;rintro _ _ (⟨h0, -, -, -, -⟩ | ⟨-, rfl, rfl⟩)
  ·exact absurd h0 hb
  refine vr 8 ?_;refine Pa 2 ?_;exact QR (i + 1) (Pick.refl _) ⟨by omega, by omega⟩ (by omega)
 refine tr 6 ?_;refine cfo 5 ?_;refine zD ?_;refine zB ?_;refine qt 6 ?_;refine C1 cl77 rfl .here (fun m' hm he => take77 (str := sMana) (hw.mono hm) hs hsm) ?_;rintro _ _ (⟨h0, -, -, -, -⟩ | ⟨-, rfl, rfl⟩)
 ·exact absurd h0 hb
 refine vr 7 ?_;refine C1 cl77 rfl .here (fun m' hm he => take77 (str := sCost) (hw.mono hm) hs hsm) ?_;rintro _ _ (⟨h0, -, -, -, -⟩ | ⟨-, rfl, rfl⟩)
 ·exact absurd h0 hb
 refine vr 7 ?_;refine C1 cl77 rfl .here (fun m' hm he => take77 (str := sPower) (hw.mono hm) hs hsm) ?_;rintro _ _ (⟨h0, -, -, -, -⟩ | ⟨-, rfl, rfl⟩)
 ·exact absurd h0 hb
 refine vr 7 ?_;refine C1 cl24 rfl .here (fun m' hm he => is24 (str := sMin) (hw.mono hm) hs hsm) ?_;rintro _ _ ⟨rfl, rfl⟩;rw [decide_eq_false hb, Bool.false_and];refine vr 2 ?_;refine C1 cl24 rfl .here (fun m' hm he => is24 (str := sMax) (hw.mono hm) hs hsm) ?_;rintro _ _ ⟨rfl, rfl⟩;rw [decide_eq_false hb, Bool.false_and];refine vr 8 ?_
 refine C1 cl24 rfl .here (fun m' hm he => is24 (str := sOpen) (hw.mono hm) hs hsm) ?_;rintro _ _ ⟨rfl, rfl⟩;rw [decide_eq_false hb, Bool.false_and];refine vr 10 ?_;refine C1 cl25 rfl .here (fun m' hm he => wrong25 120 (hw.mono hm) hs hsm) ?_;rintro _ _ ⟨rfl, rfl⟩;have hfl : s.flt 120 = s := by unfold RSt.flt; rw [if_neg hb]
 rw [hfl];refine vr 4 ?_;refine pe 0 (zK zl45 pl45 rfl rfl) ?_;refine Sg 3 ag45 .h1 ?_;exact yZ hl2 [_] ⟨⟨b1, _, _, _, rfl, .h1, .inr ⟨rfl, rfl⟩⟩, trivial⟩ _ (.cons .here (Pick.nilE (.nil _))) ⟨rfl, rfl⟩
end
section
open Wd Tp Kd
variable {m : Mp} {b c d : Nat} {A : Option Addr} {ws : List Wrd} {s : RSt} {str : List UInt8}
theorem Stp.le {α : Type} {P : List Wrd → R α} {x : α} {s s' : RSt} {w : α → Nat} (h : Stp ws P s x s') (hE : s.e = 0 → Tp.Ends (P s.ts) w s.ts.length) : s'.e = 0 → s.e = 0 ∧ w x + s'.ts.length ≤ s.ts.length := fun h0 => ⟨h.was h0, h.len (h.was h0) (hE (h.was h0)) h0⟩
theorem u5 {x : Unit} {s s' : RSt} (h : Stp ws (pIn d) s x s') : s'.e = 0 → s.e = 0 ∧ d + 1 ≤ 8 ∧ s'.ts.length = s.ts.length := fun h0 => by
 have he := h.was h0;refine ⟨he, ?_⟩;rcases h.2.2 he with ⟨ts', g1, g2, g3⟩ | ⟨e, a, g1, g2, g3, g4⟩
 ·unfold pIn at g1
  split at g1
  ·cases g1
  ·cases g1;exact ⟨by omega, by rw [g3]⟩
 ·exact absurd (g2.symm.trans h0) g4
def SumD (m : Mp) (b : Nat) (A : Option Addr) (c : Nat) (ws : List Wrd) (sum : Nat → List Wrd → R NumT) (n : Nat) : Prop :=
 ∀ m', Le m m' → ∀ (d : Nat) (s : RSt), Okk ws s → d ≤ 9 → (s.e = 0 → d ≤ 8 ∧ s.ts.length < n) → DcC 132 [ptr b] m' b A c ws d d s (sum d) numV
theorem SumD.mono {m m' : Mp} {sum : Nat → List Wrd → R NumT} {n : Nat} (h : SumD m b A c ws sum n) (hl : Le m m') : SumD m' b A c ws sum n := fun m2 h2 => h m2 (hl.trans h2)
theorem CS.numBad {α : Type} {f : FuncId} {P : List Wrd → R NumT} (hs : Okk ws s) (hb : s.e ≠ 0) (h : CS Tryz.prog f [ptr b] m [rf b A c ws d s] (fun v L' => v = .agg z4.toArray ∧ L' = [rf b A c ws d s, pack []])) : DcC f [ptr b] m b A c ws d d s P numV :=
 CS.mono h fun v L' ⟨hv, hL⟩ => ⟨plainN 0 0 0, s, [pack []], Stp.bad hs hb, ⟨⟨0, 0, 0, none, 0, 0⟩, pack [], hv, rfl, fun ns _ => numPlain (op := 0) ⟨by decide, by decide⟩⟩, hL⟩
theorem XX : ∀ i : Fin 4, (whos[i.1]'i.2).2 = (i.1 : Int) + 1 := by decide
theorem one175 {sum : Nat → List Wrd → R NumT} {k : Nat} (hw : WsR m A ws) (hs : Okk ws s) (hsm : ws.length ≤ 65537) (hd9 : d ≤ 9) (hok : s.e = 0 → d ≤ 8 ∧ s.ts.length < k + 1) (hse : ∀ d ts, ts.length < k → Tp.Ends (sum d ts) numW ts.length) (hsum : SumD m b A c ws sum k) : DcC 175 [ptr b] m b A c ws d d s (pOne sum d) numV := by
 by_cases hb : s.e = 0
 rotate_left
 ·exact CS.numBad (α := Unit) hs hb (YA hw hs hsm hb)
 obtain ⟨hd8, hlen⟩ := hok hb;obtain ⟨w, hwd, hat⟩ := hs.word hw;have hwd := hwd hb;subst hwd;have hA := hs.isSome hw;have hlt := hs.lt;refine zp [.cell 2 45] Tryz.func175 rfl rfl rfl ?_;refine tr 2 ?_;refine Al 3 zl45 fun b1 => ?_;refine zi (sT [0, 1, 2, 4, 5, 6, 103, 107, 8, 109, 210, 311] .done) mixed (by kernel_rfl) (fun _ _ _ _ hq => hq) ?_;refine vt 6 ?_;refine Vl 0 rfl sg51 .h1 ?_
 refine Vl 0 rfl sg3 .h1 ?_;refine Vt 0 rfl (zE ez51 rfl rfl hA (by omega)) ?_;refine Vu 0 rfl (zQ ag58 rfl rfl hat) ?_;refine zm rfl (z7 zl58 rfl (fun b2 => ?_)) rfl;refine zV rfl rfl (zT ag58 rfl rfl rfl .here rfl rfl ?_) rfl;refine Vm 5 ?_;refine C1 cl23 rfl .h2 (fun m' hm he => fine23) ?_;rintro _ _ ⟨rfl, rfl⟩;rw [decide_eq_true hb]
 by_cases hk2 : (hd s.ts).kind = 2
 ·refine vr 2 ?_;refine Lb 0 sg42 .h1 ?_;refine cta 9 ?_;refine Lb 0 sg3 .here ?_;refine Pa 2 ?_;refine Sr 5 co3 .here .h1 ?_;refine Lb 0 sg3 .h1 ?_;refine pe 0 (zK zl45 pl45 rfl rfl) ?_;refine Sg 4 ag45 .h2 ?_
  exact zM [_] ⟨⟨b1, _, _, _, rfl, .h2, .inr ⟨rfl, rfl⟩⟩, trivial⟩ _ (.cons .here (Pick.nilE (.nil _))) ⟨_, s.nx, [pack []], v8 hs hb (by omega) (Xy hk2), ⟨⟨0, (hd s.ts).n, 0, none, 0, 0⟩, pack [], rfl, rfl, fun ns _ => numPlain (op := 0) ⟨by decide, by decide⟩⟩, rfl⟩
 refine vr 2 ?_;refine Lb 0 sg42 .h1 ?_;refine cfa 8 ?_;refine Bs 10 sl61 fun b3 => ?_;refine zO .here (fun ns hi _ hd => ?_);have hX : Rd (uni m ns) (some ⟨b3, 0, none⟩) (([] :: whos.map (·.1)).map strV) := (Rd.blk hi).mono (zb hd);have hl2 : Le m (uni m ns) := zW _ _;have hw := hw.mono hl2;have hsum := hsum.mono hl2;clear hi hd hat
 refine zc (α := Nat) (fun i => [(0, ptr b), (2, ptr b1), (4, .slice (some ⟨b3, 0, none⟩) 5 5), (5, .int .i64 (i : Nat))]) (fun _ => [rf b A c ws d s, cel b1 z4 45]) (fun i => 1 ≤ i ∧ i ≤ 5 ∧ ∀ (j : Nat) (hj : j < whos.length), j + 1 < i → isW whos[j].1 s.ts = false) (fun i => 5 - i) 1 ⟨rfl, rfl, rfl, rfl, trivial⟩ (.cons .here .p1) ⟨Nat.le_refl _, by decide, fun j hj h => by omega⟩ ?_
 rintro i ⟨hi1, hi, hno⟩;by_cases h5 : i < 5
 ·obtain ⟨j, rfl⟩ : ∃ j, i = j + 1 := ⟨i - 1, by omega⟩;have hj4 : j < whos.length := by show j < 4; omega
  have hcx := hX.at_ (i := j + 1) (u := strV whos[j].1) (by rw [List.getElem?_map, List.getElem?_cons_succ, List.getElem?_map, List.getElem?_eq_getElem hj4]; rfl);have hop := XX ⟨j, hj4⟩;have hPw := fun h => Xx (sum := sum) (d := d) (ts := s.ts) hj4 h
  have hno2 : isW whos[j].1 s.ts = false → ∀ (j' : Nat) (hj : j' < whos.length), j' + 1 < j + 1 + 1 → isW whos[j'].1 s.ts = false := fun h j' hj' h2 => by
   by_cases he : j' = j
   ·subst he; exact h
   ·exact hno j' hj' (by omega)
  have hop : whos[j].2 = ((j + 1 : Nat) : Int) := hop;rw [hop] at hPw;clear hop;generalize whos[j] = sg at hcx hPw hno2;refine tr 6 ?_;refine cto 12 ?_;refine pe 0 (zH ez61 rfl rfl (hX.isSome (by simp <;> omega)) (by omega)) ?_;refine Lo 0 sg9 rfl hcx ?_;refine C1 cl77 rfl .here (fun m' hm he => take77 (str := sg.1) (hw.mono hm) hs hsm) ?_
  rintro _ _ (⟨-, hk, hn, rfl, rfl⟩ | ⟨hk, rfl, rfl⟩)
  ·have hPk := hPw hk;refine vr 6 ?_;refine C1 cl79 rfl .here (fun m' hm he => must79 (str := sOpen) (hw.mono hm) hn hsm) ?_;rintro _ _ ⟨_, s1, _, hs1, ⟨rfl, rfl⟩, rfl⟩;have hLs1 := hs1.le (fun _ => zF);refine vr 5 ?_;refine pe 1 (wF us3 ik42 rfl (w8 (by omega) (by omega))) ?_;refine C1 cl131 rfl .here (fun m' hm he => who131 (t := false) (hw.mono hm) hs1.ok hsm) ?_
   rintro _ _ ⟨w2, s2, _, hs2, ⟨rfl, rfl, hw8⟩, rfl⟩;refine pe 0 (zK zl45 pl45 rfl rfl) ?_;refine Al 0 zl45 fun b4 => ?_;refine Sg 5 ag45 .here ?_;refine C1 cl79 rfl .h1 (fun m' hm he => must79 (str := sClose) (hw.mono hm) hs2.ok hsm) ?_;rintro _ _ ⟨_, s3, _, hs3, ⟨rfl, rfl⟩, rfl⟩;have hLs3 := hs3.le (fun _ => zF);refine vr 4 ?_;refine Lc 0 ag45 .h1 ?_;refine Sg 5 ag45 .h2 ?_
   refine zL ?_;refine zJ ?_;refine zR ?_
   exact yZ hl2 [_] ⟨⟨b1, _, _, _, rfl, .h2, .inr ⟨rfl, rfl⟩⟩, trivial⟩ _ (.cons .here (Pick.nilE (.nil _))) ⟨plainN ((j + 1 : Nat) : Int) 0 w2, s3, [pack []], Stp.nx hb hPk (Stp.bind (Q := fun _ ts => (pSide ts).bind fun w ts => (must sClose ts).bind fun _ ts => .ok (plainN ((j + 1 : Nat) : Int) 0 w) ts) hs1 (Stp.bind (Q := fun w ts => (must sClose ts).bind fun _ ts => .ok (plainN ((j + 1 : Nat) : Int) 0 w) ts) (hs2.congr (Q := pSide) fun _ => rfl) (Stp.bind (Q := fun _ ts => .ok (plainN ((j + 1 : Nat) : Int) 0 w2) ts) hs3 (Stp.pure hs3.ok)))), ⟨⟨((j + 1 : Nat) : Int), 0, w2, none, 0, 0⟩, pack [], rfl, rfl, fun ns _ => numPlain (op := ((j + 1 : Nat) : Int)) ⟨by omega, by omega⟩⟩, rfl⟩
  refine vr 8 ?_;refine Pa 2 ?_;exact QR (j + 1 + 1) (Pick.refl _) ⟨by omega, by omega, hno2 (hk hb)⟩ (by omega)
 have hw4 : ∀ (i : Nat) (h : i < whos.length), isW whos[i].1 s.ts = false := fun i h => hno i h (by have : i < 4 := h; omega);refine tr 6 ?_;refine cfo 5 ?_;refine zD ?_;refine zB ?_;refine qt 6 ?_;refine C1 cl77 rfl .here (fun m' hm he => take77 (str := sMana) (hw.mono hm) hs hsm) ?_;rintro _ _ (⟨-, hk, hn, rfl, rfl⟩ | ⟨hk1, rfl, rfl⟩)
 ·refine vr 7 ?_;refine C1 cl79 rfl .here (fun m' hm he => must79 (str := sOpen) (hw.mono hm) hn hsm) ?_;rintro _ _ ⟨_, s1, _, hs1, ⟨rfl, rfl⟩, rfl⟩;have hLs1 := hs1.le (fun _ => zF);refine vr 5 ?_;refine C1 cl79 rfl .here (fun m' hm he => must79 (str := sMe) (hw.mono hm) hs1.ok hsm) ?_;rintro _ _ ⟨_, s2, _, hs2, ⟨rfl, rfl⟩, rfl⟩;have hLs2 := hs2.le (fun _ => zF);refine vr 5 ?_
  refine C1 cl79 rfl .here (fun m' hm he => must79 (str := sClose) (hw.mono hm) hs2.ok hsm) ?_;rintro _ _ ⟨_, s3, _, hs3, ⟨rfl, rfl⟩, rfl⟩;have hLs3 := hs3.le (fun _ => zF);refine vr 4 ?_;refine pe 0 (zK zl45 pl45 rfl rfl) ?_;refine Sg 5 ag45 .h1 ?_
  have hmu : Stp ws (musts [sOpen, sMe, sClose]) s.nx () s3 := (hs1.bind (Q := fun _ => musts [sMe, sClose]) (hs2.bind (Q := fun _ => musts [sClose]) (hs3.bind (Q := fun _ => musts []) (Stp.pure hs3.ok))))
  exact yZ hl2 [_] ⟨⟨b1, _, _, _, rfl, .h1, .inr ⟨rfl, rfl⟩⟩, trivial⟩ _ (.cons .here (Pick.nilE (.nil _))) ⟨plainN 5 0 0, s3, [pack []], Stp.nx hb (Ym hk) (hmu.bind (Q := fun _ ts => .ok (plainN 5 0 0) ts) (Stp.pure hs3.ok)), ⟨⟨5, 0, 0, none, 0, 0⟩, pack [], rfl, rfl, fun ns _ => numPlain (op := 5) ⟨by decide, by decide⟩⟩, rfl⟩
 refine vr 7 ?_;refine C1 cl77 rfl .here (fun m' hm he => take77 (str := sCost) (hw.mono hm) hs hsm) ?_;rintro _ _ (⟨-, hk, hn, rfl, rfl⟩ | ⟨hk3, rfl, rfl⟩)
 ·refine vr 7 ?_;refine C1 cl79 rfl .here (fun m' hm he => must79 (str := sOpen) (hw.mono hm) hn hsm) ?_;rintro _ _ ⟨_, s1, _, hs1, ⟨rfl, rfl⟩, rfl⟩;have hLs1 := hs1.le (fun _ => zF);refine vr 5 ?_;refine C1 cl79 rfl .here (fun m' hm he => must79 (str := sTop) (hw.mono hm) hs1.ok hsm) ?_;rintro _ _ ⟨_, s2, _, hs2, ⟨rfl, rfl⟩, rfl⟩;have hLs2 := hs2.le (fun _ => zF);refine vr 5 ?_
  refine C1 cl79 rfl .here (fun m' hm he => must79 (str := sOpen) (hw.mono hm) hs2.ok hsm) ?_;rintro _ _ ⟨_, s3, _, hs3, ⟨rfl, rfl⟩, rfl⟩;have hLs3 := hs3.le (fun _ => zF);refine vr 5 ?_;refine C1 cl79 rfl .here (fun m' hm he => must79 (str := sMe) (hw.mono hm) hs3.ok hsm) ?_;rintro _ _ ⟨_, s4, _, hs4, ⟨rfl, rfl⟩, rfl⟩;have hLs4 := hs4.le (fun _ => zF);refine vr 5 ?_
  refine C1 cl79 rfl .here (fun m' hm he => must79 (str := sClose) (hw.mono hm) hs4.ok hsm) ?_;rintro _ _ ⟨_, s5, _, hs5, ⟨rfl, rfl⟩, rfl⟩;have hLs5 := hs5.le (fun _ => zF);refine vr 5 ?_;refine C1 cl79 rfl .here (fun m' hm he => must79 (str := sClose) (hw.mono hm) hs5.ok hsm) ?_;rintro _ _ ⟨_, s6, _, hs6, ⟨rfl, rfl⟩, rfl⟩;have hLs6 := hs6.le (fun _ => zF);refine vr 4 ?_
  refine pe 0 (zK zl45 pl45 rfl rfl) ?_;refine Sg 5 ag45 .h1 ?_
  have hmu : Stp ws (musts [sOpen, sTop, sOpen, sMe, sClose, sClose]) s.nx () s6 := (hs1.bind (Q := fun _ => musts [sTop, sOpen, sMe, sClose, sClose]) (hs2.bind (Q := fun _ => musts [sOpen, sMe, sClose, sClose]) (hs3.bind (Q := fun _ => musts [sMe, sClose, sClose]) (hs4.bind (Q := fun _ => musts [sClose, sClose]) (hs5.bind (Q := fun _ => musts [sClose]) (hs6.bind (Q := fun _ => musts []) (Stp.pure hs6.ok)))))))
  exact yZ hl2 [_] ⟨⟨b1, _, _, _, rfl, .h1, .inr ⟨rfl, rfl⟩⟩, trivial⟩ _ (.cons .here (Pick.nilE (.nil _))) ⟨plainN 6 0 0, s6, [pack []], Stp.nx hb (Yn hk) (hmu.bind (Q := fun _ ts => .ok (plainN 6 0 0) ts) (Stp.pure hs6.ok)), ⟨⟨6, 0, 0, none, 0, 0⟩, pack [], rfl, rfl, fun ns _ => numPlain (op := 6) ⟨by decide, by decide⟩⟩, rfl⟩
 refine vr 7 ?_;refine C1 cl77 rfl .here (fun m' hm he => take77 (str := sPower) (hw.mono hm) hs hsm) ?_;rintro _ _ (⟨-, hk, hn, rfl, rfl⟩ | ⟨hk4, rfl, rfl⟩)
 ·refine vr 7 ?_;refine C1 cl79 rfl .here (fun m' hm he => must79 (str := sOpen) (hw.mono hm) hn hsm) ?_;rintro _ _ ⟨_, s1, _, hs1, ⟨rfl, rfl⟩, rfl⟩;have hLs1 := hs1.le (fun _ => zF);refine vr 5 ?_;refine C1 cl79 rfl .here (fun m' hm he => must79 (str := sTarget) (hw.mono hm) hs1.ok hsm) ?_;rintro _ _ ⟨_, s2, _, hs2, ⟨rfl, rfl⟩, rfl⟩;have hLs2 := hs2.le (fun _ => zF);refine vr 5 ?_
  refine C1 cl79 rfl .here (fun m' hm he => must79 (str := sClose) (hw.mono hm) hs2.ok hsm) ?_;rintro _ _ ⟨_, s3, _, hs3, ⟨rfl, rfl⟩, rfl⟩;have hLs3 := hs3.le (fun _ => zF);refine vr 4 ?_;refine pe 0 (zK zl45 pl45 rfl rfl) ?_;refine Sg 5 ag45 .h1 ?_
  have hmu : Stp ws (musts [sOpen, sTarget, sClose]) s.nx () s3 := (hs1.bind (Q := fun _ => musts [sTarget, sClose]) (hs2.bind (Q := fun _ => musts [sClose]) (hs3.bind (Q := fun _ => musts []) (Stp.pure hs3.ok))))
  exact yZ hl2 [_] ⟨⟨b1, _, _, _, rfl, .h1, .inr ⟨rfl, rfl⟩⟩, trivial⟩ _ (.cons .here (Pick.nilE (.nil _))) ⟨plainN 7 0 0, s3, [pack []], Stp.nx hb (Zb hk) (hmu.bind (Q := fun _ ts => .ok (plainN 7 0 0) ts) (Stp.pure hs3.ok)), ⟨⟨7, 0, 0, none, 0, 0⟩, pack [], rfl, rfl, fun ns _ => numPlain (op := 7) ⟨by decide, by decide⟩⟩, rfl⟩
 refine vr 7 ?_;refine C1 cl24 rfl .here (fun m' hm he => is24 (str := sMin) (hw.mono hm) hs hsm) ?_;rintro _ _ ⟨rfl, rfl⟩;rw [decide_eq_true hb, Bool.true_and];cases hkm : isW sMin s.ts with
 | true =>
   refine vr 17 ?_;refine C1 cl24 rfl .here (fun m' hm he => is24 (str := sMax) (hw.mono hm) hs hsm) ?_;rintro _ _ ⟨rfl, rfl⟩;rw [decide_eq_true hb, Bool.true_and];rw [zS hkm (by decide : sMin ≠ sMax)];refine vr 10 ?_;refine Lb 0 sg3 .here ?_;refine Pa 2 ?_;refine Sr 6 co3 .here .h1 ?_;have hn : Okk ws s.nx := hs.nx hb (xg hkm);have htl := zZ hkm
   have hkA : s.nx.e = 0 → s.nx.ts.length < k := fun _ => by show s.ts.tail.length < k; omega
   refine C1 cl24 rfl .here (fun m' hm he => is24 (s := s.nx) (str := sOpen) (hw.mono hm) hn hsm) ?_;rintro _ _ ⟨rfl, rfl⟩;rw [decide_eq_true (show s.nx.e = 0 from hb), Bool.true_and];cases hko : isW sOpen s.nx.ts with
   | true =>
     have hsA := hn;refine vr 9 ?_;refine C1 cl133 rfl .here (fun m' hm he => in133 (hw.mono hm) hsA hsm (by omega)) ?_;rintro _ _ ⟨_, t1, _, ht1, ⟨rfl, rfl⟩, rfl⟩;have hIn := u5 ht1;refine vr 5 ?_;refine C1 cl79 rfl .here (fun m' hm he => must79 (str := sOpen) (hw.mono hm) ht1.ok hsm) ?_;rintro _ _ ⟨_, t2, _, ht2, ⟨rfl, rfl⟩, rfl⟩;have hLt2 := ht2.le (fun _ => zF);refine vr 5 ?_
     refine C1 cl132 rfl .here (fun m' hm he => hsum m' hm (d + 1) t2 ht2.ok (by omega) (fun h0 => ⟨by omega, by omega⟩)) ?_;rintro _ _ ⟨x, t3, _, ht3, ⟨qx, ex, rfl, rfl, hx⟩, rfl⟩;have hLt3 := ht3.le (fun h0 => hse (d + 1) _ (by omega));refine Al 0 zl45 fun b4 => ?_;refine Sg 5 ag45 .here ?_;refine C1 cl79 rfl .h1 (fun m' hm he => must79 (str := sComma) (hw.mono hm) ht3.ok hsm) ?_
     rintro _ _ ⟨_, t4, _, ht4, ⟨rfl, rfl⟩, rfl⟩;have hLt4 := ht4.le (fun _ => zF);refine vr 5 ?_;refine C1 cl132 rfl .here (fun m' hm he => hsum m' hm (d + 1) t4 ht4.ok (by omega) (fun h0 => ⟨by omega, by omega⟩)) ?_;rintro _ _ ⟨y, t5, _, ht5, ⟨qy, ey, rfl, rfl, hy⟩, rfl⟩;have hLt5 := ht5.le (fun h0 => hse (d + 1) _ (by omega));refine Al 0 zl45 fun b5 => ?_;refine Sg 5 ag45 .here ?_
     refine C1 cl79 rfl .h1 (fun m' hm he => must79 (str := sClose) (hw.mono hm) ht5.ok hsm) ?_;rintro _ _ ⟨_, t6, _, ht6, ⟨rfl, rfl⟩, rfl⟩;have hLt6 := ht6.le (fun _ => zF);refine vr 5 ?_;refine C1 cl135 rfl .here (fun m' hm he => out135 (by omega)) ?_;rintro _ _ ⟨rfl, rfl⟩;refine vr 5 ?_;refine Lc 0 ag45 .h3 ?_;refine Lc 0 ag45 .h1 ?_
     have hC : Stp ws (fun ts => (pIn d ts).bind fun _ ts => (must sOpen ts).bind fun _ ts => (sum (d + 1) ts).bind fun a ts => (must sComma ts).bind fun _ ts => (sum (d + 1) ts).bind fun b ts => (must sClose ts).bind fun _ ts => .ok (a, b) ts) (s.nx) (x, y) t6 := by
      refine Stp.bind ht1 ?_;refine Stp.bind ht2 ?_;refine Stp.bind ht3 ?_;refine Stp.bind ht4 ?_;refine Stp.bind ht5 ?_;refine Stp.bind ht6 ?_;exact Stp.pure ht6.ok
     have hBr : Stp ws (pBr sum true d) s.nx (x, y) t6 := hC.congr (fun _ => by unfold pBr; rw [if_pos hko]; rfl);refine zG ((zw cl156 rfl (fun m' hm he => two156 (op := 11) (q := qx) (r := qy)) rfl ?_)) rfl;rintro _ _ ⟨K, rfl, rfl⟩;refine Sg 5 ag45 .h6 ?_
     exact yZ hl2 [_] ⟨⟨b1, _, _, _, rfl, .h6, .inr ⟨rfl, rfl⟩⟩, trivial⟩ _ (.cons .h1 (Pick.pack3 (.cons .here (.cons .h3 .p1)))) ⟨putN 11 x y, t6, [pack [cel K (qx.v ++ qy.v) 45, ex, ey]], Stp.nx hb (ka hkm) (hBr.bind (Q := fun x ts => .ok (putN 11 x.1 x.2) ts) (Stp.pure ht6.ok)), ⟨⟨11, 0, 0, some ⟨K, 0, none⟩, 2, 2⟩, pack [cel K (qx.v ++ qy.v) 45, ex, ey], rfl, rfl, fun ns h => numPair (op := 11) ⟨by decide, by decide⟩ (h.1 _ (.head _)) (hx ns (h.1 _ (.tail _ (.head _)))) (hy ns (h.1 _ (.tail _ (.tail _ (.head _)))))⟩, rfl⟩
   | false =>
     refine vr 6 ?_;refine C1 cl25 rfl .here (fun m' hm he => wrong25 (s := s.nx) 120 (hw.mono hm) hn hsm) ?_;rintro _ _ ⟨rfl, rfl⟩;have hsA : Okk ws (s.nx.flt 120) := (yX (α := Unit) (x := ()) hn (by decide : (120 : Int) ≠ 0)).ok;have hkA : (s.nx.flt 120).e = 0 → (s.nx.flt 120).ts.length < k := fun h0 => by unfold RSt.flt at h0; rw [if_pos (show s.nx.e = 0 from hb)] at h0; cases h0
     refine vr 5 ?_;refine C1 cl133 rfl .here (fun m' hm he => in133 (hw.mono hm) hsA hsm (by omega)) ?_;rintro _ _ ⟨_, t1, _, ht1, ⟨rfl, rfl⟩, rfl⟩;have hIn := u5 ht1;refine vr 5 ?_;refine C1 cl79 rfl .here (fun m' hm he => must79 (str := sOpen) (hw.mono hm) ht1.ok hsm) ?_;rintro _ _ ⟨_, t2, _, ht2, ⟨rfl, rfl⟩, rfl⟩;have hLt2 := ht2.le (fun _ => zF);refine vr 5 ?_
     refine C1 cl132 rfl .here (fun m' hm he => hsum m' hm (d + 1) t2 ht2.ok (by omega) (fun h0 => ⟨by omega, by omega⟩)) ?_;rintro _ _ ⟨x, t3, _, ht3, ⟨qx, ex, rfl, rfl, hx⟩, rfl⟩;have hLt3 := ht3.le (fun h0 => hse (d + 1) _ (by omega));refine Al 0 zl45 fun b4 => ?_;refine Sg 5 ag45 .here ?_;refine C1 cl79 rfl .h1 (fun m' hm he => must79 (str := sComma) (hw.mono hm) ht3.ok hsm) ?_
     rintro _ _ ⟨_, t4, _, ht4, ⟨rfl, rfl⟩, rfl⟩;have hLt4 := ht4.le (fun _ => zF);refine vr 5 ?_;refine C1 cl132 rfl .here (fun m' hm he => hsum m' hm (d + 1) t4 ht4.ok (by omega) (fun h0 => ⟨by omega, by omega⟩)) ?_;rintro _ _ ⟨y, t5, _, ht5, ⟨qy, ey, rfl, rfl, hy⟩, rfl⟩;have hLt5 := ht5.le (fun h0 => hse (d + 1) _ (by omega));refine Al 0 zl45 fun b5 => ?_;refine Sg 5 ag45 .here ?_
     refine C1 cl79 rfl .h1 (fun m' hm he => must79 (str := sClose) (hw.mono hm) ht5.ok hsm) ?_;rintro _ _ ⟨_, t6, _, ht6, ⟨rfl, rfl⟩, rfl⟩;have hLt6 := ht6.le (fun _ => zF);refine vr 5 ?_;refine C1 cl135 rfl .here (fun m' hm he => out135 (by omega)) ?_;rintro _ _ ⟨rfl, rfl⟩;refine vr 5 ?_;refine Lc 0 ag45 .h3 ?_;refine Lc 0 ag45 .h1 ?_
     have hC : Stp ws (fun ts => (pIn d ts).bind fun _ ts => (must sOpen ts).bind fun _ ts => (sum (d + 1) ts).bind fun a ts => (must sComma ts).bind fun _ ts => (sum (d + 1) ts).bind fun b ts => (must sClose ts).bind fun _ ts => .ok (a, b) ts) (s.nx.flt 120) (x, y) t6 := by
      refine Stp.bind ht1 ?_;refine Stp.bind ht2 ?_;refine Stp.bind ht3 ?_;refine Stp.bind ht4 ?_;refine Stp.bind ht5 ?_;refine Stp.bind ht6 ?_;exact Stp.pure ht6.ok
     have hBr : Stp ws (pBr sum true d) s.nx (x, y) t6 := ((yX (α := Unit) (x := ()) hn (by decide : (120 : Int) ≠ 0)).bind (Q := fun _ => _) hC).congr (fun _ => by unfold pBr; rw [if_neg (by rw [hko]; decide)]; rfl);refine zG ((zw cl156 rfl (fun m' hm he => two156 (op := 11) (q := qx) (r := qy)) rfl ?_)) rfl;rintro _ _ ⟨K, rfl, rfl⟩;refine Sg 5 ag45 .h6 ?_
     exact yZ hl2 [_] ⟨⟨b1, _, _, _, rfl, .h6, .inr ⟨rfl, rfl⟩⟩, trivial⟩ _ (.cons .h1 (Pick.pack3 (.cons .here (.cons .h3 .p1)))) ⟨putN 11 x y, t6, [pack [cel K (qx.v ++ qy.v) 45, ex, ey]], Stp.nx hb (ka hkm) (hBr.bind (Q := fun x ts => .ok (putN 11 x.1 x.2) ts) (Stp.pure ht6.ok)), ⟨⟨11, 0, 0, some ⟨K, 0, none⟩, 2, 2⟩, pack [cel K (qx.v ++ qy.v) 45, ex, ey], rfl, rfl, fun ns h => numPair (op := 11) ⟨by decide, by decide⟩ (h.1 _ (.head _)) (hx ns (h.1 _ (.tail _ (.head _)))) (hy ns (h.1 _ (.tail _ (.tail _ (.head _)))))⟩, rfl⟩
 | false =>
   refine vr 2 ?_;refine C1 cl24 rfl .here (fun m' hm he => is24 (str := sMax) (hw.mono hm) hs hsm) ?_;rintro _ _ ⟨rfl, rfl⟩;rw [decide_eq_true hb, Bool.true_and];cases hkx : isW sMax s.ts with
   | true =>
     refine vr 14 ?_;refine C1 cl24 rfl .here (fun m' hm he => is24 (str := sMax) (hw.mono hm) hs hsm) ?_;rintro _ _ ⟨rfl, rfl⟩;rw [decide_eq_true hb, Bool.true_and];rw [hkx];refine vr 12 ?_;refine Lb 0 sg3 .here ?_;refine Pa 2 ?_;refine Sr 6 co3 .here .h1 ?_;have hn : Okk ws s.nx := hs.nx hb (xg hkx);have htl := zZ hkx
     have hkA : s.nx.e = 0 → s.nx.ts.length < k := fun _ => by show s.ts.tail.length < k; omega
     refine C1 cl24 rfl .here (fun m' hm he => is24 (s := s.nx) (str := sOpen) (hw.mono hm) hn hsm) ?_;rintro _ _ ⟨rfl, rfl⟩;rw [decide_eq_true (show s.nx.e = 0 from hb), Bool.true_and];cases hko : isW sOpen s.nx.ts with
     | true =>
       have hsA := hn;refine vr 9 ?_;refine C1 cl133 rfl .here (fun m' hm he => in133 (hw.mono hm) hsA hsm (by omega)) ?_;rintro _ _ ⟨_, t1, _, ht1, ⟨rfl, rfl⟩, rfl⟩;have hIn := u5 ht1;refine vr 5 ?_;refine C1 cl79 rfl .here (fun m' hm he => must79 (str := sOpen) (hw.mono hm) ht1.ok hsm) ?_;rintro _ _ ⟨_, t2, _, ht2, ⟨rfl, rfl⟩, rfl⟩;have hLt2 := ht2.le (fun _ => zF);refine vr 5 ?_
       refine C1 cl132 rfl .here (fun m' hm he => hsum m' hm (d + 1) t2 ht2.ok (by omega) (fun h0 => ⟨by omega, by omega⟩)) ?_;rintro _ _ ⟨x, t3, _, ht3, ⟨qx, ex, rfl, rfl, hx⟩, rfl⟩;have hLt3 := ht3.le (fun h0 => hse (d + 1) _ (by omega));refine Al 0 zl45 fun b4 => ?_;refine Sg 5 ag45 .here ?_;refine C1 cl79 rfl .h1 (fun m' hm he => must79 (str := sComma) (hw.mono hm) ht3.ok hsm) ?_
       rintro _ _ ⟨_, t4, _, ht4, ⟨rfl, rfl⟩, rfl⟩;have hLt4 := ht4.le (fun _ => zF);refine vr 5 ?_;refine C1 cl132 rfl .here (fun m' hm he => hsum m' hm (d + 1) t4 ht4.ok (by omega) (fun h0 => ⟨by omega, by omega⟩)) ?_;rintro _ _ ⟨y, t5, _, ht5, ⟨qy, ey, rfl, rfl, hy⟩, rfl⟩;have hLt5 := ht5.le (fun h0 => hse (d + 1) _ (by omega));refine Al 0 zl45 fun b5 => ?_;refine Sg 5 ag45 .here ?_
       refine C1 cl79 rfl .h1 (fun m' hm he => must79 (str := sClose) (hw.mono hm) ht5.ok hsm) ?_;rintro _ _ ⟨_, t6, _, ht6, ⟨rfl, rfl⟩, rfl⟩;have hLt6 := ht6.le (fun _ => zF);refine vr 5 ?_;refine C1 cl135 rfl .here (fun m' hm he => out135 (by omega)) ?_;rintro _ _ ⟨rfl, rfl⟩;refine vr 5 ?_;refine Lc 0 ag45 .h3 ?_;refine Lc 0 ag45 .h1 ?_
       have hC : Stp ws (fun ts => (pIn d ts).bind fun _ ts => (must sOpen ts).bind fun _ ts => (sum (d + 1) ts).bind fun a ts => (must sComma ts).bind fun _ ts => (sum (d + 1) ts).bind fun b ts => (must sClose ts).bind fun _ ts => .ok (a, b) ts) (s.nx) (x, y) t6 := by
        refine Stp.bind ht1 ?_;refine Stp.bind ht2 ?_;refine Stp.bind ht3 ?_;refine Stp.bind ht4 ?_;refine Stp.bind ht5 ?_;refine Stp.bind ht6 ?_;exact Stp.pure ht6.ok
       have hBr : Stp ws (pBr sum true d) s.nx (x, y) t6 := hC.congr (fun _ => by unfold pBr; rw [if_pos hko]; rfl);refine zG ((zw cl156 rfl (fun m' hm he => two156 (op := 12) (q := qx) (r := qy)) rfl ?_)) rfl;rintro _ _ ⟨K, rfl, rfl⟩;refine Sg 5 ag45 .h6 ?_
       exact yZ hl2 [_] ⟨⟨b1, _, _, _, rfl, .h6, .inr ⟨rfl, rfl⟩⟩, trivial⟩ _ (.cons .h1 (Pick.pack3 (.cons .here (.cons .h3 .p1)))) ⟨putN 12 x y, t6, [pack [cel K (qx.v ++ qy.v) 45, ex, ey]], Stp.nx hb (kb hkx) (hBr.bind (Q := fun x ts => .ok (putN 12 x.1 x.2) ts) (Stp.pure ht6.ok)), ⟨⟨12, 0, 0, some ⟨K, 0, none⟩, 2, 2⟩, pack [cel K (qx.v ++ qy.v) 45, ex, ey], rfl, rfl, fun ns h => numPair (op := 12) ⟨by decide, by decide⟩ (h.1 _ (.head _)) (hx ns (h.1 _ (.tail _ (.head _)))) (hy ns (h.1 _ (.tail _ (.tail _ (.head _)))))⟩, rfl⟩
     | false =>
       refine vr 6 ?_;refine C1 cl25 rfl .here (fun m' hm he => wrong25 (s := s.nx) 120 (hw.mono hm) hn hsm) ?_;rintro _ _ ⟨rfl, rfl⟩;have hsA : Okk ws (s.nx.flt 120) := (yX (α := Unit) (x := ()) hn (by decide : (120 : Int) ≠ 0)).ok;have hkA : (s.nx.flt 120).e = 0 → (s.nx.flt 120).ts.length < k := fun h0 => by unfold RSt.flt at h0; rw [if_pos (show s.nx.e = 0 from hb)] at h0; cases h0
       refine vr 5 ?_;refine C1 cl133 rfl .here (fun m' hm he => in133 (hw.mono hm) hsA hsm (by omega)) ?_;rintro _ _ ⟨_, t1, _, ht1, ⟨rfl, rfl⟩, rfl⟩;have hIn := u5 ht1;refine vr 5 ?_;refine C1 cl79 rfl .here (fun m' hm he => must79 (str := sOpen) (hw.mono hm) ht1.ok hsm) ?_;rintro _ _ ⟨_, t2, _, ht2, ⟨rfl, rfl⟩, rfl⟩;have hLt2 := ht2.le (fun _ => zF);refine vr 5 ?_
       refine C1 cl132 rfl .here (fun m' hm he => hsum m' hm (d + 1) t2 ht2.ok (by omega) (fun h0 => ⟨by omega, by omega⟩)) ?_;rintro _ _ ⟨x, t3, _, ht3, ⟨qx, ex, rfl, rfl, hx⟩, rfl⟩;have hLt3 := ht3.le (fun h0 => hse (d + 1) _ (by omega));refine Al 0 zl45 fun b4 => ?_;refine Sg 5 ag45 .here ?_;refine C1 cl79 rfl .h1 (fun m' hm he => must79 (str := sComma) (hw.mono hm) ht3.ok hsm) ?_
       rintro _ _ ⟨_, t4, _, ht4, ⟨rfl, rfl⟩, rfl⟩;have hLt4 := ht4.le (fun _ => zF);refine vr 5 ?_;refine C1 cl132 rfl .here (fun m' hm he => hsum m' hm (d + 1) t4 ht4.ok (by omega) (fun h0 => ⟨by omega, by omega⟩)) ?_;rintro _ _ ⟨y, t5, _, ht5, ⟨qy, ey, rfl, rfl, hy⟩, rfl⟩;have hLt5 := ht5.le (fun h0 => hse (d + 1) _ (by omega));refine Al 0 zl45 fun b5 => ?_;refine Sg 5 ag45 .here ?_
       refine C1 cl79 rfl .h1 (fun m' hm he => must79 (str := sClose) (hw.mono hm) ht5.ok hsm) ?_;rintro _ _ ⟨_, t6, _, ht6, ⟨rfl, rfl⟩, rfl⟩;have hLt6 := ht6.le (fun _ => zF);refine vr 5 ?_;refine C1 cl135 rfl .here (fun m' hm he => out135 (by omega)) ?_;rintro _ _ ⟨rfl, rfl⟩;refine vr 5 ?_;refine Lc 0 ag45 .h3 ?_;refine Lc 0 ag45 .h1 ?_
       have hC : Stp ws (fun ts => (pIn d ts).bind fun _ ts => (must sOpen ts).bind fun _ ts => (sum (d + 1) ts).bind fun a ts => (must sComma ts).bind fun _ ts => (sum (d + 1) ts).bind fun b ts => (must sClose ts).bind fun _ ts => .ok (a, b) ts) (s.nx.flt 120) (x, y) t6 := by
        refine Stp.bind ht1 ?_;refine Stp.bind ht2 ?_;refine Stp.bind ht3 ?_;refine Stp.bind ht4 ?_;refine Stp.bind ht5 ?_;refine Stp.bind ht6 ?_;exact Stp.pure ht6.ok
       have hBr : Stp ws (pBr sum true d) s.nx (x, y) t6 := ((yX (α := Unit) (x := ()) hn (by decide : (120 : Int) ≠ 0)).bind (Q := fun _ => _) hC).congr (fun _ => by unfold pBr; rw [if_neg (by rw [hko]; decide)]; rfl);refine zG ((zw cl156 rfl (fun m' hm he => two156 (op := 12) (q := qx) (r := qy)) rfl ?_)) rfl;rintro _ _ ⟨K, rfl, rfl⟩;refine Sg 5 ag45 .h6 ?_
       exact yZ hl2 [_] ⟨⟨b1, _, _, _, rfl, .h6, .inr ⟨rfl, rfl⟩⟩, trivial⟩ _ (.cons .h1 (Pick.pack3 (.cons .here (.cons .h3 .p1)))) ⟨putN 12 x y, t6, [pack [cel K (qx.v ++ qy.v) 45, ex, ey]], Stp.nx hb (kb hkx) (hBr.bind (Q := fun x ts => .ok (putN 12 x.1 x.2) ts) (Stp.pure ht6.ok)), ⟨⟨12, 0, 0, some ⟨K, 0, none⟩, 2, 2⟩, pack [cel K (qx.v ++ qy.v) 45, ex, ey], rfl, rfl, fun ns h => numPair (op := 12) ⟨by decide, by decide⟩ (h.1 _ (.head _)) (hx ns (h.1 _ (.tail _ (.head _)))) (hy ns (h.1 _ (.tail _ (.tail _ (.head _)))))⟩, rfl⟩
   | false =>
     refine vr 8 ?_;refine C1 cl24 rfl .here (fun m' hm he => is24 (str := sOpen) (hw.mono hm) hs hsm) ?_;rintro _ _ ⟨rfl, rfl⟩;rw [decide_eq_true hb, Bool.true_and];cases hko : isW sOpen s.ts with
     | true =>
       have hsA := hs;refine vr 7 ?_;refine C1 cl133 rfl .here (fun m' hm he => in133 (hw.mono hm) hsA hsm (by omega)) ?_;rintro _ _ ⟨_, t1, _, ht1, ⟨rfl, rfl⟩, rfl⟩;have hIn := u5 ht1;refine vr 5 ?_;refine C1 cl79 rfl .here (fun m' hm he => must79 (str := sOpen) (hw.mono hm) ht1.ok hsm) ?_;rintro _ _ ⟨_, t2, _, ht2, ⟨rfl, rfl⟩, rfl⟩;have hLt2 := ht2.le (fun _ => zF);refine vr 5 ?_
       refine C1 cl132 rfl .here (fun m' hm he => hsum m' hm (d + 1) t2 ht2.ok (by omega) (fun h0 => ⟨by omega, by omega⟩)) ?_;rintro _ _ ⟨x, t3, _, ht3, ⟨qx, ex, rfl, rfl, hx⟩, rfl⟩;have hLt3 := ht3.le (fun h0 => hse (d + 1) _ (by omega));refine Al 0 zl45 fun b4 => ?_;refine Sg 5 ag45 .here ?_;refine C1 cl79 rfl .h1 (fun m' hm he => must79 (str := sClose) (hw.mono hm) ht3.ok hsm) ?_
       rintro _ _ ⟨_, t4, _, ht4, ⟨rfl, rfl⟩, rfl⟩;have hLt4 := ht4.le (fun _ => zF);refine vr 5 ?_;refine C1 cl135 rfl .here (fun m' hm he => out135 (by omega)) ?_;rintro _ _ ⟨rfl, rfl⟩;refine vr 4 ?_;refine Lc 0 ag45 .h1 ?_;refine Sg 5 ag45 .h3 ?_
       have hC : Stp ws (fun ts => (pIn d ts).bind fun _ ts => (must sOpen ts).bind fun _ ts => (sum (d + 1) ts).bind fun a ts => (must sClose ts).bind fun _ ts => .ok (a, plainN 0 0 0) ts) (s) (x, plainN 0 0 0) t4 := by
        refine Stp.bind ht1 ?_;refine Stp.bind ht2 ?_;refine Stp.bind ht3 ?_;refine Stp.bind ht4 ?_;exact Stp.pure ht4.ok
       have hBr : Stp ws (pBr sum false d) s (x, plainN 0 0 0) t4 := hC.congr (fun _ => by unfold pBr; rw [if_pos hko]; rfl);exact yZ hl2 [_] ⟨⟨b1, _, _, _, rfl, .h3, .inr ⟨rfl, rfl⟩⟩, trivial⟩ _ (.cons .here .p1) ⟨x, t4, [ex], (hBr.bind (Q := fun x ts => .ok x.1 ts) (Stp.pure ht4.ok)).congr (fun _ => (Yj hko).symm), ⟨qx, ex, rfl, rfl, hx⟩, rfl⟩
     | false =>
       refine vr 10 ?_;refine C1 cl25 rfl .here (fun m' hm he => wrong25 120 (hw.mono hm) hs hsm) ?_;rintro _ _ ⟨rfl, rfl⟩;refine vr 4 ?_;refine pe 0 (zK zl45 pl45 rfl rfl) ?_;refine Sg 3 ag45 .h1 ?_
       exact yZ hl2 [_] ⟨⟨b1, _, _, _, rfl, .h1, .inr ⟨rfl, rfl⟩⟩, trivial⟩ _ (.cons .here (Pick.nilE (.nil _))) ⟨plainN 0 0 0, _, [pack []], (yX hs (by decide)).congr (fun _ => (Yk hk2 hko hw4 (hk1 hb) (hk3 hb) (hk4 hb) hkm hkx).symm), ⟨⟨0, 0, 0, none, 0, 0⟩, pack [], rfl, rfl, fun ns _ => numPlain (op := 0) ⟨by decide, by decide⟩⟩, rfl⟩
end
section
open Wd Tp Kd
variable {m : Mp} {b c d : Nat} {A : Option Addr} {ws : List Wrd} {s : RSt} {str : List UInt8}
theorem kQ (hw : WsR m A ws) (hs : Okk ws s) (hsm : ws.length ≤ 65537) (hb : s.e ≠ 0) : CS Tryz.prog 155 [ptr b] m [rf b A c ws d s] (fun v L' => v = .agg z4.toArray ∧ L' = [rf b A c ws d s, pack []]) := by
 refine zp [.cell 2 45] Tryz.func155 rfl rfl rfl ?_;refine tr 2 ?_;refine Al 5 zl45 fun b1 => ?_;refine C1 cl175 rfl .h1 (fun m' hm he => YA (hw.mono hm) hs hsm hb) ?_;rintro _ _ ⟨rfl, rfl⟩;refine Al 0 zl45 fun b2 => ?_;refine Sg 4 ag45 .here ?_
 refine zc (α := Unit) (fun _ => [(0, ptr b), (2, ptr b1), (3, ptr b2)]) (fun _ => [rf b A c ws d s, cel b2 z4 45, cel b1 z4 45]) (fun _ => True) (fun _ => 0) () ⟨rfl, rfl, rfl, trivial⟩ (.cons .h1 (.cons .here .p1)) trivial ?_;rintro _ -;refine tr 4 ?_;refine C1 cl77 rfl .here (fun m' hm he => take77 (str := sStar) (hw.mono hm) hs hsm) ?_;rintro _ _ (⟨h0, -, -, -, -⟩ | ⟨-, rfl, rfl⟩)
 ·exact absurd h0 hb
 refine vr 5 ?_;refine zD ?_;refine zB ?_;refine qt 3 ?_;refine Lc 0 ag45 .h1 ?_;refine Sg 3 ag45 .h2 ?_;exact zM [_] ⟨⟨b1, _, _, _, rfl, .h2, .inr ⟨rfl, rfl⟩⟩, trivial⟩ _ (.cons .here (Pick.nilE (.nil _))) ⟨rfl, rfl⟩
theorem qI (hw : WsR m A ws) (hs : Okk ws s) (hsm : ws.length ≤ 65537) (hb : s.e ≠ 0) : CS Tryz.prog 132 [ptr b] m [rf b A c ws d s] (fun v L' => v = .agg z4.toArray ∧ L' = [rf b A c ws d s, pack []]) := by
 refine zp [.cell 2 45] Tryz.func132 rfl rfl rfl ?_;refine tr 2 ?_;refine Al 5 zl45 fun b1 => ?_;refine C1 cl155 rfl .h1 (fun m' hm he => kQ (hw.mono hm) hs hsm hb) ?_;rintro _ _ ⟨rfl, rfl⟩;refine Al 0 zl45 fun b2 => ?_;refine Sg 4 ag45 .here ?_
 refine zc (α := Unit) (fun _ => [(0, ptr b), (2, ptr b1), (3, ptr b2)]) (fun _ => [rf b A c ws d s, cel b2 z4 45, cel b1 z4 45]) (fun _ => True) (fun _ => 0) () ⟨rfl, rfl, rfl, trivial⟩ (.cons .h1 (.cons .here .p1)) trivial ?_;rintro _ -;refine tr 4 ?_;refine C1 cl23 rfl .here (fun m' hm he => fine23) ?_;rintro _ _ ⟨rfl, rfl⟩;rw [decide_eq_false hb];refine vr 5 ?_;refine zD ?_
 refine zB ?_;refine qt 3 ?_;refine Lc 0 ag45 .h1 ?_;refine Sg 3 ag45 .h2 ?_;exact zM [_] ⟨⟨b1, _, _, _, rfl, .h2, .inr ⟨rfl, rfl⟩⟩, trivial⟩ _ (.cons .here (Pick.nilE (.nil _))) ⟨rfl, rfl⟩
structure RwS (α κ : Type) where
 j : Nat
 s : RSt
 x : α
 q : κ
 e : Ent
def Rst {α : Type} (ws : List Wrd) (one : List Wrd → R α) (signs : List (List UInt8 × Int)) (put : Int → α → α → α) (P : List Wrd → R α) (s0 : RSt) (j : Nat) (x : α) (s : RSt) : Prop :=
 Okk ws s ∧ ∀ xf sf, Stp ws (pRest one signs put j x) s xf sf → Stp ws P s0 xf sf
theorem Rst.start {α : Type} {one : List Wrd → R α} {signs : List (List UInt8 × Int)} {put : Int → α → α → α} {s0 s1 : RSt} {x : α} {n : Nat} (h : Stp ws one s0 x s1) : Rst ws one signs put (pRow one signs put n) s0 n x s1 := ⟨h.ok, fun _ _ h2 => h.bind (Q := pRest one signs put n) h2⟩
theorem Rst.stop {α : Type} {one : List Wrd → R α} {signs : List (List UInt8 × Int)} {put : Int → α → α → α} {P : List Wrd → R α} {s0 s : RSt} {x : α} {j : Nat} (h : Rst ws one signs put P s0 j x s) (hj : s.e = 0 → s.ts.length < j) (hn : s.e = 0 → ∀ (i : Nat) (hi : i < signs.length), isW signs[i].1 s.ts = false) : Stp ws P s0 x s := by
 refine h.2 _ _ ((Stp.pure h.1).congr fun he => ?_);obtain ⟨j, rfl⟩ : ∃ j', j = j' + 1 := ⟨j - 1, by have := hj he; omega⟩;unfold pRest;rw [wK (hn he)]
theorem Rst.next {α : Type} {one : List Wrd → R α} {signs : List (List UInt8 × Int)} {put : Int → α → α → α} {P : List Wrd → R α} {s0 s s2 : RSt} {x y : α} {j : Nat} {sg : List UInt8 × Int} (h : Rst ws one signs put P s0 (j + 1) x s) (he : s.e = 0) (hf : (signs.find? fun t => isW t.1 s.ts) = some sg) (h2 : Stp ws one s.nx y s2) : Rst ws one signs put P s0 j (put sg.2 x y) s2 :=
 ⟨h2.ok, fun xf sf h3 => h.2 xf sf (Stp.nx he (by unfold pRest; rw [hf]) (h2.bind (Q := fun y => pRest one signs put j (put sg.2 x y)) h3))⟩
theorem term155 {sum : Nat → List Wrd → R NumT} {k n : Nat} (hw : WsR m A ws) (hs : Okk ws s) (hsm : ws.length ≤ 65537) (hd9 : d ≤ 9) (hok : s.e = 0 → d ≤ 8 ∧ s.ts.length < k + 1 ∧ s.ts.length < n) (hse : ∀ d ts, ts.length < k → Tp.Ends (sum d ts) numW ts.length) (hsum : SumD m b A c ws sum k) : DcC 155 [ptr b] m b A c ws d d s (pTerm sum n d) numV := by
 by_cases hb : s.e = 0
 rotate_left
 ·exact CS.numBad (α := Unit) hs hb (kQ hw hs hsm hb)
 obtain ⟨hd8, hk, hn⟩ := hok hb;refine zp [.cell 2 45] Tryz.func155 rfl rfl rfl ?_;refine tr 2 ?_;refine Al 5 zl45 fun b1 => ?_;refine C1 cl175 rfl .h1 (fun m' hm he => one175 (hw.mono hm) hs hsm hd9 (fun _ => ⟨hd8, hk⟩) hse (hsum.mono hm)) ?_;rintro _ _ ⟨x, s1, _, h1, ⟨q, e, rfl, rfl, hx⟩, rfl⟩;have hL := h1.le (w := numW) (fun h0 => xe hse _ hk);refine Al 0 zl45 fun b2 => ?_
 refine Sg 4 ag45 .here ?_
 refine zc (α := RwS NumT NumC) (fun _ => [(0, ptr b), (2, ptr b1), (3, ptr b2)]) (fun y => [rf b A c ws d y.s, cel b2 y.q.v 45, y.e, cel b1 z4 45]) (fun y => Rst ws (pOne sum d) mulSigns putN (pTerm sum n d) s y.j y.x y.s ∧ (y.s.e = 0 → y.s.ts.length < y.j ∧ y.s.ts.length < k + 1) ∧ ∀ ns, y.e.inv ns → NumR ns y.q.v y.x) (fun y => y.j)
  ⟨n, s1, x, q, e⟩ ⟨rfl, rfl, rfl, trivial⟩ (.cons .h1 (.cons .here .pp)) ⟨Rst.start h1, fun h0 => by have h9 := hL h0; exact ⟨by show s1.ts.length < n; omega, by show s1.ts.length < k + 1; omega⟩, hx⟩ ?_
 clear hL h1 hx;rintro ⟨j, s2, x2, q2, e2⟩ ⟨hR, hlen, hx2⟩;dsimp only at hR hlen hx2;dsimp only;refine tr 4 ?_;refine C1 cl77 rfl .here (fun m' hm he => take77 (str := sStar) (hw.mono hm) hR.1 hsm) ?_;rintro _ _ (⟨h0, hs0, hnx, rfl, rfl⟩ | ⟨hno, rfl, rfl⟩)
 ·obtain ⟨hl1, hl2⟩ := hlen h0;obtain ⟨j, rfl⟩ : ∃ j', j = j' + 1 := ⟨j - 1, by omega⟩;have htl := zZ hs0;have hk3 : s2.nx.e = 0 → d ≤ 8 ∧ s2.nx.ts.length < k + 1 := fun _ => ⟨hd8, by show s2.ts.tail.length < k + 1; omega⟩;refine vr 9 ?_;refine C1 cl175 rfl .here (fun m' hm he => one175 (hw.mono hm) hnx hsm hd9 hk3 hse (hsum.mono hm)) ?_;rintro _ _ ⟨y, s3, _, h3, ⟨r, ey, rfl, rfl, hy⟩, rfl⟩
  have hL3 := h3.le (w := numW) (fun h0 => xe hse _ (hk3 h0).2);have hl3 : s2.nx.ts.length = s2.ts.tail.length := rfl;refine Al 0 zl45 fun b3 => ?_;refine Sg 3 ag45 .here ?_;refine Lc 0 ag45 .h3 ?_;refine Lc 0 ag45 .here ?_;refine zG ((zw cl156 rfl (fun m' hm he => two156 (op := 10) (q := q2) (r := r)) rfl ?_)) rfl;rintro _ _ ⟨K, rfl, rfl⟩;refine Sg 2 ag45 .h4 ?_
  exact QR (⟨j, s3, putN 10 x2 y, ⟨10, 0, 0, some ⟨K, 0, none⟩, 2, 2⟩, pack [cel K (q2.v ++ r.v) 45, e2, ey]⟩ : RwS NumT NumC) (.cons .h2 (.cons .h3 (Pick.pack3 (.cons .here (.cons .h2 (.cons .h1 .p1)))))) ⟨hR.next h0 (xH (signs := mulSigns) (i := 0) (by decide) hs0 (fun j hj h => by omega)) h3, fun h0 => by have h9 := hL3 h0; exact ⟨by show s3.ts.length < j; omega, by show s3.ts.length < k + 1; omega⟩, fun ns h => numPair (op := 10) ⟨by decide, by decide⟩ (h.1 _ (.head _)) (hx2 ns (h.1 _ (.tail _ (.head _)))) (hy ns (h.1 _ (.tail _ (.tail _ (.head _)))))⟩ (Nat.lt_succ_self _)
 refine vr 5 ?_;refine zD ?_;refine zB ?_;refine qt 3 ?_;refine Lc 0 ag45 .h1 ?_;refine Sg 3 ag45 .h3 ?_;exact zM [_] ⟨⟨b1, _, _, _, rfl, .h3, .inr ⟨rfl, rfl⟩⟩, trivial⟩ _ (.cons .here .p1) ⟨x2, s2, [e2], hR.stop (fun h0 => (hlen h0).1) (fun h0 i hi => by obtain rfl : i = 0 := (by have : i < 1 := hi; omega); exact hno h0), ⟨q2, e2, rfl, rfl, hx2⟩, rfl⟩
end
section
open Wd Tp Kd
variable {m : Mp} {b c d : Nat} {A : Option Addr} {ws : List Wrd} {s : RSt} {str : List UInt8}
theorem Xj {ts : List Wrd} (h1 : isW sPlus ts = false) (h2 : isW sMinus ts = false) : ∀ (i : Nat) (hi : i < sumSigns.length), isW sumSigns[i].1 ts = false
 | 0, _ => h1
 | 1, _ => h2
theorem sum132 {m : Mp} (hw : WsR m A ws) (hsm : ws.length ≤ 65537) : ∀ (n : Nat), SumD m b A c ws (pSum n) n
 | 0 => fun m' hm d s hs hd9 hok => by
   by_cases hb : s.e = 0
   ·exact absurd (hok hb).2 (Nat.not_lt_zero _)
   ·exact CS.numBad (α := Unit) hs hb (qI (hw.mono hm) hs hsm hb)
 | n + 1 => fun m' hm d s hs hd9 hok => by
   have hw := hw.mono hm;clear hm;by_cases hb : s.e = 0
   rotate_left
   ·exact CS.numBad (α := Unit) hs hb (qI hw hs hsm hb)
   obtain ⟨hd8, hn⟩ := hok hb;refine zp [.cell 2 45] Tryz.func132 rfl rfl rfl ?_;refine tr 2 ?_;refine Al 5 zl45 fun b1 => ?_;refine C1 cl155 rfl .h1 (fun m' hm he => term155 (k := n) (n := n + 1) (hw.mono hm) hs hsm hd9 (fun _ => ⟨hd8, hn, hn⟩) (yD n) (sum132 (hw.mono hm) hsm n)) ?_;rintro _ _ ⟨x, s1, _, h1, ⟨q, e, rfl, rfl, hx⟩, rfl⟩
   have hL := h1.le (w := numW) (fun h0 => xC (k := n + 1) (fun ts h => xe (yD n) ts h) y3 (n + 1) _ hn hn);refine Al 0 zl45 fun b2 => ?_;refine Sg 4 ag45 .here ?_
   refine zc (α := RwS NumT NumC) (fun _ => [(0, ptr b), (2, ptr b1), (3, ptr b2)]) (fun y => [rf b A c ws d y.s, cel b2 y.q.v 45, y.e, cel b1 z4 45]) (fun y => Rst ws (pTerm (pSum n) (n + 1) d) sumSigns putN (pSum (n + 1) d) s y.j y.x y.s ∧ (y.s.e = 0 → y.s.ts.length < y.j ∧ y.s.ts.length < n + 1) ∧ ∀ ns, y.e.inv ns → NumR ns y.q.v y.x) (fun y => y.j)
    ⟨n + 1, s1, x, q, e⟩ ⟨rfl, rfl, rfl, trivial⟩ (.cons .h1 (.cons .here .pp)) ⟨Rst.start h1, fun h0 => by have h9 := hL h0; exact ⟨by show s1.ts.length < n + 1; omega, by show s1.ts.length < n + 1; omega⟩, hx⟩ ?_
   clear hL h1 hx;rintro ⟨j, s2, x2, q2, e2⟩ ⟨hR, hlen, hx2⟩;dsimp only at hR hlen hx2;dsimp only;refine tr 4 ?_;refine C1 cl23 rfl .here (fun m' hm he => fine23) ?_;rintro _ _ ⟨rfl, rfl⟩;by_cases hf : s2.e = 0
   rotate_left
   ·rw [decide_eq_false hf];refine vr 5 ?_;refine zD ?_;refine zB ?_;refine qt 3 ?_;refine Lc 0 ag45 .h1 ?_;refine Sg 3 ag45 .h3 ?_;exact zM [_] ⟨⟨b1, _, _, _, rfl, .h3, .inr ⟨rfl, rfl⟩⟩, trivial⟩ _ (.cons .here .p1) ⟨x2, s2, [e2], hR.stop (fun h0 => (hlen h0).1) (fun h0 => absurd h0 hf), ⟨q2, e2, rfl, rfl, hx2⟩, rfl⟩
   rw [decide_eq_true hf];refine vr 15 ?_;refine C1 cl24 rfl .here (fun m' hm he => is24 (str := sMinus) (hw.mono hm) hR.1 hsm) ?_;rintro _ _ ⟨rfl, rfl⟩;rw [decide_eq_true hf, Bool.true_and];cases hmi : isW sMinus s2.ts with
   | true =>
     have hpl := zS hmi (by decide : sMinus ≠ sPlus);refine vr 11 ?_;refine C1 cl77 rfl .here (fun m' hm he => take77 (str := sPlus) (hw.mono hm) hR.1 hsm) ?_;rintro _ _ (⟨h0, hs0, -, -, -⟩ | ⟨-, rfl, rfl⟩)
     ·rw [hpl] at hs0; cases hs0
     refine vr 3 ?_;refine C1 cl77 rfl .here (fun m' hm he => take77 (str := sMinus) (hw.mono hm) hR.1 hsm) ?_;rintro _ _ (⟨h0, hs0, hnx, rfl, rfl⟩ | ⟨hno, rfl, rfl⟩)
     ·obtain ⟨hl1, hl2⟩ := hlen h0;obtain ⟨j, rfl⟩ : ∃ j', j = j' + 1 := ⟨j - 1, by omega⟩;have htl := zZ hs0;have hk3 : s2.nx.e = 0 → d ≤ 8 ∧ s2.nx.ts.length < n + 1 ∧ s2.nx.ts.length < n + 1 := fun _ => ⟨hd8, by show s2.ts.tail.length < n + 1; omega, by show s2.ts.tail.length < n + 1; omega⟩;refine vr 10 ?_
      refine C1 cl155 rfl .here (fun m' hm he => term155 (k := n) (n := n + 1) (hw.mono hm) hnx hsm hd9 hk3 (yD n) (sum132 (hw.mono hm) hsm n)) ?_;rintro _ _ ⟨y, s3, _, h3, ⟨r, ey, rfl, rfl, hy⟩, rfl⟩;have hL3 := h3.le (w := numW) (fun h0 => xC (k := n + 1) (fun ts h => xe (yD n) ts h) y3 (n + 1) _ (hk3 h0).2.1 (hk3 h0).2.1)
      have hl3 : s2.nx.ts.length = s2.ts.tail.length := rfl;refine Al 0 zl45 fun b3 => ?_;refine Sg 4 ag45 .here ?_;refine Lc 0 ag45 .h3 ?_;refine Lc 0 ag45 .here ?_;refine zG ((zw cl156 rfl (fun m' hm he => two156 (op := 9) (q := q2) (r := r)) rfl ?_)) rfl;rintro _ _ ⟨K, rfl, rfl⟩;refine Sg 2 ag45 .h4 ?_
      exact QR (⟨j, s3, putN 9 x2 y, ⟨9, 0, 0, some ⟨K, 0, none⟩, 2, 2⟩, pack [cel K (q2.v ++ r.v) 45, e2, ey]⟩ : RwS NumT NumC) (.cons .h2 (.cons .h3 (Pick.pack3 (.cons .here (.cons .h2 (.cons .h1 .p1)))))) ⟨hR.next h0 (xH (signs := sumSigns) (i := 1) (by decide) hs0 (fun j hj h => by obtain rfl : j = 0 := (by omega); exact hpl)) h3, fun h0 => by have h9 := hL3 h0; exact ⟨by show s3.ts.length < j; omega, by show s3.ts.length < n + 1; omega⟩, fun ns h => numPair (op := 9) ⟨by decide, by decide⟩ (h.1 _ (.head _)) (hx2 ns (h.1 _ (.tail _ (.head _)))) (hy ns (h.1 _ (.tail _ (.tail _ (.head _)))))⟩ (Nat.lt_succ_self _)
     rw [hno hf] at hmi; cases hmi
   | false =>
     refine vr 9 ?_;refine C1 cl77 rfl .here (fun m' hm he => take77 (str := sPlus) (hw.mono hm) hR.1 hsm) ?_;rintro _ _ (⟨h0, hs0, hnx, rfl, rfl⟩ | ⟨hno, rfl, rfl⟩)
     ·obtain ⟨hl1, hl2⟩ := hlen h0;obtain ⟨j, rfl⟩ : ∃ j', j = j' + 1 := ⟨j - 1, by omega⟩;have htl := zZ hs0;have hk3 : s2.nx.e = 0 → d ≤ 8 ∧ s2.nx.ts.length < n + 1 ∧ s2.nx.ts.length < n + 1 := fun _ => ⟨hd8, by show s2.ts.tail.length < n + 1; omega, by show s2.ts.tail.length < n + 1; omega⟩;refine vr 14 ?_
      refine C1 cl155 rfl .here (fun m' hm he => term155 (k := n) (n := n + 1) (hw.mono hm) hnx hsm hd9 hk3 (yD n) (sum132 (hw.mono hm) hsm n)) ?_;rintro _ _ ⟨y, s3, _, h3, ⟨r, ey, rfl, rfl, hy⟩, rfl⟩;have hL3 := h3.le (w := numW) (fun h0 => xC (k := n + 1) (fun ts h => xe (yD n) ts h) y3 (n + 1) _ (hk3 h0).2.1 (hk3 h0).2.1)
      have hl3 : s2.nx.ts.length = s2.ts.tail.length := rfl;refine Al 0 zl45 fun b3 => ?_;refine Sg 4 ag45 .here ?_;refine Lc 0 ag45 .h3 ?_;refine Lc 0 ag45 .here ?_;refine zG ((zw cl156 rfl (fun m' hm he => two156 (op := 8) (q := q2) (r := r)) rfl ?_)) rfl;rintro _ _ ⟨K, rfl, rfl⟩;refine Sg 2 ag45 .h4 ?_
      exact QR (⟨j, s3, putN 8 x2 y, ⟨8, 0, 0, some ⟨K, 0, none⟩, 2, 2⟩, pack [cel K (q2.v ++ r.v) 45, e2, ey]⟩ : RwS NumT NumC) (.cons .h2 (.cons .h3 (Pick.pack3 (.cons .here (.cons .h2 (.cons .h1 .p1)))))) ⟨hR.next h0 (xH (signs := sumSigns) (i := 0) (by decide) hs0 (fun j hj h => by omega)) h3, fun h0 => by have h9 := hL3 h0; exact ⟨by show s3.ts.length < j; omega, by show s3.ts.length < n + 1; omega⟩, fun ns h => numPair (op := 8) ⟨by decide, by decide⟩ (h.1 _ (.head _)) (hx2 ns (h.1 _ (.tail _ (.head _)))) (hy ns (h.1 _ (.tail _ (.tail _ (.head _)))))⟩ (Nat.lt_succ_self _)
     refine vr 3 ?_;refine C1 cl77 rfl .here (fun m' hm he => take77 (str := sMinus) (hw.mono hm) hR.1 hsm) ?_;rintro _ _ (⟨h0, hs0, -, -, -⟩ | ⟨-, rfl, rfl⟩)
     ·rw [hmi] at hs0; cases hs0
     refine vr 8 ?_;refine zD ?_;refine zB ?_;refine qt 3 ?_;refine Lc 0 ag45 .h1 ?_;refine Sg 3 ag45 .h3 ?_;exact zM [_] ⟨⟨b1, _, _, _, rfl, .h3, .inr ⟨rfl, rfl⟩⟩, trivial⟩ _ (.cons .here .p1) ⟨x2, s2, [e2], hR.stop (fun h0 => (hlen h0).1) (fun h0 => Xj (hno h0) hmi), ⟨q2, e2, rfl, rfl, hx2⟩, rfl⟩
end
section
open Wd Tp Kd
variable {m : Mp} {b c d : Nat} {A : Option Addr} {ws : List Wrd} {s : RSt} {str : List UInt8}
theorem Pos.at_ {ts : List Wrd} {at_ i : Nat} (h : Pos ws at_ ts) (hi : i < ts.length) : ∃ h2 : at_ + i < ws.length, ws[at_ + i] = ts[i] := by
 have := h.len;refine ⟨by omega, ?_⟩;have := h.eq;subst this;rw [List.getElem_drop]
theorem GoodT.more {ts : List Wrd} (hg : GoodT ts) {i : Nat} (hi : i < ts.length) (h3 : ts[i].kind ≠ 0) : i + 1 < ts.length := by
 by_cases h : i + 1 < ts.length
 ·exact h
 ·have hl : i = ts.length - 1 := by omega
  exfalso
  have key : ∀ {l : List Wrd}, GoodT l → ∀ (h : l.length - 1 < l.length), l[l.length - 1].kind = 0 := fun {l} hg => by
   induction hg with
   | last h => intro _; exact h
   | @cons w r h _ _ hr ih =>
     intro _;have hr0 : 0 < r.length := List.length_pos_iff.2 hr.ne;have := ih (by omega);simp only [List.length_cons, Nat.add_sub_cancel];rw [List.getElem_cons]
     split
     ·omega
     ·exact this
  have := key hg (by omega);subst hl;omega
theorem outer183 (hw : WsR m A ws) (hs : Okk ws s) (he : s.e = 0) (hop : isW sOpen s.ts = true) (hsm : ws.length ≤ 65537) : CS Tryz.prog 183 [ptr b] m [rf b A c ws d s] (fun v L' => v = .bool (outer 0 s.ts) ∧ L' = [rf b A c ws d s]) := by
 have hp := hs.pos he;have hlt := hp.lt;have hlen := hp.len;have hA := hs.isSome hw;have hop := hp.good.open hop;refine zp [.tmp 2] Tryz.func183 rfl rfl rfl ?_;generalize hF : outer 0 s.ts = F;refine tr 16 ?_;refine Lb 4 sg3 .here ?_
 refine zc (α := Nat × Int) (fun y => [(0, ptr b), (3, .int .i64 y.2), (4, .int .i64 ((s.at_ + y.1 : Nat) : Int))]) (fun _ => [rf b A c ws d s]) (fun y => y.1 ≤ s.ts.length ∧ (y.1 = 0 → y.2 = 0) ∧ (0 < y.1 → 1 ≤ y.2) ∧ y.2 ≤ y.1 ∧ outer y.2 (s.ts.drop y.1) = F) (fun y => s.ts.length - y.1) (0, 0) ⟨rfl, rfl, rfl, trivial⟩ (Pick.refl _) ⟨Nat.zero_le _, fun _ => rfl, fun h => absurd h (Nat.lt_irrefl _), by decide, hF⟩ ?_
 rintro ⟨i, z⟩ ⟨hi, hz0, hz1, hz2, ho⟩;dsimp only at hi hz0 hz1 hz2 ho;dsimp only;by_cases hli : i < s.ts.length
 rotate_left
 ·rw [List.drop_eq_nil_of_le (by omega), outer] at ho;subst ho;refine tr 7 ?_;refine Lb 1 sg51 .here ?_;refine cfo 5 ?_;refine zD ?_;refine zB ?_;refine qt 7 ?_;exact zM [_] ⟨rfl, trivial⟩ [_] .p0 ⟨rfl, rfl⟩
 obtain ⟨hlt2, hwe⟩ := hp.at_ hli;have hat := hw.elem ((s.at_ + i) * 4) 4;rw [vq hlt2, hwe] at hat;rw [List.drop_eq_getElem_cons hli, qd] at ho
 have hfst : i = 0 → s.ts[i].kind = 3 ∧ s.ts[i].text = sOpen := fun h0 => by
  subst h0;have h9 : hd s.ts = s.ts[0] := by rw [← hp.hdEq, ← hwe]; rfl
  rw [← h9];exact hop
 have hnx : s.ts[i].kind = 3 → s.at_ + i + 1 < ws.length ∧ ∃ w, hd (s.ts.drop (i + 1)) = w ∧ At m ((sa A).add ((s.at_ + i + 1) * 4)) [.int .i8 w.kind, .string (bs w.text), .int .i64 w.n, .int .i64 w.at_] := fun h3 => by
  have h1 := hp.good.more hli (by omega);obtain ⟨h2, h4⟩ := hp.at_ h1;refine ⟨by omega, s.ts[i + 1], ?_, ?_⟩
  ·rw [List.drop_eq_getElem_cons h1]; rfl
  ·have h3 := hw.elem ((s.at_ + (i + 1)) * 4) 4;rw [vq h2, h4] at h3;exact h3
 generalize hw0 : s.ts[i] = w at hat ho hnx hfst;unfold wV at hat;by_cases h3 : w.kind = 3
 rotate_left
 ·rw [if_pos h3] at ho;have hi0 : 0 < i := Nat.pos_of_ne_zero fun h0 => h3 (hfst h0).1;refine tr 7 ?_;refine Lb 1 sg51 .here ?_;refine cto 12 ?_;refine Lb 1 sg51 .here ?_;refine pe 0 (zE ez51 rfl rfl hA (by omega)) ?_;refine La 0 ag58 hat ?_;refine Al 0 zl58 fun b1 => ?_;refine Sg 6 ag58 .here ?_;refine Lb 0 sg42 .here ?_;refine cta 9 ?_;refine Pa 2 ?_
  exact QR (i + 1, z) .p1 ⟨hli, fun h => (by cases h), fun _ => hz1 hi0, by dsimp only; omega, ho⟩ (by dsimp only; omega)
 obtain ⟨hn1, w2, hn2, hn3⟩ := hnx h3;rw [if_neg (by simp [h3]), hn2] at ho
 have hzp : 0 ≤ z := by
  by_cases h0 : i = 0
  ·rw [hz0 h0]; decide
  ·have := hz1 (by omega); omega
 by_cases h1 : w.text = sOpen
 ·have h2 : ¬ w.text = sClose := fun h => by rw [h1] at h; exact absurd h (by decide)
  rw [if_pos h1, if_pos (by omega)] at ho;have hne : ¬ z + 1 = 0 := by omega
  refine tr 7 ?_;refine Lb 1 sg51 .here ?_;refine cto 12 ?_;refine Lb 1 sg51 .here ?_;refine pe 0 (zE ez51 rfl rfl hA (by omega)) ?_;refine La 0 ag58 hat ?_;refine Al 0 zl58 fun b1 => ?_;refine Sg 6 ag58 .here ?_;refine Lb 0 sg42 .here ?_;refine cfo 9 ?_;refine Lb 0 sg9 .here ?_;refine cta 5 ?_;refine Pa 7 ?_;refine Lb 0 sg9 .here ?_;refine cfa 8 ?_;refine cfa 8 ?_;refine Pa 2 ?_
  exact QR (i + 1, z + 1) .p1 ⟨hli, fun h => (by cases h), fun _ => by dsimp only; omega, by dsimp only; omega, ho⟩ (by dsimp only; omega)
 have hi0 : 0 < i := Nat.pos_of_ne_zero fun h0 => h1 (hfst h0).2;have hz1 := hz1 hi0;rw [if_neg h1] at ho;by_cases h2 : w.text = sClose
 rotate_left
 ·rw [if_neg h2, if_pos (by omega)] at ho;have hne : ¬ z = 0 := by omega
  refine tr 7 ?_;refine Lb 1 sg51 .here ?_;refine cto 12 ?_;refine Lb 1 sg51 .here ?_;refine pe 0 (zE ez51 rfl rfl hA (by omega)) ?_;refine La 0 ag58 hat ?_;refine Al 0 zl58 fun b1 => ?_;refine Sg 6 ag58 .here ?_;refine Lb 0 sg42 .here ?_;refine cfo 9 ?_;refine Lb 0 sg9 .here ?_;refine cfa 9 ?_;refine Lb 0 sg9 .here ?_;refine cfa 8 ?_;refine cfa 8 ?_;refine Pa 2 ?_
  exact QR (i + 1, z) .p1 ⟨hli, fun h => (by cases h), fun _ => hz1, by dsimp only; omega, ho⟩ (by dsimp only; omega)
 rw [if_pos h2] at ho;by_cases hpos : z - 1 = 0
 rotate_left
 ·rw [if_pos (by omega)] at ho;refine tr 7 ?_;refine Lb 1 sg51 .here ?_;refine cto 12 ?_;refine Lb 1 sg51 .here ?_;refine pe 0 (zE ez51 rfl rfl hA (by omega)) ?_;refine La 0 ag58 hat ?_;refine Al 0 zl58 fun b1 => ?_;refine Sg 6 ag58 .here ?_;refine Lb 0 sg42 .here ?_;refine cfo 9 ?_;refine Lb 0 sg9 .here ?_;refine cfa 9 ?_;refine Lb 0 sg9 .here ?_;refine cta 5 ?_
  refine pe 6 (y4 rfl rfl (w64 (by omega) (by omega))) ?_;refine cfa 8 ?_;refine Pa 2 ?_;exact QR (i + 1, z - 1) .p1 ⟨hli, fun h => (by cases h), fun _ => by dsimp only; omega, by dsimp only; omega, ho⟩ (by dsimp only; omega)
 rw [if_neg (by omega)] at ho;by_cases hk3 : w2.kind = 3
 rotate_left
 ·rw [if_pos hk3] at ho;subst ho;refine tr 7 ?_;refine Lb 1 sg51 .here ?_;refine cto 12 ?_;refine Lb 1 sg51 .here ?_;refine pe 0 (zE ez51 rfl rfl hA (by omega)) ?_;refine La 0 ag58 hat ?_;refine Al 0 zl58 fun b1 => ?_;refine Sg 6 ag58 .here ?_;refine Lb 0 sg42 .here ?_;refine cfo 9 ?_;refine Lb 0 sg9 .here ?_;refine cfa 9 ?_;refine Lb 0 sg9 .here ?_;refine cta 5 ?_
  refine pe 6 (y4 rfl rfl (w64 (by omega) (by omega))) ?_;refine cta 8 ?_;refine Lb 1 sg51 .h1 ?_;refine Pa 0 ?_;refine pe 0 (zE ez51 rfl rfl hA (by omega)) ?_;refine La 0 ag58 hn3 ?_;refine Al 0 zl58 fun b2 => ?_;refine Sg 6 ag58 .here ?_;refine Lb 0 sg42 .here ?_;refine cta 12 ?_;refine zL ?_;refine zJ ?_;refine zR ?_
  exact zM [_] ⟨rfl, trivial⟩ [_] .p2 ⟨rfl, rfl⟩
 rw [if_neg (by simp [hk3])] at ho;unfold numNext at ho;by_cases e1 : w2.text = sLt
 ·have e : F = false := by rw [← ho]; simp [e1]
  subst e;refine tr 7 ?_;refine Lb 1 sg51 .here ?_;refine cto 12 ?_;refine Lb 1 sg51 .here ?_;refine pe 0 (zE ez51 rfl rfl hA (by omega)) ?_;refine La 0 ag58 hat ?_;refine Al 0 zl58 fun b1 => ?_;refine Sg 6 ag58 .here ?_;refine Lb 0 sg42 .here ?_;refine cfo 9 ?_;refine Lb 0 sg9 .here ?_;refine cfa 9 ?_;refine Lb 0 sg9 .here ?_;refine cta 5 ?_
  refine pe 6 (y4 rfl rfl (w64 (by omega) (by omega))) ?_;refine cta 8 ?_;refine Lb 1 sg51 .h1 ?_;refine Pa 0 ?_;refine pe 0 (zE ez51 rfl rfl hA (by omega)) ?_;refine La 0 ag58 hn3 ?_;refine Al 0 zl58 fun b2 => ?_;refine Sg 6 ag58 .here ?_;refine Lb 0 sg42 .here ?_;refine cfo 9 ?_;refine Lb 6 sg9 .here ?_;refine cta 17 ?_;refine zL ?_;refine zJ ?_
  refine zR ?_;exact zM [_] ⟨rfl, trivial⟩ [_] .p2 ⟨rfl, rfl⟩
 by_cases e2 : w2.text = sLe
 ·have e : F = false := by rw [← ho]; simp [e2]
  subst e;refine tr 7 ?_;refine Lb 1 sg51 .here ?_;refine cto 12 ?_;refine Lb 1 sg51 .here ?_;refine pe 0 (zE ez51 rfl rfl hA (by omega)) ?_;refine La 0 ag58 hat ?_;refine Al 0 zl58 fun b1 => ?_;refine Sg 6 ag58 .here ?_;refine Lb 0 sg42 .here ?_;refine cfo 9 ?_;refine Lb 0 sg9 .here ?_;refine cfa 9 ?_;refine Lb 0 sg9 .here ?_;refine cta 5 ?_
  refine pe 6 (y4 rfl rfl (w64 (by omega) (by omega))) ?_;refine cta 8 ?_;refine Lb 1 sg51 .h1 ?_;refine Pa 0 ?_;refine pe 0 (zE ez51 rfl rfl hA (by omega)) ?_;refine La 0 ag58 hn3 ?_;refine Al 0 zl58 fun b2 => ?_;refine Sg 6 ag58 .here ?_;refine Lb 0 sg42 .here ?_;refine cfo 9 ?_;refine Lb 6 sg9 .here ?_;refine cfa 6 ?_;refine cta 17 ?_;refine zL ?_;refine zJ ?_
  refine zR ?_;exact zM [_] ⟨rfl, trivial⟩ [_] .p2 ⟨rfl, rfl⟩
 by_cases e3 : w2.text = sEq
 ·have e : F = false := by rw [← ho]; simp [e3]
  subst e;refine tr 7 ?_;refine Lb 1 sg51 .here ?_;refine cto 12 ?_;refine Lb 1 sg51 .here ?_;refine pe 0 (zE ez51 rfl rfl hA (by omega)) ?_;refine La 0 ag58 hat ?_;refine Al 0 zl58 fun b1 => ?_;refine Sg 6 ag58 .here ?_;refine Lb 0 sg42 .here ?_;refine cfo 9 ?_;refine Lb 0 sg9 .here ?_;refine cfa 9 ?_;refine Lb 0 sg9 .here ?_;refine cta 5 ?_
  refine pe 6 (y4 rfl rfl (w64 (by omega) (by omega))) ?_;refine cta 8 ?_;refine Lb 1 sg51 .h1 ?_;refine Pa 0 ?_;refine pe 0 (zE ez51 rfl rfl hA (by omega)) ?_;refine La 0 ag58 hn3 ?_;refine Al 0 zl58 fun b2 => ?_;refine Sg 6 ag58 .here ?_;refine Lb 0 sg42 .here ?_;refine cfo 9 ?_;refine Lb 6 sg9 .here ?_;refine cfa 6 ?_;refine cfa 6 ?_;refine cta 17 ?_;refine zL ?_
  refine zJ ?_;refine zR ?_;exact zM [_] ⟨rfl, trivial⟩ [_] .p2 ⟨rfl, rfl⟩
 by_cases e4 : w2.text = sPlus
 ·have e : F = false := by rw [← ho]; simp [e4]
  subst e;refine tr 7 ?_;refine Lb 1 sg51 .here ?_;refine cto 12 ?_;refine Lb 1 sg51 .here ?_;refine pe 0 (zE ez51 rfl rfl hA (by omega)) ?_;refine La 0 ag58 hat ?_;refine Al 0 zl58 fun b1 => ?_;refine Sg 6 ag58 .here ?_;refine Lb 0 sg42 .here ?_;refine cfo 9 ?_;refine Lb 0 sg9 .here ?_;refine cfa 9 ?_;refine Lb 0 sg9 .here ?_;refine cta 5 ?_
  refine pe 6 (y4 rfl rfl (w64 (by omega) (by omega))) ?_;refine cta 8 ?_;refine Lb 1 sg51 .h1 ?_;refine Pa 0 ?_;refine pe 0 (zE ez51 rfl rfl hA (by omega)) ?_;refine La 0 ag58 hn3 ?_;refine Al 0 zl58 fun b2 => ?_;refine Sg 6 ag58 .here ?_;refine Lb 0 sg42 .here ?_;refine cfo 9 ?_;refine Lb 6 sg9 .here ?_;refine cfa 6 ?_;refine cfa 6 ?_;refine cfa 6 ?_;refine cta 17 ?_
  refine zL ?_;refine zJ ?_;refine zR ?_;exact zM [_] ⟨rfl, trivial⟩ [_] .p2 ⟨rfl, rfl⟩
 by_cases e5 : w2.text = sMinus
 ·have e : F = false := by rw [← ho]; simp [e5]
  subst e;refine tr 7 ?_;refine Lb 1 sg51 .here ?_;refine cto 12 ?_;refine Lb 1 sg51 .here ?_;refine pe 0 (zE ez51 rfl rfl hA (by omega)) ?_;refine La 0 ag58 hat ?_;refine Al 0 zl58 fun b1 => ?_;refine Sg 6 ag58 .here ?_;refine Lb 0 sg42 .here ?_;refine cfo 9 ?_;refine Lb 0 sg9 .here ?_;refine cfa 9 ?_;refine Lb 0 sg9 .here ?_;refine cta 5 ?_
  refine pe 6 (y4 rfl rfl (w64 (by omega) (by omega))) ?_;refine cta 8 ?_;refine Lb 1 sg51 .h1 ?_;refine Pa 0 ?_;refine pe 0 (zE ez51 rfl rfl hA (by omega)) ?_;refine La 0 ag58 hn3 ?_;refine Al 0 zl58 fun b2 => ?_;refine Sg 6 ag58 .here ?_;refine Lb 0 sg42 .here ?_;refine cfo 9 ?_;refine Lb 6 sg9 .here ?_;refine cfa 6 ?_;refine cfa 6 ?_;refine cfa 6 ?_;refine cfa 6 ?_;refine cta 17 ?_
  refine zL ?_;refine zJ ?_;refine zR ?_;exact zM [_] ⟨rfl, trivial⟩ [_] .p2 ⟨rfl, rfl⟩
 by_cases e6 : w2.text = sStar
 ·have e : F = false := by rw [← ho]; simp [e6]
  subst e;refine tr 7 ?_;refine Lb 1 sg51 .here ?_;refine cto 12 ?_;refine Lb 1 sg51 .here ?_;refine pe 0 (zE ez51 rfl rfl hA (by omega)) ?_;refine La 0 ag58 hat ?_;refine Al 0 zl58 fun b1 => ?_;refine Sg 6 ag58 .here ?_;refine Lb 0 sg42 .here ?_;refine cfo 9 ?_;refine Lb 0 sg9 .here ?_;refine cfa 9 ?_;refine Lb 0 sg9 .here ?_;refine cta 5 ?_
  refine pe 6 (y4 rfl rfl (w64 (by omega) (by omega))) ?_;refine cta 8 ?_;refine Lb 1 sg51 .h1 ?_;refine Pa 0 ?_;refine pe 0 (zE ez51 rfl rfl hA (by omega)) ?_;refine La 0 ag58 hn3 ?_;refine Al 0 zl58 fun b2 => ?_;refine Sg 6 ag58 .here ?_;refine Lb 0 sg42 .here ?_;refine cfo 9 ?_;refine Lb 6 sg9 .here ?_;refine cfa 6 ?_;refine cfa 6 ?_;refine cfa 6 ?_;refine cfa 6 ?_;refine cfa 5 ?_
  refine cta 14 ?_;refine zL ?_;refine zJ ?_;refine zR ?_;exact zM [_] ⟨rfl, trivial⟩ [_] .p2 ⟨rfl, rfl⟩
 have e : F = true := by rw [← ho]; simp [e1, e2, e3, e4, e5, e6]
 subst e;refine tr 7 ?_;refine Lb 1 sg51 .here ?_;refine cto 12 ?_;refine Lb 1 sg51 .here ?_;refine pe 0 (zE ez51 rfl rfl hA (by omega)) ?_;refine La 0 ag58 hat ?_;refine Al 0 zl58 fun b1 => ?_;refine Sg 6 ag58 .here ?_;refine Lb 0 sg42 .here ?_;refine cfo 9 ?_;refine Lb 0 sg9 .here ?_;refine cfa 9 ?_;refine Lb 0 sg9 .here ?_;refine cta 5 ?_
 refine pe 6 (y4 rfl rfl (w64 (by omega) (by omega))) ?_;refine cta 8 ?_;refine Lb 1 sg51 .h1 ?_;refine Pa 0 ?_;refine pe 0 (zE ez51 rfl rfl hA (by omega)) ?_;refine La 0 ag58 hn3 ?_;refine Al 0 zl58 fun b2 => ?_;refine Sg 6 ag58 .here ?_;refine Lb 0 sg42 .here ?_;refine cfo 9 ?_;refine Lb 6 sg9 .here ?_;refine cfa 6 ?_;refine cfa 6 ?_;refine cfa 6 ?_;refine cfa 6 ?_;refine cfa 5 ?_
 refine cfa 15 ?_;refine zL ?_;refine zJ ?_;refine zR ?_;exact zM [_] ⟨rfl, trivial⟩ [_] .p2 ⟨rfl, rfl⟩
end
section
open Wd Tp Kd
variable {m : Mp} {b c d : Nat} {A : Option Addr} {ws : List Wrd} {s : RSt} {str : List UInt8}
theorem wu {e : Int} (he : e ≠ 0) : (s.flt e).e ≠ 0 := by
 unfold RSt.flt
 split
 ·exact he
 ·assumption
theorem jz {β : Type} {key : List UInt8} {ts : List Wrd} {f : List Wrd → R β} (h : isW key ts = true) : ((pIn d ts).bind fun _ ts => (must key ts).bind fun _ ts => f ts) = (pIn d ts).bind fun _ ts => f ts.tail := by
 unfold pIn
 split
 ·rfl
 ·show (must key ts).bind _ = f ts.tail;unfold must;rw [if_pos h]
  rfl
def CndD (m : Mp) (b : Nat) (A : Option Addr) (c : Nat) (ws : List Wrd) (cond : Nat → List Wrd → R CondT) (n : Nat) : Prop :=
 ∀ m', Le m m' → ∀ (d : Nat) (s : RSt), Okk ws s → d ≤ 9 → (s.e = 0 → d ≤ 8 ∧ s.ts.length < n) → DcC 134 [ptr b] m' b A c ws d d s (cond d) condV
theorem CndD.mono {m m' : Mp} {cond : Nat → List Wrd → R CondT} {n : Nat} (h : CndD m b A c ws cond n) (hl : Le m m') : CndD m' b A c ws cond n := fun m2 h2 => h m2 (hl.trans h2)
theorem qW {P : List Wrd → R CondT} (hw : WsR m A ws) (hs : Okk ws s) (hsm : ws.length ≤ 65537) (hb : s.e ≠ 0) : DcC 176 [ptr b] m b A c ws d d s P condV := by
 refine zp [.cell 2 48] Tryz.func176 rfl rfl rfl ?_;refine tr 2 ?_;refine Al 7 zl48 fun b1 => ?_;refine C1 cl24 rfl .h1 (fun m' hm he => is24 (str := sNot) (hw.mono hm) hs hsm) ?_;rintro _ _ ⟨rfl, rfl⟩;rw [decide_eq_false hb, Bool.false_and];refine vr 7 ?_;refine C1 cl24 rfl .here (fun m' hm he => is24 (str := sOpen) (hw.mono hm) hs hsm) ?_;rintro _ _ ⟨rfl, rfl⟩
 rw [decide_eq_false hb, Bool.false_and];refine vr 11 ?_;refine C1 cl77 rfl .here (fun m' hm he => take77 (str := sHolds) (hw.mono hm) hs hsm) ?_;rintro _ _ (⟨h0, -, -, -, -⟩ | ⟨-, rfl, rfl⟩)
 ·exact absurd h0 hb
 refine vr 10 ?_;refine C1 cl132 rfl .here (fun m' hm he => qI (hw.mono hm) hs hsm hb) ?_;rintro _ _ ⟨rfl, rfl⟩;refine Al 0 zl45 fun b2 => ?_;refine Sg 12 ag45 .here ?_;refine C1 cl77 rfl .h1 (fun m' hm he => take77 (str := sLt) (hw.mono hm) hs hsm) ?_;rintro _ _ (⟨h0, -, -, -, -⟩ | ⟨-, rfl, rfl⟩)
 ·exact absurd h0 hb
 refine vr 7 ?_;refine C1 cl77 rfl .here (fun m' hm he => take77 (str := sLe) (hw.mono hm) hs hsm) ?_;rintro _ _ (⟨h0, -, -, -, -⟩ | ⟨-, rfl, rfl⟩)
 ·exact absurd h0 hb
 refine vr 7 ?_;refine C1 cl77 rfl .here (fun m' hm he => take77 (str := sEq) (hw.mono hm) hs hsm) ?_;rintro _ _ (⟨h0, -, -, -, -⟩ | ⟨-, rfl, rfl⟩)
 ·exact absurd h0 hb
 refine vr 6 ?_;refine C1 cl25 rfl .here (fun m' hm he => wrong25 120 (hw.mono hm) hs hsm) ?_;rintro _ _ ⟨rfl, rfl⟩;have hfl : s.flt 120 = s := by unfold RSt.flt; rw [if_neg hb]
 rw [hfl];refine vr 6 ?_;refine C1 cl132 rfl .here (fun m' hm he => qI (hw.mono hm) hs hsm hb) ?_;rintro _ _ ⟨rfl, rfl⟩;refine Al 0 zl45 fun b3 => ?_;refine Sg 5 ag45 .here ?_;refine Lc 0 ag45 .h3 ?_;refine Lc 0 ag45 .here ?_;refine Bs 0 sl43 fun b4 => ?_;refine pe 0 (zK zl48 pl48 rfl rfl) ?_;refine Sg 3 ag48 .h6 ?_
 exact zM [_] ⟨⟨b1, _, _, _, rfl, .h6, .inr ⟨rfl, rfl⟩⟩, trivial⟩ _ (.cons .h2 (Pick.pack1 .p0)) ⟨CondT.mk 0 0 [] [plainN 0 0 0, plainN 0 0 0] [], s, [pack [cel b4 (z4 ++ z4) 45]], Stp.bad hs hb, ⟨⟨0, 0, [], some ⟨b4, 0, none⟩, 2, 2, none, 0, 0⟩, pack [cel b4 (z4 ++ z4) 45], rfl, rfl, fun ns h => condLess (q := ⟨0, 0, 0, none, 0, 0⟩) (op := 0) (r := ⟨0, 0, 0, none, 0, 0⟩) ⟨by decide, by decide⟩ (h.1 _ (.head _)) (numPlain (op := 0) ⟨by decide, by decide⟩) (numPlain (op := 0) ⟨by decide, by decide⟩)⟩, rfl⟩
section
variable {sum : Nat → List Wrd → R NumT} {cond : Nat → List Wrd → R CondT} {n : Nat} {ts : List Wrd}
theorem Yi (h : isW sNot ts = true) : pTest sum cond (n + 1) d ts = (pIn d ts).bind fun _ ts => (must sNot ts).bind fun _ ts => (pTest sum cond n (d + 1) ts).bind fun k ts => .ok (.mk 3 0 [] [] [k]) ts := by
 rw [jz h]
 conv => lhs; unfold pTest
 rw [if_pos h]
theorem Za (h0 : isW sNot ts = false) (h : isW sOpen ts = true) (ho : outer 0 ts = true) : pTest sum cond (n + 1) d ts = (pIn d ts).bind fun _ ts => (must sOpen ts).bind fun _ ts => (cond (d + 1) ts).bind fun x ts => (must sClose ts).bind fun _ ts => .ok x ts := by
 rw [jz h]
 conv => lhs; unfold pTest
 rw [h0, h, ho]
 rfl
theorem uy (h : isW sHolds ts = true) : pTest sum cond (n + 1) d ts = (must sOpen ts.tail).bind fun _ ts => (pSide ts).bind fun w ts => (must sComma ts).bind fun _ ts => (pName ts).bind fun s ts => (must sClose ts).bind fun _ ts => .ok (CondT.mk 6 w s [] []) ts := by
 conv => lhs; unfold pTest
 rw [zS h (by decide : sHolds ≠ sNot), zS h (by decide : sHolds ≠ sOpen), h]
 rfl
def lessP (sum : Nat → List Wrd → R NumT) (d : Nat) (a : NumT) (ts : List Wrd) : R CondT := match lessSigns.find? fun s => isW s.1 ts with
 | some s => (sum d ts.tail).bind fun b ts => .ok (.mk s.2 0 [] [a, b] []) ts
 | none => fail 120 ts
theorem qb (h0 : isW sNot ts = false) (h : (isW sOpen ts && outer 0 ts) = false) (h1 : isW sHolds ts = false) : pTest sum cond (n + 1) d ts = (sum d ts).bind (lessP sum d) := by
 conv => lhs; unfold pTest
 rw [h0, h, h1]
 rfl
theorem wW {i : Nat} {a : NumT} (hi : i < lessSigns.length) (h : isW lessSigns[i].1 ts = true) : lessP sum d a ts = (sum d ts.tail).bind fun b ts => .ok (.mk lessSigns[i].2 0 [] [a, b] []) ts := by
 have hu : ∀ i : Fin 3, ∀ j : Fin 3, j.1 < i.1 → (lessSigns[i.1]'i.2).1 ≠ (lessSigns[j.1]'j.2).1 := by decide
 unfold lessP;rw [xH hi h (fun j hj hji => zS h (hu ⟨i, hi⟩ ⟨j, hj⟩ hji))]
theorem kj {a : NumT} (h1 : isW sLt ts = false) (h2 : isW sLe ts = false) (h3 : isW sEq ts = false) : lessP sum d a ts = fail 120 ts := by
 unfold lessP
 rw [wK (fun i hi => by
  match i, hi with
  | 0, _ => exact h1
  | 1, _ => exact h2
  | 2, _ => exact h3)]
end
theorem test176 {m : Mp} {sum : Nat → List Wrd → R NumT} {cond : Nat → List Wrd → R CondT} {k : Nat} (hw : WsR m A ws) (hsm : ws.length ≤ 65537) (hse : ∀ d ts, ts.length < k + 1 → Tp.Ends (sum d ts) numW ts.length) (hsum : SumD m b A c ws sum (k + 1)) (hce : ∀ d ts, ts.length < k → Tp.Ends (cond d ts) condW ts.length) (hcond : CndD m b A c ws cond k) :
  ∀ (n : Nat) (m' : Mp), Le m m' → ∀ (d : Nat) (s : RSt), Okk ws s → d ≤ 9 → (s.e = 0 → d ≤ 8 ∧ s.ts.length < n ∧ s.ts.length < k + 1) → DcC 176 [ptr b] m' b A c ws d d s (pTest sum cond n d) condV
 | 0, m', hm, d, s, hs, hd9, hok => by
   by_cases hb : s.e = 0
   ·exact absurd (hok hb).2.1 (Nat.not_lt_zero _)
   ·exact qW (hw.mono hm) hs hsm hb
 | n + 1, m', hm, d, s, hs, hd9, hok => by
   by_cases hb : s.e = 0
   rotate_left
   ·exact qW (hw.mono hm) hs hsm hb
   obtain ⟨hd8, hn, hk0⟩ := hok hb;have ih : ∀ m2, Le m' m2 → ∀ (d : Nat) (s : RSt), Okk ws s → d ≤ 9 → (s.e = 0 → d ≤ 8 ∧ s.ts.length < n ∧ s.ts.length < k + 1) → DcC 176 [ptr b] m2 b A c ws d d s (pTest sum cond n d) condV := fun m2 h2 => test176 hw hsm hse hsum hce hcond n m2 (hm.trans h2);have hw := hw.mono hm;have hsum := hsum.mono hm;have hcond := hcond.mono hm;clear hm hok
   refine zp [.cell 2 48] Tryz.func176 rfl rfl rfl ?_;refine tr 2 ?_;refine Al 7 zl48 fun b1 => ?_;refine C1 cl24 rfl .h1 (fun m' hm he => is24 (str := sNot) (hw.mono hm) hs hsm) ?_;rintro _ _ ⟨rfl, rfl⟩;rw [decide_eq_true hb, Bool.true_and];cases hkn : isW sNot s.ts with
   | true =>
     refine vr 7 ?_;refine C1 cl133 rfl .here (fun m' hm he => in133 (hw.mono hm) hs hsm (by omega)) ?_;rintro _ _ ⟨_, t1, _, ht1, ⟨rfl, rfl⟩, rfl⟩;have hIn := u5 ht1;refine vr 5 ?_;refine C1 cl79 rfl .here (fun m' hm he => must79 (str := sNot) (hw.mono hm) ht1.ok hsm) ?_;rintro _ _ ⟨_, t2, _, ht2, ⟨rfl, rfl⟩, rfl⟩;have hLt2 := ht2.le (fun _ => zF);refine vr 5 ?_
     refine C1 cl176 rfl .here (fun m' hm he => ih m' hm (d + 1) t2 ht2.ok (by omega) (fun h0 => ⟨by omega, by omega, by omega⟩)) ?_;rintro _ _ ⟨x, t3, _, ht3, ⟨q, e, rfl, rfl, hx⟩, rfl⟩;refine Al 0 zl48 fun b2 => ?_;refine Sg 5 ag48 .here ?_;refine C1 cl135 rfl .h1 (fun m' hm he => out135 (by omega)) ?_;rintro _ _ ⟨rfl, rfl⟩;refine vr 4 ?_;refine Lc 0 ag48 .h1 ?_;refine Bs 0 sl46 fun b3 => ?_
     refine pe 0 (zK zl48 pl48 rfl rfl) ?_;refine Sg 5 ag48 .h4 ?_
     exact zM [_] ⟨⟨b1, _, _, _, rfl, .h4, .inr ⟨rfl, rfl⟩⟩, trivial⟩ _ (.cons .h1 (Pick.pack2 (.cons .here .p1))) ⟨CondT.mk 3 0 [] [] [x], t3, [pack [cel b3 q.v 48, e]], (ht1.bind (Q := fun _ ts => (must sNot ts).bind fun _ ts => (pTest sum cond n (d + 1) ts).bind fun k ts => .ok (CondT.mk 3 0 [] [] [k]) ts) (ht2.bind (Q := fun _ ts => (pTest sum cond n (d + 1) ts).bind fun k ts => .ok (CondT.mk 3 0 [] [] [k]) ts) (ht3.bind (Q := fun k ts => .ok (CondT.mk 3 0 [] [] [k]) ts) (Stp.pure ht3.ok)))).congr (fun _ => (Yi hkn).symm), ⟨⟨3, 0, [], none, 0, 0, some ⟨b3, 0, none⟩, 1, 1⟩, pack [cel b3 q.v 48, e], rfl, rfl, fun ns h => condNot (h.1 _ (.head _)) (hx ns (h.1 _ (.tail _ (.head _))))⟩, rfl⟩
   | false =>
     refine vr 7 ?_;refine C1 cl24 rfl .here (fun m' hm he => is24 (str := sOpen) (hw.mono hm) hs hsm) ?_;rintro _ _ ⟨rfl, rfl⟩;rw [decide_eq_true hb, Bool.true_and];cases hko : isW sOpen s.ts with
     | true =>
       refine vr 2 ?_;refine C1 cl183 rfl .here (fun m' hm he => outer183 (hw.mono hm) hs hb hko hsm) ?_;rintro _ _ ⟨rfl, rfl⟩;cases hoo : outer 0 s.ts with
       | true =>
         refine vr 8 ?_;refine C1 cl133 rfl .here (fun m' hm he => in133 (hw.mono hm) hs hsm (by omega)) ?_;rintro _ _ ⟨_, t1, _, ht1, ⟨rfl, rfl⟩, rfl⟩;have hIn := u5 ht1;refine vr 5 ?_;refine C1 cl79 rfl .here (fun m' hm he => must79 (str := sOpen) (hw.mono hm) ht1.ok hsm) ?_;rintro _ _ ⟨_, t2, _, ht2, ⟨rfl, rfl⟩, rfl⟩;have hLt2 := ht2.le (fun _ => zF);refine vr 5 ?_
         refine C1 cl134 rfl .here (fun m' hm he => hcond m' hm (d + 1) t2 ht2.ok (by omega) (fun h0 => ⟨by omega, by omega⟩)) ?_;rintro _ _ ⟨x, t3, _, ht3, ⟨q, e, rfl, rfl, hx⟩, rfl⟩;have hLt3 := ht3.le (fun h0 => hce (d + 1) _ (by omega));refine Al 0 zl48 fun b2 => ?_;refine Sg 5 ag48 .here ?_;refine C1 cl79 rfl .h1 (fun m' hm he => must79 (str := sClose) (hw.mono hm) ht3.ok hsm) ?_
         rintro _ _ ⟨_, t4, _, ht4, ⟨rfl, rfl⟩, rfl⟩;have hLt4 := ht4.le (fun _ => zF);refine vr 5 ?_;refine C1 cl135 rfl .here (fun m' hm he => out135 (by omega)) ?_;rintro _ _ ⟨rfl, rfl⟩;refine vr 4 ?_;refine Lc 0 ag48 .h1 ?_;refine Sg 5 ag48 .h3 ?_
         exact zM [_] ⟨⟨b1, _, _, _, rfl, .h3, .inr ⟨rfl, rfl⟩⟩, trivial⟩ _ (.cons .here .p1) ⟨x, t4, [e], (ht1.bind (Q := fun _ ts => (must sOpen ts).bind fun _ ts => (cond (d + 1) ts).bind fun x ts => (must sClose ts).bind fun _ ts => .ok x ts) (ht2.bind (Q := fun _ ts => (cond (d + 1) ts).bind fun x ts => (must sClose ts).bind fun _ ts => .ok x ts) (ht3.bind (Q := fun x ts => (must sClose ts).bind fun _ ts => .ok x ts) (ht4.bind (Q := fun _ ts => .ok x ts) (Stp.pure ht4.ok))))).congr (fun _ => (Za hkn hko hoo).symm), ⟨q, e, rfl, rfl, hx⟩, rfl⟩
       | false =>
         have hou : (isW sOpen s.ts && outer 0 s.ts) = false := by rw [hko, hoo]; rfl
         refine vr 8 ?_;refine C1 cl77 rfl .here (fun m' hm he => take77 (str := sHolds) (hw.mono hm) hs hsm) ?_;rintro _ _ (⟨-, hk, hn1, rfl, rfl⟩ | ⟨hkh, rfl, rfl⟩)
         ·refine vr 7 ?_;refine C1 cl79 rfl .here (fun m' hm he => must79 (str := sOpen) (hw.mono hm) hn1 hsm) ?_;rintro _ _ ⟨_, t1, _, ht1, ⟨rfl, rfl⟩, rfl⟩;have hLt1 := ht1.le (fun _ => zF);refine vr 5 ?_;refine C1 cl131 rfl .here (fun m' hm he => who131 (t := false) (hw.mono hm) ht1.ok hsm) ?_;rintro _ _ ⟨w2, t2, _, ht2, ⟨rfl, rfl, hw8⟩, rfl⟩;refine pe 0 (zK zl48 pl48 rfl rfl) ?_
          refine Al 0 zl48 fun b2 => ?_;refine Sg 5 ag48 .here ?_;refine C1 cl79 rfl .h1 (fun m' hm he => must79 (str := sComma) (hw.mono hm) ht2.ok hsm) ?_;rintro _ _ ⟨_, t3, _, ht3, ⟨rfl, rfl⟩, rfl⟩;have hLt3 := ht3.le (fun _ => zF);refine vr 5 ?_;refine C1 cl76 rfl .here (fun m' hm he => name76 (hw.mono hm) ht3.ok hsm) ?_;rintro _ _ ⟨nm, t4, _, ht4, ⟨rfl, rfl, hnl⟩, rfl⟩;refine vr 1 ?_
          refine Sr 5 co9 .h1 .h2 ?_;refine C1 cl79 rfl .here (fun m' hm he => must79 (str := sClose) (hw.mono hm) ht4.ok hsm) ?_;rintro _ _ ⟨_, t5, _, ht5, ⟨rfl, rfl⟩, rfl⟩;have hLt5 := ht5.le (fun _ => zF);refine vr 4 ?_;refine Lc 0 ag48 .h1 ?_;refine Sg 5 ag48 .h2 ?_
          exact zM [_] ⟨⟨b1, _, _, _, rfl, .h2, .inr ⟨rfl, rfl⟩⟩, trivial⟩ _ (.cons .here (Pick.nilE (.nil _))) ⟨CondT.mk 6 w2 nm [] [], t5, [pack []], Stp.nx hb (uy hk) (Stp.bind (Q := fun _ ts => (pSide ts).bind fun w ts => (must sComma ts).bind fun _ ts => (pName ts).bind fun s ts => (must sClose ts).bind fun _ ts => .ok (CondT.mk 6 w s [] []) ts) ht1 (Stp.bind (Q := fun w ts => (must sComma ts).bind fun _ ts => (pName ts).bind fun s ts => (must sClose ts).bind fun _ ts => .ok (CondT.mk 6 w s [] []) ts) (ht2.congr (Q := pSide) fun _ => rfl) (Stp.bind (Q := fun _ ts => (pName ts).bind fun s ts => (must sClose ts).bind fun _ ts => .ok (CondT.mk 6 w2 s [] []) ts) ht3 (Stp.bind (Q := fun s ts => (must sClose ts).bind fun _ ts => .ok (CondT.mk 6 w2 s [] []) ts) ht4 (Stp.bind (Q := fun _ ts => .ok (CondT.mk 6 w2 nm [] []) ts) ht5 (Stp.pure ht5.ok)))))), ⟨⟨6, w2, nm, none, 0, 0, none, 0, 0⟩, pack [], rfl, rfl, fun ns _ => condHolds hw8 (Nat.le_trans hnl (by decide))⟩, rfl⟩
         have hkh := hkh hb;have hPl := qb (sum := sum) (cond := cond) (n := n) (d := d) hkn hou hkh;refine vr 10 ?_;refine C1 cl132 rfl .here (fun m' hm he => hsum m' hm d s hs (by omega) (fun _ => ⟨hd8, hk0⟩)) ?_;rintro _ _ ⟨x, t1, _, ht1, ⟨qx, ex, rfl, rfl, hx⟩, rfl⟩;have hLt1 := ht1.le (fun h0 => hse d _ hk0);refine Al 0 zl45 fun b2 => ?_;refine Sg 12 ag45 .here ?_
         refine C1 cl77 rfl .h1 (fun m' hm he => take77 (str := sLt) (hw.mono hm) ht1.ok hsm) ?_;rintro _ _ (⟨h0, hk, hn1, rfl, rfl⟩ | ⟨h1, rfl, rfl⟩)
         ·have htl := zZ hk;have hq := hLt1 h0;refine vr 10 ?_;refine C1 cl132 rfl .here (fun m' hm he => hsum m' hm d t1.nx hn1 (by omega) (fun _ => ⟨hd8, by show t1.ts.tail.length < k + 1; omega⟩)) ?_;rintro _ _ ⟨y, t2, _, ht2, ⟨qy, ey, rfl, rfl, hy⟩, rfl⟩;refine Al 0 zl45 fun b3 => ?_;refine Sg 5 ag45 .here ?_;refine Lc 0 ag45 .h3 ?_;refine Lc 0 ag45 .here ?_;refine Bs 0 sl43 fun b4 => ?_
          refine pe 0 (zK zl48 pl48 rfl rfl) ?_;refine Sg 3 ag48 .h6 ?_
          exact zM [_] ⟨⟨b1, _, _, _, rfl, .h6, .inr ⟨rfl, rfl⟩⟩, trivial⟩ _ (.cons .h2 (Pick.pack3 (.cons .here (.cons .h3 .p1)))) ⟨CondT.mk 0 0 [] [x, y] [], t2, [pack [cel b4 (qx.v ++ qy.v) 45, ex, ey]], (ht1.bind (Q := lessP sum d) (Stp.nx h0 (wW (i := 0) (by decide) hk) (ht2.bind (Q := fun b ts => .ok (.mk 0 0 [] [x, b] []) ts) (Stp.pure ht2.ok)))).congr (fun _ => hPl.symm), ⟨⟨0, 0, [], some ⟨b4, 0, none⟩, 2, 2, none, 0, 0⟩, pack [cel b4 (qx.v ++ qy.v) 45, ex, ey], rfl, rfl, fun ns h => condLess (op := 0) (q := qx) (r := qy) ⟨by decide, by decide⟩ (h.1 _ (.head _)) (hx ns (h.1 _ (.tail _ (.head _)))) (hy ns (h.1 _ (.tail _ (.tail _ (.head _)))))⟩, rfl⟩
         refine vr 7 ?_;refine C1 cl77 rfl .here (fun m' hm he => take77 (str := sLe) (hw.mono hm) ht1.ok hsm) ?_;rintro _ _ (⟨h0, hk, hn1, rfl, rfl⟩ | ⟨h2, rfl, rfl⟩)
         ·have htl := zZ hk;have hq := hLt1 h0;refine vr 12 ?_;refine C1 cl132 rfl .here (fun m' hm he => hsum m' hm d t1.nx hn1 (by omega) (fun _ => ⟨hd8, by show t1.ts.tail.length < k + 1; omega⟩)) ?_;rintro _ _ ⟨y, t2, _, ht2, ⟨qy, ey, rfl, rfl, hy⟩, rfl⟩;refine Al 0 zl45 fun b3 => ?_;refine Sg 5 ag45 .here ?_;refine Lc 0 ag45 .h3 ?_;refine Lc 0 ag45 .here ?_;refine Bs 0 sl43 fun b4 => ?_
          refine pe 0 (zK zl48 pl48 rfl rfl) ?_;refine Sg 3 ag48 .h6 ?_
          exact zM [_] ⟨⟨b1, _, _, _, rfl, .h6, .inr ⟨rfl, rfl⟩⟩, trivial⟩ _ (.cons .h2 (Pick.pack3 (.cons .here (.cons .h3 .p1)))) ⟨CondT.mk 1 0 [] [x, y] [], t2, [pack [cel b4 (qx.v ++ qy.v) 45, ex, ey]], (ht1.bind (Q := lessP sum d) (Stp.nx h0 (wW (i := 1) (by decide) hk) (ht2.bind (Q := fun b ts => .ok (.mk 1 0 [] [x, b] []) ts) (Stp.pure ht2.ok)))).congr (fun _ => hPl.symm), ⟨⟨1, 0, [], some ⟨b4, 0, none⟩, 2, 2, none, 0, 0⟩, pack [cel b4 (qx.v ++ qy.v) 45, ex, ey], rfl, rfl, fun ns h => condLess (op := 1) (q := qx) (r := qy) ⟨by decide, by decide⟩ (h.1 _ (.head _)) (hx ns (h.1 _ (.tail _ (.head _)))) (hy ns (h.1 _ (.tail _ (.tail _ (.head _)))))⟩, rfl⟩
         refine vr 7 ?_;refine C1 cl77 rfl .here (fun m' hm he => take77 (str := sEq) (hw.mono hm) ht1.ok hsm) ?_;rintro _ _ (⟨h0, hk, hn1, rfl, rfl⟩ | ⟨h3, rfl, rfl⟩)
         ·have htl := zZ hk;have hq := hLt1 h0;refine vr 12 ?_;refine C1 cl132 rfl .here (fun m' hm he => hsum m' hm d t1.nx hn1 (by omega) (fun _ => ⟨hd8, by show t1.ts.tail.length < k + 1; omega⟩)) ?_;rintro _ _ ⟨y, t2, _, ht2, ⟨qy, ey, rfl, rfl, hy⟩, rfl⟩;refine Al 0 zl45 fun b3 => ?_;refine Sg 5 ag45 .here ?_;refine Lc 0 ag45 .h3 ?_;refine Lc 0 ag45 .here ?_;refine Bs 0 sl43 fun b4 => ?_
          refine pe 0 (zK zl48 pl48 rfl rfl) ?_;refine Sg 3 ag48 .h6 ?_
          exact zM [_] ⟨⟨b1, _, _, _, rfl, .h6, .inr ⟨rfl, rfl⟩⟩, trivial⟩ _ (.cons .h2 (Pick.pack3 (.cons .here (.cons .h3 .p1)))) ⟨CondT.mk 2 0 [] [x, y] [], t2, [pack [cel b4 (qx.v ++ qy.v) 45, ex, ey]], (ht1.bind (Q := lessP sum d) (Stp.nx h0 (wW (i := 2) (by decide) hk) (ht2.bind (Q := fun b ts => .ok (.mk 2 0 [] [x, b] []) ts) (Stp.pure ht2.ok)))).congr (fun _ => hPl.symm), ⟨⟨2, 0, [], some ⟨b4, 0, none⟩, 2, 2, none, 0, 0⟩, pack [cel b4 (qx.v ++ qy.v) 45, ex, ey], rfl, rfl, fun ns h => condLess (op := 2) (q := qx) (r := qy) ⟨by decide, by decide⟩ (h.1 _ (.head _)) (hx ns (h.1 _ (.tail _ (.head _)))) (hy ns (h.1 _ (.tail _ (.tail _ (.head _)))))⟩, rfl⟩
         refine vr 6 ?_;refine C1 cl25 rfl .here (fun m' hm he => wrong25 120 (hw.mono hm) ht1.ok hsm) ?_;rintro _ _ ⟨rfl, rfl⟩;have hfb : (t1.flt 120).e ≠ 0 := wu (by decide);have hfs : ∀ z, Stp ws (lessP sum d x) t1 z (t1.flt 120) := fun z => (yX (α := CondT) ht1.ok (by decide : (120 : Int) ≠ 0)).congr fun h0 => (kj (h1 h0) (h2 h0) (h3 h0)).symm;refine vr 6 ?_
         refine C1 cl132 rfl .here (fun m' hm he => hsum m' hm d (t1.flt 120) (hfs (.mk 0 0 [] [] [])).ok (by omega) (fun h0 => absurd h0 hfb)) ?_;rintro _ _ ⟨y, t2, _, ht2, ⟨qy, ey, rfl, rfl, hy⟩, rfl⟩;obtain rfl := ht2.2.1 hfb;refine Al 0 zl45 fun b3 => ?_;refine Sg 5 ag45 .here ?_;refine Lc 0 ag45 .h3 ?_;refine Lc 0 ag45 .here ?_;refine Bs 0 sl43 fun b4 => ?_
         refine pe 0 (zK zl48 pl48 rfl rfl) ?_;refine Sg 3 ag48 .h6 ?_
         exact zM [_] ⟨⟨b1, _, _, _, rfl, .h6, .inr ⟨rfl, rfl⟩⟩, trivial⟩ _ (.cons .h2 (Pick.pack3 (.cons .here (.cons .h3 .p1)))) ⟨CondT.mk 0 0 [] [x, y] [], t1.flt 120, [pack [cel b4 (qx.v ++ qy.v) 45, ex, ey]], (ht1.bind (Q := lessP sum d) (hfs _)).congr (fun _ => hPl.symm), ⟨⟨0, 0, [], some ⟨b4, 0, none⟩, 2, 2, none, 0, 0⟩, pack [cel b4 (qx.v ++ qy.v) 45, ex, ey], rfl, rfl, fun ns h => condLess (op := 0) (q := qx) (r := qy) ⟨by decide, by decide⟩ (h.1 _ (.head _)) (hx ns (h.1 _ (.tail _ (.head _)))) (hy ns (h.1 _ (.tail _ (.tail _ (.head _)))))⟩, rfl⟩
     | false =>
       have hou : (isW sOpen s.ts && outer 0 s.ts) = false := by rw [hko]; rfl
       refine vr 11 ?_;refine C1 cl77 rfl .here (fun m' hm he => take77 (str := sHolds) (hw.mono hm) hs hsm) ?_;rintro _ _ (⟨-, hk, hn1, rfl, rfl⟩ | ⟨hkh, rfl, rfl⟩)
       ·refine vr 7 ?_;refine C1 cl79 rfl .here (fun m' hm he => must79 (str := sOpen) (hw.mono hm) hn1 hsm) ?_;rintro _ _ ⟨_, t1, _, ht1, ⟨rfl, rfl⟩, rfl⟩;have hLt1 := ht1.le (fun _ => zF);refine vr 5 ?_;refine C1 cl131 rfl .here (fun m' hm he => who131 (t := false) (hw.mono hm) ht1.ok hsm) ?_;rintro _ _ ⟨w2, t2, _, ht2, ⟨rfl, rfl, hw8⟩, rfl⟩;refine pe 0 (zK zl48 pl48 rfl rfl) ?_
        refine Al 0 zl48 fun b2 => ?_;refine Sg 5 ag48 .here ?_;refine C1 cl79 rfl .h1 (fun m' hm he => must79 (str := sComma) (hw.mono hm) ht2.ok hsm) ?_;rintro _ _ ⟨_, t3, _, ht3, ⟨rfl, rfl⟩, rfl⟩;have hLt3 := ht3.le (fun _ => zF);refine vr 5 ?_;refine C1 cl76 rfl .here (fun m' hm he => name76 (hw.mono hm) ht3.ok hsm) ?_;rintro _ _ ⟨nm, t4, _, ht4, ⟨rfl, rfl, hnl⟩, rfl⟩;refine vr 1 ?_
        refine Sr 5 co9 .h1 .h2 ?_;refine C1 cl79 rfl .here (fun m' hm he => must79 (str := sClose) (hw.mono hm) ht4.ok hsm) ?_;rintro _ _ ⟨_, t5, _, ht5, ⟨rfl, rfl⟩, rfl⟩;have hLt5 := ht5.le (fun _ => zF);refine vr 4 ?_;refine Lc 0 ag48 .h1 ?_;refine Sg 5 ag48 .h2 ?_
        exact zM [_] ⟨⟨b1, _, _, _, rfl, .h2, .inr ⟨rfl, rfl⟩⟩, trivial⟩ _ (.cons .here (Pick.nilE (.nil _))) ⟨CondT.mk 6 w2 nm [] [], t5, [pack []], Stp.nx hb (uy hk) (Stp.bind (Q := fun _ ts => (pSide ts).bind fun w ts => (must sComma ts).bind fun _ ts => (pName ts).bind fun s ts => (must sClose ts).bind fun _ ts => .ok (CondT.mk 6 w s [] []) ts) ht1 (Stp.bind (Q := fun w ts => (must sComma ts).bind fun _ ts => (pName ts).bind fun s ts => (must sClose ts).bind fun _ ts => .ok (CondT.mk 6 w s [] []) ts) (ht2.congr (Q := pSide) fun _ => rfl) (Stp.bind (Q := fun _ ts => (pName ts).bind fun s ts => (must sClose ts).bind fun _ ts => .ok (CondT.mk 6 w2 s [] []) ts) ht3 (Stp.bind (Q := fun s ts => (must sClose ts).bind fun _ ts => .ok (CondT.mk 6 w2 s [] []) ts) ht4 (Stp.bind (Q := fun _ ts => .ok (CondT.mk 6 w2 nm [] []) ts) ht5 (Stp.pure ht5.ok)))))), ⟨⟨6, w2, nm, none, 0, 0, none, 0, 0⟩, pack [], rfl, rfl, fun ns _ => condHolds hw8 (Nat.le_trans hnl (by decide))⟩, rfl⟩
       have hkh := hkh hb;have hPl := qb (sum := sum) (cond := cond) (n := n) (d := d) hkn hou hkh;refine vr 10 ?_;refine C1 cl132 rfl .here (fun m' hm he => hsum m' hm d s hs (by omega) (fun _ => ⟨hd8, hk0⟩)) ?_;rintro _ _ ⟨x, t1, _, ht1, ⟨qx, ex, rfl, rfl, hx⟩, rfl⟩;have hLt1 := ht1.le (fun h0 => hse d _ hk0);refine Al 0 zl45 fun b2 => ?_;refine Sg 12 ag45 .here ?_
       refine C1 cl77 rfl .h1 (fun m' hm he => take77 (str := sLt) (hw.mono hm) ht1.ok hsm) ?_;rintro _ _ (⟨h0, hk, hn1, rfl, rfl⟩ | ⟨h1, rfl, rfl⟩)
       ·have htl := zZ hk;have hq := hLt1 h0;refine vr 10 ?_;refine C1 cl132 rfl .here (fun m' hm he => hsum m' hm d t1.nx hn1 (by omega) (fun _ => ⟨hd8, by show t1.ts.tail.length < k + 1; omega⟩)) ?_;rintro _ _ ⟨y, t2, _, ht2, ⟨qy, ey, rfl, rfl, hy⟩, rfl⟩;refine Al 0 zl45 fun b3 => ?_;refine Sg 5 ag45 .here ?_;refine Lc 0 ag45 .h3 ?_;refine Lc 0 ag45 .here ?_;refine Bs 0 sl43 fun b4 => ?_
        refine pe 0 (zK zl48 pl48 rfl rfl) ?_;refine Sg 3 ag48 .h6 ?_
        exact zM [_] ⟨⟨b1, _, _, _, rfl, .h6, .inr ⟨rfl, rfl⟩⟩, trivial⟩ _ (.cons .h2 (Pick.pack3 (.cons .here (.cons .h3 .p1)))) ⟨CondT.mk 0 0 [] [x, y] [], t2, [pack [cel b4 (qx.v ++ qy.v) 45, ex, ey]], (ht1.bind (Q := lessP sum d) (Stp.nx h0 (wW (i := 0) (by decide) hk) (ht2.bind (Q := fun b ts => .ok (.mk 0 0 [] [x, b] []) ts) (Stp.pure ht2.ok)))).congr (fun _ => hPl.symm), ⟨⟨0, 0, [], some ⟨b4, 0, none⟩, 2, 2, none, 0, 0⟩, pack [cel b4 (qx.v ++ qy.v) 45, ex, ey], rfl, rfl, fun ns h => condLess (op := 0) (q := qx) (r := qy) ⟨by decide, by decide⟩ (h.1 _ (.head _)) (hx ns (h.1 _ (.tail _ (.head _)))) (hy ns (h.1 _ (.tail _ (.tail _ (.head _)))))⟩, rfl⟩
       refine vr 7 ?_;refine C1 cl77 rfl .here (fun m' hm he => take77 (str := sLe) (hw.mono hm) ht1.ok hsm) ?_;rintro _ _ (⟨h0, hk, hn1, rfl, rfl⟩ | ⟨h2, rfl, rfl⟩)
       ·have htl := zZ hk;have hq := hLt1 h0;refine vr 12 ?_;refine C1 cl132 rfl .here (fun m' hm he => hsum m' hm d t1.nx hn1 (by omega) (fun _ => ⟨hd8, by show t1.ts.tail.length < k + 1; omega⟩)) ?_;rintro _ _ ⟨y, t2, _, ht2, ⟨qy, ey, rfl, rfl, hy⟩, rfl⟩;refine Al 0 zl45 fun b3 => ?_;refine Sg 5 ag45 .here ?_;refine Lc 0 ag45 .h3 ?_;refine Lc 0 ag45 .here ?_;refine Bs 0 sl43 fun b4 => ?_
        refine pe 0 (zK zl48 pl48 rfl rfl) ?_;refine Sg 3 ag48 .h6 ?_
        exact zM [_] ⟨⟨b1, _, _, _, rfl, .h6, .inr ⟨rfl, rfl⟩⟩, trivial⟩ _ (.cons .h2 (Pick.pack3 (.cons .here (.cons .h3 .p1)))) ⟨CondT.mk 1 0 [] [x, y] [], t2, [pack [cel b4 (qx.v ++ qy.v) 45, ex, ey]], (ht1.bind (Q := lessP sum d) (Stp.nx h0 (wW (i := 1) (by decide) hk) (ht2.bind (Q := fun b ts => .ok (.mk 1 0 [] [x, b] []) ts) (Stp.pure ht2.ok)))).congr (fun _ => hPl.symm), ⟨⟨1, 0, [], some ⟨b4, 0, none⟩, 2, 2, none, 0, 0⟩, pack [cel b4 (qx.v ++ qy.v) 45, ex, ey], rfl, rfl, fun ns h => condLess (op := 1) (q := qx) (r := qy) ⟨by decide, by decide⟩ (h.1 _ (.head _)) (hx ns (h.1 _ (.tail _ (.head _)))) (hy ns (h.1 _ (.tail _ (.tail _ (.head _)))))⟩, rfl⟩
       refine vr 7 ?_;refine C1 cl77 rfl .here (fun m' hm he => take77 (str := sEq) (hw.mono hm) ht1.ok hsm) ?_;rintro _ _ (⟨h0, hk, hn1, rfl, rfl⟩ | ⟨h3, rfl, rfl⟩)
       ·have htl := zZ hk;have hq := hLt1 h0;refine vr 12 ?_;refine C1 cl132 rfl .here (fun m' hm he => hsum m' hm d t1.nx hn1 (by omega) (fun _ => ⟨hd8, by show t1.ts.tail.length < k + 1; omega⟩)) ?_;rintro _ _ ⟨y, t2, _, ht2, ⟨qy, ey, rfl, rfl, hy⟩, rfl⟩;refine Al 0 zl45 fun b3 => ?_;refine Sg 5 ag45 .here ?_;refine Lc 0 ag45 .h3 ?_;refine Lc 0 ag45 .here ?_;refine Bs 0 sl43 fun b4 => ?_
        refine pe 0 (zK zl48 pl48 rfl rfl) ?_;refine Sg 3 ag48 .h6 ?_
        exact zM [_] ⟨⟨b1, _, _, _, rfl, .h6, .inr ⟨rfl, rfl⟩⟩, trivial⟩ _ (.cons .h2 (Pick.pack3 (.cons .here (.cons .h3 .p1)))) ⟨CondT.mk 2 0 [] [x, y] [], t2, [pack [cel b4 (qx.v ++ qy.v) 45, ex, ey]], (ht1.bind (Q := lessP sum d) (Stp.nx h0 (wW (i := 2) (by decide) hk) (ht2.bind (Q := fun b ts => .ok (.mk 2 0 [] [x, b] []) ts) (Stp.pure ht2.ok)))).congr (fun _ => hPl.symm), ⟨⟨2, 0, [], some ⟨b4, 0, none⟩, 2, 2, none, 0, 0⟩, pack [cel b4 (qx.v ++ qy.v) 45, ex, ey], rfl, rfl, fun ns h => condLess (op := 2) (q := qx) (r := qy) ⟨by decide, by decide⟩ (h.1 _ (.head _)) (hx ns (h.1 _ (.tail _ (.head _)))) (hy ns (h.1 _ (.tail _ (.tail _ (.head _)))))⟩, rfl⟩
       refine vr 6 ?_;refine C1 cl25 rfl .here (fun m' hm he => wrong25 120 (hw.mono hm) ht1.ok hsm) ?_;rintro _ _ ⟨rfl, rfl⟩;have hfb : (t1.flt 120).e ≠ 0 := wu (by decide);have hfs : ∀ z, Stp ws (lessP sum d x) t1 z (t1.flt 120) := fun z => (yX (α := CondT) ht1.ok (by decide : (120 : Int) ≠ 0)).congr fun h0 => (kj (h1 h0) (h2 h0) (h3 h0)).symm;refine vr 6 ?_
       refine C1 cl132 rfl .here (fun m' hm he => hsum m' hm d (t1.flt 120) (hfs (.mk 0 0 [] [] [])).ok (by omega) (fun h0 => absurd h0 hfb)) ?_;rintro _ _ ⟨y, t2, _, ht2, ⟨qy, ey, rfl, rfl, hy⟩, rfl⟩;obtain rfl := ht2.2.1 hfb;refine Al 0 zl45 fun b3 => ?_;refine Sg 5 ag45 .here ?_;refine Lc 0 ag45 .h3 ?_;refine Lc 0 ag45 .here ?_;refine Bs 0 sl43 fun b4 => ?_
       refine pe 0 (zK zl48 pl48 rfl rfl) ?_;refine Sg 3 ag48 .h6 ?_
       exact zM [_] ⟨⟨b1, _, _, _, rfl, .h6, .inr ⟨rfl, rfl⟩⟩, trivial⟩ _ (.cons .h2 (Pick.pack3 (.cons .here (.cons .h3 .p1)))) ⟨CondT.mk 0 0 [] [x, y] [], t1.flt 120, [pack [cel b4 (qx.v ++ qy.v) 45, ex, ey]], (ht1.bind (Q := lessP sum d) (hfs _)).congr (fun _ => hPl.symm), ⟨⟨0, 0, [], some ⟨b4, 0, none⟩, 2, 2, none, 0, 0⟩, pack [cel b4 (qx.v ++ qy.v) 45, ex, ey], rfl, rfl, fun ns h => condLess (op := 0) (q := qx) (r := qy) ⟨by decide, by decide⟩ (h.1 _ (.head _)) (hx ns (h.1 _ (.tail _ (.head _)))) (hy ns (h.1 _ (.tail _ (.tail _ (.head _)))))⟩, rfl⟩
end
section
open Wd Tp Kd
variable {m : Mp} {b c d : Nat} {A : Option Addr} {ws : List Wrd} {s : RSt} {str : List UInt8}
abbrev z5 : List Value := [.int .i8 0, .int .i8 0, .string (bs []), .slice none 0 0, .slice none 0 0]
theorem both157 {cond : Nat → List Wrd → R CondT} {k : Nat} (hw : WsR m A ws) (hs : Okk ws s) (hsm : ws.length ≤ 65537) (hd9 : d ≤ 9) (hok : s.e = 0 → d ≤ 8 ∧ s.ts.length < k + 1) (hce : ∀ d ts, ts.length < k → Tp.Ends (cond d ts) condW ts.length) (hcond : CndD m b A c ws cond k) : DcC 157 [ptr b] m b A c ws d d s (pBoth cond (k + 1) d) condV := by
  have hone : ∀ ts, ts.length < k + 1 → Tp.Ends (pTest (pSum (k + 1)) cond (k + 1) d ts) condW ts.length := fun ts h => xv (yD (k + 1)) hce (k + 1) d ts h h;refine zp [.cell 2 48] Tryz.func157 rfl rfl rfl ?_;refine tr 2 ?_;refine Al 5 zl48 fun b1 => ?_
  refine C1 cl176 rfl .h1 (fun m' hm he => test176 (hw.mono hm) hsm (yD (k + 1)) (sum132 (hw.mono hm) hsm (k + 1)) hce (hcond.mono hm) (k + 1) m' (Le.refl _) d s hs hd9 (fun h0 => ⟨(hok h0).1, (hok h0).2, (hok h0).2⟩)) ?_;rintro _ _ ⟨x, s1, _, h1, ⟨q, e, rfl, rfl, hx⟩, rfl⟩;have hL := h1.le (w := condW) (fun h0 => hone _ (hok h0).2);refine Al 0 zl48 fun b2 => ?_;refine Sg 4 ag48 .here ?_
  refine zc (α := RwS CondT CondC) (fun _ => [(0, ptr b), (2, ptr b1), (3, ptr b2)]) (fun y => [rf b A c ws d y.s, cel b2 y.q.v 48, y.e, cel b1 z5 48]) (fun y => Rst ws (pTest (pSum (k + 1)) cond (k + 1) d) andSigns putC (pBoth cond (k + 1) d) s y.j y.x y.s ∧ (y.s.e = 0 → d ≤ 8 ∧ y.s.ts.length < y.j ∧ y.s.ts.length < k + 1) ∧ ∀ ns, y.e.inv ns → CondR ns y.q.v y.x) (fun y => y.j)
   ⟨k + 1, s1, x, q, e⟩ ⟨rfl, rfl, rfl, trivial⟩ (.cons .h1 (.cons .here .pp)) ⟨Rst.start h1, fun h0 => by have h9 := hL h0; have h8 := hok h9.1; exact ⟨h8.1, by show s1.ts.length < k + 1; omega, by show s1.ts.length < k + 1; omega⟩, hx⟩ ?_
  clear hL h1 hx;rintro ⟨j, s2, x2, q2, e2⟩ ⟨hR, hlen, hx2⟩;dsimp only at hR hlen hx2;dsimp only;refine tr 4 ?_;refine C1 cl77 rfl .here (fun m' hm he => take77 (str := sAnd) (hw.mono hm) hR.1 hsm) ?_;rintro _ _ (⟨h0, hs0, hnx, rfl, rfl⟩ | ⟨hno, rfl, rfl⟩)
  ·obtain ⟨hd8, hl1, hl2⟩ := hlen h0;obtain ⟨j, rfl⟩ : ∃ j', j = j' + 1 := ⟨j - 1, by omega⟩;have htl := zZ hs0;have hok3 : s2.nx.e = 0 → d ≤ 8 ∧ s2.nx.ts.length < k + 1 := fun _ => ⟨hd8, by show s2.ts.tail.length < k + 1; omega⟩;refine vr 9 ?_
   refine C1 cl176 rfl .here (fun m' hm he => test176 (hw.mono hm) hsm (yD (k + 1)) (sum132 (hw.mono hm) hsm (k + 1)) hce (hcond.mono hm) (k + 1) m' (Le.refl _) d s2.nx hnx hd9 (fun h0 => ⟨(hok3 h0).1, (hok3 h0).2, (hok3 h0).2⟩)) ?_;rintro _ _ ⟨y, s3, _, h3, ⟨r, ey, rfl, rfl, hy⟩, rfl⟩;have hL3 := h3.le (w := condW) (fun h0 => hone _ (hok3 h0).2)
   have hl3 : s2.nx.ts.length = s2.ts.tail.length := rfl;refine Al 0 zl48 fun b3 => ?_;refine Sg 3 ag48 .here ?_;refine Lc 0 ag48 .h3 ?_;refine Lc 0 ag48 .here ?_;refine Bs 0 sl46 fun b4 => ?_;refine pe 0 (zK zl48 pl48 rfl rfl) ?_;refine Sg 2 ag48 .h4 ?_
   exact QR (⟨j, s3, putC 4 x2 y, ⟨4, 0, [], none, 0, 0, some ⟨b4, 0, none⟩, 2, 2⟩, pack [cel b4 (q2.v ++ r.v) 48, e2, ey]⟩ : RwS CondT CondC) (.cons .h2 (.cons .h3 (Pick.pack3 (.cons .here (.cons .h2 (.cons .h1 .p1)))))) ⟨hR.next h0 (xH (signs := andSigns) (i := 0) (by decide) hs0 (fun j hj h => by omega)) h3, fun h0 => by have h9 := hL3 h0; exact ⟨hd8, by show s3.ts.length < j; omega, by show s3.ts.length < k + 1; omega⟩, fun ns h => condPair (op := 4) ⟨by decide, by decide⟩ (h.1 _ (.head _)) (hx2 ns (h.1 _ (.tail _ (.head _)))) (hy ns (h.1 _ (.tail _ (.tail _ (.head _)))))⟩ (Nat.lt_succ_self _)
  refine vr 5 ?_;refine zD ?_;refine zB ?_;refine qt 3 ?_;refine Lc 0 ag48 .h1 ?_;refine Sg 3 ag48 .h3 ?_;exact zM [_] ⟨⟨b1, _, _, _, rfl, .h3, .inr ⟨rfl, rfl⟩⟩, trivial⟩ _ (.cons .here .p1) ⟨x2, s2, [e2], hR.stop (fun h0 => (hlen h0).2.1) (fun h0 i hi => by obtain rfl : i = 0 := (by have : i < 1 := hi; omega); exact hno h0), ⟨q2, e2, rfl, rfl, hx2⟩, rfl⟩
theorem WP {P : List Wrd → R CondT} (hw : WsR m A ws) (hs : Okk ws s) (hsm : ws.length ≤ 65537) (hb : s.e ≠ 0) : DcC 157 [ptr b] m b A c ws d d s P condV := by
 refine zp [.cell 2 48] Tryz.func157 rfl rfl rfl ?_;refine tr 2 ?_;refine Al 5 zl48 fun b1 => ?_;refine C1 cl176 rfl .h1 (fun m' hm he => qW (P := P) (hw.mono hm) hs hsm hb) ?_;rintro _ _ ⟨x, s1, _, h1, ⟨q, e, rfl, rfl, hx⟩, rfl⟩;obtain rfl := h1.2.1 hb;refine Al 0 zl48 fun b2 => ?_;refine Sg 4 ag48 .here ?_
 refine zc (α := Unit) (fun _ => [(0, ptr b), (2, ptr b1), (3, ptr b2)]) (fun _ => [rf b A c ws d s1, cel b2 q.v 48, e, cel b1 z5 48]) (fun _ => True) (fun _ => 0) () ⟨rfl, rfl, rfl, trivial⟩ (.cons .h1 (.cons .here .pp)) trivial ?_;rintro _ -;refine tr 4 ?_;refine C1 cl77 rfl .here (fun m' hm he => take77 (str := sAnd) (hw.mono hm) hs hsm) ?_;rintro _ _ (⟨h0, -, -, -, -⟩ | ⟨-, rfl, rfl⟩)
 ·exact absurd h0 hb
 refine vr 5 ?_;refine zD ?_;refine zB ?_;refine qt 3 ?_;refine Lc 0 ag48 .h1 ?_;refine Sg 3 ag48 .h3 ?_;exact zM [_] ⟨⟨b1, _, _, _, rfl, .h3, .inr ⟨rfl, rfl⟩⟩, trivial⟩ _ (.cons .here .p1) ⟨x, s1, [e], Stp.bad hs hb, ⟨q, e, rfl, rfl, hx⟩, rfl⟩
theorem WJ {P : List Wrd → R CondT} (hw : WsR m A ws) (hs : Okk ws s) (hsm : ws.length ≤ 65537) (hb : s.e ≠ 0) : DcC 134 [ptr b] m b A c ws d d s P condV := by
 refine zp [.cell 2 48] Tryz.func134 rfl rfl rfl ?_;refine tr 2 ?_;refine Al 5 zl48 fun b1 => ?_;refine C1 cl157 rfl .h1 (fun m' hm he => WP (P := P) (hw.mono hm) hs hsm hb) ?_;rintro _ _ ⟨x, s1, _, h1, ⟨q, e, rfl, rfl, hx⟩, rfl⟩;obtain rfl := h1.2.1 hb;refine Al 0 zl48 fun b2 => ?_;refine Sg 4 ag48 .here ?_
 refine zc (α := Unit) (fun _ => [(0, ptr b), (2, ptr b1), (3, ptr b2)]) (fun _ => [rf b A c ws d s1, cel b2 q.v 48, e, cel b1 z5 48]) (fun _ => True) (fun _ => 0) () ⟨rfl, rfl, rfl, trivial⟩ (.cons .h1 (.cons .here .pp)) trivial ?_;rintro _ -;refine tr 4 ?_;refine C1 cl77 rfl .here (fun m' hm he => take77 (str := sOr) (hw.mono hm) hs hsm) ?_;rintro _ _ (⟨h0, -, -, -, -⟩ | ⟨-, rfl, rfl⟩)
 ·exact absurd h0 hb
 refine vr 5 ?_;refine zD ?_;refine zB ?_;refine qt 3 ?_;refine Lc 0 ag48 .h1 ?_;refine Sg 3 ag48 .h3 ?_;exact zM [_] ⟨⟨b1, _, _, _, rfl, .h3, .inr ⟨rfl, rfl⟩⟩, trivial⟩ _ (.cons .here .p1) ⟨x, s1, [e], Stp.bad hs hb, ⟨q, e, rfl, rfl, hx⟩, rfl⟩
theorem cond134 {m : Mp} (hw : WsR m A ws) (hsm : ws.length ≤ 65537) : ∀ (n : Nat), CndD m b A c ws (pCond n) n
 | 0 => fun m' hm d s hs hd9 hok => by
   have hb : s.e ≠ 0 := fun h0 => absurd (hok h0).2 (Nat.not_lt_zero _);have hw := hw.mono hm;exact WJ hw hs hsm hb
 | k + 1 => fun m' hm d s hs hd9 hok => by
   have hw := hw.mono hm;clear hm;have hone : ∀ ts, ts.length < k + 1 → Tp.Ends (pBoth (pCond k) (k + 1) d ts) condW ts.length := fun ts h => xC (k := k + 1) (fun ts h => xv (yD (k + 1)) (y9 k) (k + 1) d ts h h) wh (k + 1) ts h h;refine zp [.cell 2 48] Tryz.func134 rfl rfl rfl ?_;refine tr 2 ?_;refine Al 5 zl48 fun b1 => ?_
   refine C1 cl157 rfl .h1 (fun m' hm he => both157 (hw.mono hm) hs hsm hd9 hok (y9 k) (cond134 (hw.mono hm) hsm k)) ?_;rintro _ _ ⟨x, s1, _, h1, ⟨q, e, rfl, rfl, hx⟩, rfl⟩;have hL := h1.le (w := condW) (fun h0 => hone _ (hok h0).2);refine Al 0 zl48 fun b2 => ?_;refine Sg 4 ag48 .here ?_
   refine zc (α := RwS CondT CondC) (fun _ => [(0, ptr b), (2, ptr b1), (3, ptr b2)]) (fun y => [rf b A c ws d y.s, cel b2 y.q.v 48, y.e, cel b1 z5 48]) (fun y => Rst ws (pBoth (pCond k) (k + 1) d) orSigns putC (pCond (k + 1) d) s y.j y.x y.s ∧ (y.s.e = 0 → d ≤ 8 ∧ y.s.ts.length < y.j ∧ y.s.ts.length < k + 1) ∧ ∀ ns, y.e.inv ns → CondR ns y.q.v y.x) (fun y => y.j)
    ⟨k + 1, s1, x, q, e⟩ ⟨rfl, rfl, rfl, trivial⟩ (.cons .h1 (.cons .here .pp)) ⟨Rst.start h1, fun h0 => by have h9 := hL h0; have h8 := hok h9.1; exact ⟨h8.1, by show s1.ts.length < k + 1; omega, by show s1.ts.length < k + 1; omega⟩, hx⟩ ?_
   clear hL h1 hx;rintro ⟨j, s2, x2, q2, e2⟩ ⟨hR, hlen, hx2⟩;dsimp only at hR hlen hx2;dsimp only;refine tr 4 ?_;refine C1 cl77 rfl .here (fun m' hm he => take77 (str := sOr) (hw.mono hm) hR.1 hsm) ?_;rintro _ _ (⟨h0, hs0, hnx, rfl, rfl⟩ | ⟨hno, rfl, rfl⟩)
   ·obtain ⟨hd8, hl1, hl2⟩ := hlen h0;obtain ⟨j, rfl⟩ : ∃ j', j = j' + 1 := ⟨j - 1, by omega⟩;have htl := zZ hs0;have hok3 : s2.nx.e = 0 → d ≤ 8 ∧ s2.nx.ts.length < k + 1 := fun _ => ⟨hd8, by show s2.ts.tail.length < k + 1; omega⟩;refine vr 9 ?_;refine C1 cl157 rfl .here (fun m' hm he => both157 (hw.mono hm) hnx hsm hd9 hok3 (y9 k) (cond134 (hw.mono hm) hsm k)) ?_
    rintro _ _ ⟨y, s3, _, h3, ⟨r, ey, rfl, rfl, hy⟩, rfl⟩;have hL3 := h3.le (w := condW) (fun h0 => hone _ (hok3 h0).2);have hl3 : s2.nx.ts.length = s2.ts.tail.length := rfl;refine Al 0 zl48 fun b3 => ?_;refine Sg 3 ag48 .here ?_;refine Lc 0 ag48 .h3 ?_;refine Lc 0 ag48 .here ?_;refine Bs 0 sl46 fun b4 => ?_;refine pe 0 (zK zl48 pl48 rfl rfl) ?_;refine Sg 2 ag48 .h4 ?_
    exact QR (⟨j, s3, putC 5 x2 y, ⟨5, 0, [], none, 0, 0, some ⟨b4, 0, none⟩, 2, 2⟩, pack [cel b4 (q2.v ++ r.v) 48, e2, ey]⟩ : RwS CondT CondC) (.cons .h2 (.cons .h3 (Pick.pack3 (.cons .here (.cons .h2 (.cons .h1 .p1)))))) ⟨hR.next h0 (xH (signs := orSigns) (i := 0) (by decide) hs0 (fun j hj h => by omega)) h3, fun h0 => by have h9 := hL3 h0; exact ⟨hd8, by show s3.ts.length < j; omega, by show s3.ts.length < k + 1; omega⟩, fun ns h => condPair (op := 5) ⟨by decide, by decide⟩ (h.1 _ (.head _)) (hx2 ns (h.1 _ (.tail _ (.head _)))) (hy ns (h.1 _ (.tail _ (.tail _ (.head _)))))⟩ (Nat.lt_succ_self _)
   refine vr 5 ?_;refine zD ?_;refine zB ?_;refine qt 3 ?_;refine Lc 0 ag48 .h1 ?_;refine Sg 3 ag48 .h3 ?_;exact zM [_] ⟨⟨b1, _, _, _, rfl, .h3, .inr ⟨rfl, rfl⟩⟩, trivial⟩ _ (.cons .here .p1) ⟨x2, s2, [e2], hR.stop (fun h0 => (hlen h0).2.1) (fun h0 i hi => by obtain rfl : i = 0 := (by have : i < 1 := hi; omega); exact hno h0), ⟨q2, e2, rfl, rfl, hx2⟩, rfl⟩
end
section
open Wd Tp Kd
variable {m : Mp} {b c d : Nat} {A : Option Addr} {ws : List Wrd} {s : RSt} {str : List UInt8}
section
variable {blk : Nat → List Wrd → R (List EffT)} {n : Nat} {ts : List Wrd}
theorem Ys (h : isW sHarm ts = true) : pEff blk n d ts = (pWho ts.tail).bind fun w ts => (pSum n d ts).bind fun x ts => pSemi (eff0 0 w x []) ts := by
 conv => lhs; unfold pEff
 rw [if_pos h]
theorem Yq (h : isW sMend ts = true) : pEff blk n d ts = (pWho ts.tail).bind fun w ts => (pSum n d ts).bind fun x ts => pSemi (eff0 1 w x []) ts := by
 conv => lhs; unfold pEff
 rw [zS h (by decide : sMend ≠ sHarm), if_neg (by decide)];rw [if_pos h]
theorem Yv (h : isW sDraw ts = true) : pEff blk n d ts = (pSide ts.tail).bind fun w ts => (pSum n d ts).bind fun x ts => pSemi (eff0 2 w x []) ts := by
 conv => lhs; unfold pEff
 rw [zS h (by decide : sDraw ≠ sHarm), if_neg (by decide)];rw [zS h (by decide : sDraw ≠ sMend), if_neg (by decide)];rw [if_pos h]
theorem Yt (h : isW sGain ts = true) : pEff blk n d ts = (pSum n d ts.tail).bind fun x ts => pSemi (eff0 3 0 x []) ts := by
 conv => lhs; unfold pEff
 rw [zS h (by decide : sGain ≠ sHarm), if_neg (by decide)];rw [zS h (by decide : sGain ≠ sMend), if_neg (by decide)];rw [zS h (by decide : sGain ≠ sDraw), if_neg (by decide)];rw [if_pos h]
theorem Yr (h : isW sLook ts = true) : pEff blk n d ts = (pSum n d ts.tail).bind fun x ts => pSemi (eff0 5 0 x []) ts := by
 conv => lhs; unfold pEff
 rw [zS h (by decide : sLook ≠ sHarm), if_neg (by decide)];rw [zS h (by decide : sLook ≠ sMend), if_neg (by decide)];rw [zS h (by decide : sLook ≠ sDraw), if_neg (by decide)];rw [zS h (by decide : sLook ≠ sGain), if_neg (by decide)];rw [if_pos h]
theorem Yu (h : isW sDrop ts = true) : pEff blk n d ts = (pSide ts.tail).bind fun w ts => pSemi (eff0 4 w num0 []) ts := by
 conv => lhs; unfold pEff
 rw [zS h (by decide : sDrop ≠ sHarm), if_neg (by decide)];rw [zS h (by decide : sDrop ≠ sMend), if_neg (by decide)];rw [zS h (by decide : sDrop ≠ sDraw), if_neg (by decide)];rw [zS h (by decide : sDrop ≠ sGain), if_neg (by decide)];rw [zS h (by decide : sDrop ≠ sLook), if_neg (by decide)];rw [if_pos h]
theorem Yp (h : isW sShow ts = true) : pEff blk n d ts = (pSide ts.tail).bind fun w ts => pSemi (eff0 6 w num0 []) ts := by
 conv => lhs; unfold pEff
 rw [zS h (by decide : sShow ≠ sHarm), if_neg (by decide)];rw [zS h (by decide : sShow ≠ sMend), if_neg (by decide)];rw [zS h (by decide : sShow ≠ sDraw), if_neg (by decide)];rw [zS h (by decide : sShow ≠ sGain), if_neg (by decide)];rw [zS h (by decide : sShow ≠ sLook), if_neg (by decide)];rw [zS h (by decide : sShow ≠ sDrop), if_neg (by decide)];rw [if_pos h]
theorem ke (h : isW sSummon ts = true) : pEff blk n d ts = (pName ts.tail).bind fun s ts => pSemi (eff0 7 0 num0 s) ts := by
 conv => lhs; unfold pEff
 rw [zS h (by decide : sSummon ≠ sHarm), if_neg (by decide)];rw [zS h (by decide : sSummon ≠ sMend), if_neg (by decide)];rw [zS h (by decide : sSummon ≠ sDraw), if_neg (by decide)];rw [zS h (by decide : sSummon ≠ sGain), if_neg (by decide)];rw [zS h (by decide : sSummon ≠ sLook), if_neg (by decide)];rw [zS h (by decide : sSummon ≠ sDrop), if_neg (by decide)]
 rw [zS h (by decide : sSummon ≠ sShow), if_neg (by decide)];rw [if_pos h]
theorem pEff_If (h : isW sIf ts = true) : pEff blk n d ts = (pIn d ts).bind fun _ ts => (must sIf ts).bind fun _ ts => (pCond n (d + 1) ts).bind fun c ts => (blk (d + 1) ts).bind fun t ts => (must sElse ts).bind fun _ ts => (blk (d + 1) ts).bind fun e ts => .ok (EffT.mk 8 0 num0 [] c t e) ts := by
 rw [jz h]
 conv => lhs; unfold pEff
 rw [zS h (by decide : sIf ≠ sHarm), if_neg (by decide)];rw [zS h (by decide : sIf ≠ sMend), if_neg (by decide)];rw [zS h (by decide : sIf ≠ sDraw), if_neg (by decide)];rw [zS h (by decide : sIf ≠ sGain), if_neg (by decide)];rw [zS h (by decide : sIf ≠ sLook), if_neg (by decide)];rw [zS h (by decide : sIf ≠ sDrop), if_neg (by decide)]
 rw [zS h (by decide : sIf ≠ sShow), if_neg (by decide)];rw [zS h (by decide : sIf ≠ sSummon), if_neg (by decide)];rw [if_pos h]
theorem Yo (hHarm : isW sHarm ts = false) (hMend : isW sMend ts = false) (hDraw : isW sDraw ts = false) (hGain : isW sGain ts = false) (hLook : isW sLook ts = false) (hDrop : isW sDrop ts = false) (hShow : isW sShow ts = false) (hSummon : isW sSummon ts = false) (hIf : isW sIf ts = false) : pEff blk n d ts = fail 120 ts := by
 unfold pEff;rw [hHarm, hMend, hDraw, hGain, hLook, hDrop, hShow, hSummon, hIf]
 rfl
end
theorem xd {x : EffT} {s' : RSt} (h : Stp ws (Tp.must sSemi) s () s') : Stp ws (pSemi x) s x s' := h.bind (Q := fun _ ts => .ok x ts) (Stp.pure h.ok)
theorem wS {t : Bool} {ts : List Wrd} : Tp.Ends (pWhoB t ts) (fun _ => 1) ts.length := by
 cases t with
 | true => exact wz
 | false => exact yd
def BlD (m : Mp) (b : Nat) (A : Option Addr) (c : Nat) (ws : List Wrd) (blk : Nat → List Wrd → R (List EffT)) (k : Nat) : Prop :=
 ∀ m', Le m m' → ∀ (d : Nat) (s : RSt), Okk ws s → d ≤ 9 → (s.e = 0 → d ≤ 8 ∧ s.ts.length < k) → DcC 81 [ptr b] m' b A c ws d d s (blk d) effsV
theorem BlD.mono {m m' : Mp} {blk : Nat → List Wrd → R (List EffT)} {k : Nat} (h : BlD m b A c ws blk k) (hl : Le m m') : BlD m' b A c ws blk k := fun m2 h2 => h m2 (hl.trans h2)
abbrev zN : NumC := ⟨0, 0, 0, none, 0, 0⟩
abbrev zC : CondC := ⟨0, 0, [], none, 0, 0, none, 0, 0⟩
theorem effect100 {blk : Nat → List Wrd → R (List EffT)} {n k : Nat} (hw : WsR m A ws) (hs : Okk ws s) (hsm : ws.length ≤ 65537) (hd9 : d ≤ 9) (hok : s.e = 0 → d ≤ 8 ∧ s.ts.length < k + 1) (hkn : k < n)
  (hbe : ∀ d ts, ts.length < k → Tp.Ends (blk d ts) effsW ts.length) (hblk : BlD m b A c ws blk k) : DcC 100 [ptr b] m b A c ws d d s (pEff blk n d) effV := by
 have hsum := sum132 (b := b) (c := c) hw hsm n;have hcond := cond134 (b := b) (c := c) hw hsm n;refine zp [.cell 2 50] Tryz.func100 rfl rfl rfl ?_;refine tr 2 ?_;refine Al 4 zl50 fun b1 => ?_;refine pe 0 (zK zl50 pl50 rfl rfl) ?_;refine Al 0 zl50 fun b2 => ?_;refine Sg 7 ag50 .here ?_;refine C1 cl77 rfl .h2 (fun m' hm he => take77 (str := sHarm) (hw.mono hm) hs hsm) ?_
 rintro _ _ (⟨hb, hk, hn1, rfl, rfl⟩ | ⟨hHarm, rfl, rfl⟩)
 ·have htl := zZ hk;have hd8 := (hok hb).1;have hlen := (hok hb).2;have hnl : s.nx.ts.length = s.ts.tail.length := rfl;refine vr 7 ?_;refine Sr 5 co42 .h1 .here ?_;refine C1 cl131 rfl .here (fun m' hm he => who131 (t := true) (hw.mono hm) hn1 hsm) ?_;rintro _ _ ⟨w2, t1, _, ht1, ⟨rfl, rfl, hw8⟩, rfl⟩;have hLt1 := ht1.le (fun _ => wS);refine vr 1 ?_;refine Sr 4 co42 .h1 .h1 ?_
  refine C1 cl132 rfl .here (fun m' hm he => hsum m' hm d t1 ht1.ok hd9 (fun h0 => ⟨hd8, by have h9 := hLt1 h0; omega⟩)) ?_;rintro _ _ ⟨x, t2, _, ht2, ⟨qx, ex, rfl, rfl, hx⟩, rfl⟩;refine vr 1 ?_;refine zG (ze ag45 rfl rfl rfl .h2 (.there (.there (.cons (.cons (.cons (.cons .nil)))))) rfl ?_) rfl;refine vr 6 ?_
  refine C1 cl79 rfl .here (fun m' hm he => must79 (str := sSemi) (hw.mono hm) ht2.ok hsm) ?_;rintro _ _ ⟨_, t3, _, ht3, ⟨rfl, rfl⟩, rfl⟩;have hLt3 := ht3.le (fun _ => zF);refine vr 4 ?_;refine Lc 0 ag50 .h2 ?_;refine Sg 3 ag50 .h3 ?_
  exact zM [_] ⟨⟨b1, _, _, _, rfl, .h3, .inr ⟨rfl, rfl⟩⟩, trivial⟩ _ .pp ⟨eff0 0 w2 x [], t3, [ex], Stp.nx hb (Ys hk) ((ht1.congr (Q := pWho) fun _ => rfl).bind (Q := fun w ts => (pSum n d ts).bind fun x ts => pSemi (eff0 0 w x []) ts) (ht2.bind (Q := fun x ts => pSemi (eff0 0 w2 x []) ts) (xd ht3))), ⟨⟨0, w2, qx, [], zC, none, 0, 0, none, 0, 0⟩, ex, rfl, rfl, fun ns h => effPlain (op := 0) (who := w2) (name := []) (q := qx) ⟨by decide, by decide⟩ hw8 (hx ns h) (by decide)⟩, rfl⟩
 refine vr 7 ?_;refine C1 cl77 rfl .here (fun m' hm he => take77 (str := sMend) (hw.mono hm) hs hsm) ?_;rintro _ _ (⟨hb, hk, hn1, rfl, rfl⟩ | ⟨hMend, rfl, rfl⟩)
 ·have htl := zZ hk;have hd8 := (hok hb).1;have hlen := (hok hb).2;have hnl : s.nx.ts.length = s.ts.tail.length := rfl;refine vr 7 ?_;refine Sr 5 co42 .h1 .here ?_;refine C1 cl131 rfl .here (fun m' hm he => who131 (t := true) (hw.mono hm) hn1 hsm) ?_;rintro _ _ ⟨w2, t1, _, ht1, ⟨rfl, rfl, hw8⟩, rfl⟩;have hLt1 := ht1.le (fun _ => wS);refine vr 1 ?_;refine Sr 4 co42 .h1 .h1 ?_
  refine C1 cl132 rfl .here (fun m' hm he => hsum m' hm d t1 ht1.ok hd9 (fun h0 => ⟨hd8, by have h9 := hLt1 h0; omega⟩)) ?_;rintro _ _ ⟨x, t2, _, ht2, ⟨qx, ex, rfl, rfl, hx⟩, rfl⟩;refine vr 1 ?_;refine zG (ze ag45 rfl rfl rfl .h2 (.there (.there (.cons (.cons (.cons (.cons .nil)))))) rfl ?_) rfl;refine vr 6 ?_
  refine C1 cl79 rfl .here (fun m' hm he => must79 (str := sSemi) (hw.mono hm) ht2.ok hsm) ?_;rintro _ _ ⟨_, t3, _, ht3, ⟨rfl, rfl⟩, rfl⟩;have hLt3 := ht3.le (fun _ => zF);refine vr 4 ?_;refine Lc 0 ag50 .h2 ?_;refine Sg 3 ag50 .h3 ?_
  exact zM [_] ⟨⟨b1, _, _, _, rfl, .h3, .inr ⟨rfl, rfl⟩⟩, trivial⟩ _ .pp ⟨eff0 1 w2 x [], t3, [ex], Stp.nx hb (Yq hk) ((ht1.congr (Q := pWho) fun _ => rfl).bind (Q := fun w ts => (pSum n d ts).bind fun x ts => pSemi (eff0 1 w x []) ts) (ht2.bind (Q := fun x ts => pSemi (eff0 1 w2 x []) ts) (xd ht3))), ⟨⟨1, w2, qx, [], zC, none, 0, 0, none, 0, 0⟩, ex, rfl, rfl, fun ns h => effPlain (op := 1) (who := w2) (name := []) (q := qx) ⟨by decide, by decide⟩ hw8 (hx ns h) (by decide)⟩, rfl⟩
 refine vr 7 ?_;refine C1 cl77 rfl .here (fun m' hm he => take77 (str := sDraw) (hw.mono hm) hs hsm) ?_;rintro _ _ (⟨hb, hk, hn1, rfl, rfl⟩ | ⟨hDraw, rfl, rfl⟩)
 ·have htl := zZ hk;have hd8 := (hok hb).1;have hlen := (hok hb).2;have hnl : s.nx.ts.length = s.ts.tail.length := rfl;refine vr 7 ?_;refine Sr 5 co42 .h1 .here ?_;refine C1 cl131 rfl .here (fun m' hm he => who131 (t := false) (hw.mono hm) hn1 hsm) ?_;rintro _ _ ⟨w2, t1, _, ht1, ⟨rfl, rfl, hw8⟩, rfl⟩;have hLt1 := ht1.le (fun _ => wS);refine vr 1 ?_;refine Sr 4 co42 .h1 .h1 ?_
  refine C1 cl132 rfl .here (fun m' hm he => hsum m' hm d t1 ht1.ok hd9 (fun h0 => ⟨hd8, by have h9 := hLt1 h0; omega⟩)) ?_;rintro _ _ ⟨x, t2, _, ht2, ⟨qx, ex, rfl, rfl, hx⟩, rfl⟩;refine vr 1 ?_;refine zG (ze ag45 rfl rfl rfl .h2 (.there (.there (.cons (.cons (.cons (.cons .nil)))))) rfl ?_) rfl;refine vr 6 ?_
  refine C1 cl79 rfl .here (fun m' hm he => must79 (str := sSemi) (hw.mono hm) ht2.ok hsm) ?_;rintro _ _ ⟨_, t3, _, ht3, ⟨rfl, rfl⟩, rfl⟩;have hLt3 := ht3.le (fun _ => zF);refine vr 4 ?_;refine Lc 0 ag50 .h2 ?_;refine Sg 3 ag50 .h3 ?_
  exact zM [_] ⟨⟨b1, _, _, _, rfl, .h3, .inr ⟨rfl, rfl⟩⟩, trivial⟩ _ .pp ⟨eff0 2 w2 x [], t3, [ex], Stp.nx hb (Yv hk) ((ht1.congr (Q := pSide) fun _ => rfl).bind (Q := fun w ts => (pSum n d ts).bind fun x ts => pSemi (eff0 2 w x []) ts) (ht2.bind (Q := fun x ts => pSemi (eff0 2 w2 x []) ts) (xd ht3))), ⟨⟨2, w2, qx, [], zC, none, 0, 0, none, 0, 0⟩, ex, rfl, rfl, fun ns h => effPlain (op := 2) (who := w2) (name := []) (q := qx) ⟨by decide, by decide⟩ hw8 (hx ns h) (by decide)⟩, rfl⟩
 refine vr 7 ?_;refine C1 cl77 rfl .here (fun m' hm he => take77 (str := sGain) (hw.mono hm) hs hsm) ?_;rintro _ _ (⟨hb, hk, hn1, rfl, rfl⟩ | ⟨hGain, rfl, rfl⟩)
 ·have htl := zZ hk;have hd8 := (hok hb).1;have hlen := (hok hb).2;have hnl : s.nx.ts.length = s.ts.tail.length := rfl;refine vr 7 ?_;refine Sr 4 co42 .h1 .here ?_;refine C1 cl132 rfl .here (fun m' hm he => hsum m' hm d s.nx hn1 hd9 (fun h0 => ⟨hd8, by omega⟩)) ?_;rintro _ _ ⟨x, t2, _, ht2, ⟨qx, ex, rfl, rfl, hx⟩, rfl⟩;refine vr 1 ?_
  refine zG (ze ag45 rfl rfl rfl .h2 (.there (.there (.cons (.cons (.cons (.cons .nil)))))) rfl ?_) rfl;refine vr 6 ?_;refine C1 cl79 rfl .here (fun m' hm he => must79 (str := sSemi) (hw.mono hm) ht2.ok hsm) ?_;rintro _ _ ⟨_, t3, _, ht3, ⟨rfl, rfl⟩, rfl⟩;have hLt3 := ht3.le (fun _ => zF);refine vr 4 ?_;refine Lc 0 ag50 .h2 ?_;refine Sg 3 ag50 .h3 ?_
  exact zM [_] ⟨⟨b1, _, _, _, rfl, .h3, .inr ⟨rfl, rfl⟩⟩, trivial⟩ _ .pp ⟨eff0 3 0 x [], t3, [ex], Stp.nx hb (Yt hk) (ht2.bind (Q := fun x ts => pSemi (eff0 3 0 x []) ts) (xd ht3)), ⟨⟨3, 0, qx, [], zC, none, 0, 0, none, 0, 0⟩, ex, rfl, rfl, fun ns h => effPlain (op := 3) (who := 0) (name := []) (q := qx) ⟨by decide, by decide⟩ ⟨by decide, by decide⟩ (hx ns h) (by decide)⟩, rfl⟩
 refine vr 7 ?_;refine C1 cl77 rfl .here (fun m' hm he => take77 (str := sDrop) (hw.mono hm) hs hsm) ?_;rintro _ _ (⟨hb, hk, hn1, rfl, rfl⟩ | ⟨hDrop, rfl, rfl⟩)
 ·have htl := zZ hk;have hd8 := (hok hb).1;have hlen := (hok hb).2;have hnl : s.nx.ts.length = s.ts.tail.length := rfl;refine vr 7 ?_;refine Sr 4 co42 .h1 .here ?_;refine C1 cl131 rfl .here (fun m' hm he => who131 (t := false) (hw.mono hm) hn1 hsm) ?_;rintro _ _ ⟨w2, t1, _, ht1, ⟨rfl, rfl, hw8⟩, rfl⟩;have hLt1 := ht1.le (fun _ => wS);refine vr 1 ?_;refine Sr 6 co42 .h1 .h1 ?_
  refine C1 cl79 rfl .here (fun m' hm he => must79 (str := sSemi) (hw.mono hm) ht1.ok hsm) ?_;rintro _ _ ⟨_, t3, _, ht3, ⟨rfl, rfl⟩, rfl⟩;have hLt3 := ht3.le (fun _ => zF);refine vr 4 ?_;refine Lc 0 ag50 .h1 ?_;refine Sg 3 ag50 .h2 ?_
  exact zM [_] ⟨⟨b1, _, _, _, rfl, .h2, .inr ⟨rfl, rfl⟩⟩, trivial⟩ _ (.cons .here (Pick.nilE (.nil _))) ⟨eff0 4 w2 num0 [], t3, [pack []], Stp.nx hb (Yu hk) ((ht1.congr (Q := pSide) fun _ => rfl).bind (Q := fun w ts => pSemi (eff0 4 w num0 []) ts) (xd ht3)), ⟨⟨4, w2, zN, [], zC, none, 0, 0, none, 0, 0⟩, pack [], rfl, rfl, fun ns _ => effPlain (op := 4) (who := w2) (name := []) (q := zN) ⟨by decide, by decide⟩ hw8 (numPlain (op := 0) ⟨by decide, by decide⟩) (by decide)⟩, rfl⟩
 refine vr 7 ?_;refine C1 cl77 rfl .here (fun m' hm he => take77 (str := sShow) (hw.mono hm) hs hsm) ?_;rintro _ _ (⟨hb, hk, hn1, rfl, rfl⟩ | ⟨hShow, rfl, rfl⟩)
 ·have htl := zZ hk;have hd8 := (hok hb).1;have hlen := (hok hb).2;have hnl : s.nx.ts.length = s.ts.tail.length := rfl;refine vr 7 ?_;refine Sr 4 co42 .h1 .here ?_;refine C1 cl131 rfl .here (fun m' hm he => who131 (t := false) (hw.mono hm) hn1 hsm) ?_;rintro _ _ ⟨w2, t1, _, ht1, ⟨rfl, rfl, hw8⟩, rfl⟩;have hLt1 := ht1.le (fun _ => wS);refine vr 1 ?_;refine Sr 6 co42 .h1 .h1 ?_
  refine C1 cl79 rfl .here (fun m' hm he => must79 (str := sSemi) (hw.mono hm) ht1.ok hsm) ?_;rintro _ _ ⟨_, t3, _, ht3, ⟨rfl, rfl⟩, rfl⟩;have hLt3 := ht3.le (fun _ => zF);refine vr 4 ?_;refine Lc 0 ag50 .h1 ?_;refine Sg 3 ag50 .h2 ?_
  exact zM [_] ⟨⟨b1, _, _, _, rfl, .h2, .inr ⟨rfl, rfl⟩⟩, trivial⟩ _ (.cons .here (Pick.nilE (.nil _))) ⟨eff0 6 w2 num0 [], t3, [pack []], Stp.nx hb (Yp hk) ((ht1.congr (Q := pSide) fun _ => rfl).bind (Q := fun w ts => pSemi (eff0 6 w num0 []) ts) (xd ht3)), ⟨⟨6, w2, zN, [], zC, none, 0, 0, none, 0, 0⟩, pack [], rfl, rfl, fun ns _ => effPlain (op := 6) (who := w2) (name := []) (q := zN) ⟨by decide, by decide⟩ hw8 (numPlain (op := 0) ⟨by decide, by decide⟩) (by decide)⟩, rfl⟩
 refine vr 7 ?_;refine C1 cl77 rfl .here (fun m' hm he => take77 (str := sLook) (hw.mono hm) hs hsm) ?_;rintro _ _ (⟨hb, hk, hn1, rfl, rfl⟩ | ⟨hLook, rfl, rfl⟩)
 ·have htl := zZ hk;have hd8 := (hok hb).1;have hlen := (hok hb).2;have hnl : s.nx.ts.length = s.ts.tail.length := rfl;refine vr 7 ?_;refine Sr 4 co42 .h1 .here ?_;refine C1 cl132 rfl .here (fun m' hm he => hsum m' hm d s.nx hn1 hd9 (fun h0 => ⟨hd8, by omega⟩)) ?_;rintro _ _ ⟨x, t2, _, ht2, ⟨qx, ex, rfl, rfl, hx⟩, rfl⟩;refine vr 1 ?_
  refine zG (ze ag45 rfl rfl rfl .h2 (.there (.there (.cons (.cons (.cons (.cons .nil)))))) rfl ?_) rfl;refine vr 6 ?_;refine C1 cl79 rfl .here (fun m' hm he => must79 (str := sSemi) (hw.mono hm) ht2.ok hsm) ?_;rintro _ _ ⟨_, t3, _, ht3, ⟨rfl, rfl⟩, rfl⟩;have hLt3 := ht3.le (fun _ => zF);refine vr 4 ?_;refine Lc 0 ag50 .h2 ?_;refine Sg 3 ag50 .h3 ?_
  exact zM [_] ⟨⟨b1, _, _, _, rfl, .h3, .inr ⟨rfl, rfl⟩⟩, trivial⟩ _ .pp ⟨eff0 5 0 x [], t3, [ex], Stp.nx hb (Yr hk) (ht2.bind (Q := fun x ts => pSemi (eff0 5 0 x []) ts) (xd ht3)), ⟨⟨5, 0, qx, [], zC, none, 0, 0, none, 0, 0⟩, ex, rfl, rfl, fun ns h => effPlain (op := 5) (who := 0) (name := []) (q := qx) ⟨by decide, by decide⟩ ⟨by decide, by decide⟩ (hx ns h) (by decide)⟩, rfl⟩
 refine vr 7 ?_;refine C1 cl77 rfl .here (fun m' hm he => take77 (str := sSummon) (hw.mono hm) hs hsm) ?_;rintro _ _ (⟨hb, hk, hn1, rfl, rfl⟩ | ⟨hSummon, rfl, rfl⟩)
 ·have htl := zZ hk;have hd8 := (hok hb).1;have hlen := (hok hb).2;have hnl : s.nx.ts.length = s.ts.tail.length := rfl;refine vr 7 ?_;refine Sr 4 co42 .h1 .here ?_;refine C1 cl76 rfl .here (fun m' hm he => name76 (hw.mono hm) hn1 hsm) ?_;rintro _ _ ⟨nm, t1, _, ht1, ⟨rfl, rfl, hnl⟩, rfl⟩;refine vr 1 ?_;refine Sr 6 co9 .h1 .h6 ?_
  refine C1 cl79 rfl .here (fun m' hm he => must79 (str := sSemi) (hw.mono hm) ht1.ok hsm) ?_;rintro _ _ ⟨_, t2, _, ht2, ⟨rfl, rfl⟩, rfl⟩;have hLt2 := ht2.le (fun _ => zF);refine vr 4 ?_;refine Lc 0 ag50 .h1 ?_;refine Sg 3 ag50 .h2 ?_
  exact zM [_] ⟨⟨b1, _, _, _, rfl, .h2, .inr ⟨rfl, rfl⟩⟩, trivial⟩ _ (.cons .here (Pick.nilE (.nil _))) ⟨eff0 7 0 num0 nm, t2, [pack []], Stp.nx hb (ke hk) (ht1.bind (Q := fun s ts => pSemi (eff0 7 0 num0 s) ts) (xd ht2)), ⟨⟨7, 0, zN, nm, zC, none, 0, 0, none, 0, 0⟩, pack [], rfl, rfl, fun ns _ => effPlain (op := 7) (who := 0) (q := zN) ⟨by decide, by decide⟩ ⟨by decide, by decide⟩ (numPlain (op := 0) ⟨by decide, by decide⟩) (Nat.le_trans hnl (by decide))⟩, rfl⟩
 refine vr 7 ?_;refine C1 cl24 rfl .here (fun m' hm he => is24 (str := sIf) (hw.mono hm) hs hsm) ?_;rintro _ _ ⟨rfl, rfl⟩;by_cases hki : s.e = 0 ∧ isW sIf s.ts = true
 ·obtain ⟨hb, hki⟩ := hki;have hd8 := (hok hb).1;have hlen := (hok hb).2;rw [decide_eq_true hb, hki];refine vr 7 ?_;refine C1 cl133 rfl .here (fun m' hm he => in133 (hw.mono hm) hs hsm (by omega)) ?_;rintro _ _ ⟨_, t1, _, ht1, ⟨rfl, rfl⟩, rfl⟩;have hIn := u5 ht1;refine vr 5 ?_;refine C1 cl79 rfl .here (fun m' hm he => must79 (str := sIf) (hw.mono hm) ht1.ok hsm) ?_
  rintro _ _ ⟨_, t2, _, ht2, ⟨rfl, rfl⟩, rfl⟩;have hLt2 := ht2.le (fun _ => zF);refine vr 5 ?_;refine Sr 5 co42 .h1 .here ?_;refine C1 cl134 rfl .here (fun m' hm he => hcond m' hm (d + 1) t2 ht2.ok (by omega) (fun h0 => ⟨by omega, by omega⟩)) ?_;rintro _ _ ⟨x, t3, _, ht3, ⟨qc, ec, rfl, rfl, hx⟩, rfl⟩;have hLt3 := ht3.le (fun h0 => y9 n (d + 1) _ (by omega));refine vr 1 ?_
  refine zG (ze ag48 rfl rfl rfl .h2 (.there (.there (.there (.there (.there (.there (.there (.cons (.cons (.cons (.cons (.cons .nil)))))))))))) rfl ?_) rfl;refine vr 5 ?_;refine C1 cl81 rfl .here (fun m' hm he => hblk m' hm (d + 1) t3 ht3.ok (by omega) (fun h0 => ⟨by omega, by have := yQ x; omega⟩)) ?_;rintro _ _ ⟨t, t4, _, ht4, ⟨KT, ct, et, rfl, rfl, ht⟩, rfl⟩
  have hLt4 := ht4.le (fun h0 => hbe (d + 1) _ (by have := yQ x; omega));refine vr 1 ?_;refine Sr 5 co38 .h3 .h12 ?_;refine C1 cl79 rfl .here (fun m' hm he => must79 (str := sElse) (hw.mono hm) ht4.ok hsm) ?_;rintro _ _ ⟨_, t5, _, ht5, ⟨rfl, rfl⟩, rfl⟩;have hLt5 := ht5.le (fun _ => zF);refine vr 5 ?_
  refine C1 cl81 rfl .here (fun m' hm he => hblk m' hm (d + 1) t5 ht5.ok (by omega) (fun h0 => ⟨by omega, by have := yQ x; omega⟩)) ?_;rintro _ _ ⟨e, t6, _, ht6, ⟨KE, ce, ee, rfl, rfl, hee⟩, rfl⟩;refine vr 1 ?_;refine Sr 5 co38 .h4 .h13 ?_;refine C1 cl135 rfl .here (fun m' hm he => out135 (by omega)) ?_;rintro _ _ ⟨rfl, rfl⟩;refine vr 4 ?_;refine Lc 0 ag50 .h4 ?_;refine Sg 5 ag50 .h5 ?_
  have hC : Stp ws (fun ts => (pIn d ts).bind fun _ ts => (must sIf ts).bind fun _ ts => (pCond n (d + 1) ts).bind fun c ts => (blk (d + 1) ts).bind fun t ts => (must sElse ts).bind fun _ ts => (blk (d + 1) ts).bind fun e ts => .ok (EffT.mk 8 0 num0 [] c t e) ts) s (EffT.mk 8 0 num0 [] x t e) t6 := by
   refine Stp.bind ht1 ?_;refine Stp.bind ht2 ?_;refine Stp.bind ht3 ?_;refine Stp.bind ht4 ?_;refine Stp.bind ht5 ?_;refine Stp.bind ht6 ?_;exact Stp.pure ht6.ok
  exact zM [_] ⟨⟨b1, _, _, _, rfl, .h5, .inr ⟨rfl, rfl⟩⟩, trivial⟩ _ (.cons .here (Pick.pack3 (.cons .h2 (.cons .h1 .p0)))) ⟨EffT.mk 8 0 num0 [] x t e, t6, [pack [ec, et, ee]], hC.congr (fun _ => (pEff_If hki).symm), ⟨⟨8, 0, zN, [], qc, KT, t.length, ct, KE, e.length, ce⟩, pack [ec, et, ee], rfl, rfl, fun ns h => effIf (hx ns (h.1 _ (.head _))) (ht ns (h.1 _ (.tail _ (.head _)))) (hee ns (h.1 _ (.tail _ (.tail _ (.head _)))))⟩, rfl⟩
 have hIf : s.e = 0 → isW sIf s.ts = false := fun h0 => by
  cases h : isW sIf s.ts with
  | false => rfl
  | true => exact absurd ⟨h0, h⟩ hki
 have hif : (decide (s.e = 0) && isW sIf s.ts) = false := by
  by_cases h0 : s.e = 0
  ·rw [hIf h0, Bool.and_false]
  ·rw [decide_eq_false h0, Bool.false_and]
 rw [hif];refine vr 6 ?_;refine C1 cl25 rfl .here (fun m' hm he => wrong25 120 (hw.mono hm) hs hsm) ?_;rintro _ _ ⟨rfl, rfl⟩;have hfb : (s.flt 120).e ≠ 0 := wu (by decide)
 have hfs : Stp ws (pEff blk n d) s (eff0 0 0 num0 []) (s.flt 120) := (yX hs (by decide : (120 : Int) ≠ 0)).congr fun h0 => (Yo (hHarm h0) (hMend h0) (hDraw h0) (hGain h0) (hLook h0) (hDrop h0) (hShow h0) (hSummon h0) (hIf h0)).symm;refine vr 6 ?_;refine C1 cl79 rfl .here (fun m' hm he => must79 (str := sSemi) (hw.mono hm) hfs.ok hsm) ?_;rintro _ _ ⟨_, t2, _, ht2, ⟨rfl, rfl⟩, rfl⟩
 obtain rfl := ht2.2.1 hfb;refine vr 4 ?_;refine Lc 0 ag50 .h1 ?_;refine Sg 3 ag50 .h2 ?_
 exact zM [_] ⟨⟨b1, _, _, _, rfl, .h2, .inr ⟨rfl, rfl⟩⟩, trivial⟩ _ (.cons .here (Pick.nilE (.nil _))) ⟨eff0 0 0 num0 [], s.flt 120, [pack []], hfs, ⟨⟨0, 0, zN, [], zC, none, 0, 0, none, 0, 0⟩, pack [], rfl, rfl, fun ns _ => effPlain (op := 0) (who := 0) (name := []) (q := zN) ⟨by decide, by decide⟩ ⟨by decide, by decide⟩ (numPlain (op := 0) ⟨by decide, by decide⟩) (by decide)⟩, rfl⟩
end
section
open Wd Tp Kd
variable {m : Mp} {b c d : Nat} {A : Option Addr} {ws : List Wrd} {s : RSt} {str : List UInt8}
def Mst {α : Type} (ws : List Wrd) (one : List Wrd → R α) (P : List Wrd → R (List α)) (s0 : RSt) (j : Nat) (l : List α) (s : RSt) : Prop :=
 Okk ws s ∧ ∀ lf sf, Stp ws (pMany one j l) s lf sf → Stp ws P s0 lf sf
theorem Mst.stop {α : Type} {one : List Wrd → R α} {P : List Wrd → R (List α)} {s0 s s2 : RSt} {l : List α} {j : Nat} (h : Mst ws one P s0 j l s) (hj : s.e = 0 → s.ts.length < j) (hn : s.e = 0 → isW sRb s.ts = true) (h2 : Stp ws (must sRb) s () s2) : Stp ws P s0 l s2 := by
 refine h.2 _ _ ((h2.bind (Q := fun _ ts => .ok l ts) (Stp.pure h2.ok)).congr fun he => ?_);obtain ⟨j, rfl⟩ : ∃ j', j = j' + 1 := ⟨j - 1, by have := hj he; omega⟩;unfold pMany must;rw [if_pos (hn he), if_pos (hn he)]
 rfl
theorem Mst.next {α : Type} {one : List Wrd → R α} {P : List Wrd → R (List α)} {s0 s s2 : RSt} {l : List α} {x : α} {j : Nat} (h : Mst ws one P s0 (j + 1) l s) (hn : s.e = 0 → isW sRb s.ts = false) (h2 : Stp ws one s x s2) : Mst ws one P s0 j (l ++ [x]) s2 :=
 ⟨h2.ok, fun lf sf h3 => h.2 lf sf ((h2.bind (Q := fun x => pMany one j (l ++ [x])) h3).congr fun he => by
  conv => rhs; unfold pMany
  rw [if_neg (by rw [hn he]; decide)])⟩
structure BldS where
 n : Nat
 s : RSt
 l : List EffT
 K : Option Addr
 kc : Nat
 xs : List Value
 e : Ent
theorem block81 {m : Mp} (hw : WsR m A ws) (hsm : ws.length ≤ 65537) : ∀ (n : Nat), BlD m b A c ws (pBlock n) n
 | 0 => fun m' hm d s hs hd9 hok => by
   have hb : s.e ≠ 0 := fun h0 => absurd (hok h0).2 (Nat.not_lt_zero _);have hw := hw.mono hm;refine zp [.tmp 2] Tryz.func81 rfl rfl rfl ?_;refine tr 13 ?_;refine C1 cl79 rfl .here (fun m' hm he => must79 (str := sLb) (hw.mono hm) hs hsm) ?_;rintro _ _ ⟨_, s1, _, h1, ⟨rfl, rfl⟩, rfl⟩;obtain rfl := h1.2.1 hb;refine vr 4 ?_
   refine zc (α := Unit) (fun _ => [(0, ptr b), (2, .slice none 0 0), (3, .slice none 0 0)]) (fun _ => [rf b A c ws d s1]) (fun _ => True) (fun _ => 0) () ⟨rfl, rfl, rfl, trivial⟩ (Pick.refl _) trivial ?_;rintro _ -;refine tr 4 ?_;refine C1 cl23 rfl .here (fun m' hm he => fine23) ?_;rintro _ _ ⟨rfl, rfl⟩;rw [decide_eq_false hb];refine vr 10 ?_;refine zD ?_;refine zB ?_
   refine qt 4 ?_;refine C1 cl79 rfl .here (fun m' hm he => must79 (str := sRb) (hw.mono hm) hs hsm) ?_;rintro _ _ ⟨_, s2, _, h2, ⟨rfl, rfl⟩, rfl⟩;obtain rfl := h2.2.1 hb;refine vr 9 ?_;exact zM [_] ⟨rfl, trivial⟩ _ (.cons .here (Pick.nilE (.nil _))) ⟨[], s2, [pack []], Stp.bad hs hb, ⟨none, 0, pack [], rfl, rfl, fun ns _ => EffsR.z ns⟩, rfl⟩
 | k + 1 => fun m' hm d s hs hd9 hok => by
   have hw := hw.mono hm;clear hm;have hone := fun ts (h : ts.length < k + 1) => qr (d := d) (k := k) (n := k + 1) (by omega) (yN k) ts h;refine zp [.tmp 2] Tryz.func81 rfl rfl rfl ?_;refine tr 13 ?_;refine C1 cl79 rfl .here (fun m' hm he => must79 (str := sLb) (hw.mono hm) hs hsm) ?_;rintro _ _ ⟨_, s1, _, h1, ⟨rfl, rfl⟩, rfl⟩;have hL1 := h1.le (fun _ => zF);refine vr 4 ?_
   refine yU 50 14 ?_
   refine zc (α := BldS) (fun y => [(0, ptr b), (2, .slice none 0 0), (3, .slice y.K y.l.length y.kc)]) (fun y => [rf b A c ws d y.s, own 50 14 y.K y.l.length y.kc y.xs, y.e])
    (fun y => Mst ws (pEff (pBlock k) (k + 1) d) (pBlock (k + 1) d) s y.n y.l y.s ∧ (y.s.e = 0 → d ≤ 8 ∧ y.s.ts.length < y.n ∧ y.s.ts.length < k + 1 ∧ y.l.length + y.s.ts.length ≤ 65537) ∧ y.l.length ≤ 65537 ∧ ∀ ns, y.e.inv ns → EsC ns y.xs y.l) (fun y => y.n)
    ⟨k + 1, s1, [], none, 0, [], pack []⟩ ⟨rfl, rfl, rfl, trivial⟩ (.cons .h1 (.cons .here (Pick.nilE (.nil _)))) ⟨⟨h1.ok, fun lf sf h => (h1.bind (Q := fun _ => pMany (pEff (pBlock k) (k + 1) d) (k + 1) []) h)⟩, fun h0 => by
     have h9 := hL1 h0;have h8 := hok h9.1;have h7 := (h1.ok.pos h0).len
     exact ⟨h8.1, by show s1.ts.length < k + 1; omega, by show s1.ts.length < k + 1; omega, by show 0 + s1.ts.length ≤ _; omega⟩, Nat.zero_le _, fun ns _ => ⟨rfl, fun i h => by cases h⟩⟩ ?_
   clear h1 hL1;rintro ⟨j, s2, l, K, kc, xs, e⟩ ⟨hR, hlen, hll, hx⟩;dsimp only at hR hlen hll hx;dsimp only;refine tr 4 ?_;refine C1 cl23 rfl .here (fun m' hm he => fine23) ?_;rintro _ _ ⟨rfl, rfl⟩;by_cases hf : s2.e = 0
   rotate_left
   ·rw [decide_eq_false hf];refine vr 10 ?_;refine zD ?_;refine zB ?_;refine qt 4 ?_;refine C1 cl79 rfl .here (fun m' hm he => must79 (str := sRb) (hw.mono hm) hR.1 hsm) ?_;rintro _ _ ⟨_, s3, _, h3, ⟨rfl, rfl⟩, rfl⟩;refine vr 9 ?_
    exact zM [_] ⟨rfl, trivial⟩ _ (.cons .here (Pick.pack2 .pp)) ⟨l, s3, [pack [own 50 14 K l.length kc xs, e]], hR.stop (fun h0 => absurd h0 hf) (fun h0 => absurd h0 hf) h3, ⟨K, kc, _, rfl, rfl, fun ns h => (hx ns (h.1 _ (.tail _ (.head _)))).list (h.1 _ (.head _)) (by unfold maxLen; omega)⟩, rfl⟩
   rw [decide_eq_true hf];obtain ⟨hd8, hj, hk, hlt⟩ := hlen hf;refine vr 2 ?_;refine C1 cl24 rfl .here (fun m' hm he => is24 (str := sRb) (hw.mono hm) hR.1 hsm) ?_;rintro _ _ ⟨rfl, rfl⟩;rw [decide_eq_true hf, Bool.true_and];cases hkb : isW sRb s2.ts with
   | true =>
     refine vr 7 ?_;refine zD ?_;refine zB ?_;refine qt 4 ?_;refine C1 cl79 rfl .here (fun m' hm he => must79 (str := sRb) (hw.mono hm) hR.1 hsm) ?_;rintro _ _ ⟨_, s3, _, h3, ⟨rfl, rfl⟩, rfl⟩;refine vr 9 ?_
     exact zM [_] ⟨rfl, trivial⟩ _ (.cons .here (Pick.pack2 .pp)) ⟨l, s3, [pack [own 50 14 K l.length kc xs, e]], hR.stop (fun h0 => hj) (fun h0 => hkb) h3, ⟨K, kc, _, rfl, rfl, fun ns h => (hx ns (h.1 _ (.tail _ (.head _)))).list (h.1 _ (.head _)) (by unfold maxLen; omega)⟩, rfl⟩
   | false =>
     obtain ⟨j, rfl⟩ : ∃ j', j = j' + 1 := ⟨j - 1, by omega⟩;refine vr 11 ?_;refine C1 cl100 rfl .here (fun m' hm he => effect100 (k := k) (n := k + 1) (hw.mono hm) hR.1 hsm hd9 (fun _ => ⟨hd8, hk⟩) (by omega) (yN k) (block81 (hw.mono hm) hsm k)) ?_;rintro _ _ ⟨x, s3, _, h3, ⟨q, ex, rfl, rfl, hq⟩, rfl⟩;have hL3 := h3.le (w := effW) (fun h0 => hone _ hk);have hxp := yo x
     have hnz : 0 < s2.ts.length := List.length_pos_iff.2 (hR.1.pos hf).good.ne;have e1 : l.length + 1 = (l ++ [x]).length := by simp
     refine Al 0 zl50 fun b1 => ?_;refine Sg 4 ag50 .here ?_;refine Lc 0 ag50 .here ?_;refine Bs 0 sl38 fun b2 => ?_;refine zG (zz sl38 rfl rfl rfl rfl .here (fun _ _ => .h4) rfl rfl (by first | omega | (simp only [maxLen]; omega)) (by omega) rfl (fun A1 c1 => ?_)) rfl;refine vr 3 ?_;rw [e1]
     exact QR (⟨j, s3, l ++ [x], A1, c1, xs ++ q.v, pack [e, ex]⟩ : BldS) (.cons .h2 (.cons .h3 (Pick.pack2 (.cons .h3 .p2)))) ⟨hR.next (fun _ => hkb) h3, fun h0 => by
      have h9 := hL3 h0
      exact ⟨hd8, by show s3.ts.length < j; omega, by show s3.ts.length < k + 1; omega, by show (l ++ [x]).length + s3.ts.length ≤ _; rw [← e1]; omega⟩, by rw [← e1]; omega, fun ns h => (hx ns (h.1 _ (.head _))).snoc (hq ns (h.1 _ (.tail _ (.head _))))⟩ (Nat.lt_succ_self _)
def Nst (ws : List Wrd) (P : List Wrd → R (List (List UInt8))) (s0 : RSt) (j : Nat) (l : List (List UInt8)) (s : RSt) : Prop :=
 Okk ws s ∧ ∀ lf sf, Stp ws (fun ts => if isW sComma ts then pNames j l ts.tail else .ok l ts) s lf sf → Stp ws P s0 lf sf
theorem Nst.stop {P : List Wrd → R (List (List UInt8))} {s0 s : RSt} {l : List (List UInt8)} {j : Nat} (h : Nst ws P s0 j l s) (hn : s.e = 0 → isW sComma s.ts = false) : Stp ws P s0 l s :=
 h.2 _ _ ((Stp.pure h.1).congr fun he => by rw [if_neg (by rw [hn he]; decide)])
theorem Nst.next {P : List Wrd → R (List (List UInt8))} {s0 s s2 : RSt} {l : List (List UInt8)} {x : List UInt8} {j : Nat} (h : Nst ws P s0 (j + 1) l s) (he : s.e = 0) (hn : isW sComma s.ts = true) (h2 : Stp ws pName s.nx x s2) : Nst ws P s0 j (l ++ [x]) s2 :=
 ⟨h2.ok, fun lf sf h3 => h.2 lf sf (Stp.nx he (by rw [if_pos hn]; rfl) (h2.bind (Q := fun x ts => if isW sComma ts then pNames j (l ++ [x]) ts.tail else .ok (l ++ [x]) ts) h3))⟩
structure NdS where
 n : Nat
 s : RSt
 l : List (List UInt8)
 t : List UInt8
 K : Option Addr
 kc : Nat
theorem names83 {n : Nat} (hw : WsR m A ws) (hs : Okk ws s) (hsm : ws.length ≤ 65537) (hok : s.e = 0 → s.ts.length < n) : DcC 83 [ptr b] m b A c ws d d s (pNames n []) nmsV := by
 refine zp [.tmp 2] Tryz.func83 rfl rfl rfl ?_;refine tr 8 ?_;refine C1 cl76 rfl .here (fun m' hm he => name76 (hw.mono hm) hs hsm) ?_;rintro _ _ ⟨x, s1, _, h1, ⟨rfl, rfl, hnl⟩, rfl⟩;have hL1 := h1.le (fun _ => yS);refine vr 6 ?_;refine Bs 5 sl61 fun b1 => ?_
 refine y1 (own 9 1 (some ⟨b1, 0, none⟩) 1 1 [.string (bs x)] :: [rf b A c ws d s1]) (fun m h hs => hs.celOwn rfl (by decide)) ?_
 refine zc (α := NdS) (fun y => [(0, ptr b), (2, .slice none 0 0), (4, .slice y.K y.l.length y.kc), (3, .string (bs y.t))]) (fun y => [rf b A c ws d y.s, own 9 1 y.K y.l.length y.kc (y.l.map strV)])
  (fun y => Nst ws (pNames n []) s y.n y.l y.s ∧ (y.s.e = 0 → y.s.ts.length < y.n ∧ y.l.length + y.s.ts.length ≤ 65537) ∧ y.l.length ≤ 65537 ∧ ∀ s ∈ y.l, s.length ≤ 65536) (fun y => y.n)
  ⟨n - 1, s1, [x], x, some ⟨b1, 0, none⟩, 1⟩ ⟨rfl, rfl, rfl, rfl, trivial⟩ (.cons .h1 .p0) ⟨⟨h1.ok, fun lf sf h => ?_⟩, fun h0 => ?_, by show 1 ≤ 65537; decide, ?_⟩ ?_
 ·refine (h1.bind (Q := fun x ts => if isW sComma ts then pNames (n - 1) ([] ++ [x]) ts.tail else .ok ([] ++ [x]) ts) h).congr fun he => ?_;obtain ⟨n, rfl⟩ : ∃ n', n = n' + 1 := ⟨n - 1, by have := hok he; omega⟩
  rfl
 ·have h9 := hL1 h0;have h8 := hok h9.1;have h7 := (hs.pos h9.1).len;exact ⟨by show s1.ts.length < n - 1; omega, by show 1 + s1.ts.length ≤ _; omega⟩
 ·intro t ht;rw [List.mem_singleton.1 ht];exact hnl
 rintro ⟨j, s2, l, t, K, kc⟩ ⟨hR, hlen, hll, hx⟩;dsimp only at hR hlen hll hx;dsimp only;refine tr 4 ?_;refine C1 cl77 rfl .here (fun m' hm he => take77 (str := sComma) (hw.mono hm) hR.1 hsm) ?_;rintro _ _ (⟨h0, hk, hn, rfl, rfl⟩ | ⟨hno, rfl, rfl⟩)
 rotate_left
 ·refine vr 5 ?_;refine zD ?_;refine zB ?_;refine qt 8 ?_;exact zM [_] ⟨rfl, trivial⟩ _ .pp ⟨l, s2, [_], hR.stop hno, ⟨K, kc, _, rfl, rfl, hll, hx, fun ns h => ⟨Eng.Own.rd h, Eng.Own.le h⟩⟩, rfl⟩
 obtain ⟨hj, hlt⟩ := hlen h0;have htl := zZ hk;obtain ⟨j, rfl⟩ : ∃ j', j = j' + 1 := ⟨j - 1, by omega⟩;refine vr 9 ?_;refine C1 cl76 rfl .here (fun m' hm he => name76 (hw.mono hm) hn hsm) ?_;rintro _ _ ⟨y, s3, _, h3, ⟨rfl, rfl, hyl⟩, rfl⟩;have hL3 := h3.le (fun _ => yS);have hl3 : s2.nx.ts.length = s2.ts.tail.length := rfl;have e1 : l.length + 1 = (l ++ [y]).length := by simp
 have e2 : l.map strV ++ [.string (bs y)] = (l ++ [y]).map strV := by simp [strV]
 refine vr 6 ?_;refine Bs 0 sl61 fun b2 => ?_;refine zG (zz sl61 rfl rfl rfl rfl .here (fun _ _ => .h2) rfl rfl (by first | omega | (simp only [maxLen]; omega)) (by omega) rfl (fun A1 c1 => ?_)) rfl;refine vr 3 ?_
 exact zo (⟨j, s3, l ++ [y], y, A1, c1⟩ : NdS) ⟨rfl, rfl, by rw [← e1]; rfl, rfl, trivial⟩ (.cons .h1 (Pick.cons (e := own 9 1 A1 (l ++ [y]).length c1 ((l ++ [y]).map strV)) (by rw [← e2, ← e1]; exact .h1) (.nil _))) ⟨hR.next h0 hk h3, fun h0 => by
   have h9 := hL3 h0;exact ⟨by show s3.ts.length < j; omega, by show (l ++ [y]).length + s3.ts.length ≤ _; rw [← e1]; omega⟩, by rw [← e1]; omega, fun t ht => by
  rcases List.mem_append.1 ht with h | h
  ·exact hx t h
  ·rw [List.mem_singleton.1 h]; exact hyl⟩ (Nat.lt_succ_self _)
theorem flt_flt {e : Int} (he : e ≠ 0) : (s.flt e).flt e = s.flt e := by
 show (if (s.flt e).e = 0 then _ else s.flt e) = _;exact if_neg (wu he)
theorem Zx {P : Program} {n : Nat} {co : Code} {env : Env} {m : Mp} {L r : List Ent} {Q : Post} {e sz k c : Nat} {A : Option Addr} {xs : List Value} (hT : Tk L (own e sz A k c xs) r) (h0 : 0 < xs.length) (hk : A.isSome = true → TS P n co env m L Q) : TS P n co env m L Q := fun h hs => hk (Zc hT h0 h hs) h hs
def RSt.tw (s : RSt) (str : List UInt8) (l : List (List UInt8)) : RSt := if str ∈ l then s.flt 101 else s
theorem tw_ok {l : List (List UInt8)} (hs : Okk ws s) : Okk ws (s.tw str l) := by
 unfold RSt.tw
 split
 ·exact (yX (α := Unit) (x := ()) hs (by decide)).ok
 ·exact hs
theorem tw_snoc {l : List (List UInt8)} {i : Nat} (hi : i < l.length) : s.tw str (l.take (i + 1)) = if l[i] = str then (s.tw str (l.take i)).flt 101 else s.tw str (l.take i) := by
 unfold RSt.tw;rw [List.take_add_one, List.getElem?_eq_getElem hi];simp only [Option.toList_some, List.mem_append, List.mem_singleton];by_cases h1 : str ∈ l.take i
 ·rw [if_pos (.inl h1), if_pos h1]
  split
  ·rw [flt_flt (by decide)]
  ·rfl
 ·rw [if_neg h1];by_cases h2 : l[i] = str
  ·rw [if_pos h2, if_pos (.inr h2.symm)]
  ·rw [if_neg h2, if_neg (fun h => h.elim h1 fun h => h2 h.symm)]
theorem once80 {l : List (List UInt8)} {K : Option Addr} {kc : Nat} (hw : WsR m A ws) (hs : Okk ws s) (hsm : ws.length ≤ 65537) (hl : l.length ≤ 70000) : CS Tryz.prog 80 [ptr b, .slice K l.length kc, .string (bs str)] m [rf b A c ws d s, own 9 1 K l.length kc (l.map strV)]
  (fun v L' => ∃ K' kc', v = .slice K' (l ++ [str]).length kc' ∧ L' = [rf b A c ws d (s.tw str l), own 9 1 K' (l ++ [str]).length kc' ((l ++ [str]).map strV)]) := by
 refine zp [.tmp 6] Tryz.func80 rfl rfl rfl ?_;refine tr 12 ?_;refine zc (α := Nat) (fun i => [(0, ptr b), (1, .slice K l.length kc), (2, .string (bs str)), (7, .int .i64 (i : Nat))]) (fun i => [rf b A c ws d (s.tw str (l.take i)), own 9 1 K l.length kc (l.map strV)]) (fun i => i ≤ l.length) (fun i => l.length - i) 0 ⟨rfl, rfl, rfl, rfl, trivial⟩ .pp (Nat.zero_le _) ?_;intro i hi
 by_cases hlt : i < l.length
 ·have hx : (l.map strV)[i]? = some (.string (bs l[i])) := by rw [List.getElem?_map, List.getElem?_eq_getElem hlt]; rfl
  have htw := tw_snoc (s := s) (str := str) hlt;generalize l[i] = w at hx htw;refine Zx .h1 (by rw [List.length_map]; omega) fun hA => ?_;refine tr 6 ?_;refine cto 11 ?_;refine pe 0 (zH ez61 rfl rfl hA (by omega)) ?_;by_cases h2 : w = str
  ·rw [if_pos h2] at htw;refine lr 1 (YS sg9 rfl .h1 hx) ?_;refine cta 5 ?_;refine C1 cl25 rfl .here (fun m' hm he => wrong25 101 (hw.mono hm) (tw_ok hs) hsm) ?_;rintro _ _ ⟨rfl, rfl⟩;refine vr 5 ?_;refine Pa 2 ?_;rw [← htw];exact QR (i + 1) .pp hlt (by omega)
  ·rw [if_neg h2] at htw;refine lr 1 (YS sg9 rfl .h1 hx) ?_;refine cfa 8 ?_;refine Pa 2 ?_;rw [← htw];exact QR (i + 1) .pp hlt (by omega)
 ·obtain rfl : i = l.length := by omega
  rw [List.take_length];have e1 : l.length + 1 = (l ++ [str]).length := by simp
  have e2 : l.map strV ++ [.string (bs str)] = (l ++ [str]).map strV := by simp [strV]
  refine tr 6 ?_;refine cfo 5 ?_;refine zD ?_;refine zB ?_;refine qt 5 ?_;refine Bs 0 sl61 fun b1 => ?_;refine zG (zz sl61 rfl rfl rfl rfl .here (fun _ _ => .h2) rfl rfl (by first | omega | (simp only [maxLen]; omega)) (by omega) rfl (fun A1 c1 => ?_)) rfl;refine vr 4 ?_
  exact zM [_] ⟨rfl, trivial⟩ _ (.cons .h1 (Pick.cons (e := own 9 1 A1 (l ++ [str]).length c1 ((l ++ [str]).map strV)) (by rw [← e2, ← e1]; exact .h1) (.nil _))) ⟨A1, c1, by rw [← e1]; rfl, rfl⟩
end
section
open Wd Tp Kd
theorem jo {α : Type} (f : α → Nat) (l : List α) (i : Nat) : ((l.take i).map f).sum ≤ (l.map f).sum := by
 conv => rhs; rw [← List.take_append_drop i l, List.map_append, List.sum_append]
 omega
abbrev nV (n : Nat) : Value := .int .i64 (n : Nat)
theorem num101 {m0 : Mp} {cs : List Value} {x : NumT} (hx : NumR m0 cs x) : numW x ≤ 1000000000 → ∀ m, Le m0 m → CS Tryz.prog 101 [.agg cs.toArray] m [] (Gives (nV (numW x))) := by
 induction hx with
 | @mk op n who kids A len c vs ho hln hmx hr hv hkk ih =>
 subst hln;intro hb m hm;rw [xo] at hb;unfold maxLen at hmx;refine zp [.tmp 2] Tryz.func101 rfl rfl rfl ?_;refine tr 2 ?_;refine Bx 15 rfl fun b1 => ?_
 refine zc (α := Nat × Nat) (fun y => [(1, .pointer (some ⟨b1, 0, none⟩)), (3, nV y.2), (4, .int .i64 (y.1 : Nat))]) (fun _ => [cel b1 [.int .i8 op, .int .i64 n, .int .i8 who, .slice A kids.length c] 45]) (fun y => y.1 ≤ kids.length ∧ y.2 = 1 + ((kids.take y.1).map numW).sum) (fun y => kids.length - y.1) (0, 1) ⟨rfl, rfl, rfl, trivial⟩ (Pick.refl _) ⟨Nat.zero_le _, by simp⟩ ?_
 rintro ⟨i, z⟩ ⟨hi, hz⟩;dsimp only at hi hz;dsimp only;by_cases hlt : i < kids.length
 ·have hA : A.isSome = true := hr.isSome (by omega);have hs := w4 numW hlt;have hle := jo numW kids (i + 1);have hc := fun m1 (hm1 : Le m m1) => ih i hlt (by omega) m1 (hm.trans hm1);have hat := (hr.elem (i * 4) 4).mono hm;have hl4 : ((vs.drop (i * 4)).take 4).length = 4 := (hkk i hlt).len;generalize (vs.drop (i * 4)).take 4 = ks at hc hat hl4;refine tr 5 ?_;refine Lb 1 sg43 .here ?_
  refine cto 10 ?_;refine Lb 1 sg43 .here ?_;refine pe 0 (zE ez43 rfl rfl hA (by omega)) ?_;refine lr 0 ((zQ ag45 rfl hl4 hat)) ?_;skip;refine Cr cl101 rfl (fun m' hm he => (hc m' hm)) ?_;rintro _ rfl;refine pe 6 (zr rfl rfl (by omega)) ?_;refine Pa 2 ?_;exact QR (i + 1, z + numW kids[i]) (Pick.refl _) ⟨hlt, by dsimp only; omega⟩ (by dsimp only; omega)
 ·have hi2 : i = kids.length := by omega
  subst hi2;rw [List.take_length] at hz;subst hz;refine tr 5 ?_;refine Lb 1 sg43 .here ?_;refine cfo 5 ?_;refine zD ?_;refine zB ?_;refine qt 8 ?_;exact rt1 ⟨rfl, trivial⟩ ⟨by rw [xo]; rfl, rfl⟩
theorem cond102 {m0 : Mp} {cs : List Value} {x : CondT} (hx : CondR m0 cs x) : condW x ≤ 1000000000 → ∀ m, Le m0 m → CS Tryz.prog 102 [.agg cs.toArray] m [] (Gives (nV (condW x))) := by
 induction hx with
 | @mk op who name nums kids A B la ca lb cb vs us ho hw hn hla hma hra hva hka hlb hmb hrb hvb hkb ih =>
 subst hla hlb;intro hb m hm;rw [yb] at hb;unfold maxLen at hma hmb;refine zp [.tmp 2] Tryz.func102 rfl rfl rfl ?_;refine tr 2 ?_;refine Bx 15 rfl fun b1 => ?_
 refine zc (α := Nat × Nat) (fun y => [(1, .pointer (some ⟨b1, 0, none⟩)), (3, nV y.2), (4, .int .i64 (y.1 : Nat))]) (fun _ => [cel b1 [.int .i8 op, .int .i8 who, .string (bs name), .slice A nums.length ca, .slice B kids.length cb] 48]) (fun y => y.1 ≤ nums.length ∧ y.2 = 1 + ((nums.take y.1).map numW).sum) (fun y => nums.length - y.1) (0, 1) ⟨rfl, rfl, rfl, trivial⟩ (Pick.refl _) ⟨Nat.zero_le _, by simp⟩ ?_
 rintro ⟨i, z⟩ ⟨hi, hz⟩;dsimp only at hi hz;dsimp only;by_cases hlt : i < nums.length
 ·have hA : A.isSome = true := hra.isSome (by omega);have hs := w4 numW hlt;have hle := jo numW nums (i + 1);have hc := fun m1 (hm1 : Le m m1) => num101 (hka i hlt) (by omega) m1 (hm.trans hm1);have hat := (hra.elem (i * 4) 4).mono hm;have hl4 : ((vs.drop (i * 4)).take 4).length = 4 := (hka i hlt).len;generalize (vs.drop (i * 4)).take 4 = ks at hc hat hl4;refine tr 5 ?_
  refine Lb 1 sg43 .here ?_;refine cto 10 ?_;refine Lb 1 sg43 .here ?_;refine pe 0 (zE ez43 rfl rfl hA (by omega)) ?_;refine lr 0 ((zQ ag45 rfl hl4 hat)) ?_;skip;refine Cr cl101 rfl (fun m' hm he => (hc m' hm)) ?_;rintro _ rfl;refine pe 6 (zr rfl rfl (by omega)) ?_;refine Pa 2 ?_;exact QR (i + 1, z + numW nums[i]) (Pick.refl _) ⟨hlt, by dsimp only; omega⟩ (by dsimp only; omega)
 ·have hi2 : i = nums.length := by omega
  subst hi2;rw [List.take_length] at hz;refine tr 5 ?_;refine Lb 1 sg43 .here ?_;refine cfo 5 ?_;refine zD ?_;refine zB ?_;refine qt 8 ?_
  refine zc (α := Nat × Nat) (fun y => [(1, .pointer (some ⟨b1, 0, none⟩)), (3, nV y.2), (5, .int .i64 (y.1 : Nat))]) (fun _ => [cel b1 [.int .i8 op, .int .i8 who, .string (bs name), .slice A nums.length ca, .slice B kids.length cb] 48]) (fun y => y.1 ≤ kids.length ∧ y.2 = 1 + (nums.map numW).sum + ((kids.take y.1).map condW).sum) (fun y => kids.length - y.1) (0, z) ⟨rfl, rfl, rfl, trivial⟩ (Pick.refl _) ⟨Nat.zero_le _, by dsimp only; rw [hz]; simp⟩ ?_
  clear hz hlt hi;rintro ⟨i, z⟩ ⟨hi, hz⟩;dsimp only at hi hz;dsimp only;by_cases hlt : i < kids.length
  ·have hA : B.isSome = true := hrb.isSome (by omega);have hs := w4 condW hlt;have hle := jo condW kids (i + 1);have hc := fun m1 (hm1 : Le m m1) => ih i hlt (by omega) m1 (hm.trans hm1);have hat := (hrb.elem (i * 5) 5).mono hm;have hl4 : ((us.drop (i * 5)).take 5).length = 5 := (hkb i hlt).len;generalize (us.drop (i * 5)).take 5 = ks at hc hat hl4;refine tr 5 ?_;refine Lb 1 sg46 .here ?_
   refine cto 10 ?_;refine Lb 1 sg46 .here ?_;refine pe 0 (zE ez46 rfl rfl hA (by omega)) ?_;refine lr 0 ((zQ ag48 rfl hl4 hat)) ?_;skip;refine Cr cl102 rfl (fun m' hm he => (hc m' hm)) ?_;rintro _ rfl;refine pe 6 (zr rfl rfl (by omega)) ?_;refine Pa 2 ?_;exact QR (i + 1, z + condW kids[i]) (Pick.refl _) ⟨hlt, by dsimp only; omega⟩ (by dsimp only; omega)
  ·have hi2 : i = kids.length := by omega
   subst hi2;rw [List.take_length] at hz;subst hz;refine tr 5 ?_;refine Lb 1 sg46 .here ?_;refine cfo 5 ?_;refine zD ?_;refine zB ?_;refine qt 8 ?_;exact rt1 ⟨rfl, trivial⟩ ⟨by rw [yb]; rfl, rfl⟩
def EW (l : List EffT) : Prop := effsW l ≤ 1000000000 → ∀ (m : Mp) (A : Option Addr) (cap : Nat), EffsR m A l.length l → CS Tryz.prog 82 [.slice A l.length cap] m [] (Gives (nV (effsW l)))
theorem jF {l : List EffT} (ih : ∀ (i : Nat) (h : i < l.length) (op who : Int) (n : NumT) (name : List UInt8) (c : CondT) (a e : List EffT), l[i] = .mk op who n name c a e → EW a ∧ EW e) : EW l := by
 rintro hb m A cap ⟨-, hml, vs, hrd, hvl, hel⟩;unfold effsW at hb;unfold maxLen at hml;refine zp [.tmp 2] Tryz.func82 rfl rfl rfl ?_;refine tr 17 ?_
 refine zc (α := Nat × Nat) (fun y => [(0, .slice A l.length cap), (3, nV y.2), (4, .int .i64 (y.1 : Nat))]) (fun _ => []) (fun y => y.1 ≤ l.length ∧ y.2 = ((l.take y.1).map effW).sum) (fun y => l.length - y.1) (0, 0) ⟨rfl, rfl, rfl, trivial⟩ (Pick.refl _) ⟨Nat.zero_le _, by simp⟩ ?_;rintro ⟨i, z⟩ ⟨hi, hz⟩;dsimp only at hi hz;dsimp only;by_cases hlt : i < l.length
 rotate_left
 ·have hi2 : i = l.length := by omega
  subst hi2;rw [List.take_length] at hz;subst hz;refine tr 6 ?_;refine cfo 5 ?_;refine zD ?_;refine zB ?_;refine qt 8 ?_;exact rt1 ⟨rfl, trivial⟩ ⟨rfl, rfl⟩
 have hA : A.isSome = true := hrd.isSome (by omega);have hx := hel i hlt;have hat := hrd.elem (i * 14) 14;have hih := ih i hlt;have hstep := w4 effW hlt;have hle := jo effW l (i + 1);generalize l[i] = x at hx hih hstep;generalize (vs.drop (i * 14)).take 14 = cs at hx hat
 obtain ⟨op, who, nop, nn, nwho, nA, nlen, nc, name, cop, cwho, cname, cA, cla, cca, cB, clb, ccb, TA, la, ca, EB, lb, cb, n, cond, thn, els, rfl, rfl, -, hn, hc, hthn, hels⟩ := EffR.parts hx;obtain ⟨ihT, ihE⟩ := hih _ _ _ _ _ _ _ rfl;have elen := hthn.1;have elen2 := hels.1;subst elen elen2;rw [wL] at hstep;rw [← hz] at hstep;clear hx hz ih hel
 generalize hs1 : ((l.take (i + 1)).map effW).sum = s1 at hstep hle;by_cases h8 : op = 8
 ·subst h8;rw [if_neg (by decide), if_pos rfl] at hstep;have ht : effsW thn = (thn.map effW).sum := rfl;have hte : effsW els = (els.map effW).sum := rfl;refine tr 6 ?_;refine cto 11 ?_;refine pe 0 (zE ez38 rfl rfl hA (by omega)) ?_;refine La 0 ag50 hat ?_;refine Al 0 zl50 fun b1 => ?_;refine Sg 5 ag50 .here ?_;refine Pa 6 ?_;refine Lb 6 sg42 .here ?_;refine cfo 6 ?_;refine cfo 6 ?_
  refine cfo 6 ?_;refine cfo 5 ?_;refine cfo 6 ?_;refine ctr 4 ?_;refine zi (sT [0, 1, 5, 9, 102, 106, 110, 203, 4, 207, 8, 211, 12, 13] .done) mixed (by kernel_rfl) (fun _ _ _ _ hq => hq) ?_;refine vt 4 ?_;refine Vu 0 rfl (xj ag48 rfl .here rfl) ?_;refine Vl 0 rfl sg38 .here ?_;refine Vl 0 rfl sg38 .here ?_
  refine zm rfl (zq cl102 rfl (fun m' hm he => (cond102 hc (by omega) m' hm)) rfl ?_) rfl;rintro _ rfl;refine Vt 0 rfl (xm rfl rfl (w64 (by omega) (by omega))) ?_;refine zm rfl (zq cl82 rfl (fun m' hm he => (ihT (by unfold effsW; omega) m' TA ca (hthn.mono hm))) rfl ?_) rfl;rintro _ rfl;refine Vt 0 rfl (xm rfl rfl (w64 (by omega) (by omega))) ?_
  refine zm rfl (zq cl82 rfl (fun m' hm he => (ihE (by unfold effsW; omega) m' EB cb (hels.mono hm))) rfl ?_) rfl;rintro _ rfl;refine Vt 1 rfl (xm rfl rfl (w64 (by omega) (by omega))) ?_;refine Vm 5 ?_;refine Pa 2 ?_
  exact zo (i + 1, s1) ⟨rfl, congrArg (fun z : Int => some (Value.int .i64 z)) (by omega), rfl, trivial⟩ (Pick.nil _) ⟨hlt, by dsimp only; rw [hs1]⟩ (by dsimp only; omega)
 rw [if_neg h8] at hstep;cases hcb : countsB op with
 | true =>
   rw [hcb, if_pos rfl] at hstep;have hop : op = 0 ∨ op = 1 ∨ op = 2 ∨ op = 3 ∨ op = 5 := by simpa [countsB, or_assoc] using hcb
   rcases hop with rfl | rfl | rfl | rfl | rfl
   ·refine tr 6 ?_;refine cto 11 ?_;refine pe 0 (zE ez38 rfl rfl hA (by omega)) ?_;refine La 0 ag50 hat ?_;refine Al 0 zl50 fun b1 => ?_;refine Sg 5 ag50 .here ?_;refine Pa 6 ?_;refine Lb 6 sg42 .here ?_;refine ctr 10 ?_;refine lr 0 (xj ag45 rfl .here rfl) ?_;refine Cr cl101 rfl (fun m' hm he => (num101 hn (by omega) m' hm)) ?_;rintro _ rfl;refine Pa 7 ?_;refine Pa 2 ?_
    exact zo (i + 1, s1) ⟨rfl, congrArg (fun z : Int => some (Value.int .i64 z)) (by omega), rfl, trivial⟩ (Pick.nil _) ⟨hlt, by dsimp only; rw [hs1]⟩ (by dsimp only; omega)
   ·refine tr 6 ?_;refine cto 11 ?_;refine pe 0 (zE ez38 rfl rfl hA (by omega)) ?_;refine La 0 ag50 hat ?_;refine Al 0 zl50 fun b1 => ?_;refine Sg 5 ag50 .here ?_;refine Pa 6 ?_;refine Lb 6 sg42 .here ?_;refine cfo 6 ?_;refine ctr 10 ?_;refine lr 0 (xj ag45 rfl .here rfl) ?_;refine Cr cl101 rfl (fun m' hm he => (num101 hn (by omega) m' hm)) ?_;rintro _ rfl;refine Pa 7 ?_
    refine Pa 2 ?_;exact zo (i + 1, s1) ⟨rfl, congrArg (fun z : Int => some (Value.int .i64 z)) (by omega), rfl, trivial⟩ (Pick.nil _) ⟨hlt, by dsimp only; rw [hs1]⟩ (by dsimp only; omega)
   ·refine tr 6 ?_;refine cto 11 ?_;refine pe 0 (zE ez38 rfl rfl hA (by omega)) ?_;refine La 0 ag50 hat ?_;refine Al 0 zl50 fun b1 => ?_;refine Sg 5 ag50 .here ?_;refine Pa 6 ?_;refine Lb 6 sg42 .here ?_;refine cfo 6 ?_;refine cfo 6 ?_;refine ctr 10 ?_;refine lr 0 (xj ag45 rfl .here rfl) ?_;refine Cr cl101 rfl (fun m' hm he => (num101 hn (by omega) m' hm)) ?_;rintro _ rfl
    refine Pa 7 ?_;refine Pa 2 ?_;exact zo (i + 1, s1) ⟨rfl, congrArg (fun z : Int => some (Value.int .i64 z)) (by omega), rfl, trivial⟩ (Pick.nil _) ⟨hlt, by dsimp only; rw [hs1]⟩ (by dsimp only; omega)
   ·refine tr 6 ?_;refine cto 11 ?_;refine pe 0 (zE ez38 rfl rfl hA (by omega)) ?_;refine La 0 ag50 hat ?_;refine Al 0 zl50 fun b1 => ?_;refine Sg 5 ag50 .here ?_;refine Pa 6 ?_;refine Lb 6 sg42 .here ?_;refine cfo 6 ?_;refine cfo 6 ?_;refine cfo 6 ?_;refine ctr 10 ?_;refine lr 0 (xj ag45 rfl .here rfl) ?_;refine Cr cl101 rfl (fun m' hm he => (num101 hn (by omega) m' hm)) ?_
    rintro _ rfl;refine Pa 7 ?_;refine Pa 2 ?_;exact zo (i + 1, s1) ⟨rfl, congrArg (fun z : Int => some (Value.int .i64 z)) (by omega), rfl, trivial⟩ (Pick.nil _) ⟨hlt, by dsimp only; rw [hs1]⟩ (by dsimp only; omega)
   ·refine tr 6 ?_;refine cto 11 ?_;refine pe 0 (zE ez38 rfl rfl hA (by omega)) ?_;refine La 0 ag50 hat ?_;refine Al 0 zl50 fun b1 => ?_;refine Sg 5 ag50 .here ?_;refine Pa 6 ?_;refine Lb 6 sg42 .here ?_;refine cfo 6 ?_;refine cfo 6 ?_;refine cfo 6 ?_;refine cfo 5 ?_;refine ctr 7 ?_;refine lr 0 (xj ag45 rfl .here rfl) ?_
    refine Cr cl101 rfl (fun m' hm he => (num101 hn (by omega) m' hm)) ?_;rintro _ rfl;refine Pa 7 ?_;refine Pa 2 ?_;exact zo (i + 1, s1) ⟨rfl, congrArg (fun z : Int => some (Value.int .i64 z)) (by omega), rfl, trivial⟩ (Pick.nil _) ⟨hlt, by dsimp only; rw [hs1]⟩ (by dsimp only; omega)
 | false =>
   rw [hcb, if_neg (by decide)] at hstep;have hop : ¬ op = 0 ∧ ¬ op = 1 ∧ ¬ op = 2 ∧ ¬ op = 3 ∧ ¬ op = 5 := by simpa [countsB, not_or, and_assoc] using hcb
   obtain ⟨h0, h1, h2, h3, h5⟩ := hop;refine tr 6 ?_;refine cto 11 ?_;refine pe 0 (zE ez38 rfl rfl hA (by omega)) ?_;refine La 0 ag50 hat ?_;refine Al 0 zl50 fun b1 => ?_;refine Sg 5 ag50 .here ?_;refine Pa 6 ?_;refine Lb 6 sg42 .here ?_;refine cfa 6 ?_;refine cfa 6 ?_;refine cfa 6 ?_;refine cfa 5 ?_;refine cfa 6 ?_;refine cfa 10 ?_;refine Pa 2 ?_
   exact zo (i + 1, s1) ⟨rfl, congrArg (fun z : Int => some (Value.int .i64 z)) (by omega), rfl, trivial⟩ (Pick.nil _) ⟨hlt, by dsimp only; rw [hs1]⟩ (by dsimp only; omega)
theorem weight82 (l : List EffT) : EW l := jF fun i h op who n name c a e he => ⟨weight82 a, weight82 e⟩
termination_by SizeOf.sizeOf l
decreasing_by
 all_goals
  have h1 := List.sizeOf_lt_of_mem (List.getElem_mem h);rw [he] at h1;simp only [EffT.mk.sizeOf_spec] at h1;omega
end
section
open Wd Tp Kd
variable {m : Mp} {b c d : Nat} {A : Option Addr} {ws : List Wrd} {s : RSt} {str : List UInt8}
def Ust {σ : Type} (ws : List Wrd) (keys : List (List UInt8)) (read : List UInt8 → σ → List Wrd → R σ) (parts : σ → Nat) (P : List Wrd → R σ) (s0 : RSt) (j : Nat) (seen : List (List UInt8)) (x : σ) (s : RSt) : Prop :=
 Okk ws s ∧ ∀ xf sf, Stp ws (pRules keys read parts j seen x) s xf sf → Stp ws P s0 xf sf
section
variable {σ : Type} {keys : List (List UInt8)} {read : List UInt8 → σ → List Wrd → R σ} {parts : σ → Nat} {P : List Wrd → R σ} {s0 : RSt} {j : Nat} {seen : List (List UInt8)} {x : σ}
theorem Ust.bad {x' : σ} (h : Ust ws keys read parts P s0 j seen x s) (hb : s.e ≠ 0) : Stp ws P s0 x' s := h.2 _ _ (Stp.bad h.1 hb)
theorem Ust.stop {s2 : RSt} (h : Ust ws keys read parts P s0 (j + 1) seen x s) (hr : isW sRb s.ts = true) (hp : ¬ 200 < parts x) (h2 : Stp ws (Tp.must sRb) s () s2) : Stp ws P s0 x s2 :=
 h.2 _ _ ((h2.bind (Q := fun _ ts => .ok x ts) (Stp.pure h2.ok)).congr fun _ => by
  unfold pRules Tp.must;rw [if_pos hr, if_pos hr, if_neg hp]
  rfl)
theorem Ust.long {x' : σ} (h : Ust ws keys read parts P s0 (j + 1) seen x s) (hr : isW sRb s.ts = true) (hp : 200 < parts x) : Stp ws P s0 x' (s.flt 3) :=
 h.2 _ _ ((yX h.1 (by decide)).congr fun _ => by
  unfold pRules
  rw [if_pos hr, if_pos hp])
theorem Ust.none {x' : σ} (h : Ust ws keys read parts P s0 (j + 1) seen x s) (hr : isW sRb s.ts = false) (hk : ¬ ((hd s.ts).kind = 1 ∧ (hd s.ts).text ∈ keys)) : Stp ws P s0 x' (s.flt 120) :=
 h.2 _ _ ((yX h.1 (by decide)).congr fun _ => by
  unfold pRules
  rw [if_neg (by rw [hr]; decide), if_neg hk])
theorem w3 {k : List UInt8} {l : List (List UInt8)} : (s.tw k l).at_ = s.at_ := by
 unfold RSt.tw RSt.flt
 split
 ·split <;> rfl
 ·rfl
theorem vg {k : List UInt8} {l : List (List UInt8)} : (s.tw k l).ts = s.ts := by
 unfold RSt.tw RSt.flt
 split
 ·split <;> rfl
 ·rfl
theorem Xg {k : List UInt8} {l : List (List UInt8)} (h : k ∉ l) : s.tw k l = s := by
 unfold RSt.tw;rw [if_neg h]
theorem Xh {k : List UInt8} {l : List (List UInt8)} (he : s.e = 0) (h : k ∈ l) : (s.tw k l).e = 101 ∧ (s.tw k l).a = (hd s.ts).at_ := by
 unfold RSt.tw RSt.flt;rw [if_pos h, if_pos he];exact ⟨rfl, rfl⟩
theorem vi {k : List UInt8} {l : List (List UInt8)} (hs : Okk ws s) (he : s.e = 0) (hk : (hd s.ts).kind ≠ 0) : Okk ws (s.tw k l).nx := by
 have h1 := hs.nx he hk;by_cases h : k ∈ l
 ·refine ⟨by show (s.tw k l).at_ + 1 < _; rw [w3]; exact h1.1, .inr ?_⟩;show (s.tw k l).e ≠ 0;rw [(Xh he h).1]
  decide
 ·rw [Xg h];exact h1
theorem Ust.key {k : List UInt8} (h : Ust ws keys read parts P s0 (j + 1) seen x s) (he : s.e = 0) (hr : isW sRb s.ts = false) (h1 : (hd s.ts).kind = 1) (ht : (hd s.ts).text = k) (hk : k ∈ keys) {x' : σ} {s4 : RSt} (h4 : Stp ws (read k x) (s.tw k seen).nx x' s4) : Ust ws keys read parts P s0 j (seen ++ [k]) x' s4 := by
 have hP : pRules keys read parts (j + 1) seen x s.ts = if k ∈ seen then fail 101 s.ts else (read k x s.ts.tail).bind fun c ts' => pRules keys read parts j (seen ++ [k]) c ts' := by
  conv => lhs; unfold pRules
  rw [if_neg (by rw [hr]; decide), if_pos ⟨h1, by rw [ht]; exact hk⟩, ht]
 refine ⟨h4.ok, fun xf sf h5 => h.2 xf sf ?_⟩;by_cases hd : k ∈ seen
 ·rw [if_pos hd] at hP;obtain ⟨e1, e2⟩ := Xh he hd;have hb : (s.tw k seen).nx.e ≠ 0 := by show (s.tw k seen).e ≠ 0; rw [e1]; decide
  obtain rfl := h4.2.1 hb;obtain rfl := h5.2.1 hb;exact ⟨h4.ok, fun h0 => absurd he h0, fun _ => .inr ⟨101, _, hP, e1, e2, by decide⟩⟩
 ·rw [if_neg hd] at hP;rw [Xg hd] at h4;exact Stp.nx he hP (h4.bind (Q := fun c => pRules keys read parts j (seen ++ [k]) c) h5)
end
theorem fine23R (hi : (rf b A c ws d s).inv m) : CS Tryz.prog 23 [ptr b] m [] (Gives (.bool (decide (s.e = 0)))) := by
 have hc := Wc.cel (i := 3) hi rfl;refine zp [.tmp 2] Tryz.func23 rfl rfl rfl ?_;by_cases h : s.e = 0
 ·refine tr 11 ?_;refine lr 0 (yG sg27 rfl hc) ?_;refine cta 4 ?_;exact rt1 ⟨rfl, trivial⟩ ⟨by rw [decide_eq_true h]; rfl, rfl⟩
 ·refine tr 11 ?_;refine lr 0 (yG sg27 rfl hc) ?_;refine cfa 4 ?_;exact rt1 ⟨rfl, trivial⟩ ⟨by rw [decide_eq_false h]; rfl, rfl⟩
theorem xE {k : List UInt8} (hs : Okk ws s) (he : s.e = 0) (h : isW k s.ts = true) (hk : k ∉ marks) : (hd s.ts).kind = 1 ∧ (hd s.ts).text = k := by
 unfold isW at h;simp only [Bool.and_eq_true, Bool.or_eq_true, decide_eq_true_eq] at h;obtain ⟨h1, h2⟩ := h;refine ⟨?_, h2⟩;rcases h1 with h1 | h1
 ·exact h1
 ·have := (hs.pos he).good.mark h1;rw [h2] at this;exact absurd this hk
theorem vk {k : List UInt8} {ts : List Wrd} (h1 : (hd ts).kind = 1) (h2 : (hd ts).text = k) : isW k ts = true := by
 unfold isW;rw [h1, h2]
 simp
def headP (nm : List UInt8) (at0 : Int) (ts : List Wrd) : R CardT := (if isW sUnit ts then (pNumber ts.tail).bind fun c ts => (pNumber ts).bind fun p ts => (must sSlash ts).bind fun _ ts => (pNumber ts).bind fun h ts => .ok (⟨nm, true, c, p, h, 0, 0, 0, [], [], [], at0⟩ : CardT) ts else (must sCharm ts).bind fun _ ts => (pNumber ts).bind fun c ts => .ok ⟨nm, false, c, 0, 0, 0, 0, 0, [], [], [], at0⟩ ts)
theorem Xz {n : Nat} {at0 : Int} : pCard cardWt n at0 = fun ts => (pName ts).bind fun nm ts => (headP nm at0 ts).bind fun c ts => (Tp.must sLb ts).bind fun _ ts => pRules cardKeys (cardRead n) cardWt n [] c ts := rfl
theorem Y3 {nm : List UInt8} {at0 : Int} {ts : List Wrd} : Tp.Ends (headP nm at0 ts) (fun _ => 0) ts.length := by
 unfold headP;refine Tp.Ends.ite (fun hw => ?_) fun _ => ?_
 ·have hl := zZ hw;exact zg.bind fun a ts2 h2 => zg.bind fun b ts3 h3 => zF.bind fun _ ts4 h4 => zg.bind fun c ts5 h5 => Tp.Ends.ok (by omega)
 ·exact zF.bind fun _ ts4 h4 => zg.bind fun c ts5 h5 => Tp.Ends.ok (by omega)
abbrev zcd : List Value := [.string (bs []), .bool false, .int .i64 0, .int .i64 0, .int .i64 0, .int .i64 0, .int .i64 0, .int .i64 0, .slice none 0 0, .slice none 0 0, .slice none 0 0, .int .i64 0]
abbrev cdV : CardT → Value → List Ent → Prop := fun x v Es => ∃ (q : CardC) (e : Ent), v = .agg (CardC.v q x).toArray ∧ Es = [e] ∧ x.name.length ≤ 65536 ∧ ∀ ns, e.inv ns → EffsR ns q.A x.played.length x.played ∧ EffsR ns q.B x.dead.length x.dead ∧ EffsR ns q.D x.dawn.length x.dawn
structure CdS where
 j : Nat
 s : RSt
 seen : List (List UInt8)
 x : CardT
 q : CardC
 K : Option Addr
 kc : Nat
 o : Ent
theorem card26 {n : Nat} {at0 : Int} (hw : WsR m A ws) (hs : Okk ws s) (hsm : ws.length ≤ 65537) (hok : s.e = 0 → s.ts.length < n) : DcC 26 [ptr b, .int .i64 at0] m b A c ws 0 0 s (pCard cardWt n at0) cdV := by
 refine zp [.cell 4 40] Tryz.func26 rfl rfl rfl ?_;refine tr 2 ?_;refine Al 6 zl40 fun b1 => ?_;refine C1 cl76 rfl .h1 (fun m' hm he => name76 (hw.mono hm) hs hsm) ?_;rintro _ _ ⟨nm, t1, _, ht1, ⟨rfl, rfl, hnl⟩, rfl⟩;have hLt1 := ht1.le (fun _ => yS);refine pe 0 (zK zl40 pl40 rfl rfl) ?_;refine Al 0 zl40 fun b2 => ?_;refine Sg 4 ag40 .here ?_
 refine qP (α := RSt × CardT) (fun y => [(0, ptr b), (4, ptr b1), (5, ptr b2)]) (fun y => [rf b A c ws 0 y.1, cel b2 (CardC.v ⟨none, 0, none, 0, none, 0⟩ y.2) 40, cel b1 zcd 40]) (fun y => Stp ws (headP nm at0) t1 y.2 y.1 ∧ y.2.name = nm ∧ y.2.played = [] ∧ y.2.dead = [] ∧ y.2.dawn = []) ?_ ?_
 ·refine tr 2 ?_;refine C1 cl77 rfl .h1 (fun m' hm he => take77 (str := sUnit) (hw.mono hm) ht1.ok hsm) ?_;rintro _ _ (⟨h0, hk, hn1, rfl, rfl⟩ | ⟨hno, rfl, rfl⟩)
  ·refine vr 6 ?_;refine Sr 5 co4 .h1 .h1 ?_;refine C1 cl78 rfl .here (fun m' hm he => number78 (hw.mono hm) hn1 hsm) ?_;rintro _ _ ⟨vc, t2, _, ht2, ⟨rfl, rfl⟩, rfl⟩;have hLt2 := ht2.le (fun _ => zg);refine vr 1 ?_;refine Sr 5 co3 .h1 .h2 ?_;refine C1 cl78 rfl .here (fun m' hm he => number78 (hw.mono hm) ht2.ok hsm) ?_;rintro _ _ ⟨vp, t3, _, ht3, ⟨rfl, rfl⟩, rfl⟩
   have hLt3 := ht3.le (fun _ => zg);refine vr 1 ?_;refine Sr 5 co3 .h1 .h3 ?_;refine C1 cl79 rfl .here (fun m' hm he => must79 (str := sSlash) (hw.mono hm) ht3.ok hsm) ?_;rintro _ _ ⟨_, t4, _, ht4, ⟨rfl, rfl⟩, rfl⟩;have hLt4 := ht4.le (fun _ => zF);refine vr 4 ?_;refine C1 cl78 rfl .here (fun m' hm he => number78 (hw.mono hm) ht4.ok hsm) ?_
   rintro _ _ ⟨vh, t5, _, ht5, ⟨rfl, rfl⟩, rfl⟩;have hLt5 := ht5.le (fun _ => zg);refine vr 1 ?_;refine Sr 1 co3 .h1 .h4 ?_
   exact QR (t5, ⟨nm, true, vc, vp, vh, 0, 0, 0, [], [], [], at0⟩) (.cons .here .pp) ⟨Stp.nx h0 (by unfold headP; rw [if_pos hk]) (Stp.bind (Q := fun c ts => (pNumber ts).bind fun p ts => (Tp.must sSlash ts).bind fun _ ts => (pNumber ts).bind fun h ts => .ok (⟨nm, true, c, p, h, 0, 0, 0, [], [], [], at0⟩ : CardT) ts) ht2 (Stp.bind (Q := fun p ts => (Tp.must sSlash ts).bind fun _ ts => (pNumber ts).bind fun h ts => .ok (⟨nm, true, vc, p, h, 0, 0, 0, [], [], [], at0⟩ : CardT) ts) ht3 (Stp.bind (Q := fun _ ts => (pNumber ts).bind fun h ts => .ok (⟨nm, true, vc, vp, h, 0, 0, 0, [], [], [], at0⟩ : CardT) ts) ht4 (Stp.bind (Q := fun h ts => .ok (⟨nm, true, vc, vp, h, 0, 0, 0, [], [], [], at0⟩ : CardT) ts) ht5 (Stp.pure ht5.ok))))), rfl, rfl, rfl, rfl⟩ (by decide)
  ·refine vr 6 ?_;refine C1 cl79 rfl .here (fun m' hm he => must79 (str := sCharm) (hw.mono hm) ht1.ok hsm) ?_;rintro _ _ ⟨_, t2, _, ht2, ⟨rfl, rfl⟩, rfl⟩;have hLt2 := ht2.le (fun _ => zF);refine vr 4 ?_;refine C1 cl78 rfl .here (fun m' hm he => number78 (hw.mono hm) ht2.ok hsm) ?_;rintro _ _ ⟨vc, t3, _, ht3, ⟨rfl, rfl⟩, rfl⟩;have hLt3 := ht3.le (fun _ => zg);refine vr 1 ?_
   refine Sr 1 co3 .h1 .h2 ?_
   exact QR (t3, ⟨nm, false, vc, 0, 0, 0, 0, 0, [], [], [], at0⟩) (.cons .here .pp) ⟨(Stp.bind (Q := fun _ ts => (pNumber ts).bind fun c ts => .ok (⟨nm, false, c, 0, 0, 0, 0, 0, [], [], [], at0⟩ : CardT) ts) ht2 (Stp.bind (Q := fun c ts => .ok (⟨nm, false, c, 0, 0, 0, 0, 0, [], [], [], at0⟩ : CardT) ts) ht3 (Stp.pure ht3.ok))).congr fun h0 => (by unfold headP; rw [if_neg (by rw [hno h0]; decide)]), rfl, rfl, rfl, rfl⟩ (by decide)
 rintro ⟨t2, x0⟩ ⟨ht2, hx1, hx2, hx3, hx4⟩;dsimp only at ht2 hx1 hx2 hx3 hx4;dsimp only;have hL2 := ht2.le (w := fun _ => 0) (fun _ => Y3);refine tr 3 ?_;refine C1 cl79 rfl .here (fun m' hm he => must79 (str := sLb) (hw.mono hm) ht2.ok hsm) ?_;rintro _ _ ⟨_, t3, _, ht3, ⟨rfl, rfl⟩, rfl⟩;have hLt3 := ht3.le (fun _ => zF);refine vr 9 ?_;refine yU 9 1 ?_
 refine zc (α := CdS) (fun y => [(0, ptr b), (4, ptr b1), (5, ptr b2), (6, .slice y.K y.seen.length y.kc)]) (fun y => [rf b A c ws 0 y.s, own 9 1 y.K y.seen.length y.kc (y.seen.map strV), cel b2 (CardC.v y.q y.x) 40, y.o, cel b1 zcd 40])
  (fun y => Ust ws cardKeys (cardRead n) cardWt (pRules cardKeys (cardRead n) cardWt n [] x0) t3 y.j y.seen y.x y.s ∧ (y.s.e = 0 → y.s.ts.length < y.j ∧ y.s.ts.length < n ∧ y.seen.length + y.s.ts.length ≤ 65537 ∧ effsW y.x.played ≤ 65537 ∧ effsW y.x.dead ≤ 65537 ∧ effsW y.x.dawn ≤ 65537) ∧ y.x.name = nm ∧ ∀ ns, y.o.inv ns → EffsR ns y.q.A y.x.played.length y.x.played ∧ EffsR ns y.q.B y.x.dead.length y.x.dead ∧ EffsR ns y.q.D y.x.dawn.length y.x.dawn) (fun y => y.j)
  ⟨n, t3, [], x0, ⟨none, 0, none, 0, none, 0⟩, none, 0, pack []⟩ ⟨rfl, rfl, rfl, rfl, trivial⟩ (.cons .h1 (.cons .here (.cons .here (Pick.nilE .p0)))) ⟨⟨ht3.ok, fun _ _ h => h⟩, fun h0 => ?_, hx1, fun ns _ => ?_⟩ ?_
 ·have h9 := hLt3 h0;have h8 := hL2 h9.1;have h7 := hLt1 h8.1;have h6 := hok h7.1;have h5 := (hs.pos h7.1).len;exact ⟨by show t3.ts.length < n; omega, by show t3.ts.length < n; omega, by show 0 + t3.ts.length ≤ _; omega, by show effsW x0.played ≤ _; rw [hx2]; exact Nat.zero_le _, by show effsW x0.dead ≤ _; rw [hx3]; exact Nat.zero_le _, by show effsW x0.dawn ≤ _; rw [hx4]; exact Nat.zero_le _⟩
 ·show EffsR ns none x0.played.length x0.played ∧ EffsR ns none x0.dead.length x0.dead ∧ EffsR ns none x0.dawn.length x0.dawn;rw [hx2, hx3, hx4];exact ⟨EffsR.z ns, EffsR.z ns, EffsR.z ns⟩
 have hfin : ∀ {x' : CardT} {sf : RSt}, Stp ws (pRules cardKeys (cardRead n) cardWt n [] x0) t3 x' sf → Stp ws (pCard cardWt n at0) s x' sf := fun h => by
  rw [Xz];exact ht1.bind (ht2.bind (ht3.bind h))
 clear hx2 hx3 hx4 hL2 hLt3;rintro ⟨j, s1, seen, x, q, K, kc, o⟩ ⟨hU, hlen, hxn, hes⟩;dsimp only at hU hlen hxn hes;dsimp only;refine tr 4 ?_;refine C1 cl23 rfl .here (fun m' hm he => fine23) ?_;rintro _ _ ⟨rfl, rfl⟩;by_cases hf : s1.e = 0
 rotate_left
 ·rw [decide_eq_false hf];skip;refine vr 10 ?_;refine zD ?_;refine zB ?_;refine qt 3 ?_;refine zi (sT [0, 201, 2, 3, 6, 10, 104, 107, 111, 205, 208, 9, 212, 13, 14, 15] .done) mixed (by kernel_rfl) (fun _ _ _ _ hq => hq) ?_;refine vt 1 ?_;refine zm rfl (zq cl23 rfl (fun m' hm he => (fine23R (he _ (.head _)))) rfl ?_) rfl;rintro _ rfl;rw [decide_eq_false hf]
  refine vt 7 ?_;refine xx rfl rfl rfl rfl rfl ?_;refine xx rfl rfl rfl rfl rfl ?_;refine vt 1 ?_;refine xx rfl rfl rfl rfl rfl ?_;refine vt 3 ?_;refine Vm 7 ?_;refine C1 cl79 rfl .here (fun m' hm he => must79 (str := sRb) (hw.mono hm) (hU.bad (x' := x) hf).ok hsm) ?_;rintro _ _ ⟨_, t5, _, ht5, ⟨rfl, rfl⟩, rfl⟩;obtain rfl := ht5.2.1 hf;refine vr 4 ?_;refine Lc 0 ag40 .h2 ?_
  refine Sg 3 ag40 .h4 ?_;exact zM [_] ⟨⟨b1, _, _, _, rfl, .h4, .inr ⟨rfl, rfl⟩⟩, trivial⟩ _ (.cons .here .p2) ⟨x, t5, [o], hfin (hU.bad (x' := x) hf), ⟨q, o, rfl, rfl, by rw [hxn]; exact hnl, hes⟩, rfl⟩
 rw [decide_eq_true hf];obtain ⟨hj, hk, hsl, hw1, hw2, hw3⟩ := hlen hf;obtain ⟨j, rfl⟩ : ∃ j', j = j' + 1 := ⟨j - 1, by omega⟩;refine vr 2 ?_;refine C1 cl24 rfl .here (fun m' hm he => is24 (str := sRb) (hw.mono hm) hU.1 hsm) ?_;rintro _ _ ⟨rfl, rfl⟩;rw [decide_eq_true hf, Bool.true_and];cases hkb : isW sRb s1.ts with
 | true =>
   have hes' : ∀ m', HE [rf b A c ws 0 s1, own 9 1 K seen.length kc (seen.map strV), cel b2 (CardC.v q x) 40, o, cel b1 zcd 40] m' → EffsR m' q.A x.played.length x.played ∧ EffsR m' q.B x.dead.length x.dead ∧ EffsR m' q.D x.dawn.length x.dawn := fun m' h => hes m' (h o (.tail _ (.tail _ (.tail _ (.head _)))));skip;refine vr 7 ?_;refine zD ?_;refine zB ?_;refine qt 3 ?_
   refine zi (sT [0, 201, 2, 3, 6, 10, 104, 107, 111, 205, 208, 9, 212, 13, 14, 15] .done) mixed (by kernel_rfl) (fun _ _ _ _ hq => hq) ?_;refine vt 1 ?_;refine zm rfl (zq cl23 rfl (fun m' hm he => (fine23R (he _ (.head _)))) rfl ?_) rfl;rintro _ rfl;rw [decide_eq_true hf];refine vt 4 ?_
   iterate 3 (refine Vl 0 rfl sg38 .h2 ?_)
   refine zm rfl (zq cl82 rfl (fun m' hm he => (weight82 x.played (by omega) m' q.A _ (hes' m' he).1)) rfl ?_) rfl;rintro _ rfl;skip;refine zm rfl (zq cl82 rfl (fun m' hm he => (weight82 x.dead (by omega) m' q.B _ (hes' m' he).2.1)) rfl ?_) rfl;rintro _ rfl;refine Vt 0 rfl (zr rfl rfl (by omega)) ?_
   refine zm rfl (zq cl82 rfl (fun m' hm he => (weight82 x.dawn (by omega) m' q.D _ (hes' m' he).2.2)) rfl ?_) rfl;rintro _ rfl;have hwt : cardWt x = effsW x.played + effsW x.dead + effsW x.dawn := rfl;by_cases h200 : 200 < cardWt x
   ·refine Vt 0 rfl (zr rfl rfl (by omega)) ?_;refine Vt 1 rfl (dt (jD rfl rfl) (by omega)) ?_;refine Vm 4 ?_;refine C1 cl25 rfl .here (fun m' hm he => wrong25 3 (hw.mono hm) hU.1 hsm) ?_;rintro _ _ ⟨rfl, rfl⟩;have hb3 : (s1.flt 3).e ≠ 0 := wu (by decide);have hS3 := hU.long (x' := x) hkb h200;refine vr 5 ?_
    refine C1 cl79 rfl .here (fun m' hm he => must79 (str := sRb) (hw.mono hm) hS3.ok hsm) ?_;rintro _ _ ⟨_, t5, _, ht5, ⟨rfl, rfl⟩, rfl⟩;obtain rfl := ht5.2.1 hb3;refine vr 4 ?_;refine Lc 0 ag40 .h2 ?_;refine Sg 3 ag40 .h4 ?_;exact zM [_] ⟨⟨b1, _, _, _, rfl, .h4, .inr ⟨rfl, rfl⟩⟩, trivial⟩ _ (.cons .here .p2) ⟨x, s1.flt 3, [o], hfin (hS3), ⟨q, o, rfl, rfl, by rw [hxn]; exact hnl, hes⟩, rfl⟩
   ·refine Vt 0 rfl (zr rfl rfl (by omega)) ?_;refine Vt 1 rfl (df (jD rfl rfl) (by omega)) ?_;refine Vm 7 ?_;refine C1 cl79 rfl .here (fun m' hm he => must79 (str := sRb) (hw.mono hm) hU.1 hsm) ?_;rintro _ _ ⟨_, t5, _, ht5, ⟨rfl, rfl⟩, rfl⟩;have hLt5 := ht5.le (fun _ => zF);refine vr 4 ?_;refine Lc 0 ag40 .h2 ?_;refine Sg 3 ag40 .h4 ?_
    exact zM [_] ⟨⟨b1, _, _, _, rfl, .h4, .inr ⟨rfl, rfl⟩⟩, trivial⟩ _ (.cons .here .p2) ⟨x, t5, [o], hfin (hU.stop hkb h200 ht5), ⟨q, o, rfl, rfl, by rw [hxn]; exact hnl, hes⟩, rfl⟩
 | false =>
   obtain ⟨w, hwd, hat⟩ := hU.1.word hw;have hwd := hwd hf;subst hwd;have hA := hU.1.isSome hw;have hlt := hU.1.lt;skip;cases hki0 : isW sPlayed s1.ts with
   | true =>
     obtain ⟨h1, htx⟩ := xE hU.1 hf hki0 (by decide);rw [htx] at hat;refine vr 9 ?_;refine zi (sT [0, 1, 2, 4, 5, 6, 103, 107, 8, 9, 110, 11] .done) mixed (by kernel_rfl) (fun _ _ _ _ hq => hq) ?_;refine vt 6 ?_;refine Vl 0 rfl sg51 .here ?_;refine Vl 0 rfl sg3 .here ?_;refine Vt 1 rfl (zE ez51 rfl rfl hA (by omega)) ?_;refine Vu 1 rfl (zI sg9 rfl (hat.at_ rfl)) ?_
     refine Vm 5 ?_;refine C1 cl24 rfl .here (fun m' hm he => is24 (str := sPlayed) (hw.mono hm) hU.1 hsm) ?_;rintro _ _ ⟨rfl, rfl⟩;rw [decide_eq_true hf, Bool.true_and, hki0];refine vr 31 ?_;refine zG (zh cl80 rfl (.cons .here .k0) (fun m' hm he => once80 (str := sPlayed) (hw.mono hm) hU.1 hsm (by omega)) rfl ?_) rfl;rintro _ _ ⟨K2, kc2, rfl, rfl⟩
     have hta : (s1.tw sPlayed seen).at_ = s1.at_ := w3;have hnx := vi (k := sPlayed) (l := seen) hU.1 hf (by rw [h1]; decide);have htl := yg (ts := s1.ts) (by rw [h1]; decide);have hnl2 : (s1.tw sPlayed seen).nx.ts.length = s1.ts.tail.length := by show (s1.tw sPlayed seen).ts.tail.length = _; rw [vg]
     have hsn : (seen ++ [sPlayed]).length = seen.length + 1 := by simp
     refine vr 8 ?_;refine Lb 0 sg3 .here ?_;refine Pa 2 ?_;refine Sr 10 co3 .here .h1 ?_;refine ctr 6 ?_;refine C1 cl81 rfl .here (fun m' hm he => block81 (hw.mono hm) hsm n m' (Le.refl _) 0 (s1.tw sPlayed seen).nx hnx (by omega) (fun h0 => ⟨by omega, by omega⟩)) ?_;rintro _ _ ⟨l, t4, _, ht4, ⟨KL, kl, e, rfl, rfl, he⟩, rfl⟩;have hLt4 := ht4.le (fun h0 => yN n 0 _ (by omega));refine vr 1 ?_
     refine Sr 3 co38 .h3 .h8 ?_
     exact QR (⟨j, t4, seen ++ [sPlayed], { x with played := l }, ⟨KL, kl, q.B, q.cb, q.D, q.cd⟩, K2, kc2, pack [e, o]⟩ : CdS) (.cons .here (.cons .h1 (.cons .h1 (Pick.pack2 (.cons .here .pp))))) ⟨hU.key hf hkb h1 htx (by decide) ((ht4.bind (Q := fun l ts => .ok { x with played := l } ts) (Stp.pure ht4.ok)).congr fun _ => rfl), fun h0 => by have h9 := hLt4 h0; exact ⟨by show t4.ts.length < j; omega, by show t4.ts.length < n; omega, by rw [hsn]; show _ + t4.ts.length ≤ _; omega, by show effsW l ≤ _; omega, hw2, hw3⟩, hxn, fun ns h => ⟨he ns (h.1 _ (.head _)), (hes ns (h.1 _ (.tail _ (.head _)))).2.1, (hes ns (h.1 _ (.tail _ (.head _)))).2.2⟩⟩ (Nat.lt_succ_self _)
   | false =>
   cases hki1 : isW sDead s1.ts with
   | true =>
     obtain ⟨h1, htx⟩ := xE hU.1 hf hki1 (by decide);rw [htx] at hat;refine vr 9 ?_;refine zi (sT [0, 1, 2, 4, 5, 6, 103, 107, 8, 9, 110, 11] .done) mixed (by kernel_rfl) (fun _ _ _ _ hq => hq) ?_;refine vt 6 ?_;refine Vl 0 rfl sg51 .here ?_;refine Vl 0 rfl sg3 .here ?_;refine Vt 1 rfl (zE ez51 rfl rfl hA (by omega)) ?_;refine Vu 1 rfl (zI sg9 rfl (hat.at_ rfl)) ?_
     refine Vm 5 ?_;refine C1 cl24 rfl .here (fun m' hm he => is24 (str := sPlayed) (hw.mono hm) hU.1 hsm) ?_;rintro _ _ ⟨rfl, rfl⟩;rw [decide_eq_true hf, Bool.true_and, zS hki1 (by decide : sDead ≠ sPlayed)];refine vr 3 ?_;refine C1 cl24 rfl .here (fun m' hm he => is24 (str := sDead) (hw.mono hm) hU.1 hsm) ?_;rintro _ _ ⟨rfl, rfl⟩;rw [decide_eq_true hf, Bool.true_and, hki1];refine vr 27 ?_
     refine zG (zh cl80 rfl (.cons .here .k0) (fun m' hm he => once80 (str := sDead) (hw.mono hm) hU.1 hsm (by omega)) rfl ?_) rfl;rintro _ _ ⟨K2, kc2, rfl, rfl⟩;have hta : (s1.tw sDead seen).at_ = s1.at_ := w3;have hnx := vi (k := sDead) (l := seen) hU.1 hf (by rw [h1]; decide);have htl := yg (ts := s1.ts) (by rw [h1]; decide)
     have hnl2 : (s1.tw sDead seen).nx.ts.length = s1.ts.tail.length := by show (s1.tw sDead seen).ts.tail.length = _; rw [vg]
     have hsn : (seen ++ [sDead]).length = seen.length + 1 := by simp
     refine vr 8 ?_;refine Lb 0 sg3 .here ?_;refine Pa 2 ?_;refine Sr 10 co3 .here .h1 ?_;refine cf 6 rfl (by decide) ?_;refine ctr 6 ?_;refine C1 cl81 rfl .here (fun m' hm he => block81 (hw.mono hm) hsm n m' (Le.refl _) 0 (s1.tw sDead seen).nx hnx (by omega) (fun h0 => ⟨by omega, by omega⟩)) ?_;rintro _ _ ⟨l, t4, _, ht4, ⟨KL, kl, e, rfl, rfl, he⟩, rfl⟩
     have hLt4 := ht4.le (fun h0 => yN n 0 _ (by omega));refine vr 1 ?_;refine Sr 3 co38 .h3 .h9 ?_
     exact QR (⟨j, t4, seen ++ [sDead], { x with dead := l }, ⟨q.A, q.ca, KL, kl, q.D, q.cd⟩, K2, kc2, pack [e, o]⟩ : CdS) (.cons .here (.cons .h1 (.cons .h1 (Pick.pack2 (.cons .here .pp))))) ⟨hU.key hf hkb h1 htx (by decide) ((ht4.bind (Q := fun l ts => .ok { x with dead := l } ts) (Stp.pure ht4.ok)).congr fun _ => rfl), fun h0 => by have h9 := hLt4 h0; exact ⟨by show t4.ts.length < j; omega, by show t4.ts.length < n; omega, by rw [hsn]; show _ + t4.ts.length ≤ _; omega, hw1, by show effsW l ≤ _; omega, hw3⟩, hxn, fun ns h => ⟨(hes ns (h.1 _ (.tail _ (.head _)))).1, he ns (h.1 _ (.head _)), (hes ns (h.1 _ (.tail _ (.head _)))).2.2⟩⟩ (Nat.lt_succ_self _)
   | false =>
   cases hki2 : isW sDawn s1.ts with
   | true =>
     obtain ⟨h1, htx⟩ := xE hU.1 hf hki2 (by decide);rw [htx] at hat;refine vr 9 ?_;refine zi (sT [0, 1, 2, 4, 5, 6, 103, 107, 8, 9, 110, 11] .done) mixed (by kernel_rfl) (fun _ _ _ _ hq => hq) ?_;refine vt 6 ?_;refine Vl 0 rfl sg51 .here ?_;refine Vl 0 rfl sg3 .here ?_;refine Vt 1 rfl (zE ez51 rfl rfl hA (by omega)) ?_;refine Vu 1 rfl (zI sg9 rfl (hat.at_ rfl)) ?_
     refine Vm 5 ?_;refine C1 cl24 rfl .here (fun m' hm he => is24 (str := sPlayed) (hw.mono hm) hU.1 hsm) ?_;rintro _ _ ⟨rfl, rfl⟩;rw [decide_eq_true hf, Bool.true_and, zS hki2 (by decide : sDawn ≠ sPlayed)];refine vr 3 ?_;refine C1 cl24 rfl .here (fun m' hm he => is24 (str := sDead) (hw.mono hm) hU.1 hsm) ?_;rintro _ _ ⟨rfl, rfl⟩
     rw [decide_eq_true hf, Bool.true_and, zS hki2 (by decide : sDawn ≠ sDead)];refine vr 4 ?_;refine C1 cl24 rfl .here (fun m' hm he => is24 (str := sDawn) (hw.mono hm) hU.1 hsm) ?_;rintro _ _ ⟨rfl, rfl⟩;rw [decide_eq_true hf, Bool.true_and, hki2];refine vr 22 ?_
     refine zG (zh cl80 rfl (.cons .here .k0) (fun m' hm he => once80 (str := sDawn) (hw.mono hm) hU.1 hsm (by omega)) rfl ?_) rfl;rintro _ _ ⟨K2, kc2, rfl, rfl⟩;have hta : (s1.tw sDawn seen).at_ = s1.at_ := w3;have hnx := vi (k := sDawn) (l := seen) hU.1 hf (by rw [h1]; decide);have htl := yg (ts := s1.ts) (by rw [h1]; decide)
     have hnl2 : (s1.tw sDawn seen).nx.ts.length = s1.ts.tail.length := by show (s1.tw sDawn seen).ts.tail.length = _; rw [vg]
     have hsn : (seen ++ [sDawn]).length = seen.length + 1 := by simp
     refine vr 8 ?_;refine Lb 0 sg3 .here ?_;refine Pa 2 ?_;refine Sr 10 co3 .here .h1 ?_;refine cf 6 rfl (by decide) ?_;refine cf 6 rfl (by decide) ?_;refine ctr 6 ?_;refine C1 cl81 rfl .here (fun m' hm he => block81 (hw.mono hm) hsm n m' (Le.refl _) 0 (s1.tw sDawn seen).nx hnx (by omega) (fun h0 => ⟨by omega, by omega⟩)) ?_;rintro _ _ ⟨l, t4, _, ht4, ⟨KL, kl, e, rfl, rfl, he⟩, rfl⟩
     have hLt4 := ht4.le (fun h0 => yN n 0 _ (by omega));refine vr 1 ?_;refine Sr 3 co38 .h3 .h10 ?_
     exact QR (⟨j, t4, seen ++ [sDawn], { x with dawn := l }, ⟨q.A, q.ca, q.B, q.cb, KL, kl⟩, K2, kc2, pack [e, o]⟩ : CdS) (.cons .here (.cons .h1 (.cons .h1 (Pick.pack2 (.cons .here .pp))))) ⟨hU.key hf hkb h1 htx (by decide) ((ht4.bind (Q := fun l ts => .ok { x with dawn := l } ts) (Stp.pure ht4.ok)).congr fun _ => rfl), fun h0 => by have h9 := hLt4 h0; exact ⟨by show t4.ts.length < j; omega, by show t4.ts.length < n; omega, by rw [hsn]; show _ + t4.ts.length ≤ _; omega, hw1, hw2, by show effsW l ≤ _; omega⟩, hxn, fun ns h => ⟨(hes ns (h.1 _ (.tail _ (.head _)))).1, (hes ns (h.1 _ (.tail _ (.head _)))).2.1, he ns (h.1 _ (.head _))⟩⟩ (Nat.lt_succ_self _)
   | false =>
   cases hki3 : isW sAura s1.ts with
   | true =>
     obtain ⟨h1, htx⟩ := xE hU.1 hf hki3 (by decide);rw [htx] at hat;refine vr 9 ?_;refine zi (sT [0, 1, 2, 4, 5, 6, 103, 107, 8, 9, 110, 11] .done) mixed (by kernel_rfl) (fun _ _ _ _ hq => hq) ?_;refine vt 6 ?_;refine Vl 0 rfl sg51 .here ?_;refine Vl 0 rfl sg3 .here ?_;refine Vt 1 rfl (zE ez51 rfl rfl hA (by omega)) ?_;refine Vu 1 rfl (zI sg9 rfl (hat.at_ rfl)) ?_
     refine Vm 5 ?_;refine C1 cl24 rfl .here (fun m' hm he => is24 (str := sPlayed) (hw.mono hm) hU.1 hsm) ?_;rintro _ _ ⟨rfl, rfl⟩;rw [decide_eq_true hf, Bool.true_and, zS hki3 (by decide : sAura ≠ sPlayed)];refine vr 3 ?_;refine C1 cl24 rfl .here (fun m' hm he => is24 (str := sDead) (hw.mono hm) hU.1 hsm) ?_;rintro _ _ ⟨rfl, rfl⟩
     rw [decide_eq_true hf, Bool.true_and, zS hki3 (by decide : sAura ≠ sDead)];refine vr 4 ?_;refine C1 cl24 rfl .here (fun m' hm he => is24 (str := sDawn) (hw.mono hm) hU.1 hsm) ?_;rintro _ _ ⟨rfl, rfl⟩;rw [decide_eq_true hf, Bool.true_and, zS hki3 (by decide : sAura ≠ sDawn)];refine vr 4 ?_;refine C1 cl24 rfl .here (fun m' hm he => is24 (str := sAura) (hw.mono hm) hU.1 hsm) ?_
     rintro _ _ ⟨rfl, rfl⟩;rw [decide_eq_true hf, Bool.true_and, hki3];refine vr 17 ?_;refine zG (zh cl80 rfl (.cons .here .k0) (fun m' hm he => once80 (str := sAura) (hw.mono hm) hU.1 hsm (by omega)) rfl ?_) rfl;rintro _ _ ⟨K2, kc2, rfl, rfl⟩;have hta : (s1.tw sAura seen).at_ = s1.at_ := w3;have hnx := vi (k := sAura) (l := seen) hU.1 hf (by rw [h1]; decide)
     have htl := yg (ts := s1.ts) (by rw [h1]; decide);have hnl2 : (s1.tw sAura seen).nx.ts.length = s1.ts.tail.length := by show (s1.tw sAura seen).ts.tail.length = _; rw [vg]
     have hsn : (seen ++ [sAura]).length = seen.length + 1 := by simp
     refine vr 8 ?_;refine Lb 0 sg3 .here ?_;refine Pa 2 ?_;refine Sr 10 co3 .here .h1 ?_;refine cf 6 rfl (by decide) ?_;refine cf 6 rfl (by decide) ?_;refine cf 6 rfl (by decide) ?_;refine ctr 7 ?_;refine C1 cl78 rfl .here (fun m' hm he => number78 (hw.mono hm) hnx hsm) ?_;rintro _ _ ⟨va, t4, _, ht4, ⟨rfl, rfl⟩, rfl⟩;have hLt4 := ht4.le (fun _ => zg);refine vr 1 ?_
     refine Sr 5 co3 .h2 .h6 ?_;refine C1 cl79 rfl .here (fun m' hm he => must79 (str := sSlash) (hw.mono hm) ht4.ok hsm) ?_;rintro _ _ ⟨_, t5, _, ht5, ⟨rfl, rfl⟩, rfl⟩;have hLt5 := ht5.le (fun _ => zF);refine vr 5 ?_;refine C1 cl78 rfl .here (fun m' hm he => number78 (hw.mono hm) ht5.ok hsm) ?_;rintro _ _ ⟨vb, t6, _, ht6, ⟨rfl, rfl⟩, rfl⟩;have hLt6 := ht6.le (fun _ => zg)
     refine vr 1 ?_;refine Sr 4 co3 .h2 .h7 ?_;refine C1 cl79 rfl .here (fun m' hm he => must79 (str := sSemi) (hw.mono hm) ht6.ok hsm) ?_;rintro _ _ ⟨_, t7, _, ht7, ⟨rfl, rfl⟩, rfl⟩;have hLt7 := ht7.le (fun _ => zF);refine vr 3 ?_
     exact QR (⟨j, t7, seen ++ [sAura], { x with apow := va, aheal := vb }, q, K2, kc2, o⟩ : CdS) (Pick.refl _) ⟨hU.key hf hkb h1 htx (by decide) ((ht4.bind (Q := fun a ts => (Tp.must sSlash ts).bind fun _ ts => (pNumber ts).bind fun b ts => (Tp.must sSemi ts).bind fun _ ts => .ok { x with apow := a, aheal := b } ts) (ht5.bind (Q := fun _ ts => (pNumber ts).bind fun b ts => (Tp.must sSemi ts).bind fun _ ts => .ok { x with apow := va, aheal := b } ts) (ht6.bind (Q := fun b ts => (Tp.must sSemi ts).bind fun _ ts => .ok { x with apow := va, aheal := b } ts) (ht7.bind (Q := fun _ ts => .ok { x with apow := va, aheal := vb } ts) (Stp.pure ht7.ok))))).congr fun _ => rfl), fun h0 => by have h9 := hLt7 h0; have h8 := hLt6 h9.1; have h7 := hLt5 h8.1; have h6 := hLt4 h7.1; exact ⟨by show t7.ts.length < j; omega, by show t7.ts.length < n; omega, by rw [hsn]; show _ + t7.ts.length ≤ _; omega, hw1, hw2, hw3⟩, hxn, hes⟩ (Nat.lt_succ_self _)
   | false =>
   cases hki4 : isW sShield s1.ts with
   | true =>
     obtain ⟨h1, htx⟩ := xE hU.1 hf hki4 (by decide);rw [htx] at hat;refine vr 9 ?_;refine zi (sT [0, 1, 2, 4, 5, 6, 103, 107, 8, 9, 110, 11] .done) mixed (by kernel_rfl) (fun _ _ _ _ hq => hq) ?_;refine vt 6 ?_;refine Vl 0 rfl sg51 .here ?_;refine Vl 0 rfl sg3 .here ?_;refine Vt 1 rfl (zE ez51 rfl rfl hA (by omega)) ?_;refine Vu 1 rfl (zI sg9 rfl (hat.at_ rfl)) ?_
     refine Vm 5 ?_;refine C1 cl24 rfl .here (fun m' hm he => is24 (str := sPlayed) (hw.mono hm) hU.1 hsm) ?_;rintro _ _ ⟨rfl, rfl⟩;rw [decide_eq_true hf, Bool.true_and, zS hki4 (by decide : sShield ≠ sPlayed)];refine vr 3 ?_;refine C1 cl24 rfl .here (fun m' hm he => is24 (str := sDead) (hw.mono hm) hU.1 hsm) ?_;rintro _ _ ⟨rfl, rfl⟩
     rw [decide_eq_true hf, Bool.true_and, zS hki4 (by decide : sShield ≠ sDead)];refine vr 4 ?_;refine C1 cl24 rfl .here (fun m' hm he => is24 (str := sDawn) (hw.mono hm) hU.1 hsm) ?_;rintro _ _ ⟨rfl, rfl⟩;rw [decide_eq_true hf, Bool.true_and, zS hki4 (by decide : sShield ≠ sDawn)];refine vr 4 ?_;refine C1 cl24 rfl .here (fun m' hm he => is24 (str := sAura) (hw.mono hm) hU.1 hsm) ?_
     rintro _ _ ⟨rfl, rfl⟩;rw [decide_eq_true hf, Bool.true_and, zS hki4 (by decide : sShield ≠ sAura)];refine vr 4 ?_;refine C1 cl24 rfl .here (fun m' hm he => is24 (str := sShield) (hw.mono hm) hU.1 hsm) ?_;rintro _ _ ⟨rfl, rfl⟩;rw [decide_eq_true hf, Bool.true_and, hki4];refine vr 12 ?_
     refine zG (zh cl80 rfl (.cons .here .k0) (fun m' hm he => once80 (str := sShield) (hw.mono hm) hU.1 hsm (by omega)) rfl ?_) rfl;rintro _ _ ⟨K2, kc2, rfl, rfl⟩;have hta : (s1.tw sShield seen).at_ = s1.at_ := w3;have hnx := vi (k := sShield) (l := seen) hU.1 hf (by rw [h1]; decide);have htl := yg (ts := s1.ts) (by rw [h1]; decide)
     have hnl2 : (s1.tw sShield seen).nx.ts.length = s1.ts.tail.length := by show (s1.tw sShield seen).ts.tail.length = _; rw [vg]
     have hsn : (seen ++ [sShield]).length = seen.length + 1 := by simp
     refine vr 8 ?_;refine Lb 0 sg3 .here ?_;refine Pa 2 ?_;refine Sr 10 co3 .here .h1 ?_;refine cf 6 rfl (by decide) ?_;refine cf 6 rfl (by decide) ?_;refine cf 6 rfl (by decide) ?_;refine cf 6 rfl (by decide) ?_;refine ctr 7 ?_;refine C1 cl78 rfl .here (fun m' hm he => number78 (hw.mono hm) hnx hsm) ?_;rintro _ _ ⟨va, t4, _, ht4, ⟨rfl, rfl⟩, rfl⟩;have hLt4 := ht4.le (fun _ => zg)
     refine vr 1 ?_;refine Sr 4 co3 .h2 .h5 ?_;refine C1 cl79 rfl .here (fun m' hm he => must79 (str := sSemi) (hw.mono hm) ht4.ok hsm) ?_;rintro _ _ ⟨_, t5, _, ht5, ⟨rfl, rfl⟩, rfl⟩;have hLt5 := ht5.le (fun _ => zF);refine vr 3 ?_
     exact QR (⟨j, t5, seen ++ [sShield], { x with shield := va }, q, K2, kc2, o⟩ : CdS) (Pick.refl _) ⟨hU.key hf hkb h1 htx (by decide) ((ht4.bind (Q := fun a ts => (Tp.must sSemi ts).bind fun _ ts => .ok { x with shield := a } ts) (ht5.bind (Q := fun _ ts => .ok { x with shield := va } ts) (Stp.pure ht5.ok))).congr fun _ => rfl), fun h0 => by have h9 := hLt5 h0; have h8 := hLt4 h9.1; exact ⟨by show t5.ts.length < j; omega, by show t5.ts.length < n; omega, by rw [hsn]; show _ + t5.ts.length ≤ _; omega, hw1, hw2, hw3⟩, hxn, hes⟩ (Nat.lt_succ_self _)
   | false =>
   refine vr 9 ?_;refine zi (sT [0, 1, 2, 4, 5, 6, 103, 107, 8, 9, 110, 11] .done) mixed (by kernel_rfl) (fun _ _ _ _ hq => hq) ?_;refine vt 6 ?_;refine Vl 0 rfl sg51 .here ?_;refine Vl 0 rfl sg3 .here ?_;refine Vt 1 rfl (zE ez51 rfl rfl hA (by omega)) ?_;refine Vu 1 rfl (zI sg9 rfl (hat.at_ rfl)) ?_;refine Vm 5 ?_
   refine C1 cl24 rfl .here (fun m' hm he => is24 (str := sPlayed) (hw.mono hm) hU.1 hsm) ?_;rintro _ _ ⟨rfl, rfl⟩;rw [decide_eq_true hf, Bool.true_and, hki0];refine vr 3 ?_;refine C1 cl24 rfl .here (fun m' hm he => is24 (str := sDead) (hw.mono hm) hU.1 hsm) ?_;rintro _ _ ⟨rfl, rfl⟩;rw [decide_eq_true hf, Bool.true_and, hki1];refine vr 4 ?_
   refine C1 cl24 rfl .here (fun m' hm he => is24 (str := sDawn) (hw.mono hm) hU.1 hsm) ?_;rintro _ _ ⟨rfl, rfl⟩;rw [decide_eq_true hf, Bool.true_and, hki2];refine vr 4 ?_;refine C1 cl24 rfl .here (fun m' hm he => is24 (str := sAura) (hw.mono hm) hU.1 hsm) ?_;rintro _ _ ⟨rfl, rfl⟩;rw [decide_eq_true hf, Bool.true_and, hki3];refine vr 4 ?_
   refine C1 cl24 rfl .here (fun m' hm he => is24 (str := sShield) (hw.mono hm) hU.1 hsm) ?_;rintro _ _ ⟨rfl, rfl⟩;rw [decide_eq_true hf, Bool.true_and, hki4];refine vr 8 ?_
   have hnk : ¬ ((hd s1.ts).kind = 1 ∧ (hd s1.ts).text ∈ cardKeys) := fun ⟨h1, h2⟩ => by
    simp only [cardKeys, List.mem_cons, List.not_mem_nil, or_false] at h2;rcases h2 with h2 | h2 | h2 | h2 | h2
    ·rw [vk h1 h2] at hki0; cases hki0
    ·rw [vk h1 h2] at hki1; cases hki1
    ·rw [vk h1 h2] at hki2; cases hki2
    ·rw [vk h1 h2] at hki3; cases hki3
    ·rw [vk h1 h2] at hki4; cases hki4
   refine C1 cl25 rfl .here (fun m' hm he => wrong25 120 (hw.mono hm) hU.1 hsm) ?_;rintro _ _ ⟨rfl, rfl⟩;have hb3 : (s1.flt 120).e ≠ 0 := wu (by decide);have hS3 := hU.none (x' := x) hkb hnk;skip;refine vr 5 ?_;refine zD ?_;refine zB ?_;refine qt 3 ?_
   refine zi (sT [0, 201, 2, 3, 6, 10, 104, 107, 111, 205, 208, 9, 212, 13, 14, 15] .done) mixed (by kernel_rfl) (fun _ _ _ _ hq => hq) ?_;refine vt 1 ?_;refine zm rfl (zq cl23 rfl (fun m' hm he => (fine23R (he _ (.head _)))) rfl ?_) rfl;rintro _ rfl;rw [decide_eq_false hb3];refine vt 7 ?_;refine xx rfl rfl rfl rfl rfl ?_;refine xx rfl rfl rfl rfl rfl ?_;refine vt 1 ?_
   refine xx rfl rfl rfl rfl rfl ?_;refine vt 3 ?_;refine Vm 7 ?_;refine C1 cl79 rfl .here (fun m' hm he => must79 (str := sRb) (hw.mono hm) (hS3).ok hsm) ?_;rintro _ _ ⟨_, t5, _, ht5, ⟨rfl, rfl⟩, rfl⟩;obtain rfl := ht5.2.1 hb3;refine vr 4 ?_;refine Lc 0 ag40 .h2 ?_;refine Sg 3 ag40 .h4 ?_
   exact zM [_] ⟨⟨b1, _, _, _, rfl, .h4, .inr ⟨rfl, rfl⟩⟩, trivial⟩ _ (.cons .here .p2) ⟨x, s1.flt 120, [o], hfin (hS3), ⟨q, o, rfl, rfl, by rw [hxn]; exact hnl, hes⟩, rfl⟩
end
end Go.Proofs.YtpgiokjfkcddeaaGreatDoor
