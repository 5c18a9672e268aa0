/- A part of the proof: contracts of functions of the program. No condition. -/
import Derived.Test.YtbpihgphicmdiaaWiAh
import Derived.Test.YtbpihgphicmdiaaWi0
namespace Go.Proofs.Ytbpihgphicmdiaa
open Go.Eng Wi
set_option maxRecDepth 100000
/-- a piece of code that does not panic -/
def calm (Q : Post) : Post
  | .panic _, _, _ => False
  | e, env, h => Q e env h
theorem TS_calm {P : Program} {n : Nat} {env : Env} {m : Mp} {L : List Ent} {Q : Post} {c : Code} (ht : TS P n c env m L (calm Q)) : TS P n c env m L Q :=
  fun h hs => T_mono (ht h hs) fun e env h hq => by cases e <;> first | exact hq | exact hq.elim
theorem QS_calm {env : Env} {m : Mp} {L : List Ent} {Q : Post} (hq : QS Q .normal env m L) : QS (calm Q) .normal env m L := hq
theorem QS_retNW {P : Program} {rs : List ResultVar} {env : Env} {m m2 : Mp} {L : List Ent} {post : Value → List Ent → Prop} (hl : Le m m2) (vs : List Value) (hv : RvsS P env L rs vs) (L' : List Ent) (hp : Pick L L') (hq : post (tup vs) L') : QS (retC P rs (postS m post)) .normal env m2 L :=
  fun h hs => ⟨vs, hv.ok hs, L', hq, (hp m2 h hs).weaken hl⟩
theorem D33_ret {m : Mp} {L : List Ent} {b2 b3 b4 : Nat} {x : Fx} {h : Heap} {d : Nat} (hs : HS m L h) :
    CallsD Try.prog 33 [.pointer (some ⟨b2, 0, none⟩), .pointer (some ⟨b3, 0, none⟩), .pointer (some ⟨b4, 0, none⟩)].toArray .returning (W x h d) fun e u2 w' => e = .returned (.tuple #[]) ∧ u2 = .returning ∧ ∃ h' d' L', w' = W x h' d' ∧ (L' = L) ∧ HS m L' h' := by
  refine CD_of (post := fun _ L' => L' = L) Try.func33 rfl rfl rfl rfl .ret ?_ hs
  refine VS_nil ?_
  refine QS_then ?_
  refine TS_block ?_
  refine TS_seq ?_
  refine TS_region ?_
  refine VS_pure (P_ieqYes (by kernel_rfl) rfl) rfl rfl rfl ?_
  refine VS_nil ?_
  refine QS_then ?_
  refine TS_true rfl ?_
  refine TS_region ?_
  refine VS_pure (P_assign rfl) rfl rfl rfl ?_
  refine VS_nil ?_
  refine QS_block ?_
  exact QS_retN [] trivial L (Pick.refl _) rfl
theorem D33_pan {m : Mp} {L : List Ent} {b2 b3 b4 : Nat} {v2 v3 v4 v : Value} {x : Fx} {h : Heap} {d : Nat} {at_ : Nat} (hv : v = wrongV at_) (hs : HS m [cel b4 [v4] 29, cel b3 [v3] 3, cel b2 [v2] 36] h) :
    CallsD Try.prog 33 [.pointer (some ⟨b2, 0, none⟩), .pointer (some ⟨b3, 0, none⟩), .pointer (some ⟨b4, 0, none⟩)].toArray (.panicking (pan v)) (W x h d) fun e u2 w' => e = .returned (.tuple #[]) ∧ u2 = .panicking [{ v := v, recovered := true }] ∧ ∃ h' d' L', w' = W x h' d' ∧ (L' = [cel b4 [.int .i64 80] 29, cel b3 [.int .i64 (at_ : Nat)] 3, cel b2 [.nilIface] 36]) ∧ HS m L' h' := by
  subst hv
  refine CD_of (post := fun _ L' => L' = [cel b4 [.int .i64 80] 29, cel b3 [.int .i64 (at_ : Nat)] 3, cel b2 [.nilIface] 36]) Try.func33 rfl rfl rfl rfl (.pan _ _) ?_ hs
  unfold wrongV
  refine VS_nil ?_
  refine QS_then ?_
  refine TS_block ?_
  refine TS_seq ?_
  refine TS_region ?_
  refine VS_pure (P_ieqNo (by kernel_rfl) rfl) rfl rfl rfl ?_
  refine VS_nil ?_
  refine QS_then ?_
  refine TS_false rfl ?_
  refine TS_seq ?_
  refine TS_region ?_
  refine VS_pure (P_assertYes ni82 us82 rfl) rfl rfl rfl ?_
  refine VS_pure (P_extract rfl rfl) rfl rfl rfl ?_
  refine VS_pure (P_extract rfl rfl) rfl rfl rfl ?_
  refine VS_nil ?_
  refine QS_then ?_
  refine TS_true rfl ?_
  refine TS_seq ?_
  refine TS_region ?_
  refine VS_step (S_alloc zl82 rfl (fun b1 => ?_)) rfl
  refine VS_step (S_storeAgg ag82 rfl rfl rfl (.here) rfl rfl ?_) rfl
  refine VS_nil ?_
  refine QS_then ?_
  refine TS_absorb .here (fun ns hi _ hd => ?_)
  have hw : Wc (uni m ns) ⟨b1, 0, none⟩ (.int .i64 (at_ : Nat)) := (Wc.cel (e := 82) hi rfl).mono (uni_r hd)
  skip
  refine TS_drawB (.step 0 true (.step 1 true (.step 2 false (.step 3 false (.step 4 false (.done)))))) mixed (by kernel_rfl) (fun _ _ _ _ hq => hq) ?_
  refine VBS_pure rfl (P_fieldAddr0 fo82_0 rfl) rfl rfl rfl ?_
  refine VBS_read rfl (S_loadW sg3 rfl hw) rfl rfl rfl ?_
  refine VBS_step rfl (S_store co36 rfl rfl rfl (.there (.there (.here))) (.here) ?_) rfl
  refine VBS_step rfl (S_store co3 rfl rfl rfl (.there (.here)) (.here) ?_) rfl
  refine VBS_step rfl (S_store co29 rfl rfl rfl (.here) (.here) ?_) rfl
  refine VBS_nil ?_
  refine QS_block ?_
  exact QS_retNW (uni_l _ _) [] trivial [_, _, _] (Pick.refl _) rfl
theorem Res.bind_ok {α β : Type} {r : Res α} {f : α → Nat → Res β} {y : β} {a' : Nat} (h : r.bind f = .ok y a') : ∃ x a1, r = .ok x a1 ∧ f x a1 = .ok y a' := by
  cases r with
  | ok x a1 => exact ⟨x, a1, rfl, h⟩
  | bad k => cases h
theorem pBody_right {k : Int} {b : List UInt8} {a a' : Nat} {x : Ltr} (hk : known k = true) (h : pBody k b a = .ok x a') : rightP x = true ∧ x.kind = k := by
  rcases known_or hk with rfl | rfl | rfl | rfl | rfl | rfl | rfl | rfl | rfl | rfl | rfl | rfl
  · rw [pBody_1] at h
    obtain ⟨_, _, _, h⟩ := Res.bind_ok h
    cases h
    exact ⟨by simp [rightP, r7, r6, r5, r4, r3, r2, r1, rt, rb, known], rfl⟩
  · rw [pBody_2] at h
    obtain ⟨_, _, _, h⟩ := Res.bind_ok h
    obtain ⟨_, _, _, h⟩ := Res.bind_ok h
    cases h
    exact ⟨by simp [rightP, r7, r6, r5, r4, r3, r2, r1, rt, rb, known], rfl⟩
  · rw [pBody_3] at h
    obtain ⟨_, _, _, h⟩ := Res.bind_ok h
    obtain ⟨_, _, _, h⟩ := Res.bind_ok h
    cases h
    exact ⟨by simp [rightP, r7, r6, r5, r4, r3, r2, r1, rt, rb, known], rfl⟩
  · rw [pBody_4] at h
    obtain ⟨_, _, _, h⟩ := Res.bind_ok h
    obtain ⟨_, _, _, h⟩ := Res.bind_ok h
    cases h
    exact ⟨by simp [rightP, r7, r6, r5, r4, r3, r2, r1, rt, rb, known], rfl⟩
  · rw [pBody_5] at h
    obtain ⟨_, _, _, h⟩ := Res.bind_ok h
    cases h
    exact ⟨by simp [rightP, r7, r6, r5, r4, r3, r2, r1, rt, rb, known], rfl⟩
  · rw [pBody_6] at h
    obtain ⟨_, _, _, h⟩ := Res.bind_ok h
    cases h
    exact ⟨by simp [rightP, r7, r6, r5, r4, r3, r2, r1, rt, rb, known], rfl⟩
  · rw [pBody_7] at h
    obtain ⟨_, _, _, h⟩ := Res.bind_ok h
    cases h
    exact ⟨by simp [rightP, r7, r6, r5, r4, r3, r2, r1, rt, rb, known], rfl⟩
  · rw [pBody_8] at h
    cases h
    exact ⟨by simp [rightP, r7, r6, r5, r4, r3, r2, r1, rt, rb, known], rfl⟩
  · rw [pBody_64] at h
    obtain ⟨_, _, _, h⟩ := Res.bind_ok h
    obtain ⟨_, _, _, h⟩ := Res.bind_ok h
    cases h
    exact ⟨by simp [rightP, r7, r6, r5, r4, r3, r2, r1, rt, rb, known], rfl⟩
  · rw [pBody_65] at h
    obtain ⟨_, _, _, h⟩ := Res.bind_ok h
    obtain ⟨_, _, _, h⟩ := Res.bind_ok h
    cases h
    exact ⟨by simp [rightP, r7, r6, r5, r4, r3, r2, r1, rt, rb, known], rfl⟩
  · rw [pBody_66] at h
    obtain ⟨_, _, _, h⟩ := Res.bind_ok h
    obtain ⟨_, _, _, h⟩ := Res.bind_ok h
    cases h
    exact ⟨by simp [rightP, r7, r6, r5, r4, r3, r2, r1, rt, rb, known], rfl⟩
  · rw [pBody_67] at h
    obtain ⟨_, _, _, h⟩ := Res.bind_ok h
    obtain ⟨_, _, _, h⟩ := Res.bind_ok h
    cases h
    exact ⟨by simp [rightP, r7, r6, r5, r4, r3, r2, r1, rt, rb, known], rfl⟩
/-- a letter that has its kind alone -/
def ltr0 (k : Int) : Ltr := ⟨k, 0, [], [], [], acn0, 0, 0, []⟩
theorem lt0_A (m : Mp) (t : UInt8) : LtA m (L0 (t.toNat : Int)) (ltr0 (t.toNat : Int)) :=
  ⟨_, _, _, _, _, rfl, BytesE.z _, StrsE.z _, IntsE.z _, PairsE.z _, EvsE.z _, ⟨by show 0 ≤ (t.toNat : Int); omega, by show (t.toNat : Int) ≤ 255; have := t.toNat_lt; omega⟩, i64_0, Nat.zero_le _, noS, acn0_N, u8_0, i64_0⟩
theorem right0 (k : Int) : rightP (ltr0 k) = known k := by
  cases h : known k <;> simp [rightP, ltr0, h, r7, r6, r5, r4, r3, r2, r1]
theorem empty_of {m : Mp} {k : Int} {w : Value} (h : MsgR m w (ltr0 k)) : EmptyV k w := by
  obtain ⟨lx, hlx, _, h1, h64, _⟩ := Flat_ok h
  obtain ⟨vb, vc, vi, vp, ve, rfl, hb, _⟩ := hlx
  obtain ⟨a0, cz, rfl, _⟩ := hb
  refine ⟨fun hk => ?_, fun hk => h64 hk⟩
  obtain ⟨vb, h3, e⟩ := h1 hk
  cases h3
  exact ⟨a0, cz, e⟩
/-- bytes as a letter, as Read reads them -/
def pRead (b : List UInt8) : Res Ltr := if 4096 < b.length then .bad 0 else pAll b
def ReadPost (r : Res Ltr) (v : Value) (L' : List Ent) : Prop :=
  (∃ x a w e, r = .ok x a ∧ v = .tuple [w, .int .i64 0, .int .i64 0].toArray ∧ L' = [e] ∧ ∀ ns, e.inv ns → MsgR ns w x) ∨ (∃ k, r = .bad k ∧ v = .tuple [.nilIface, .int .i64 (k : Nat), .int .i64 80].toArray ∧ L' = [])
set_option maxHeartbeats 8000000 in
theorem Read_ok {m : Mp} {A : Option Addr} {c : Nat} {b : List UInt8} (hr : Rd m A (b.map byteV)) (hb : b.length ≤ 1099511627776) : CS Try.prog 17 [.slice A b.length c] m [] (ReadPost (pRead b)) := by
  intro h hs0 x0 d0
  refine calls_of_wp_defers Try.func17 rfl ?_
  refine at_W (x := ⟨x0.tape, x0.os, x0.out, []⟩) (h := h) (d := d0) rfl (fun a hag => ?_) (agD0 (by show 1 ≤ 51; decide))
  refine wp_seq_T (m := m) (L := []) (K := fun env' L' => ∃ b2 b3 b4, L' = [cel b4 [.int .i64 0] 29, cel b3 [.int .i64 0] 3, cel b2 [.nilIface] 36] ∧ Sub [(0, .slice A b.length c), (2, .pointer (some ⟨b2, 0, none⟩)), (3, .pointer (some ⟨b3, 0, none⟩)), (4, .pointer (some ⟨b4, 0, none⟩))] env') ?_ hs0 hag ?_
  · refine TS_region ?_
    refine VS_step (S_alloc zl36 rfl (fun b1 => ?_)) rfl
    refine VS_step (S_alloc zl3 rfl (fun b2 => ?_)) rfl
    refine VS_step (S_alloc zl29 rfl (fun b3 => ?_)) rfl
    refine VS_nil ?_
    exact QS_mid _ (Pick.refl _) ⟨b1, b2, b3, rfl, rfl, rfl, rfl, rfl, trivial⟩
  rintro env1 _ h1 d1' a1' ⟨b2, b3, b4, rfl, hsub⟩ hs1 hag1
  have hag1 := hag1.sub hsub
  by_cases hbig : 4096 < b.length
  · refine wp_TQ (x := ⟨x0.tape, x0.os, x0.out, []⟩) (Qr := endQ m (fun env L' => Sub [(2, .pointer (some ⟨b2, 0, none⟩)), (3, .pointer (some ⟨b3, 0, none⟩)), (4, .pointer (some ⟨b4, 0, none⟩))] env ∧ L' = [cel b4 [.int .i64 80] 29, cel b3 [.int .i64 0] 3, cel b2 [.nilIface] 36]) (fun _ _ _ => False)) ?_ hs1 hag1 ?_
    · refine TS_seq ?_
      refine TS_seq ?_
      refine TS_region ?_
      refine VS_pure (P_move rfl) rfl rfl rfl ?_
      refine VS_pure (P_len il22 rfl) rfl rfl rfl ?_
      refine VS_pure (dt (P_gtr rfl rfl) (by omega)) rfl rfl rfl ?_
      refine VS_nil ?_
      refine QS_then ?_
      refine TS_true rfl ?_
      refine TS_seq ?_
      refine TS_region ?_
      refine VS_step (S_store co36 rfl rfl rfl (.there (.there (.here))) (.here) ?_) rfl
      refine VS_step (S_store co3 rfl rfl rfl (.there (.here)) (.here) ?_) rfl
      refine VS_step (S_store co29 rfl rfl rfl (.here) (.here) ?_) rfl
      refine VS_nil ?_
      refine QS_then ?_
      refine TS_ret ?_
      refine QS_then_ret ?_
      exact QS_end (Le.refl _) [_, _, _] (Pick.refl _) ⟨⟨rfl, rfl, rfl, trivial⟩, rfl⟩
    · rintro e env' h' d' a' hq hag'
      have hdf : a'.defers = [] := hag'.defers
      have good : ∀ L', (Sub [(2, .pointer (some ⟨b2, 0, none⟩)), (3, .pointer (some ⟨b3, 0, none⟩)), (4, .pointer (some ⟨b4, 0, none⟩))] env' ∧ L' = [cel b4 [.int .i64 80] 29, cel b3 [.int .i64 0] 3, cel b2 [.nilIface] 36]) → HS m L' h' → Leaves Try.prog Try.f17 a'.tmps (fun e w' => ∃ v h' d', e = Ending.returned v ∧ w' = W x0 h' d' ∧ postS m (ReadPost (pRead b)) v h') [] .returning (W ⟨x0.tape, x0.os, x0.out, []⟩ h' d') := by
        rintro L' ⟨hsub, rfl⟩ hh
        exact ⟨_, RvsOk.results (rs := [.cell 2 36, .cell 3 3, .cell 4 29]) rfl hag'.toAg (RvsS.ok hh (vs := [_, _, _]) ⟨⟨_, _, _, _, hsub.1, .there (.there .here), .inl ⟨sg36, rfl⟩⟩, ⟨_, _, _, _, hsub.2.1, .there .here, .inl ⟨sg3, rfl⟩⟩, ⟨_, _, _, _, hsub.2.2.1, .here, .inl ⟨sg29, rfl⟩⟩, trivial⟩), _, h', d', rfl, rfl, _, .inr ⟨0, by rw [pRead, if_pos hbig], rfl, rfl⟩, hh.tail.tail.tail⟩
      cases e with
      | normal =>
        obtain ⟨L', hp, hh⟩ := hq
        show Leaves _ _ _ _ a'.defers _ _
        rw [hdf]
        exact good _ hp hh
      | ret =>
        obtain ⟨L', hp, hh⟩ := hq
        show Leaves _ _ _ _ a'.defers _ _
        rw [hdf]
        exact good _ hp hh
      | panic c => obtain ⟨v, L', _, hf, _⟩ := hq; exact hf.elim
      | exit i => exact hq.elim
      | goto i => exact hq.elim
      | outgrown => exact hq.elim
  · refine wp_seq_T (m := m) (K := fun env' L' => L' = [cel b4 [.int .i64 0] 29, cel b3 [.int .i64 0] 3, cel b2 [.nilIface] 36] ∧ Sub [(0, .slice A b.length c), (2, .pointer (some ⟨b2, 0, none⟩)), (3, .pointer (some ⟨b3, 0, none⟩)), (4, .pointer (some ⟨b4, 0, none⟩))] env') ?_ hs1 hag1 ?_
    · refine TS_seq ?_
      refine TS_region ?_
      refine VS_pure (P_move rfl) rfl rfl rfl ?_
      refine VS_pure (P_len il22 rfl) rfl rfl rfl ?_
      refine VS_pure (df (P_gtr rfl rfl) (by omega)) rfl rfl rfl ?_
      refine VS_nil ?_
      refine QS_then ?_
      refine TS_false rfl ?_
      refine TS_skip ?_
      exact QS_mid _ (Pick.refl _) ⟨rfl, rfl, rfl, rfl, rfl, trivial⟩
    rintro env3 _ h3 d3' a3' ⟨rfl, hsub⟩ hs3 hag3
    have hag3 := hag3.sub hsub
    refine wp_seq ?_
    refine wp_defer rfl rfl hag3 fun a4' hag4 => ?_
    refine wp_TQ (x := ⟨x0.tape, x0.os, x0.out, [dfr (.func 33) [.pointer (some ⟨b2, 0, none⟩), .pointer (some ⟨b3, 0, none⟩), .pointer (some ⟨b4, 0, none⟩)]]⟩) (Qr := endQ m (fun env L' => Sub [(2, .pointer (some ⟨b2, 0, none⟩)), (3, .pointer (some ⟨b3, 0, none⟩)), (4, .pointer (some ⟨b4, 0, none⟩))] env ∧ ∃ x a w e, pRead b = .ok x a ∧ L' = [cel b4 [.int .i64 0] 29, cel b3 [.int .i64 0] 3, cel b2 [w] 36, e] ∧ ∀ ns, e.inv ns → MsgR ns w x)
      (fun env v L' => Sub [(2, .pointer (some ⟨b2, 0, none⟩)), (3, .pointer (some ⟨b3, 0, none⟩)), (4, .pointer (some ⟨b4, 0, none⟩))] env ∧ ∃ k v4, pRead b = .bad k ∧ v = wrongV k ∧ L' = [cel b4 [v4] 29, cel b3 [.int .i64 0] 3, cel b2 [.nilIface] 36])) ?_ hs3 hag4 ?_
    · refine TS_seq ?_
      refine TS_region ?_
      refine VS_pure (P_move rfl) rfl rfl rfl ?_
      refine VS_pure (P_build zl86 pl86 rfl rfl) rfl rfl rfl ?_
      refine VS_step (S_box rfl rfl (fun b1 => ?_)) rfl
      refine VS_pure (P_assign rfl) rfl rfl rfl ?_
      refine VS_nil ?_
      refine QS_then ?_
      refine TS_seq ?_
      refine TS_region ?_
      refine VS_pure (P_build zl32 pl32 rfl rfl) rfl rfl rfl ?_
      refine VS_step (S_alloc zl32 rfl (fun b5 => ?_)) rfl
      refine VS_step (S_storeAgg ag32 rfl rfl rfl (.here) rfl rfl ?_) rfl
      refine VS_nil ?_
      refine QS_then ?_
      refine TS_seq ?_
      refine TS_region ?_
      refine VS_pure (P_move rfl) rfl rfl rfl ?_
      refine VS_pure (P_fieldAddr0 fo32_0 rfl) rfl rfl rfl ?_
      have p0 : Plc ⟨b5, 0, none⟩ (fun v => cel b5 [v, iV 0, sV [], .slice none 0 0, .slice none 0 0, .int .i8 0, iV 0, iV 0, iV 0, .slice none 0 0, .slice none 0 0, .int .u8 0, iV 0, .slice none 0 0] 32) := Plc.cel (i := 0) (l := L0 0) (by decide)
      refine VS_step (S_callP cl24 rfl (.cons (.there .here) (.cons .here .nil)) (fun m' hm he => byteR (c := c) (A := A) (b := b) p0 (hr.mono hm) hb 0 (Nat.zero_le _)) rfl ?_ ?_) rfl
      · rintro v L' ⟨j, hk, rfl⟩
        refine QS_then_pan ?_
        exact QS_endP (Le.refl _) [_, _, _] (Pick.app (Pick.refl _)) ⟨⟨rfl, rfl, rfl, trivial⟩, j, _, by rw [pRead, if_neg hbig, pAll, hk]; rfl, rfl, rfl⟩
      rintro v L' ⟨t, a1, ht, ha1, rfl, rfl⟩
      try dsimp only
      have hpr : pRead b = if known (t.toNat : Int) = true then (pBody (t.toNat : Int) b a1).bind fun l a2 => if a2 < b.length then .bad a2 else .ok l a2 else .bad 0 := by rw [pRead, if_neg hbig, pAll, ht]; rfl
      have hl0 : ∀ m', LtA m' (L0 (t.toNat : Int)) (ltr0 (t.toNat : Int)) := fun m' => lt0_A m' t
      refine VS_nil ?_
      refine QS_then ?_
      refine TS_seq ?_
      refine TS_region ?_
      refine VS_read (S_loadBA ag32 rfl (.there (.here)) rfl) rfl rfl rfl ?_
      refine VS_step ((S_call cl9 rfl (fun m' hm he => Of_ok (hl0 m')) rfl ?_)) rfl
      rintro _ _ ⟨rfl, ⟨hrt, w, hw, rfl⟩ | ⟨hrt, rfl⟩⟩
      · have hkn : known (t.toNat : Int) = true := by rw [← right0]; exact hrt
        have hev := empty_of (hw m (hl0 m))
        rw [if_pos hkn] at hpr
        refine VS_pure (P_move rfl) rfl rfl rfl ?_
        refine VS_pure (P_extract rfl rfl) rfl rfl rfl ?_
        refine VS_pure (P_extract rfl rfl) rfl rfl rfl ?_
        refine VS_pure (P_assign rfl) rfl rfl rfl ?_
        refine VS_step (S_store co29 rfl rfl rfl (.there (.there (.here))) (.here) ?_) rfl
        refine VS_nil ?_
        refine QS_then ?_
        refine TS_seq ?_
        refine TS_seq ?_
        refine TS_region ?_
        refine VS_read (S_loadB sg29 rfl (.there (.there (.here))) rfl) rfl rfl rfl ?_
        refine VS_pure (df (P_neq rfl rfl) (by omega)) rfl rfl rfl ?_
        refine VS_nil ?_
        refine QS_then ?_
        refine TS_false rfl ?_
        refine TS_skip ?_
        refine QS_then ?_
        refine TS_seq ?_
        refine TS_region ?_
        refine VS_pure (P_move rfl) rfl rfl rfl ?_
        refine VS_pure (P_move rfl) rfl rfl rfl ?_
        refine VS_step (S_callP cl25 rfl (.cons .here (.cons .here .nil)) (fun m' hm he => letR (hr.mono hm) hb hkn hev a1 ha1) rfl ?_ ?_) rfl
        · rintro v L' ⟨j, hk, rfl⟩
          refine QS_then_pan ?_
          exact QS_endP (Le.refl _) [_, _, _] (Pick.app (Pick.refl _)) ⟨⟨rfl, rfl, rfl, trivial⟩, j, _, by rw [hpr, hk]; rfl, rfl, rfl⟩
        rintro v L' ⟨x, a2, cs, e, hx, ha2, rfl, rfl, hlt⟩
        try dsimp only [curR]
        by_cases hend : a2 < b.length
        · refine VS_nil ?_
          refine QS_then ?_
          refine TS_seq ?_
          refine TS_seq ?_
          refine TS_region ?_
          refine VS_pure (P_move rfl) rfl rfl rfl ?_
          refine VS_pure (P_nilCheck rfl) rfl rfl rfl ?_
          refine VS_pure (P_fieldAddr0 fo86_1 rfl) rfl rfl rfl ?_
          refine VS_read (S_loadB sg3 rfl (.here) rfl) rfl rfl rfl ?_
          refine VS_pure (P_move rfl) rfl rfl rfl ?_
          refine VS_pure (P_len il22 rfl) rfl rfl rfl ?_
          refine VS_pure (dt (P_lss rfl rfl) (by omega)) rfl rfl rfl ?_
          refine VS_nil ?_
          refine QS_then ?_
          refine TS_true rfl ?_
          refine TS_region ?_
          refine VS_pure (P_move rfl) rfl rfl rfl ?_
          refine VS_pure (P_nilCheck rfl) rfl rfl rfl ?_
          refine VS_pure (P_fieldAddr0 fo86_1 rfl) rfl rfl rfl ?_
          refine VS_read (S_loadB sg3 rfl (.here) rfl) rfl rfl rfl ?_
          refine VS_pure (P_build zl82 pl82 rfl rfl) rfl rfl rfl ?_
          refine VS_pure (P_mkIface ni82 us82 rfl) rfl rfl rfl ?_
          refine VS_step (kept := false) (S_panic rfl ?_) rfl
          refine QS_then_pan ?_
          exact QS_endP (Le.refl _) [_, _, _] (.cons (.there (.there (.there .here))) (.cons (.there (.there (.there .here))) (.cons (.there (.there (.there .here))) (.nil _)))) ⟨⟨rfl, rfl, rfl, trivial⟩, a2, _, by rw [hpr, hx]; show (if _ then _ else _) = _; rw [if_pos hend], rfl, rfl⟩
        · have hxr : rightP x = true := (pBody_right hkn hx).1
          refine VS_fact (p := ∃ m0 : Mp, LtA m0 cs x) (fun h hs => ⟨_, hlt _ (hs.get (.there (.there .here)))⟩) (fun hm0 => ?_)
          obtain ⟨m0, hm1⟩ := hm0
          have hm2 := hm1
          obtain ⟨vb, vc, vi, vp, ve, rfl, ⟨q1, q2, rfl, _⟩, ⟨q3, q4, rfl, _⟩, ⟨q5, q6, rfl, _⟩, ⟨q7, q8, rfl, _⟩, ⟨q9, q10, rfl, _⟩, _⟩ := hm2
          refine VS_nil ?_
          refine QS_then ?_
          refine TS_seq ?_
          refine TS_seq ?_
          refine TS_region ?_
          refine VS_pure (P_move rfl) rfl rfl rfl ?_
          refine VS_pure (P_nilCheck rfl) rfl rfl rfl ?_
          refine VS_pure (P_fieldAddr0 fo86_1 rfl) rfl rfl rfl ?_
          refine VS_read (S_loadB sg3 rfl (.here) rfl) rfl rfl rfl ?_
          refine VS_pure (P_move rfl) rfl rfl rfl ?_
          refine VS_pure (P_len il22 rfl) rfl rfl rfl ?_
          refine VS_pure (df (P_lss rfl rfl) (by omega)) rfl rfl rfl ?_
          refine VS_nil ?_
          refine QS_then ?_
          refine TS_false rfl ?_
          refine TS_skip ?_
          refine QS_then ?_
          refine TS_seq ?_
          refine TS_region ?_
          refine VS_read (S_loadBA ag32 rfl (.there (.here)) rfl) rfl rfl rfl ?_
          refine VS_step ((S_call cl9 rfl (fun m' hm he => Of_ok (hlt m' (HE0 (HE1 (HE1 he))))) rfl ?_)) rfl
          rintro _ _ ⟨rfl, ⟨_, w2, hw2, rfl⟩ | ⟨hf, rfl⟩⟩
          · obtain ⟨T, val, f, rfl, _⟩ := Kind_ok (hw2 m0 hm1)
            refine VS_pure (P_move rfl) rfl rfl rfl ?_
            refine VS_pure (P_extract rfl rfl) rfl rfl rfl ?_
            refine VS_pure (P_extract rfl rfl) rfl rfl rfl ?_
            refine VS_step (S_store co36 rfl rfl rfl (.there (.there (.there (.there (.there (.here)))))) (.here) ?_) rfl
            refine VS_step (S_store co29 rfl rfl rfl (.there (.there (.there (.here)))) (.here) ?_) rfl
            refine VS_nil ?_
            refine QS_then ?_
            refine TS_seq ?_
            refine TS_calm ?_
            skip
            refine TS_draw (.step 0 .read (.fork (.step 1 .kept (.step 2 .wild (.step 3 .wild (.step 4 .wild (.done))))) (.step 2 .wild (.fork (.step 1 .kept (.step 3 .wild (.step 4 .wild (.done)))) (.step 3 .wild (.step 1 .read (.step 4 .wild (.done)))))))) mixed (by kernel_rfl) (fun _ _ _ _ hq => hq) ?_
            refine VTS_read rfl (S_loadB sg36 rfl (.there (.there (.there (.there (.there (.here)))))) rfl) rfl rfl rfl ?_
            refine VTS_fork ?_ ?_
            refine VTS_readK rfl (S_loadB sg29 rfl (.there (.there (.there (.here)))) rfl) rfl rfl rfl ?_
            refine VTS_wild rfl rfl (S_store co36 rfl rfl rfl (.there (.there (.there (.there (.there (.here)))))) (.here) ?_) rfl
            refine VTS_wild rfl rfl (S_store co3 rfl rfl rfl (.there (.there (.there (.there (.here))))) (.here) ?_) rfl
            refine VTS_wild rfl rfl (S_store co29 rfl rfl rfl (.there (.there (.there (.here)))) (.here) ?_) rfl
            refine VTS_nil ?_
            · refine QS_calm ?_
              refine QS_then ?_
              refine TS_ret ?_
              exact QS_end (Le.refl _) [_, _, _, _] (.cons (.there (.there (.there .here))) (.cons (.there (.there (.there .here))) (.cons (.there (.there (.there .here))) (.cons (.there (.there .here)) (.nil _))))) ⟨⟨rfl, rfl, rfl, trivial⟩, x, a2, _, e, by rw [hpr, hx]; show (if _ then _ else _) = _; rw [if_neg hend], rfl, fun ns hi => hw2 ns (hlt ns hi)⟩
            · refine VTS_wild rfl rfl (S_store co36 rfl rfl rfl (.there (.there (.there (.there (.there (.here)))))) (.here) ?_) rfl
              refine VTS_fork ?_ ?_
              refine VTS_readK rfl (S_loadB sg29 rfl (.there (.there (.there (.here)))) rfl) rfl rfl rfl ?_
              refine VTS_wild rfl rfl (S_store co3 rfl rfl rfl (.there (.there (.there (.there (.here))))) (.here) ?_) rfl
              refine VTS_wild rfl rfl (S_store co29 rfl rfl rfl (.there (.there (.there (.here)))) (.here) ?_) rfl
              refine VTS_nil ?_
              · refine QS_calm ?_
                refine QS_then ?_
                refine TS_ret ?_
                exact QS_end (Le.refl _) [_, _, _, _] (.cons (.there (.there (.there .here))) (.cons (.there (.there (.there .here))) (.cons (.there (.there (.there .here))) (.cons (.there (.there .here)) (.nil _))))) ⟨⟨rfl, rfl, rfl, trivial⟩, x, a2, _, e, by rw [hpr, hx]; show (if _ then _ else _) = _; rw [if_neg hend], rfl, fun ns hi => hw2 ns (hlt ns hi)⟩
              · refine VTS_wild rfl rfl (S_store co3 rfl rfl rfl (.there (.there (.there (.there (.here))))) (.here) ?_) rfl
                refine VTS_read rfl (S_loadB sg29 rfl (.there (.there (.there (.here)))) rfl) rfl rfl rfl ?_
                refine VTS_wild rfl rfl (S_store co29 rfl rfl rfl (.there (.there (.there (.here)))) (.here) ?_) rfl
                refine VTS_nil ?_
                · refine QS_calm ?_
                  refine QS_then ?_
                  refine TS_ret ?_
                  exact QS_end (Le.refl _) [_, _, _, _] (.cons (.there (.there (.there .here))) (.cons (.there (.there (.there .here))) (.cons (.there (.there (.there .here))) (.cons (.there (.there .here)) (.nil _))))) ⟨⟨rfl, rfl, rfl, trivial⟩, x, a2, _, e, by rw [hpr, hx]; show (if _ then _ else _) = _; rw [if_neg hend], rfl, fun ns hi => hw2 ns (hlt ns hi)⟩
          · rw [hxr] at hf; cases hf
      · rw [if_neg (by rw [← right0, hrt]; decide)] at hpr
        refine VS_pure (P_move rfl) rfl rfl rfl ?_
        refine VS_pure (P_extract rfl rfl) rfl rfl rfl ?_
        refine VS_pure (P_extract rfl rfl) rfl rfl rfl ?_
        refine VS_pure (P_assign rfl) rfl rfl rfl ?_
        refine VS_step (S_store co29 rfl rfl rfl (.there (.there (.here))) (.here) ?_) rfl
        refine VS_nil ?_
        refine QS_then ?_
        refine TS_seq ?_
        refine TS_seq ?_
        refine TS_region ?_
        refine VS_read (S_loadB sg29 rfl (.there (.there (.here))) rfl) rfl rfl rfl ?_
        refine VS_pure (dt (P_neq rfl rfl) (by omega)) rfl rfl rfl ?_
        refine VS_nil ?_
        refine QS_then ?_
        refine TS_true rfl ?_
        refine TS_region ?_
        refine VS_pure (P_build zl82 pl82 rfl rfl) rfl rfl rfl ?_
        refine VS_pure (P_mkIface ni82 us82 rfl) rfl rfl rfl ?_
        refine VS_step (kept := false) (S_panic rfl ?_) rfl
        refine QS_then_pan ?_
        exact QS_endP (Le.refl _) [_, _, _] (.cons (.there (.there .here)) (.cons (.there (.there .here)) (.cons (.there (.there .here)) (.nil _)))) ⟨⟨rfl, rfl, rfl, trivial⟩, 0, _, hpr, rfl, rfl⟩
    · rintro e env' h' d' a' hq hag'
      have hdf : a'.defers = [dfr (.func 33) [.pointer (some ⟨b2, 0, none⟩), .pointer (some ⟨b3, 0, none⟩), .pointer (some ⟨b4, 0, none⟩)]] := hag'.defers
      have good : ∀ L', (Sub [(2, .pointer (some ⟨b2, 0, none⟩)), (3, .pointer (some ⟨b3, 0, none⟩)), (4, .pointer (some ⟨b4, 0, none⟩))] env' ∧ ∃ x a w e, pRead b = .ok x a ∧ L' = [cel b4 [.int .i64 0] 29, cel b3 [.int .i64 0] 3, cel b2 [w] 36, e] ∧ ∀ ns, e.inv ns → MsgR ns w x) →
          ∀ h2 d2, HS m L' h2 → ∃ vs, RvsOk Try.prog env' h2 [.cell 2 36, .cell 3 3, .cell 4 29] vs ∧ ∃ v h' d', Ending.returned (tup vs) = .returned v ∧ W x0 h2 d2 = W x0 h' d' ∧ postS m (ReadPost (pRead b)) v h' := by
        rintro L' ⟨hsub, x, a, w, e, hx, rfl, he⟩ h2 d2 hh
        exact ⟨[_, _, _], RvsS.ok hh ⟨⟨_, _, _, _, hsub.1, .there (.there .here), .inl ⟨sg36, rfl⟩⟩, ⟨_, _, _, _, hsub.2.1, .there .here, .inl ⟨sg3, rfl⟩⟩, ⟨_, _, _, _, hsub.2.2.1, .here, .inl ⟨sg29, rfl⟩⟩, trivial⟩, _, h2, d2, rfl, rfl, _, .inl ⟨x, a, w, e, hx, rfl, rfl, he⟩, hh.tail.tail.tail⟩
      have bad : ∀ k : Nat, Sub [(2, .pointer (some ⟨b2, 0, none⟩)), (3, .pointer (some ⟨b3, 0, none⟩)), (4, .pointer (some ⟨b4, 0, none⟩))] env' → pRead b = .bad k → ∀ h2 d2, HS m [cel b4 [.int .i64 80] 29, cel b3 [.int .i64 (k : Nat)] 3, cel b2 [.nilIface] 36] h2 → ∃ vs, RvsOk Try.prog env' h2 [.cell 2 36, .cell 3 3, .cell 4 29] vs ∧ ∃ v h' d', Ending.returned (tup vs) = .returned v ∧ W x0 h2 d2 = W x0 h' d' ∧ postS m (ReadPost (pRead b)) v h' := by
        rintro k hsub hx h2 d2 hh
        exact ⟨[_, _, _], RvsS.ok hh ⟨⟨_, _, _, _, hsub.1, .there (.there .here), .inl ⟨sg36, rfl⟩⟩, ⟨_, _, _, _, hsub.2.1, .there .here, .inl ⟨sg3, rfl⟩⟩, ⟨_, _, _, _, hsub.2.2.1, .here, .inl ⟨sg29, rfl⟩⟩, trivial⟩, _, h2, d2, rfl, rfl, _, .inr ⟨k, hx, rfl, rfl⟩, hh.tail.tail.tail⟩
      cases e with
      | normal =>
        obtain ⟨L', hp, hh⟩ := hq
        show Leaves _ _ _ _ a'.defers _ _
        rw [hdf]
        exact leaves_one (post := fun _ L2 => L2 = L') (rs := [.cell 2 36, .cell 3 3, .cell 4 29]) rfl (by kernel_rfl) (by simp) rfl (D33_ret hh) hag'.toAg (fun h2 d2 L2 e hs2 => by subst e; exact good _ hp h2 d2 hs2)
      | ret =>
        obtain ⟨L', hp, hh⟩ := hq
        show Leaves _ _ _ _ a'.defers _ _
        rw [hdf]
        exact leaves_one (post := fun _ L2 => L2 = L') (rs := [.cell 2 36, .cell 3 3, .cell 4 29]) rfl (by kernel_rfl) (by simp) rfl (D33_ret hh) hag'.toAg (fun h2 d2 L2 e hs2 => by subst e; exact good _ hp h2 d2 hs2)
      | panic c =>
        obtain ⟨v', L', rfl, ⟨hsub, k, v4, hk, hv, rfl⟩, hh⟩ := hq
        show Leaves _ _ _ _ a'.defers _ _
        rw [hdf]
        exact leaves_one (post := fun _ L2 => L2 = [cel b4 [.int .i64 80] 29, cel b3 [.int .i64 (k : Nat)] 3, cel b2 [.nilIface] 36]) (rs := [.cell 2 36, .cell 3 3, .cell 4 29]) rfl (by kernel_rfl) (by simp) rfl (D33_pan (L := []) hv hh) hag'.toAg (fun h2 d2 L2 e hs2 => by subst e; exact bad k hsub hk h2 d2 hs2)
      | exit i => exact hq.elim
      | goto i => exact hq.elim
      | outgrown => exact hq.elim
end Go.Proofs.Ytbpihgphicmdiaa
