/- A part of the proof: contracts of functions of the program. No condition. -/
import Derived.Test.YtbpihgphicmdiaaWiN
namespace Go.Proofs.Ytbpihgphicmdiaa
open Go.Eng Wi
set_option maxRecDepth 100000
theorem D22_ret {m : Mp} {L : List Ent} {b2 b3 : Nat} {x : Fx} {h : Heap} {d : Nat} (hs : HS m L h) :
    CallsD Try.prog 22 [.pointer (some ⟨b2, 0, none⟩), .pointer (some ⟨b3, 0, none⟩)].toArray .returning (W x h d) fun e u2 w' => e = .returned (.tuple #[]) ∧ u2 = .returning ∧ ∃ h' d' L', w' = W x h' d' ∧ (L' = L) ∧ HS m L' h' := by
  refine CD_of (post := fun _ L' => L' = L) Try.func22 rfl rfl rfl rfl .ret ?_ hs
  refine VS_pure (P_assertNil ni82 us82 rfl Try.zeroValue82) rfl rfl rfl ?_
  refine VS_pure (P_move rfl) rfl rfl rfl ?_
  refine VS_pure (P_extract rfl rfl) rfl rfl rfl ?_
  refine VS_pure (P_extract rfl rfl) rfl rfl rfl ?_
  refine VS_step (S_alloc zl82 rfl (fun b1 => ?_)) rfl
  refine VS_step (S_storeAgg ag82 rfl rfl rfl (.here) rfl rfl ?_) rfl
  refine VS_pure (P_assign rfl) rfl rfl rfl ?_
  refine VS_nil ?_
  refine QS_then ?_
  refine TS_seq ?_
  refine TS_region ?_
  refine VS_pure (P_move rfl) rfl rfl rfl ?_
  refine VS_nil ?_
  refine QS_then ?_
  refine TS_false rfl ?_
  refine TS_skip ?_
  exact QS_retN [] trivial L Pick.drop rfl
theorem D22_pan {m : Mp} {b2 b3 : Nat} {v2 v3 v : Value} {x : Fx} {h : Heap} {d : Nat} {at_ : Nat} (hv : v = wrongV at_) (hs : HS m [cel b3 [v3] 29, cel b2 [v2] 22] h) :
    CallsD Try.prog 22 [.pointer (some ⟨b2, 0, none⟩), .pointer (some ⟨b3, 0, none⟩)].toArray (.panicking (pan v)) (W x h d) fun e u2 w' => e = .returned (.tuple #[]) ∧ u2 = .panicking [{ v := v, recovered := true }] ∧ ∃ h' d' L', w' = W x h' d' ∧ (L' = [cel b3 [.int .i64 2] 29, cel b2 [.slice none 0 0] 22]) ∧ HS m L' h' := by
  subst hv
  refine CD_of (post := fun _ L' => L' = [cel b3 [.int .i64 2] 29, cel b2 [.slice none 0 0] 22]) Try.func22 rfl rfl rfl rfl (.pan _ _) ?_ hs
  unfold wrongV
  refine VS_pure (P_assertYes ni82 us82 rfl) rfl rfl rfl ?_
  refine VS_pure (P_move rfl) rfl rfl rfl ?_
  refine VS_pure (P_extract rfl rfl) rfl rfl rfl ?_
  refine VS_pure (P_extract rfl rfl) rfl rfl rfl ?_
  refine VS_step (S_alloc zl82 rfl (fun b1 => ?_)) rfl
  refine VS_step (S_storeAgg ag82 rfl rfl rfl (.here) rfl rfl ?_) rfl
  refine VS_pure (P_assign rfl) rfl rfl rfl ?_
  refine VS_nil ?_
  refine QS_then ?_
  refine TS_seq ?_
  refine TS_region ?_
  refine VS_pure (P_move rfl) rfl rfl rfl ?_
  refine VS_nil ?_
  refine QS_then ?_
  refine TS_true rfl ?_
  refine TS_region ?_
  refine VS_step (S_store co22 rfl rfl rfl (.there (.there (.here))) (.here) ?_) rfl
  refine VS_step (S_store co29 rfl rfl rfl (.there (.here)) (.here) ?_) rfl
  refine VS_nil ?_
  exact QS_retN [] trivial [_, _] Pick.drop rfl
def eAll (x : Ltr) : Option (List UInt8) := (eBody x).map fun e => ub x.kind :: e
/-- what Bytes writes -/
def encX (x : Ltr) : Option (List UInt8) := (eAll x).bind fun e => if e.length ≤ 4096 then some e else none
def BytesPost (r : Option (List UInt8)) (v : Value) (L' : List Ent) : Prop :=
  (∃ (e : List UInt8) (A : Option Addr) (c : Nat), r = some e ∧ v = .tuple [.slice A e.length c, .int .i64 0].toArray ∧ L' = [own 5 1 A e.length c (e.map byteV)]) ∨ (r = none ∧ v = .tuple [.slice none 0 0, .int .i64 2].toArray ∧ L' = [])
theorem enc_none {x : Ltr} (h : eBody x = none) : encX x = none := by simp [encX, eAll, h]
theorem enc_some {x : Ltr} {e : List UInt8} (h : eBody x = some e) (hl : (ub x.kind :: e).length ≤ 4096) : encX x = some (ub x.kind :: e) := by simp only [encX, eAll, h, Option.map_some, Option.bind_some, if_pos hl]
theorem enc_long {x : Ltr} {e : List UInt8} (h : eBody x = some e) (hl : ¬ (ub x.kind :: e).length ≤ 4096) : encX x = none := by simp only [encX, eAll, h, Option.map_some, Option.bind_some, if_neg hl]
theorem uni_le {m n1 n2 : Mp} : Le m (uni (uni m n1) n2) := (uni_l m n1).trans (uni_l _ n2)
set_option maxHeartbeats 8000000 in
theorem Bytes_ok {m : Mp} {v : Value} {x : Ltr} (hx : MsgR m v x) (hbd : x.evs.length ≤ 100000) : CS Try.prog 12 [v] m [] (BytesPost (encX x)) := by
  intro h hs0 x0 d0
  refine calls_of_wp_defers Try.func12 rfl ?_
  refine at_W (x := ⟨x0.tape, x0.os, x0.out, []⟩) (h := h) (d := d0) rfl (fun a hag => ?_) (agD0 (by show 1 ≤ 36; decide))
  obtain ⟨lx, hlx, hrt, hv1, hv64, hflat⟩ := Flat_ok hx
  have hlxc := hlx
  obtain ⟨vb, vc, vi, vp, ve, rfl, xb, xc, xi, xp, xe, xr⟩ := hlxc
  have xb2 := xb
  have xc2 := xc
  have xi2 := xi
  have xp2 := xp
  have xe2 := xe
  obtain ⟨a1, d1, rfl, _⟩ := xb2
  obtain ⟨a2, d2, rfl, _⟩ := xc2
  obtain ⟨a3, d3, rfl, _⟩ := xi2
  obtain ⟨a4, d4, rfl, _⟩ := xp2
  obtain ⟨a5, d5, rfl, _⟩ := xe2
  have hkn : known x.kind = true := by
    cases hk : known x.kind with
    | true => rfl
    | false => rw [rightP, hk] at hrt; cases hrt
  refine wp_seq_T (m := m) (L := []) (K := fun env' L' => ∃ b2 b3, L' = [cel b3 [.int .i64 0] 29, cel b2 [.slice none 0 0] 22] ∧ Sub [(0, v), (2, .pointer (some ⟨b2, 0, none⟩)), (3, .pointer (some ⟨b3, 0, none⟩))] env') ?_ hs0 hag ?_
  · refine TS_region ?_
    refine VS_step (S_alloc zl22 rfl (fun b1 => ?_)) rfl
    refine VS_step (S_alloc zl29 rfl (fun b2 => ?_)) rfl
    refine VS_nil ?_
    exact QS_mid _ (Pick.refl _) ⟨b1, b2, rfl, rfl, rfl, rfl, trivial⟩
  rintro env1 _ h1 d1' a1' ⟨b2, b3, rfl, hsub⟩ hs1 hag1
  have hag1 := hag1.sub hsub
  refine wp_seq_T (m := m) (K := fun env' L' => ∃ b4, L' = [cel b4 [.int .u8 x.kind, iV x.table, sV x.text, .slice a1 x.bytes.length d1, .slice a2 x.cards.length d2, .int .i8 x.act.op, iV x.act.side, iV x.act.place, iV x.act.target, .slice a3 x.act.ids.length d3, .slice a4 x.act.pairs.length d4, .int .u8 x.to_, iV x.e, .slice a5 x.evs.length d5] 32, cel b3 [.int .i64 0] 29, cel b2 [.slice none 0 0] 22] ∧ Sub [(0, v), (2, .pointer (some ⟨b2, 0, none⟩)), (3, .pointer (some ⟨b3, 0, none⟩)), (4, .pointer (some ⟨b4, 0, none⟩))] env') ?_ hs1 hag1 ?_
  · refine TS_region ?_
    refine VS_pure (P_move rfl) rfl rfl rfl ?_
    refine VS_step ((S_call cl11 rfl (fun m' hm he => hflat m') rfl ?_)) rfl
    rintro _ _ ⟨rfl, rfl⟩
    refine VS_pure (P_move rfl) rfl rfl rfl ?_
    refine VS_pure (P_extract rfl rfl) rfl rfl rfl ?_
    refine VS_pure (P_extract rfl rfl) rfl rfl rfl ?_
    refine VS_step (S_alloc zl32 rfl (fun b1 => ?_)) rfl
    refine VS_step (S_storeAgg ag32 rfl rfl rfl (.here) rfl rfl ?_) rfl
    refine VS_step (S_store co29 rfl rfl rfl (.there (.here)) (.here) ?_) rfl
    refine VS_nil ?_
    exact QS_mid _ (Pick.refl _) ⟨b1, rfl, rfl, rfl, rfl, rfl, trivial⟩
  rintro env2 _ h2 d2' a2' ⟨b4, rfl, hsub⟩ hs2 hag2
  have hag2 := hag2.sub hsub
  refine wp_seq_T (m := m) (K := fun env' L' => L' = [cel b4 [.int .u8 x.kind, iV x.table, sV x.text, .slice a1 x.bytes.length d1, .slice a2 x.cards.length d2, .int .i8 x.act.op, iV x.act.side, iV x.act.place, iV x.act.target, .slice a3 x.act.ids.length d3, .slice a4 x.act.pairs.length d4, .int .u8 x.to_, iV x.e, .slice a5 x.evs.length d5] 32, cel b3 [.int .i64 0] 29, cel b2 [.slice none 0 0] 22] ∧ Sub [(0, v), (2, .pointer (some ⟨b2, 0, none⟩)), (3, .pointer (some ⟨b3, 0, none⟩)), (4, .pointer (some ⟨b4, 0, none⟩))] env') ?_ hs2 hag2 ?_
  · refine TS_seq ?_
    refine TS_region ?_
    refine VS_read (S_loadB sg29 rfl (.there (.here)) rfl) rfl rfl rfl ?_
    refine VS_pure (df (P_neq rfl rfl) (by omega)) rfl rfl rfl ?_
    refine VS_nil ?_
    refine QS_then ?_
    refine TS_false rfl ?_
    refine TS_skip ?_
    exact QS_mid _ (Pick.refl _) ⟨rfl, rfl, rfl, rfl, rfl, trivial⟩
  rintro env3 _ h3 d3' a3' ⟨rfl, hsub⟩ hs3 hag3
  have hag3 := hag3.sub hsub
  refine wp_seq ?_
  refine wp_defer rfl rfl hag3 fun a4' hag4 => ?_
  refine wp_TQ (x := ⟨x0.tape, x0.os, x0.out, [dfr (.func 22) [.pointer (some ⟨b2, 0, none⟩), .pointer (some ⟨b3, 0, none⟩)]]⟩) (Qr := endQ m (fun env L' => Sub [(2, .pointer (some ⟨b2, 0, none⟩)), (3, .pointer (some ⟨b3, 0, none⟩))] env ∧ ((∃ (e : List UInt8) (A : Option Addr) (c : Nat), encX x = some e ∧ L' = [cel b3 [.int .i64 0] 29, cel b2 [.slice A e.length c] 22, own 5 1 A e.length c (e.map byteV)]) ∨ (encX x = none ∧ L' = [cel b3 [.int .i64 2] 29, cel b2 [.slice none 0 0] 22])))
    (fun env v L' => Sub [(2, .pointer (some ⟨b2, 0, none⟩)), (3, .pointer (some ⟨b3, 0, none⟩))] env ∧ encX x = none ∧ (∃ at_, v = wrongV at_) ∧ L' = [cel b3 [.int .i64 0] 29, cel b2 [.slice none 0 0] 22])) ?_ hs3 hag4 ?_
  · refine TS_seq ?_
    refine TS_region ?_
    refine VS_pure (P_build zl86 pl86 rfl rfl) rfl rfl rfl ?_
    refine VS_step (S_box rfl rfl (fun b1 => ?_)) rfl
    refine VS_pure (P_assign rfl) rfl rfl rfl ?_
    refine VS_nil ?_
    refine QS_then ?_
    refine TS_seq ?_
    refine TS_region ?_
    refine VS_read (S_loadBA ag32 rfl (.there (.here)) rfl) rfl rfl rfl ?_
    refine VS_step ((S_call cl23 rfl (fun m' hm he => copied_ok hlx hm hbd) rfl ?_)) rfl
    rintro _ _ ⟨A1, c1, cells, rfl, rfl, hev⟩
    refine VS_step (S_alloc zl32 rfl (fun b5 => ?_)) rfl
    refine VS_step (S_storeAgg ag32 rfl rfl rfl (.here) rfl rfl ?_) rfl
    refine VS_nil ?_
    refine QS_then ?_
    refine TS_seq ?_
    refine TS_absorb .here (fun ns1 hi1 _ hd1 => ?_)
    refine TS_absorb .here (fun ns2 hi2 _ hd2 => ?_)
    have hle : Le m (uni (uni m ns1) ns2) := uni_le
    have hw : ∀ k c, vnth [.int .u8 x.kind, iV x.table, sV x.text, .slice a1 x.bytes.length d1, .slice a2 x.cards.length d2, .int .i8 x.act.op, iV x.act.side, iV x.act.place, iV x.act.target, .slice a3 x.act.ids.length d3, .slice a4 x.act.pairs.length d4, .int .u8 x.to_, iV x.e, .slice A1 x.evs.length c1] k = some c → Wc (uni (uni m ns1) ns2) ((⟨b5, 0, none⟩ : Addr).add k) c := fun k c hc => by
      rw [Addr.add_lit, Nat.zero_add]
      exact (Wc.cel (e := 32) hi1 hc).mono ((uni_r hd1).trans (uni_l _ _))
    have hev2 := hev (uni (uni m ns1) ns2) hle (Eng.Own.mono hi2 (uni_r hd2))
    obtain ⟨r1, r2, r3, r4, ⟨r5, r6, r7, r8⟩, r9, r10⟩ := xr
    have hact : ActE (uni (uni m ns1) ns2) ((⟨b5, 0, none⟩ : Addr).add 5) x.act := ⟨_, _, by rw [add_add]; exact hw 5 _ rfl, by rw [add_add]; exact hw 6 _ rfl, by rw [add_add]; exact hw 7 _ rfl, by rw [add_add]; exact hw 8 _ rfl, by rw [add_add]; exact hw 9 _ rfl, by rw [add_add]; exact hw 10 _ rfl, xi.mono hle, xp.mono hle, r5, r6, r7, r8⟩
    have hlet : LetE (uni (uni m ns1) ns2) v ⟨b5, 0, none⟩ x := ⟨_, _, _, hw 0 _ rfl, hw 1 _ rfl, hw 2 _ rfl, hw 3 _ rfl, hw 4 _ rfl, hact, hw 11 _ rfl, hw 12 _ rfl, hw 13 _ rfl, xb.mono hle, xc.mono hle, hev2, r2, r10, r9, r1, r3, r4,
      (fun hk => by obtain ⟨vb, h3, e⟩ := hv1 hk; cases h3; exact e), hv64⟩
    have hw0 : Wc (uni (uni m ns1) ns2) ⟨b5, 0, none⟩ (byteV (ub x.kind)) := Wc.u8 (hw 0 _ rfl) r1
    refine TS_region ?_
    refine VS_pure (P_move rfl) rfl rfl rfl ?_
    refine VS_pure (P_fieldAddr0 fo32_0 rfl) rfl rfl rfl ?_
    refine VS_nilOwn 5 1 ?_
    refine VS_step ((S_callL cl24 rfl (.cons (.there .here) (.cons .here .nil)) (fun m' hm he => byteW (A := none) (c := 0) (out := []) (b := ub x.kind) (hw0.mono hm) (by decide)) rfl ?_)) rfl
    rintro _ _ ⟨rfl, A2, c2, rfl⟩
    unfold curE
    refine VS_nil ?_
    refine QS_then ?_
    refine TS_seq ?_
    refine TS_region ?_
    refine VS_pure (P_move rfl) rfl rfl rfl ?_
    refine VS_pure (P_move rfl) rfl rfl rfl ?_
    refine VS_step (S_callP cl25 rfl (.cons .here (.cons .here .nil)) (fun m' hm he => (letC (LetE.mono hlet hm) hkn) A2 c2 ([] ++ [ub x.kind]) (by simp)) rfl ?_ ?_) rfl
    · rintro v' L' ⟨hn1, at_, rfl⟩
      refine QS_then_pan ?_
      exact QS_endP hle [_, _] (Pick.app (.cons (.there .here) (.cons (.there .here) (.nil _)))) ⟨⟨rfl, rfl, trivial⟩, enc_none hn1, ⟨at_, rfl⟩, rfl⟩
    rintro v' L' ⟨e1, hs1, rfl, A3, c3, rfl⟩
    unfold curE
    by_cases hlen : (ub x.kind :: e1).length ≤ 4096
    · have hlen2 : ([] ++ [ub x.kind] ++ e1).length ≤ 4096 := hlen
      refine VS_nil ?_
      refine QS_then ?_
      refine TS_seq ?_
      refine TS_seq ?_
      refine TS_region ?_
      refine VS_pure (P_move rfl) rfl rfl rfl ?_
      refine VS_pure (P_nilCheck rfl) rfl rfl rfl ?_
      refine VS_pure (P_fieldAddr0 fo86_0 rfl) rfl rfl rfl ?_
      refine VS_read (S_loadB sg22 rfl (.here) rfl) rfl rfl rfl ?_
      refine VS_pure (P_len il22 rfl) rfl rfl rfl ?_
      refine VS_pure (df (P_gtr rfl rfl) (by omega)) rfl rfl rfl ?_
      refine VS_nil ?_
      refine QS_then ?_
      refine TS_false rfl ?_
      refine TS_skip ?_
      refine QS_then ?_
      refine TS_seq ?_
      refine TS_region ?_
      refine VS_pure (P_move rfl) rfl rfl rfl ?_
      refine VS_pure (P_nilCheck rfl) rfl rfl rfl ?_
      refine VS_pure (P_fieldAddr0 fo86_0 rfl) rfl rfl rfl ?_
      refine VS_read (S_loadB sg22 rfl (.here) rfl) rfl rfl rfl ?_
      refine VS_step (S_store co22 rfl rfl rfl (.there (.there (.there (.there (.here))))) (.here) ?_) rfl
      refine VS_step (S_store co29 rfl rfl rfl (.there (.there (.there (.here)))) (.here) ?_) rfl
      refine VS_nil ?_
      refine QS_then ?_
      refine TS_ret ?_
      exact QS_end hle [_, _, _] (.cons (.there (.there (.there .here))) (.cons (.there (.there (.there .here))) (.cons (.there .here) (.nil _)))) ⟨⟨rfl, rfl, trivial⟩, .inl ⟨_, A3, c3, enc_some hs1 hlen, rfl⟩⟩
    · have hlen2 : ¬ ([] ++ [ub x.kind] ++ e1).length ≤ 4096 := hlen
      refine VS_nil ?_
      refine QS_then ?_
      refine TS_seq ?_
      refine TS_seq ?_
      refine TS_region ?_
      refine VS_pure (P_move rfl) rfl rfl rfl ?_
      refine VS_pure (P_nilCheck rfl) rfl rfl rfl ?_
      refine VS_pure (P_fieldAddr0 fo86_0 rfl) rfl rfl rfl ?_
      refine VS_read (S_loadB sg22 rfl (.here) rfl) rfl rfl rfl ?_
      refine VS_pure (P_len il22 rfl) rfl rfl rfl ?_
      refine VS_pure (dt (P_gtr rfl rfl) (by omega)) rfl rfl rfl ?_
      refine VS_nil ?_
      refine QS_then ?_
      refine TS_true rfl ?_
      refine TS_seq ?_
      refine TS_region ?_
      refine VS_step (S_store co22 rfl rfl rfl (.there (.there (.there (.there (.here))))) (.here) ?_) rfl
      refine VS_step (S_store co29 rfl rfl rfl (.there (.there (.there (.here)))) (.here) ?_) rfl
      refine VS_nil ?_
      refine QS_then ?_
      refine TS_ret ?_
      refine QS_then_ret ?_
      exact QS_end hle [_, _] (.cons (.there (.there (.there .here))) (.cons (.there (.there (.there .here))) (.nil _))) ⟨⟨rfl, rfl, trivial⟩, .inr ⟨enc_long hs1 hlen, rfl⟩⟩
  · rintro e env' h' d' a' hq hag'
    have hdf : a'.defers = [dfr (.func 22) [.pointer (some ⟨b2, 0, none⟩), .pointer (some ⟨b3, 0, none⟩)]] := hag'.defers
    have good : ∀ L', (Sub [(2, .pointer (some ⟨b2, 0, none⟩)), (3, .pointer (some ⟨b3, 0, none⟩))] env' ∧ ((∃ (e : List UInt8) (A : Option Addr) (c : Nat), encX x = some e ∧ L' = [cel b3 [.int .i64 0] 29, cel b2 [.slice A e.length c] 22, own 5 1 A e.length c (e.map byteV)]) ∨ (encX x = none ∧ L' = [cel b3 [.int .i64 2] 29, cel b2 [.slice none 0 0] 22]))) →
        ∀ h2 d2, HS m L' h2 → ∃ vs, RvsOk Try.prog env' h2 [.cell 2 22, .cell 3 29] vs ∧ ∃ v h' d', Ending.returned (tup vs) = .returned v ∧ W x0 h2 d2 = W x0 h' d' ∧ postS m (BytesPost (encX x)) v h' := by
      rintro L' ⟨hsub, ⟨e, A, c, he, rfl⟩ | ⟨he, rfl⟩⟩ h2 d2 hh
      · exact ⟨[_, _], RvsS.ok hh ⟨⟨_, _, _, _, hsub.1, .there .here, .inl ⟨sg22, rfl⟩⟩, ⟨_, _, _, _, hsub.2.1, .here, .inl ⟨sg29, rfl⟩⟩, trivial⟩, _, h2, d2, rfl, rfl, _, .inl ⟨e, A, c, he, rfl, rfl⟩, hh.tail.tail⟩
      · exact ⟨[_, _], RvsS.ok hh ⟨⟨_, _, _, _, hsub.1, .there .here, .inl ⟨sg22, rfl⟩⟩, ⟨_, _, _, _, hsub.2.1, .here, .inl ⟨sg29, rfl⟩⟩, trivial⟩, _, h2, d2, rfl, rfl, _, .inr ⟨he, rfl, rfl⟩, hh.tail.tail⟩
    cases e with
    | normal =>
      obtain ⟨L', hp, hh⟩ := hq
      show Leaves _ _ _ _ a'.defers _ _
      rw [hdf]
      exact leaves_one (post := fun _ L2 => L2 = L') (rs := [.cell 2 22, .cell 3 29]) rfl (by kernel_rfl) (by simp) rfl (D22_ret hh) hag'.toAg (fun h2 d2 L2 e hs2 => by subst e; exact good _ hp h2 d2 hs2)
    | ret =>
      obtain ⟨L', hp, hh⟩ := hq
      show Leaves _ _ _ _ a'.defers _ _
      rw [hdf]
      exact leaves_one (post := fun _ L2 => L2 = L') (rs := [.cell 2 22, .cell 3 29]) rfl (by kernel_rfl) (by simp) rfl (D22_ret hh) hag'.toAg (fun h2 d2 L2 e hs2 => by subst e; exact good _ hp h2 d2 hs2)
    | panic c =>
      obtain ⟨v', L', rfl, ⟨hsub, hn, ⟨at_, hv⟩, rfl⟩, hh⟩ := hq
      show Leaves _ _ _ _ a'.defers _ _
      rw [hdf]
      exact leaves_one (post := fun _ L2 => L2 = [cel b3 [.int .i64 2] 29, cel b2 [.slice none 0 0] 22]) (rs := [.cell 2 22, .cell 3 29]) rfl (by kernel_rfl) (by simp) rfl (D22_pan hv hh) hag'.toAg (fun h2 d2 L2 e hs2 => by subst e; exact good _ ⟨hsub, .inr ⟨hn, rfl⟩⟩ h2 d2 hs2)
    | exit i => exact hq.elim
    | goto i => exact hq.elim
    | outgrown => exact hq.elim
end Go.Proofs.Ytbpihgphicmdiaa
