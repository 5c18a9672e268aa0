/- A part of the proof: contracts of functions of the program. No condition. -/
import Derived.Test.YtbpihgphicmdiaaWiBd
import Derived.Test.YtbpihgphicmdiaaWiF
namespace Go.Proofs.Ytbpihgphicmdiaa
open Go.Eng Wi
set_option maxRecDepth 100000
/-- what has been read at the end was read well all along -/
theorem Stp.ok {α : Type} {p : Prs α} {b : List UInt8} {s : St} {x : α} {a : Nat} (h : Stp p b s x (.ok a)) : ∃ a0, s = .ok a0 ∧ p b a0 = .ok x a := by
  cases s with
  | ok a0 =>
    rcases h with ⟨a', h, e, _⟩ | ⟨k, a', h, e, _⟩
    · cases e; exact ⟨a0, rfl, h⟩
    · cases e
  | bad k a0 => cases h
/-- all but the end -/
def pHead : Prs Ltr := fun b a => (pByte b a).bind fun k a => if known (k.toNat : Int) = true then pBody (k.toNat : Int) b a else .bad 0
/-- behind the kind and the table -/
def pRest (k n : Int) : Prs Ltr := fun b a =>
  if k = 1 then (pText b a).bind fun t a1 => .ok ⟨1, 0, [], t, [], acn0, 0, 0, []⟩ a1 else
  if k = 64 then (pByte b a).bind fun t a1 => (pNum b a1).bind fun e a2 => .ok ⟨64, 0, [], [], [], acn0, (t.toNat : Int), e, []⟩ a2 else
  if k = 8 then .ok ⟨8, 0, [], [], [], acn0, 0, 0, []⟩ a else
  if k = 2 then (pText b a).bind fun t a2 => .ok ⟨2, n, t, [], [], acn0, 0, 0, []⟩ a2 else
  if k = 3 then (pMany 2 pText b a).bind fun t a2 => .ok ⟨3, n, [], [], t, acn0, 0, 0, []⟩ a2 else
  if k = 4 then (pAct b a).bind fun t a2 => .ok ⟨4, n, [], [], [], t, 0, 0, []⟩ a2 else
  if k = 65 ∨ k = 67 then (pText b a).bind fun t a2 => .ok ⟨k, n, [], t, [], acn0, 0, 0, []⟩ a2 else
  if k = 66 then (pMany 43 pEvt b a).bind fun t a2 => .ok ⟨66, n, [], [], [], acn0, 0, 0, t⟩ a2 else
  .ok ⟨k, n, [], [], [], acn0, 0, 0, []⟩ a
theorem pBody_0 {k : Int} (h : k = 1 ∨ k = 8 ∨ k = 64) (b : List UInt8) (a : Nat) : pBody k b a = pRest k 0 b a := by
  rcases h with rfl | rfl | rfl <;> rfl
theorem pBody_n {k : Int} (h : ¬(k = 1 ∨ k = 8 ∨ k = 64)) (b : List UInt8) (a : Nat) : pBody k b a = (pNum b a).bind fun n a1 => pRest k n b a1 := by
  have h1 : ¬ k = 1 := by omega
  have h2 : ¬ k = 64 := by omega
  have h3 : ¬ k = 8 := by omega
  unfold pBody pRest
  simp only [if_neg h1, if_neg h2, if_neg h3]
theorem pRest_z {k n : Int} (h1 : ¬k = 1) (h64 : ¬k = 64) (h8 : ¬k = 8) (h2 : ¬k = 2) (h3 : ¬k = 3) (h4 : ¬k = 4) (h65 : ¬k = 65) (h67 : ¬k = 67) (h66 : ¬k = 66) : pRest k n = fun _ a => .ok ⟨k, n, [], [], [], acn0, 0, 0, []⟩ a := by
  funext b a
  unfold pRest
  rw [if_neg h1, if_neg h64, if_neg h8, if_neg h2, if_neg h3, if_neg h4, if_neg (by omega), if_neg h66]
structure RdY where
  x : Ltr
  s : St
  cs : List Value
  e : Ent
def RefPost (r : Res Ltr) (v : Value) (L' : List Ent) : Prop :=
  (∃ x a cs e, r = .ok x a ∧ v = .tuple [.agg cs.toArray, .int .i64 0, .int .i64 0].toArray ∧ L' = [e] ∧ ∀ ns, e.inv ns → LtA ns cs x) ∨ (∃ k, r = .bad k ∧ v = .tuple [.agg (L0 0).toArray, .int .i64 (k : Nat), .int .i64 80].toArray ∧ L' = [])
theorem i64_num {b : List UInt8} {s : St} {n : Int} {a : Nat} (h : Stp pNum b s n (.ok a)) : I64 n := by
  obtain ⟨a0, _, h⟩ := h.ok
  exact pNum_I64 h
/-- what holds behind the table -/
def FC (b : List UInt8) (k : Int) (y : Int × St) : Prop := y.2.fits b ∧ (∀ a, y.2 = .ok a → I64 y.1) ∧ ((k = 1 ∨ k = 8 ∨ k = 64) → y.1 = 0) ∧ ∀ x s4, Stp (pRest k y.1) b y.2 x s4 → Stp pHead b (.ok 0) x s4
/-- what holds behind the letter -/
def FB (b : List UInt8) (y : RdY) : Prop := Stp pHead b (.ok 0) y.x y.s ∧ (∃ v0 v1 v2 v3 v4 v5 v6 v7 v8 v9 v10 v11 v12 v13, y.cs = [v0, v1, v2, v3, v4, v5, v6, v7, v8, v9, v10, v11, v12, v13]) ∧ ∀ a, y.s = .ok a → ∀ ns, y.e.inv ns → LtA ns y.cs y.x
set_option maxHeartbeats 16000000 in
theorem RefRead_ok {m : Mp} {A : Option Addr} {c : Nat} {b : List UInt8} (hr : Rd m A (b.map byteV)) (hb : b.length ≤ 1099511627776) (hc : b.length ≤ c) :
    CS Try.prog 18 [.slice A b.length c] m [] (RefPost (pRead b)) := by
  refine CS_of [.cell 2 32, .tmp 3, .tmp 4] Try.func18 rfl rfl rfl ?_
  by_cases hbig : 4096 < b.length
  · refine TS_seq ?_
    refine TS_region ?_
    refine VS_step (S_alloc zl32 rfl (fun b1 => ?_)) rfl
    refine VS_pure (P_assign rfl) rfl rfl rfl ?_
    refine VS_pure (P_assign rfl) rfl rfl rfl ?_
    refine VS_nil ?_
    refine QS_then ?_
    refine TS_seq ?_
    refine TS_seq ?_
    refine TS_region ?_
    refine VS_pure (P_move rfl) rfl rfl rfl ?_
    refine VS_pure (P_len il22 rfl) rfl rfl rfl ?_
    refine VS_pure (dt (P_gtr rfl rfl) (by omega)) rfl rfl rfl ?_
    refine VS_nil ?_
    refine QS_then ?_
    refine TS_true rfl ?_
    refine TS_seq ?_
    refine TS_region ?_
    refine VS_pure (P_build zl32 pl32 rfl rfl) rfl rfl rfl ?_
    refine VS_step (S_storeAgg ag32 rfl rfl rfl (.here) rfl rfl ?_) rfl
    refine VS_pure (P_assign rfl) rfl rfl rfl ?_
    refine VS_pure (P_assign rfl) rfl rfl rfl ?_
    refine VS_nil ?_
    refine QS_then ?_
    refine TS_ret ?_
    refine QS_then_ret ?_
    exact QS_ret [_, _, _] ⟨⟨_, _, _, _, rfl, .here, .inr ⟨ag32, rfl⟩⟩, rfl, rfl, trivial⟩ [] (Pick.nil _) (.inr ⟨0, by rw [pRead, if_pos hbig], rfl, rfl⟩)
  refine TS_seq ?_
  refine TS_region ?_
  refine VS_step (S_alloc zl32 rfl (fun b1 => ?_)) rfl
  refine VS_pure (P_assign rfl) rfl rfl rfl ?_
  refine VS_pure (P_assign rfl) rfl rfl rfl ?_
  refine VS_nil ?_
  refine QS_then ?_
  refine TS_seq ?_
  refine TS_seq ?_
  refine TS_region ?_
  refine VS_pure (P_move rfl) rfl rfl rfl ?_
  refine VS_pure (P_len il22 rfl) rfl rfl rfl ?_
  refine VS_pure (df (P_gtr rfl rfl) (by omega)) rfl rfl rfl ?_
  refine VS_nil ?_
  refine QS_then ?_
  refine TS_false rfl ?_
  refine TS_skip ?_
  refine QS_then ?_
  refine TS_seq ?_
  refine TS_region ?_
  refine VS_pure (P_move rfl) rfl rfl rfl ?_
  refine VS_pure (P_build zl103 pl103 rfl rfl) rfl rfl rfl ?_
  refine VS_step (S_box rfl rfl (fun b2 => ?_)) rfl
  refine VS_pure (P_assign rfl) rfl rfl rfl ?_
  refine VS_nil ?_
  refine QS_then ?_
  refine TS_seq ?_
  refine TS_region ?_
  refine VS_pure (P_move rfl) rfl rfl rfl ?_
  refine VS_step ((S_callL cl34 rfl (.cons .here .nil) (fun m' hm he => oneD (c := c) (A := A) (b := b) (hr.mono hm) hb (.ok 0) (Nat.zero_le _)) rfl ?_)) rfl
  rintro _ _ ⟨t, s1, h1, rfl, rfl⟩
  refine VS_pure (P_fieldAddr0 fo32_0 rfl) rfl rfl rfl ?_
  refine VS_step (S_store co5 rfl rfl rfl (.there (.here)) (.here) ?_) rfl
  refine VS_nil ?_
  refine QS_then ?_
  refine TS_seq ?_
  refine TS_seq ?_
  refine TS_cut3 (α := St) (fun _ => [(0, .slice A b.length c), (2, .pointer (some ⟨b1, 0, none⟩)), (3, .int .i64 0), (4, .int .i64 0), (5, .pointer (some ⟨b2, 0, none⟩))]) (fun s => [rdE b2 A c b.length s, cel b1 (L0 (t.toNat : Int)) 32]) (fun s => s.fits b ∧ ∀ x s3, Stp (pBody (t.toNat : Int)) b s x s3 → Stp pHead b (.ok 0) x s3) ?_ ?_
  · have hf1 : s1.fits b := h1.fits (Nat.zero_le _)
    cases hk : known (t.toNat : Int) with
    | true =>
      refine TS_region ?_
      refine VS_pure (P_fieldAddr0 fo32_0 rfl) rfl rfl rfl ?_
      refine VS_read (S_loadB sg5 rfl (.there (.here)) rfl) rfl rfl rfl ?_
      refine VS_step (S_callR cl20 rfl (fun m' hm he => (Known_ok (t.toNat : Int))) rfl ?_) rfl
      rintro _ rfl
      rw [hk]
      refine VS_pure (P_not rfl) rfl rfl rfl ?_
      refine VS_nil ?_
      refine QS_then ?_
      refine TS_false rfl ?_
      refine TS_skip ?_
      exact QS_round s1 ⟨rfl, rfl, rfl, rfl, rfl, trivial⟩ (Pick.refl _) ⟨hf1, fun x s3 h => Stp.bind h1 (h.congr fun a => if_pos hk)⟩ (by decide)
    | false =>
      cases s1 with
      | ok a1 =>
        refine TS_region ?_
        refine VS_pure (P_fieldAddr0 fo32_0 rfl) rfl rfl rfl ?_
        refine VS_read (S_loadB sg5 rfl (.there (.here)) rfl) rfl rfl rfl ?_
        refine VS_step (S_callR cl20 rfl (fun m' hm he => (Known_ok (t.toNat : Int))) rfl ?_) rfl
        rintro _ rfl
        rw [hk]
        refine VS_pure (P_not rfl) rfl rfl rfl ?_
        refine VS_nil ?_
        refine QS_then ?_
        refine TS_true rfl ?_
        refine TS_region ?_
        refine VS_pure (P_move rfl) rfl rfl rfl ?_
        refine VS_step ((S_callL cl35 rfl (.cons .here .nil) (fun m' hm he => wrong_ok (k := 0)) rfl ?_)) rfl
        rintro _ _ ⟨rfl, rfl⟩
        refine VS_nil ?_
        exact QS_round (.bad 0 a1) ⟨rfl, rfl, rfl, rfl, rfl, trivial⟩ (Pick.refl _) ⟨⟨hf1, Nat.zero_le _⟩, fun x s3 h => by
          cases h
          exact Stp.bind h1 (.inr ⟨0, a1, if_neg (by rw [hk]; decide), rfl, hf1, Nat.zero_le _⟩)⟩ (by decide)
      | bad k a1 =>
        refine TS_region ?_
        refine VS_pure (P_fieldAddr0 fo32_0 rfl) rfl rfl rfl ?_
        refine VS_read (S_loadB sg5 rfl (.there (.here)) rfl) rfl rfl rfl ?_
        refine VS_step (S_callR cl20 rfl (fun m' hm he => (Known_ok (t.toNat : Int))) rfl ?_) rfl
        rintro _ rfl
        rw [hk]
        refine VS_pure (P_not rfl) rfl rfl rfl ?_
        refine VS_nil ?_
        refine QS_then ?_
        refine TS_true rfl ?_
        refine TS_region ?_
        refine VS_pure (P_move rfl) rfl rfl rfl ?_
        refine VS_step ((S_callL cl35 rfl (.cons .here .nil) (fun m' hm he => wrong_bad) rfl ?_)) rfl
        rintro _ _ ⟨rfl, rfl⟩
        refine VS_nil ?_
        exact QS_round (.bad k a1) ⟨rfl, rfl, rfl, rfl, rfl, trivial⟩ (Pick.refl _) ⟨hf1, fun x s3 h => by
          cases h
          exact Stp.bind h1 rfl⟩ (by decide)
  rintro s2 ⟨hf2, h2⟩
  have hk8 : U8 (t.toNat : Int) := ⟨by omega, by have := t.toNat_lt; omega⟩
  unfold L0
  generalize (t.toNat : Int) = k at hk8 h2 ⊢
  refine TS_seq ?_
  refine TS_seq ?_
  refine TS_cut3 (α := Int × St) (fun _ => [(0, .slice A b.length c), (2, .pointer (some ⟨b1, 0, none⟩)), (3, .int .i64 0), (4, .int .i64 0), (5, .pointer (some ⟨b2, 0, none⟩))]) (fun y => [rdE b2 A c b.length y.2, cel b1 [.int .u8 k, iV y.1, sV [], .slice none 0 0, .slice none 0 0, .int .i8 0, iV 0, iV 0, iV 0, .slice none 0 0, .slice none 0 0, .int .u8 0, iV 0, .slice none 0 0] 32]) (FC b k) ?_ ?_
  · by_cases hq : k = 1 ∨ k = 8 ∨ k = 64
    · have hF : FC b k (0, s2) := ⟨hf2, fun _ _ => i64_0, fun _ => rfl, fun x s4 h => h2 _ _ (h.congr fun a => pBody_0 hq b a)⟩
      rcases hq with hq | hq | hq
      · subst hq
        refine TS_region ?_
        refine VS_pure (P_fieldAddr0 fo32_0 rfl) rfl rfl rfl ?_
        refine VS_read (S_loadB sg5 rfl (.there (.here)) rfl) rfl rfl rfl ?_
        refine VS_pure (df (P_neq rfl rfl) (by omega)) rfl rfl rfl ?_
        refine VS_pure (P_move rfl) rfl rfl rfl ?_
        iterate 3 (refine VS_skip rfl rfl rfl ?_)
        refine VS_pure (P_pick_f rfl rfl) rfl rfl rfl ?_
        refine VS_pure (P_move rfl) rfl rfl rfl ?_
        iterate 3 (refine VS_skip rfl rfl rfl ?_)
        refine VS_pure (P_pick_f rfl rfl) rfl rfl rfl ?_
        refine VS_nil ?_
        refine QS_then ?_
        refine TS_false rfl ?_
        refine TS_skip ?_
        exact QS_round (0, s2) ⟨rfl, rfl, rfl, rfl, rfl, trivial⟩ (Pick.refl _) hF (by decide)
      · subst hq
        refine TS_region ?_
        refine VS_pure (P_fieldAddr0 fo32_0 rfl) rfl rfl rfl ?_
        refine VS_read (S_loadB sg5 rfl (.there (.here)) rfl) rfl rfl rfl ?_
        refine VS_pure (dt (P_neq rfl rfl) (by omega)) rfl rfl rfl ?_
        refine VS_pure (P_move rfl) rfl rfl rfl ?_
        refine VS_pure (P_fieldAddr0 fo32_0 rfl) rfl rfl rfl ?_
        refine VS_read (S_loadB sg5 rfl (.there (.here)) rfl) rfl rfl rfl ?_
        refine VS_pure (df (P_neq rfl rfl) (by omega)) rfl rfl rfl ?_
        refine VS_pure (P_pick_t rfl rfl) rfl rfl rfl ?_
        refine VS_pure (P_move rfl) rfl rfl rfl ?_
        iterate 3 (refine VS_skip rfl rfl rfl ?_)
        refine VS_pure (P_pick_f rfl rfl) rfl rfl rfl ?_
        refine VS_nil ?_
        refine QS_then ?_
        refine TS_false rfl ?_
        refine TS_skip ?_
        exact QS_round (0, s2) ⟨rfl, rfl, rfl, rfl, rfl, trivial⟩ (Pick.refl _) hF (by decide)
      · subst hq
        refine TS_region ?_
        refine VS_pure (P_fieldAddr0 fo32_0 rfl) rfl rfl rfl ?_
        refine VS_read (S_loadB sg5 rfl (.there (.here)) rfl) rfl rfl rfl ?_
        refine VS_pure (dt (P_neq rfl rfl) (by omega)) rfl rfl rfl ?_
        refine VS_pure (P_move rfl) rfl rfl rfl ?_
        refine VS_pure (P_fieldAddr0 fo32_0 rfl) rfl rfl rfl ?_
        refine VS_read (S_loadB sg5 rfl (.there (.here)) rfl) rfl rfl rfl ?_
        refine VS_pure (dt (P_neq rfl rfl) (by omega)) rfl rfl rfl ?_
        refine VS_pure (P_pick_t rfl rfl) rfl rfl rfl ?_
        refine VS_pure (P_move rfl) rfl rfl rfl ?_
        refine VS_pure (P_fieldAddr0 fo32_0 rfl) rfl rfl rfl ?_
        refine VS_read (S_loadB sg5 rfl (.there (.here)) rfl) rfl rfl rfl ?_
        refine VS_pure (df (P_neq rfl rfl) (by omega)) rfl rfl rfl ?_
        refine VS_pure (P_pick_t rfl rfl) rfl rfl rfl ?_
        refine VS_nil ?_
        refine QS_then ?_
        refine TS_false rfl ?_
        refine TS_skip ?_
        exact QS_round (0, s2) ⟨rfl, rfl, rfl, rfl, rfl, trivial⟩ (Pick.refl _) hF (by decide)
    · refine TS_region ?_
      refine VS_pure (P_fieldAddr0 fo32_0 rfl) rfl rfl rfl ?_
      refine VS_read (S_loadB sg5 rfl (.there (.here)) rfl) rfl rfl rfl ?_
      refine VS_pure (dt (P_neq rfl rfl) (by omega)) rfl rfl rfl ?_
      refine VS_pure (P_move rfl) rfl rfl rfl ?_
      refine VS_pure (P_fieldAddr0 fo32_0 rfl) rfl rfl rfl ?_
      refine VS_read (S_loadB sg5 rfl (.there (.here)) rfl) rfl rfl rfl ?_
      refine VS_pure (dt (P_neq rfl rfl) (by omega)) rfl rfl rfl ?_
      refine VS_pure (P_pick_t rfl rfl) rfl rfl rfl ?_
      refine VS_pure (P_move rfl) rfl rfl rfl ?_
      refine VS_pure (P_fieldAddr0 fo32_0 rfl) rfl rfl rfl ?_
      refine VS_read (S_loadB sg5 rfl (.there (.here)) rfl) rfl rfl rfl ?_
      refine VS_pure (dt (P_neq rfl rfl) (by omega)) rfl rfl rfl ?_
      refine VS_pure (P_pick_t rfl rfl) rfl rfl rfl ?_
      refine VS_nil ?_
      refine QS_then ?_
      refine TS_true rfl ?_
      refine TS_region ?_
      refine VS_pure (P_move rfl) rfl rfl rfl ?_
      refine VS_step ((S_callL cl36 rfl (.cons .here .nil) (fun m' hm he => numD (hr.mono hm) hb s2 hf2) rfl ?_)) rfl
      rintro _ _ ⟨n1, s3, hn, rfl, rfl⟩
      have hn64a : ∀ a, s3 = .ok a → I64 n1 := fun a ha => by
        subst ha
        exact i64_num hn
      refine VS_pure (P_fieldAddr0 fo32_1 rfl) rfl rfl rfl ?_
      refine VS_step (S_store co3 rfl rfl rfl (.there (.here)) (.there (.here)) ?_) rfl
      refine VS_nil ?_
      exact QS_round (n1, s3) ⟨rfl, rfl, rfl, rfl, rfl, trivial⟩ (Pick.refl _) ⟨hn.fits hf2, hn64a, fun h => absurd h hq, fun x s4 h => h2 _ _ ((Stp.bind hn h).congr fun a => pBody_n hq b a)⟩ (by decide)
  rintro ⟨n1, s3⟩ ⟨hf3, hn64, hn0, h3⟩
  dsimp only at hf3 hn64 hn0 h3 ⊢
  refine TS_seq ?_
  refine TS_seq ?_
  refine TS_cut3 (α := RdY) (fun _ => [(0, .slice A b.length c), (2, .pointer (some ⟨b1, 0, none⟩)), (3, .int .i64 0), (4, .int .i64 0), (5, .pointer (some ⟨b2, 0, none⟩))]) (fun y => [rdE b2 A c b.length y.s, cel b1 y.cs 32, y.e]) (FB b) ?_ ?_
  · by_cases g1 : k = 1
    · subst g1
      obtain rfl := hn0 (.inl rfl)
      refine TS_region ?_
      refine VS_pure (P_fieldAddr0 fo32_0 rfl) rfl rfl rfl ?_
      refine VS_read (S_loadB sg5 rfl (.there (.here)) rfl) rfl rfl rfl ?_
      refine VS_nil ?_
      refine QS_then ?_
      refine TS_block ?_
      refine TS_seq ?_
      refine TS_seq ?_
      refine TS_region ?_
      refine VS_pure (dt (P_eql rfl rfl) rfl) rfl rfl rfl ?_
      refine VS_pure (P_assign rfl) rfl rfl rfl ?_
      refine VS_nil ?_
      refine QS_then ?_
      refine TS_true rfl ?_
      refine TS_skip ?_
      refine QS_then ?_
      refine TS_true rfl ?_
      refine TS_region ?_
      refine VS_pure (P_move rfl) rfl rfl rfl ?_
      refine VS_step ((S_callL cl37 rfl (.cons .here .nil) (fun m' hm he => bytesD (hr.mono hm) hb hc s3 hf3) rfl ?_)) rfl
      rintro _ _ ⟨tx, s4, A2, c2, ht, htl, rfl, rfl⟩
      refine VS_pure (P_fieldAddr0 fo32_3 rfl) rfl rfl rfl ?_
      refine VS_step (S_store co22 rfl rfl rfl (.there (.there (.here))) (.there (.there (.there (.here)))) ?_) rfl
      refine VS_nil ?_
      refine QS_block ?_
      exact QS_round ⟨⟨1, 0, [], tx, [], acn0, 0, 0, []⟩, s4, _, _⟩ ⟨rfl, rfl, rfl, rfl, rfl, trivial⟩ (.cons .here (.cons (.there .here) (.cons .here (.nil _)))) ⟨h3 _ _ (Stp.map (f := fun t => Ltr.mk 1 0 [] t [] acn0 0 0 []) ht hf3), ⟨_, _, _, _, _, _, _, _, _, _, _, _, _, _, rfl⟩, fun a ha ns hi => ⟨_, _, _, _, _, rfl, BytesE.ofOwn hi htl, StrsE.z _, IntsE.z _, PairsE.z _, EvsE.z _, (show U8 1 from ⟨by decide, by decide⟩), i64_0, Nat.zero_le _, noS, acn0_N, u8_0, i64_0⟩⟩ (by decide)
    by_cases g64 : k = 64
    · subst g64
      obtain rfl := hn0 (.inr (.inr rfl))
      refine TS_region ?_
      refine VS_pure (P_fieldAddr0 fo32_0 rfl) rfl rfl rfl ?_
      refine VS_read (S_loadB sg5 rfl (.there (.here)) rfl) rfl rfl rfl ?_
      refine VS_nil ?_
      refine QS_then ?_
      refine TS_block ?_
      refine TS_seq ?_
      refine TS_seq ?_
      refine TS_region ?_
      refine VS_pure (df (P_eql rfl rfl) (by assumption)) rfl rfl rfl ?_
      refine VS_pure (P_assign rfl) rfl rfl rfl ?_
      refine VS_nil ?_
      refine QS_then ?_
      refine TS_false rfl ?_
      refine TS_seq ?_
      refine TS_region ?_
      refine VS_pure (df (P_eql rfl rfl) (by omega)) rfl rfl rfl ?_
      refine VS_pure (P_assign rfl) rfl rfl rfl ?_
      refine VS_nil ?_
      refine QS_then ?_
      refine TS_false rfl ?_
      refine TS_region ?_
      refine VS_pure (df (P_eql rfl rfl) (by omega)) rfl rfl rfl ?_
      refine VS_pure (P_assign rfl) rfl rfl rfl ?_
      refine VS_nil ?_
      refine QS_then ?_
      refine TS_false rfl ?_
      refine TS_seq ?_
      refine TS_region ?_
      refine VS_pure (df (P_eql rfl rfl) (by omega)) rfl rfl rfl ?_
      refine VS_pure (P_assign rfl) rfl rfl rfl ?_
      refine VS_nil ?_
      refine QS_then ?_
      refine TS_false rfl ?_
      refine TS_seq ?_
      refine TS_region ?_
      refine VS_pure (df (P_eql rfl rfl) (by omega)) rfl rfl rfl ?_
      refine VS_pure (P_assign rfl) rfl rfl rfl ?_
      refine VS_nil ?_
      refine QS_then ?_
      refine TS_false rfl ?_
      refine TS_seq ?_
      refine TS_region ?_
      refine VS_pure (df (P_eql rfl rfl) (by omega)) rfl rfl rfl ?_
      refine VS_pure (P_assign rfl) rfl rfl rfl ?_
      refine VS_nil ?_
      refine QS_then ?_
      refine TS_false rfl ?_
      refine TS_seq ?_
      refine TS_region ?_
      refine VS_pure (dt (P_eql rfl rfl) rfl) rfl rfl rfl ?_
      refine VS_pure (P_assign rfl) rfl rfl rfl ?_
      refine VS_nil ?_
      refine QS_then ?_
      refine TS_true rfl ?_
      refine TS_seq ?_
      refine TS_region ?_
      refine VS_pure (P_move rfl) rfl rfl rfl ?_
      refine VS_step ((S_callL cl34 rfl (.cons .here .nil) (fun m' hm he => oneD (hr.mono hm) hb s3 hf3) rfl ?_)) rfl
      rintro _ _ ⟨to_, s4, ht, rfl, rfl⟩
      have hf4 := ht.fits hf3
      have htu : U8 (to_.toNat : Int) := ⟨by omega, by have := to_.toNat_lt; omega⟩
      refine VS_pure (P_fieldAddr0 fo32_6 rfl) rfl rfl rfl ?_
      refine VS_step (S_store co5 rfl rfl rfl (.there (.here)) (.there (.there (.there (.there (.there (.there (.there (.there (.there (.there (.there (.here)))))))))))) ?_) rfl
      refine VS_nil ?_
      refine QS_then ?_
      refine TS_region ?_
      refine VS_pure (P_move rfl) rfl rfl rfl ?_
      refine VS_step ((S_callL cl36 rfl (.cons .here .nil) (fun m' hm he => numD (hr.mono hm) hb s4 hf4) rfl ?_)) rfl
      rintro _ _ ⟨e1, s5, he1, rfl, rfl⟩
      have he64 : ∀ a, s5 = .ok a → I64 e1 := fun a ha => by
        subst ha
        exact i64_num he1
      refine VS_pure (P_fieldAddr0 fo32_7 rfl) rfl rfl rfl ?_
      refine VS_step (S_store co29 rfl rfl rfl (.there (.here)) (.there (.there (.there (.there (.there (.there (.there (.there (.there (.there (.there (.there (.here))))))))))))) ?_) rfl
      refine VS_nil ?_
      refine QS_block ?_
      exact QS_round ⟨⟨64, 0, [], [], [], acn0, (to_.toNat : Int), e1, []⟩, s5, _, _⟩ ⟨rfl, rfl, rfl, rfl, rfl, trivial⟩ (Pick.trans Pick.pack0 (.cons (.there .here) (.cons (.there .here) (.cons .here (.nil _))))) ⟨h3 _ _ (Stp.bind ht (Stp.map (f := fun e => Ltr.mk 64 0 [] [] [] acn0 (to_.toNat : Int) e []) he1 hf4)), ⟨_, _, _, _, _, _, _, _, _, _, _, _, _, _, rfl⟩, fun a ha ns hi => ⟨_, _, _, _, _, rfl, BytesE.z _, StrsE.z _, IntsE.z _, PairsE.z _, EvsE.z _, (show U8 64 from ⟨by decide, by decide⟩), i64_0, Nat.zero_le _, noS, acn0_N, htu, (he64 a ha)⟩⟩ (by decide)
    by_cases g8 : k = 8
    · subst g8
      obtain rfl := hn0 (.inr (.inl rfl))
      refine TS_region ?_
      refine VS_pure (P_fieldAddr0 fo32_0 rfl) rfl rfl rfl ?_
      refine VS_read (S_loadB sg5 rfl (.there (.here)) rfl) rfl rfl rfl ?_
      refine VS_nil ?_
      refine QS_then ?_
      refine TS_block ?_
      refine TS_seq ?_
      refine TS_seq ?_
      refine TS_region ?_
      refine VS_pure (df (P_eql rfl rfl) (by assumption)) rfl rfl rfl ?_
      refine VS_pure (P_assign rfl) rfl rfl rfl ?_
      refine VS_nil ?_
      refine QS_then ?_
      refine TS_false rfl ?_
      refine TS_seq ?_
      refine TS_region ?_
      refine VS_pure (df (P_eql rfl rfl) (by omega)) rfl rfl rfl ?_
      refine VS_pure (P_assign rfl) rfl rfl rfl ?_
      refine VS_nil ?_
      refine QS_then ?_
      refine TS_false rfl ?_
      refine TS_region ?_
      refine VS_pure (df (P_eql rfl rfl) (by omega)) rfl rfl rfl ?_
      refine VS_pure (P_assign rfl) rfl rfl rfl ?_
      refine VS_nil ?_
      refine QS_then ?_
      refine TS_false rfl ?_
      refine TS_seq ?_
      refine TS_region ?_
      refine VS_pure (df (P_eql rfl rfl) (by omega)) rfl rfl rfl ?_
      refine VS_pure (P_assign rfl) rfl rfl rfl ?_
      refine VS_nil ?_
      refine QS_then ?_
      refine TS_false rfl ?_
      refine TS_seq ?_
      refine TS_region ?_
      refine VS_pure (df (P_eql rfl rfl) (by omega)) rfl rfl rfl ?_
      refine VS_pure (P_assign rfl) rfl rfl rfl ?_
      refine VS_nil ?_
      refine QS_then ?_
      refine TS_false rfl ?_
      refine TS_seq ?_
      refine TS_region ?_
      refine VS_pure (df (P_eql rfl rfl) (by omega)) rfl rfl rfl ?_
      refine VS_pure (P_assign rfl) rfl rfl rfl ?_
      refine VS_nil ?_
      refine QS_then ?_
      refine TS_false rfl ?_
      refine TS_seq ?_
      refine TS_region ?_
      refine VS_pure (df (P_eql rfl rfl) (by assumption)) rfl rfl rfl ?_
      refine VS_pure (P_assign rfl) rfl rfl rfl ?_
      refine VS_nil ?_
      refine QS_then ?_
      refine TS_false rfl ?_
      refine TS_seq ?_
      refine TS_region ?_
      refine VS_pure (df (P_eql rfl rfl) (by omega)) rfl rfl rfl ?_
      refine VS_pure (P_assign rfl) rfl rfl rfl ?_
      refine VS_nil ?_
      refine QS_then ?_
      refine TS_false rfl ?_
      refine TS_skip ?_
      refine QS_block ?_
      exact QS_round ⟨⟨8, 0, [], [], [], acn0, 0, 0, []⟩, s3, _, _⟩ ⟨rfl, rfl, rfl, rfl, rfl, trivial⟩ (Pick.trans Pick.pack0 (.cons (.there .here) (.cons (.there .here) (.cons .here (.nil _))))) ⟨h3 _ _ (Stp.pure hf3), ⟨_, _, _, _, _, _, _, _, _, _, _, _, _, _, rfl⟩, fun a ha ns hi => ⟨_, _, _, _, _, rfl, BytesE.z _, StrsE.z _, IntsE.z _, PairsE.z _, EvsE.z _, (show U8 8 from ⟨by decide, by decide⟩), i64_0, Nat.zero_le _, noS, acn0_N, u8_0, i64_0⟩⟩ (by decide)
    by_cases g2 : k = 2
    · subst g2
      refine TS_region ?_
      refine VS_pure (P_fieldAddr0 fo32_0 rfl) rfl rfl rfl ?_
      refine VS_read (S_loadB sg5 rfl (.there (.here)) rfl) rfl rfl rfl ?_
      refine VS_nil ?_
      refine QS_then ?_
      refine TS_block ?_
      refine TS_seq ?_
      refine TS_seq ?_
      refine TS_region ?_
      refine VS_pure (df (P_eql rfl rfl) (by assumption)) rfl rfl rfl ?_
      refine VS_pure (P_assign rfl) rfl rfl rfl ?_
      refine VS_nil ?_
      refine QS_then ?_
      refine TS_false rfl ?_
      refine TS_seq ?_
      refine TS_region ?_
      refine VS_pure (df (P_eql rfl rfl) (by omega)) rfl rfl rfl ?_
      refine VS_pure (P_assign rfl) rfl rfl rfl ?_
      refine VS_nil ?_
      refine QS_then ?_
      refine TS_false rfl ?_
      refine TS_region ?_
      refine VS_pure (df (P_eql rfl rfl) (by omega)) rfl rfl rfl ?_
      refine VS_pure (P_assign rfl) rfl rfl rfl ?_
      refine VS_nil ?_
      refine QS_then ?_
      refine TS_false rfl ?_
      refine TS_seq ?_
      refine TS_region ?_
      refine VS_pure (dt (P_eql rfl rfl) rfl) rfl rfl rfl ?_
      refine VS_pure (P_assign rfl) rfl rfl rfl ?_
      refine VS_nil ?_
      refine QS_then ?_
      refine TS_true rfl ?_
      refine TS_region ?_
      refine VS_pure (P_move rfl) rfl rfl rfl ?_
      refine VS_step ((S_callL cl37 rfl (.cons .here .nil) (fun m' hm he => bytesD (hr.mono hm) hb hc s3 hf3) rfl ?_)) rfl
      rintro _ _ ⟨tx, s4, A2, c2, ht, htl, rfl, rfl⟩
      have hn64A : ∀ {a}, s4 = .ok a → I64 n1 := fun {a} ha => by
        subst ha
        obtain ⟨a0, e0, _⟩ := ht.ok
        exact hn64 a0 e0
      skip
      refine VS_read (fun h hs => R_bstr bt22 st9 rfl rfl (Own.rd (hs.get (.there .here)))) rfl rfl rfl ?_
      refine VS_pure (P_fieldAddr0 fo32_2 rfl) rfl rfl rfl ?_
      refine VS_step (S_store co9 rfl rfl rfl (.there (.there (.here))) (.there (.there (.here))) ?_) rfl
      refine VS_nil ?_
      refine QS_block ?_
      exact QS_round ⟨⟨2, n1, tx, [], [], acn0, 0, 0, []⟩, s4, _, _⟩ ⟨rfl, rfl, rfl, rfl, rfl, trivial⟩ (Pick.trans Pick.pack0 (.cons (.there .here) (.cons (.there (.there .here)) (.cons .here (.nil _))))) ⟨h3 _ _ (Stp.map (f := fun t => Ltr.mk 2 n1 t [] [] acn0 0 0 []) ht hf3), ⟨_, _, _, _, _, _, _, _, _, _, _, _, _, _, rfl⟩, fun a ha ns hi => ⟨_, _, _, _, _, rfl, BytesE.z _, StrsE.z _, IntsE.z _, PairsE.z _, EvsE.z _, (show U8 2 from ⟨by decide, by decide⟩), (hn64A ha), (show tx.length ≤ _ by omega), noS, acn0_N, u8_0, i64_0⟩⟩ (by decide)
    by_cases g4 : k = 4
    · subst g4
      refine TS_region ?_
      refine VS_pure (P_fieldAddr0 fo32_0 rfl) rfl rfl rfl ?_
      refine VS_read (S_loadB sg5 rfl (.there (.here)) rfl) rfl rfl rfl ?_
      refine VS_nil ?_
      refine QS_then ?_
      refine TS_block ?_
      refine TS_seq ?_
      refine TS_seq ?_
      refine TS_region ?_
      refine VS_pure (df (P_eql rfl rfl) (by assumption)) rfl rfl rfl ?_
      refine VS_pure (P_assign rfl) rfl rfl rfl ?_
      refine VS_nil ?_
      refine QS_then ?_
      refine TS_false rfl ?_
      refine TS_seq ?_
      refine TS_region ?_
      refine VS_pure (df (P_eql rfl rfl) (by omega)) rfl rfl rfl ?_
      refine VS_pure (P_assign rfl) rfl rfl rfl ?_
      refine VS_nil ?_
      refine QS_then ?_
      refine TS_false rfl ?_
      refine TS_region ?_
      refine VS_pure (df (P_eql rfl rfl) (by omega)) rfl rfl rfl ?_
      refine VS_pure (P_assign rfl) rfl rfl rfl ?_
      refine VS_nil ?_
      refine QS_then ?_
      refine TS_false rfl ?_
      refine TS_seq ?_
      refine TS_region ?_
      refine VS_pure (df (P_eql rfl rfl) (by assumption)) rfl rfl rfl ?_
      refine VS_pure (P_assign rfl) rfl rfl rfl ?_
      refine VS_nil ?_
      refine QS_then ?_
      refine TS_false rfl ?_
      refine TS_seq ?_
      refine TS_region ?_
      refine VS_pure (df (P_eql rfl rfl) (by omega)) rfl rfl rfl ?_
      refine VS_pure (P_assign rfl) rfl rfl rfl ?_
      refine VS_nil ?_
      refine QS_then ?_
      refine TS_false rfl ?_
      refine TS_seq ?_
      refine TS_region ?_
      refine VS_pure (dt (P_eql rfl rfl) rfl) rfl rfl rfl ?_
      refine VS_pure (P_assign rfl) rfl rfl rfl ?_
      refine VS_nil ?_
      refine QS_then ?_
      refine TS_true rfl ?_
      refine TS_region ?_
      refine VS_pure (P_move rfl) rfl rfl rfl ?_
      refine VS_step ((S_callL cl39 rfl (.cons .here .nil) (fun m' hm he => actionD (hr.mono hm) hb s3 hf3) rfl ?_)) rfl
      rintro _ _ ⟨ac, s4, Ai, ci, Ap, cp, ht, hil, hpl, rfl, rfl⟩
      have hn64A : ∀ {a}, s4 = .ok a → I64 n1 ∧ ActN ac ∧ (∀ n ∈ ac.ids, I64 n) ∧ (∀ p ∈ ac.pairs, I64 p.1 ∧ I64 p.2) := fun {a} ha => by
        subst ha
        obtain ⟨a0, e0, e1⟩ := ht.ok
        obtain ⟨q1, q2, q3, _⟩ := pAct_N e1
        exact ⟨hn64 a0 e0, q1, q2, q3⟩
      unfold actC6
      refine VS_pure (P_fieldAddr0 fo32_5 rfl) rfl rfl rfl ?_
      refine VS_step (S_storeAggO ag28 rfl rfl rfl (.there (.there (.there (.here)))) (.there (.there (.there (.there (.there (.cons (.cons (.cons (.cons (.cons (.cons .nil))))))))))) rfl ?_) rfl
      refine VS_nil ?_
      refine QS_block ?_
      exact QS_round ⟨⟨4, n1, [], [], [], ac, 0, 0, []⟩, s4, _, _⟩ ⟨rfl, rfl, rfl, rfl, rfl, trivial⟩ (Pick.trans (L2 := [_, _, _, _]) (.cons (.there .here) (.cons (.there .here) (.cons .here (.cons .here (.nil _))))) (Pick.trans Pick.pack2 (.cons (.there .here) (.cons (.there .here) (.cons .here (.nil _)))))) ⟨h3 _ _ (Stp.map (f := fun t => Ltr.mk 4 n1 [] [] [] t 0 0 []) ht hf3), ⟨_, _, _, _, _, _, _, _, _, _, _, _, _, _, rfl⟩, fun a ha ns hi => ⟨_, _, _, _, _, rfl, BytesE.z _, StrsE.z _, IntsE.ofOwn (hi.1 _ List.mem_cons_self) hil (hn64A ha).2.2.1, PairsE.ofOwn (hi.1 _ (List.mem_cons_of_mem _ List.mem_cons_self)) hpl (hn64A ha).2.2.2, EvsE.z _, (show U8 4 from ⟨by decide, by decide⟩), (hn64A ha).1, Nat.zero_le _, noS, (hn64A ha).2.1, u8_0, i64_0⟩⟩ (by decide)
    by_cases g65 : k = 65
    · subst g65
      refine TS_region ?_
      refine VS_pure (P_fieldAddr0 fo32_0 rfl) rfl rfl rfl ?_
      refine VS_read (S_loadB sg5 rfl (.there (.here)) rfl) rfl rfl rfl ?_
      refine VS_nil ?_
      refine QS_then ?_
      refine TS_block ?_
      refine TS_seq ?_
      refine TS_seq ?_
      refine TS_region ?_
      refine VS_pure (df (P_eql rfl rfl) (by assumption)) rfl rfl rfl ?_
      refine VS_pure (P_assign rfl) rfl rfl rfl ?_
      refine VS_nil ?_
      refine QS_then ?_
      refine TS_false rfl ?_
      refine TS_seq ?_
      refine TS_region ?_
      refine VS_pure (dt (P_eql rfl rfl) rfl) rfl rfl rfl ?_
      refine VS_pure (P_assign rfl) rfl rfl rfl ?_
      refine VS_nil ?_
      refine QS_then ?_
      refine TS_true rfl ?_
      refine TS_skip ?_
      refine QS_then ?_
      refine TS_true rfl ?_
      refine TS_region ?_
      refine VS_pure (P_move rfl) rfl rfl rfl ?_
      refine VS_step ((S_callL cl37 rfl (.cons .here .nil) (fun m' hm he => bytesD (hr.mono hm) hb hc s3 hf3) rfl ?_)) rfl
      rintro _ _ ⟨tx, s4, A2, c2, ht, htl, rfl, rfl⟩
      have hn64A : ∀ {a}, s4 = .ok a → I64 n1 := fun {a} ha => by
        subst ha
        obtain ⟨a0, e0, _⟩ := ht.ok
        exact hn64 a0 e0
      refine VS_pure (P_fieldAddr0 fo32_3 rfl) rfl rfl rfl ?_
      refine VS_step (S_store co22 rfl rfl rfl (.there (.there (.here))) (.there (.there (.there (.here)))) ?_) rfl
      refine VS_nil ?_
      refine QS_block ?_
      exact QS_round ⟨⟨65, n1, [], tx, [], acn0, 0, 0, []⟩, s4, _, _⟩ ⟨rfl, rfl, rfl, rfl, rfl, trivial⟩ (.cons .here (.cons (.there .here) (.cons .here (.nil _)))) ⟨h3 _ _ (Stp.map (f := fun t => Ltr.mk 65 n1 [] t [] acn0 0 0 []) ht hf3), ⟨_, _, _, _, _, _, _, _, _, _, _, _, _, _, rfl⟩, fun a ha ns hi => ⟨_, _, _, _, _, rfl, BytesE.ofOwn hi htl, StrsE.z _, IntsE.z _, PairsE.z _, EvsE.z _, (show U8 65 from ⟨by decide, by decide⟩), (hn64A ha), Nat.zero_le _, noS, acn0_N, u8_0, i64_0⟩⟩ (by decide)
    by_cases g67 : k = 67
    · subst g67
      refine TS_region ?_
      refine VS_pure (P_fieldAddr0 fo32_0 rfl) rfl rfl rfl ?_
      refine VS_read (S_loadB sg5 rfl (.there (.here)) rfl) rfl rfl rfl ?_
      refine VS_nil ?_
      refine QS_then ?_
      refine TS_block ?_
      refine TS_seq ?_
      refine TS_seq ?_
      refine TS_region ?_
      refine VS_pure (df (P_eql rfl rfl) (by assumption)) rfl rfl rfl ?_
      refine VS_pure (P_assign rfl) rfl rfl rfl ?_
      refine VS_nil ?_
      refine QS_then ?_
      refine TS_false rfl ?_
      refine TS_seq ?_
      refine TS_region ?_
      refine VS_pure (df (P_eql rfl rfl) (by assumption)) rfl rfl rfl ?_
      refine VS_pure (P_assign rfl) rfl rfl rfl ?_
      refine VS_nil ?_
      refine QS_then ?_
      refine TS_false rfl ?_
      refine TS_region ?_
      refine VS_pure (dt (P_eql rfl rfl) rfl) rfl rfl rfl ?_
      refine VS_pure (P_assign rfl) rfl rfl rfl ?_
      refine VS_nil ?_
      refine QS_then ?_
      refine TS_true rfl ?_
      refine TS_region ?_
      refine VS_pure (P_move rfl) rfl rfl rfl ?_
      refine VS_step ((S_callL cl37 rfl (.cons .here .nil) (fun m' hm he => bytesD (hr.mono hm) hb hc s3 hf3) rfl ?_)) rfl
      rintro _ _ ⟨tx, s4, A2, c2, ht, htl, rfl, rfl⟩
      have hn64A : ∀ {a}, s4 = .ok a → I64 n1 := fun {a} ha => by
        subst ha
        obtain ⟨a0, e0, _⟩ := ht.ok
        exact hn64 a0 e0
      refine VS_pure (P_fieldAddr0 fo32_3 rfl) rfl rfl rfl ?_
      refine VS_step (S_store co22 rfl rfl rfl (.there (.there (.here))) (.there (.there (.there (.here)))) ?_) rfl
      refine VS_nil ?_
      refine QS_block ?_
      exact QS_round ⟨⟨67, n1, [], tx, [], acn0, 0, 0, []⟩, s4, _, _⟩ ⟨rfl, rfl, rfl, rfl, rfl, trivial⟩ (.cons .here (.cons (.there .here) (.cons .here (.nil _)))) ⟨h3 _ _ (Stp.map (f := fun t => Ltr.mk 67 n1 [] t [] acn0 0 0 []) ht hf3), ⟨_, _, _, _, _, _, _, _, _, _, _, _, _, _, rfl⟩, fun a ha ns hi => ⟨_, _, _, _, _, rfl, BytesE.ofOwn hi htl, StrsE.z _, IntsE.z _, PairsE.z _, EvsE.z _, (show U8 67 from ⟨by decide, by decide⟩), (hn64A ha), Nat.zero_le _, noS, acn0_N, u8_0, i64_0⟩⟩ (by decide)
    by_cases g3 : k = 3
    · subst g3
      refine TS_region ?_
      refine VS_pure (P_fieldAddr0 fo32_0 rfl) rfl rfl rfl ?_
      refine VS_read (S_loadB sg5 rfl (.there (.here)) rfl) rfl rfl rfl ?_
      refine VS_nil ?_
      refine QS_then ?_
      refine TS_block ?_
      refine TS_seq ?_
      refine TS_seq ?_
      refine TS_region ?_
      refine VS_pure (df (P_eql rfl rfl) (by assumption)) rfl rfl rfl ?_
      refine VS_pure (P_assign rfl) rfl rfl rfl ?_
      refine VS_nil ?_
      refine QS_then ?_
      refine TS_false rfl ?_
      refine TS_seq ?_
      refine TS_region ?_
      refine VS_pure (df (P_eql rfl rfl) (by assumption)) rfl rfl rfl ?_
      refine VS_pure (P_assign rfl) rfl rfl rfl ?_
      refine VS_nil ?_
      refine QS_then ?_
      refine TS_false rfl ?_
      refine TS_region ?_
      refine VS_pure (df (P_eql rfl rfl) (by assumption)) rfl rfl rfl ?_
      refine VS_pure (P_assign rfl) rfl rfl rfl ?_
      refine VS_nil ?_
      refine QS_then ?_
      refine TS_false rfl ?_
      refine TS_seq ?_
      refine TS_region ?_
      refine VS_pure (df (P_eql rfl rfl) (by assumption)) rfl rfl rfl ?_
      refine VS_pure (P_assign rfl) rfl rfl rfl ?_
      refine VS_nil ?_
      refine QS_then ?_
      refine TS_false rfl ?_
      refine TS_seq ?_
      refine TS_region ?_
      refine VS_pure (dt (P_eql rfl rfl) rfl) rfl rfl rfl ?_
      refine VS_pure (P_assign rfl) rfl rfl rfl ?_
      refine VS_nil ?_
      refine QS_then ?_
      refine TS_true rfl ?_
      refine TS_seq ?_
      refine TS_region ?_
      refine VS_pure (P_move rfl) rfl rfl rfl ?_
      refine VS_step ((S_callL cl38 rfl (.cons .here .nil) (fun m' hm he => countD (each := 2) (hr.mono hm) hb (by decide) s3 hf3) rfl ?_)) rfl
      rintro _ _ ⟨n, s4, hn, hn0', rfl, rfl⟩
      have hf4 := hn.fits hf3
      have hn65 : n ≤ 65535 := by
        cases s4 with
        | bad k a => rw [hn0' k a rfl]; omega
        | ok a2 =>
          cases s3 with
          | ok a =>
            rcases hn with ⟨a', h, e, _⟩ | ⟨k, a', h, e, _⟩
            · exact (pSize_le h).1
            · cases e
          | bad k a => cases hn
      refine VS_pure (P_assign rfl) rfl rfl rfl ?_
      refine VS_nil ?_
      refine QS_then ?_
      refine TS_seq ?_
      refine TS_region ?_
      refine VS_pure (P_assign rfl) rfl rfl rfl ?_
      refine VS_nil ?_
      refine QS_then ?_
      refine TS_block ?_
      refine TS_nilOwn 9 1 ?_
      refine TS_loop4 (β := List (List UInt8) × St) (fun j A' c' t => [(0, .slice A b.length c), (2, .pointer (some ⟨b1, 0, none⟩)), (3, .int .i64 0), (4, .int .i64 0), (5, .pointer (some ⟨b2, 0, none⟩)), (6, .int .i64 (n : Nat)), (7, .int .i64 (j : Nat))]) (fun j A' c' t => [rdE b2 A c b.length t.2, own 9 1 A' t.1.length c' (t.1.map sV), cel b1 [.int .u8 3, iV n1, sV [], .slice none 0 0, .slice A' t.1.length c', .int .i8 0, iV 0, iV 0, iV 0, .slice none 0 0, .slice none 0 0, .int .u8 0, iV 0, .slice none 0 0] 32]) (fun j t => j ≤ n ∧ t.1.length = j ∧ Stp (pN pText j) b s4 t.1 t.2) (fun j => n - j) 0 none 0 ([], s4) ⟨rfl, rfl, rfl, rfl, rfl, rfl, rfl, trivial⟩ (.cons (.there .here) (.cons .here (.cons .here (.nil _)))) ⟨Nat.zero_le _, rfl, Stp.pure hf4⟩ ?_
      rintro j A' c' ⟨l, t1⟩ ⟨hj, hl, hst⟩
      dsimp only at hl hst ⊢
      subst hl
      cases t1 with
      | bad k a =>
        unfold rdE
        by_cases hlt : l.length < n
        · refine TS_seq ?_
          refine TS_seq ?_
          refine TS_region ?_
          refine VS_pure (P_move rfl) rfl rfl rfl ?_
          refine VS_pure (P_move rfl) rfl rfl rfl ?_
          refine VS_pure (dt (P_lss rfl rfl) (by omega)) rfl rfl rfl ?_
          refine VS_pure (P_move rfl) rfl rfl rfl ?_
          refine VS_pure (P_move rfl) rfl rfl rfl ?_
          refine VS_pure (P_nilCheck rfl) rfl rfl rfl ?_
          refine VS_pure (P_fieldAddr0 fo103_2 rfl) rfl rfl rfl ?_
          refine VS_read (S_loadB sg3 rfl (.here) rfl) rfl rfl rfl ?_
          refine VS_pure (df (P_lss rfl rfl) (by omega)) rfl rfl rfl ?_
          refine VS_pure (P_pick_t rfl rfl) rfl rfl rfl ?_
          refine VS_nil ?_
          refine QS_then ?_
          refine TS_false rfl ?_
          refine TS_exit ?_
          refine QS_then_exit ?_
          refine QS_round4_exit ?_
          refine QS_block_here ?_
          refine QS_block ?_
          have hst3 : Stp (pMany 2 pText) b s3 l (St.bad k a) := Stp.bind (q := fun n => pN pText n) hn (hst.stop hj)
          have hl65 : l.length ≤ 65535 := by omega
          have hlA : ∀ {aa}, (St.bad k a) = .ok aa → I64 n1 ∧ ∀ s ∈ l, s.length ≤ 65535 := fun {aa} ha => by
            rw [ha] at hst3
            obtain ⟨a0, e0, e1⟩ := hst3.ok
            exact ⟨hn64 a0 e0, pMany_all (Q := fun s => s.length ≤ 65535) (fun _ _ _ h => pText_len h) e1⟩
          exact QS_round ⟨⟨3, n1, [], [], l, acn0, 0, 0, []⟩, (St.bad k a), _, _⟩ ⟨rfl, rfl, rfl, rfl, rfl, trivial⟩ (Pick.trans (L2 := [_, _, _]) (.cons (.there .here) (.cons .here (.cons .here (.nil _)))) (Pick.trans Pick.pack1 (.cons (.there .here) (.cons (.there .here) (.cons .here (.nil _)))))) ⟨h3 _ _ (Stp.map (f := fun t => Ltr.mk 3 n1 [] [] t acn0 0 0 []) hst3 hf3), ⟨_, _, _, _, _, _, _, _, _, _, _, _, _, _, rfl⟩, fun a ha ns hi => ⟨_, _, _, _, _, rfl, BytesE.z _, StrsE.ofOwn (hi.1 _ List.mem_cons_self) hl65, IntsE.z _, PairsE.z _, EvsE.z _, (show U8 3 from ⟨by decide, by decide⟩), (hlA ha).1, Nat.zero_le _, fun s hs => Nat.le_trans ((hlA ha).2 s hs) (by decide), acn0_N, u8_0, i64_0⟩⟩ (by decide)
        · refine TS_seq ?_
          refine TS_seq ?_
          refine TS_region ?_
          refine VS_pure (P_move rfl) rfl rfl rfl ?_
          refine VS_pure (P_move rfl) rfl rfl rfl ?_
          refine VS_pure (df (P_lss rfl rfl) (by omega)) rfl rfl rfl ?_
          refine VS_pure (P_move rfl) rfl rfl rfl ?_
          iterate 5 (refine VS_skip rfl rfl rfl ?_)
          refine VS_pure (P_pick_f rfl rfl) rfl rfl rfl ?_
          refine VS_nil ?_
          refine QS_then ?_
          refine TS_false rfl ?_
          refine TS_exit ?_
          refine QS_then_exit ?_
          refine QS_round4_exit ?_
          refine QS_block_here ?_
          refine QS_block ?_
          have hst3 : Stp (pMany 2 pText) b s3 l (St.bad k a) := Stp.bind (q := fun n => pN pText n) hn (hst.stop hj)
          have hl65 : l.length ≤ 65535 := by omega
          have hlA : ∀ {aa}, (St.bad k a) = .ok aa → I64 n1 ∧ ∀ s ∈ l, s.length ≤ 65535 := fun {aa} ha => by
            rw [ha] at hst3
            obtain ⟨a0, e0, e1⟩ := hst3.ok
            exact ⟨hn64 a0 e0, pMany_all (Q := fun s => s.length ≤ 65535) (fun _ _ _ h => pText_len h) e1⟩
          exact QS_round ⟨⟨3, n1, [], [], l, acn0, 0, 0, []⟩, (St.bad k a), _, _⟩ ⟨rfl, rfl, rfl, rfl, rfl, trivial⟩ (Pick.trans (L2 := [_, _, _]) (.cons (.there .here) (.cons .here (.cons .here (.nil _)))) (Pick.trans Pick.pack1 (.cons (.there .here) (.cons (.there .here) (.cons .here (.nil _)))))) ⟨h3 _ _ (Stp.map (f := fun t => Ltr.mk 3 n1 [] [] t acn0 0 0 []) hst3 hf3), ⟨_, _, _, _, _, _, _, _, _, _, _, _, _, _, rfl⟩, fun a ha ns hi => ⟨_, _, _, _, _, rfl, BytesE.z _, StrsE.ofOwn (hi.1 _ List.mem_cons_self) hl65, IntsE.z _, PairsE.z _, EvsE.z _, (show U8 3 from ⟨by decide, by decide⟩), (hlA ha).1, Nat.zero_le _, fun s hs => Nat.le_trans ((hlA ha).2 s hs) (by decide), acn0_N, u8_0, i64_0⟩⟩ (by decide)
      | ok a =>
        by_cases hlt : l.length < n
        · unfold rdE
          refine TS_seq ?_
          refine TS_seq ?_
          refine TS_region ?_
          refine VS_pure (P_move rfl) rfl rfl rfl ?_
          refine VS_pure (P_move rfl) rfl rfl rfl ?_
          refine VS_pure (dt (P_lss rfl rfl) (by omega)) rfl rfl rfl ?_
          refine VS_pure (P_move rfl) rfl rfl rfl ?_
          refine VS_pure (P_move rfl) rfl rfl rfl ?_
          refine VS_pure (P_nilCheck rfl) rfl rfl rfl ?_
          refine VS_pure (P_fieldAddr0 fo103_2 rfl) rfl rfl rfl ?_
          refine VS_read (S_loadB sg3 rfl (.here) rfl) rfl rfl rfl ?_
          refine VS_pure (dt (P_lss rfl rfl) (by omega)) rfl rfl rfl ?_
          refine VS_pure (P_pick_t rfl rfl) rfl rfl rfl ?_
          refine VS_nil ?_
          refine QS_then ?_
          refine TS_true rfl ?_
          refine TS_skip ?_
          refine QS_then ?_
          refine TS_seq ?_
          refine TS_block ?_
          refine TS_seq ?_
          refine TS_region ?_
          refine VS_pure (P_move rfl) rfl rfl rfl ?_
          refine VS_step ((S_callL cl37 rfl (.cons .here .nil) (fun m' hm he => bytesD (hr.mono hm) hb hc (.ok a) (hst.fits hf4)) rfl ?_)) rfl
          rintro _ _ ⟨tx, s5, A2, c2, ht, htl, rfl, rfl⟩
          refine VS_pure (P_assign rfl) rfl rfl rfl ?_
          refine VS_nil ?_
          refine QS_then ?_
          refine TS_region ?_
          refine VS_pure (P_fieldAddr0 fo32_4 rfl) rfl rfl rfl ?_
          refine VS_read (S_loadB sg23 rfl (.there (.there (.there (.here)))) rfl) rfl rfl rfl ?_
          refine VS_pure (P_move rfl) rfl rfl rfl ?_
          refine VS_read (fun h hs => R_bstr bt22 st9 rfl rfl (Own.rd (hs.get (.there .here)))) rfl rfl rfl ?_
          refine VS_step (S_buildSlice sl23 rfl rfl rfl rfl (fun b3 => ?_)) rfl
          refine VS_step (S_append sl23 rfl rfl rfl rfl (.here) (fun _ _ => (.there (.there (.there (.here))))) rfl rfl (by first | omega | (simp only [maxLen]; omega)) (by omega) rfl (fun A1 c1 => ?_)) rfl
          refine VS_pure (P_fieldAddr0 fo32_4 rfl) rfl rfl rfl ?_
          refine VS_step (S_store co23 rfl rfl rfl (.there (.there (.there (.there (.here))))) (.there (.there (.there (.there (.here))))) ?_) rfl
          refine VS_nil ?_
          refine QS_block ?_
          refine QS_then ?_
          refine TS_region ?_
          refine VS_pure (P_move rfl) rfl rfl rfl ?_
          refine VS_pure (P_add rfl rfl (w64 (by omega) (by omega))) rfl rfl rfl ?_
          refine VS_pure (P_assign rfl) rfl rfl rfl ?_
          refine VS_nil ?_
          refine QS_round4 (Le.refl _) (l.length + 1) A1 c1 (l ++ [tx], s5) ⟨rfl, by rfl, rfl, rfl, rfl, rfl, rfl, trivial⟩ ?_ ⟨hlt, by simp, Stp.snoc hst ht hf4⟩ (by omega)
          dsimp only
          rw [List.length_append, List.length_singleton, List.map_append, List.map_cons, List.map_nil]
          exact .cons (.there .here) (.cons (.there (.there .here)) (.cons (.there (.there .here)) (.nil _)))
        · unfold rdE
          refine TS_seq ?_
          refine TS_seq ?_
          refine TS_region ?_
          refine VS_pure (P_move rfl) rfl rfl rfl ?_
          refine VS_pure (P_move rfl) rfl rfl rfl ?_
          refine VS_pure (df (P_lss rfl rfl) (by omega)) rfl rfl rfl ?_
          refine VS_pure (P_move rfl) rfl rfl rfl ?_
          iterate 5 (refine VS_skip rfl rfl rfl ?_)
          refine VS_pure (P_pick_f rfl rfl) rfl rfl rfl ?_
          refine VS_nil ?_
          refine QS_then ?_
          refine TS_false rfl ?_
          refine TS_exit ?_
          refine QS_then_exit ?_
          refine QS_round4_exit ?_
          refine QS_block_here ?_
          refine QS_block ?_
          have e : l.length = n := by omega
          have hst3 : Stp (pMany 2 pText) b s3 l (St.ok a) := Stp.bind (q := fun n => pN pText n) hn (by rw [← e]; exact hst)
          have hl65 : l.length ≤ 65535 := by omega
          have hlA : ∀ {aa}, (St.ok a) = .ok aa → I64 n1 ∧ ∀ s ∈ l, s.length ≤ 65535 := fun {aa} ha => by
            rw [ha] at hst3
            obtain ⟨a0, e0, e1⟩ := hst3.ok
            exact ⟨hn64 a0 e0, pMany_all (Q := fun s => s.length ≤ 65535) (fun _ _ _ h => pText_len h) e1⟩
          exact QS_round ⟨⟨3, n1, [], [], l, acn0, 0, 0, []⟩, (St.ok a), _, _⟩ ⟨rfl, rfl, rfl, rfl, rfl, trivial⟩ (Pick.trans (L2 := [_, _, _]) (.cons (.there .here) (.cons .here (.cons .here (.nil _)))) (Pick.trans Pick.pack1 (.cons (.there .here) (.cons (.there .here) (.cons .here (.nil _)))))) ⟨h3 _ _ (Stp.map (f := fun t => Ltr.mk 3 n1 [] [] t acn0 0 0 []) hst3 hf3), ⟨_, _, _, _, _, _, _, _, _, _, _, _, _, _, rfl⟩, fun a ha ns hi => ⟨_, _, _, _, _, rfl, BytesE.z _, StrsE.ofOwn (hi.1 _ List.mem_cons_self) hl65, IntsE.z _, PairsE.z _, EvsE.z _, (show U8 3 from ⟨by decide, by decide⟩), (hlA ha).1, Nat.zero_le _, fun s hs => Nat.le_trans ((hlA ha).2 s hs) (by decide), acn0_N, u8_0, i64_0⟩⟩ (by decide)
    by_cases g66 : k = 66
    · subst g66
      refine TS_region ?_
      refine VS_pure (P_fieldAddr0 fo32_0 rfl) rfl rfl rfl ?_
      refine VS_read (S_loadB sg5 rfl (.there (.here)) rfl) rfl rfl rfl ?_
      refine VS_nil ?_
      refine QS_then ?_
      refine TS_block ?_
      refine TS_seq ?_
      refine TS_seq ?_
      refine TS_region ?_
      refine VS_pure (df (P_eql rfl rfl) (by assumption)) rfl rfl rfl ?_
      refine VS_pure (P_assign rfl) rfl rfl rfl ?_
      refine VS_nil ?_
      refine QS_then ?_
      refine TS_false rfl ?_
      refine TS_seq ?_
      refine TS_region ?_
      refine VS_pure (df (P_eql rfl rfl) (by assumption)) rfl rfl rfl ?_
      refine VS_pure (P_assign rfl) rfl rfl rfl ?_
      refine VS_nil ?_
      refine QS_then ?_
      refine TS_false rfl ?_
      refine TS_region ?_
      refine VS_pure (df (P_eql rfl rfl) (by assumption)) rfl rfl rfl ?_
      refine VS_pure (P_assign rfl) rfl rfl rfl ?_
      refine VS_nil ?_
      refine QS_then ?_
      refine TS_false rfl ?_
      refine TS_seq ?_
      refine TS_region ?_
      refine VS_pure (df (P_eql rfl rfl) (by assumption)) rfl rfl rfl ?_
      refine VS_pure (P_assign rfl) rfl rfl rfl ?_
      refine VS_nil ?_
      refine QS_then ?_
      refine TS_false rfl ?_
      refine TS_seq ?_
      refine TS_region ?_
      refine VS_pure (df (P_eql rfl rfl) (by assumption)) rfl rfl rfl ?_
      refine VS_pure (P_assign rfl) rfl rfl rfl ?_
      refine VS_nil ?_
      refine QS_then ?_
      refine TS_false rfl ?_
      refine TS_seq ?_
      refine TS_region ?_
      refine VS_pure (df (P_eql rfl rfl) (by assumption)) rfl rfl rfl ?_
      refine VS_pure (P_assign rfl) rfl rfl rfl ?_
      refine VS_nil ?_
      refine QS_then ?_
      refine TS_false rfl ?_
      refine TS_seq ?_
      refine TS_region ?_
      refine VS_pure (df (P_eql rfl rfl) (by assumption)) rfl rfl rfl ?_
      refine VS_pure (P_assign rfl) rfl rfl rfl ?_
      refine VS_nil ?_
      refine QS_then ?_
      refine TS_false rfl ?_
      refine TS_seq ?_
      refine TS_region ?_
      refine VS_pure (dt (P_eql rfl rfl) rfl) rfl rfl rfl ?_
      refine VS_pure (P_assign rfl) rfl rfl rfl ?_
      refine VS_nil ?_
      refine QS_then ?_
      refine TS_true rfl ?_
      refine TS_seq ?_
      refine TS_region ?_
      refine VS_pure (P_move rfl) rfl rfl rfl ?_
      refine VS_step ((S_callL cl38 rfl (.cons .here .nil) (fun m' hm he => countD (each := 43) (hr.mono hm) hb (by decide) s3 hf3) rfl ?_)) rfl
      rintro _ _ ⟨n, s4, hn, hn0', rfl, rfl⟩
      have hf4 := hn.fits hf3
      have hn65 : n ≤ 65535 := by
        cases s4 with
        | bad k a => rw [hn0' k a rfl]; omega
        | ok a2 =>
          cases s3 with
          | ok a =>
            rcases hn with ⟨a', h, e, _⟩ | ⟨k, a', h, e, _⟩
            · exact (pSize_le h).1
            · cases e
          | bad k a => cases hn
      refine VS_pure (P_assign rfl) rfl rfl rfl ?_
      refine VS_nil ?_
      refine QS_then ?_
      refine TS_seq ?_
      refine TS_region ?_
      refine VS_pure (P_assign rfl) rfl rfl rfl ?_
      refine VS_nil ?_
      refine QS_then ?_
      refine TS_block ?_
      refine TS_nilOwn 55 7 (TS_pack0 ?_)
      refine TS_loop4 (β := List EvR × St) (fun j A' c' t => [(0, .slice A b.length c), (2, .pointer (some ⟨b1, 0, none⟩)), (3, .int .i64 0), (4, .int .i64 0), (5, .pointer (some ⟨b2, 0, none⟩)), (9, .int .i64 (n : Nat)), (10, .int .i64 (j : Nat))]) (fun j A' c' t => [rdE b2 A c b.length t.2, own 55 7 A' t.1.length c' (t.1.flatMap evC), pack (t.1.map evO), cel b1 [.int .u8 66, iV n1, sV [], .slice none 0 0, .slice none 0 0, .int .i8 0, iV 0, iV 0, iV 0, .slice none 0 0, .slice none 0 0, .int .u8 0, iV 0, .slice A' t.1.length c'] 32]) (fun j t => j ≤ n ∧ t.1.length = j ∧ Stp (pN pEvt j) b s4 (t.1.map (·.1)) t.2 ∧ ∀ x ∈ t.1, x.1.cards.length ≤ 65535) (fun j => n - j) 0 none 0 ([], s4) ⟨rfl, rfl, rfl, rfl, rfl, rfl, rfl, trivial⟩ (.cons (.there (.there .here)) (.cons (.there .here) (.cons .here (.cons .here (.nil _))))) ⟨Nat.zero_le _, rfl, Stp.pure hf4, fun _ h => by cases h⟩ ?_
      rintro j A' c' ⟨l, t1⟩ ⟨hj, hl, hst, hcl⟩
      dsimp only at hl hst hcl ⊢
      subst hl
      have hx1 := evs_len l
      cases t1 with
      | bad k a =>
        unfold rdE
        by_cases hlt : l.length < n
        · refine TS_seq ?_
          refine TS_seq ?_
          refine TS_region ?_
          refine VS_pure (P_move rfl) rfl rfl rfl ?_
          refine VS_pure (P_move rfl) rfl rfl rfl ?_
          refine VS_pure (dt (P_lss rfl rfl) (by omega)) rfl rfl rfl ?_
          refine VS_pure (P_move rfl) rfl rfl rfl ?_
          refine VS_pure (P_move rfl) rfl rfl rfl ?_
          refine VS_pure (P_nilCheck rfl) rfl rfl rfl ?_
          refine VS_pure (P_fieldAddr0 fo103_2 rfl) rfl rfl rfl ?_
          refine VS_read (S_loadB sg3 rfl (.here) rfl) rfl rfl rfl ?_
          refine VS_pure (df (P_lss rfl rfl) (by omega)) rfl rfl rfl ?_
          refine VS_pure (P_pick_t rfl rfl) rfl rfl rfl ?_
          refine VS_nil ?_
          refine QS_then ?_
          refine TS_false rfl ?_
          refine TS_exit ?_
          refine QS_then_exit ?_
          refine QS_round4_exit ?_
          refine QS_block_here ?_
          refine QS_block ?_
          have hst3 : Stp (pMany 43 pEvt) b s3 (l.map (·.1)) (St.bad k a) := Stp.bind (q := fun n => pN pEvt n) hn (hst.stop hj)
          have hl65 : l.length ≤ 65535 := by omega
          have hlA : ∀ {aa}, (St.bad k a) = .ok aa → I64 n1 ∧ ∀ s ∈ l, EvtN s.1 := fun {aa} ha => by
            rw [ha] at hst3
            obtain ⟨a0, e0, e1⟩ := hst3.ok
            have htq := pMany_all (Q := fun x => EvtN x) (fun _ _ _ h => (pEvt_N h).1) e1
            exact ⟨hn64 a0 e0, fun s hs => htq _ (List.mem_map.2 ⟨s, hs, rfl⟩)⟩
          exact QS_round ⟨⟨66, n1, [], [], [], acn0, 0, 0, l.map (·.1)⟩, (St.bad k a), _, _⟩ ⟨rfl, rfl, rfl, rfl, rfl, trivial⟩ (Pick.trans (L2 := [_, _, _, _]) (.cons (.there .here) (.cons (.there .here) (.cons .here (.cons .here (.nil _))))) (Pick.trans Pick.pack2 (.cons (.there .here) (.cons (.there .here) (.cons .here (.nil _)))))) ⟨h3 _ _ (Stp.map (f := fun t => Ltr.mk 66 n1 [] [] [] acn0 0 0 t) hst3 hf3), ⟨_, _, _, _, _, _, _, _, _, _, _, _, _, _, rfl⟩, fun a ha ns hi => ⟨_, _, _, _, _, rfl, BytesE.z _, StrsE.z _, IntsE.z _, PairsE.z _, EvsE.ofOwn (hi.1 _ List.mem_cons_self) (hi.1 _ (List.mem_cons_of_mem _ List.mem_cons_self)) hl65 hcl (hlA ha).2, (show U8 66 from ⟨by decide, by decide⟩), (hlA ha).1, Nat.zero_le _, noS, acn0_N, u8_0, i64_0⟩⟩ (by decide)
        · refine TS_seq ?_
          refine TS_seq ?_
          refine TS_region ?_
          refine VS_pure (P_move rfl) rfl rfl rfl ?_
          refine VS_pure (P_move rfl) rfl rfl rfl ?_
          refine VS_pure (df (P_lss rfl rfl) (by omega)) rfl rfl rfl ?_
          refine VS_pure (P_move rfl) rfl rfl rfl ?_
          iterate 5 (refine VS_skip rfl rfl rfl ?_)
          refine VS_pure (P_pick_f rfl rfl) rfl rfl rfl ?_
          refine VS_nil ?_
          refine QS_then ?_
          refine TS_false rfl ?_
          refine TS_exit ?_
          refine QS_then_exit ?_
          refine QS_round4_exit ?_
          refine QS_block_here ?_
          refine QS_block ?_
          have hst3 : Stp (pMany 43 pEvt) b s3 (l.map (·.1)) (St.bad k a) := Stp.bind (q := fun n => pN pEvt n) hn (hst.stop hj)
          have hl65 : l.length ≤ 65535 := by omega
          have hlA : ∀ {aa}, (St.bad k a) = .ok aa → I64 n1 ∧ ∀ s ∈ l, EvtN s.1 := fun {aa} ha => by
            rw [ha] at hst3
            obtain ⟨a0, e0, e1⟩ := hst3.ok
            have htq := pMany_all (Q := fun x => EvtN x) (fun _ _ _ h => (pEvt_N h).1) e1
            exact ⟨hn64 a0 e0, fun s hs => htq _ (List.mem_map.2 ⟨s, hs, rfl⟩)⟩
          exact QS_round ⟨⟨66, n1, [], [], [], acn0, 0, 0, l.map (·.1)⟩, (St.bad k a), _, _⟩ ⟨rfl, rfl, rfl, rfl, rfl, trivial⟩ (Pick.trans (L2 := [_, _, _, _]) (.cons (.there .here) (.cons (.there .here) (.cons .here (.cons .here (.nil _))))) (Pick.trans Pick.pack2 (.cons (.there .here) (.cons (.there .here) (.cons .here (.nil _)))))) ⟨h3 _ _ (Stp.map (f := fun t => Ltr.mk 66 n1 [] [] [] acn0 0 0 t) hst3 hf3), ⟨_, _, _, _, _, _, _, _, _, _, _, _, _, _, rfl⟩, fun a ha ns hi => ⟨_, _, _, _, _, rfl, BytesE.z _, StrsE.z _, IntsE.z _, PairsE.z _, EvsE.ofOwn (hi.1 _ List.mem_cons_self) (hi.1 _ (List.mem_cons_of_mem _ List.mem_cons_self)) hl65 hcl (hlA ha).2, (show U8 66 from ⟨by decide, by decide⟩), (hlA ha).1, Nat.zero_le _, noS, acn0_N, u8_0, i64_0⟩⟩ (by decide)
      | ok a =>
        by_cases hlt : l.length < n
        · unfold rdE
          refine TS_seq ?_
          refine TS_seq ?_
          refine TS_region ?_
          refine VS_pure (P_move rfl) rfl rfl rfl ?_
          refine VS_pure (P_move rfl) rfl rfl rfl ?_
          refine VS_pure (dt (P_lss rfl rfl) (by omega)) rfl rfl rfl ?_
          refine VS_pure (P_move rfl) rfl rfl rfl ?_
          refine VS_pure (P_move rfl) rfl rfl rfl ?_
          refine VS_pure (P_nilCheck rfl) rfl rfl rfl ?_
          refine VS_pure (P_fieldAddr0 fo103_2 rfl) rfl rfl rfl ?_
          refine VS_read (S_loadB sg3 rfl (.here) rfl) rfl rfl rfl ?_
          refine VS_pure (dt (P_lss rfl rfl) (by omega)) rfl rfl rfl ?_
          refine VS_pure (P_pick_t rfl rfl) rfl rfl rfl ?_
          refine VS_nil ?_
          refine QS_then ?_
          refine TS_true rfl ?_
          refine TS_skip ?_
          refine QS_then ?_
          refine TS_seq ?_
          refine TS_block ?_
          refine TS_seq ?_
          refine TS_region ?_
          refine VS_pure (P_move rfl) rfl rfl rfl ?_
          refine VS_step ((S_callL cl40 rfl (.cons .here .nil) (fun m' hm he => eventD (hr.mono hm) hb (.ok a) (hst.fits hf4)) rfl ?_)) rfl
          rintro _ _ ⟨ev, s5, Ai, ci, ht, hil, rfl, rfl⟩
          unfold evtC7
          refine VS_step (S_alloc zl55 rfl (fun b3 => ?_)) rfl
          refine VS_step (S_storeAgg ag55 rfl rfl rfl (.here) rfl rfl ?_) rfl
          refine VS_nil ?_
          refine QS_then ?_
          refine TS_region ?_
          refine VS_pure (P_fieldAddr0 fo32_8 rfl) rfl rfl rfl ?_
          refine VS_read (S_loadB sg30 rfl (.there (.there (.there (.there (.there (.here)))))) rfl) rfl rfl rfl ?_
          refine VS_read (S_loadBA ag55 rfl (.here) rfl) rfl rfl rfl ?_
          refine VS_step (S_buildSlice sl30 rfl rfl rfl rfl (fun b4 => ?_)) rfl
          refine VS_step (S_append sl30 rfl rfl rfl rfl (.here) (fun _ _ => (.there (.there (.there (.there (.here)))))) rfl rfl (by first | omega | (simp only [maxLen]; omega)) (by omega) rfl (fun A1 c1 => ?_)) rfl
          refine VS_pure (P_fieldAddr0 fo32_8 rfl) rfl rfl rfl ?_
          refine VS_step (S_store co30 rfl rfl rfl (.there (.there (.there (.there (.there (.there (.here))))))) (.there (.there (.there (.there (.there (.there (.there (.there (.there (.there (.there (.there (.there (.here)))))))))))))) ?_) rfl
          refine VS_nil ?_
          refine QS_block ?_
          refine QS_then ?_
          refine TS_region ?_
          refine VS_pure (P_move rfl) rfl rfl rfl ?_
          refine VS_pure (P_add rfl rfl (w64 (by omega) (by omega))) rfl rfl rfl ?_
          refine VS_pure (P_assign rfl) rfl rfl rfl ?_
          refine VS_nil ?_
          refine QS_round4 (Le.refl _) (l.length + 1) A1 c1 (l ++ [(ev, Ai, ci)], s5) ⟨rfl, by rfl, rfl, rfl, rfl, rfl, rfl, trivial⟩ ?_ ⟨hlt, by simp, by rw [List.map_append]; exact Stp.snoc hst ht hf4, fun s hs => by
            rcases List.mem_append.1 hs with h | h
            · exact hcl s h
            · rw [List.mem_singleton.1 h]; exact hil⟩ (by omega)
          dsimp only
          rw [List.length_append, List.length_singleton, List.flatMap_append, List.map_append, List.flatMap_cons, List.flatMap_nil, List.append_nil]
          intro m1 h1 hs1
          have hs2 : HS m1 [pack (l.map evO), evO (ev, Ai, ci), rdE b2 A c b.length s5, own 55 7 A1 (l.length + 1) c1 (l.flatMap evC ++ evC (ev, Ai, ci)), cel b1 [.int .u8 66, iV n1, sV [], .slice none 0 0, .slice none 0 0, .int .i8 0, iV 0, iV 0, iV 0, .slice none 0 0, .slice none 0 0, .int .u8 0, iV 0, .slice A1 (l.length + 1) c1] 32] h1 := (show Pick _ _ from .cons (.there (.there (.there (.there (.there .here))))) (.cons (.there (.there (.there .here))) (.cons (.there (.there .here)) (.cons (.there (.there .here)) (.cons (.there (.there .here)) (.nil _)))))) m1 h1 hs1
          exact (show Pick [pack (l.map evO ++ [evO (ev, Ai, ci)]), rdE b2 A c b.length s5, own 55 7 A1 (l.length + 1) c1 (l.flatMap evC ++ evC (ev, Ai, ci)), cel b1 [.int .u8 66, iV n1, sV [], .slice none 0 0, .slice none 0 0, .int .i8 0, iV 0, iV 0, iV 0, .slice none 0 0, .slice none 0 0, .int .u8 0, iV 0, .slice A1 (l.length + 1) c1] 32] _ from .cons (.there .here) (.cons (.there .here) (.cons .here (.cons .here (.nil _))))) m1 h1 (HS.pack_snoc hs2)
        · unfold rdE
          refine TS_seq ?_
          refine TS_seq ?_
          refine TS_region ?_
          refine VS_pure (P_move rfl) rfl rfl rfl ?_
          refine VS_pure (P_move rfl) rfl rfl rfl ?_
          refine VS_pure (df (P_lss rfl rfl) (by omega)) rfl rfl rfl ?_
          refine VS_pure (P_move rfl) rfl rfl rfl ?_
          iterate 5 (refine VS_skip rfl rfl rfl ?_)
          refine VS_pure (P_pick_f rfl rfl) rfl rfl rfl ?_
          refine VS_nil ?_
          refine QS_then ?_
          refine TS_false rfl ?_
          refine TS_exit ?_
          refine QS_then_exit ?_
          refine QS_round4_exit ?_
          refine QS_block_here ?_
          refine QS_block ?_
          have e : l.length = n := by omega
          have hst3 : Stp (pMany 43 pEvt) b s3 (l.map (·.1)) (St.ok a) := Stp.bind (q := fun n => pN pEvt n) hn (by rw [← e]; exact hst)
          have hl65 : l.length ≤ 65535 := by omega
          have hlA : ∀ {aa}, (St.ok a) = .ok aa → I64 n1 ∧ ∀ s ∈ l, EvtN s.1 := fun {aa} ha => by
            rw [ha] at hst3
            obtain ⟨a0, e0, e1⟩ := hst3.ok
            have htq := pMany_all (Q := fun x => EvtN x) (fun _ _ _ h => (pEvt_N h).1) e1
            exact ⟨hn64 a0 e0, fun s hs => htq _ (List.mem_map.2 ⟨s, hs, rfl⟩)⟩
          exact QS_round ⟨⟨66, n1, [], [], [], acn0, 0, 0, l.map (·.1)⟩, (St.ok a), _, _⟩ ⟨rfl, rfl, rfl, rfl, rfl, trivial⟩ (Pick.trans (L2 := [_, _, _, _]) (.cons (.there .here) (.cons (.there .here) (.cons .here (.cons .here (.nil _))))) (Pick.trans Pick.pack2 (.cons (.there .here) (.cons (.there .here) (.cons .here (.nil _)))))) ⟨h3 _ _ (Stp.map (f := fun t => Ltr.mk 66 n1 [] [] [] acn0 0 0 t) hst3 hf3), ⟨_, _, _, _, _, _, _, _, _, _, _, _, _, _, rfl⟩, fun a ha ns hi => ⟨_, _, _, _, _, rfl, BytesE.z _, StrsE.z _, IntsE.z _, PairsE.z _, EvsE.ofOwn (hi.1 _ List.mem_cons_self) (hi.1 _ (List.mem_cons_of_mem _ List.mem_cons_self)) hl65 hcl (hlA ha).2, (show U8 66 from ⟨by decide, by decide⟩), (hlA ha).1, Nat.zero_le _, noS, acn0_N, u8_0, i64_0⟩⟩ (by decide)
    refine TS_region ?_
    refine VS_pure (P_fieldAddr0 fo32_0 rfl) rfl rfl rfl ?_
    refine VS_read (S_loadB sg5 rfl (.there (.here)) rfl) rfl rfl rfl ?_
    refine VS_nil ?_
    refine QS_then ?_
    refine TS_block ?_
    refine TS_seq ?_
    refine TS_seq ?_
    refine TS_region ?_
    refine VS_pure (df (P_eql rfl rfl) (by assumption)) rfl rfl rfl ?_
    refine VS_pure (P_assign rfl) rfl rfl rfl ?_
    refine VS_nil ?_
    refine QS_then ?_
    refine TS_false rfl ?_
    refine TS_seq ?_
    refine TS_region ?_
    refine VS_pure (df (P_eql rfl rfl) (by assumption)) rfl rfl rfl ?_
    refine VS_pure (P_assign rfl) rfl rfl rfl ?_
    refine VS_nil ?_
    refine QS_then ?_
    refine TS_false rfl ?_
    refine TS_region ?_
    refine VS_pure (df (P_eql rfl rfl) (by assumption)) rfl rfl rfl ?_
    refine VS_pure (P_assign rfl) rfl rfl rfl ?_
    refine VS_nil ?_
    refine QS_then ?_
    refine TS_false rfl ?_
    refine TS_seq ?_
    refine TS_region ?_
    refine VS_pure (df (P_eql rfl rfl) (by assumption)) rfl rfl rfl ?_
    refine VS_pure (P_assign rfl) rfl rfl rfl ?_
    refine VS_nil ?_
    refine QS_then ?_
    refine TS_false rfl ?_
    refine TS_seq ?_
    refine TS_region ?_
    refine VS_pure (df (P_eql rfl rfl) (by assumption)) rfl rfl rfl ?_
    refine VS_pure (P_assign rfl) rfl rfl rfl ?_
    refine VS_nil ?_
    refine QS_then ?_
    refine TS_false rfl ?_
    refine TS_seq ?_
    refine TS_region ?_
    refine VS_pure (df (P_eql rfl rfl) (by assumption)) rfl rfl rfl ?_
    refine VS_pure (P_assign rfl) rfl rfl rfl ?_
    refine VS_nil ?_
    refine QS_then ?_
    refine TS_false rfl ?_
    refine TS_seq ?_
    refine TS_region ?_
    refine VS_pure (df (P_eql rfl rfl) (by assumption)) rfl rfl rfl ?_
    refine VS_pure (P_assign rfl) rfl rfl rfl ?_
    refine VS_nil ?_
    refine QS_then ?_
    refine TS_false rfl ?_
    refine TS_seq ?_
    refine TS_region ?_
    refine VS_pure (df (P_eql rfl rfl) (by assumption)) rfl rfl rfl ?_
    refine VS_pure (P_assign rfl) rfl rfl rfl ?_
    refine VS_nil ?_
    refine QS_then ?_
    refine TS_false rfl ?_
    refine TS_skip ?_
    refine QS_block ?_
    exact QS_round ⟨⟨k, n1, [], [], [], acn0, 0, 0, []⟩, s3, _, _⟩ ⟨rfl, rfl, rfl, rfl, rfl, trivial⟩ (Pick.trans Pick.pack0 (.cons (.there .here) (.cons (.there .here) (.cons .here (.nil _))))) ⟨h3 _ _ (by rw [pRest_z g1 g64 g8 g2 g3 g4 g65 g67 g66]; exact Stp.pure hf3), ⟨_, _, _, _, _, _, _, _, _, _, _, _, _, _, rfl⟩, fun a ha ns hi => ⟨_, _, _, _, _, rfl, BytesE.z _, StrsE.z _, IntsE.z _, PairsE.z _, EvsE.z _, hk8, (hn64 a ha), Nat.zero_le _, noS, acn0_N, u8_0, i64_0⟩⟩ (by decide)
  rintro ⟨x, s4, cs, e⟩ ⟨hst, ⟨v0, v1, v2, v3, v4, v5, v6, v7, v8, v9, v10, v11, v12, v13, hcs⟩, hlt⟩
  dsimp only at hst hcs hlt ⊢
  have hpr : pRead b = (pHead b 0).bind fun l a1 => if a1 < b.length then .bad a1 else .ok l a1 := by
    rw [pRead, if_neg hbig, pAll, pHead]
    cases pByte b 0 with
    | bad k => rfl
    | ok k a =>
      show (if _ then _ else _) = Res.bind (if _ then _ else _) _
      by_cases g : known (k.toNat : Int) = true
      · rw [if_pos g, if_pos g]
      · rw [if_neg g, if_neg g]; rfl
  rcases hst with ⟨a, hx, rfl, ha⟩ | ⟨k1, a, hx, rfl, ha, hk1⟩
  · have hl := hlt a rfl
    by_cases hend : a < b.length
    · subst hcs
      have hbd : pRead b = .bad a := by rw [hpr, hx]; exact if_pos hend
      unfold rdE
      refine TS_seq ?_
      refine TS_seq ?_
      refine TS_region ?_
      refine VS_pure (P_move rfl) rfl rfl rfl ?_
      refine VS_pure (P_nilCheck rfl) rfl rfl rfl ?_
      refine VS_pure (P_fieldAddr0 fo103_2 rfl) rfl rfl rfl ?_
      refine VS_read (S_loadB sg3 rfl (.here) rfl) rfl rfl rfl ?_
      refine VS_pure (dt (P_lss rfl rfl) (by omega)) rfl rfl rfl ?_
      refine VS_pure (P_move rfl) rfl rfl rfl ?_
      refine VS_pure (P_move rfl) rfl rfl rfl ?_
      refine VS_pure (P_nilCheck rfl) rfl rfl rfl ?_
      refine VS_pure (P_fieldAddr0 fo103_1 rfl) rfl rfl rfl ?_
      refine VS_read (S_loadB sg3 rfl (.here) rfl) rfl rfl rfl ?_
      refine VS_pure (P_move rfl) rfl rfl rfl ?_
      refine VS_pure (P_len il22 rfl) rfl rfl rfl ?_
      refine VS_pure (dt (P_lss rfl rfl) (by omega)) rfl rfl rfl ?_
      refine VS_pure (P_pick_t rfl rfl) rfl rfl rfl ?_
      refine VS_nil ?_
      refine QS_then ?_
      refine TS_true rfl ?_
      refine TS_region ?_
      refine VS_pure (P_move rfl) rfl rfl rfl ?_
      refine VS_pure (P_move rfl) rfl rfl rfl ?_
      refine VS_pure (P_nilCheck rfl) rfl rfl rfl ?_
      refine VS_pure (P_fieldAddr0 fo103_1 rfl) rfl rfl rfl ?_
      refine VS_read (S_loadB sg3 rfl (.here) rfl) rfl rfl rfl ?_
      refine VS_step ((S_callL cl35 rfl (.cons .here .nil) (fun m' hm he => wrong_ok (A := A) (c := c) (n := b.length) (k := a) (a := a)) rfl ?_)) rfl
      rintro _ _ ⟨rfl, rfl⟩
      unfold rdE
      refine VS_nil ?_
      refine QS_then ?_
      refine TS_seq ?_
      refine TS_seq ?_
      refine TS_region ?_
      refine VS_pure (P_move rfl) rfl rfl rfl ?_
      refine VS_pure (P_nilCheck rfl) rfl rfl rfl ?_
      refine VS_pure (P_fieldAddr0 fo103_2 rfl) rfl rfl rfl ?_
      refine VS_read (S_loadB sg3 rfl (.here) rfl) rfl rfl rfl ?_
      refine VS_pure (dt (P_geq rfl rfl) (by omega)) rfl rfl rfl ?_
      refine VS_nil ?_
      refine QS_then ?_
      refine TS_true rfl ?_
      refine TS_seq ?_
      refine TS_draw (.step 0 .pure (.step 1 .pure (.step 2 .pure (.step 3 .pure (.fork (.step 4 .kept (.step 5 .wild (.step 6 .pure (.step 7 .pure (.done))))) (.step 5 .wild (.step 4 .read (.step 6 .pure (.step 7 .pure (.done)))))))))) mixed (by kernel_rfl) (fun _ _ _ _ hq => hq) ?_
      refine VTS_pure rfl (P_build zl32 pl32 rfl rfl) rfl rfl rfl ?_
      refine VTS_pure rfl (P_move rfl) rfl rfl rfl ?_
      refine VTS_pure rfl (P_nilCheck rfl) rfl rfl rfl ?_
      refine VTS_pure rfl (P_fieldAddr0 fo103_2 rfl) rfl rfl rfl ?_
      refine VTS_fork ?_ ?_
      refine VTS_readK rfl (S_loadB sg3 rfl (.here) rfl) rfl rfl rfl ?_
      refine VTS_wild rfl rfl (S_storeAgg ag32 rfl rfl rfl (.there (.here)) rfl rfl ?_) rfl
      refine VTS_pure rfl (P_assign rfl) rfl rfl rfl ?_
      refine VTS_pure rfl (P_assign rfl) rfl rfl rfl ?_
      refine VTS_nil ?_
      refine QS_then ?_
      refine TS_ret ?_
      refine QS_then_ret ?_
      · exact QS_ret [_, _, _] ⟨⟨_, _, _, _, rfl, .there .here, .inr ⟨ag32, rfl⟩⟩, rfl, rfl, trivial⟩ [] (Pick.nil _) (.inr ⟨a, hbd, rfl, rfl⟩)
      · refine VTS_wild rfl rfl (S_storeAgg ag32 rfl rfl rfl (.there (.here)) rfl rfl ?_) rfl
        refine VTS_read rfl (S_loadB sg3 rfl (.here) rfl) rfl rfl rfl ?_
        refine VTS_pure rfl (P_assign rfl) rfl rfl rfl ?_
        refine VTS_pure rfl (P_assign rfl) rfl rfl rfl ?_
        refine VTS_nil ?_
        refine QS_then ?_
        refine TS_ret ?_
        refine QS_then_ret ?_
        exact QS_ret [_, _, _] ⟨⟨_, _, _, _, rfl, .there .here, .inr ⟨ag32, rfl⟩⟩, rfl, rfl, trivial⟩ [] (Pick.nil _) (.inr ⟨a, hbd, rfl, rfl⟩)
    · have hgd : pRead b = .ok x a := by rw [hpr, hx]; exact if_neg hend
      refine TS_fact (p := ∃ m0 : Mp, LtA m0 cs x) (fun h hs => ⟨_, hl _ (hs.get (.there (.there .here)))⟩) (fun hm0 => ?_)
      obtain ⟨m0, hm1⟩ := hm0
      obtain ⟨vb, vc, vi, vp, ve, rfl, ⟨q1, q2, rfl, _⟩, ⟨q3, q4, rfl, _⟩, ⟨q5, q6, rfl, _⟩, ⟨q7, q8, rfl, _⟩, ⟨q9, q10, rfl, _⟩, _⟩ := hm1
      unfold rdE
      refine TS_seq ?_
      refine TS_seq ?_
      refine TS_region ?_
      refine VS_pure (P_move rfl) rfl rfl rfl ?_
      refine VS_pure (P_nilCheck rfl) rfl rfl rfl ?_
      refine VS_pure (P_fieldAddr0 fo103_2 rfl) rfl rfl rfl ?_
      refine VS_read (S_loadB sg3 rfl (.here) rfl) rfl rfl rfl ?_
      refine VS_pure (dt (P_lss rfl rfl) (by omega)) rfl rfl rfl ?_
      refine VS_pure (P_move rfl) rfl rfl rfl ?_
      refine VS_pure (P_move rfl) rfl rfl rfl ?_
      refine VS_pure (P_nilCheck rfl) rfl rfl rfl ?_
      refine VS_pure (P_fieldAddr0 fo103_1 rfl) rfl rfl rfl ?_
      refine VS_read (S_loadB sg3 rfl (.here) rfl) rfl rfl rfl ?_
      refine VS_pure (P_move rfl) rfl rfl rfl ?_
      refine VS_pure (P_len il22 rfl) rfl rfl rfl ?_
      refine VS_pure (df (P_lss rfl rfl) (by omega)) rfl rfl rfl ?_
      refine VS_pure (P_pick_t rfl rfl) rfl rfl rfl ?_
      refine VS_nil ?_
      refine QS_then ?_
      refine TS_false rfl ?_
      refine TS_skip ?_
      refine QS_then ?_
      refine TS_seq ?_
      refine TS_seq ?_
      refine TS_region ?_
      refine VS_pure (P_move rfl) rfl rfl rfl ?_
      refine VS_pure (P_nilCheck rfl) rfl rfl rfl ?_
      refine VS_pure (P_fieldAddr0 fo103_2 rfl) rfl rfl rfl ?_
      refine VS_read (S_loadB sg3 rfl (.here) rfl) rfl rfl rfl ?_
      refine VS_pure (df (P_geq rfl rfl) (by omega)) rfl rfl rfl ?_
      refine VS_nil ?_
      refine QS_then ?_
      refine TS_false rfl ?_
      refine TS_skip ?_
      refine QS_then ?_
      refine TS_seq ?_
      refine TS_region ?_
      refine VS_read (S_loadBA ag32 rfl (.there (.here)) rfl) rfl rfl rfl ?_
      refine VS_step (S_storeAgg ag32 rfl rfl rfl (.there (.here)) rfl rfl ?_) rfl
      refine VS_pure (P_assign rfl) rfl rfl rfl ?_
      refine VS_pure (P_assign rfl) rfl rfl rfl ?_
      refine VS_nil ?_
      refine QS_then ?_
      refine TS_ret ?_
      exact QS_ret [_, _, _] ⟨⟨_, _, _, _, rfl, .there .here, .inr ⟨ag32, rfl⟩⟩, rfl, rfl, trivial⟩ [_] (.cons (.there (.there .here)) (.nil _)) (.inl ⟨x, a, _, e, hgd, rfl, rfl, hl⟩)
  · subst hcs
    have hbd : pRead b = .bad k1 := by rw [hpr, hx]; rfl
    unfold rdE
    refine TS_seq ?_
    refine TS_seq ?_
    refine TS_region ?_
    refine VS_pure (P_move rfl) rfl rfl rfl ?_
    refine VS_pure (P_nilCheck rfl) rfl rfl rfl ?_
    refine VS_pure (P_fieldAddr0 fo103_2 rfl) rfl rfl rfl ?_
    refine VS_read (S_loadB sg3 rfl (.here) rfl) rfl rfl rfl ?_
    refine VS_pure (df (P_lss rfl rfl) (by omega)) rfl rfl rfl ?_
    refine VS_pure (P_move rfl) rfl rfl rfl ?_
    iterate 7 (refine VS_skip rfl rfl rfl ?_)
    refine VS_pure (P_pick_f rfl rfl) rfl rfl rfl ?_
    refine VS_nil ?_
    refine QS_then ?_
    refine TS_false rfl ?_
    refine TS_skip ?_
    refine QS_then ?_
    refine TS_seq ?_
    refine TS_seq ?_
    refine TS_region ?_
    refine VS_pure (P_move rfl) rfl rfl rfl ?_
    refine VS_pure (P_nilCheck rfl) rfl rfl rfl ?_
    refine VS_pure (P_fieldAddr0 fo103_2 rfl) rfl rfl rfl ?_
    refine VS_read (S_loadB sg3 rfl (.here) rfl) rfl rfl rfl ?_
    refine VS_pure (dt (P_geq rfl rfl) (by omega)) rfl rfl rfl ?_
    refine VS_nil ?_
    refine QS_then ?_
    refine TS_true rfl ?_
    refine TS_seq ?_
    refine TS_draw (.step 0 .pure (.step 1 .pure (.step 2 .pure (.step 3 .pure (.fork (.step 4 .kept (.step 5 .wild (.step 6 .pure (.step 7 .pure (.done))))) (.step 5 .wild (.step 4 .read (.step 6 .pure (.step 7 .pure (.done)))))))))) mixed (by kernel_rfl) (fun _ _ _ _ hq => hq) ?_
    refine VTS_pure rfl (P_build zl32 pl32 rfl rfl) rfl rfl rfl ?_
    refine VTS_pure rfl (P_move rfl) rfl rfl rfl ?_
    refine VTS_pure rfl (P_nilCheck rfl) rfl rfl rfl ?_
    refine VTS_pure rfl (P_fieldAddr0 fo103_2 rfl) rfl rfl rfl ?_
    refine VTS_fork ?_ ?_
    refine VTS_readK rfl (S_loadB sg3 rfl (.here) rfl) rfl rfl rfl ?_
    refine VTS_wild rfl rfl (S_storeAgg ag32 rfl rfl rfl (.there (.here)) rfl rfl ?_) rfl
    refine VTS_pure rfl (P_assign rfl) rfl rfl rfl ?_
    refine VTS_pure rfl (P_assign rfl) rfl rfl rfl ?_
    refine VTS_nil ?_
    refine QS_then ?_
    refine TS_ret ?_
    refine QS_then_ret ?_
    · exact QS_ret [_, _, _] ⟨⟨_, _, _, _, rfl, .there .here, .inr ⟨ag32, rfl⟩⟩, rfl, rfl, trivial⟩ [] (Pick.nil _) (.inr ⟨k1, hbd, rfl, rfl⟩)
    · refine VTS_wild rfl rfl (S_storeAgg ag32 rfl rfl rfl (.there (.here)) rfl rfl ?_) rfl
      refine VTS_read rfl (S_loadB sg3 rfl (.here) rfl) rfl rfl rfl ?_
      refine VTS_pure rfl (P_assign rfl) rfl rfl rfl ?_
      refine VTS_pure rfl (P_assign rfl) rfl rfl rfl ?_
      refine VTS_nil ?_
      refine QS_then ?_
      refine TS_ret ?_
      refine QS_then_ret ?_
      exact QS_ret [_, _, _] ⟨⟨_, _, _, _, rfl, .there .here, .inr ⟨ag32, rfl⟩⟩, rfl, rfl, trivial⟩ [] (Pick.nil _) (.inr ⟨k1, hbd, rfl, rfl⟩)
end Go.Proofs.Ytbpihgphicmdiaa
