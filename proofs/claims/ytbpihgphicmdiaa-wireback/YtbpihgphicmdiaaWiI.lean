/- A part of the proof: contracts of functions of the program. No condition. -/
import Derived.Test.YtbpihgphicmdiaaWiQ
namespace Go.Proofs.Ytbpihgphicmdiaa
open Go.Eng Wi
set_option maxRecDepth 100000
instance (n : Int) : Decidable (I64 n) := by unfold I64; exact inferInstance
instance (n : Int) : Decidable (I8 n) := by unfold I8; exact inferInstance
instance (n : Int) : Decidable (U8 n) := by unfold U8; exact inferInstance
/-- a message's value, and the letter that it is -/
inductive MsgR (m : Mp) : Value → Ltr → Prop
  | login (vb : Value) (bytes : List UInt8) (hb : BytesE m vb bytes) : MsgR m (.iface 61 (.agg ([vb] : List Value).toArray)) ⟨1, 0, [], bytes, [], acn0, 0, 0, []⟩
  | make (t : Int) (text : List UInt8) (ht : I64 t) (hx : text.length ≤ 140737488355328) : MsgR m (.iface 66 (.agg ([iV t, sV text] : List Value).toArray)) ⟨2, t, text, [], [], acn0, 0, 0, []⟩
  | deck (t : Int) (vc : Value) (cards : List (List UInt8)) (ht : I64 t) (hc : StrsE m vc cards) (hx : ∀ s ∈ cards, s.length ≤ 140737488355328) : MsgR m (.iface 68 (.agg ([iV t, vc] : List Value).toArray)) ⟨3, t, [], [], cards, acn0, 0, 0, []⟩
  | act (t : Int) (a : Acn) (vi vp : Value) (ht : I64 t) (ho : ActN a) (hi : IntsE m vi a.ids) (hp : PairsE m vp a.pairs) : MsgR m (.iface 70 (.agg ([iV t, .int .i8 a.op, iV a.side, iV a.place, iV a.target, vi, vp] : List Value).toArray)) ⟨4, t, [], [], [], a, 0, 0, []⟩
  | look (t : Int) (ht : I64 t) : MsgR m (.iface 59 (.agg ([iV t] : List Value).toArray)) ⟨5, t, [], [], [], acn0, 0, 0, []⟩
  | replay (t : Int) (ht : I64 t) : MsgR m (.iface 71 (.agg ([iV t] : List Value).toArray)) ⟨6, t, [], [], [], acn0, 0, 0, []⟩
  | audit (t : Int) (ht : I64 t) : MsgR m (.iface 72 (.agg ([iV t] : List Value).toArray)) ⟨7, t, [], [], [], acn0, 0, 0, []⟩
  | bye  : MsgR m (.iface 57 (.agg ([] : List Value).toArray)) ⟨8, 0, [], [], [], acn0, 0, 0, []⟩
  | reply (to_ e : Int) (ho : U8 to_) (ht : I64 e) : MsgR m (.iface 64 (.agg ([.int .u8 to_, iV e] : List Value).toArray)) ⟨64, 0, [], [], [], acn0, to_, e, []⟩
  | seen (t : Int) (vb : Value) (bytes : List UInt8) (ht : I64 t) (hb : BytesE m vb bytes) : MsgR m (.iface 74 (.agg ([iV t, vb] : List Value).toArray)) ⟨65, t, [], bytes, [], acn0, 0, 0, []⟩
  | told (t : Int) (ve : Value) (evs : List Evt) (ht : I64 t) (he : EvsE m ve evs) : MsgR m (.iface 76 (.agg ([iV t, ve] : List Value).toArray)) ⟨66, t, [], [], [], acn0, 0, 0, evs⟩
  | book (t : Int) (vb : Value) (bytes : List UInt8) (ht : I64 t) (hb : BytesE m vb bytes) : MsgR m (.iface 78 (.agg ([iV t, vb] : List Value).toArray)) ⟨67, t, [], bytes, [], acn0, 0, 0, []⟩
theorem MsgR.mono {m m' : Mp} {v : Value} {x : Ltr} (h : MsgR m v x) (hl : Le m m') : MsgR m' v x := by
  cases h with
  | login vb bytes hb => exact .login vb bytes (hb.mono hl)
  | make t text ht hx => exact .make t text ht hx
  | deck t vc cards ht hc hx => exact .deck t vc cards ht (hc.mono hl) hx
  | act t a vi vp ht ho hi hp => exact .act t a vi vp ht ho (hi.mono hl) (hp.mono hl)
  | look t ht => exact .look t ht
  | replay t ht => exact .replay t ht
  | audit t ht => exact .audit t ht
  | bye  => exact .bye 
  | reply to_ e ho ht => exact .reply to_ e ho ht
  | seen t vb bytes ht hb => exact .seen t vb bytes ht (hb.mono hl)
  | told t ve evs ht he => exact .told t ve evs ht (he.mono hl)
  | book t vb bytes ht hb => exact .book t vb bytes ht (hb.mono hl)
def flatL (x : Ltr) : Ltr :=
  if x.kind = 1 then ⟨1, 0, [], x.bytes, [], acn0, 0, 0, []⟩ else
  if x.kind = 2 then ⟨2, x.table, x.text, [], [], acn0, 0, 0, []⟩ else
  if x.kind = 3 then ⟨3, x.table, [], [], x.cards, acn0, 0, 0, []⟩ else
  if x.kind = 4 then ⟨4, x.table, [], [], [], x.act, 0, 0, []⟩ else
  if x.kind = 5 then ⟨5, x.table, [], [], [], acn0, 0, 0, []⟩ else
  if x.kind = 6 then ⟨6, x.table, [], [], [], acn0, 0, 0, []⟩ else
  if x.kind = 7 then ⟨7, x.table, [], [], [], acn0, 0, 0, []⟩ else
  if x.kind = 8 then ⟨8, 0, [], [], [], acn0, 0, 0, []⟩ else
  if x.kind = 64 then ⟨64, 0, [], [], [], acn0, x.to_, x.e, []⟩ else
  if x.kind = 65 then ⟨65, x.table, [], x.bytes, [], acn0, 0, 0, []⟩ else
  if x.kind = 66 then ⟨66, x.table, [], [], [], acn0, 0, 0, x.evs⟩ else
  if x.kind = 67 then ⟨67, x.table, [], x.bytes, [], acn0, 0, 0, []⟩ else
  ⟨0, 0, [], [], [], acn0, 0, 0, []⟩
theorem int_len {α : Type} {l : List α} : ((l.length : Int) = 0) ↔ l = [] := by rw [← List.length_eq_zero_iff]; omega
theorem flat_1 {x : Ltr} (hk : x.kind = 1) : flatL x = ⟨1, 0, [], x.bytes, [], acn0, 0, 0, []⟩ := by simp [flatL, hk]
theorem flat_2 {x : Ltr} (hk : x.kind = 2) : flatL x = ⟨2, x.table, x.text, [], [], acn0, 0, 0, []⟩ := by simp [flatL, hk]
theorem flat_3 {x : Ltr} (hk : x.kind = 3) : flatL x = ⟨3, x.table, [], [], x.cards, acn0, 0, 0, []⟩ := by simp [flatL, hk]
theorem flat_4 {x : Ltr} (hk : x.kind = 4) : flatL x = ⟨4, x.table, [], [], [], x.act, 0, 0, []⟩ := by simp [flatL, hk]
theorem flat_5 {x : Ltr} (hk : x.kind = 5) : flatL x = ⟨5, x.table, [], [], [], acn0, 0, 0, []⟩ := by simp [flatL, hk]
theorem flat_6 {x : Ltr} (hk : x.kind = 6) : flatL x = ⟨6, x.table, [], [], [], acn0, 0, 0, []⟩ := by simp [flatL, hk]
theorem flat_7 {x : Ltr} (hk : x.kind = 7) : flatL x = ⟨7, x.table, [], [], [], acn0, 0, 0, []⟩ := by simp [flatL, hk]
theorem flat_8 {x : Ltr} (hk : x.kind = 8) : flatL x = ⟨8, 0, [], [], [], acn0, 0, 0, []⟩ := by simp [flatL, hk]
theorem flat_64 {x : Ltr} (hk : x.kind = 64) : flatL x = ⟨64, 0, [], [], [], acn0, x.to_, x.e, []⟩ := by simp [flatL, hk]
theorem flat_65 {x : Ltr} (hk : x.kind = 65) : flatL x = ⟨65, x.table, [], x.bytes, [], acn0, 0, 0, []⟩ := by simp [flatL, hk]
theorem flat_66 {x : Ltr} (hk : x.kind = 66) : flatL x = ⟨66, x.table, [], [], [], acn0, 0, 0, x.evs⟩ := by simp [flatL, hk]
theorem flat_67 {x : Ltr} (hk : x.kind = 67) : flatL x = ⟨67, x.table, [], x.bytes, [], acn0, 0, 0, []⟩ := by simp [flatL, hk]
theorem known_or {x : Int} (h : known x = true) : x = 1 ∨ x = 2 ∨ x = 3 ∨ x = 4 ∨ x = 5 ∨ x = 6 ∨ x = 7 ∨ x = 8 ∨ x = 64 ∨ x = 65 ∨ x = 66 ∨ x = 67 := by
  have := of_decide_eq_true h
  omega
theorem flat_right {x : Ltr} (hk : known x.kind = true) : (flatL x = x) ↔ rightP x = true := by
  have hcase := known_or hk
  unfold rightP
  rw [hk, Bool.true_and]
  obtain ⟨kind, table, text, bytes, cards, act, to_, e, evs⟩ := x
  simp only at hcase hk
  rcases hcase with rfl | rfl | rfl | rfl | rfl | rfl | rfl | rfl | rfl | rfl | rfl | rfl <;>
    simp [flatL, r7, r6, r5, r4, r3, r2, r1, rt, rb, int_len, eq_comm (b := act), and_assoc, eq_comm (a := (0 : Int)), eq_comm (a := ([] : List UInt8)), eq_comm (a := ([] : List (List UInt8))), eq_comm (a := ([] : List Evt))] <;>
    (try intro h0) <;> (constructor <;> (intro h; simp_all))
theorem BytesE0 (m : Mp) : BytesE m (.slice none 0 0) [] := ⟨none, 0, rfl, (fun h => absurd h (by simp)), Nat.zero_le _, fun i hi => absurd hi (by simp)⟩
theorem StrsE0 (m : Mp) : StrsE m (.slice none 0 0) [] := ⟨none, 0, rfl, (fun h => absurd h (by simp)), Nat.zero_le _, fun i hi => absurd hi (by simp)⟩
theorem IntsE0 (m : Mp) : IntsE m (.slice none 0 0) [] := ⟨none, 0, rfl, (fun h => absurd h (by simp)), Nat.zero_le _, fun i hi => absurd hi (by simp)⟩
theorem PairsE0 (m : Mp) : PairsE m (.slice none 0 0) [] := ⟨none, 0, rfl, (fun h => absurd h (by simp)), Nat.zero_le _, fun i hi => absurd hi (by simp)⟩
theorem EvsE0 (m : Mp) : EvsE m (.slice none 0 0) [] := ⟨none, 0, rfl, (fun h => absurd h (by simp)), Nat.zero_le _, fun i hi => absurd hi (by simp)⟩
theorem ActN0 : ActN acn0 := ⟨by decide, by decide, by decide, by decide⟩
theorem I640 : I64 0 := by decide
theorem U80 : U8 0 := by decide
/-- Flat: a message as a letter -/
theorem Flat_ok {m : Mp} {v : Value} {x : Ltr} (h : MsgR m v x) : ∃ lx, LtA m lx x ∧ rightP x = true ∧ (x.kind = 1 → ∃ vb, lx[3]? = some vb ∧ v = .iface 61 (.agg [vb].toArray)) ∧ (x.kind = 64 → v = .iface 64 (.agg [.int .u8 x.to_, iV x.e].toArray)) ∧ ∀ m', CS Try.prog 11 [v] m' [] (Gives (.tuple [.agg lx.toArray, .int .i64 0].toArray)) := by
  cases h with
  | login vb bytes hb =>
    have hb2 := hb
    obtain ⟨a_hb, c_hb, rfl, _⟩ := hb2
    exact ⟨_, ⟨_, _, _, _, _, rfl, hb, StrsE0 m, IntsE0 m, PairsE0 m, EvsE0 m, (show U8 1 by decide), I640, (by simp), (by simp), ActN0, U80, I640⟩, rfl, (fun _ => ⟨_, rfl, rfl⟩), (fun h => absurd h (by show ¬ (1 : Int) = 64; decide)), fun m' => Flat61 _ _ _⟩
  | make t text ht hx =>
    exact ⟨_, ⟨_, _, _, _, _, rfl, BytesE0 m, StrsE0 m, IntsE0 m, PairsE0 m, EvsE0 m, (show U8 2 by decide), ht, hx, (by simp), ActN0, U80, I640⟩, rfl, (fun h => absurd h (by show ¬ (2 : Int) = 1; decide)), (fun h => absurd h (by show ¬ (2 : Int) = 64; decide)), fun m' => Flat66 _ _⟩
  | deck t vc cards ht hc hx =>
    have hc2 := hc
    obtain ⟨a_hc, c_hc, rfl, _⟩ := hc2
    exact ⟨_, ⟨_, _, _, _, _, rfl, BytesE0 m, hc, IntsE0 m, PairsE0 m, EvsE0 m, (show U8 3 by decide), ht, (by simp), hx, ActN0, U80, I640⟩, rfl, (fun h => absurd h (by show ¬ (3 : Int) = 1; decide)), (fun h => absurd h (by show ¬ (3 : Int) = 64; decide)), fun m' => Flat68 _ _ _ _⟩
  | act t a vi vp ht ho hi hp =>
    have hi2 := hi
    obtain ⟨a_hi, c_hi, rfl, _⟩ := hi2
    have hp2 := hp
    obtain ⟨a_hp, c_hp, rfl, _⟩ := hp2
    exact ⟨_, ⟨_, _, _, _, _, rfl, BytesE0 m, StrsE0 m, hi, hp, EvsE0 m, (show U8 4 by decide), ht, (by simp), (by simp), ho, U80, I640⟩, rfl, (fun h => absurd h (by show ¬ (4 : Int) = 1; decide)), (fun h => absurd h (by show ¬ (4 : Int) = 64; decide)), fun m' => Flat70 _ _ _ _ _ _ _ _ _ _ _⟩
  | look t ht =>
    exact ⟨_, ⟨_, _, _, _, _, rfl, BytesE0 m, StrsE0 m, IntsE0 m, PairsE0 m, EvsE0 m, (show U8 5 by decide), ht, (by simp), (by simp), ActN0, U80, I640⟩, rfl, (fun h => absurd h (by show ¬ (5 : Int) = 1; decide)), (fun h => absurd h (by show ¬ (5 : Int) = 64; decide)), fun m' => Flat59 _⟩
  | replay t ht =>
    exact ⟨_, ⟨_, _, _, _, _, rfl, BytesE0 m, StrsE0 m, IntsE0 m, PairsE0 m, EvsE0 m, (show U8 6 by decide), ht, (by simp), (by simp), ActN0, U80, I640⟩, rfl, (fun h => absurd h (by show ¬ (6 : Int) = 1; decide)), (fun h => absurd h (by show ¬ (6 : Int) = 64; decide)), fun m' => Flat71 _⟩
  | audit t ht =>
    exact ⟨_, ⟨_, _, _, _, _, rfl, BytesE0 m, StrsE0 m, IntsE0 m, PairsE0 m, EvsE0 m, (show U8 7 by decide), ht, (by simp), (by simp), ActN0, U80, I640⟩, rfl, (fun h => absurd h (by show ¬ (7 : Int) = 1; decide)), (fun h => absurd h (by show ¬ (7 : Int) = 64; decide)), fun m' => Flat72 _⟩
  | bye  =>
    exact ⟨_, ⟨_, _, _, _, _, rfl, BytesE0 m, StrsE0 m, IntsE0 m, PairsE0 m, EvsE0 m, (show U8 8 by decide), I640, (by simp), (by simp), ActN0, U80, I640⟩, rfl, (fun h => absurd h (by show ¬ (8 : Int) = 1; decide)), (fun h => absurd h (by show ¬ (8 : Int) = 64; decide)), fun m' => Flat57 ⟩
  | reply to_ e ho ht =>
    exact ⟨_, ⟨_, _, _, _, _, rfl, BytesE0 m, StrsE0 m, IntsE0 m, PairsE0 m, EvsE0 m, (show U8 64 by decide), I640, (by simp), (by simp), ActN0, ho, ht⟩, rfl, (fun h => absurd h (by show ¬ (64 : Int) = 1; decide)), (fun _ => rfl), fun m' => Flat64 _ _⟩
  | seen t vb bytes ht hb =>
    have hb2 := hb
    obtain ⟨a_hb, c_hb, rfl, _⟩ := hb2
    exact ⟨_, ⟨_, _, _, _, _, rfl, hb, StrsE0 m, IntsE0 m, PairsE0 m, EvsE0 m, (show U8 65 by decide), ht, (by simp), (by simp), ActN0, U80, I640⟩, rfl, (fun h => absurd h (by show ¬ (65 : Int) = 1; decide)), (fun h => absurd h (by show ¬ (65 : Int) = 64; decide)), fun m' => Flat74 _ _ _ _⟩
  | told t ve evs ht he =>
    have he2 := he
    obtain ⟨a_he, c_he, rfl, _⟩ := he2
    exact ⟨_, ⟨_, _, _, _, _, rfl, BytesE0 m, StrsE0 m, IntsE0 m, PairsE0 m, he, (show U8 66 by decide), ht, (by simp), (by simp), ActN0, U80, I640⟩, rfl, (fun h => absurd h (by show ¬ (66 : Int) = 1; decide)), (fun h => absurd h (by show ¬ (66 : Int) = 64; decide)), fun m' => Flat76 _ _ _ _⟩
  | book t vb bytes ht hb =>
    have hb2 := hb
    obtain ⟨a_hb, c_hb, rfl, _⟩ := hb2
    exact ⟨_, ⟨_, _, _, _, _, rfl, hb, StrsE0 m, IntsE0 m, PairsE0 m, EvsE0 m, (show U8 67 by decide), ht, (by simp), (by simp), ActN0, U80, I640⟩, rfl, (fun h => absurd h (by show ¬ (67 : Int) = 1; decide)), (fun h => absurd h (by show ¬ (67 : Int) = 64; decide)), fun m' => Flat78 _ _ _ _⟩
/-- Of: a letter as a message, or refused -/
def OfPost (lx : List Value) (x : Ltr) (v : Value) (L' : List Ent) : Prop := L' = [] ∧ ((rightP x = true ∧ ∃ w, (∀ m0, LtA m0 lx x → MsgR m0 w x) ∧ v = .tuple [w, .int .i64 0].toArray) ∨ (rightP x = false ∧ v = .tuple [.nilIface, .int .i64 2].toArray))
set_option maxHeartbeats 8000000 in
theorem Of_no {m : Mp} {lx : List Value} {x : Ltr} (hx : LtA m lx x) (hk : known x.kind = false) : CS Try.prog 9 [.agg lx.toArray] m [] (OfPost lx x) := by
  obtain ⟨vb, vc, vi, vp, ve, rfl, xb, xc, xi, xp, xe, xr⟩ := hx
  refine CS_of [.tmp 2, .tmp 3] Try.func9 rfl rfl rfl ?_
  have hn := of_decide_eq_false hk
  have k1 : ¬ x.kind = 1 := by omega
  have k2 : ¬ x.kind = 2 := by omega
  have k3 : ¬ x.kind = 3 := by omega
  have k4 : ¬ x.kind = 4 := by omega
  have k5 : ¬ x.kind = 5 := by omega
  have k6 : ¬ x.kind = 6 := by omega
  have k7 : ¬ x.kind = 7 := by omega
  have k8 : ¬ x.kind = 8 := by omega
  have k64 : ¬ x.kind = 64 := by omega
  have k65 : ¬ x.kind = 65 := by omega
  have k66 : ¬ x.kind = 66 := by omega
  have k67 : ¬ x.kind = 67 := by omega
  refine TS_seq ?_
  refine TS_region ?_
  refine VS_step (S_box rfl rfl (fun b1 => ?_)) rfl
  refine VS_pure (P_assign rfl) rfl rfl rfl ?_
  refine VS_pure (P_assign rfl) rfl rfl rfl ?_
  refine VS_nil ?_
  refine QS_then ?_
  refine TS_seq ?_
  refine TS_region ?_
  refine VS_pure (P_assign rfl) rfl rfl rfl ?_
  refine VS_nil ?_
  refine QS_then ?_
  refine TS_seq ?_
  refine TS_seq ?_
  refine TS_region ?_
  refine VS_pure (P_fieldAddr0 fo32_0 rfl) rfl rfl rfl ?_
  refine VS_read (S_loadB sg5 rfl (.here) rfl) rfl rfl rfl ?_
  refine VS_nil ?_
  refine QS_then ?_
  refine TS_block ?_
  refine TS_seq ?_
  refine TS_region ?_
  refine VS_pure (df (P_eql rfl rfl) (by assumption)) rfl rfl rfl ?_
  refine VS_pure (P_assign rfl) rfl rfl rfl ?_
  refine VS_nil ?_
  refine QS_then ?_
  refine TS_false rfl ?_
  refine TS_seq ?_
  refine TS_region ?_
  refine VS_pure (df (P_eql rfl rfl) (by assumption)) rfl rfl rfl ?_
  refine VS_pure (P_assign rfl) rfl rfl rfl ?_
  refine VS_nil ?_
  refine QS_then ?_
  refine TS_false rfl ?_
  refine TS_seq ?_
  refine TS_region ?_
  refine VS_pure (df (P_eql rfl rfl) (by assumption)) rfl rfl rfl ?_
  refine VS_pure (P_assign rfl) rfl rfl rfl ?_
  refine VS_nil ?_
  refine QS_then ?_
  refine TS_false rfl ?_
  refine TS_seq ?_
  refine TS_region ?_
  refine VS_pure (df (P_eql rfl rfl) (by assumption)) rfl rfl rfl ?_
  refine VS_pure (P_assign rfl) rfl rfl rfl ?_
  refine VS_nil ?_
  refine QS_then ?_
  refine TS_false rfl ?_
  refine TS_seq ?_
  refine TS_region ?_
  refine VS_pure (df (P_eql rfl rfl) (by assumption)) rfl rfl rfl ?_
  refine VS_pure (P_assign rfl) rfl rfl rfl ?_
  refine VS_nil ?_
  refine QS_then ?_
  refine TS_false rfl ?_
  refine TS_seq ?_
  refine TS_region ?_
  refine VS_pure (df (P_eql rfl rfl) (by assumption)) rfl rfl rfl ?_
  refine VS_pure (P_assign rfl) rfl rfl rfl ?_
  refine VS_nil ?_
  refine QS_then ?_
  refine TS_false rfl ?_
  refine TS_seq ?_
  refine TS_region ?_
  refine VS_pure (df (P_eql rfl rfl) (by assumption)) rfl rfl rfl ?_
  refine VS_pure (P_assign rfl) rfl rfl rfl ?_
  refine VS_nil ?_
  refine QS_then ?_
  refine TS_false rfl ?_
  refine TS_seq ?_
  refine TS_region ?_
  refine VS_pure (df (P_eql rfl rfl) (by assumption)) rfl rfl rfl ?_
  refine VS_pure (P_assign rfl) rfl rfl rfl ?_
  refine VS_nil ?_
  refine QS_then ?_
  refine TS_false rfl ?_
  refine TS_seq ?_
  refine TS_region ?_
  refine VS_pure (df (P_eql rfl rfl) (by assumption)) rfl rfl rfl ?_
  refine VS_pure (P_assign rfl) rfl rfl rfl ?_
  refine VS_nil ?_
  refine QS_then ?_
  refine TS_false rfl ?_
  refine TS_seq ?_
  refine TS_region ?_
  refine VS_pure (df (P_eql rfl rfl) (by assumption)) rfl rfl rfl ?_
  refine VS_pure (P_assign rfl) rfl rfl rfl ?_
  refine VS_nil ?_
  refine QS_then ?_
  refine TS_false rfl ?_
  refine TS_seq ?_
  refine TS_region ?_
  refine VS_pure (df (P_eql rfl rfl) (by assumption)) rfl rfl rfl ?_
  refine VS_pure (P_assign rfl) rfl rfl rfl ?_
  refine VS_nil ?_
  refine QS_then ?_
  refine TS_false rfl ?_
  refine TS_seq ?_
  refine TS_region ?_
  refine VS_pure (df (P_eql rfl rfl) (by assumption)) rfl rfl rfl ?_
  refine VS_pure (P_assign rfl) rfl rfl rfl ?_
  refine VS_nil ?_
  refine QS_then ?_
  refine TS_false rfl ?_
  refine TS_seq ?_
  refine TS_region ?_
  refine VS_pure (P_assign rfl) rfl rfl rfl ?_
  refine VS_pure (P_assign rfl) rfl rfl rfl ?_
  refine VS_nil ?_
  refine QS_then ?_
  refine TS_ret ?_
  refine QS_block_ret ?_
  refine QS_then_ret ?_
  exact QS_ret [_, _] ⟨rfl, rfl, trivial⟩ [] (Pick.nil _) ⟨rfl, .inr ⟨by rw [rightP, hk, Bool.false_and], rfl⟩⟩
set_option maxHeartbeats 8000000 in
theorem Of_1 {m : Mp} {lx : List Value} {x : Ltr} (hx : LtA m lx x) (hk : x.kind = 1) : CS Try.prog 9 [.agg lx.toArray] m [] (OfPost lx x) := by
  have hz := hx
  obtain ⟨vb, vc, vi, vp, ve, rfl, xb, xc, xi, xp, xe, xr⟩ := hx
  refine CS_of [.tmp 2, .tmp 3] Try.func9 rfl rfl rfl ?_
  have xb2 := xb
  have xc2 := xc
  have xi2 := xi
  have xp2 := xp
  have xe2 := xe
  obtain ⟨a1, d1, rfl, _⟩ := xb2
  obtain ⟨a2, d2, rfl, _⟩ := xc2
  obtain ⟨a3, d3, rfl, _⟩ := xi2
  obtain ⟨a4, d4, rfl, _⟩ := xp2
  obtain ⟨a5, d5, rfl, _⟩ := xe2
  have hfr := flat_right (x := x) (by rw [hk]; rfl)
  rw [flat_1 hk] at hfr
  refine TS_seq ?_
  refine TS_region ?_
  refine VS_step (S_box rfl rfl (fun b1 => ?_)) rfl
  refine VS_pure (P_assign rfl) rfl rfl rfl ?_
  refine VS_pure (P_assign rfl) rfl rfl rfl ?_
  refine VS_nil ?_
  refine QS_then ?_
  refine TS_seq ?_
  refine TS_region ?_
  refine VS_pure (P_assign rfl) rfl rfl rfl ?_
  refine VS_nil ?_
  refine QS_then ?_
  refine TS_seq ?_
  refine TS_seq ?_
  refine TS_region ?_
  refine VS_pure (P_fieldAddr0 fo32_0 rfl) rfl rfl rfl ?_
  refine VS_read (S_loadB sg5 rfl (.here) rfl) rfl rfl rfl ?_
  refine VS_nil ?_
  refine QS_then ?_
  refine TS_block ?_
  refine TS_seq ?_
  refine TS_region ?_
  refine VS_pure (dt (P_eql rfl rfl) (by assumption)) rfl rfl rfl ?_
  refine VS_pure (P_assign rfl) rfl rfl rfl ?_
  refine VS_nil ?_
  refine QS_then ?_
  refine TS_true rfl ?_
  refine TS_region ?_
  refine VS_pure (P_fieldAddr0 fo32_3 rfl) rfl rfl rfl ?_
  refine VS_read (S_loadB sg22 rfl (.here) rfl) rfl rfl rfl ?_
  refine VS_pure (P_build zl61 pl61 rfl rfl) rfl rfl rfl ?_
  refine VS_pure (P_mkIface ni61 us61 rfl) rfl rfl rfl ?_
  refine VS_pure (P_assign rfl) rfl rfl rfl ?_
  refine VS_nil ?_
  refine QS_block ?_
  refine QS_then ?_
  refine TS_seq ?_
  refine TS_seq ?_
  refine TS_region ?_
  refine VS_pure (P_move rfl) rfl rfl rfl ?_
  refine VS_step (S_callR cl11 rfl (fun m' hm he => (Flat61 _ _ _)) rfl ?_) rfl
  rintro _ rfl
  refine VS_pure (P_move rfl) rfl rfl rfl ?_
  refine VS_pure (P_extract rfl rfl) rfl rfl rfl ?_
  refine VS_pure (P_extract rfl rfl) rfl rfl rfl ?_
  refine VS_step (S_alloc zl32 rfl (fun b2 => ?_)) rfl
  refine VS_step (S_storeAgg ag32 rfl rfl rfl (.here) rfl rfl ?_) rfl
  refine VS_pure (P_assign rfl) rfl rfl rfl ?_
  refine VS_nil ?_
  refine QS_then ?_
  refine TS_seq ?_
  refine TS_region ?_
  refine VS_read (S_loadBA ag32 rfl (.here) rfl) rfl rfl rfl ?_
  refine VS_read (S_loadBA ag32 rfl (.there (.here)) rfl) rfl rfl rfl ?_
  by_cases hq : (⟨1, 0, [], x.bytes, [], acn0, 0, 0, []⟩ : Ltr) = x
  · refine VS_step (S_callR cl19 rfl (fun m' hm he => ((same_ok (x := ⟨1, 0, [], x.bytes, [], acn0, 0, 0, []⟩) ⟨_, _, _, _, _, rfl, (xb.mono hm).sl, (StrsE0 _).sl, (IntsE0 _).sl, (PairsE0 _).sl, (EvsE0 _).sl⟩ (hz.mono hm).lt))) rfl ?_) rfl
    rintro _ rfl
    rw [decide_eq_true hq]
    have hr := hfr.1 hq
    refine VS_pure (P_not rfl) rfl rfl rfl ?_
    refine VS_nil ?_
    refine QS_then ?_
    refine TS_false rfl ?_
    refine TS_skip ?_
    refine QS_then ?_
    refine TS_seq ?_
    refine TS_region ?_
    refine VS_pure (P_move rfl) rfl rfl rfl ?_
    refine VS_pure (P_assign rfl) rfl rfl rfl ?_
    refine VS_pure (P_assign rfl) rfl rfl rfl ?_
    refine VS_nil ?_
    refine QS_then ?_
    refine TS_ret ?_
    refine QS_ret [_, _] ⟨rfl, rfl, trivial⟩ [] (Pick.nil _) ⟨rfl, .inl ⟨hr, _, fun m0 h0 => ?_, rfl⟩⟩
    obtain ⟨_, _, _, _, _, heq, xb, xc, xi, xp, xe, xr⟩ := h0
    simp only [List.cons.injEq, true_and, and_true] at heq
    obtain ⟨rfl, rfl, rfl, rfl, rfl⟩ := heq
    rw [← hq]
    exact .login _ _ xb
  · refine VS_step (S_callR cl19 rfl (fun m' hm he => ((same_ok (x := ⟨1, 0, [], x.bytes, [], acn0, 0, 0, []⟩) ⟨_, _, _, _, _, rfl, (xb.mono hm).sl, (StrsE0 _).sl, (IntsE0 _).sl, (PairsE0 _).sl, (EvsE0 _).sl⟩ (hz.mono hm).lt))) rfl ?_) rfl
    rintro _ rfl
    rw [decide_eq_false hq]
    have hr : rightP x = false := by
      cases hb : rightP x with
      | false => rfl
      | true => exact absurd (hfr.2 hb) hq
    refine VS_pure (P_not rfl) rfl rfl rfl ?_
    refine VS_nil ?_
    refine QS_then ?_
    refine TS_true rfl ?_
    refine TS_seq ?_
    refine TS_region ?_
    refine VS_pure (P_assign rfl) rfl rfl rfl ?_
    refine VS_pure (P_assign rfl) rfl rfl rfl ?_
    refine VS_nil ?_
    refine QS_then ?_
    refine TS_ret ?_
    refine QS_then_ret ?_
    exact QS_ret [_, _] ⟨rfl, rfl, trivial⟩ [] (Pick.nil _) ⟨rfl, .inr ⟨hr, rfl⟩⟩
set_option maxHeartbeats 8000000 in
theorem Of_2 {m : Mp} {lx : List Value} {x : Ltr} (hx : LtA m lx x) (hk : x.kind = 2) : CS Try.prog 9 [.agg lx.toArray] m [] (OfPost lx x) := by
  have hz := hx
  obtain ⟨vb, vc, vi, vp, ve, rfl, xb, xc, xi, xp, xe, xr⟩ := hx
  refine CS_of [.tmp 2, .tmp 3] Try.func9 rfl rfl rfl ?_
  have xb2 := xb
  have xc2 := xc
  have xi2 := xi
  have xp2 := xp
  have xe2 := xe
  obtain ⟨a1, d1, rfl, _⟩ := xb2
  obtain ⟨a2, d2, rfl, _⟩ := xc2
  obtain ⟨a3, d3, rfl, _⟩ := xi2
  obtain ⟨a4, d4, rfl, _⟩ := xp2
  obtain ⟨a5, d5, rfl, _⟩ := xe2
  have hfr := flat_right (x := x) (by rw [hk]; rfl)
  rw [flat_2 hk] at hfr
  refine TS_seq ?_
  refine TS_region ?_
  refine VS_step (S_box rfl rfl (fun b1 => ?_)) rfl
  refine VS_pure (P_assign rfl) rfl rfl rfl ?_
  refine VS_pure (P_assign rfl) rfl rfl rfl ?_
  refine VS_nil ?_
  refine QS_then ?_
  refine TS_seq ?_
  refine TS_region ?_
  refine VS_pure (P_assign rfl) rfl rfl rfl ?_
  refine VS_nil ?_
  refine QS_then ?_
  refine TS_seq ?_
  refine TS_seq ?_
  refine TS_region ?_
  refine VS_pure (P_fieldAddr0 fo32_0 rfl) rfl rfl rfl ?_
  refine VS_read (S_loadB sg5 rfl (.here) rfl) rfl rfl rfl ?_
  refine VS_nil ?_
  refine QS_then ?_
  refine TS_block ?_
  refine TS_seq ?_
  refine TS_region ?_
  refine VS_pure (df (P_eql rfl rfl) (by omega)) rfl rfl rfl ?_
  refine VS_pure (P_assign rfl) rfl rfl rfl ?_
  refine VS_nil ?_
  refine QS_then ?_
  refine TS_false rfl ?_
  refine TS_seq ?_
  refine TS_region ?_
  refine VS_pure (dt (P_eql rfl rfl) (by assumption)) rfl rfl rfl ?_
  refine VS_pure (P_assign rfl) rfl rfl rfl ?_
  refine VS_nil ?_
  refine QS_then ?_
  refine TS_true rfl ?_
  refine TS_region ?_
  refine VS_pure (P_fieldAddr0 fo32_1 rfl) rfl rfl rfl ?_
  refine VS_read (S_loadB sg3 rfl (.here) rfl) rfl rfl rfl ?_
  refine VS_pure (P_fieldAddr0 fo32_2 rfl) rfl rfl rfl ?_
  refine VS_read (S_loadB sg9 rfl (.here) rfl) rfl rfl rfl ?_
  refine VS_pure (P_build zl66 pl66 rfl rfl) rfl rfl rfl ?_
  refine VS_pure (P_mkIface ni66 us66 rfl) rfl rfl rfl ?_
  refine VS_pure (P_assign rfl) rfl rfl rfl ?_
  refine VS_nil ?_
  refine QS_block ?_
  refine QS_then ?_
  refine TS_seq ?_
  refine TS_seq ?_
  refine TS_region ?_
  refine VS_pure (P_move rfl) rfl rfl rfl ?_
  refine VS_step (S_callR cl11 rfl (fun m' hm he => (Flat66 _ _)) rfl ?_) rfl
  rintro _ rfl
  refine VS_pure (P_move rfl) rfl rfl rfl ?_
  refine VS_pure (P_extract rfl rfl) rfl rfl rfl ?_
  refine VS_pure (P_extract rfl rfl) rfl rfl rfl ?_
  refine VS_step (S_alloc zl32 rfl (fun b2 => ?_)) rfl
  refine VS_step (S_storeAgg ag32 rfl rfl rfl (.here) rfl rfl ?_) rfl
  refine VS_pure (P_assign rfl) rfl rfl rfl ?_
  refine VS_nil ?_
  refine QS_then ?_
  refine TS_seq ?_
  refine TS_region ?_
  refine VS_read (S_loadBA ag32 rfl (.here) rfl) rfl rfl rfl ?_
  refine VS_read (S_loadBA ag32 rfl (.there (.here)) rfl) rfl rfl rfl ?_
  by_cases hq : (⟨2, x.table, x.text, [], [], acn0, 0, 0, []⟩ : Ltr) = x
  · refine VS_step (S_callR cl19 rfl (fun m' hm he => ((same_ok (x := ⟨2, x.table, x.text, [], [], acn0, 0, 0, []⟩) ⟨_, _, _, _, _, rfl, (BytesE0 _).sl, (StrsE0 _).sl, (IntsE0 _).sl, (PairsE0 _).sl, (EvsE0 _).sl⟩ (hz.mono hm).lt))) rfl ?_) rfl
    rintro _ rfl
    rw [decide_eq_true hq]
    have hr := hfr.1 hq
    refine VS_pure (P_not rfl) rfl rfl rfl ?_
    refine VS_nil ?_
    refine QS_then ?_
    refine TS_false rfl ?_
    refine TS_skip ?_
    refine QS_then ?_
    refine TS_seq ?_
    refine TS_region ?_
    refine VS_pure (P_move rfl) rfl rfl rfl ?_
    refine VS_pure (P_assign rfl) rfl rfl rfl ?_
    refine VS_pure (P_assign rfl) rfl rfl rfl ?_
    refine VS_nil ?_
    refine QS_then ?_
    refine TS_ret ?_
    refine QS_ret [_, _] ⟨rfl, rfl, trivial⟩ [] (Pick.nil _) ⟨rfl, .inl ⟨hr, _, fun m0 h0 => ?_, rfl⟩⟩
    obtain ⟨_, _, _, _, _, heq, xb, xc, xi, xp, xe, xr⟩ := h0
    simp only [List.cons.injEq, true_and, and_true] at heq
    obtain ⟨rfl, rfl, rfl, rfl, rfl⟩ := heq
    rw [← hq]
    exact .make _ _ xr.2.1 xr.2.2.1
  · refine VS_step (S_callR cl19 rfl (fun m' hm he => ((same_ok (x := ⟨2, x.table, x.text, [], [], acn0, 0, 0, []⟩) ⟨_, _, _, _, _, rfl, (BytesE0 _).sl, (StrsE0 _).sl, (IntsE0 _).sl, (PairsE0 _).sl, (EvsE0 _).sl⟩ (hz.mono hm).lt))) rfl ?_) rfl
    rintro _ rfl
    rw [decide_eq_false hq]
    have hr : rightP x = false := by
      cases hb : rightP x with
      | false => rfl
      | true => exact absurd (hfr.2 hb) hq
    refine VS_pure (P_not rfl) rfl rfl rfl ?_
    refine VS_nil ?_
    refine QS_then ?_
    refine TS_true rfl ?_
    refine TS_seq ?_
    refine TS_region ?_
    refine VS_pure (P_assign rfl) rfl rfl rfl ?_
    refine VS_pure (P_assign rfl) rfl rfl rfl ?_
    refine VS_nil ?_
    refine QS_then ?_
    refine TS_ret ?_
    refine QS_then_ret ?_
    exact QS_ret [_, _] ⟨rfl, rfl, trivial⟩ [] (Pick.nil _) ⟨rfl, .inr ⟨hr, rfl⟩⟩
set_option maxHeartbeats 8000000 in
theorem Of_3 {m : Mp} {lx : List Value} {x : Ltr} (hx : LtA m lx x) (hk : x.kind = 3) : CS Try.prog 9 [.agg lx.toArray] m [] (OfPost lx x) := by
  have hz := hx
  obtain ⟨vb, vc, vi, vp, ve, rfl, xb, xc, xi, xp, xe, xr⟩ := hx
  refine CS_of [.tmp 2, .tmp 3] Try.func9 rfl rfl rfl ?_
  have xb2 := xb
  have xc2 := xc
  have xi2 := xi
  have xp2 := xp
  have xe2 := xe
  obtain ⟨a1, d1, rfl, _⟩ := xb2
  obtain ⟨a2, d2, rfl, _⟩ := xc2
  obtain ⟨a3, d3, rfl, _⟩ := xi2
  obtain ⟨a4, d4, rfl, _⟩ := xp2
  obtain ⟨a5, d5, rfl, _⟩ := xe2
  have hfr := flat_right (x := x) (by rw [hk]; rfl)
  rw [flat_3 hk] at hfr
  refine TS_seq ?_
  refine TS_region ?_
  refine VS_step (S_box rfl rfl (fun b1 => ?_)) rfl
  refine VS_pure (P_assign rfl) rfl rfl rfl ?_
  refine VS_pure (P_assign rfl) rfl rfl rfl ?_
  refine VS_nil ?_
  refine QS_then ?_
  refine TS_seq ?_
  refine TS_region ?_
  refine VS_pure (P_assign rfl) rfl rfl rfl ?_
  refine VS_nil ?_
  refine QS_then ?_
  refine TS_seq ?_
  refine TS_seq ?_
  refine TS_region ?_
  refine VS_pure (P_fieldAddr0 fo32_0 rfl) rfl rfl rfl ?_
  refine VS_read (S_loadB sg5 rfl (.here) rfl) rfl rfl rfl ?_
  refine VS_nil ?_
  refine QS_then ?_
  refine TS_block ?_
  refine TS_seq ?_
  refine TS_region ?_
  refine VS_pure (df (P_eql rfl rfl) (by omega)) rfl rfl rfl ?_
  refine VS_pure (P_assign rfl) rfl rfl rfl ?_
  refine VS_nil ?_
  refine QS_then ?_
  refine TS_false rfl ?_
  refine TS_seq ?_
  refine TS_region ?_
  refine VS_pure (df (P_eql rfl rfl) (by omega)) rfl rfl rfl ?_
  refine VS_pure (P_assign rfl) rfl rfl rfl ?_
  refine VS_nil ?_
  refine QS_then ?_
  refine TS_false rfl ?_
  refine TS_seq ?_
  refine TS_region ?_
  refine VS_pure (dt (P_eql rfl rfl) (by assumption)) rfl rfl rfl ?_
  refine VS_pure (P_assign rfl) rfl rfl rfl ?_
  refine VS_nil ?_
  refine QS_then ?_
  refine TS_true rfl ?_
  refine TS_region ?_
  refine VS_pure (P_fieldAddr0 fo32_1 rfl) rfl rfl rfl ?_
  refine VS_read (S_loadB sg3 rfl (.here) rfl) rfl rfl rfl ?_
  refine VS_pure (P_fieldAddr0 fo32_4 rfl) rfl rfl rfl ?_
  refine VS_read (S_loadB sg23 rfl (.here) rfl) rfl rfl rfl ?_
  refine VS_pure (P_build zl68 pl68 rfl rfl) rfl rfl rfl ?_
  refine VS_pure (P_mkIface ni68 us68 rfl) rfl rfl rfl ?_
  refine VS_pure (P_assign rfl) rfl rfl rfl ?_
  refine VS_nil ?_
  refine QS_block ?_
  refine QS_then ?_
  refine TS_seq ?_
  refine TS_seq ?_
  refine TS_region ?_
  refine VS_pure (P_move rfl) rfl rfl rfl ?_
  refine VS_step (S_callR cl11 rfl (fun m' hm he => (Flat68 _ _ _ _)) rfl ?_) rfl
  rintro _ rfl
  refine VS_pure (P_move rfl) rfl rfl rfl ?_
  refine VS_pure (P_extract rfl rfl) rfl rfl rfl ?_
  refine VS_pure (P_extract rfl rfl) rfl rfl rfl ?_
  refine VS_step (S_alloc zl32 rfl (fun b2 => ?_)) rfl
  refine VS_step (S_storeAgg ag32 rfl rfl rfl (.here) rfl rfl ?_) rfl
  refine VS_pure (P_assign rfl) rfl rfl rfl ?_
  refine VS_nil ?_
  refine QS_then ?_
  refine TS_seq ?_
  refine TS_region ?_
  refine VS_read (S_loadBA ag32 rfl (.here) rfl) rfl rfl rfl ?_
  refine VS_read (S_loadBA ag32 rfl (.there (.here)) rfl) rfl rfl rfl ?_
  by_cases hq : (⟨3, x.table, [], [], x.cards, acn0, 0, 0, []⟩ : Ltr) = x
  · refine VS_step (S_callR cl19 rfl (fun m' hm he => ((same_ok (x := ⟨3, x.table, [], [], x.cards, acn0, 0, 0, []⟩) ⟨_, _, _, _, _, rfl, (BytesE0 _).sl, (xc.mono hm).sl, (IntsE0 _).sl, (PairsE0 _).sl, (EvsE0 _).sl⟩ (hz.mono hm).lt))) rfl ?_) rfl
    rintro _ rfl
    rw [decide_eq_true hq]
    have hr := hfr.1 hq
    refine VS_pure (P_not rfl) rfl rfl rfl ?_
    refine VS_nil ?_
    refine QS_then ?_
    refine TS_false rfl ?_
    refine TS_skip ?_
    refine QS_then ?_
    refine TS_seq ?_
    refine TS_region ?_
    refine VS_pure (P_move rfl) rfl rfl rfl ?_
    refine VS_pure (P_assign rfl) rfl rfl rfl ?_
    refine VS_pure (P_assign rfl) rfl rfl rfl ?_
    refine VS_nil ?_
    refine QS_then ?_
    refine TS_ret ?_
    refine QS_ret [_, _] ⟨rfl, rfl, trivial⟩ [] (Pick.nil _) ⟨rfl, .inl ⟨hr, _, fun m0 h0 => ?_, rfl⟩⟩
    obtain ⟨_, _, _, _, _, heq, xb, xc, xi, xp, xe, xr⟩ := h0
    simp only [List.cons.injEq, true_and, and_true] at heq
    obtain ⟨rfl, rfl, rfl, rfl, rfl⟩ := heq
    rw [← hq]
    exact .deck _ _ _ xr.2.1 xc xr.2.2.2.1
  · refine VS_step (S_callR cl19 rfl (fun m' hm he => ((same_ok (x := ⟨3, x.table, [], [], x.cards, acn0, 0, 0, []⟩) ⟨_, _, _, _, _, rfl, (BytesE0 _).sl, (xc.mono hm).sl, (IntsE0 _).sl, (PairsE0 _).sl, (EvsE0 _).sl⟩ (hz.mono hm).lt))) rfl ?_) rfl
    rintro _ rfl
    rw [decide_eq_false hq]
    have hr : rightP x = false := by
      cases hb : rightP x with
      | false => rfl
      | true => exact absurd (hfr.2 hb) hq
    refine VS_pure (P_not rfl) rfl rfl rfl ?_
    refine VS_nil ?_
    refine QS_then ?_
    refine TS_true rfl ?_
    refine TS_seq ?_
    refine TS_region ?_
    refine VS_pure (P_assign rfl) rfl rfl rfl ?_
    refine VS_pure (P_assign rfl) rfl rfl rfl ?_
    refine VS_nil ?_
    refine QS_then ?_
    refine TS_ret ?_
    refine QS_then_ret ?_
    exact QS_ret [_, _] ⟨rfl, rfl, trivial⟩ [] (Pick.nil _) ⟨rfl, .inr ⟨hr, rfl⟩⟩
set_option maxHeartbeats 8000000 in
theorem Of_4 {m : Mp} {lx : List Value} {x : Ltr} (hx : LtA m lx x) (hk : x.kind = 4) : CS Try.prog 9 [.agg lx.toArray] m [] (OfPost lx x) := by
  have hz := hx
  obtain ⟨vb, vc, vi, vp, ve, rfl, xb, xc, xi, xp, xe, xr⟩ := hx
  refine CS_of [.tmp 2, .tmp 3] Try.func9 rfl rfl rfl ?_
  have xb2 := xb
  have xc2 := xc
  have xi2 := xi
  have xp2 := xp
  have xe2 := xe
  obtain ⟨a1, d1, rfl, _⟩ := xb2
  obtain ⟨a2, d2, rfl, _⟩ := xc2
  obtain ⟨a3, d3, rfl, _⟩ := xi2
  obtain ⟨a4, d4, rfl, _⟩ := xp2
  obtain ⟨a5, d5, rfl, _⟩ := xe2
  have hfr := flat_right (x := x) (by rw [hk]; rfl)
  rw [flat_4 hk] at hfr
  refine TS_seq ?_
  refine TS_region ?_
  refine VS_step (S_box rfl rfl (fun b1 => ?_)) rfl
  refine VS_pure (P_assign rfl) rfl rfl rfl ?_
  refine VS_pure (P_assign rfl) rfl rfl rfl ?_
  refine VS_nil ?_
  refine QS_then ?_
  refine TS_seq ?_
  refine TS_region ?_
  refine VS_pure (P_assign rfl) rfl rfl rfl ?_
  refine VS_nil ?_
  refine QS_then ?_
  refine TS_seq ?_
  refine TS_seq ?_
  refine TS_region ?_
  refine VS_pure (P_fieldAddr0 fo32_0 rfl) rfl rfl rfl ?_
  refine VS_read (S_loadB sg5 rfl (.here) rfl) rfl rfl rfl ?_
  refine VS_nil ?_
  refine QS_then ?_
  refine TS_block ?_
  refine TS_seq ?_
  refine TS_region ?_
  refine VS_pure (df (P_eql rfl rfl) (by omega)) rfl rfl rfl ?_
  refine VS_pure (P_assign rfl) rfl rfl rfl ?_
  refine VS_nil ?_
  refine QS_then ?_
  refine TS_false rfl ?_
  refine TS_seq ?_
  refine TS_region ?_
  refine VS_pure (df (P_eql rfl rfl) (by omega)) rfl rfl rfl ?_
  refine VS_pure (P_assign rfl) rfl rfl rfl ?_
  refine VS_nil ?_
  refine QS_then ?_
  refine TS_false rfl ?_
  refine TS_seq ?_
  refine TS_region ?_
  refine VS_pure (df (P_eql rfl rfl) (by omega)) rfl rfl rfl ?_
  refine VS_pure (P_assign rfl) rfl rfl rfl ?_
  refine VS_nil ?_
  refine QS_then ?_
  refine TS_false rfl ?_
  refine TS_seq ?_
  refine TS_region ?_
  refine VS_pure (dt (P_eql rfl rfl) (by assumption)) rfl rfl rfl ?_
  refine VS_pure (P_assign rfl) rfl rfl rfl ?_
  refine VS_nil ?_
  refine QS_then ?_
  refine TS_true rfl ?_
  refine TS_region ?_
  refine VS_pure (P_fieldAddr0 fo32_1 rfl) rfl rfl rfl ?_
  refine VS_read (S_loadB sg3 rfl (.here) rfl) rfl rfl rfl ?_
  refine VS_pure (P_fieldAddr0 fo32_5 rfl) rfl rfl rfl ?_
  refine VS_read (S_loadBO ag28 rfl (.here) rfl) rfl rfl rfl ?_
  refine VS_pure (P_build zl70 pl70 rfl rfl) rfl rfl rfl ?_
  refine VS_pure (P_mkIface ni70 us70 rfl) rfl rfl rfl ?_
  refine VS_pure (P_assign rfl) rfl rfl rfl ?_
  refine VS_nil ?_
  refine QS_block ?_
  refine QS_then ?_
  refine TS_seq ?_
  refine TS_seq ?_
  refine TS_region ?_
  refine VS_pure (P_move rfl) rfl rfl rfl ?_
  refine VS_step (S_callR cl11 rfl (fun m' hm he => (Flat70 _ _ _ _ _ _ _ _ _ _ _)) rfl ?_) rfl
  rintro _ rfl
  refine VS_pure (P_move rfl) rfl rfl rfl ?_
  refine VS_pure (P_extract rfl rfl) rfl rfl rfl ?_
  refine VS_pure (P_extract rfl rfl) rfl rfl rfl ?_
  refine VS_step (S_alloc zl32 rfl (fun b2 => ?_)) rfl
  refine VS_step (S_storeAgg ag32 rfl rfl rfl (.here) rfl rfl ?_) rfl
  refine VS_pure (P_assign rfl) rfl rfl rfl ?_
  refine VS_nil ?_
  refine QS_then ?_
  refine TS_seq ?_
  refine TS_region ?_
  refine VS_read (S_loadBA ag32 rfl (.here) rfl) rfl rfl rfl ?_
  refine VS_read (S_loadBA ag32 rfl (.there (.here)) rfl) rfl rfl rfl ?_
  by_cases hq : (⟨4, x.table, [], [], [], x.act, 0, 0, []⟩ : Ltr) = x
  · refine VS_step (S_callR cl19 rfl (fun m' hm he => ((same_ok (x := ⟨4, x.table, [], [], [], x.act, 0, 0, []⟩) ⟨_, _, _, _, _, rfl, (BytesE0 _).sl, (StrsE0 _).sl, (xi.mono hm).sl, (xp.mono hm).sl, (EvsE0 _).sl⟩ (hz.mono hm).lt))) rfl ?_) rfl
    rintro _ rfl
    rw [decide_eq_true hq]
    have hr := hfr.1 hq
    refine VS_pure (P_not rfl) rfl rfl rfl ?_
    refine VS_nil ?_
    refine QS_then ?_
    refine TS_false rfl ?_
    refine TS_skip ?_
    refine QS_then ?_
    refine TS_seq ?_
    refine TS_region ?_
    refine VS_pure (P_move rfl) rfl rfl rfl ?_
    refine VS_pure (P_assign rfl) rfl rfl rfl ?_
    refine VS_pure (P_assign rfl) rfl rfl rfl ?_
    refine VS_nil ?_
    refine QS_then ?_
    refine TS_ret ?_
    refine QS_ret [_, _] ⟨rfl, rfl, trivial⟩ [] (Pick.nil _) ⟨rfl, .inl ⟨hr, _, fun m0 h0 => ?_, rfl⟩⟩
    obtain ⟨_, _, _, _, _, heq, xb, xc, xi, xp, xe, xr⟩ := h0
    simp only [List.cons.injEq, true_and, and_true] at heq
    obtain ⟨rfl, rfl, rfl, rfl, rfl⟩ := heq
    rw [← hq]
    exact .act _ _ _ _ xr.2.1 xr.2.2.2.2.1 xi xp
  · refine VS_step (S_callR cl19 rfl (fun m' hm he => ((same_ok (x := ⟨4, x.table, [], [], [], x.act, 0, 0, []⟩) ⟨_, _, _, _, _, rfl, (BytesE0 _).sl, (StrsE0 _).sl, (xi.mono hm).sl, (xp.mono hm).sl, (EvsE0 _).sl⟩ (hz.mono hm).lt))) rfl ?_) rfl
    rintro _ rfl
    rw [decide_eq_false hq]
    have hr : rightP x = false := by
      cases hb : rightP x with
      | false => rfl
      | true => exact absurd (hfr.2 hb) hq
    refine VS_pure (P_not rfl) rfl rfl rfl ?_
    refine VS_nil ?_
    refine QS_then ?_
    refine TS_true rfl ?_
    refine TS_seq ?_
    refine TS_region ?_
    refine VS_pure (P_assign rfl) rfl rfl rfl ?_
    refine VS_pure (P_assign rfl) rfl rfl rfl ?_
    refine VS_nil ?_
    refine QS_then ?_
    refine TS_ret ?_
    refine QS_then_ret ?_
    exact QS_ret [_, _] ⟨rfl, rfl, trivial⟩ [] (Pick.nil _) ⟨rfl, .inr ⟨hr, rfl⟩⟩
set_option maxHeartbeats 8000000 in
theorem Of_5 {m : Mp} {lx : List Value} {x : Ltr} (hx : LtA m lx x) (hk : x.kind = 5) : CS Try.prog 9 [.agg lx.toArray] m [] (OfPost lx x) := by
  have hz := hx
  obtain ⟨vb, vc, vi, vp, ve, rfl, xb, xc, xi, xp, xe, xr⟩ := hx
  refine CS_of [.tmp 2, .tmp 3] Try.func9 rfl rfl rfl ?_
  have xb2 := xb
  have xc2 := xc
  have xi2 := xi
  have xp2 := xp
  have xe2 := xe
  obtain ⟨a1, d1, rfl, _⟩ := xb2
  obtain ⟨a2, d2, rfl, _⟩ := xc2
  obtain ⟨a3, d3, rfl, _⟩ := xi2
  obtain ⟨a4, d4, rfl, _⟩ := xp2
  obtain ⟨a5, d5, rfl, _⟩ := xe2
  have hfr := flat_right (x := x) (by rw [hk]; rfl)
  rw [flat_5 hk] at hfr
  refine TS_seq ?_
  refine TS_region ?_
  refine VS_step (S_box rfl rfl (fun b1 => ?_)) rfl
  refine VS_pure (P_assign rfl) rfl rfl rfl ?_
  refine VS_pure (P_assign rfl) rfl rfl rfl ?_
  refine VS_nil ?_
  refine QS_then ?_
  refine TS_seq ?_
  refine TS_region ?_
  refine VS_pure (P_assign rfl) rfl rfl rfl ?_
  refine VS_nil ?_
  refine QS_then ?_
  refine TS_seq ?_
  refine TS_seq ?_
  refine TS_region ?_
  refine VS_pure (P_fieldAddr0 fo32_0 rfl) rfl rfl rfl ?_
  refine VS_read (S_loadB sg5 rfl (.here) rfl) rfl rfl rfl ?_
  refine VS_nil ?_
  refine QS_then ?_
  refine TS_block ?_
  refine TS_seq ?_
  refine TS_region ?_
  refine VS_pure (df (P_eql rfl rfl) (by omega)) rfl rfl rfl ?_
  refine VS_pure (P_assign rfl) rfl rfl rfl ?_
  refine VS_nil ?_
  refine QS_then ?_
  refine TS_false rfl ?_
  refine TS_seq ?_
  refine TS_region ?_
  refine VS_pure (df (P_eql rfl rfl) (by omega)) rfl rfl rfl ?_
  refine VS_pure (P_assign rfl) rfl rfl rfl ?_
  refine VS_nil ?_
  refine QS_then ?_
  refine TS_false rfl ?_
  refine TS_seq ?_
  refine TS_region ?_
  refine VS_pure (df (P_eql rfl rfl) (by omega)) rfl rfl rfl ?_
  refine VS_pure (P_assign rfl) rfl rfl rfl ?_
  refine VS_nil ?_
  refine QS_then ?_
  refine TS_false rfl ?_
  refine TS_seq ?_
  refine TS_region ?_
  refine VS_pure (df (P_eql rfl rfl) (by omega)) rfl rfl rfl ?_
  refine VS_pure (P_assign rfl) rfl rfl rfl ?_
  refine VS_nil ?_
  refine QS_then ?_
  refine TS_false rfl ?_
  refine TS_seq ?_
  refine TS_region ?_
  refine VS_pure (dt (P_eql rfl rfl) (by assumption)) rfl rfl rfl ?_
  refine VS_pure (P_assign rfl) rfl rfl rfl ?_
  refine VS_nil ?_
  refine QS_then ?_
  refine TS_true rfl ?_
  refine TS_region ?_
  refine VS_pure (P_fieldAddr0 fo32_1 rfl) rfl rfl rfl ?_
  refine VS_read (S_loadB sg3 rfl (.here) rfl) rfl rfl rfl ?_
  refine VS_pure (P_build zl59 pl59 rfl rfl) rfl rfl rfl ?_
  refine VS_pure (P_mkIface ni59 us59 rfl) rfl rfl rfl ?_
  refine VS_pure (P_assign rfl) rfl rfl rfl ?_
  refine VS_nil ?_
  refine QS_block ?_
  refine QS_then ?_
  refine TS_seq ?_
  refine TS_seq ?_
  refine TS_region ?_
  refine VS_pure (P_move rfl) rfl rfl rfl ?_
  refine VS_step (S_callR cl11 rfl (fun m' hm he => (Flat59 _)) rfl ?_) rfl
  rintro _ rfl
  refine VS_pure (P_move rfl) rfl rfl rfl ?_
  refine VS_pure (P_extract rfl rfl) rfl rfl rfl ?_
  refine VS_pure (P_extract rfl rfl) rfl rfl rfl ?_
  refine VS_step (S_alloc zl32 rfl (fun b2 => ?_)) rfl
  refine VS_step (S_storeAgg ag32 rfl rfl rfl (.here) rfl rfl ?_) rfl
  refine VS_pure (P_assign rfl) rfl rfl rfl ?_
  refine VS_nil ?_
  refine QS_then ?_
  refine TS_seq ?_
  refine TS_region ?_
  refine VS_read (S_loadBA ag32 rfl (.here) rfl) rfl rfl rfl ?_
  refine VS_read (S_loadBA ag32 rfl (.there (.here)) rfl) rfl rfl rfl ?_
  by_cases hq : (⟨5, x.table, [], [], [], acn0, 0, 0, []⟩ : Ltr) = x
  · refine VS_step (S_callR cl19 rfl (fun m' hm he => ((same_ok (x := ⟨5, x.table, [], [], [], acn0, 0, 0, []⟩) ⟨_, _, _, _, _, rfl, (BytesE0 _).sl, (StrsE0 _).sl, (IntsE0 _).sl, (PairsE0 _).sl, (EvsE0 _).sl⟩ (hz.mono hm).lt))) rfl ?_) rfl
    rintro _ rfl
    rw [decide_eq_true hq]
    have hr := hfr.1 hq
    refine VS_pure (P_not rfl) rfl rfl rfl ?_
    refine VS_nil ?_
    refine QS_then ?_
    refine TS_false rfl ?_
    refine TS_skip ?_
    refine QS_then ?_
    refine TS_seq ?_
    refine TS_region ?_
    refine VS_pure (P_move rfl) rfl rfl rfl ?_
    refine VS_pure (P_assign rfl) rfl rfl rfl ?_
    refine VS_pure (P_assign rfl) rfl rfl rfl ?_
    refine VS_nil ?_
    refine QS_then ?_
    refine TS_ret ?_
    refine QS_ret [_, _] ⟨rfl, rfl, trivial⟩ [] (Pick.nil _) ⟨rfl, .inl ⟨hr, _, fun m0 h0 => ?_, rfl⟩⟩
    obtain ⟨_, _, _, _, _, heq, xb, xc, xi, xp, xe, xr⟩ := h0
    simp only [List.cons.injEq, true_and, and_true] at heq
    obtain ⟨rfl, rfl, rfl, rfl, rfl⟩ := heq
    rw [← hq]
    exact .look _ xr.2.1
  · refine VS_step (S_callR cl19 rfl (fun m' hm he => ((same_ok (x := ⟨5, x.table, [], [], [], acn0, 0, 0, []⟩) ⟨_, _, _, _, _, rfl, (BytesE0 _).sl, (StrsE0 _).sl, (IntsE0 _).sl, (PairsE0 _).sl, (EvsE0 _).sl⟩ (hz.mono hm).lt))) rfl ?_) rfl
    rintro _ rfl
    rw [decide_eq_false hq]
    have hr : rightP x = false := by
      cases hb : rightP x with
      | false => rfl
      | true => exact absurd (hfr.2 hb) hq
    refine VS_pure (P_not rfl) rfl rfl rfl ?_
    refine VS_nil ?_
    refine QS_then ?_
    refine TS_true rfl ?_
    refine TS_seq ?_
    refine TS_region ?_
    refine VS_pure (P_assign rfl) rfl rfl rfl ?_
    refine VS_pure (P_assign rfl) rfl rfl rfl ?_
    refine VS_nil ?_
    refine QS_then ?_
    refine TS_ret ?_
    refine QS_then_ret ?_
    exact QS_ret [_, _] ⟨rfl, rfl, trivial⟩ [] (Pick.nil _) ⟨rfl, .inr ⟨hr, rfl⟩⟩
set_option maxHeartbeats 8000000 in
theorem Of_6 {m : Mp} {lx : List Value} {x : Ltr} (hx : LtA m lx x) (hk : x.kind = 6) : CS Try.prog 9 [.agg lx.toArray] m [] (OfPost lx x) := by
  have hz := hx
  obtain ⟨vb, vc, vi, vp, ve, rfl, xb, xc, xi, xp, xe, xr⟩ := hx
  refine CS_of [.tmp 2, .tmp 3] Try.func9 rfl rfl rfl ?_
  have xb2 := xb
  have xc2 := xc
  have xi2 := xi
  have xp2 := xp
  have xe2 := xe
  obtain ⟨a1, d1, rfl, _⟩ := xb2
  obtain ⟨a2, d2, rfl, _⟩ := xc2
  obtain ⟨a3, d3, rfl, _⟩ := xi2
  obtain ⟨a4, d4, rfl, _⟩ := xp2
  obtain ⟨a5, d5, rfl, _⟩ := xe2
  have hfr := flat_right (x := x) (by rw [hk]; rfl)
  rw [flat_6 hk] at hfr
  refine TS_seq ?_
  refine TS_region ?_
  refine VS_step (S_box rfl rfl (fun b1 => ?_)) rfl
  refine VS_pure (P_assign rfl) rfl rfl rfl ?_
  refine VS_pure (P_assign rfl) rfl rfl rfl ?_
  refine VS_nil ?_
  refine QS_then ?_
  refine TS_seq ?_
  refine TS_region ?_
  refine VS_pure (P_assign rfl) rfl rfl rfl ?_
  refine VS_nil ?_
  refine QS_then ?_
  refine TS_seq ?_
  refine TS_seq ?_
  refine TS_region ?_
  refine VS_pure (P_fieldAddr0 fo32_0 rfl) rfl rfl rfl ?_
  refine VS_read (S_loadB sg5 rfl (.here) rfl) rfl rfl rfl ?_
  refine VS_nil ?_
  refine QS_then ?_
  refine TS_block ?_
  refine TS_seq ?_
  refine TS_region ?_
  refine VS_pure (df (P_eql rfl rfl) (by omega)) rfl rfl rfl ?_
  refine VS_pure (P_assign rfl) rfl rfl rfl ?_
  refine VS_nil ?_
  refine QS_then ?_
  refine TS_false rfl ?_
  refine TS_seq ?_
  refine TS_region ?_
  refine VS_pure (df (P_eql rfl rfl) (by omega)) rfl rfl rfl ?_
  refine VS_pure (P_assign rfl) rfl rfl rfl ?_
  refine VS_nil ?_
  refine QS_then ?_
  refine TS_false rfl ?_
  refine TS_seq ?_
  refine TS_region ?_
  refine VS_pure (df (P_eql rfl rfl) (by omega)) rfl rfl rfl ?_
  refine VS_pure (P_assign rfl) rfl rfl rfl ?_
  refine VS_nil ?_
  refine QS_then ?_
  refine TS_false rfl ?_
  refine TS_seq ?_
  refine TS_region ?_
  refine VS_pure (df (P_eql rfl rfl) (by omega)) rfl rfl rfl ?_
  refine VS_pure (P_assign rfl) rfl rfl rfl ?_
  refine VS_nil ?_
  refine QS_then ?_
  refine TS_false rfl ?_
  refine TS_seq ?_
  refine TS_region ?_
  refine VS_pure (df (P_eql rfl rfl) (by omega)) rfl rfl rfl ?_
  refine VS_pure (P_assign rfl) rfl rfl rfl ?_
  refine VS_nil ?_
  refine QS_then ?_
  refine TS_false rfl ?_
  refine TS_seq ?_
  refine TS_region ?_
  refine VS_pure (dt (P_eql rfl rfl) (by assumption)) rfl rfl rfl ?_
  refine VS_pure (P_assign rfl) rfl rfl rfl ?_
  refine VS_nil ?_
  refine QS_then ?_
  refine TS_true rfl ?_
  refine TS_region ?_
  refine VS_pure (P_fieldAddr0 fo32_1 rfl) rfl rfl rfl ?_
  refine VS_read (S_loadB sg3 rfl (.here) rfl) rfl rfl rfl ?_
  refine VS_pure (P_build zl71 pl71 rfl rfl) rfl rfl rfl ?_
  refine VS_pure (P_mkIface ni71 us71 rfl) rfl rfl rfl ?_
  refine VS_pure (P_assign rfl) rfl rfl rfl ?_
  refine VS_nil ?_
  refine QS_block ?_
  refine QS_then ?_
  refine TS_seq ?_
  refine TS_seq ?_
  refine TS_region ?_
  refine VS_pure (P_move rfl) rfl rfl rfl ?_
  refine VS_step (S_callR cl11 rfl (fun m' hm he => (Flat71 _)) rfl ?_) rfl
  rintro _ rfl
  refine VS_pure (P_move rfl) rfl rfl rfl ?_
  refine VS_pure (P_extract rfl rfl) rfl rfl rfl ?_
  refine VS_pure (P_extract rfl rfl) rfl rfl rfl ?_
  refine VS_step (S_alloc zl32 rfl (fun b2 => ?_)) rfl
  refine VS_step (S_storeAgg ag32 rfl rfl rfl (.here) rfl rfl ?_) rfl
  refine VS_pure (P_assign rfl) rfl rfl rfl ?_
  refine VS_nil ?_
  refine QS_then ?_
  refine TS_seq ?_
  refine TS_region ?_
  refine VS_read (S_loadBA ag32 rfl (.here) rfl) rfl rfl rfl ?_
  refine VS_read (S_loadBA ag32 rfl (.there (.here)) rfl) rfl rfl rfl ?_
  by_cases hq : (⟨6, x.table, [], [], [], acn0, 0, 0, []⟩ : Ltr) = x
  · refine VS_step (S_callR cl19 rfl (fun m' hm he => ((same_ok (x := ⟨6, x.table, [], [], [], acn0, 0, 0, []⟩) ⟨_, _, _, _, _, rfl, (BytesE0 _).sl, (StrsE0 _).sl, (IntsE0 _).sl, (PairsE0 _).sl, (EvsE0 _).sl⟩ (hz.mono hm).lt))) rfl ?_) rfl
    rintro _ rfl
    rw [decide_eq_true hq]
    have hr := hfr.1 hq
    refine VS_pure (P_not rfl) rfl rfl rfl ?_
    refine VS_nil ?_
    refine QS_then ?_
    refine TS_false rfl ?_
    refine TS_skip ?_
    refine QS_then ?_
    refine TS_seq ?_
    refine TS_region ?_
    refine VS_pure (P_move rfl) rfl rfl rfl ?_
    refine VS_pure (P_assign rfl) rfl rfl rfl ?_
    refine VS_pure (P_assign rfl) rfl rfl rfl ?_
    refine VS_nil ?_
    refine QS_then ?_
    refine TS_ret ?_
    refine QS_ret [_, _] ⟨rfl, rfl, trivial⟩ [] (Pick.nil _) ⟨rfl, .inl ⟨hr, _, fun m0 h0 => ?_, rfl⟩⟩
    obtain ⟨_, _, _, _, _, heq, xb, xc, xi, xp, xe, xr⟩ := h0
    simp only [List.cons.injEq, true_and, and_true] at heq
    obtain ⟨rfl, rfl, rfl, rfl, rfl⟩ := heq
    rw [← hq]
    exact .replay _ xr.2.1
  · refine VS_step (S_callR cl19 rfl (fun m' hm he => ((same_ok (x := ⟨6, x.table, [], [], [], acn0, 0, 0, []⟩) ⟨_, _, _, _, _, rfl, (BytesE0 _).sl, (StrsE0 _).sl, (IntsE0 _).sl, (PairsE0 _).sl, (EvsE0 _).sl⟩ (hz.mono hm).lt))) rfl ?_) rfl
    rintro _ rfl
    rw [decide_eq_false hq]
    have hr : rightP x = false := by
      cases hb : rightP x with
      | false => rfl
      | true => exact absurd (hfr.2 hb) hq
    refine VS_pure (P_not rfl) rfl rfl rfl ?_
    refine VS_nil ?_
    refine QS_then ?_
    refine TS_true rfl ?_
    refine TS_seq ?_
    refine TS_region ?_
    refine VS_pure (P_assign rfl) rfl rfl rfl ?_
    refine VS_pure (P_assign rfl) rfl rfl rfl ?_
    refine VS_nil ?_
    refine QS_then ?_
    refine TS_ret ?_
    refine QS_then_ret ?_
    exact QS_ret [_, _] ⟨rfl, rfl, trivial⟩ [] (Pick.nil _) ⟨rfl, .inr ⟨hr, rfl⟩⟩
set_option maxHeartbeats 8000000 in
theorem Of_7 {m : Mp} {lx : List Value} {x : Ltr} (hx : LtA m lx x) (hk : x.kind = 7) : CS Try.prog 9 [.agg lx.toArray] m [] (OfPost lx x) := by
  have hz := hx
  obtain ⟨vb, vc, vi, vp, ve, rfl, xb, xc, xi, xp, xe, xr⟩ := hx
  refine CS_of [.tmp 2, .tmp 3] Try.func9 rfl rfl rfl ?_
  have xb2 := xb
  have xc2 := xc
  have xi2 := xi
  have xp2 := xp
  have xe2 := xe
  obtain ⟨a1, d1, rfl, _⟩ := xb2
  obtain ⟨a2, d2, rfl, _⟩ := xc2
  obtain ⟨a3, d3, rfl, _⟩ := xi2
  obtain ⟨a4, d4, rfl, _⟩ := xp2
  obtain ⟨a5, d5, rfl, _⟩ := xe2
  have hfr := flat_right (x := x) (by rw [hk]; rfl)
  rw [flat_7 hk] at hfr
  refine TS_seq ?_
  refine TS_region ?_
  refine VS_step (S_box rfl rfl (fun b1 => ?_)) rfl
  refine VS_pure (P_assign rfl) rfl rfl rfl ?_
  refine VS_pure (P_assign rfl) rfl rfl rfl ?_
  refine VS_nil ?_
  refine QS_then ?_
  refine TS_seq ?_
  refine TS_region ?_
  refine VS_pure (P_assign rfl) rfl rfl rfl ?_
  refine VS_nil ?_
  refine QS_then ?_
  refine TS_seq ?_
  refine TS_seq ?_
  refine TS_region ?_
  refine VS_pure (P_fieldAddr0 fo32_0 rfl) rfl rfl rfl ?_
  refine VS_read (S_loadB sg5 rfl (.here) rfl) rfl rfl rfl ?_
  refine VS_nil ?_
  refine QS_then ?_
  refine TS_block ?_
  refine TS_seq ?_
  refine TS_region ?_
  refine VS_pure (df (P_eql rfl rfl) (by omega)) rfl rfl rfl ?_
  refine VS_pure (P_assign rfl) rfl rfl rfl ?_
  refine VS_nil ?_
  refine QS_then ?_
  refine TS_false rfl ?_
  refine TS_seq ?_
  refine TS_region ?_
  refine VS_pure (df (P_eql rfl rfl) (by omega)) rfl rfl rfl ?_
  refine VS_pure (P_assign rfl) rfl rfl rfl ?_
  refine VS_nil ?_
  refine QS_then ?_
  refine TS_false rfl ?_
  refine TS_seq ?_
  refine TS_region ?_
  refine VS_pure (df (P_eql rfl rfl) (by omega)) rfl rfl rfl ?_
  refine VS_pure (P_assign rfl) rfl rfl rfl ?_
  refine VS_nil ?_
  refine QS_then ?_
  refine TS_false rfl ?_
  refine TS_seq ?_
  refine TS_region ?_
  refine VS_pure (df (P_eql rfl rfl) (by omega)) rfl rfl rfl ?_
  refine VS_pure (P_assign rfl) rfl rfl rfl ?_
  refine VS_nil ?_
  refine QS_then ?_
  refine TS_false rfl ?_
  refine TS_seq ?_
  refine TS_region ?_
  refine VS_pure (df (P_eql rfl rfl) (by omega)) rfl rfl rfl ?_
  refine VS_pure (P_assign rfl) rfl rfl rfl ?_
  refine VS_nil ?_
  refine QS_then ?_
  refine TS_false rfl ?_
  refine TS_seq ?_
  refine TS_region ?_
  refine VS_pure (df (P_eql rfl rfl) (by omega)) rfl rfl rfl ?_
  refine VS_pure (P_assign rfl) rfl rfl rfl ?_
  refine VS_nil ?_
  refine QS_then ?_
  refine TS_false rfl ?_
  refine TS_seq ?_
  refine TS_region ?_
  refine VS_pure (dt (P_eql rfl rfl) (by assumption)) rfl rfl rfl ?_
  refine VS_pure (P_assign rfl) rfl rfl rfl ?_
  refine VS_nil ?_
  refine QS_then ?_
  refine TS_true rfl ?_
  refine TS_region ?_
  refine VS_pure (P_fieldAddr0 fo32_1 rfl) rfl rfl rfl ?_
  refine VS_read (S_loadB sg3 rfl (.here) rfl) rfl rfl rfl ?_
  refine VS_pure (P_build zl72 pl72 rfl rfl) rfl rfl rfl ?_
  refine VS_pure (P_mkIface ni72 us72 rfl) rfl rfl rfl ?_
  refine VS_pure (P_assign rfl) rfl rfl rfl ?_
  refine VS_nil ?_
  refine QS_block ?_
  refine QS_then ?_
  refine TS_seq ?_
  refine TS_seq ?_
  refine TS_region ?_
  refine VS_pure (P_move rfl) rfl rfl rfl ?_
  refine VS_step (S_callR cl11 rfl (fun m' hm he => (Flat72 _)) rfl ?_) rfl
  rintro _ rfl
  refine VS_pure (P_move rfl) rfl rfl rfl ?_
  refine VS_pure (P_extract rfl rfl) rfl rfl rfl ?_
  refine VS_pure (P_extract rfl rfl) rfl rfl rfl ?_
  refine VS_step (S_alloc zl32 rfl (fun b2 => ?_)) rfl
  refine VS_step (S_storeAgg ag32 rfl rfl rfl (.here) rfl rfl ?_) rfl
  refine VS_pure (P_assign rfl) rfl rfl rfl ?_
  refine VS_nil ?_
  refine QS_then ?_
  refine TS_seq ?_
  refine TS_region ?_
  refine VS_read (S_loadBA ag32 rfl (.here) rfl) rfl rfl rfl ?_
  refine VS_read (S_loadBA ag32 rfl (.there (.here)) rfl) rfl rfl rfl ?_
  by_cases hq : (⟨7, x.table, [], [], [], acn0, 0, 0, []⟩ : Ltr) = x
  · refine VS_step (S_callR cl19 rfl (fun m' hm he => ((same_ok (x := ⟨7, x.table, [], [], [], acn0, 0, 0, []⟩) ⟨_, _, _, _, _, rfl, (BytesE0 _).sl, (StrsE0 _).sl, (IntsE0 _).sl, (PairsE0 _).sl, (EvsE0 _).sl⟩ (hz.mono hm).lt))) rfl ?_) rfl
    rintro _ rfl
    rw [decide_eq_true hq]
    have hr := hfr.1 hq
    refine VS_pure (P_not rfl) rfl rfl rfl ?_
    refine VS_nil ?_
    refine QS_then ?_
    refine TS_false rfl ?_
    refine TS_skip ?_
    refine QS_then ?_
    refine TS_seq ?_
    refine TS_region ?_
    refine VS_pure (P_move rfl) rfl rfl rfl ?_
    refine VS_pure (P_assign rfl) rfl rfl rfl ?_
    refine VS_pure (P_assign rfl) rfl rfl rfl ?_
    refine VS_nil ?_
    refine QS_then ?_
    refine TS_ret ?_
    refine QS_ret [_, _] ⟨rfl, rfl, trivial⟩ [] (Pick.nil _) ⟨rfl, .inl ⟨hr, _, fun m0 h0 => ?_, rfl⟩⟩
    obtain ⟨_, _, _, _, _, heq, xb, xc, xi, xp, xe, xr⟩ := h0
    simp only [List.cons.injEq, true_and, and_true] at heq
    obtain ⟨rfl, rfl, rfl, rfl, rfl⟩ := heq
    rw [← hq]
    exact .audit _ xr.2.1
  · refine VS_step (S_callR cl19 rfl (fun m' hm he => ((same_ok (x := ⟨7, x.table, [], [], [], acn0, 0, 0, []⟩) ⟨_, _, _, _, _, rfl, (BytesE0 _).sl, (StrsE0 _).sl, (IntsE0 _).sl, (PairsE0 _).sl, (EvsE0 _).sl⟩ (hz.mono hm).lt))) rfl ?_) rfl
    rintro _ rfl
    rw [decide_eq_false hq]
    have hr : rightP x = false := by
      cases hb : rightP x with
      | false => rfl
      | true => exact absurd (hfr.2 hb) hq
    refine VS_pure (P_not rfl) rfl rfl rfl ?_
    refine VS_nil ?_
    refine QS_then ?_
    refine TS_true rfl ?_
    refine TS_seq ?_
    refine TS_region ?_
    refine VS_pure (P_assign rfl) rfl rfl rfl ?_
    refine VS_pure (P_assign rfl) rfl rfl rfl ?_
    refine VS_nil ?_
    refine QS_then ?_
    refine TS_ret ?_
    refine QS_then_ret ?_
    exact QS_ret [_, _] ⟨rfl, rfl, trivial⟩ [] (Pick.nil _) ⟨rfl, .inr ⟨hr, rfl⟩⟩
set_option maxHeartbeats 8000000 in
theorem Of_8 {m : Mp} {lx : List Value} {x : Ltr} (hx : LtA m lx x) (hk : x.kind = 8) : CS Try.prog 9 [.agg lx.toArray] m [] (OfPost lx x) := by
  have hz := hx
  obtain ⟨vb, vc, vi, vp, ve, rfl, xb, xc, xi, xp, xe, xr⟩ := hx
  refine CS_of [.tmp 2, .tmp 3] Try.func9 rfl rfl rfl ?_
  have xb2 := xb
  have xc2 := xc
  have xi2 := xi
  have xp2 := xp
  have xe2 := xe
  obtain ⟨a1, d1, rfl, _⟩ := xb2
  obtain ⟨a2, d2, rfl, _⟩ := xc2
  obtain ⟨a3, d3, rfl, _⟩ := xi2
  obtain ⟨a4, d4, rfl, _⟩ := xp2
  obtain ⟨a5, d5, rfl, _⟩ := xe2
  have hfr := flat_right (x := x) (by rw [hk]; rfl)
  rw [flat_8 hk] at hfr
  refine TS_seq ?_
  refine TS_region ?_
  refine VS_step (S_box rfl rfl (fun b1 => ?_)) rfl
  refine VS_pure (P_assign rfl) rfl rfl rfl ?_
  refine VS_pure (P_assign rfl) rfl rfl rfl ?_
  refine VS_nil ?_
  refine QS_then ?_
  refine TS_seq ?_
  refine TS_region ?_
  refine VS_pure (P_assign rfl) rfl rfl rfl ?_
  refine VS_nil ?_
  refine QS_then ?_
  refine TS_seq ?_
  refine TS_seq ?_
  refine TS_region ?_
  refine VS_pure (P_fieldAddr0 fo32_0 rfl) rfl rfl rfl ?_
  refine VS_read (S_loadB sg5 rfl (.here) rfl) rfl rfl rfl ?_
  refine VS_nil ?_
  refine QS_then ?_
  refine TS_block ?_
  refine TS_seq ?_
  refine TS_region ?_
  refine VS_pure (df (P_eql rfl rfl) (by omega)) rfl rfl rfl ?_
  refine VS_pure (P_assign rfl) rfl rfl rfl ?_
  refine VS_nil ?_
  refine QS_then ?_
  refine TS_false rfl ?_
  refine TS_seq ?_
  refine TS_region ?_
  refine VS_pure (df (P_eql rfl rfl) (by omega)) rfl rfl rfl ?_
  refine VS_pure (P_assign rfl) rfl rfl rfl ?_
  refine VS_nil ?_
  refine QS_then ?_
  refine TS_false rfl ?_
  refine TS_seq ?_
  refine TS_region ?_
  refine VS_pure (df (P_eql rfl rfl) (by omega)) rfl rfl rfl ?_
  refine VS_pure (P_assign rfl) rfl rfl rfl ?_
  refine VS_nil ?_
  refine QS_then ?_
  refine TS_false rfl ?_
  refine TS_seq ?_
  refine TS_region ?_
  refine VS_pure (df (P_eql rfl rfl) (by omega)) rfl rfl rfl ?_
  refine VS_pure (P_assign rfl) rfl rfl rfl ?_
  refine VS_nil ?_
  refine QS_then ?_
  refine TS_false rfl ?_
  refine TS_seq ?_
  refine TS_region ?_
  refine VS_pure (df (P_eql rfl rfl) (by omega)) rfl rfl rfl ?_
  refine VS_pure (P_assign rfl) rfl rfl rfl ?_
  refine VS_nil ?_
  refine QS_then ?_
  refine TS_false rfl ?_
  refine TS_seq ?_
  refine TS_region ?_
  refine VS_pure (df (P_eql rfl rfl) (by omega)) rfl rfl rfl ?_
  refine VS_pure (P_assign rfl) rfl rfl rfl ?_
  refine VS_nil ?_
  refine QS_then ?_
  refine TS_false rfl ?_
  refine TS_seq ?_
  refine TS_region ?_
  refine VS_pure (df (P_eql rfl rfl) (by omega)) rfl rfl rfl ?_
  refine VS_pure (P_assign rfl) rfl rfl rfl ?_
  refine VS_nil ?_
  refine QS_then ?_
  refine TS_false rfl ?_
  refine TS_seq ?_
  refine TS_region ?_
  refine VS_pure (dt (P_eql rfl rfl) (by assumption)) rfl rfl rfl ?_
  refine VS_pure (P_assign rfl) rfl rfl rfl ?_
  refine VS_nil ?_
  refine QS_then ?_
  refine TS_true rfl ?_
  refine TS_region ?_
  refine VS_pure (P_build zl57 pl57 rfl rfl) rfl rfl rfl ?_
  refine VS_pure (P_mkIface ni57 us57 rfl) rfl rfl rfl ?_
  refine VS_pure (P_assign rfl) rfl rfl rfl ?_
  refine VS_nil ?_
  refine QS_block ?_
  refine QS_then ?_
  refine TS_seq ?_
  refine TS_seq ?_
  refine TS_region ?_
  refine VS_pure (P_move rfl) rfl rfl rfl ?_
  refine VS_step (S_callR cl11 rfl (fun m' hm he => (Flat57 )) rfl ?_) rfl
  rintro _ rfl
  refine VS_pure (P_move rfl) rfl rfl rfl ?_
  refine VS_pure (P_extract rfl rfl) rfl rfl rfl ?_
  refine VS_pure (P_extract rfl rfl) rfl rfl rfl ?_
  refine VS_step (S_alloc zl32 rfl (fun b2 => ?_)) rfl
  refine VS_step (S_storeAgg ag32 rfl rfl rfl (.here) rfl rfl ?_) rfl
  refine VS_pure (P_assign rfl) rfl rfl rfl ?_
  refine VS_nil ?_
  refine QS_then ?_
  refine TS_seq ?_
  refine TS_region ?_
  refine VS_read (S_loadBA ag32 rfl (.here) rfl) rfl rfl rfl ?_
  refine VS_read (S_loadBA ag32 rfl (.there (.here)) rfl) rfl rfl rfl ?_
  by_cases hq : (⟨8, 0, [], [], [], acn0, 0, 0, []⟩ : Ltr) = x
  · refine VS_step (S_callR cl19 rfl (fun m' hm he => ((same_ok (x := ⟨8, 0, [], [], [], acn0, 0, 0, []⟩) ⟨_, _, _, _, _, rfl, (BytesE0 _).sl, (StrsE0 _).sl, (IntsE0 _).sl, (PairsE0 _).sl, (EvsE0 _).sl⟩ (hz.mono hm).lt))) rfl ?_) rfl
    rintro _ rfl
    rw [decide_eq_true hq]
    have hr := hfr.1 hq
    refine VS_pure (P_not rfl) rfl rfl rfl ?_
    refine VS_nil ?_
    refine QS_then ?_
    refine TS_false rfl ?_
    refine TS_skip ?_
    refine QS_then ?_
    refine TS_seq ?_
    refine TS_region ?_
    refine VS_pure (P_move rfl) rfl rfl rfl ?_
    refine VS_pure (P_assign rfl) rfl rfl rfl ?_
    refine VS_pure (P_assign rfl) rfl rfl rfl ?_
    refine VS_nil ?_
    refine QS_then ?_
    refine TS_ret ?_
    refine QS_ret [_, _] ⟨rfl, rfl, trivial⟩ [] (Pick.nil _) ⟨rfl, .inl ⟨hr, _, fun m0 h0 => ?_, rfl⟩⟩
    obtain ⟨_, _, _, _, _, heq, xb, xc, xi, xp, xe, xr⟩ := h0
    simp only [List.cons.injEq, true_and, and_true] at heq
    obtain ⟨rfl, rfl, rfl, rfl, rfl⟩ := heq
    rw [← hq]
    exact .bye
  · refine VS_step (S_callR cl19 rfl (fun m' hm he => ((same_ok (x := ⟨8, 0, [], [], [], acn0, 0, 0, []⟩) ⟨_, _, _, _, _, rfl, (BytesE0 _).sl, (StrsE0 _).sl, (IntsE0 _).sl, (PairsE0 _).sl, (EvsE0 _).sl⟩ (hz.mono hm).lt))) rfl ?_) rfl
    rintro _ rfl
    rw [decide_eq_false hq]
    have hr : rightP x = false := by
      cases hb : rightP x with
      | false => rfl
      | true => exact absurd (hfr.2 hb) hq
    refine VS_pure (P_not rfl) rfl rfl rfl ?_
    refine VS_nil ?_
    refine QS_then ?_
    refine TS_true rfl ?_
    refine TS_seq ?_
    refine TS_region ?_
    refine VS_pure (P_assign rfl) rfl rfl rfl ?_
    refine VS_pure (P_assign rfl) rfl rfl rfl ?_
    refine VS_nil ?_
    refine QS_then ?_
    refine TS_ret ?_
    refine QS_then_ret ?_
    exact QS_ret [_, _] ⟨rfl, rfl, trivial⟩ [] (Pick.nil _) ⟨rfl, .inr ⟨hr, rfl⟩⟩
set_option maxHeartbeats 8000000 in
theorem Of_64 {m : Mp} {lx : List Value} {x : Ltr} (hx : LtA m lx x) (hk : x.kind = 64) : CS Try.prog 9 [.agg lx.toArray] m [] (OfPost lx x) := by
  have hz := hx
  obtain ⟨vb, vc, vi, vp, ve, rfl, xb, xc, xi, xp, xe, xr⟩ := hx
  refine CS_of [.tmp 2, .tmp 3] Try.func9 rfl rfl rfl ?_
  have xb2 := xb
  have xc2 := xc
  have xi2 := xi
  have xp2 := xp
  have xe2 := xe
  obtain ⟨a1, d1, rfl, _⟩ := xb2
  obtain ⟨a2, d2, rfl, _⟩ := xc2
  obtain ⟨a3, d3, rfl, _⟩ := xi2
  obtain ⟨a4, d4, rfl, _⟩ := xp2
  obtain ⟨a5, d5, rfl, _⟩ := xe2
  have hfr := flat_right (x := x) (by rw [hk]; rfl)
  rw [flat_64 hk] at hfr
  refine TS_seq ?_
  refine TS_region ?_
  refine VS_step (S_box rfl rfl (fun b1 => ?_)) rfl
  refine VS_pure (P_assign rfl) rfl rfl rfl ?_
  refine VS_pure (P_assign rfl) rfl rfl rfl ?_
  refine VS_nil ?_
  refine QS_then ?_
  refine TS_seq ?_
  refine TS_region ?_
  refine VS_pure (P_assign rfl) rfl rfl rfl ?_
  refine VS_nil ?_
  refine QS_then ?_
  refine TS_seq ?_
  refine TS_seq ?_
  refine TS_region ?_
  refine VS_pure (P_fieldAddr0 fo32_0 rfl) rfl rfl rfl ?_
  refine VS_read (S_loadB sg5 rfl (.here) rfl) rfl rfl rfl ?_
  refine VS_nil ?_
  refine QS_then ?_
  refine TS_block ?_
  refine TS_seq ?_
  refine TS_region ?_
  refine VS_pure (df (P_eql rfl rfl) (by omega)) rfl rfl rfl ?_
  refine VS_pure (P_assign rfl) rfl rfl rfl ?_
  refine VS_nil ?_
  refine QS_then ?_
  refine TS_false rfl ?_
  refine TS_seq ?_
  refine TS_region ?_
  refine VS_pure (df (P_eql rfl rfl) (by omega)) rfl rfl rfl ?_
  refine VS_pure (P_assign rfl) rfl rfl rfl ?_
  refine VS_nil ?_
  refine QS_then ?_
  refine TS_false rfl ?_
  refine TS_seq ?_
  refine TS_region ?_
  refine VS_pure (df (P_eql rfl rfl) (by omega)) rfl rfl rfl ?_
  refine VS_pure (P_assign rfl) rfl rfl rfl ?_
  refine VS_nil ?_
  refine QS_then ?_
  refine TS_false rfl ?_
  refine TS_seq ?_
  refine TS_region ?_
  refine VS_pure (df (P_eql rfl rfl) (by omega)) rfl rfl rfl ?_
  refine VS_pure (P_assign rfl) rfl rfl rfl ?_
  refine VS_nil ?_
  refine QS_then ?_
  refine TS_false rfl ?_
  refine TS_seq ?_
  refine TS_region ?_
  refine VS_pure (df (P_eql rfl rfl) (by omega)) rfl rfl rfl ?_
  refine VS_pure (P_assign rfl) rfl rfl rfl ?_
  refine VS_nil ?_
  refine QS_then ?_
  refine TS_false rfl ?_
  refine TS_seq ?_
  refine TS_region ?_
  refine VS_pure (df (P_eql rfl rfl) (by omega)) rfl rfl rfl ?_
  refine VS_pure (P_assign rfl) rfl rfl rfl ?_
  refine VS_nil ?_
  refine QS_then ?_
  refine TS_false rfl ?_
  refine TS_seq ?_
  refine TS_region ?_
  refine VS_pure (df (P_eql rfl rfl) (by omega)) rfl rfl rfl ?_
  refine VS_pure (P_assign rfl) rfl rfl rfl ?_
  refine VS_nil ?_
  refine QS_then ?_
  refine TS_false rfl ?_
  refine TS_seq ?_
  refine TS_region ?_
  refine VS_pure (df (P_eql rfl rfl) (by omega)) rfl rfl rfl ?_
  refine VS_pure (P_assign rfl) rfl rfl rfl ?_
  refine VS_nil ?_
  refine QS_then ?_
  refine TS_false rfl ?_
  refine TS_seq ?_
  refine TS_region ?_
  refine VS_pure (dt (P_eql rfl rfl) (by assumption)) rfl rfl rfl ?_
  refine VS_pure (P_assign rfl) rfl rfl rfl ?_
  refine VS_nil ?_
  refine QS_then ?_
  refine TS_true rfl ?_
  refine TS_region ?_
  refine VS_pure (P_fieldAddr0 fo32_6 rfl) rfl rfl rfl ?_
  refine VS_read (S_loadB sg5 rfl (.here) rfl) rfl rfl rfl ?_
  refine VS_pure (P_fieldAddr0 fo32_7 rfl) rfl rfl rfl ?_
  refine VS_read (S_loadB sg29 rfl (.here) rfl) rfl rfl rfl ?_
  refine VS_pure (P_build zl64 pl64 rfl rfl) rfl rfl rfl ?_
  refine VS_pure (P_mkIface ni64 us64 rfl) rfl rfl rfl ?_
  refine VS_pure (P_assign rfl) rfl rfl rfl ?_
  refine VS_nil ?_
  refine QS_block ?_
  refine QS_then ?_
  refine TS_seq ?_
  refine TS_seq ?_
  refine TS_region ?_
  refine VS_pure (P_move rfl) rfl rfl rfl ?_
  refine VS_step (S_callR cl11 rfl (fun m' hm he => (Flat64 _ _)) rfl ?_) rfl
  rintro _ rfl
  refine VS_pure (P_move rfl) rfl rfl rfl ?_
  refine VS_pure (P_extract rfl rfl) rfl rfl rfl ?_
  refine VS_pure (P_extract rfl rfl) rfl rfl rfl ?_
  refine VS_step (S_alloc zl32 rfl (fun b2 => ?_)) rfl
  refine VS_step (S_storeAgg ag32 rfl rfl rfl (.here) rfl rfl ?_) rfl
  refine VS_pure (P_assign rfl) rfl rfl rfl ?_
  refine VS_nil ?_
  refine QS_then ?_
  refine TS_seq ?_
  refine TS_region ?_
  refine VS_read (S_loadBA ag32 rfl (.here) rfl) rfl rfl rfl ?_
  refine VS_read (S_loadBA ag32 rfl (.there (.here)) rfl) rfl rfl rfl ?_
  by_cases hq : (⟨64, 0, [], [], [], acn0, x.to_, x.e, []⟩ : Ltr) = x
  · refine VS_step (S_callR cl19 rfl (fun m' hm he => ((same_ok (x := ⟨64, 0, [], [], [], acn0, x.to_, x.e, []⟩) ⟨_, _, _, _, _, rfl, (BytesE0 _).sl, (StrsE0 _).sl, (IntsE0 _).sl, (PairsE0 _).sl, (EvsE0 _).sl⟩ (hz.mono hm).lt))) rfl ?_) rfl
    rintro _ rfl
    rw [decide_eq_true hq]
    have hr := hfr.1 hq
    refine VS_pure (P_not rfl) rfl rfl rfl ?_
    refine VS_nil ?_
    refine QS_then ?_
    refine TS_false rfl ?_
    refine TS_skip ?_
    refine QS_then ?_
    refine TS_seq ?_
    refine TS_region ?_
    refine VS_pure (P_move rfl) rfl rfl rfl ?_
    refine VS_pure (P_assign rfl) rfl rfl rfl ?_
    refine VS_pure (P_assign rfl) rfl rfl rfl ?_
    refine VS_nil ?_
    refine QS_then ?_
    refine TS_ret ?_
    refine QS_ret [_, _] ⟨rfl, rfl, trivial⟩ [] (Pick.nil _) ⟨rfl, .inl ⟨hr, _, fun m0 h0 => ?_, rfl⟩⟩
    obtain ⟨_, _, _, _, _, heq, xb, xc, xi, xp, xe, xr⟩ := h0
    simp only [List.cons.injEq, true_and, and_true] at heq
    obtain ⟨rfl, rfl, rfl, rfl, rfl⟩ := heq
    rw [← hq]
    exact .reply _ _ xr.2.2.2.2.2.1 xr.2.2.2.2.2.2
  · refine VS_step (S_callR cl19 rfl (fun m' hm he => ((same_ok (x := ⟨64, 0, [], [], [], acn0, x.to_, x.e, []⟩) ⟨_, _, _, _, _, rfl, (BytesE0 _).sl, (StrsE0 _).sl, (IntsE0 _).sl, (PairsE0 _).sl, (EvsE0 _).sl⟩ (hz.mono hm).lt))) rfl ?_) rfl
    rintro _ rfl
    rw [decide_eq_false hq]
    have hr : rightP x = false := by
      cases hb : rightP x with
      | false => rfl
      | true => exact absurd (hfr.2 hb) hq
    refine VS_pure (P_not rfl) rfl rfl rfl ?_
    refine VS_nil ?_
    refine QS_then ?_
    refine TS_true rfl ?_
    refine TS_seq ?_
    refine TS_region ?_
    refine VS_pure (P_assign rfl) rfl rfl rfl ?_
    refine VS_pure (P_assign rfl) rfl rfl rfl ?_
    refine VS_nil ?_
    refine QS_then ?_
    refine TS_ret ?_
    refine QS_then_ret ?_
    exact QS_ret [_, _] ⟨rfl, rfl, trivial⟩ [] (Pick.nil _) ⟨rfl, .inr ⟨hr, rfl⟩⟩
set_option maxHeartbeats 8000000 in
theorem Of_65 {m : Mp} {lx : List Value} {x : Ltr} (hx : LtA m lx x) (hk : x.kind = 65) : CS Try.prog 9 [.agg lx.toArray] m [] (OfPost lx x) := by
  have hz := hx
  obtain ⟨vb, vc, vi, vp, ve, rfl, xb, xc, xi, xp, xe, xr⟩ := hx
  refine CS_of [.tmp 2, .tmp 3] Try.func9 rfl rfl rfl ?_
  have xb2 := xb
  have xc2 := xc
  have xi2 := xi
  have xp2 := xp
  have xe2 := xe
  obtain ⟨a1, d1, rfl, _⟩ := xb2
  obtain ⟨a2, d2, rfl, _⟩ := xc2
  obtain ⟨a3, d3, rfl, _⟩ := xi2
  obtain ⟨a4, d4, rfl, _⟩ := xp2
  obtain ⟨a5, d5, rfl, _⟩ := xe2
  have hfr := flat_right (x := x) (by rw [hk]; rfl)
  rw [flat_65 hk] at hfr
  refine TS_seq ?_
  refine TS_region ?_
  refine VS_step (S_box rfl rfl (fun b1 => ?_)) rfl
  refine VS_pure (P_assign rfl) rfl rfl rfl ?_
  refine VS_pure (P_assign rfl) rfl rfl rfl ?_
  refine VS_nil ?_
  refine QS_then ?_
  refine TS_seq ?_
  refine TS_region ?_
  refine VS_pure (P_assign rfl) rfl rfl rfl ?_
  refine VS_nil ?_
  refine QS_then ?_
  refine TS_seq ?_
  refine TS_seq ?_
  refine TS_region ?_
  refine VS_pure (P_fieldAddr0 fo32_0 rfl) rfl rfl rfl ?_
  refine VS_read (S_loadB sg5 rfl (.here) rfl) rfl rfl rfl ?_
  refine VS_nil ?_
  refine QS_then ?_
  refine TS_block ?_
  refine TS_seq ?_
  refine TS_region ?_
  refine VS_pure (df (P_eql rfl rfl) (by omega)) rfl rfl rfl ?_
  refine VS_pure (P_assign rfl) rfl rfl rfl ?_
  refine VS_nil ?_
  refine QS_then ?_
  refine TS_false rfl ?_
  refine TS_seq ?_
  refine TS_region ?_
  refine VS_pure (df (P_eql rfl rfl) (by omega)) rfl rfl rfl ?_
  refine VS_pure (P_assign rfl) rfl rfl rfl ?_
  refine VS_nil ?_
  refine QS_then ?_
  refine TS_false rfl ?_
  refine TS_seq ?_
  refine TS_region ?_
  refine VS_pure (df (P_eql rfl rfl) (by omega)) rfl rfl rfl ?_
  refine VS_pure (P_assign rfl) rfl rfl rfl ?_
  refine VS_nil ?_
  refine QS_then ?_
  refine TS_false rfl ?_
  refine TS_seq ?_
  refine TS_region ?_
  refine VS_pure (df (P_eql rfl rfl) (by omega)) rfl rfl rfl ?_
  refine VS_pure (P_assign rfl) rfl rfl rfl ?_
  refine VS_nil ?_
  refine QS_then ?_
  refine TS_false rfl ?_
  refine TS_seq ?_
  refine TS_region ?_
  refine VS_pure (df (P_eql rfl rfl) (by omega)) rfl rfl rfl ?_
  refine VS_pure (P_assign rfl) rfl rfl rfl ?_
  refine VS_nil ?_
  refine QS_then ?_
  refine TS_false rfl ?_
  refine TS_seq ?_
  refine TS_region ?_
  refine VS_pure (df (P_eql rfl rfl) (by omega)) rfl rfl rfl ?_
  refine VS_pure (P_assign rfl) rfl rfl rfl ?_
  refine VS_nil ?_
  refine QS_then ?_
  refine TS_false rfl ?_
  refine TS_seq ?_
  refine TS_region ?_
  refine VS_pure (df (P_eql rfl rfl) (by omega)) rfl rfl rfl ?_
  refine VS_pure (P_assign rfl) rfl rfl rfl ?_
  refine VS_nil ?_
  refine QS_then ?_
  refine TS_false rfl ?_
  refine TS_seq ?_
  refine TS_region ?_
  refine VS_pure (df (P_eql rfl rfl) (by omega)) rfl rfl rfl ?_
  refine VS_pure (P_assign rfl) rfl rfl rfl ?_
  refine VS_nil ?_
  refine QS_then ?_
  refine TS_false rfl ?_
  refine TS_seq ?_
  refine TS_region ?_
  refine VS_pure (df (P_eql rfl rfl) (by omega)) rfl rfl rfl ?_
  refine VS_pure (P_assign rfl) rfl rfl rfl ?_
  refine VS_nil ?_
  refine QS_then ?_
  refine TS_false rfl ?_
  refine TS_seq ?_
  refine TS_region ?_
  refine VS_pure (dt (P_eql rfl rfl) (by assumption)) rfl rfl rfl ?_
  refine VS_pure (P_assign rfl) rfl rfl rfl ?_
  refine VS_nil ?_
  refine QS_then ?_
  refine TS_true rfl ?_
  refine TS_region ?_
  refine VS_pure (P_fieldAddr0 fo32_1 rfl) rfl rfl rfl ?_
  refine VS_read (S_loadB sg3 rfl (.here) rfl) rfl rfl rfl ?_
  refine VS_pure (P_fieldAddr0 fo32_3 rfl) rfl rfl rfl ?_
  refine VS_read (S_loadB sg22 rfl (.here) rfl) rfl rfl rfl ?_
  refine VS_pure (P_build zl74 pl74 rfl rfl) rfl rfl rfl ?_
  refine VS_pure (P_mkIface ni74 us74 rfl) rfl rfl rfl ?_
  refine VS_pure (P_assign rfl) rfl rfl rfl ?_
  refine VS_nil ?_
  refine QS_block ?_
  refine QS_then ?_
  refine TS_seq ?_
  refine TS_seq ?_
  refine TS_region ?_
  refine VS_pure (P_move rfl) rfl rfl rfl ?_
  refine VS_step (S_callR cl11 rfl (fun m' hm he => (Flat74 _ _ _ _)) rfl ?_) rfl
  rintro _ rfl
  refine VS_pure (P_move rfl) rfl rfl rfl ?_
  refine VS_pure (P_extract rfl rfl) rfl rfl rfl ?_
  refine VS_pure (P_extract rfl rfl) rfl rfl rfl ?_
  refine VS_step (S_alloc zl32 rfl (fun b2 => ?_)) rfl
  refine VS_step (S_storeAgg ag32 rfl rfl rfl (.here) rfl rfl ?_) rfl
  refine VS_pure (P_assign rfl) rfl rfl rfl ?_
  refine VS_nil ?_
  refine QS_then ?_
  refine TS_seq ?_
  refine TS_region ?_
  refine VS_read (S_loadBA ag32 rfl (.here) rfl) rfl rfl rfl ?_
  refine VS_read (S_loadBA ag32 rfl (.there (.here)) rfl) rfl rfl rfl ?_
  by_cases hq : (⟨65, x.table, [], x.bytes, [], acn0, 0, 0, []⟩ : Ltr) = x
  · refine VS_step (S_callR cl19 rfl (fun m' hm he => ((same_ok (x := ⟨65, x.table, [], x.bytes, [], acn0, 0, 0, []⟩) ⟨_, _, _, _, _, rfl, (xb.mono hm).sl, (StrsE0 _).sl, (IntsE0 _).sl, (PairsE0 _).sl, (EvsE0 _).sl⟩ (hz.mono hm).lt))) rfl ?_) rfl
    rintro _ rfl
    rw [decide_eq_true hq]
    have hr := hfr.1 hq
    refine VS_pure (P_not rfl) rfl rfl rfl ?_
    refine VS_nil ?_
    refine QS_then ?_
    refine TS_false rfl ?_
    refine TS_skip ?_
    refine QS_then ?_
    refine TS_seq ?_
    refine TS_region ?_
    refine VS_pure (P_move rfl) rfl rfl rfl ?_
    refine VS_pure (P_assign rfl) rfl rfl rfl ?_
    refine VS_pure (P_assign rfl) rfl rfl rfl ?_
    refine VS_nil ?_
    refine QS_then ?_
    refine TS_ret ?_
    refine QS_ret [_, _] ⟨rfl, rfl, trivial⟩ [] (Pick.nil _) ⟨rfl, .inl ⟨hr, _, fun m0 h0 => ?_, rfl⟩⟩
    obtain ⟨_, _, _, _, _, heq, xb, xc, xi, xp, xe, xr⟩ := h0
    simp only [List.cons.injEq, true_and, and_true] at heq
    obtain ⟨rfl, rfl, rfl, rfl, rfl⟩ := heq
    rw [← hq]
    exact .seen _ _ _ xr.2.1 xb
  · refine VS_step (S_callR cl19 rfl (fun m' hm he => ((same_ok (x := ⟨65, x.table, [], x.bytes, [], acn0, 0, 0, []⟩) ⟨_, _, _, _, _, rfl, (xb.mono hm).sl, (StrsE0 _).sl, (IntsE0 _).sl, (PairsE0 _).sl, (EvsE0 _).sl⟩ (hz.mono hm).lt))) rfl ?_) rfl
    rintro _ rfl
    rw [decide_eq_false hq]
    have hr : rightP x = false := by
      cases hb : rightP x with
      | false => rfl
      | true => exact absurd (hfr.2 hb) hq
    refine VS_pure (P_not rfl) rfl rfl rfl ?_
    refine VS_nil ?_
    refine QS_then ?_
    refine TS_true rfl ?_
    refine TS_seq ?_
    refine TS_region ?_
    refine VS_pure (P_assign rfl) rfl rfl rfl ?_
    refine VS_pure (P_assign rfl) rfl rfl rfl ?_
    refine VS_nil ?_
    refine QS_then ?_
    refine TS_ret ?_
    refine QS_then_ret ?_
    exact QS_ret [_, _] ⟨rfl, rfl, trivial⟩ [] (Pick.nil _) ⟨rfl, .inr ⟨hr, rfl⟩⟩
set_option maxHeartbeats 8000000 in
theorem Of_66 {m : Mp} {lx : List Value} {x : Ltr} (hx : LtA m lx x) (hk : x.kind = 66) : CS Try.prog 9 [.agg lx.toArray] m [] (OfPost lx x) := by
  have hz := hx
  obtain ⟨vb, vc, vi, vp, ve, rfl, xb, xc, xi, xp, xe, xr⟩ := hx
  refine CS_of [.tmp 2, .tmp 3] Try.func9 rfl rfl rfl ?_
  have xb2 := xb
  have xc2 := xc
  have xi2 := xi
  have xp2 := xp
  have xe2 := xe
  obtain ⟨a1, d1, rfl, _⟩ := xb2
  obtain ⟨a2, d2, rfl, _⟩ := xc2
  obtain ⟨a3, d3, rfl, _⟩ := xi2
  obtain ⟨a4, d4, rfl, _⟩ := xp2
  obtain ⟨a5, d5, rfl, _⟩ := xe2
  have hfr := flat_right (x := x) (by rw [hk]; rfl)
  rw [flat_66 hk] at hfr
  refine TS_seq ?_
  refine TS_region ?_
  refine VS_step (S_box rfl rfl (fun b1 => ?_)) rfl
  refine VS_pure (P_assign rfl) rfl rfl rfl ?_
  refine VS_pure (P_assign rfl) rfl rfl rfl ?_
  refine VS_nil ?_
  refine QS_then ?_
  refine TS_seq ?_
  refine TS_region ?_
  refine VS_pure (P_assign rfl) rfl rfl rfl ?_
  refine VS_nil ?_
  refine QS_then ?_
  refine TS_seq ?_
  refine TS_seq ?_
  refine TS_region ?_
  refine VS_pure (P_fieldAddr0 fo32_0 rfl) rfl rfl rfl ?_
  refine VS_read (S_loadB sg5 rfl (.here) rfl) rfl rfl rfl ?_
  refine VS_nil ?_
  refine QS_then ?_
  refine TS_block ?_
  refine TS_seq ?_
  refine TS_region ?_
  refine VS_pure (df (P_eql rfl rfl) (by omega)) rfl rfl rfl ?_
  refine VS_pure (P_assign rfl) rfl rfl rfl ?_
  refine VS_nil ?_
  refine QS_then ?_
  refine TS_false rfl ?_
  refine TS_seq ?_
  refine TS_region ?_
  refine VS_pure (df (P_eql rfl rfl) (by omega)) rfl rfl rfl ?_
  refine VS_pure (P_assign rfl) rfl rfl rfl ?_
  refine VS_nil ?_
  refine QS_then ?_
  refine TS_false rfl ?_
  refine TS_seq ?_
  refine TS_region ?_
  refine VS_pure (df (P_eql rfl rfl) (by omega)) rfl rfl rfl ?_
  refine VS_pure (P_assign rfl) rfl rfl rfl ?_
  refine VS_nil ?_
  refine QS_then ?_
  refine TS_false rfl ?_
  refine TS_seq ?_
  refine TS_region ?_
  refine VS_pure (df (P_eql rfl rfl) (by omega)) rfl rfl rfl ?_
  refine VS_pure (P_assign rfl) rfl rfl rfl ?_
  refine VS_nil ?_
  refine QS_then ?_
  refine TS_false rfl ?_
  refine TS_seq ?_
  refine TS_region ?_
  refine VS_pure (df (P_eql rfl rfl) (by omega)) rfl rfl rfl ?_
  refine VS_pure (P_assign rfl) rfl rfl rfl ?_
  refine VS_nil ?_
  refine QS_then ?_
  refine TS_false rfl ?_
  refine TS_seq ?_
  refine TS_region ?_
  refine VS_pure (df (P_eql rfl rfl) (by omega)) rfl rfl rfl ?_
  refine VS_pure (P_assign rfl) rfl rfl rfl ?_
  refine VS_nil ?_
  refine QS_then ?_
  refine TS_false rfl ?_
  refine TS_seq ?_
  refine TS_region ?_
  refine VS_pure (df (P_eql rfl rfl) (by omega)) rfl rfl rfl ?_
  refine VS_pure (P_assign rfl) rfl rfl rfl ?_
  refine VS_nil ?_
  refine QS_then ?_
  refine TS_false rfl ?_
  refine TS_seq ?_
  refine TS_region ?_
  refine VS_pure (df (P_eql rfl rfl) (by omega)) rfl rfl rfl ?_
  refine VS_pure (P_assign rfl) rfl rfl rfl ?_
  refine VS_nil ?_
  refine QS_then ?_
  refine TS_false rfl ?_
  refine TS_seq ?_
  refine TS_region ?_
  refine VS_pure (df (P_eql rfl rfl) (by omega)) rfl rfl rfl ?_
  refine VS_pure (P_assign rfl) rfl rfl rfl ?_
  refine VS_nil ?_
  refine QS_then ?_
  refine TS_false rfl ?_
  refine TS_seq ?_
  refine TS_region ?_
  refine VS_pure (df (P_eql rfl rfl) (by omega)) rfl rfl rfl ?_
  refine VS_pure (P_assign rfl) rfl rfl rfl ?_
  refine VS_nil ?_
  refine QS_then ?_
  refine TS_false rfl ?_
  refine TS_seq ?_
  refine TS_region ?_
  refine VS_pure (dt (P_eql rfl rfl) (by assumption)) rfl rfl rfl ?_
  refine VS_pure (P_assign rfl) rfl rfl rfl ?_
  refine VS_nil ?_
  refine QS_then ?_
  refine TS_true rfl ?_
  refine TS_region ?_
  refine VS_pure (P_fieldAddr0 fo32_1 rfl) rfl rfl rfl ?_
  refine VS_read (S_loadB sg3 rfl (.here) rfl) rfl rfl rfl ?_
  refine VS_pure (P_fieldAddr0 fo32_8 rfl) rfl rfl rfl ?_
  refine VS_read (S_loadB sg30 rfl (.here) rfl) rfl rfl rfl ?_
  refine VS_pure (P_build zl76 pl76 rfl rfl) rfl rfl rfl ?_
  refine VS_pure (P_mkIface ni76 us76 rfl) rfl rfl rfl ?_
  refine VS_pure (P_assign rfl) rfl rfl rfl ?_
  refine VS_nil ?_
  refine QS_block ?_
  refine QS_then ?_
  refine TS_seq ?_
  refine TS_seq ?_
  refine TS_region ?_
  refine VS_pure (P_move rfl) rfl rfl rfl ?_
  refine VS_step (S_callR cl11 rfl (fun m' hm he => (Flat76 _ _ _ _)) rfl ?_) rfl
  rintro _ rfl
  refine VS_pure (P_move rfl) rfl rfl rfl ?_
  refine VS_pure (P_extract rfl rfl) rfl rfl rfl ?_
  refine VS_pure (P_extract rfl rfl) rfl rfl rfl ?_
  refine VS_step (S_alloc zl32 rfl (fun b2 => ?_)) rfl
  refine VS_step (S_storeAgg ag32 rfl rfl rfl (.here) rfl rfl ?_) rfl
  refine VS_pure (P_assign rfl) rfl rfl rfl ?_
  refine VS_nil ?_
  refine QS_then ?_
  refine TS_seq ?_
  refine TS_region ?_
  refine VS_read (S_loadBA ag32 rfl (.here) rfl) rfl rfl rfl ?_
  refine VS_read (S_loadBA ag32 rfl (.there (.here)) rfl) rfl rfl rfl ?_
  by_cases hq : (⟨66, x.table, [], [], [], acn0, 0, 0, x.evs⟩ : Ltr) = x
  · refine VS_step (S_callR cl19 rfl (fun m' hm he => ((same_ok (x := ⟨66, x.table, [], [], [], acn0, 0, 0, x.evs⟩) ⟨_, _, _, _, _, rfl, (BytesE0 _).sl, (StrsE0 _).sl, (IntsE0 _).sl, (PairsE0 _).sl, (xe.mono hm).sl⟩ (hz.mono hm).lt))) rfl ?_) rfl
    rintro _ rfl
    rw [decide_eq_true hq]
    have hr := hfr.1 hq
    refine VS_pure (P_not rfl) rfl rfl rfl ?_
    refine VS_nil ?_
    refine QS_then ?_
    refine TS_false rfl ?_
    refine TS_skip ?_
    refine QS_then ?_
    refine TS_seq ?_
    refine TS_region ?_
    refine VS_pure (P_move rfl) rfl rfl rfl ?_
    refine VS_pure (P_assign rfl) rfl rfl rfl ?_
    refine VS_pure (P_assign rfl) rfl rfl rfl ?_
    refine VS_nil ?_
    refine QS_then ?_
    refine TS_ret ?_
    refine QS_ret [_, _] ⟨rfl, rfl, trivial⟩ [] (Pick.nil _) ⟨rfl, .inl ⟨hr, _, fun m0 h0 => ?_, rfl⟩⟩
    obtain ⟨_, _, _, _, _, heq, xb, xc, xi, xp, xe, xr⟩ := h0
    simp only [List.cons.injEq, true_and, and_true] at heq
    obtain ⟨rfl, rfl, rfl, rfl, rfl⟩ := heq
    rw [← hq]
    exact .told _ _ _ xr.2.1 xe
  · refine VS_step (S_callR cl19 rfl (fun m' hm he => ((same_ok (x := ⟨66, x.table, [], [], [], acn0, 0, 0, x.evs⟩) ⟨_, _, _, _, _, rfl, (BytesE0 _).sl, (StrsE0 _).sl, (IntsE0 _).sl, (PairsE0 _).sl, (xe.mono hm).sl⟩ (hz.mono hm).lt))) rfl ?_) rfl
    rintro _ rfl
    rw [decide_eq_false hq]
    have hr : rightP x = false := by
      cases hb : rightP x with
      | false => rfl
      | true => exact absurd (hfr.2 hb) hq
    refine VS_pure (P_not rfl) rfl rfl rfl ?_
    refine VS_nil ?_
    refine QS_then ?_
    refine TS_true rfl ?_
    refine TS_seq ?_
    refine TS_region ?_
    refine VS_pure (P_assign rfl) rfl rfl rfl ?_
    refine VS_pure (P_assign rfl) rfl rfl rfl ?_
    refine VS_nil ?_
    refine QS_then ?_
    refine TS_ret ?_
    refine QS_then_ret ?_
    exact QS_ret [_, _] ⟨rfl, rfl, trivial⟩ [] (Pick.nil _) ⟨rfl, .inr ⟨hr, rfl⟩⟩
set_option maxHeartbeats 8000000 in
theorem Of_67 {m : Mp} {lx : List Value} {x : Ltr} (hx : LtA m lx x) (hk : x.kind = 67) : CS Try.prog 9 [.agg lx.toArray] m [] (OfPost lx x) := by
  have hz := hx
  obtain ⟨vb, vc, vi, vp, ve, rfl, xb, xc, xi, xp, xe, xr⟩ := hx
  refine CS_of [.tmp 2, .tmp 3] Try.func9 rfl rfl rfl ?_
  have xb2 := xb
  have xc2 := xc
  have xi2 := xi
  have xp2 := xp
  have xe2 := xe
  obtain ⟨a1, d1, rfl, _⟩ := xb2
  obtain ⟨a2, d2, rfl, _⟩ := xc2
  obtain ⟨a3, d3, rfl, _⟩ := xi2
  obtain ⟨a4, d4, rfl, _⟩ := xp2
  obtain ⟨a5, d5, rfl, _⟩ := xe2
  have hfr := flat_right (x := x) (by rw [hk]; rfl)
  rw [flat_67 hk] at hfr
  refine TS_seq ?_
  refine TS_region ?_
  refine VS_step (S_box rfl rfl (fun b1 => ?_)) rfl
  refine VS_pure (P_assign rfl) rfl rfl rfl ?_
  refine VS_pure (P_assign rfl) rfl rfl rfl ?_
  refine VS_nil ?_
  refine QS_then ?_
  refine TS_seq ?_
  refine TS_region ?_
  refine VS_pure (P_assign rfl) rfl rfl rfl ?_
  refine VS_nil ?_
  refine QS_then ?_
  refine TS_seq ?_
  refine TS_seq ?_
  refine TS_region ?_
  refine VS_pure (P_fieldAddr0 fo32_0 rfl) rfl rfl rfl ?_
  refine VS_read (S_loadB sg5 rfl (.here) rfl) rfl rfl rfl ?_
  refine VS_nil ?_
  refine QS_then ?_
  refine TS_block ?_
  refine TS_seq ?_
  refine TS_region ?_
  refine VS_pure (df (P_eql rfl rfl) (by omega)) rfl rfl rfl ?_
  refine VS_pure (P_assign rfl) rfl rfl rfl ?_
  refine VS_nil ?_
  refine QS_then ?_
  refine TS_false rfl ?_
  refine TS_seq ?_
  refine TS_region ?_
  refine VS_pure (df (P_eql rfl rfl) (by omega)) rfl rfl rfl ?_
  refine VS_pure (P_assign rfl) rfl rfl rfl ?_
  refine VS_nil ?_
  refine QS_then ?_
  refine TS_false rfl ?_
  refine TS_seq ?_
  refine TS_region ?_
  refine VS_pure (df (P_eql rfl rfl) (by omega)) rfl rfl rfl ?_
  refine VS_pure (P_assign rfl) rfl rfl rfl ?_
  refine VS_nil ?_
  refine QS_then ?_
  refine TS_false rfl ?_
  refine TS_seq ?_
  refine TS_region ?_
  refine VS_pure (df (P_eql rfl rfl) (by omega)) rfl rfl rfl ?_
  refine VS_pure (P_assign rfl) rfl rfl rfl ?_
  refine VS_nil ?_
  refine QS_then ?_
  refine TS_false rfl ?_
  refine TS_seq ?_
  refine TS_region ?_
  refine VS_pure (df (P_eql rfl rfl) (by omega)) rfl rfl rfl ?_
  refine VS_pure (P_assign rfl) rfl rfl rfl ?_
  refine VS_nil ?_
  refine QS_then ?_
  refine TS_false rfl ?_
  refine TS_seq ?_
  refine TS_region ?_
  refine VS_pure (df (P_eql rfl rfl) (by omega)) rfl rfl rfl ?_
  refine VS_pure (P_assign rfl) rfl rfl rfl ?_
  refine VS_nil ?_
  refine QS_then ?_
  refine TS_false rfl ?_
  refine TS_seq ?_
  refine TS_region ?_
  refine VS_pure (df (P_eql rfl rfl) (by omega)) rfl rfl rfl ?_
  refine VS_pure (P_assign rfl) rfl rfl rfl ?_
  refine VS_nil ?_
  refine QS_then ?_
  refine TS_false rfl ?_
  refine TS_seq ?_
  refine TS_region ?_
  refine VS_pure (df (P_eql rfl rfl) (by omega)) rfl rfl rfl ?_
  refine VS_pure (P_assign rfl) rfl rfl rfl ?_
  refine VS_nil ?_
  refine QS_then ?_
  refine TS_false rfl ?_
  refine TS_seq ?_
  refine TS_region ?_
  refine VS_pure (df (P_eql rfl rfl) (by omega)) rfl rfl rfl ?_
  refine VS_pure (P_assign rfl) rfl rfl rfl ?_
  refine VS_nil ?_
  refine QS_then ?_
  refine TS_false rfl ?_
  refine TS_seq ?_
  refine TS_region ?_
  refine VS_pure (df (P_eql rfl rfl) (by omega)) rfl rfl rfl ?_
  refine VS_pure (P_assign rfl) rfl rfl rfl ?_
  refine VS_nil ?_
  refine QS_then ?_
  refine TS_false rfl ?_
  refine TS_seq ?_
  refine TS_region ?_
  refine VS_pure (df (P_eql rfl rfl) (by omega)) rfl rfl rfl ?_
  refine VS_pure (P_assign rfl) rfl rfl rfl ?_
  refine VS_nil ?_
  refine QS_then ?_
  refine TS_false rfl ?_
  refine TS_seq ?_
  refine TS_region ?_
  refine VS_pure (dt (P_eql rfl rfl) (by assumption)) rfl rfl rfl ?_
  refine VS_pure (P_assign rfl) rfl rfl rfl ?_
  refine VS_nil ?_
  refine QS_then ?_
  refine TS_true rfl ?_
  refine TS_region ?_
  refine VS_pure (P_fieldAddr0 fo32_1 rfl) rfl rfl rfl ?_
  refine VS_read (S_loadB sg3 rfl (.here) rfl) rfl rfl rfl ?_
  refine VS_pure (P_fieldAddr0 fo32_3 rfl) rfl rfl rfl ?_
  refine VS_read (S_loadB sg22 rfl (.here) rfl) rfl rfl rfl ?_
  refine VS_pure (P_build zl78 pl78 rfl rfl) rfl rfl rfl ?_
  refine VS_pure (P_mkIface ni78 us78 rfl) rfl rfl rfl ?_
  refine VS_pure (P_assign rfl) rfl rfl rfl ?_
  refine VS_nil ?_
  refine QS_block ?_
  refine QS_then ?_
  refine TS_seq ?_
  refine TS_seq ?_
  refine TS_region ?_
  refine VS_pure (P_move rfl) rfl rfl rfl ?_
  refine VS_step (S_callR cl11 rfl (fun m' hm he => (Flat78 _ _ _ _)) rfl ?_) rfl
  rintro _ rfl
  refine VS_pure (P_move rfl) rfl rfl rfl ?_
  refine VS_pure (P_extract rfl rfl) rfl rfl rfl ?_
  refine VS_pure (P_extract rfl rfl) rfl rfl rfl ?_
  refine VS_step (S_alloc zl32 rfl (fun b2 => ?_)) rfl
  refine VS_step (S_storeAgg ag32 rfl rfl rfl (.here) rfl rfl ?_) rfl
  refine VS_pure (P_assign rfl) rfl rfl rfl ?_
  refine VS_nil ?_
  refine QS_then ?_
  refine TS_seq ?_
  refine TS_region ?_
  refine VS_read (S_loadBA ag32 rfl (.here) rfl) rfl rfl rfl ?_
  refine VS_read (S_loadBA ag32 rfl (.there (.here)) rfl) rfl rfl rfl ?_
  by_cases hq : (⟨67, x.table, [], x.bytes, [], acn0, 0, 0, []⟩ : Ltr) = x
  · refine VS_step (S_callR cl19 rfl (fun m' hm he => ((same_ok (x := ⟨67, x.table, [], x.bytes, [], acn0, 0, 0, []⟩) ⟨_, _, _, _, _, rfl, (xb.mono hm).sl, (StrsE0 _).sl, (IntsE0 _).sl, (PairsE0 _).sl, (EvsE0 _).sl⟩ (hz.mono hm).lt))) rfl ?_) rfl
    rintro _ rfl
    rw [decide_eq_true hq]
    have hr := hfr.1 hq
    refine VS_pure (P_not rfl) rfl rfl rfl ?_
    refine VS_nil ?_
    refine QS_then ?_
    refine TS_false rfl ?_
    refine TS_skip ?_
    refine QS_then ?_
    refine TS_seq ?_
    refine TS_region ?_
    refine VS_pure (P_move rfl) rfl rfl rfl ?_
    refine VS_pure (P_assign rfl) rfl rfl rfl ?_
    refine VS_pure (P_assign rfl) rfl rfl rfl ?_
    refine VS_nil ?_
    refine QS_then ?_
    refine TS_ret ?_
    refine QS_ret [_, _] ⟨rfl, rfl, trivial⟩ [] (Pick.nil _) ⟨rfl, .inl ⟨hr, _, fun m0 h0 => ?_, rfl⟩⟩
    obtain ⟨_, _, _, _, _, heq, xb, xc, xi, xp, xe, xr⟩ := h0
    simp only [List.cons.injEq, true_and, and_true] at heq
    obtain ⟨rfl, rfl, rfl, rfl, rfl⟩ := heq
    rw [← hq]
    exact .book _ _ _ xr.2.1 xb
  · refine VS_step (S_callR cl19 rfl (fun m' hm he => ((same_ok (x := ⟨67, x.table, [], x.bytes, [], acn0, 0, 0, []⟩) ⟨_, _, _, _, _, rfl, (xb.mono hm).sl, (StrsE0 _).sl, (IntsE0 _).sl, (PairsE0 _).sl, (EvsE0 _).sl⟩ (hz.mono hm).lt))) rfl ?_) rfl
    rintro _ rfl
    rw [decide_eq_false hq]
    have hr : rightP x = false := by
      cases hb : rightP x with
      | false => rfl
      | true => exact absurd (hfr.2 hb) hq
    refine VS_pure (P_not rfl) rfl rfl rfl ?_
    refine VS_nil ?_
    refine QS_then ?_
    refine TS_true rfl ?_
    refine TS_seq ?_
    refine TS_region ?_
    refine VS_pure (P_assign rfl) rfl rfl rfl ?_
    refine VS_pure (P_assign rfl) rfl rfl rfl ?_
    refine VS_nil ?_
    refine QS_then ?_
    refine TS_ret ?_
    refine QS_then_ret ?_
    exact QS_ret [_, _] ⟨rfl, rfl, trivial⟩ [] (Pick.nil _) ⟨rfl, .inr ⟨hr, rfl⟩⟩
theorem Of_ok {m : Mp} {lx : List Value} {x : Ltr} (hx : LtA m lx x) : CS Try.prog 9 [.agg lx.toArray] m [] (OfPost lx x) := by
  cases hk : known x.kind with
  | false => exact Of_no hx hk
  | true =>
    rcases known_or hk with h | h | h | h | h | h | h | h | h | h | h | h
    · exact Of_1 hx h
    · exact Of_2 hx h
    · exact Of_3 hx h
    · exact Of_4 hx h
    · exact Of_5 hx h
    · exact Of_6 hx h
    · exact Of_7 hx h
    · exact Of_8 hx h
    · exact Of_64 hx h
    · exact Of_65 hx h
    · exact Of_66 hx h
    · exact Of_67 hx h
end Go.Proofs.Ytbpihgphicmdiaa
