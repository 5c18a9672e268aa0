/- A part of the proof: contracts of functions of the program. No condition. -/
import Derived.Test.YtbghonkgflolaaaDoorKdN
namespace Go.Proofs.YtbghonkgflolaaaDoor
open Go.Eng Wd Kd
set_option maxRecDepth 100000
theorem EffOk_iff {u : Us} {t : Bool} {d : Nat} {op who : Int} {n : NumT} {name : List UInt8} {c : CondT} {a b : List EffT} : EffOk u t d (.mk op who n name c a b) ↔
    (zeroP (.mk op who n name c a b) = true ∧ (countsB op = true → NumOk t n)) ∧ whoHead u t op who name = true ∧ (op = 8 → CondOk u t c ∧ ListOk u t (d + 1) a ∧ ListOk u t (d + 1) b) := by
  constructor
  · intro h
    cases h with
    | mk hz hn hw hc ha hak hb hbk => exact ⟨⟨hz, hn⟩, hw, fun h8 => ⟨hc h8, ⟨(ha h8).1, (ha h8).2, hak h8⟩, ⟨hb h8, (ha h8).2, hbk h8⟩⟩⟩
  · rintro ⟨⟨hz, hn⟩, hw, h8⟩
    exact .mk hz hn hw (fun e => (h8 e).1) (fun e => ⟨(h8 e).2.1.1, (h8 e).2.1.2.1⟩) (fun e => (h8 e).2.1.2.2) (fun e => (h8 e).2.2.1) (fun e => (h8 e).2.2.2.2)
/-- the contract of a list of effects -/
def LC (l : List EffT) : Prop := ∀ (m : Mp) (A : Option Addr) (cap b d : Nat) (ul : List (List UInt8 × Bool)) (t : Bool), EffsR m A l.length l → CkR m b ul t → d ≤ 9 →
    CS Tryd.prog 16 [.pointer (some ⟨b, 0, none⟩), .slice A l.length cap, .int .i64 (d : Nat)] m [] (fun v L' => L' = [] ∧ ∃ r, v = .bool r ∧ (r = true ↔ ListOk (uOf ul) t d l))
set_option maxHeartbeats 64000000 in
theorem list16_step {l : List EffT} (ih : ∀ (i : Nat) (h : i < l.length) (op who : Int) (n : NumT) (name : List UInt8) (c : CondT) (a e : List EffT), l[i] = .mk op who n name c a e → LC a ∧ LC e) : LC l := by
  rintro m A cap b d ul t ⟨-, hml, vs, hrd, hvl, hel⟩ hck hd9
  have hck0 := hck
  obtain ⟨bm, hk0, hk1, hmap⟩ := hck
  unfold maxLen at hml
  refine CS_of [.tmp 6] Tryd.func16 rfl rfl rfl ?_
  by_cases h16 : l.length ≤ 16
  rotate_left
  · refine TS_seq ?_
    refine TS_region ?_
    refine VS_pure (P_assign rfl) rfl rfl rfl ?_
    refine VS_nil ?_
    refine QS_then ?_
    refine TS_seq ?_
    refine TS_seq ?_
    refine TS_region ?_
    refine VS_pure (P_move rfl) rfl rfl rfl ?_
    refine VS_pure (P_len il29 rfl) rfl rfl rfl ?_
    refine VS_pure (dt (P_gtr rfl rfl) (by omega)) rfl rfl rfl ?_
    refine VS_pure (P_move rfl) rfl rfl rfl ?_
    refine VS_skip rfl rfl rfl ?_
    refine VS_skip rfl rfl rfl ?_
    refine VS_pure (P_pick_t rfl rfl) rfl rfl rfl ?_
    refine VS_nil ?_
    refine QS_then ?_
    refine TS_true rfl ?_
    refine TS_seq ?_
    refine TS_region ?_
    refine VS_pure (P_assign rfl) rfl rfl rfl ?_
    refine VS_nil ?_
    refine QS_then ?_
    refine TS_ret ?_
    refine QS_then_ret ?_
    exact QS_ret [_] ⟨rfl, trivial⟩ [] (Pick.nil _) ⟨rfl, false, rfl, fun h => (by cases h), fun h => absurd h.1 h16⟩
  by_cases h8 : d ≤ 8
  rotate_left
  · refine TS_seq ?_
    refine TS_region ?_
    refine VS_pure (P_assign rfl) rfl rfl rfl ?_
    refine VS_nil ?_
    refine QS_then ?_
    refine TS_seq ?_
    refine TS_seq ?_
    refine TS_region ?_
    refine VS_pure (P_move rfl) rfl rfl rfl ?_
    refine VS_pure (P_len il29 rfl) rfl rfl rfl ?_
    refine VS_pure (df (P_gtr rfl rfl) (by omega)) rfl rfl rfl ?_
    refine VS_pure (P_move rfl) rfl rfl rfl ?_
    refine VS_pure (P_move rfl) rfl rfl rfl ?_
    refine VS_pure (dt (P_gtr rfl rfl) (by omega)) rfl rfl rfl ?_
    refine VS_pure (P_pick_f rfl rfl) rfl rfl rfl ?_
    refine VS_nil ?_
    refine QS_then ?_
    refine TS_true rfl ?_
    refine TS_seq ?_
    refine TS_region ?_
    refine VS_pure (P_assign rfl) rfl rfl rfl ?_
    refine VS_nil ?_
    refine QS_then ?_
    refine TS_ret ?_
    refine QS_then_ret ?_
    exact QS_ret [_] ⟨rfl, trivial⟩ [] (Pick.nil _) ⟨rfl, false, rfl, fun h => (by cases h), fun h => absurd h.2.1 h8⟩
  refine TS_seq ?_
  refine TS_region ?_
  refine VS_pure (P_assign rfl) rfl rfl rfl ?_
  refine VS_nil ?_
  refine QS_then ?_
  refine TS_seq ?_
  refine TS_seq ?_
  refine TS_region ?_
  refine VS_pure (P_move rfl) rfl rfl rfl ?_
  refine VS_pure (P_len il29 rfl) rfl rfl rfl ?_
  refine VS_pure (df (P_gtr rfl rfl) (by omega)) rfl rfl rfl ?_
  refine VS_pure (P_move rfl) rfl rfl rfl ?_
  refine VS_pure (P_move rfl) rfl rfl rfl ?_
  refine VS_pure (df (P_gtr rfl rfl) (by omega)) rfl rfl rfl ?_
  refine VS_pure (P_pick_f rfl rfl) rfl rfl rfl ?_
  refine VS_nil ?_
  refine QS_then ?_
  refine TS_false rfl ?_
  refine TS_skip ?_
  refine QS_then ?_
  refine TS_seq ?_
  refine TS_seq ?_
  refine TS_region ?_
  refine VS_pure (P_move rfl) rfl rfl rfl ?_
  refine VS_pure (P_len il29 rfl) rfl rfl rfl ?_
  refine VS_pure (P_move rfl) rfl rfl rfl ?_
  refine VS_nil ?_
  refine QS_then ?_
  refine TS_block ?_
  refine TS_loop (α := Nat) (fun i => [(0, .pointer (some ⟨b, 0, none⟩)), (1, .slice A l.length cap), (2, .int .i64 (d : Nat)), (18, .int .i64 (l.length : Nat)), (19, .int .i64 (i : Nat))]) (fun _ => []) (fun i => i ≤ l.length ∧ ∀ (j : Nat) (h : j < l.length), j < i → EffOk (uOf ul) t d l[j]) (fun i => l.length - i) 0 ⟨rfl, rfl, rfl, rfl, rfl, trivial⟩ (Pick.refl _) ⟨Nat.zero_le _, fun _ _ h => by cases h⟩ ?_
  rintro i ⟨hi, hdone⟩
  try dsimp only at hi hdone
  try dsimp only
  by_cases hlt : i < l.length
  rotate_left
  · refine TS_seq ?_
    refine TS_region ?_
    refine VS_pure (df (P_lss rfl rfl) (by omega)) rfl rfl rfl ?_
    refine VS_nil ?_
    refine QS_then ?_
    refine TS_seq ?_
    refine TS_false rfl ?_
    refine TS_exit ?_
    refine QS_then_exit ?_
    refine QS_round_exit ?_
    refine QS_block_here ?_
    refine QS_then ?_
    refine TS_seq ?_
    refine TS_region ?_
    refine VS_pure (P_assign rfl) rfl rfl rfl ?_
    refine VS_nil ?_
    refine QS_then ?_
    refine TS_ret ?_
    exact QS_ret [_] ⟨rfl, trivial⟩ [] (Pick.nil _) ⟨rfl, true, rfl, fun _ => ⟨h16, h8, fun j h => hdone j h (by omega)⟩, fun _ => rfl⟩
  have hA : A.isSome = true := hrd.isSome (by omega)
  have hx := hel i hlt
  have hat := hrd.elem (i * 14) 14
  have hih := ih i hlt
  have hfin : ¬ EffOk (uOf ul) t d l[i] → ¬ ListOk (uOf ul) t d l := fun h1 h2 => h1 (h2.2.2 i hlt)
  have hnext : EffOk (uOf ul) t d l[i] → ∀ (j : Nat) (h : j < l.length), j < i + 1 → EffOk (uOf ul) t d l[j] := fun h1 j h h2 => by
    by_cases hji : j < i
    · exact hdone j h hji
    · obtain rfl : j = i := by omega
      exact h1
  generalize l[i] = x at hx hih hfin hnext
  generalize (vs.drop (i * 14)).take 14 = cs at hx hat
  have hx0 := hx
  obtain ⟨op, who, nop, nn, nwho, nA, nlen, nc, name, cop, cwho, cname, cA, cla, cca, cB, clb, ccb, TA, la, ca, EB, lb, cb, n, cond, thn, els, rfl, rfl, -, hn, hc, hthn, hels⟩ := EffR.parts hx
  obtain ⟨ihT, ihE⟩ := hih _ _ _ _ _ _ _ rfl
  have elen := hthn.1
  have elen2 := hels.1
  subst elen elen2
  rw [EffOk_iff] at hfin hnext
  have hatn := hat.sub 2 4
  have hatc := hat.sub 7 5
  dsimp only [List.drop, List.take] at hatn hatc
  have hzero := fun m1 (hm1 : Le m m1) => zero29 (hx0.mono hm1) (hat.mono hm1)
  generalize zeroP (.mk op who n name cond thn els) = z at hfin hnext hzero
  clear hx hx0 hdone
  refine TS_seq ?_
  refine TS_region ?_
  refine VS_pure (dt (P_lss rfl rfl) (by omega)) rfl rfl rfl ?_
  refine VS_nil ?_
  refine QS_then ?_
  refine TS_seq ?_
  refine TS_true rfl ?_
  refine TS_skip ?_
  refine QS_then ?_
  refine TS_seq ?_
  refine TS_block ?_
  refine TS_seq ?_
  refine TS_region ?_
  refine VS_pure (P_move rfl) rfl rfl rfl ?_
  refine VS_pure (P_assign rfl) rfl rfl rfl ?_
  refine VS_nil ?_
  refine QS_then ?_
  refine TS_seq ?_
  refine TS_region ?_
  refine VS_pure (P_move rfl) rfl rfl rfl ?_
  refine VS_pure (P_move rfl) rfl rfl rfl ?_
  refine VS_pure (P_indexAddrN ez29 rfl rfl hA (by omega)) rfl rfl rfl ?_
  refine VS_pure (P_assign rfl) rfl rfl rfl ?_
  refine VS_nil ?_
  refine QS_then ?_
  refine TS_seq ?_
  refine TS_cut (α := Bool) (fun y => [(0, .pointer (some ⟨b, 0, none⟩)), (1, .slice A l.length cap), (2, .int .i64 (d : Nat)), (18, .int .i64 (l.length : Nat)), (19, .int .i64 (i : Nat)), (8, .pointer (some ((sa A).add (i * 14)))), (9, .bool y)]) (fun _ => []) (fun y => y = true ↔ (z = true ∧ (countsB op = true → NumOk t n))) ?_ ?_
  · refine TS_region ?_
    refine VS_pure (P_move rfl) rfl rfl rfl ?_
    refine VS_step (S_callR cl29 rfl (fun m' hm he => (hzero m' hm)) rfl ?_) rfl
    rintro _ rfl
    cases z with
    | false =>
      refine VS_pure (P_move rfl) rfl rfl rfl ?_
      iterate 13 (refine VS_skip rfl rfl rfl ?_)
      refine VS_pure (P_pick_f rfl rfl) rfl rfl rfl ?_
      refine VS_pure (P_assign rfl) rfl rfl rfl ?_
      refine VS_nil ?_
      exact QS_round false ⟨rfl, rfl, rfl, rfl, rfl, rfl, rfl, trivial⟩ (Pick.refl _) (by simp) (by decide)
    | true =>
      refine VS_pure (P_move rfl) rfl rfl rfl ?_
      refine VS_pure (P_move rfl) rfl rfl rfl ?_
      refine VS_pure (P_nilCheck rfl) rfl rfl rfl ?_
      refine VS_pure (P_fieldAddr fo47_0 rfl) rfl rfl rfl ?_
      refine VS_read (S_load sg39 rfl (hat.at_ rfl)) rfl rfl rfl ?_
      refine VS_step (S_callR cl30 rfl (fun m' hm he => (counts30 op)) rfl ?_) rfl
      rintro _ rfl
      cases hcb : countsB op with
      | false =>
        refine VS_pure (P_not rfl) rfl rfl rfl ?_
        refine VS_pure (P_move rfl) rfl rfl rfl ?_
        iterate 5 (refine VS_skip rfl rfl rfl ?_)
        refine VS_pure (P_pick_t rfl rfl) rfl rfl rfl ?_
        refine VS_pure (P_pick_t rfl rfl) rfl rfl rfl ?_
        refine VS_pure (P_assign rfl) rfl rfl rfl ?_
        refine VS_nil ?_
        exact QS_round true ⟨rfl, rfl, rfl, rfl, rfl, rfl, rfl, trivial⟩ (Pick.refl _) (by simp) (by decide)
      | true =>
        refine VS_pure (P_not rfl) rfl rfl rfl ?_
        iterate 3 (refine VS_pure (P_move rfl) rfl rfl rfl ?_)
        refine VS_pure (P_nilCheck rfl) rfl rfl rfl ?_
        refine VS_pure (P_fieldAddr fo47_2 rfl) rfl rfl rfl ?_
        refine VS_step ((S_call cl31 rfl (fun m1 hm1 he => num31 hn m1 hm1 _ b t (hatn.mono hm1) (mc_mono hm1 hk1)) rfl ?_)) rfl
        rintro _ _ ⟨rfl, r, rfl, hrr⟩
        refine VS_pure (P_pick_f rfl rfl) rfl rfl rfl ?_
        refine VS_pure (P_pick_t rfl rfl) rfl rfl rfl ?_
        refine VS_pure (P_assign rfl) rfl rfl rfl ?_
        refine VS_nil ?_
        exact QS_round r ⟨rfl, rfl, rfl, rfl, rfl, rfl, rfl, trivial⟩ (Pick.refl _) (by simp [hrr]) (by decide)
  intro y hy
  rw [← hy] at hfin hnext
  clear hzero hy
  refine TS_seq ?_
  refine TS_seq ?_
  refine TS_cut3 (α := Bool) (fun y => [(0, .pointer (some ⟨b, 0, none⟩)), (1, .slice A l.length cap), (2, .int .i64 (d : Nat)), (18, .int .i64 (l.length : Nat)), (19, .int .i64 (i : Nat)), (9, .bool y)]) (fun _ => []) (fun z => z = true ↔ (y = true ∧ whoHead (uOf ul) t op who name = true ∧ (op = 8 → CondOk (uOf ul) t cond ∧ ListOk (uOf ul) t (d + 1) thn ∧ ListOk (uOf ul) t (d + 1) els))) ?_ ?_
  · refine TS_region ?_
    refine VS_pure (P_move rfl) rfl rfl rfl ?_
    refine VS_pure (P_nilCheck rfl) rfl rfl rfl ?_
    refine VS_pure (P_fieldAddr fo47_0 rfl) rfl rfl rfl ?_
    refine VS_read (S_load sg39 rfl (hat.at_ rfl)) rfl rfl rfl ?_
    refine VS_nil ?_
    refine QS_then ?_
    refine TS_block ?_
    refine TS_seq ?_
    refine TS_seq ?_
    by_cases e0 : op = 0
    · cases y with
      | false =>
        refine TS_region ?_
        refine VS_pure (dt (P_eql rfl rfl) (by assumption)) rfl rfl rfl ?_
        refine VS_pure (P_assign rfl) rfl rfl rfl ?_
        refine VS_nil ?_
        refine QS_then ?_
        refine TS_true rfl ?_
        refine TS_skip ?_
        refine QS_then ?_
        refine TS_true rfl ?_
        refine TS_region ?_
        refine VS_pure (P_move rfl) rfl rfl rfl ?_
        refine VS_pure (P_move rfl) rfl rfl rfl ?_
        iterate 18 (refine VS_skip rfl rfl rfl ?_)
        refine VS_pure (P_pick_f rfl rfl) rfl rfl rfl ?_
        refine VS_pure (P_assign rfl) rfl rfl rfl ?_
        refine VS_nil ?_
        refine QS_block ?_
        exact QS_round false ⟨rfl, rfl, rfl, rfl, rfl, rfl, trivial⟩ (Pick.refl _) (by simp [whoHead, *]) (by decide)
      | true =>
        refine TS_region ?_
        refine VS_pure (dt (P_eql rfl rfl) (by assumption)) rfl rfl rfl ?_
        refine VS_pure (P_assign rfl) rfl rfl rfl ?_
        refine VS_nil ?_
        refine QS_then ?_
        refine TS_true rfl ?_
        refine TS_skip ?_
        refine QS_then ?_
        refine TS_true rfl ?_
        refine TS_region ?_
        iterate 3 (refine VS_pure (P_move rfl) rfl rfl rfl ?_)
        refine VS_pure (P_nilCheck rfl) rfl rfl rfl ?_
        refine VS_pure (P_fieldAddr fo47_1 rfl) rfl rfl rfl ?_
        refine VS_read (S_load sg39 rfl (hat.at_ rfl)) rfl rfl rfl ?_
        refine VS_step (S_callR cl32 rfl (fun m' hm he => (side32 who)) rfl ?_) rfl
        rintro _ rfl
        cases hsd : sideB who with
        | true =>
          refine VS_pure (P_move rfl) rfl rfl rfl ?_
          iterate 11 (refine VS_skip rfl rfl rfl ?_)
          refine VS_pure (P_pick_t rfl rfl) rfl rfl rfl ?_
          refine VS_pure (P_pick_t rfl rfl) rfl rfl rfl ?_
          refine VS_pure (P_assign rfl) rfl rfl rfl ?_
          refine VS_nil ?_
          refine QS_block ?_
          exact QS_round true ⟨rfl, rfl, rfl, rfl, rfl, rfl, trivial⟩ (Pick.refl _) (by simp [whoHead, *]) (by decide)
        | false =>
          by_cases hw2 : who = 2
          · have h20 : sideB 2 = false := rfl
            refine VS_pure (P_move rfl) rfl rfl rfl ?_
            refine VS_pure (P_move rfl) rfl rfl rfl ?_
            refine VS_pure (P_nilCheck rfl) rfl rfl rfl ?_
            refine VS_pure (P_fieldAddr fo47_1 rfl) rfl rfl rfl ?_
            refine VS_read (S_load sg39 rfl (hat.at_ rfl)) rfl rfl rfl ?_
            refine VS_pure (dt (P_eql rfl rfl) (by assumption)) rfl rfl rfl ?_
            refine VS_pure (P_move rfl) rfl rfl rfl ?_
            refine VS_pure (P_move rfl) rfl rfl rfl ?_
            refine VS_pure (P_nilCheck rfl) rfl rfl rfl ?_
            refine VS_pure (P_fieldAddr0 fo55_1 rfl) rfl rfl rfl ?_
            refine VS_read (S_load sg4 rfl hk1) rfl rfl rfl ?_
            refine VS_pure (P_pick_t rfl rfl) rfl rfl rfl ?_
            refine VS_pure (P_pick_f rfl rfl) rfl rfl rfl ?_
            refine VS_pure (P_pick_t rfl rfl) rfl rfl rfl ?_
            refine VS_pure (P_assign rfl) rfl rfl rfl ?_
            refine VS_nil ?_
            refine QS_block ?_
            exact QS_round t ⟨rfl, rfl, rfl, rfl, rfl, rfl, trivial⟩ (Pick.refl _) (by simp [whoHead, *]) (by decide)
          · refine VS_pure (P_move rfl) rfl rfl rfl ?_
            refine VS_pure (P_move rfl) rfl rfl rfl ?_
            refine VS_pure (P_nilCheck rfl) rfl rfl rfl ?_
            refine VS_pure (P_fieldAddr fo47_1 rfl) rfl rfl rfl ?_
            refine VS_read (S_load sg39 rfl (hat.at_ rfl)) rfl rfl rfl ?_
            refine VS_pure (df (P_eql rfl rfl) (by assumption)) rfl rfl rfl ?_
            refine VS_pure (P_move rfl) rfl rfl rfl ?_
            iterate 4 (refine VS_skip rfl rfl rfl ?_)
            refine VS_pure (P_pick_f rfl rfl) rfl rfl rfl ?_
            refine VS_pure (P_pick_f rfl rfl) rfl rfl rfl ?_
            refine VS_pure (P_pick_t rfl rfl) rfl rfl rfl ?_
            refine VS_pure (P_assign rfl) rfl rfl rfl ?_
            refine VS_nil ?_
            refine QS_block ?_
            exact QS_round false ⟨rfl, rfl, rfl, rfl, rfl, rfl, trivial⟩ (Pick.refl _) (by simp [whoHead, *]) (by decide)
    by_cases e1 : op = 1
    · cases y with
      | false =>
        refine TS_region ?_
        refine VS_pure (df (P_eql rfl rfl) (by assumption)) rfl rfl rfl ?_
        refine VS_pure (P_assign rfl) rfl rfl rfl ?_
        refine VS_nil ?_
        refine QS_then ?_
        refine TS_false rfl ?_
        refine TS_region ?_
        refine VS_pure (dt (P_eql rfl rfl) (by assumption)) rfl rfl rfl ?_
        refine VS_pure (P_assign rfl) rfl rfl rfl ?_
        refine VS_nil ?_
        refine QS_then ?_
        refine TS_true rfl ?_
        refine TS_region ?_
        refine VS_pure (P_move rfl) rfl rfl rfl ?_
        refine VS_pure (P_move rfl) rfl rfl rfl ?_
        iterate 18 (refine VS_skip rfl rfl rfl ?_)
        refine VS_pure (P_pick_f rfl rfl) rfl rfl rfl ?_
        refine VS_pure (P_assign rfl) rfl rfl rfl ?_
        refine VS_nil ?_
        refine QS_block ?_
        exact QS_round false ⟨rfl, rfl, rfl, rfl, rfl, rfl, trivial⟩ (Pick.refl _) (by simp [whoHead, *]) (by decide)
      | true =>
        refine TS_region ?_
        refine VS_pure (df (P_eql rfl rfl) (by assumption)) rfl rfl rfl ?_
        refine VS_pure (P_assign rfl) rfl rfl rfl ?_
        refine VS_nil ?_
        refine QS_then ?_
        refine TS_false rfl ?_
        refine TS_region ?_
        refine VS_pure (dt (P_eql rfl rfl) (by assumption)) rfl rfl rfl ?_
        refine VS_pure (P_assign rfl) rfl rfl rfl ?_
        refine VS_nil ?_
        refine QS_then ?_
        refine TS_true rfl ?_
        refine TS_region ?_
        iterate 3 (refine VS_pure (P_move rfl) rfl rfl rfl ?_)
        refine VS_pure (P_nilCheck rfl) rfl rfl rfl ?_
        refine VS_pure (P_fieldAddr fo47_1 rfl) rfl rfl rfl ?_
        refine VS_read (S_load sg39 rfl (hat.at_ rfl)) rfl rfl rfl ?_
        refine VS_step (S_callR cl32 rfl (fun m' hm he => (side32 who)) rfl ?_) rfl
        rintro _ rfl
        cases hsd : sideB who with
        | true =>
          refine VS_pure (P_move rfl) rfl rfl rfl ?_
          iterate 11 (refine VS_skip rfl rfl rfl ?_)
          refine VS_pure (P_pick_t rfl rfl) rfl rfl rfl ?_
          refine VS_pure (P_pick_t rfl rfl) rfl rfl rfl ?_
          refine VS_pure (P_assign rfl) rfl rfl rfl ?_
          refine VS_nil ?_
          refine QS_block ?_
          exact QS_round true ⟨rfl, rfl, rfl, rfl, rfl, rfl, trivial⟩ (Pick.refl _) (by simp [whoHead, *]) (by decide)
        | false =>
          by_cases hw2 : who = 2
          · have h20 : sideB 2 = false := rfl
            refine VS_pure (P_move rfl) rfl rfl rfl ?_
            refine VS_pure (P_move rfl) rfl rfl rfl ?_
            refine VS_pure (P_nilCheck rfl) rfl rfl rfl ?_
            refine VS_pure (P_fieldAddr fo47_1 rfl) rfl rfl rfl ?_
            refine VS_read (S_load sg39 rfl (hat.at_ rfl)) rfl rfl rfl ?_
            refine VS_pure (dt (P_eql rfl rfl) (by assumption)) rfl rfl rfl ?_
            refine VS_pure (P_move rfl) rfl rfl rfl ?_
            refine VS_pure (P_move rfl) rfl rfl rfl ?_
            refine VS_pure (P_nilCheck rfl) rfl rfl rfl ?_
            refine VS_pure (P_fieldAddr0 fo55_1 rfl) rfl rfl rfl ?_
            refine VS_read (S_load sg4 rfl hk1) rfl rfl rfl ?_
            refine VS_pure (P_pick_t rfl rfl) rfl rfl rfl ?_
            refine VS_pure (P_pick_f rfl rfl) rfl rfl rfl ?_
            refine VS_pure (P_pick_t rfl rfl) rfl rfl rfl ?_
            refine VS_pure (P_assign rfl) rfl rfl rfl ?_
            refine VS_nil ?_
            refine QS_block ?_
            exact QS_round t ⟨rfl, rfl, rfl, rfl, rfl, rfl, trivial⟩ (Pick.refl _) (by simp [whoHead, *]) (by decide)
          · refine VS_pure (P_move rfl) rfl rfl rfl ?_
            refine VS_pure (P_move rfl) rfl rfl rfl ?_
            refine VS_pure (P_nilCheck rfl) rfl rfl rfl ?_
            refine VS_pure (P_fieldAddr fo47_1 rfl) rfl rfl rfl ?_
            refine VS_read (S_load sg39 rfl (hat.at_ rfl)) rfl rfl rfl ?_
            refine VS_pure (df (P_eql rfl rfl) (by assumption)) rfl rfl rfl ?_
            refine VS_pure (P_move rfl) rfl rfl rfl ?_
            iterate 4 (refine VS_skip rfl rfl rfl ?_)
            refine VS_pure (P_pick_f rfl rfl) rfl rfl rfl ?_
            refine VS_pure (P_pick_f rfl rfl) rfl rfl rfl ?_
            refine VS_pure (P_pick_t rfl rfl) rfl rfl rfl ?_
            refine VS_pure (P_assign rfl) rfl rfl rfl ?_
            refine VS_nil ?_
            refine QS_block ?_
            exact QS_round false ⟨rfl, rfl, rfl, rfl, rfl, rfl, trivial⟩ (Pick.refl _) (by simp [whoHead, *]) (by decide)
    by_cases e2 : op = 2
    · cases y with
      | false =>
        refine TS_region ?_
        refine VS_pure (df (P_eql rfl rfl) (by assumption)) rfl rfl rfl ?_
        refine VS_pure (P_assign rfl) rfl rfl rfl ?_
        refine VS_nil ?_
        refine QS_then ?_
        refine TS_false rfl ?_
        refine TS_region ?_
        refine VS_pure (df (P_eql rfl rfl) (by assumption)) rfl rfl rfl ?_
        refine VS_pure (P_assign rfl) rfl rfl rfl ?_
        refine VS_nil ?_
        refine QS_then ?_
        refine TS_false rfl ?_
        refine TS_seq ?_
        refine TS_seq ?_
        refine TS_region ?_
        refine VS_pure (dt (P_eql rfl rfl) (by assumption)) rfl rfl rfl ?_
        refine VS_pure (P_assign rfl) rfl rfl rfl ?_
        refine VS_nil ?_
        refine QS_then ?_
        refine TS_true rfl ?_
        refine TS_skip ?_
        refine QS_then ?_
        refine TS_true rfl ?_
        refine TS_region ?_
        refine VS_pure (P_move rfl) rfl rfl rfl ?_
        refine VS_pure (P_move rfl) rfl rfl rfl ?_
        iterate 5 (refine VS_skip rfl rfl rfl ?_)
        refine VS_pure (P_pick_f rfl rfl) rfl rfl rfl ?_
        refine VS_pure (P_assign rfl) rfl rfl rfl ?_
        refine VS_nil ?_
        refine QS_block ?_
        exact QS_round false ⟨rfl, rfl, rfl, rfl, rfl, rfl, trivial⟩ (Pick.refl _) (by simp [whoHead, *]) (by decide)
      | true =>
        refine TS_region ?_
        refine VS_pure (df (P_eql rfl rfl) (by assumption)) rfl rfl rfl ?_
        refine VS_pure (P_assign rfl) rfl rfl rfl ?_
        refine VS_nil ?_
        refine QS_then ?_
        refine TS_false rfl ?_
        refine TS_region ?_
        refine VS_pure (df (P_eql rfl rfl) (by assumption)) rfl rfl rfl ?_
        refine VS_pure (P_assign rfl) rfl rfl rfl ?_
        refine VS_nil ?_
        refine QS_then ?_
        refine TS_false rfl ?_
        refine TS_seq ?_
        refine TS_seq ?_
        refine TS_region ?_
        refine VS_pure (dt (P_eql rfl rfl) (by assumption)) rfl rfl rfl ?_
        refine VS_pure (P_assign rfl) rfl rfl rfl ?_
        refine VS_nil ?_
        refine QS_then ?_
        refine TS_true rfl ?_
        refine TS_skip ?_
        refine QS_then ?_
        refine TS_true rfl ?_
        refine TS_region ?_
        iterate 3 (refine VS_pure (P_move rfl) rfl rfl rfl ?_)
        refine VS_pure (P_nilCheck rfl) rfl rfl rfl ?_
        refine VS_pure (P_fieldAddr fo47_1 rfl) rfl rfl rfl ?_
        refine VS_read (S_load sg39 rfl (hat.at_ rfl)) rfl rfl rfl ?_
        refine VS_step (S_callR cl32 rfl (fun m' hm he => (side32 who)) rfl ?_) rfl
        rintro _ rfl
        refine VS_pure (P_pick_t rfl rfl) rfl rfl rfl ?_
        refine VS_pure (P_assign rfl) rfl rfl rfl ?_
        refine VS_nil ?_
        refine QS_block ?_
        exact QS_round (sideB who) ⟨rfl, rfl, rfl, rfl, rfl, rfl, trivial⟩ (Pick.refl _) (by simp [whoHead, *]) (by decide)
    by_cases e4 : op = 4
    · cases y with
      | false =>
        refine TS_region ?_
        refine VS_pure (df (P_eql rfl rfl) (by assumption)) rfl rfl rfl ?_
        refine VS_pure (P_assign rfl) rfl rfl rfl ?_
        refine VS_nil ?_
        refine QS_then ?_
        refine TS_false rfl ?_
        refine TS_region ?_
        refine VS_pure (df (P_eql rfl rfl) (by assumption)) rfl rfl rfl ?_
        refine VS_pure (P_assign rfl) rfl rfl rfl ?_
        refine VS_nil ?_
        refine QS_then ?_
        refine TS_false rfl ?_
        refine TS_seq ?_
        refine TS_seq ?_
        refine TS_region ?_
        refine VS_pure (df (P_eql rfl rfl) (by assumption)) rfl rfl rfl ?_
        refine VS_pure (P_assign rfl) rfl rfl rfl ?_
        refine VS_nil ?_
        refine QS_then ?_
        refine TS_false rfl ?_
        refine TS_seq ?_
        refine TS_region ?_
        refine VS_pure (dt (P_eql rfl rfl) (by assumption)) rfl rfl rfl ?_
        refine VS_pure (P_assign rfl) rfl rfl rfl ?_
        refine VS_nil ?_
        refine QS_then ?_
        refine TS_true rfl ?_
        refine TS_skip ?_
        refine QS_then ?_
        refine TS_true rfl ?_
        refine TS_region ?_
        refine VS_pure (P_move rfl) rfl rfl rfl ?_
        refine VS_pure (P_move rfl) rfl rfl rfl ?_
        iterate 5 (refine VS_skip rfl rfl rfl ?_)
        refine VS_pure (P_pick_f rfl rfl) rfl rfl rfl ?_
        refine VS_pure (P_assign rfl) rfl rfl rfl ?_
        refine VS_nil ?_
        refine QS_block ?_
        exact QS_round false ⟨rfl, rfl, rfl, rfl, rfl, rfl, trivial⟩ (Pick.refl _) (by simp [whoHead, *]) (by decide)
      | true =>
        refine TS_region ?_
        refine VS_pure (df (P_eql rfl rfl) (by assumption)) rfl rfl rfl ?_
        refine VS_pure (P_assign rfl) rfl rfl rfl ?_
        refine VS_nil ?_
        refine QS_then ?_
        refine TS_false rfl ?_
        refine TS_region ?_
        refine VS_pure (df (P_eql rfl rfl) (by assumption)) rfl rfl rfl ?_
        refine VS_pure (P_assign rfl) rfl rfl rfl ?_
        refine VS_nil ?_
        refine QS_then ?_
        refine TS_false rfl ?_
        refine TS_seq ?_
        refine TS_seq ?_
        refine TS_region ?_
        refine VS_pure (df (P_eql rfl rfl) (by assumption)) rfl rfl rfl ?_
        refine VS_pure (P_assign rfl) rfl rfl rfl ?_
        refine VS_nil ?_
        refine QS_then ?_
        refine TS_false rfl ?_
        refine TS_seq ?_
        refine TS_region ?_
        refine VS_pure (dt (P_eql rfl rfl) (by assumption)) rfl rfl rfl ?_
        refine VS_pure (P_assign rfl) rfl rfl rfl ?_
        refine VS_nil ?_
        refine QS_then ?_
        refine TS_true rfl ?_
        refine TS_skip ?_
        refine QS_then ?_
        refine TS_true rfl ?_
        refine TS_region ?_
        iterate 3 (refine VS_pure (P_move rfl) rfl rfl rfl ?_)
        refine VS_pure (P_nilCheck rfl) rfl rfl rfl ?_
        refine VS_pure (P_fieldAddr fo47_1 rfl) rfl rfl rfl ?_
        refine VS_read (S_load sg39 rfl (hat.at_ rfl)) rfl rfl rfl ?_
        refine VS_step (S_callR cl32 rfl (fun m' hm he => (side32 who)) rfl ?_) rfl
        rintro _ rfl
        refine VS_pure (P_pick_t rfl rfl) rfl rfl rfl ?_
        refine VS_pure (P_assign rfl) rfl rfl rfl ?_
        refine VS_nil ?_
        refine QS_block ?_
        exact QS_round (sideB who) ⟨rfl, rfl, rfl, rfl, rfl, rfl, trivial⟩ (Pick.refl _) (by simp [whoHead, *]) (by decide)
    by_cases e6 : op = 6
    · cases y with
      | false =>
        refine TS_region ?_
        refine VS_pure (df (P_eql rfl rfl) (by assumption)) rfl rfl rfl ?_
        refine VS_pure (P_assign rfl) rfl rfl rfl ?_
        refine VS_nil ?_
        refine QS_then ?_
        refine TS_false rfl ?_
        refine TS_region ?_
        refine VS_pure (df (P_eql rfl rfl) (by assumption)) rfl rfl rfl ?_
        refine VS_pure (P_assign rfl) rfl rfl rfl ?_
        refine VS_nil ?_
        refine QS_then ?_
        refine TS_false rfl ?_
        refine TS_seq ?_
        refine TS_seq ?_
        refine TS_region ?_
        refine VS_pure (df (P_eql rfl rfl) (by assumption)) rfl rfl rfl ?_
        refine VS_pure (P_assign rfl) rfl rfl rfl ?_
        refine VS_nil ?_
        refine QS_then ?_
        refine TS_false rfl ?_
        refine TS_seq ?_
        refine TS_region ?_
        refine VS_pure (df (P_eql rfl rfl) (by assumption)) rfl rfl rfl ?_
        refine VS_pure (P_assign rfl) rfl rfl rfl ?_
        refine VS_nil ?_
        refine QS_then ?_
        refine TS_false rfl ?_
        refine TS_region ?_
        refine VS_pure (dt (P_eql rfl rfl) (by assumption)) rfl rfl rfl ?_
        refine VS_pure (P_assign rfl) rfl rfl rfl ?_
        refine VS_nil ?_
        refine QS_then ?_
        refine TS_true rfl ?_
        refine TS_region ?_
        refine VS_pure (P_move rfl) rfl rfl rfl ?_
        refine VS_pure (P_move rfl) rfl rfl rfl ?_
        iterate 5 (refine VS_skip rfl rfl rfl ?_)
        refine VS_pure (P_pick_f rfl rfl) rfl rfl rfl ?_
        refine VS_pure (P_assign rfl) rfl rfl rfl ?_
        refine VS_nil ?_
        refine QS_block ?_
        exact QS_round false ⟨rfl, rfl, rfl, rfl, rfl, rfl, trivial⟩ (Pick.refl _) (by simp [whoHead, *]) (by decide)
      | true =>
        refine TS_region ?_
        refine VS_pure (df (P_eql rfl rfl) (by assumption)) rfl rfl rfl ?_
        refine VS_pure (P_assign rfl) rfl rfl rfl ?_
        refine VS_nil ?_
        refine QS_then ?_
        refine TS_false rfl ?_
        refine TS_region ?_
        refine VS_pure (df (P_eql rfl rfl) (by assumption)) rfl rfl rfl ?_
        refine VS_pure (P_assign rfl) rfl rfl rfl ?_
        refine VS_nil ?_
        refine QS_then ?_
        refine TS_false rfl ?_
        refine TS_seq ?_
        refine TS_seq ?_
        refine TS_region ?_
        refine VS_pure (df (P_eql rfl rfl) (by assumption)) rfl rfl rfl ?_
        refine VS_pure (P_assign rfl) rfl rfl rfl ?_
        refine VS_nil ?_
        refine QS_then ?_
        refine TS_false rfl ?_
        refine TS_seq ?_
        refine TS_region ?_
        refine VS_pure (df (P_eql rfl rfl) (by assumption)) rfl rfl rfl ?_
        refine VS_pure (P_assign rfl) rfl rfl rfl ?_
        refine VS_nil ?_
        refine QS_then ?_
        refine TS_false rfl ?_
        refine TS_region ?_
        refine VS_pure (dt (P_eql rfl rfl) (by assumption)) rfl rfl rfl ?_
        refine VS_pure (P_assign rfl) rfl rfl rfl ?_
        refine VS_nil ?_
        refine QS_then ?_
        refine TS_true rfl ?_
        refine TS_region ?_
        iterate 3 (refine VS_pure (P_move rfl) rfl rfl rfl ?_)
        refine VS_pure (P_nilCheck rfl) rfl rfl rfl ?_
        refine VS_pure (P_fieldAddr fo47_1 rfl) rfl rfl rfl ?_
        refine VS_read (S_load sg39 rfl (hat.at_ rfl)) rfl rfl rfl ?_
        refine VS_step (S_callR cl32 rfl (fun m' hm he => (side32 who)) rfl ?_) rfl
        rintro _ rfl
        refine VS_pure (P_pick_t rfl rfl) rfl rfl rfl ?_
        refine VS_pure (P_assign rfl) rfl rfl rfl ?_
        refine VS_nil ?_
        refine QS_block ?_
        exact QS_round (sideB who) ⟨rfl, rfl, rfl, rfl, rfl, rfl, trivial⟩ (Pick.refl _) (by simp [whoHead, *]) (by decide)
    by_cases e3 : op = 3
    · cases y with
      | false =>
        refine TS_region ?_
        refine VS_pure (df (P_eql rfl rfl) (by assumption)) rfl rfl rfl ?_
        refine VS_pure (P_assign rfl) rfl rfl rfl ?_
        refine VS_nil ?_
        refine QS_then ?_
        refine TS_false rfl ?_
        refine TS_region ?_
        refine VS_pure (df (P_eql rfl rfl) (by assumption)) rfl rfl rfl ?_
        refine VS_pure (P_assign rfl) rfl rfl rfl ?_
        refine VS_nil ?_
        refine QS_then ?_
        refine TS_false rfl ?_
        refine TS_seq ?_
        refine TS_seq ?_
        refine TS_region ?_
        refine VS_pure (df (P_eql rfl rfl) (by assumption)) rfl rfl rfl ?_
        refine VS_pure (P_assign rfl) rfl rfl rfl ?_
        refine VS_nil ?_
        refine QS_then ?_
        refine TS_false rfl ?_
        refine TS_seq ?_
        refine TS_region ?_
        refine VS_pure (df (P_eql rfl rfl) (by assumption)) rfl rfl rfl ?_
        refine VS_pure (P_assign rfl) rfl rfl rfl ?_
        refine VS_nil ?_
        refine QS_then ?_
        refine TS_false rfl ?_
        refine TS_region ?_
        refine VS_pure (df (P_eql rfl rfl) (by assumption)) rfl rfl rfl ?_
        refine VS_pure (P_assign rfl) rfl rfl rfl ?_
        refine VS_nil ?_
        refine QS_then ?_
        refine TS_false rfl ?_
        refine TS_seq ?_
        refine TS_seq ?_
        refine TS_region ?_
        refine VS_pure (dt (P_eql rfl rfl) (by assumption)) rfl rfl rfl ?_
        refine VS_pure (P_assign rfl) rfl rfl rfl ?_
        refine VS_nil ?_
        refine QS_then ?_
        refine TS_true rfl ?_
        refine TS_skip ?_
        refine QS_then ?_
        refine TS_true rfl ?_
        refine TS_region ?_
        refine VS_pure (P_move rfl) rfl rfl rfl ?_
        refine VS_pure (P_move rfl) rfl rfl rfl ?_
        iterate 5 (refine VS_skip rfl rfl rfl ?_)
        refine VS_pure (P_pick_f rfl rfl) rfl rfl rfl ?_
        refine VS_pure (P_assign rfl) rfl rfl rfl ?_
        refine VS_nil ?_
        refine QS_block ?_
        exact QS_round false ⟨rfl, rfl, rfl, rfl, rfl, rfl, trivial⟩ (Pick.refl _) (by simp [whoHead, *]) (by decide)
      | true =>
        by_cases hw0 : who = 0
        · refine TS_region ?_
          refine VS_pure (df (P_eql rfl rfl) (by assumption)) rfl rfl rfl ?_
          refine VS_pure (P_assign rfl) rfl rfl rfl ?_
          refine VS_nil ?_
          refine QS_then ?_
          refine TS_false rfl ?_
          refine TS_region ?_
          refine VS_pure (df (P_eql rfl rfl) (by assumption)) rfl rfl rfl ?_
          refine VS_pure (P_assign rfl) rfl rfl rfl ?_
          refine VS_nil ?_
          refine QS_then ?_
          refine TS_false rfl ?_
          refine TS_seq ?_
          refine TS_seq ?_
          refine TS_region ?_
          refine VS_pure (df (P_eql rfl rfl) (by assumption)) rfl rfl rfl ?_
          refine VS_pure (P_assign rfl) rfl rfl rfl ?_
          refine VS_nil ?_
          refine QS_then ?_
          refine TS_false rfl ?_
          refine TS_seq ?_
          refine TS_region ?_
          refine VS_pure (df (P_eql rfl rfl) (by assumption)) rfl rfl rfl ?_
          refine VS_pure (P_assign rfl) rfl rfl rfl ?_
          refine VS_nil ?_
          refine QS_then ?_
          refine TS_false rfl ?_
          refine TS_region ?_
          refine VS_pure (df (P_eql rfl rfl) (by assumption)) rfl rfl rfl ?_
          refine VS_pure (P_assign rfl) rfl rfl rfl ?_
          refine VS_nil ?_
          refine QS_then ?_
          refine TS_false rfl ?_
          refine TS_seq ?_
          refine TS_seq ?_
          refine TS_region ?_
          refine VS_pure (dt (P_eql rfl rfl) (by assumption)) rfl rfl rfl ?_
          refine VS_pure (P_assign rfl) rfl rfl rfl ?_
          refine VS_nil ?_
          refine QS_then ?_
          refine TS_true rfl ?_
          refine TS_skip ?_
          refine QS_then ?_
          refine TS_true rfl ?_
          refine TS_region ?_
          iterate 3 (refine VS_pure (P_move rfl) rfl rfl rfl ?_)
          refine VS_pure (P_nilCheck rfl) rfl rfl rfl ?_
          refine VS_pure (P_fieldAddr fo47_1 rfl) rfl rfl rfl ?_
          refine VS_read (S_load sg39 rfl (hat.at_ rfl)) rfl rfl rfl ?_
          refine VS_pure (dt (P_eql rfl rfl) (by assumption)) rfl rfl rfl ?_
          refine VS_pure (P_pick_t rfl rfl) rfl rfl rfl ?_
          refine VS_pure (P_assign rfl) rfl rfl rfl ?_
          refine VS_nil ?_
          refine QS_block ?_
          exact QS_round true ⟨rfl, rfl, rfl, rfl, rfl, rfl, trivial⟩ (Pick.refl _) (by simp [whoHead, *]) (by decide)
        · refine TS_region ?_
          refine VS_pure (df (P_eql rfl rfl) (by assumption)) rfl rfl rfl ?_
          refine VS_pure (P_assign rfl) rfl rfl rfl ?_
          refine VS_nil ?_
          refine QS_then ?_
          refine TS_false rfl ?_
          refine TS_region ?_
          refine VS_pure (df (P_eql rfl rfl) (by assumption)) rfl rfl rfl ?_
          refine VS_pure (P_assign rfl) rfl rfl rfl ?_
          refine VS_nil ?_
          refine QS_then ?_
          refine TS_false rfl ?_
          refine TS_seq ?_
          refine TS_seq ?_
          refine TS_region ?_
          refine VS_pure (df (P_eql rfl rfl) (by assumption)) rfl rfl rfl ?_
          refine VS_pure (P_assign rfl) rfl rfl rfl ?_
          refine VS_nil ?_
          refine QS_then ?_
          refine TS_false rfl ?_
          refine TS_seq ?_
          refine TS_region ?_
          refine VS_pure (df (P_eql rfl rfl) (by assumption)) rfl rfl rfl ?_
          refine VS_pure (P_assign rfl) rfl rfl rfl ?_
          refine VS_nil ?_
          refine QS_then ?_
          refine TS_false rfl ?_
          refine TS_region ?_
          refine VS_pure (df (P_eql rfl rfl) (by assumption)) rfl rfl rfl ?_
          refine VS_pure (P_assign rfl) rfl rfl rfl ?_
          refine VS_nil ?_
          refine QS_then ?_
          refine TS_false rfl ?_
          refine TS_seq ?_
          refine TS_seq ?_
          refine TS_region ?_
          refine VS_pure (dt (P_eql rfl rfl) (by assumption)) rfl rfl rfl ?_
          refine VS_pure (P_assign rfl) rfl rfl rfl ?_
          refine VS_nil ?_
          refine QS_then ?_
          refine TS_true rfl ?_
          refine TS_skip ?_
          refine QS_then ?_
          refine TS_true rfl ?_
          refine TS_region ?_
          iterate 3 (refine VS_pure (P_move rfl) rfl rfl rfl ?_)
          refine VS_pure (P_nilCheck rfl) rfl rfl rfl ?_
          refine VS_pure (P_fieldAddr fo47_1 rfl) rfl rfl rfl ?_
          refine VS_read (S_load sg39 rfl (hat.at_ rfl)) rfl rfl rfl ?_
          refine VS_pure (df (P_eql rfl rfl) (by assumption)) rfl rfl rfl ?_
          refine VS_pure (P_pick_t rfl rfl) rfl rfl rfl ?_
          refine VS_pure (P_assign rfl) rfl rfl rfl ?_
          refine VS_nil ?_
          refine QS_block ?_
          exact QS_round false ⟨rfl, rfl, rfl, rfl, rfl, rfl, trivial⟩ (Pick.refl _) (by simp [whoHead, *]) (by decide)
    by_cases e5 : op = 5
    · cases y with
      | false =>
        refine TS_region ?_
        refine VS_pure (df (P_eql rfl rfl) (by assumption)) rfl rfl rfl ?_
        refine VS_pure (P_assign rfl) rfl rfl rfl ?_
        refine VS_nil ?_
        refine QS_then ?_
        refine TS_false rfl ?_
        refine TS_region ?_
        refine VS_pure (df (P_eql rfl rfl) (by assumption)) rfl rfl rfl ?_
        refine VS_pure (P_assign rfl) rfl rfl rfl ?_
        refine VS_nil ?_
        refine QS_then ?_
        refine TS_false rfl ?_
        refine TS_seq ?_
        refine TS_seq ?_
        refine TS_region ?_
        refine VS_pure (df (P_eql rfl rfl) (by assumption)) rfl rfl rfl ?_
        refine VS_pure (P_assign rfl) rfl rfl rfl ?_
        refine VS_nil ?_
        refine QS_then ?_
        refine TS_false rfl ?_
        refine TS_seq ?_
        refine TS_region ?_
        refine VS_pure (df (P_eql rfl rfl) (by assumption)) rfl rfl rfl ?_
        refine VS_pure (P_assign rfl) rfl rfl rfl ?_
        refine VS_nil ?_
        refine QS_then ?_
        refine TS_false rfl ?_
        refine TS_region ?_
        refine VS_pure (df (P_eql rfl rfl) (by assumption)) rfl rfl rfl ?_
        refine VS_pure (P_assign rfl) rfl rfl rfl ?_
        refine VS_nil ?_
        refine QS_then ?_
        refine TS_false rfl ?_
        refine TS_seq ?_
        refine TS_seq ?_
        refine TS_region ?_
        refine VS_pure (df (P_eql rfl rfl) (by assumption)) rfl rfl rfl ?_
        refine VS_pure (P_assign rfl) rfl rfl rfl ?_
        refine VS_nil ?_
        refine QS_then ?_
        refine TS_false rfl ?_
        refine TS_region ?_
        refine VS_pure (dt (P_eql rfl rfl) (by assumption)) rfl rfl rfl ?_
        refine VS_pure (P_assign rfl) rfl rfl rfl ?_
        refine VS_nil ?_
        refine QS_then ?_
        refine TS_true rfl ?_
        refine TS_region ?_
        refine VS_pure (P_move rfl) rfl rfl rfl ?_
        refine VS_pure (P_move rfl) rfl rfl rfl ?_
        iterate 5 (refine VS_skip rfl rfl rfl ?_)
        refine VS_pure (P_pick_f rfl rfl) rfl rfl rfl ?_
        refine VS_pure (P_assign rfl) rfl rfl rfl ?_
        refine VS_nil ?_
        refine QS_block ?_
        exact QS_round false ⟨rfl, rfl, rfl, rfl, rfl, rfl, trivial⟩ (Pick.refl _) (by simp [whoHead, *]) (by decide)
      | true =>
        by_cases hw0 : who = 0
        · refine TS_region ?_
          refine VS_pure (df (P_eql rfl rfl) (by assumption)) rfl rfl rfl ?_
          refine VS_pure (P_assign rfl) rfl rfl rfl ?_
          refine VS_nil ?_
          refine QS_then ?_
          refine TS_false rfl ?_
          refine TS_region ?_
          refine VS_pure (df (P_eql rfl rfl) (by assumption)) rfl rfl rfl ?_
          refine VS_pure (P_assign rfl) rfl rfl rfl ?_
          refine VS_nil ?_
          refine QS_then ?_
          refine TS_false rfl ?_
          refine TS_seq ?_
          refine TS_seq ?_
          refine TS_region ?_
          refine VS_pure (df (P_eql rfl rfl) (by assumption)) rfl rfl rfl ?_
          refine VS_pure (P_assign rfl) rfl rfl rfl ?_
          refine VS_nil ?_
          refine QS_then ?_
          refine TS_false rfl ?_
          refine TS_seq ?_
          refine TS_region ?_
          refine VS_pure (df (P_eql rfl rfl) (by assumption)) rfl rfl rfl ?_
          refine VS_pure (P_assign rfl) rfl rfl rfl ?_
          refine VS_nil ?_
          refine QS_then ?_
          refine TS_false rfl ?_
          refine TS_region ?_
          refine VS_pure (df (P_eql rfl rfl) (by assumption)) rfl rfl rfl ?_
          refine VS_pure (P_assign rfl) rfl rfl rfl ?_
          refine VS_nil ?_
          refine QS_then ?_
          refine TS_false rfl ?_
          refine TS_seq ?_
          refine TS_seq ?_
          refine TS_region ?_
          refine VS_pure (df (P_eql rfl rfl) (by assumption)) rfl rfl rfl ?_
          refine VS_pure (P_assign rfl) rfl rfl rfl ?_
          refine VS_nil ?_
          refine QS_then ?_
          refine TS_false rfl ?_
          refine TS_region ?_
          refine VS_pure (dt (P_eql rfl rfl) (by assumption)) rfl rfl rfl ?_
          refine VS_pure (P_assign rfl) rfl rfl rfl ?_
          refine VS_nil ?_
          refine QS_then ?_
          refine TS_true rfl ?_
          refine TS_region ?_
          iterate 3 (refine VS_pure (P_move rfl) rfl rfl rfl ?_)
          refine VS_pure (P_nilCheck rfl) rfl rfl rfl ?_
          refine VS_pure (P_fieldAddr fo47_1 rfl) rfl rfl rfl ?_
          refine VS_read (S_load sg39 rfl (hat.at_ rfl)) rfl rfl rfl ?_
          refine VS_pure (dt (P_eql rfl rfl) (by assumption)) rfl rfl rfl ?_
          refine VS_pure (P_pick_t rfl rfl) rfl rfl rfl ?_
          refine VS_pure (P_assign rfl) rfl rfl rfl ?_
          refine VS_nil ?_
          refine QS_block ?_
          exact QS_round true ⟨rfl, rfl, rfl, rfl, rfl, rfl, trivial⟩ (Pick.refl _) (by simp [whoHead, *]) (by decide)
        · refine TS_region ?_
          refine VS_pure (df (P_eql rfl rfl) (by assumption)) rfl rfl rfl ?_
          refine VS_pure (P_assign rfl) rfl rfl rfl ?_
          refine VS_nil ?_
          refine QS_then ?_
          refine TS_false rfl ?_
          refine TS_region ?_
          refine VS_pure (df (P_eql rfl rfl) (by assumption)) rfl rfl rfl ?_
          refine VS_pure (P_assign rfl) rfl rfl rfl ?_
          refine VS_nil ?_
          refine QS_then ?_
          refine TS_false rfl ?_
          refine TS_seq ?_
          refine TS_seq ?_
          refine TS_region ?_
          refine VS_pure (df (P_eql rfl rfl) (by assumption)) rfl rfl rfl ?_
          refine VS_pure (P_assign rfl) rfl rfl rfl ?_
          refine VS_nil ?_
          refine QS_then ?_
          refine TS_false rfl ?_
          refine TS_seq ?_
          refine TS_region ?_
          refine VS_pure (df (P_eql rfl rfl) (by assumption)) rfl rfl rfl ?_
          refine VS_pure (P_assign rfl) rfl rfl rfl ?_
          refine VS_nil ?_
          refine QS_then ?_
          refine TS_false rfl ?_
          refine TS_region ?_
          refine VS_pure (df (P_eql rfl rfl) (by assumption)) rfl rfl rfl ?_
          refine VS_pure (P_assign rfl) rfl rfl rfl ?_
          refine VS_nil ?_
          refine QS_then ?_
          refine TS_false rfl ?_
          refine TS_seq ?_
          refine TS_seq ?_
          refine TS_region ?_
          refine VS_pure (df (P_eql rfl rfl) (by assumption)) rfl rfl rfl ?_
          refine VS_pure (P_assign rfl) rfl rfl rfl ?_
          refine VS_nil ?_
          refine QS_then ?_
          refine TS_false rfl ?_
          refine TS_region ?_
          refine VS_pure (dt (P_eql rfl rfl) (by assumption)) rfl rfl rfl ?_
          refine VS_pure (P_assign rfl) rfl rfl rfl ?_
          refine VS_nil ?_
          refine QS_then ?_
          refine TS_true rfl ?_
          refine TS_region ?_
          iterate 3 (refine VS_pure (P_move rfl) rfl rfl rfl ?_)
          refine VS_pure (P_nilCheck rfl) rfl rfl rfl ?_
          refine VS_pure (P_fieldAddr fo47_1 rfl) rfl rfl rfl ?_
          refine VS_read (S_load sg39 rfl (hat.at_ rfl)) rfl rfl rfl ?_
          refine VS_pure (df (P_eql rfl rfl) (by assumption)) rfl rfl rfl ?_
          refine VS_pure (P_pick_t rfl rfl) rfl rfl rfl ?_
          refine VS_pure (P_assign rfl) rfl rfl rfl ?_
          refine VS_nil ?_
          refine QS_block ?_
          exact QS_round false ⟨rfl, rfl, rfl, rfl, rfl, rfl, trivial⟩ (Pick.refl _) (by simp [whoHead, *]) (by decide)
    by_cases e7 : op = 7
    · cases y with
      | false =>
        refine TS_region ?_
        refine VS_pure (df (P_eql rfl rfl) (by assumption)) rfl rfl rfl ?_
        refine VS_pure (P_assign rfl) rfl rfl rfl ?_
        refine VS_nil ?_
        refine QS_then ?_
        refine TS_false rfl ?_
        refine TS_region ?_
        refine VS_pure (df (P_eql rfl rfl) (by assumption)) rfl rfl rfl ?_
        refine VS_pure (P_assign rfl) rfl rfl rfl ?_
        refine VS_nil ?_
        refine QS_then ?_
        refine TS_false rfl ?_
        refine TS_seq ?_
        refine TS_seq ?_
        refine TS_region ?_
        refine VS_pure (df (P_eql rfl rfl) (by assumption)) rfl rfl rfl ?_
        refine VS_pure (P_assign rfl) rfl rfl rfl ?_
        refine VS_nil ?_
        refine QS_then ?_
        refine TS_false rfl ?_
        refine TS_seq ?_
        refine TS_region ?_
        refine VS_pure (df (P_eql rfl rfl) (by assumption)) rfl rfl rfl ?_
        refine VS_pure (P_assign rfl) rfl rfl rfl ?_
        refine VS_nil ?_
        refine QS_then ?_
        refine TS_false rfl ?_
        refine TS_region ?_
        refine VS_pure (df (P_eql rfl rfl) (by assumption)) rfl rfl rfl ?_
        refine VS_pure (P_assign rfl) rfl rfl rfl ?_
        refine VS_nil ?_
        refine QS_then ?_
        refine TS_false rfl ?_
        refine TS_seq ?_
        refine TS_seq ?_
        refine TS_region ?_
        refine VS_pure (df (P_eql rfl rfl) (by assumption)) rfl rfl rfl ?_
        refine VS_pure (P_assign rfl) rfl rfl rfl ?_
        refine VS_nil ?_
        refine QS_then ?_
        refine TS_false rfl ?_
        refine TS_region ?_
        refine VS_pure (df (P_eql rfl rfl) (by assumption)) rfl rfl rfl ?_
        refine VS_pure (P_assign rfl) rfl rfl rfl ?_
        refine VS_nil ?_
        refine QS_then ?_
        refine TS_false rfl ?_
        refine TS_seq ?_
        refine TS_region ?_
        refine VS_pure (dt (P_eql rfl rfl) (by assumption)) rfl rfl rfl ?_
        refine VS_pure (P_assign rfl) rfl rfl rfl ?_
        refine VS_nil ?_
        refine QS_then ?_
        refine TS_true rfl ?_
        refine TS_draw (.step 0 .pure (.step 1 .pure (.step 2 .pure (.step 3 .pure (.step 4 .pure (.step 5 .read (.step 6 .pure (.step 7 .pure (.step 8 .pure (.step 9 .pure (.step 10 .pure (.step 11 .pure (.step 13 .pure (.step 14 .pure (.step 15 .pure (.step 12 .read (.step 16 .read (.step 17 .read (.step 18 .pure (.step 19 .pure (.done))))))))))))))))))))) mixed (by kernel_rfl) (fun _ _ _ _ hq => hq) ?_
        refine VTS_pure rfl (P_move rfl) rfl rfl rfl ?_
        refine VTS_pure rfl (P_move rfl) rfl rfl rfl ?_
        iterate 5 (refine VTS_skip rfl rfl rfl rfl rfl ?_)
        refine VTS_pure rfl (P_pick_f rfl rfl) rfl rfl rfl ?_
        refine VTS_pure rfl (P_move rfl) rfl rfl rfl ?_
        iterate 9 (refine VTS_skip rfl rfl rfl rfl rfl ?_)
        refine VTS_pure rfl (P_pick_f rfl rfl) rfl rfl rfl ?_
        refine VTS_pure rfl (P_assign rfl) rfl rfl rfl ?_
        refine VTS_nil ?_
        refine QS_block ?_
        exact QS_round false ⟨rfl, rfl, rfl, rfl, rfl, rfl, trivial⟩ (Pick.refl _) (by simp [whoHead, *]) (by decide)
      | true =>
        by_cases hw0 : who = 0
        · have hgu := getM_esU (s := name) (l := ul)
          cases hu : uOf ul name with
          | none =>
            rw [hu] at hgu
            refine TS_region ?_
            refine VS_pure (df (P_eql rfl rfl) (by assumption)) rfl rfl rfl ?_
            refine VS_pure (P_assign rfl) rfl rfl rfl ?_
            refine VS_nil ?_
            refine QS_then ?_
            refine TS_false rfl ?_
            refine TS_region ?_
            refine VS_pure (df (P_eql rfl rfl) (by assumption)) rfl rfl rfl ?_
            refine VS_pure (P_assign rfl) rfl rfl rfl ?_
            refine VS_nil ?_
            refine QS_then ?_
            refine TS_false rfl ?_
            refine TS_seq ?_
            refine TS_seq ?_
            refine TS_region ?_
            refine VS_pure (df (P_eql rfl rfl) (by assumption)) rfl rfl rfl ?_
            refine VS_pure (P_assign rfl) rfl rfl rfl ?_
            refine VS_nil ?_
            refine QS_then ?_
            refine TS_false rfl ?_
            refine TS_seq ?_
            refine TS_region ?_
            refine VS_pure (df (P_eql rfl rfl) (by assumption)) rfl rfl rfl ?_
            refine VS_pure (P_assign rfl) rfl rfl rfl ?_
            refine VS_nil ?_
            refine QS_then ?_
            refine TS_false rfl ?_
            refine TS_region ?_
            refine VS_pure (df (P_eql rfl rfl) (by assumption)) rfl rfl rfl ?_
            refine VS_pure (P_assign rfl) rfl rfl rfl ?_
            refine VS_nil ?_
            refine QS_then ?_
            refine TS_false rfl ?_
            refine TS_seq ?_
            refine TS_seq ?_
            refine TS_region ?_
            refine VS_pure (df (P_eql rfl rfl) (by assumption)) rfl rfl rfl ?_
            refine VS_pure (P_assign rfl) rfl rfl rfl ?_
            refine VS_nil ?_
            refine QS_then ?_
            refine TS_false rfl ?_
            refine TS_region ?_
            refine VS_pure (df (P_eql rfl rfl) (by assumption)) rfl rfl rfl ?_
            refine VS_pure (P_assign rfl) rfl rfl rfl ?_
            refine VS_nil ?_
            refine QS_then ?_
            refine TS_false rfl ?_
            refine TS_seq ?_
            refine TS_region ?_
            refine VS_pure (dt (P_eql rfl rfl) (by assumption)) rfl rfl rfl ?_
            refine VS_pure (P_assign rfl) rfl rfl rfl ?_
            refine VS_nil ?_
            refine QS_then ?_
            refine TS_true rfl ?_
            refine TS_draw (.step 0 .pure (.step 1 .pure (.step 2 .pure (.step 3 .pure (.step 4 .pure (.step 5 .read (.step 6 .pure (.step 7 .pure (.step 8 .pure (.step 9 .pure (.step 10 .pure (.step 11 .pure (.step 13 .pure (.step 14 .pure (.step 15 .pure (.step 12 .read (.step 16 .read (.step 17 .read (.step 18 .pure (.step 19 .pure (.done))))))))))))))))))))) mixed (by kernel_rfl) (fun _ _ _ _ hq => hq) ?_
            iterate 3 (refine VTS_pure rfl (P_move rfl) rfl rfl rfl ?_)
            refine VTS_pure rfl (P_nilCheck rfl) rfl rfl rfl ?_
            refine VTS_pure rfl (P_fieldAddr fo47_1 rfl) rfl rfl rfl ?_
            refine VTS_read rfl (S_load sg39 rfl (hat.at_ rfl)) rfl rfl rfl ?_
            refine VTS_pure rfl (dt (P_eql rfl rfl) (by assumption)) rfl rfl rfl ?_
            refine VTS_pure rfl (P_pick_t rfl rfl) rfl rfl rfl ?_
            refine VTS_pure rfl (P_move rfl) rfl rfl rfl ?_
            refine VTS_pure rfl (P_move rfl) rfl rfl rfl ?_
            refine VTS_pure rfl (P_nilCheck rfl) rfl rfl rfl ?_
            refine VTS_pure rfl (P_fieldAddr0 fo55_0 rfl) rfl rfl rfl ?_
            refine VTS_pure rfl (P_move rfl) rfl rfl rfl ?_
            refine VTS_pure rfl (P_nilCheck rfl) rfl rfl rfl ?_
            refine VTS_pure rfl (P_fieldAddr fo47_3 rfl) rfl rfl rfl ?_
            refine VTS_read rfl (S_load sg35 rfl hk0) rfl rfl rfl ?_
            refine VTS_read rfl (S_load sg9 rfl (hat.at_ rfl)) rfl rfl rfl ?_
            refine VTS_read rfl (S_lookupM hmap ms35 rfl rfl mz35) rfl rfl rfl ?_
            refine VTS_pure rfl (P_pick_t rfl rfl) rfl rfl rfl ?_
            refine VTS_pure rfl (P_assign rfl) rfl rfl rfl ?_
            refine VTS_nil ?_
            refine QS_block ?_
            rw [hgu]
            skip
            exact QS_round false ⟨rfl, rfl, rfl, rfl, rfl, rfl, trivial⟩ (Pick.refl _) (by simp [whoHead, *]) (by decide)
          | some u =>
            rw [hu] at hgu
            refine TS_region ?_
            refine VS_pure (df (P_eql rfl rfl) (by assumption)) rfl rfl rfl ?_
            refine VS_pure (P_assign rfl) rfl rfl rfl ?_
            refine VS_nil ?_
            refine QS_then ?_
            refine TS_false rfl ?_
            refine TS_region ?_
            refine VS_pure (df (P_eql rfl rfl) (by assumption)) rfl rfl rfl ?_
            refine VS_pure (P_assign rfl) rfl rfl rfl ?_
            refine VS_nil ?_
            refine QS_then ?_
            refine TS_false rfl ?_
            refine TS_seq ?_
            refine TS_seq ?_
            refine TS_region ?_
            refine VS_pure (df (P_eql rfl rfl) (by assumption)) rfl rfl rfl ?_
            refine VS_pure (P_assign rfl) rfl rfl rfl ?_
            refine VS_nil ?_
            refine QS_then ?_
            refine TS_false rfl ?_
            refine TS_seq ?_
            refine TS_region ?_
            refine VS_pure (df (P_eql rfl rfl) (by assumption)) rfl rfl rfl ?_
            refine VS_pure (P_assign rfl) rfl rfl rfl ?_
            refine VS_nil ?_
            refine QS_then ?_
            refine TS_false rfl ?_
            refine TS_region ?_
            refine VS_pure (df (P_eql rfl rfl) (by assumption)) rfl rfl rfl ?_
            refine VS_pure (P_assign rfl) rfl rfl rfl ?_
            refine VS_nil ?_
            refine QS_then ?_
            refine TS_false rfl ?_
            refine TS_seq ?_
            refine TS_seq ?_
            refine TS_region ?_
            refine VS_pure (df (P_eql rfl rfl) (by assumption)) rfl rfl rfl ?_
            refine VS_pure (P_assign rfl) rfl rfl rfl ?_
            refine VS_nil ?_
            refine QS_then ?_
            refine TS_false rfl ?_
            refine TS_region ?_
            refine VS_pure (df (P_eql rfl rfl) (by assumption)) rfl rfl rfl ?_
            refine VS_pure (P_assign rfl) rfl rfl rfl ?_
            refine VS_nil ?_
            refine QS_then ?_
            refine TS_false rfl ?_
            refine TS_seq ?_
            refine TS_region ?_
            refine VS_pure (dt (P_eql rfl rfl) (by assumption)) rfl rfl rfl ?_
            refine VS_pure (P_assign rfl) rfl rfl rfl ?_
            refine VS_nil ?_
            refine QS_then ?_
            refine TS_true rfl ?_
            refine TS_draw (.step 0 .pure (.step 1 .pure (.step 2 .pure (.step 3 .pure (.step 4 .pure (.step 5 .read (.step 6 .pure (.step 7 .pure (.step 8 .pure (.step 9 .pure (.step 10 .pure (.step 11 .pure (.step 13 .pure (.step 14 .pure (.step 15 .pure (.step 12 .read (.step 16 .read (.step 17 .read (.step 18 .pure (.step 19 .pure (.done))))))))))))))))))))) mixed (by kernel_rfl) (fun _ _ _ _ hq => hq) ?_
            iterate 3 (refine VTS_pure rfl (P_move rfl) rfl rfl rfl ?_)
            refine VTS_pure rfl (P_nilCheck rfl) rfl rfl rfl ?_
            refine VTS_pure rfl (P_fieldAddr fo47_1 rfl) rfl rfl rfl ?_
            refine VTS_read rfl (S_load sg39 rfl (hat.at_ rfl)) rfl rfl rfl ?_
            refine VTS_pure rfl (dt (P_eql rfl rfl) (by assumption)) rfl rfl rfl ?_
            refine VTS_pure rfl (P_pick_t rfl rfl) rfl rfl rfl ?_
            refine VTS_pure rfl (P_move rfl) rfl rfl rfl ?_
            refine VTS_pure rfl (P_move rfl) rfl rfl rfl ?_
            refine VTS_pure rfl (P_nilCheck rfl) rfl rfl rfl ?_
            refine VTS_pure rfl (P_fieldAddr0 fo55_0 rfl) rfl rfl rfl ?_
            refine VTS_pure rfl (P_move rfl) rfl rfl rfl ?_
            refine VTS_pure rfl (P_nilCheck rfl) rfl rfl rfl ?_
            refine VTS_pure rfl (P_fieldAddr fo47_3 rfl) rfl rfl rfl ?_
            refine VTS_read rfl (S_load sg35 rfl hk0) rfl rfl rfl ?_
            refine VTS_read rfl (S_load sg9 rfl (hat.at_ rfl)) rfl rfl rfl ?_
            refine VTS_read rfl (S_lookupM hmap ms35 rfl rfl mz35) rfl rfl rfl ?_
            refine VTS_pure rfl (P_pick_t rfl rfl) rfl rfl rfl ?_
            refine VTS_pure rfl (P_assign rfl) rfl rfl rfl ?_
            refine VTS_nil ?_
            refine QS_block ?_
            rw [hgu]
            skip
            exact QS_round u ⟨rfl, rfl, rfl, rfl, rfl, rfl, trivial⟩ (Pick.refl _) (by simp [whoHead, *]) (by decide)
        · refine TS_region ?_
          refine VS_pure (df (P_eql rfl rfl) (by assumption)) rfl rfl rfl ?_
          refine VS_pure (P_assign rfl) rfl rfl rfl ?_
          refine VS_nil ?_
          refine QS_then ?_
          refine TS_false rfl ?_
          refine TS_region ?_
          refine VS_pure (df (P_eql rfl rfl) (by assumption)) rfl rfl rfl ?_
          refine VS_pure (P_assign rfl) rfl rfl rfl ?_
          refine VS_nil ?_
          refine QS_then ?_
          refine TS_false rfl ?_
          refine TS_seq ?_
          refine TS_seq ?_
          refine TS_region ?_
          refine VS_pure (df (P_eql rfl rfl) (by assumption)) rfl rfl rfl ?_
          refine VS_pure (P_assign rfl) rfl rfl rfl ?_
          refine VS_nil ?_
          refine QS_then ?_
          refine TS_false rfl ?_
          refine TS_seq ?_
          refine TS_region ?_
          refine VS_pure (df (P_eql rfl rfl) (by assumption)) rfl rfl rfl ?_
          refine VS_pure (P_assign rfl) rfl rfl rfl ?_
          refine VS_nil ?_
          refine QS_then ?_
          refine TS_false rfl ?_
          refine TS_region ?_
          refine VS_pure (df (P_eql rfl rfl) (by assumption)) rfl rfl rfl ?_
          refine VS_pure (P_assign rfl) rfl rfl rfl ?_
          refine VS_nil ?_
          refine QS_then ?_
          refine TS_false rfl ?_
          refine TS_seq ?_
          refine TS_seq ?_
          refine TS_region ?_
          refine VS_pure (df (P_eql rfl rfl) (by assumption)) rfl rfl rfl ?_
          refine VS_pure (P_assign rfl) rfl rfl rfl ?_
          refine VS_nil ?_
          refine QS_then ?_
          refine TS_false rfl ?_
          refine TS_region ?_
          refine VS_pure (df (P_eql rfl rfl) (by assumption)) rfl rfl rfl ?_
          refine VS_pure (P_assign rfl) rfl rfl rfl ?_
          refine VS_nil ?_
          refine QS_then ?_
          refine TS_false rfl ?_
          refine TS_seq ?_
          refine TS_region ?_
          refine VS_pure (dt (P_eql rfl rfl) (by assumption)) rfl rfl rfl ?_
          refine VS_pure (P_assign rfl) rfl rfl rfl ?_
          refine VS_nil ?_
          refine QS_then ?_
          refine TS_true rfl ?_
          refine TS_draw (.step 0 .pure (.step 1 .pure (.step 2 .pure (.step 3 .pure (.step 4 .pure (.step 5 .read (.step 6 .pure (.step 7 .pure (.step 8 .pure (.step 9 .pure (.step 10 .pure (.step 11 .pure (.step 13 .pure (.step 14 .pure (.step 15 .pure (.step 12 .read (.step 16 .read (.step 17 .read (.step 18 .pure (.step 19 .pure (.done))))))))))))))))))))) mixed (by kernel_rfl) (fun _ _ _ _ hq => hq) ?_
          iterate 3 (refine VTS_pure rfl (P_move rfl) rfl rfl rfl ?_)
          refine VTS_pure rfl (P_nilCheck rfl) rfl rfl rfl ?_
          refine VTS_pure rfl (P_fieldAddr fo47_1 rfl) rfl rfl rfl ?_
          refine VTS_read rfl (S_load sg39 rfl (hat.at_ rfl)) rfl rfl rfl ?_
          refine VTS_pure rfl (df (P_eql rfl rfl) (by assumption)) rfl rfl rfl ?_
          refine VTS_pure rfl (P_pick_t rfl rfl) rfl rfl rfl ?_
          refine VTS_pure rfl (P_move rfl) rfl rfl rfl ?_
          iterate 9 (refine VTS_skip rfl rfl rfl rfl rfl ?_)
          refine VTS_pure rfl (P_pick_f rfl rfl) rfl rfl rfl ?_
          refine VTS_pure rfl (P_assign rfl) rfl rfl rfl ?_
          refine VTS_nil ?_
          refine QS_block ?_
          exact QS_round false ⟨rfl, rfl, rfl, rfl, rfl, rfl, trivial⟩ (Pick.refl _) (by simp [whoHead, *]) (by decide)
    by_cases e8 : op = 8
    · cases y with
      | false =>
        refine TS_region ?_
        refine VS_pure (df (P_eql rfl rfl) (by assumption)) rfl rfl rfl ?_
        refine VS_pure (P_assign rfl) rfl rfl rfl ?_
        refine VS_nil ?_
        refine QS_then ?_
        refine TS_false rfl ?_
        refine TS_region ?_
        refine VS_pure (df (P_eql rfl rfl) (by assumption)) rfl rfl rfl ?_
        refine VS_pure (P_assign rfl) rfl rfl rfl ?_
        refine VS_nil ?_
        refine QS_then ?_
        refine TS_false rfl ?_
        refine TS_seq ?_
        refine TS_seq ?_
        refine TS_region ?_
        refine VS_pure (df (P_eql rfl rfl) (by assumption)) rfl rfl rfl ?_
        refine VS_pure (P_assign rfl) rfl rfl rfl ?_
        refine VS_nil ?_
        refine QS_then ?_
        refine TS_false rfl ?_
        refine TS_seq ?_
        refine TS_region ?_
        refine VS_pure (df (P_eql rfl rfl) (by assumption)) rfl rfl rfl ?_
        refine VS_pure (P_assign rfl) rfl rfl rfl ?_
        refine VS_nil ?_
        refine QS_then ?_
        refine TS_false rfl ?_
        refine TS_region ?_
        refine VS_pure (df (P_eql rfl rfl) (by assumption)) rfl rfl rfl ?_
        refine VS_pure (P_assign rfl) rfl rfl rfl ?_
        refine VS_nil ?_
        refine QS_then ?_
        refine TS_false rfl ?_
        refine TS_seq ?_
        refine TS_seq ?_
        refine TS_region ?_
        refine VS_pure (df (P_eql rfl rfl) (by assumption)) rfl rfl rfl ?_
        refine VS_pure (P_assign rfl) rfl rfl rfl ?_
        refine VS_nil ?_
        refine QS_then ?_
        refine TS_false rfl ?_
        refine TS_region ?_
        refine VS_pure (df (P_eql rfl rfl) (by assumption)) rfl rfl rfl ?_
        refine VS_pure (P_assign rfl) rfl rfl rfl ?_
        refine VS_nil ?_
        refine QS_then ?_
        refine TS_false rfl ?_
        refine TS_seq ?_
        refine TS_region ?_
        refine VS_pure (df (P_eql rfl rfl) (by assumption)) rfl rfl rfl ?_
        refine VS_pure (P_assign rfl) rfl rfl rfl ?_
        refine VS_nil ?_
        refine QS_then ?_
        refine TS_false rfl ?_
        refine TS_seq ?_
        refine TS_region ?_
        refine VS_pure (dt (P_eql rfl rfl) (by assumption)) rfl rfl rfl ?_
        refine VS_pure (P_assign rfl) rfl rfl rfl ?_
        refine VS_nil ?_
        refine QS_then ?_
        refine TS_true rfl ?_
        refine TS_region ?_
        refine VS_pure (P_move rfl) rfl rfl rfl ?_
        refine VS_pure (P_move rfl) rfl rfl rfl ?_
        iterate 5 (refine VS_skip rfl rfl rfl ?_)
        refine VS_pure (P_pick_f rfl rfl) rfl rfl rfl ?_
        refine VS_pure (P_move rfl) rfl rfl rfl ?_
        iterate 5 (refine VS_skip rfl rfl rfl ?_)
        refine VS_pure (P_pick_f rfl rfl) rfl rfl rfl ?_
        refine VS_pure (P_move rfl) rfl rfl rfl ?_
        iterate 8 (refine VS_skip rfl rfl rfl ?_)
        refine VS_pure (P_pick_f rfl rfl) rfl rfl rfl ?_
        refine VS_pure (P_move rfl) rfl rfl rfl ?_
        iterate 8 (refine VS_skip rfl rfl rfl ?_)
        refine VS_pure (P_pick_f rfl rfl) rfl rfl rfl ?_
        refine VS_pure (P_assign rfl) rfl rfl rfl ?_
        refine VS_nil ?_
        refine QS_block ?_
        exact QS_round false ⟨rfl, rfl, rfl, rfl, rfl, rfl, trivial⟩ (Pick.refl _) (by simp [whoHead, *]) (by decide)
      | true =>
        by_cases hw0 : who = 0
        · refine TS_region ?_
          refine VS_pure (df (P_eql rfl rfl) (by assumption)) rfl rfl rfl ?_
          refine VS_pure (P_assign rfl) rfl rfl rfl ?_
          refine VS_nil ?_
          refine QS_then ?_
          refine TS_false rfl ?_
          refine TS_region ?_
          refine VS_pure (df (P_eql rfl rfl) (by assumption)) rfl rfl rfl ?_
          refine VS_pure (P_assign rfl) rfl rfl rfl ?_
          refine VS_nil ?_
          refine QS_then ?_
          refine TS_false rfl ?_
          refine TS_seq ?_
          refine TS_seq ?_
          refine TS_region ?_
          refine VS_pure (df (P_eql rfl rfl) (by assumption)) rfl rfl rfl ?_
          refine VS_pure (P_assign rfl) rfl rfl rfl ?_
          refine VS_nil ?_
          refine QS_then ?_
          refine TS_false rfl ?_
          refine TS_seq ?_
          refine TS_region ?_
          refine VS_pure (df (P_eql rfl rfl) (by assumption)) rfl rfl rfl ?_
          refine VS_pure (P_assign rfl) rfl rfl rfl ?_
          refine VS_nil ?_
          refine QS_then ?_
          refine TS_false rfl ?_
          refine TS_region ?_
          refine VS_pure (df (P_eql rfl rfl) (by assumption)) rfl rfl rfl ?_
          refine VS_pure (P_assign rfl) rfl rfl rfl ?_
          refine VS_nil ?_
          refine QS_then ?_
          refine TS_false rfl ?_
          refine TS_seq ?_
          refine TS_seq ?_
          refine TS_region ?_
          refine VS_pure (df (P_eql rfl rfl) (by assumption)) rfl rfl rfl ?_
          refine VS_pure (P_assign rfl) rfl rfl rfl ?_
          refine VS_nil ?_
          refine QS_then ?_
          refine TS_false rfl ?_
          refine TS_region ?_
          refine VS_pure (df (P_eql rfl rfl) (by assumption)) rfl rfl rfl ?_
          refine VS_pure (P_assign rfl) rfl rfl rfl ?_
          refine VS_nil ?_
          refine QS_then ?_
          refine TS_false rfl ?_
          refine TS_seq ?_
          refine TS_region ?_
          refine VS_pure (df (P_eql rfl rfl) (by assumption)) rfl rfl rfl ?_
          refine VS_pure (P_assign rfl) rfl rfl rfl ?_
          refine VS_nil ?_
          refine QS_then ?_
          refine TS_false rfl ?_
          refine TS_seq ?_
          refine TS_region ?_
          refine VS_pure (dt (P_eql rfl rfl) (by assumption)) rfl rfl rfl ?_
          refine VS_pure (P_assign rfl) rfl rfl rfl ?_
          refine VS_nil ?_
          refine QS_then ?_
          refine TS_true rfl ?_
          refine TS_region ?_
          iterate 3 (refine VS_pure (P_move rfl) rfl rfl rfl ?_)
          refine VS_pure (P_nilCheck rfl) rfl rfl rfl ?_
          refine VS_pure (P_fieldAddr fo47_1 rfl) rfl rfl rfl ?_
          refine VS_read (S_load sg39 rfl (hat.at_ rfl)) rfl rfl rfl ?_
          refine VS_pure (dt (P_eql rfl rfl) (by assumption)) rfl rfl rfl ?_
          refine VS_pure (P_pick_t rfl rfl) rfl rfl rfl ?_
          iterate 3 (refine VS_pure (P_move rfl) rfl rfl rfl ?_)
          refine VS_pure (P_nilCheck rfl) rfl rfl rfl ?_
          refine VS_pure (P_fieldAddr fo47_4 rfl) rfl rfl rfl ?_
          refine VS_step ((S_call cl33 rfl (fun m1 hm1 he => cond33 hc m1 hm1 _ b ul t (hatc.mono hm1) (hck0.mono hm1)) rfl ?_)) rfl
          rintro _ _ ⟨rfl, r, rfl, hrr⟩
          cases r with
          | false =>
            have hno : ¬ CondOk (uOf ul) t cond := fun h => absurd (hrr.2 h) (by decide)
            clear hrr
            refine VS_pure (P_pick_t rfl rfl) rfl rfl rfl ?_
            refine VS_pure (P_move rfl) rfl rfl rfl ?_
            iterate 8 (refine VS_skip rfl rfl rfl ?_)
            refine VS_pure (P_pick_f rfl rfl) rfl rfl rfl ?_
            refine VS_pure (P_move rfl) rfl rfl rfl ?_
            iterate 8 (refine VS_skip rfl rfl rfl ?_)
            refine VS_pure (P_pick_f rfl rfl) rfl rfl rfl ?_
            refine VS_pure (P_assign rfl) rfl rfl rfl ?_
            refine VS_nil ?_
            refine QS_block ?_
            exact QS_round false ⟨rfl, rfl, rfl, rfl, rfl, rfl, trivial⟩ (Pick.refl _) (by simp [whoHead, *]) (by decide)
          | true =>
            have hyes := hrr.1 rfl
            clear hrr
            refine VS_pure (P_pick_t rfl rfl) rfl rfl rfl ?_
            iterate 3 (refine VS_pure (P_move rfl) rfl rfl rfl ?_)
            refine VS_pure (P_nilCheck rfl) rfl rfl rfl ?_
            refine VS_pure (P_fieldAddr fo47_5 rfl) rfl rfl rfl ?_
            refine VS_read (S_load sg29 rfl (hat.at_ rfl)) rfl rfl rfl ?_
            refine VS_pure (P_move rfl) rfl rfl rfl ?_
            refine VS_pure (P_add rfl rfl (w64 (by omega) (by omega))) rfl rfl rfl ?_
            refine VS_step ((S_call cl16 rfl (fun m1 hm1 he => ihT m1 TA ca b (d + 1) ul t (hthn.mono hm1) (hck0.mono hm1) (by omega)) rfl ?_)) rfl
            rintro _ _ ⟨rfl, r1, rfl, hr1⟩
            cases r1 with
            | false =>
              have hno : ¬ ListOk (uOf ul) t (d + 1) thn := fun h => absurd (hr1.2 h) (by decide)
              clear hr1
              refine VS_pure (P_pick_t rfl rfl) rfl rfl rfl ?_
              refine VS_pure (P_move rfl) rfl rfl rfl ?_
              iterate 8 (refine VS_skip rfl rfl rfl ?_)
              refine VS_pure (P_pick_f rfl rfl) rfl rfl rfl ?_
              refine VS_pure (P_assign rfl) rfl rfl rfl ?_
              refine VS_nil ?_
              refine QS_block ?_
              exact QS_round false ⟨rfl, rfl, rfl, rfl, rfl, rfl, trivial⟩ (Pick.refl _) (by simp [whoHead, *]) (by decide)
            | true =>
              have hyes1 := hr1.1 rfl
              clear hr1
              refine VS_pure (P_pick_t rfl rfl) rfl rfl rfl ?_
              iterate 3 (refine VS_pure (P_move rfl) rfl rfl rfl ?_)
              refine VS_pure (P_nilCheck rfl) rfl rfl rfl ?_
              refine VS_pure (P_fieldAddr fo47_6 rfl) rfl rfl rfl ?_
              refine VS_read (S_load sg29 rfl (hat.at_ rfl)) rfl rfl rfl ?_
              refine VS_pure (P_move rfl) rfl rfl rfl ?_
              refine VS_pure (P_add rfl rfl (w64 (by omega) (by omega))) rfl rfl rfl ?_
              refine VS_step ((S_call cl16 rfl (fun m1 hm1 he => ihE m1 EB cb b (d + 1) ul t (hels.mono hm1) (hck0.mono hm1) (by omega)) rfl ?_)) rfl
              rintro _ _ ⟨rfl, r2, rfl, hr2⟩
              refine VS_pure (P_pick_t rfl rfl) rfl rfl rfl ?_
              refine VS_pure (P_assign rfl) rfl rfl rfl ?_
              refine VS_nil ?_
              refine QS_block ?_
              exact QS_round r2 ⟨rfl, rfl, rfl, rfl, rfl, rfl, trivial⟩ (Pick.refl _) (by simp [whoHead, *]) (by decide)
        · refine TS_region ?_
          refine VS_pure (df (P_eql rfl rfl) (by assumption)) rfl rfl rfl ?_
          refine VS_pure (P_assign rfl) rfl rfl rfl ?_
          refine VS_nil ?_
          refine QS_then ?_
          refine TS_false rfl ?_
          refine TS_region ?_
          refine VS_pure (df (P_eql rfl rfl) (by assumption)) rfl rfl rfl ?_
          refine VS_pure (P_assign rfl) rfl rfl rfl ?_
          refine VS_nil ?_
          refine QS_then ?_
          refine TS_false rfl ?_
          refine TS_seq ?_
          refine TS_seq ?_
          refine TS_region ?_
          refine VS_pure (df (P_eql rfl rfl) (by assumption)) rfl rfl rfl ?_
          refine VS_pure (P_assign rfl) rfl rfl rfl ?_
          refine VS_nil ?_
          refine QS_then ?_
          refine TS_false rfl ?_
          refine TS_seq ?_
          refine TS_region ?_
          refine VS_pure (df (P_eql rfl rfl) (by assumption)) rfl rfl rfl ?_
          refine VS_pure (P_assign rfl) rfl rfl rfl ?_
          refine VS_nil ?_
          refine QS_then ?_
          refine TS_false rfl ?_
          refine TS_region ?_
          refine VS_pure (df (P_eql rfl rfl) (by assumption)) rfl rfl rfl ?_
          refine VS_pure (P_assign rfl) rfl rfl rfl ?_
          refine VS_nil ?_
          refine QS_then ?_
          refine TS_false rfl ?_
          refine TS_seq ?_
          refine TS_seq ?_
          refine TS_region ?_
          refine VS_pure (df (P_eql rfl rfl) (by assumption)) rfl rfl rfl ?_
          refine VS_pure (P_assign rfl) rfl rfl rfl ?_
          refine VS_nil ?_
          refine QS_then ?_
          refine TS_false rfl ?_
          refine TS_region ?_
          refine VS_pure (df (P_eql rfl rfl) (by assumption)) rfl rfl rfl ?_
          refine VS_pure (P_assign rfl) rfl rfl rfl ?_
          refine VS_nil ?_
          refine QS_then ?_
          refine TS_false rfl ?_
          refine TS_seq ?_
          refine TS_region ?_
          refine VS_pure (df (P_eql rfl rfl) (by assumption)) rfl rfl rfl ?_
          refine VS_pure (P_assign rfl) rfl rfl rfl ?_
          refine VS_nil ?_
          refine QS_then ?_
          refine TS_false rfl ?_
          refine TS_seq ?_
          refine TS_region ?_
          refine VS_pure (dt (P_eql rfl rfl) (by assumption)) rfl rfl rfl ?_
          refine VS_pure (P_assign rfl) rfl rfl rfl ?_
          refine VS_nil ?_
          refine QS_then ?_
          refine TS_true rfl ?_
          refine TS_region ?_
          iterate 3 (refine VS_pure (P_move rfl) rfl rfl rfl ?_)
          refine VS_pure (P_nilCheck rfl) rfl rfl rfl ?_
          refine VS_pure (P_fieldAddr fo47_1 rfl) rfl rfl rfl ?_
          refine VS_read (S_load sg39 rfl (hat.at_ rfl)) rfl rfl rfl ?_
          refine VS_pure (df (P_eql rfl rfl) (by assumption)) rfl rfl rfl ?_
          refine VS_pure (P_pick_t rfl rfl) rfl rfl rfl ?_
          refine VS_pure (P_move rfl) rfl rfl rfl ?_
          iterate 5 (refine VS_skip rfl rfl rfl ?_)
          refine VS_pure (P_pick_f rfl rfl) rfl rfl rfl ?_
          refine VS_pure (P_move rfl) rfl rfl rfl ?_
          iterate 8 (refine VS_skip rfl rfl rfl ?_)
          refine VS_pure (P_pick_f rfl rfl) rfl rfl rfl ?_
          refine VS_pure (P_move rfl) rfl rfl rfl ?_
          iterate 8 (refine VS_skip rfl rfl rfl ?_)
          refine VS_pure (P_pick_f rfl rfl) rfl rfl rfl ?_
          refine VS_pure (P_assign rfl) rfl rfl rfl ?_
          refine VS_nil ?_
          refine QS_block ?_
          exact QS_round false ⟨rfl, rfl, rfl, rfl, rfl, rfl, trivial⟩ (Pick.refl _) (by simp [whoHead, *]) (by decide)
    refine TS_region ?_
    refine VS_pure (df (P_eql rfl rfl) (by assumption)) rfl rfl rfl ?_
    refine VS_pure (P_assign rfl) rfl rfl rfl ?_
    refine VS_nil ?_
    refine QS_then ?_
    refine TS_false rfl ?_
    refine TS_region ?_
    refine VS_pure (df (P_eql rfl rfl) (by assumption)) rfl rfl rfl ?_
    refine VS_pure (P_assign rfl) rfl rfl rfl ?_
    refine VS_nil ?_
    refine QS_then ?_
    refine TS_false rfl ?_
    refine TS_seq ?_
    refine TS_seq ?_
    refine TS_region ?_
    refine VS_pure (df (P_eql rfl rfl) (by assumption)) rfl rfl rfl ?_
    refine VS_pure (P_assign rfl) rfl rfl rfl ?_
    refine VS_nil ?_
    refine QS_then ?_
    refine TS_false rfl ?_
    refine TS_seq ?_
    refine TS_region ?_
    refine VS_pure (df (P_eql rfl rfl) (by assumption)) rfl rfl rfl ?_
    refine VS_pure (P_assign rfl) rfl rfl rfl ?_
    refine VS_nil ?_
    refine QS_then ?_
    refine TS_false rfl ?_
    refine TS_region ?_
    refine VS_pure (df (P_eql rfl rfl) (by assumption)) rfl rfl rfl ?_
    refine VS_pure (P_assign rfl) rfl rfl rfl ?_
    refine VS_nil ?_
    refine QS_then ?_
    refine TS_false rfl ?_
    refine TS_seq ?_
    refine TS_seq ?_
    refine TS_region ?_
    refine VS_pure (df (P_eql rfl rfl) (by assumption)) rfl rfl rfl ?_
    refine VS_pure (P_assign rfl) rfl rfl rfl ?_
    refine VS_nil ?_
    refine QS_then ?_
    refine TS_false rfl ?_
    refine TS_region ?_
    refine VS_pure (df (P_eql rfl rfl) (by assumption)) rfl rfl rfl ?_
    refine VS_pure (P_assign rfl) rfl rfl rfl ?_
    refine VS_nil ?_
    refine QS_then ?_
    refine TS_false rfl ?_
    refine TS_seq ?_
    refine TS_region ?_
    refine VS_pure (df (P_eql rfl rfl) (by assumption)) rfl rfl rfl ?_
    refine VS_pure (P_assign rfl) rfl rfl rfl ?_
    refine VS_nil ?_
    refine QS_then ?_
    refine TS_false rfl ?_
    refine TS_seq ?_
    refine TS_region ?_
    refine VS_pure (df (P_eql rfl rfl) (by assumption)) rfl rfl rfl ?_
    refine VS_pure (P_assign rfl) rfl rfl rfl ?_
    refine VS_nil ?_
    refine QS_then ?_
    refine TS_false rfl ?_
    refine TS_seq ?_
    refine TS_region ?_
    refine VS_pure (P_assign rfl) rfl rfl rfl ?_
    refine VS_nil ?_
    refine QS_then ?_
    refine TS_ret ?_
    refine QS_block_ret ?_
    refine QS_round_ret ?_
    refine QS_block_ret ?_
    refine QS_then_ret ?_
    refine QS_round_ret ?_
    refine QS_block_ret ?_
    refine QS_then_ret ?_
    exact QS_ret [_] ⟨rfl, trivial⟩ [] (Pick.nil _) ⟨rfl, false, rfl, fun h => (by cases h), fun h => absurd h (hfin (by simp [whoHead, *]))⟩
  intro z hz
  rw [← hz] at hfin hnext
  cases z with
  | false =>
    refine TS_seq ?_
    refine TS_region ?_
    refine VS_pure (P_move rfl) rfl rfl rfl ?_
    refine VS_pure (P_not rfl) rfl rfl rfl ?_
    refine VS_nil ?_
    refine QS_then ?_
    refine TS_true rfl ?_
    refine TS_seq ?_
    refine TS_region ?_
    refine VS_pure (P_assign rfl) rfl rfl rfl ?_
    refine VS_nil ?_
    refine QS_then ?_
    refine TS_ret ?_
    refine QS_block_ret ?_
    refine QS_then_ret ?_
    refine QS_round_ret ?_
    refine QS_block_ret ?_
    refine QS_then_ret ?_
    exact QS_ret [_] ⟨rfl, trivial⟩ [] (Pick.nil _) ⟨rfl, false, rfl, fun h => (by cases h), fun h => absurd h (hfin (by decide))⟩
  | true =>
    refine TS_seq ?_
    refine TS_region ?_
    refine VS_pure (P_move rfl) rfl rfl rfl ?_
    refine VS_pure (P_not rfl) rfl rfl rfl ?_
    refine VS_nil ?_
    refine QS_then ?_
    refine TS_false rfl ?_
    refine TS_skip ?_
    refine QS_block ?_
    refine QS_then ?_
    refine TS_region ?_
    refine VS_pure (P_add rfl rfl (w64 (by omega) (by omega))) rfl rfl rfl ?_
    refine VS_pure (P_move rfl) rfl rfl rfl ?_
    refine VS_nil ?_
    exact QS_round (i + 1) ⟨rfl, rfl, rfl, rfl, rfl, trivial⟩ (Pick.refl _) ⟨hlt, hnext rfl⟩ (by omega)
theorem list16 (l : List EffT) : LC l := list16_step fun i h op who n name c a e he => ⟨list16 a, list16 e⟩
termination_by SizeOf.sizeOf l
decreasing_by
  all_goals
    have h1 := List.sizeOf_lt_of_mem (List.getElem_mem h)
    rw [he] at h1
    simp only [EffT.mk.sizeOf_spec] at h1
    omega
end Go.Proofs.YtbghonkgflolaaaDoor
