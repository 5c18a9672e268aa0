/- A part of the proof: contracts of functions of the program. No condition. -/
import Derived.Test.YtccleakfgmcjpaaDoorDkX
import Derived.Test.YtccleakfgmcjpaaDoorDkY
import Derived.Test.YtccleakfgmcjpaaDoorDkI
import Derived.Test.YtccleakfgmcjpaaDoorDkK
import Derived.Test.YtccleakfgmcjpaaDoorDkM
import Derived.Test.YtccleakfgmcjpaaDoorDkJ
namespace Go.Proofs.YtccleakfgmcjpaaDoor
open Go.Eng Dk
set_option maxRecDepth 100000
set_option maxHeartbeats 16000000 in
theorem DeckChecks_ok {m : Mp} (hT : Tabs m) {bv : List Value} {b : BkT} (hb : BkR m bv b) (fm : List UInt8) {A : Option Addr} {c : Nat} {deck : List (List UInt8)} (hd : StrsR m A deck) (hcap : deck.length ≤ c) (hdk : ∀ s ∈ deck, s.length ≤ 1048576)
    {B : Option Addr} {k : Nat} {rs : List Rea} (hr : Rd m B (rs.flatMap reaC)) (hrl : rs.length ≤ 9223372036854775807) (hR : ∀ r ∈ rs, ReaOk 1048576 r) :
    CS Tryd.prog 3 [.agg bv.toArray, sV fm, .slice A deck.length c, .slice B rs.length k] m [] (Gives (.bool true)) := by
  have hb0 := hb
  obtain ⟨hk1, hk2⟩ := bk_lens hb
  have hln := hd.2
  obtain ⟨A0, c0, F0, k0, rfl, _⟩ := hb
  refine CS_of [.tmp 8] Tryd.func3 rfl rfl rfl ?_
  refine TS_seq ?_
  refine TS_region ?_
  refine VS_step (S_box rfl rfl (fun b1 => ?_)) rfl
  refine VS_pure (P_assign rfl) rfl rfl rfl ?_
  refine VS_nil ?_
  refine QS_then ?_
  refine TS_seq ?_
  refine TS_seq ?_
  refine TS_region ?_
  refine VS_read (S_loadBA ag25 rfl (.here) rfl) rfl rfl rfl ?_
  refine VS_pure (P_move rfl) rfl rfl rfl ?_
  refine VS_step ((S_call cl7 rfl (fun m' hm he => great_ok (hb0.mono hm) (by omega) hk1 hk2) rfl ?_)) rfl
  rintro _ _ ⟨rfl, g, rfl, hg⟩
  cases g with
  | true =>
    by_cases h100 : (rs.length : Int) > 100
    · refine VS_pure (P_move rfl) rfl rfl rfl ?_
      iterate 3 (refine VS_skip rfl rfl rfl ?_)
      refine VS_pure (P_pick_t rfl rfl) rfl rfl rfl ?_
      refine VS_nil ?_
      refine QS_then ?_
      refine TS_true rfl ?_
      refine TS_seq ?_
      refine TS_region ?_
      refine VS_step (S_callR cl8 rfl (fun m' hm he => (wakes_ok (hT.mono hm))) rfl ?_) rfl
      rintro _ rfl
      refine VS_pure (P_assign rfl) rfl rfl rfl ?_
      refine VS_nil ?_
      refine QS_then ?_
      refine TS_ret ?_
      refine QS_then_ret ?_
      exact QS_ret [_] ⟨rfl, trivial⟩ [] (Pick.nil _) ⟨rfl, rfl⟩
    · refine VS_pure (P_move rfl) rfl rfl rfl ?_
      iterate 3 (refine VS_skip rfl rfl rfl ?_)
      refine VS_pure (P_pick_t rfl rfl) rfl rfl rfl ?_
      refine VS_nil ?_
      refine QS_then ?_
      refine TS_true rfl ?_
      refine TS_seq ?_
      refine TS_region ?_
      refine VS_step (S_callR cl8 rfl (fun m' hm he => (wakes_ok (hT.mono hm))) rfl ?_) rfl
      rintro _ rfl
      refine VS_pure (P_assign rfl) rfl rfl rfl ?_
      refine VS_nil ?_
      refine QS_then ?_
      refine TS_ret ?_
      refine QS_then_ret ?_
      exact QS_ret [_] ⟨rfl, trivial⟩ [] (Pick.nil _) ⟨rfl, rfl⟩
  | false =>
    have hl3 : deck.length ≤ 300 := hg rfl
    by_cases h100 : (rs.length : Int) > 100
    · refine VS_pure (P_move rfl) rfl rfl rfl ?_
      refine VS_pure (P_move rfl) rfl rfl rfl ?_
      refine VS_pure (P_len il27 rfl) rfl rfl rfl ?_
      refine VS_pure (dt (P_gtr rfl rfl) (by assumption)) rfl rfl rfl ?_
      refine VS_pure (P_pick_f rfl rfl) rfl rfl rfl ?_
      refine VS_nil ?_
      refine QS_then ?_
      refine TS_true rfl ?_
      refine TS_seq ?_
      refine TS_region ?_
      refine VS_step (S_callR cl8 rfl (fun m' hm he => (wakes_ok (hT.mono hm))) rfl ?_) rfl
      rintro _ rfl
      refine VS_pure (P_assign rfl) rfl rfl rfl ?_
      refine VS_nil ?_
      refine QS_then ?_
      refine TS_ret ?_
      refine QS_then_ret ?_
      exact QS_ret [_] ⟨rfl, trivial⟩ [] (Pick.nil _) ⟨rfl, rfl⟩
    obtain ⟨hck, hcl⟩ := checkP_ok (b := b) (fm := fm) hl3 hdk
    have C1 := fun m' (hm : Le m m') => Check_ok (c := c) (hb0.mono hm) fm (hd.mono hm) hl3
    have C2 := fun m' (hm : Le m m') => rCheck_ok (c := c) (hb0.mono hm) fm (hd.mono hm) hl3 hcap
    have hRI : ∀ {l : List Rea}, (∀ r ∈ l, ReaOk 1048576 r) → ∀ r ∈ l, In8 r.why ∧ (-9223372036854775808 ≤ r.n ∧ r.n ≤ 9223372036854775807) ∧ r.name.length ≤ 140737488355328 := fun h r hr => ⟨(h r hr).1, (h r hr).2.1, Nat.le_trans (h r hr).2.2 (by decide)⟩
    have hTX : ∀ {l : List Rea}, (∀ r ∈ l, ReaOk 1048576 r) → l.length ≤ 4000 → (Lib.join (l.map (partR Lib.itoa)) sep2).length ≤ 140737488355328 := fun {l} h hl => by
      refine Nat.le_trans (text_le fun r hr => (h r hr).2) ?_
      refine Nat.le_trans (Nat.mul_le_mul_right _ hl) (by decide)
    generalize checkP b fm deck = ck at hck hcl C1 C2
    obtain ⟨cs, er⟩ := ck
    dsimp only at hck hcl C1 C2
    refine VS_pure (P_move rfl) rfl rfl rfl ?_
    refine VS_pure (P_move rfl) rfl rfl rfl ?_
    refine VS_pure (P_len il27 rfl) rfl rfl rfl ?_
    refine VS_pure (df (P_gtr rfl rfl) (by assumption)) rfl rfl rfl ?_
    refine VS_pure (P_pick_f rfl rfl) rfl rfl rfl ?_
    refine VS_nil ?_
    refine QS_then ?_
    refine TS_false rfl ?_
    refine TS_skip ?_
    refine QS_then ?_
    refine TS_seq ?_
    refine TS_region ?_
    refine VS_read (S_loadBA ag25 rfl (.here) rfl) rfl rfl rfl ?_
    refine VS_pure (P_move rfl) rfl rfl rfl ?_
    refine VS_pure (P_move rfl) rfl rfl rfl ?_
    refine VS_step ((S_call cl9 rfl (fun m' hm he => C1 m' hm) rfl ?_)) rfl
    rintro _ _ ⟨A1, c1, rfl, rfl⟩
    refine VS_pure (P_move rfl) rfl rfl rfl ?_
    refine VS_pure (P_extract rfl rfl) rfl rfl rfl ?_
    refine VS_pure (P_extract rfl rfl) rfl rfl rfl ?_
    refine VS_pure (P_assign rfl) rfl rfl rfl ?_
    refine VS_pure (P_assign rfl) rfl rfl rfl ?_
    refine VS_nil ?_
    refine QS_then ?_
    refine TS_seq ?_
    refine TS_region ?_
    refine VS_read (S_loadBA ag25 rfl (.there (.here)) rfl) rfl rfl rfl ?_
    refine VS_pure (P_move rfl) rfl rfl rfl ?_
    refine VS_pure (P_move rfl) rfl rfl rfl ?_
    refine VS_step ((S_call cl10 rfl (fun m' hm he => C2 m' hm) rfl ?_)) rfl
    rintro _ _ ⟨A2, c2, rfl, rfl⟩
    dsimp only
    have i2 : ∀ {m' : Mp} {r : List Ent}, HE (own 38 3 A2 cs.length c2 (cs.flatMap reaC) :: r) m' → Rd m' A2 (cs.flatMap reaC) := fun he => Eng.Own.rd (he _ List.mem_cons_self)
    have i1 : ∀ {m' : Mp} {e : Ent} {r : List Ent}, HE (e :: own 38 3 A1 cs.length c1 (cs.flatMap reaC) :: r) m' → Rd m' A1 (cs.flatMap reaC) := fun he => Eng.Own.rd (he _ (List.mem_cons_of_mem _ List.mem_cons_self))
    have hcR := hRI hck
    have hcT := hTX hck (by omega)
    have hrR := hRI hR
    have hrT := hTX hR (by omega)
    clear C1 C2 hTX hRI hck hR hdk hg
    refine VS_pure (P_move rfl) rfl rfl rfl ?_
    refine VS_pure (P_extract rfl rfl) rfl rfl rfl ?_
    refine VS_pure (P_extract rfl rfl) rfl rfl rfl ?_
    refine VS_pure (P_assign rfl) rfl rfl rfl ?_
    refine VS_pure (P_assign rfl) rfl rfl rfl ?_
    refine VS_nil ?_
    refine QS_then ?_
    refine TS_seq ?_
    refine TS_region ?_
    refine VS_pure (P_move rfl) rfl rfl rfl ?_
    refine VS_pure (P_move rfl) rfl rfl rfl ?_
    refine VS_pure (dt (P_eql rfl rfl) rfl) rfl rfl rfl ?_
    iterate 3 (refine VS_pure (P_move rfl) rfl rfl rfl ?_)
    refine VS_step ((S_call cl11 rfl (fun m' hm he => same11 (c := c1) (c2 := c2) (i1 he) (i2 he) (by omega) (by omega)) rfl ?_)) rfl
    rintro _ _ ⟨rfl, rfl⟩
    rw [decide_eq_true (rfl : cs = cs)]
    refine VS_pure (P_pick_t rfl rfl) rfl rfl rfl ?_
    refine VS_pure (P_move rfl) rfl rfl rfl ?_
    refine VS_pure (P_move rfl) rfl rfl rfl ?_
    refine VS_step ((S_call cl12 rfl (fun m' hm he => Text_ok (c := c1) (hT.mono hm) (i1 he) (by omega) hcR hcT) rfl ?_)) rfl
    rintro _ _ ⟨rfl, rfl⟩
    refine VS_pure (P_move rfl) rfl rfl rfl ?_
    refine VS_step ((S_call cl13 rfl (fun m' hm he => rText_ok (c := c2) (i2 he) (by omega) hcR) rfl ?_)) rfl
    rintro _ _ ⟨rfl, rfl⟩
    generalize Lib.join (cs.map (partR Lib.itoa)) sep2 = tx at hcT ⊢
    refine VS_pure (dt (P_seql rfl rfl) rfl) rfl rfl rfl ?_
    refine VS_pure (P_pick_t rfl rfl) rfl rfl rfl ?_
    refine VS_pure (P_move rfl) rfl rfl rfl ?_
    refine VS_pure (P_move rfl) rfl rfl rfl ?_
    refine VS_step (S_callR cl12 rfl (fun m' hm he => (Text_ok (c := k) (hT.mono hm) (hr.mono hm) (by omega) hrR hrT)) rfl ?_) rfl
    rintro _ rfl
    refine VS_pure (P_move rfl) rfl rfl rfl ?_
    refine VS_step (S_callR cl13 rfl (fun m' hm he => (rText_ok (c := k) (hr.mono hm) (by omega) hrR)) rfl ?_) rfl
    rintro _ rfl
    generalize Lib.join (rs.map (partR Lib.itoa)) sep2 = ty at hrT ⊢
    refine VS_pure (dt (P_seql rfl rfl) rfl) rfl rfl rfl ?_
    refine VS_pure (P_pick_t rfl rfl) rfl rfl rfl ?_
    refine VS_pure (P_move rfl) rfl rfl rfl ?_
    refine VS_step (S_callR cl8 rfl (fun m' hm he => (wakes_ok (hT.mono hm))) rfl ?_) rfl
    rintro _ rfl
    refine VS_pure (P_pick_t rfl rfl) rfl rfl rfl ?_
    refine VS_pure (P_assign rfl) rfl rfl rfl ?_
    refine VS_nil ?_
    refine QS_then ?_
    refine TS_ret ?_
    exact QS_ret [_] ⟨rfl, trivial⟩ [] (Pick.nil _) ⟨rfl, rfl⟩
end Go.Proofs.YtccleakfgmcjpaaDoor
