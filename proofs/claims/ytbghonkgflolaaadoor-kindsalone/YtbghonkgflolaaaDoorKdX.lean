/- A part of the proof: contracts of functions of the program. No condition. -/
import Derived.Test.YtbghonkgflolaaaDoorKdXp
import Derived.Test.YtbghonkgflolaaaDoorKdW
namespace Go.Proofs.YtbghonkgflolaaaDoor
open Go.Eng Wd Kd
set_option maxRecDepth 100000
def nilS : Value := .slice none 0 0
def impC : List Value := [.string (bs [73, 109, 112]), .bool true, .int .i64 0, .int .i64 0, .int .i64 1, .int .i64 0, .int .i64 0, .int .i64 0, .slice none 0 0, .slice none 0 0, .slice none 0 0, .int .i64 3]
def elfC : List Value := [.string (bs [69, 108, 102]), .bool true, .int .i64 0, .int .i64 0, .int .i64 0, .int .i64 0, .int .i64 0, .int .i64 0, .slice none 0 0, .slice none 0 0, .slice none 0 0, .int .i64 5]
def boltC (b : Nat) : List Value := [.string (bs [66, 111, 108, 116]), .bool false, .int .i64 0, .int .i64 0, .int .i64 0, .int .i64 0, .int .i64 0, .int .i64 0, .slice (some ⟨b, 0, none⟩) 1 1, .slice none 0 0, .slice none 0 0, .int .i64 0]
def boltEC : List Value := [.int .i8 0, .int .i8 2, .int .i8 0, .int .i64 3, .int .i8 0, .slice none 0 0, .string (bs []), .int .i8 0, .int .i8 0, .string (bs []), .slice none 0 0, .slice none 0 0, .slice none 0 0, .slice none 0 0]
theorem effsNil (m : Mp) : EffsR m none 0 [] := ⟨rfl, Nat.zero_le _, [], Rd.nil _ _, rfl, fun i h => by cases h⟩
theorem imp_R (m : Mp) : CardR m impC impT := ⟨none, 0, 0, none, 0, 0, none, 0, 0, rfl, by decide, effsNil m, effsNil m, effsNil m, by decide, by decide, by decide, by decide, by decide, by decide, by decide⟩
theorem elf_R (m : Mp) : CardR m elfC elfT := ⟨none, 0, 0, none, 0, 0, none, 0, 0, rfl, by decide, effsNil m, effsNil m, effsNil m, by decide, by decide, by decide, by decide, by decide, by decide, by decide⟩
theorem boltE_R (m : Mp) : EffR m boltEC boltE :=
  .mk (ns := [.int .i8 0, .int .i64 3, .int .i8 0, .slice none 0 0]) (cs := [.int .i8 0, .int .i8 0, .string (bs []), .slice none 0 0, .slice none 0 0]) (vs := []) (us := []) ⟨by decide, by decide⟩ ⟨by decide, by decide⟩
    (.mk (vs := []) ⟨by decide, by decide⟩ rfl (by decide) (Rd.nil _ _) rfl fun i h => by cases h) (by decide)
    (.mk (vs := []) (us := []) ⟨by decide, by decide⟩ ⟨by decide, by decide⟩ (by decide) rfl (by decide) (Rd.nil _ _) rfl (fun i h => by cases h) rfl (by decide) (Rd.nil _ _) rfl fun i h => by cases h)
    rfl (by decide) (Rd.nil _ _) rfl (fun i h => by cases h) rfl (by decide) (Rd.nil _ _) rfl fun i h => by cases h
theorem bolt_R {m : Mp} {b : Nat} (h : (cel b boltEC 47).inv m) : CardR m (boltC b) boltT :=
  ⟨some ⟨b, 0, none⟩, 1, 1, none, 0, 0, none, 0, 0, rfl, by decide, ⟨rfl, by decide, boltEC, Rd.blk h, rfl, fun i hi => by
    have : i = 0 := by have : i < 1 := hi; omega
    subst this
    exact boltE_R m⟩, effsNil m, effsNil m, by decide, by decide, by decide, by decide, by decide, by decide, by decide⟩
theorem cardLen {m : Mp} {cs : List Value} {x : CardT} (h : CardR m cs x) : cs.length = 12 := by
  obtain ⟨A, la, ca, B, lb, cb, D, ld, cd, rfl, _⟩ := h
  rfl
theorem cards2 {m : Mp} {b : Nat} {c1 c2 : List Value} {x y : CardT} (h : (cel b (c1 ++ c2) 31).inv m) (h1 : CardR m c1 x) (h2 : CardR m c2 y) : CardsR m (some ⟨b, 0, none⟩) [x, y].length [x, y] := by
  have l1 := cardLen h1
  have l2 := cardLen h2
  refine ⟨rfl, by show 2 ≤ maxLen; decide, c1 ++ c2, Rd.blk h, by simp [l1, l2], fun i hi => ?_⟩
  have : i = 0 ∨ i = 1 := by have : i < 2 := hi; omega
  rcases this with rfl | rfl
  · show CardR m ((c1 ++ c2).take 12) x
    rw [← l1, List.take_left]
    exact h1
  · show CardR m (((c1 ++ c2).drop 12).take 12) y
    rw [← l1, List.drop_left, l1, ← l2, List.take_length]
    exact h2
theorem Check2 {m : Mp} {b : Nat} {c1 c2 : List Value} {x y : CardT} (hT : Tabs m) (h : (cel b (c1 ++ c2) 31).inv m) (h1 : CardR m c1 x) (h2 : CardR m c2 y) (hx : x.name.length ≤ 2000 ∧ cardW x ≤ 3999) (hy : y.name.length ≤ 2000 ∧ cardW y ≤ 3999) :
    CS Tryd.prog 5 [.slice (some ⟨b, 0, none⟩) 2 2] m [] (fun v L' => L' = [] ∧ ∃ e a, v = faultV e a ∧ CheckPost [x, y] e a) :=
  Check5 hT (cards2 h h1 h2) fun _ i hi => by
    have : i = 0 ∨ i = 1 := by have : i < 2 := hi; omega
    rcases this with rfl | rfl
    · exact hx
    · exact hy
theorem imp_b : impT.name.length ≤ 2000 ∧ cardW impT ≤ 3999 := ⟨by decide, by show effsW [] + effsW [] + effsW [] ≤ 3999; decide⟩
theorem elf_b : elfT.name.length ≤ 2000 ∧ cardW elfT ≤ 3999 := ⟨by decide, by show effsW [] + effsW [] + effsW [] ≤ 3999; decide⟩
theorem bolt_b : boltT.name.length ≤ 2000 ∧ cardW boltT ≤ 3999 := ⟨by decide, by rw [bolt_card]; decide⟩
set_option maxHeartbeats 64000000 in
theorem wakes6 {m : Mp} (hT : Tabs m) : CS Tryd.prog 6 [] m [] (Gives (.bool true)) := by
  refine CS_of [.tmp 0] Tryd.func6 rfl rfl rfl ?_
  refine TS_seq ?_
  refine TS_region ?_
  refine VS_pure (P_assign rfl) rfl rfl rfl ?_
  refine VS_nil ?_
  refine QS_then ?_
  refine TS_seq ?_
  refine TS_region ?_
  refine VS_pure (P_build zl31 pl31 rfl rfl) rfl rfl rfl ?_
  refine VS_step (S_alloc zl31 rfl (fun b1 => ?_)) rfl
  refine VS_step (S_storeAgg ag31 rfl rfl rfl (.here) rfl rfl ?_) rfl
  refine VS_nil ?_
  refine QS_then ?_
  refine TS_seq ?_
  refine TS_region ?_
  refine VS_pure (P_build zl31 pl31 rfl rfl) rfl rfl rfl ?_
  refine VS_step (S_alloc zl31 rfl (fun b2 => ?_)) rfl
  refine VS_step (S_storeAgg ag31 rfl rfl rfl (.here) rfl rfl ?_) rfl
  refine VS_nil ?_
  refine QS_then ?_
  refine TS_seq ?_
  refine TS_region ?_
  refine VS_pure (P_build zl42 pl42 rfl rfl) rfl rfl rfl ?_
  refine VS_pure (P_build zl47 pl47 rfl rfl) rfl rfl rfl ?_
  refine VS_step (S_buildSlice sl29 rfl rfl rfl rfl (fun b3 => ?_)) rfl
  refine VS_pure (P_build zl31 pl31 rfl rfl) rfl rfl rfl ?_
  refine VS_step (S_alloc zl31 rfl (fun b4 => ?_)) rfl
  refine VS_step (S_storeAgg ag31 rfl rfl rfl (.here) rfl rfl ?_) rfl
  refine VS_nil ?_
  refine QS_then ?_
  refine TS_seq ?_
  refine TS_region ?_
  refine VS_read (S_loadBA ag31 rfl (.there (.there (.there (.here)))) rfl) rfl rfl rfl ?_
  refine VS_read (S_loadBA ag31 rfl (.here) rfl) rfl rfl rfl ?_
  refine VS_step (S_buildSlice sl22 rfl rfl rfl rfl (fun b5 => ?_)) rfl
  refine VS_step ((S_call cl5 rfl (fun m1 hm he => Check2 (c1 := impC) (c2 := boltC b3) (hT.mono hm) (he _ (.head _)) (imp_R m1) (bolt_R (he _ (.tail _ (.tail _ (.head _))))) imp_b bolt_b) rfl ?_)) rfl
  rintro _ _ ⟨rfl, e, a, rfl, hp⟩
  obtain rfl := chkA hp
  clear hp
  refine VS_pure (P_field1 fo26_0 ft26_0 fs26_0 rfl rfl) rfl rfl rfl ?_
  refine VS_pure (dt (P_eql rfl rfl) rfl) rfl rfl rfl ?_
  refine VS_pure (P_move rfl) rfl rfl rfl ?_
  refine VS_read (S_loadBA ag31 rfl (.there (.there (.there (.there (.here))))) rfl) rfl rfl rfl ?_
  refine VS_read (S_loadBA ag31 rfl (.there (.there (.there (.here)))) rfl) rfl rfl rfl ?_
  refine VS_step (S_buildSlice sl22 rfl rfl rfl rfl (fun b6 => ?_)) rfl
  refine VS_step ((S_call cl5 rfl (fun m1 hm he => Check2 (c1 := impC) (c2 := elfC) (hT.mono hm) (he _ (.head _)) (imp_R m1) (elf_R m1) imp_b elf_b) rfl ?_)) rfl
  rintro _ _ ⟨rfl, e, a, rfl, hp⟩
  obtain ⟨rfl, rfl⟩ := chkB hp
  clear hp
  refine VS_pure (P_build zl26 pl26 rfl rfl) rfl rfl rfl ?_
  refine VS_pure ((dt (P_structEql [.i .i64 130, .i .i64 5] [.i .i64 130, .i .i64 5] fg26 rfl rfl rfl rfl) rfl)) rfl rfl rfl ?_
  refine VS_pure (P_pick_t rfl rfl) rfl rfl rfl ?_
  refine VS_pure (P_move rfl) rfl rfl rfl ?_
  refine VS_read (S_loadBA ag31 rfl (.there (.there (.there (.there (.there (.here)))))) rfl) rfl rfl rfl ?_
  refine VS_read (S_loadBA ag31 rfl (.there (.there (.there (.there (.there (.here)))))) rfl) rfl rfl rfl ?_
  refine VS_step (S_buildSlice sl22 rfl rfl rfl rfl (fun b7 => ?_)) rfl
  refine VS_step ((S_call cl5 rfl (fun m1 hm he => Check2 (c1 := impC) (c2 := impC) (hT.mono hm) (he _ (.head _)) (imp_R m1) (imp_R m1) imp_b imp_b) rfl ?_)) rfl
  rintro _ _ ⟨rfl, e, a, rfl, hp⟩
  obtain ⟨rfl, rfl⟩ := chkC hp
  clear hp
  refine VS_pure (P_build zl26 pl26 rfl rfl) rfl rfl rfl ?_
  refine VS_pure ((dt (P_structEql [.i .i64 101, .i .i64 3] [.i .i64 101, .i .i64 3] fg26 rfl rfl rfl rfl) rfl)) rfl rfl rfl ?_
  refine VS_pure (P_pick_t rfl rfl) rfl rfl rfl ?_
  refine VS_pure (P_move rfl) rfl rfl rfl ?_
  refine VS_read (S_loadBA ag31 rfl (.there (.there (.there (.here)))) rfl) rfl rfl rfl ?_
  refine VS_step (S_callR cl10 rfl (fun m' hm he => (Needs_ok (cs := boltC b3) (bolt_R (he _ (.tail _ (.tail _ (.tail _ (.tail _ (.head _))))))) flatBolt (by decide))) rfl ?_) rfl
  rintro _ rfl
  rw [show (goL askF [PartT.eff boltE, PartT.num num3] false).1 = true from rfl]
  refine VS_pure (P_pick_t rfl rfl) rfl rfl rfl ?_
  refine VS_pure (P_move rfl) rfl rfl rfl ?_
  refine VS_read (S_loadBA ag31 rfl (.there (.there (.there (.there (.there (.there (.here))))))) rfl) rfl rfl rfl ?_
  refine VS_step (S_callR cl10 rfl (fun m' hm he => (Needs_ok (cs := impC) (imp_R m') flatImp (by decide))) rfl ?_) rfl
  rintro _ rfl
  rw [show (goL askF [] false).1 = false from rfl]
  refine VS_pure (P_not rfl) rfl rfl rfl ?_
  refine VS_pure (P_pick_t rfl rfl) rfl rfl rfl ?_
  refine VS_pure (P_move rfl) rfl rfl rfl ?_
  refine VS_read (S_loadBA ag31 rfl (.there (.there (.there (.here)))) rfl) rfl rfl rfl ?_
  refine VS_step (S_callR cl11 rfl (fun m' hm he => (Weight_ok (cs := boltC b3) (bolt_R (he _ (.tail _ (.tail _ (.tail _ (.tail _ (.head _))))))) flatBolt (by decide))) rfl ?_) rfl
  rintro _ rfl
  unfold iV
  skip
  refine VS_pure ((dt (P_eql rfl rfl) rfl)) rfl rfl rfl ?_
  refine VS_pure (P_pick_t rfl rfl) rfl rfl rfl ?_
  refine VS_pure (P_assign rfl) rfl rfl rfl ?_
  refine VS_nil ?_
  refine QS_then ?_
  refine TS_ret ?_
  exact QS_ret [_] ⟨rfl, trivial⟩ [] (Pick.nil _) ⟨rfl, rfl⟩
end Go.Proofs.YtbghonkgflolaaaDoor
