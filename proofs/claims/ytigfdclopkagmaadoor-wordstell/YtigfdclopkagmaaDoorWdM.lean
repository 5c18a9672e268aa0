/- A part of the proof: contracts of functions of the program. No condition. -/
import Derived.Test.YtigfdclopkagmaaDoorWdH
namespace Go.Proofs.YtigfdclopkagmaaDoor
open Go.Eng Wd Go.RowKit
/-- the words that a text's Each goes over -/
def wordsOf : Res → List Wrd
  | .ok ws => ws
  | .error _ => []
theorem CutAny_ok {m : Mp} {s : List UInt8} (h0 : CS Tryd.prog 6 [.string (bs s)] m [] (CutPost (cutP s))) : CS Tryd.prog 6 [.string (bs s)] m [] fun v L' => ∃ A c e a, v = .tuple [.slice A (wordsOf (cutP s)).length c, faultV e a].toArray ∧
    L' = [own 30 4 A (wordsOf (cutP s)).length c (wsV (wordsOf (cutP s)))] := fun h hs => by
  refine (h0 h hs).mono ?_
  rintro v h' ⟨L', hp, hH⟩
  cases hc : cutP s with
  | error p =>
    rw [hc] at hp
    obtain ⟨e, a⟩ := p
    obtain ⟨rfl, rfl⟩ := hp
    exact ⟨_, ⟨none, 0, e, a, rfl, rfl⟩, hH.nilOwn 30 4⟩
  | ok ws =>
    rw [hc] at hp
    obtain ⟨A, c, rfl, rfl⟩ := hp
    exact ⟨_, ⟨A, c, 0, 0, rfl, rfl⟩, hH⟩
theorem Each_ok {m : Mp} (hT : Tabs m) {s : List UInt8} (hs : s.length ≤ 9223372036854775807) : CS Tryd.prog 9 [.string (bs s)] m [] fun v L' => ∃ b A c, v = .func (.func 24) #[] #[.pointer (some ⟨b, 0, none⟩)] ∧
    L' = [cel b [.slice A (wordsOf (cutP s)).length c] 22, own 30 4 A (wordsOf (cutP s)).length c (wsV (wordsOf (cutP s)))] := by
  refine CS_of [.tmp 2] Tryd.func9 rfl rfl rfl ?_
  refine TS_seq ?_
  refine TS_region ?_
  refine VS_pure (P_assign rfl) rfl rfl rfl ?_
  refine VS_nil ?_
  refine QS_then ?_
  refine TS_seq ?_
  refine TS_region ?_
  refine VS_pure (P_move rfl) rfl rfl rfl ?_
  refine VS_step ((S_call cl6 rfl (fun m' hm he => CutAny_ok (Cut_ok (hT.mono hm) hs)) rfl ?_)) rfl
  rintro _ _ ⟨A, c, e, a, rfl, rfl⟩
  refine VS_pure (P_move rfl) rfl rfl rfl ?_
  refine VS_pure (P_extract rfl rfl) rfl rfl rfl ?_
  refine VS_pure (P_extract rfl rfl) rfl rfl rfl ?_
  refine VS_step (S_alloc zl22 rfl (fun b1 => ?_)) rfl
  refine VS_step (S_alloc zl25 rfl (fun b2 => ?_)) rfl
  refine VS_step (S_store co22 rfl rfl rfl (.there (.here)) (.here) ?_) rfl
  refine VS_step (S_storeAgg ag25 rfl rfl rfl (.here) rfl rfl ?_) rfl
  refine VS_nil ?_
  refine QS_then ?_
  refine TS_seq ?_
  refine TS_region ?_
  refine VS_pure (P_makeFunc rfl rfl) rfl rfl rfl ?_
  refine VS_pure (P_assign rfl) rfl rfl rfl ?_
  refine VS_nil ?_
  refine QS_then ?_
  refine TS_ret ?_
  exact QS_ret [_] ⟨rfl, trivial⟩ _ (Pick.cons (.there .here) (Pick.cons (.there .here) (Pick.nil _))) ⟨b1, A, c, rfl, rfl⟩
end Go.Proofs.YtigfdclopkagmaaDoor
