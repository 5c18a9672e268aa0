/- A part of the proof: contracts of functions of the program. No condition. -/
import Derived.Test.YtbpihgphicmdiaaWiAg
namespace Go.Proofs.Ytbpihgphicmdiaa
open Go.Eng Wi
set_option maxRecDepth 100000
theorem Pick.pack0 {L : List Ent} : Pick L (pack [] :: L) := fun m h hs => HS.pack_iff.1 (show HS m ([] ++ L) h from hs)
theorem Pick.pack1 {L : List Ent} {a : Ent} : Pick (a :: L) (pack [a] :: L) := fun m h hs => HS.pack_iff.1 (show HS m ([a] ++ L) h from hs)
theorem Pick.pack2 {L : List Ent} {a b : Ent} : Pick (a :: b :: L) (pack [a, b] :: L) := fun m h hs => HS.pack_iff.1 (show HS m ([a, b] ++ L) h from hs)
theorem Pick.trans {L1 L2 L3 : List Ent} (h1 : Pick L1 L2) (h2 : Pick L2 L3) : Pick L1 L3 := fun m h hs => h2 m h (h1 m h hs)
/-- what a letter's cells are before they are read -/
def L0 (k : Int) : List Value := [.int .u8 k, iV 0, sV [], .slice none 0 0, .slice none 0 0, .int .i8 0, iV 0, iV 0, iV 0, .slice none 0 0, .slice none 0 0, .int .u8 0, iV 0, .slice none 0 0]
theorem acn0_N : ActN acn0 := ⟨⟨by decide, by decide⟩, ⟨by decide, by decide⟩, ⟨by decide, by decide⟩, ⟨by decide, by decide⟩⟩
theorem noS : ∀ s ∈ ([] : List (List UInt8)), s.length ≤ 140737488355328 := fun _ h => by cases h
theorem i64_0 : I64 0 := ⟨by decide, by decide⟩
theorem u8_0 : U8 0 := ⟨by decide, by decide⟩
/-- a letter is read behind its kind -/
def LC (k : Int) (bc la : Nat) (v : Value) (m : Mp) (A : Option Addr) (c : Nat) (b : List UInt8) : Prop :=
  ∀ at_, at_ ≤ b.length → CSP Try.prog 25 [.pointer (some ⟨bc, 0, none⟩), v, .pointer (some ⟨la, 0, none⟩)] m [curR bc A c b.length at_, cel la (L0 k) 32]
    (fun v L' => ∃ x a' cs e, pBody k b at_ = .ok x a' ∧ a' ≤ b.length ∧ v = U0 ∧ L' = [curR bc A c b.length a', cel la cs 32, e] ∧ ∀ ns, e.inv ns → LtA ns cs x) (fun v _ => ∃ j, pBody k b at_ = .bad j ∧ v = wrongV j)
theorem pBody_2 (b : List UInt8) (a : Nat) : pBody 2 b a = (pNum b a).bind fun n a1 => (pText b a1).bind fun t a2 => .ok ⟨2, n, t, [], [], acn0, 0, 0, []⟩ a2 := rfl
set_option maxHeartbeats 8000000 in
theorem letR2 {m : Mp} {bc la : Nat} {v : Value} {A : Option Addr} {c : Nat} {b : List UInt8} (hr : Rd m A (b.map byteV)) (hb : b.length ≤ 1099511627776) : LC 2 bc la v m A c b := by
  intro at_ hat
  refine CSP_of [] Try.func25 rfl rfl rfl ?_
  unfold L0
  have p1 : Plc ⟨la, 1, none⟩ (fun v => cel la [.int .u8 2, v, sV [], .slice none 0 0, .slice none 0 0, .int .i8 0, iV 0, iV 0, iV 0, .slice none 0 0, .slice none 0 0, .int .u8 0, iV 0, .slice none 0 0] 32) := Plc.cel (i := 1) (l := L0 2) (by decide)
  refine TS_seq ?_
  refine TS_seq ?_
  refine TS_region ?_
  refine VS_pure (P_move rfl) rfl rfl rfl ?_
  refine VS_pure (P_nilCheck rfl) rfl rfl rfl ?_
  refine VS_pure (P_fieldAddr0 fo32_0 rfl) rfl rfl rfl ?_
  refine VS_read (S_loadB sg5 rfl (.there (.here)) rfl) rfl rfl rfl ?_
  refine VS_nil ?_
  refine QS_then ?_
  refine TS_block ?_
  refine TS_seq ?_
  refine TS_region ?_
  refine VS_pure (df (P_eql rfl rfl) (by omega)) rfl rfl rfl ?_
  refine VS_pure (P_assign rfl) rfl rfl rfl ?_
  refine VS_nil ?_
  refine QS_then ?_
  refine TS_false rfl ?_
  refine TS_seq ?_
  refine TS_region ?_
  refine VS_pure (df (P_eql rfl rfl) (by omega)) rfl rfl rfl ?_
  refine VS_pure (P_assign rfl) rfl rfl rfl ?_
  refine VS_nil ?_
  refine QS_then ?_
  refine TS_false rfl ?_
  refine TS_seq ?_
  refine TS_region ?_
  refine VS_pure (df (P_eql rfl rfl) (by omega)) rfl rfl rfl ?_
  refine VS_pure (P_assign rfl) rfl rfl rfl ?_
  refine VS_nil ?_
  refine QS_then ?_
  refine TS_false rfl ?_
  refine TS_skip ?_
  refine QS_block ?_
  refine QS_then ?_
  refine TS_seq ?_
  refine TS_region ?_
  refine VS_pure (P_move rfl) rfl rfl rfl ?_
  refine VS_pure (P_move rfl) rfl rfl rfl ?_
  refine VS_pure (P_nilCheck rfl) rfl rfl rfl ?_
  refine VS_pure (P_fieldAddr0 fo32_1 rfl) rfl rfl rfl ?_
  refine VS_step (S_callP cl47 rfl (.cons .here (.cons .here .nil)) (fun m' hm he => numR p1 (hr.mono hm) hb at_ hat) rfl ?_ ?_) rfl
  · rintro v L' ⟨j, hk, rfl⟩
    refine QS_then_pan ?_
    exact QS_pan [] (Pick.nil _) ⟨j, by rw [pBody_2, hk]; rfl, rfl⟩
  rintro v L' ⟨n, a1, hn, ha1, rfl, rfl⟩
  try dsimp only
  have hn64 := pNum_I64 hn
  have p2 : Plc ⟨la, 2, none⟩ (fun v => cel la [.int .u8 2, iV n, v, .slice none 0 0, .slice none 0 0, .int .i8 0, iV 0, iV 0, iV 0, .slice none 0 0, .slice none 0 0, .int .u8 0, iV 0, .slice none 0 0] 32) := Plc.cel (i := 2) (l := [.int .u8 2, iV n, sV [], .slice none 0 0, .slice none 0 0, .int .i8 0, iV 0, iV 0, iV 0, .slice none 0 0, .slice none 0 0, .int .u8 0, iV 0, .slice none 0 0]) (by show _ < 14; decide)
  refine VS_nil ?_
  refine QS_then ?_
  refine TS_seq ?_
  refine TS_region ?_
  refine VS_pure (P_move rfl) rfl rfl rfl ?_
  refine VS_pure (P_nilCheck rfl) rfl rfl rfl ?_
  refine VS_pure (P_fieldAddr0 fo32_0 rfl) rfl rfl rfl ?_
  refine VS_read (S_loadB sg5 rfl (.there (.here)) rfl) rfl rfl rfl ?_
  refine VS_nil ?_
  refine QS_then ?_
  refine TS_block ?_
  refine TS_seq ?_
  refine TS_region ?_
  refine VS_pure (dt (P_eql rfl rfl) rfl) rfl rfl rfl ?_
  refine VS_pure (P_assign rfl) rfl rfl rfl ?_
  refine VS_nil ?_
  refine QS_then ?_
  refine TS_true rfl ?_
  refine TS_region ?_
  refine VS_pure (P_move rfl) rfl rfl rfl ?_
  refine VS_pure (P_move rfl) rfl rfl rfl ?_
  refine VS_pure (P_nilCheck rfl) rfl rfl rfl ?_
  refine VS_pure (P_fieldAddr0 fo32_2 rfl) rfl rfl rfl ?_
  refine VS_step (S_callP cl48 rfl (.cons .here (.cons .here .nil)) (fun m' hm he => textR p2 (hr.mono hm) hb a1 ha1) rfl ?_ ?_) rfl
  · rintro v L' ⟨j, hk, rfl⟩
    refine QS_block_pan ?_
    exact QS_pan [] (Pick.nil _) ⟨j, by rw [pBody_2, hn]; show Res.bind (pText b a1) _ = _; rw [hk]; rfl, rfl⟩
  rintro v L' ⟨t, a2, ht, ha2, rfl, rfl⟩
  try dsimp only
  refine VS_nil ?_
  refine QS_block ?_
  have htl : t.length ≤ 65535 := pText_len ht
  exact QS_retPN [] trivial [_, _, pack []] (Pick.trans Pick.pack0 (.cons (.there .here) (.cons (.there .here) (.cons .here (.nil _))))) ⟨_, a2, _, _, by rw [pBody_2, hn]; show Res.bind (pText b a1) _ = _; rw [ht]; rfl, ha2, rfl, rfl, fun ns hi => ⟨_, _, _, _, _, rfl, BytesE.z _, StrsE.z _, IntsE.z _, PairsE.z _, EvsE.z _, (show U8 2 from ⟨by decide, by decide⟩), hn64, by show t.length ≤ _; omega, noS, acn0_N, u8_0, i64_0⟩⟩
theorem pBody_3 (b : List UInt8) (a : Nat) : pBody 3 b a = (pNum b a).bind fun n a1 => (pMany 2 pText b a1).bind fun t a2 => .ok ⟨3, n, [], [], t, acn0, 0, 0, []⟩ a2 := rfl
set_option maxHeartbeats 8000000 in
theorem letR3 {m : Mp} {bc la : Nat} {v : Value} {A : Option Addr} {c : Nat} {b : List UInt8} (hr : Rd m A (b.map byteV)) (hb : b.length ≤ 1099511627776) : LC 3 bc la v m A c b := by
  intro at_ hat
  refine CSP_of [] Try.func25 rfl rfl rfl ?_
  unfold L0
  have p1 : Plc ⟨la, 1, none⟩ (fun v => cel la [.int .u8 3, v, sV [], .slice none 0 0, .slice none 0 0, .int .i8 0, iV 0, iV 0, iV 0, .slice none 0 0, .slice none 0 0, .int .u8 0, iV 0, .slice none 0 0] 32) := Plc.cel (i := 1) (l := L0 3) (by decide)
  refine TS_seq ?_
  refine TS_seq ?_
  refine TS_region ?_
  refine VS_pure (P_move rfl) rfl rfl rfl ?_
  refine VS_pure (P_nilCheck rfl) rfl rfl rfl ?_
  refine VS_pure (P_fieldAddr0 fo32_0 rfl) rfl rfl rfl ?_
  refine VS_read (S_loadB sg5 rfl (.there (.here)) rfl) rfl rfl rfl ?_
  refine VS_nil ?_
  refine QS_then ?_
  refine TS_block ?_
  refine TS_seq ?_
  refine TS_region ?_
  refine VS_pure (df (P_eql rfl rfl) (by omega)) rfl rfl rfl ?_
  refine VS_pure (P_assign rfl) rfl rfl rfl ?_
  refine VS_nil ?_
  refine QS_then ?_
  refine TS_false rfl ?_
  refine TS_seq ?_
  refine TS_region ?_
  refine VS_pure (df (P_eql rfl rfl) (by omega)) rfl rfl rfl ?_
  refine VS_pure (P_assign rfl) rfl rfl rfl ?_
  refine VS_nil ?_
  refine QS_then ?_
  refine TS_false rfl ?_
  refine TS_seq ?_
  refine TS_region ?_
  refine VS_pure (df (P_eql rfl rfl) (by omega)) rfl rfl rfl ?_
  refine VS_pure (P_assign rfl) rfl rfl rfl ?_
  refine VS_nil ?_
  refine QS_then ?_
  refine TS_false rfl ?_
  refine TS_skip ?_
  refine QS_block ?_
  refine QS_then ?_
  refine TS_seq ?_
  refine TS_region ?_
  refine VS_pure (P_move rfl) rfl rfl rfl ?_
  refine VS_pure (P_move rfl) rfl rfl rfl ?_
  refine VS_pure (P_nilCheck rfl) rfl rfl rfl ?_
  refine VS_pure (P_fieldAddr0 fo32_1 rfl) rfl rfl rfl ?_
  refine VS_step (S_callP cl47 rfl (.cons .here (.cons .here .nil)) (fun m' hm he => numR p1 (hr.mono hm) hb at_ hat) rfl ?_ ?_) rfl
  · rintro v L' ⟨j, hk, rfl⟩
    refine QS_then_pan ?_
    exact QS_pan [] (Pick.nil _) ⟨j, by rw [pBody_3, hk]; rfl, rfl⟩
  rintro v L' ⟨n, a1, hn, ha1, rfl, rfl⟩
  try dsimp only
  have hn64 := pNum_I64 hn
  have p2 : Plc ⟨la, 4, none⟩ (fun v => cel la [.int .u8 3, iV n, sV [], .slice none 0 0, v, .int .i8 0, iV 0, iV 0, iV 0, .slice none 0 0, .slice none 0 0, .int .u8 0, iV 0, .slice none 0 0] 32) := Plc.cel (i := 4) (l := [.int .u8 3, iV n, sV [], .slice none 0 0, sV [], .int .i8 0, iV 0, iV 0, iV 0, .slice none 0 0, .slice none 0 0, .int .u8 0, iV 0, .slice none 0 0]) (by show _ < 14; decide)
  refine VS_nil ?_
  refine QS_then ?_
  refine TS_seq ?_
  refine TS_region ?_
  refine VS_pure (P_move rfl) rfl rfl rfl ?_
  refine VS_pure (P_nilCheck rfl) rfl rfl rfl ?_
  refine VS_pure (P_fieldAddr0 fo32_0 rfl) rfl rfl rfl ?_
  refine VS_read (S_loadB sg5 rfl (.there (.here)) rfl) rfl rfl rfl ?_
  refine VS_nil ?_
  refine QS_then ?_
  refine TS_block ?_
  refine TS_seq ?_
  refine TS_region ?_
  refine VS_pure (df (P_eql rfl rfl) (by omega)) rfl rfl rfl ?_
  refine VS_pure (P_assign rfl) rfl rfl rfl ?_
  refine VS_nil ?_
  refine QS_then ?_
  refine TS_false rfl ?_
  refine TS_seq ?_
  refine TS_region ?_
  refine VS_pure (dt (P_eql rfl rfl) rfl) rfl rfl rfl ?_
  refine VS_pure (P_assign rfl) rfl rfl rfl ?_
  refine VS_nil ?_
  refine QS_then ?_
  refine TS_true rfl ?_
  refine TS_region ?_
  refine VS_pure (P_move rfl) rfl rfl rfl ?_
  refine VS_pure (P_move rfl) rfl rfl rfl ?_
  refine VS_pure (P_nilCheck rfl) rfl rfl rfl ?_
  refine VS_pure (P_fieldAddr0 fo32_4 rfl) rfl rfl rfl ?_
  refine VS_pure (P_move rfl) rfl rfl rfl ?_
  refine VS_pure (P_makeFunc rfl rfl) rfl rfl rfl ?_
  refine VS_step (S_callP cl49 rfl (.cons .here (.cons .here .nil)) (fun m' hm he => textsMR p2 (hr.mono hm) hb a1 ha1) rfl ?_ ?_) rfl
  · rintro v L' ⟨j, hk, rfl⟩
    refine QS_block_pan ?_
    exact QS_pan [] (Pick.nil _) ⟨j, by rw [pBody_3, hn]; show Res.bind (pMany 2 pText b a1) _ = _; rw [hk]; rfl, rfl⟩
  rintro v L' ⟨t, a2, A2, c2, ht, ha2, htl, rfl, rfl⟩
  try dsimp only
  refine VS_nil ?_
  refine QS_block ?_
  have htq := pMany_all (Q := fun s => s.length ≤ 65535) (fun _ _ _ h => pText_len h) ht
  exact QS_retPN [] trivial [_, _, pack [_]] (Pick.trans (L2 := [_, _, _]) (.cons (.there (.there .here)) (.cons .here (.cons .here (.nil _)))) (Pick.trans Pick.pack1 (.cons (.there .here) (.cons (.there .here) (.cons .here (.nil _)))))) ⟨_, a2, _, _, by rw [pBody_3, hn]; show Res.bind (pMany 2 pText b a1) _ = _; rw [ht]; rfl, ha2, rfl, rfl, fun ns hi => ⟨_, _, _, _, _, rfl, BytesE.z _, StrsE.ofOwn (hi.1 _ List.mem_cons_self) htl, IntsE.z _, PairsE.z _, EvsE.z _, (show U8 3 from ⟨by decide, by decide⟩), hn64, Nat.zero_le _, fun s hs => Nat.le_trans (htq s hs) (by decide), acn0_N, u8_0, i64_0⟩⟩
theorem pBody_65 (b : List UInt8) (a : Nat) : pBody 65 b a = (pNum b a).bind fun n a1 => (pText b a1).bind fun t a2 => .ok ⟨65, n, [], t, [], acn0, 0, 0, []⟩ a2 := rfl
set_option maxHeartbeats 8000000 in
theorem letR65 {m : Mp} {bc la : Nat} {v : Value} {A : Option Addr} {c : Nat} {b : List UInt8} (hr : Rd m A (b.map byteV)) (hb : b.length ≤ 1099511627776) : LC 65 bc la v m A c b := by
  intro at_ hat
  refine CSP_of [] Try.func25 rfl rfl rfl ?_
  unfold L0
  have p1 : Plc ⟨la, 1, none⟩ (fun v => cel la [.int .u8 65, v, sV [], .slice none 0 0, .slice none 0 0, .int .i8 0, iV 0, iV 0, iV 0, .slice none 0 0, .slice none 0 0, .int .u8 0, iV 0, .slice none 0 0] 32) := Plc.cel (i := 1) (l := L0 65) (by decide)
  refine TS_seq ?_
  refine TS_seq ?_
  refine TS_region ?_
  refine VS_pure (P_move rfl) rfl rfl rfl ?_
  refine VS_pure (P_nilCheck rfl) rfl rfl rfl ?_
  refine VS_pure (P_fieldAddr0 fo32_0 rfl) rfl rfl rfl ?_
  refine VS_read (S_loadB sg5 rfl (.there (.here)) rfl) rfl rfl rfl ?_
  refine VS_nil ?_
  refine QS_then ?_
  refine TS_block ?_
  refine TS_seq ?_
  refine TS_region ?_
  refine VS_pure (df (P_eql rfl rfl) (by omega)) rfl rfl rfl ?_
  refine VS_pure (P_assign rfl) rfl rfl rfl ?_
  refine VS_nil ?_
  refine QS_then ?_
  refine TS_false rfl ?_
  refine TS_seq ?_
  refine TS_region ?_
  refine VS_pure (df (P_eql rfl rfl) (by omega)) rfl rfl rfl ?_
  refine VS_pure (P_assign rfl) rfl rfl rfl ?_
  refine VS_nil ?_
  refine QS_then ?_
  refine TS_false rfl ?_
  refine TS_seq ?_
  refine TS_region ?_
  refine VS_pure (df (P_eql rfl rfl) (by omega)) rfl rfl rfl ?_
  refine VS_pure (P_assign rfl) rfl rfl rfl ?_
  refine VS_nil ?_
  refine QS_then ?_
  refine TS_false rfl ?_
  refine TS_skip ?_
  refine QS_block ?_
  refine QS_then ?_
  refine TS_seq ?_
  refine TS_region ?_
  refine VS_pure (P_move rfl) rfl rfl rfl ?_
  refine VS_pure (P_move rfl) rfl rfl rfl ?_
  refine VS_pure (P_nilCheck rfl) rfl rfl rfl ?_
  refine VS_pure (P_fieldAddr0 fo32_1 rfl) rfl rfl rfl ?_
  refine VS_step (S_callP cl47 rfl (.cons .here (.cons .here .nil)) (fun m' hm he => numR p1 (hr.mono hm) hb at_ hat) rfl ?_ ?_) rfl
  · rintro v L' ⟨j, hk, rfl⟩
    refine QS_then_pan ?_
    exact QS_pan [] (Pick.nil _) ⟨j, by rw [pBody_65, hk]; rfl, rfl⟩
  rintro v L' ⟨n, a1, hn, ha1, rfl, rfl⟩
  try dsimp only
  have hn64 := pNum_I64 hn
  have p2 : Plc ⟨la, 3, none⟩ (fun v => cel la [.int .u8 65, iV n, sV [], v, .slice none 0 0, .int .i8 0, iV 0, iV 0, iV 0, .slice none 0 0, .slice none 0 0, .int .u8 0, iV 0, .slice none 0 0] 32) := Plc.cel (i := 3) (l := [.int .u8 65, iV n, sV [], sV [], .slice none 0 0, .int .i8 0, iV 0, iV 0, iV 0, .slice none 0 0, .slice none 0 0, .int .u8 0, iV 0, .slice none 0 0]) (by show _ < 14; decide)
  refine VS_nil ?_
  refine QS_then ?_
  refine TS_seq ?_
  refine TS_region ?_
  refine VS_pure (P_move rfl) rfl rfl rfl ?_
  refine VS_pure (P_nilCheck rfl) rfl rfl rfl ?_
  refine VS_pure (P_fieldAddr0 fo32_0 rfl) rfl rfl rfl ?_
  refine VS_read (S_loadB sg5 rfl (.there (.here)) rfl) rfl rfl rfl ?_
  refine VS_nil ?_
  refine QS_then ?_
  refine TS_block ?_
  refine TS_seq ?_
  refine TS_region ?_
  refine VS_pure (df (P_eql rfl rfl) (by omega)) rfl rfl rfl ?_
  refine VS_pure (P_assign rfl) rfl rfl rfl ?_
  refine VS_nil ?_
  refine QS_then ?_
  refine TS_false rfl ?_
  refine TS_seq ?_
  refine TS_region ?_
  refine VS_pure (df (P_eql rfl rfl) (by omega)) rfl rfl rfl ?_
  refine VS_pure (P_assign rfl) rfl rfl rfl ?_
  refine VS_nil ?_
  refine QS_then ?_
  refine TS_false rfl ?_
  refine TS_seq ?_
  refine TS_region ?_
  refine VS_pure (df (P_eql rfl rfl) (by omega)) rfl rfl rfl ?_
  refine VS_pure (P_assign rfl) rfl rfl rfl ?_
  refine VS_nil ?_
  refine QS_then ?_
  refine TS_false rfl ?_
  refine TS_seq ?_
  refine TS_seq ?_
  refine TS_region ?_
  refine VS_pure (dt (P_eql rfl rfl) rfl) rfl rfl rfl ?_
  refine VS_pure (P_assign rfl) rfl rfl rfl ?_
  refine VS_nil ?_
  refine QS_then ?_
  refine TS_true rfl ?_
  refine TS_skip ?_
  refine QS_then ?_
  refine TS_true rfl ?_
  refine TS_region ?_
  refine VS_pure (P_move rfl) rfl rfl rfl ?_
  refine VS_pure (P_move rfl) rfl rfl rfl ?_
  refine VS_pure (P_nilCheck rfl) rfl rfl rfl ?_
  refine VS_pure (P_fieldAddr0 fo32_3 rfl) rfl rfl rfl ?_
  refine VS_step (S_callP cl46 rfl (.cons .here (.cons .here .nil)) (fun m' hm he => bytesR p2 (hr.mono hm) hb a1 ha1) rfl ?_ ?_) rfl
  · rintro v L' ⟨j, hk, rfl⟩
    refine QS_block_pan ?_
    exact QS_pan [] (Pick.nil _) ⟨j, by rw [pBody_65, hn]; show Res.bind (pText b a1) _ = _; rw [hk]; rfl, rfl⟩
  rintro v L' ⟨t, a2, A2, c2, ht, ha2, htl, rfl, rfl⟩
  try dsimp only
  refine VS_nil ?_
  refine QS_block ?_
  exact QS_retPN [] trivial [_, _, pack [_]] (Pick.trans (L2 := [_, _, _]) (.cons (.there (.there .here)) (.cons .here (.cons .here (.nil _)))) (Pick.trans Pick.pack1 (.cons (.there .here) (.cons (.there .here) (.cons .here (.nil _)))))) ⟨_, a2, _, _, by rw [pBody_65, hn]; show Res.bind (pText b a1) _ = _; rw [ht]; rfl, ha2, rfl, rfl, fun ns hi => ⟨_, _, _, _, _, rfl, BytesE.ofOwn (hi.1 _ List.mem_cons_self) htl, StrsE.z _, IntsE.z _, PairsE.z _, EvsE.z _, (show U8 65 from ⟨by decide, by decide⟩), hn64, Nat.zero_le _, noS, acn0_N, u8_0, i64_0⟩⟩
theorem pBody_67 (b : List UInt8) (a : Nat) : pBody 67 b a = (pNum b a).bind fun n a1 => (pText b a1).bind fun t a2 => .ok ⟨67, n, [], t, [], acn0, 0, 0, []⟩ a2 := rfl
set_option maxHeartbeats 8000000 in
theorem letR67 {m : Mp} {bc la : Nat} {v : Value} {A : Option Addr} {c : Nat} {b : List UInt8} (hr : Rd m A (b.map byteV)) (hb : b.length ≤ 1099511627776) : LC 67 bc la v m A c b := by
  intro at_ hat
  refine CSP_of [] Try.func25 rfl rfl rfl ?_
  unfold L0
  have p1 : Plc ⟨la, 1, none⟩ (fun v => cel la [.int .u8 67, v, sV [], .slice none 0 0, .slice none 0 0, .int .i8 0, iV 0, iV 0, iV 0, .slice none 0 0, .slice none 0 0, .int .u8 0, iV 0, .slice none 0 0] 32) := Plc.cel (i := 1) (l := L0 67) (by decide)
  refine TS_seq ?_
  refine TS_seq ?_
  refine TS_region ?_
  refine VS_pure (P_move rfl) rfl rfl rfl ?_
  refine VS_pure (P_nilCheck rfl) rfl rfl rfl ?_
  refine VS_pure (P_fieldAddr0 fo32_0 rfl) rfl rfl rfl ?_
  refine VS_read (S_loadB sg5 rfl (.there (.here)) rfl) rfl rfl rfl ?_
  refine VS_nil ?_
  refine QS_then ?_
  refine TS_block ?_
  refine TS_seq ?_
  refine TS_region ?_
  refine VS_pure (df (P_eql rfl rfl) (by omega)) rfl rfl rfl ?_
  refine VS_pure (P_assign rfl) rfl rfl rfl ?_
  refine VS_nil ?_
  refine QS_then ?_
  refine TS_false rfl ?_
  refine TS_seq ?_
  refine TS_region ?_
  refine VS_pure (df (P_eql rfl rfl) (by omega)) rfl rfl rfl ?_
  refine VS_pure (P_assign rfl) rfl rfl rfl ?_
  refine VS_nil ?_
  refine QS_then ?_
  refine TS_false rfl ?_
  refine TS_seq ?_
  refine TS_region ?_
  refine VS_pure (df (P_eql rfl rfl) (by omega)) rfl rfl rfl ?_
  refine VS_pure (P_assign rfl) rfl rfl rfl ?_
  refine VS_nil ?_
  refine QS_then ?_
  refine TS_false rfl ?_
  refine TS_skip ?_
  refine QS_block ?_
  refine QS_then ?_
  refine TS_seq ?_
  refine TS_region ?_
  refine VS_pure (P_move rfl) rfl rfl rfl ?_
  refine VS_pure (P_move rfl) rfl rfl rfl ?_
  refine VS_pure (P_nilCheck rfl) rfl rfl rfl ?_
  refine VS_pure (P_fieldAddr0 fo32_1 rfl) rfl rfl rfl ?_
  refine VS_step (S_callP cl47 rfl (.cons .here (.cons .here .nil)) (fun m' hm he => numR p1 (hr.mono hm) hb at_ hat) rfl ?_ ?_) rfl
  · rintro v L' ⟨j, hk, rfl⟩
    refine QS_then_pan ?_
    exact QS_pan [] (Pick.nil _) ⟨j, by rw [pBody_67, hk]; rfl, rfl⟩
  rintro v L' ⟨n, a1, hn, ha1, rfl, rfl⟩
  try dsimp only
  have hn64 := pNum_I64 hn
  have p2 : Plc ⟨la, 3, none⟩ (fun v => cel la [.int .u8 67, iV n, sV [], v, .slice none 0 0, .int .i8 0, iV 0, iV 0, iV 0, .slice none 0 0, .slice none 0 0, .int .u8 0, iV 0, .slice none 0 0] 32) := Plc.cel (i := 3) (l := [.int .u8 67, iV n, sV [], sV [], .slice none 0 0, .int .i8 0, iV 0, iV 0, iV 0, .slice none 0 0, .slice none 0 0, .int .u8 0, iV 0, .slice none 0 0]) (by show _ < 14; decide)
  refine VS_nil ?_
  refine QS_then ?_
  refine TS_seq ?_
  refine TS_region ?_
  refine VS_pure (P_move rfl) rfl rfl rfl ?_
  refine VS_pure (P_nilCheck rfl) rfl rfl rfl ?_
  refine VS_pure (P_fieldAddr0 fo32_0 rfl) rfl rfl rfl ?_
  refine VS_read (S_loadB sg5 rfl (.there (.here)) rfl) rfl rfl rfl ?_
  refine VS_nil ?_
  refine QS_then ?_
  refine TS_block ?_
  refine TS_seq ?_
  refine TS_region ?_
  refine VS_pure (df (P_eql rfl rfl) (by omega)) rfl rfl rfl ?_
  refine VS_pure (P_assign rfl) rfl rfl rfl ?_
  refine VS_nil ?_
  refine QS_then ?_
  refine TS_false rfl ?_
  refine TS_seq ?_
  refine TS_region ?_
  refine VS_pure (df (P_eql rfl rfl) (by omega)) rfl rfl rfl ?_
  refine VS_pure (P_assign rfl) rfl rfl rfl ?_
  refine VS_nil ?_
  refine QS_then ?_
  refine TS_false rfl ?_
  refine TS_seq ?_
  refine TS_region ?_
  refine VS_pure (df (P_eql rfl rfl) (by omega)) rfl rfl rfl ?_
  refine VS_pure (P_assign rfl) rfl rfl rfl ?_
  refine VS_nil ?_
  refine QS_then ?_
  refine TS_false rfl ?_
  refine TS_seq ?_
  refine TS_seq ?_
  refine TS_region ?_
  refine VS_pure (df (P_eql rfl rfl) (by omega)) rfl rfl rfl ?_
  refine VS_pure (P_assign rfl) rfl rfl rfl ?_
  refine VS_nil ?_
  refine QS_then ?_
  refine TS_false rfl ?_
  refine TS_region ?_
  refine VS_pure (dt (P_eql rfl rfl) rfl) rfl rfl rfl ?_
  refine VS_pure (P_assign rfl) rfl rfl rfl ?_
  refine VS_nil ?_
  refine QS_then ?_
  refine TS_true rfl ?_
  refine TS_region ?_
  refine VS_pure (P_move rfl) rfl rfl rfl ?_
  refine VS_pure (P_move rfl) rfl rfl rfl ?_
  refine VS_pure (P_nilCheck rfl) rfl rfl rfl ?_
  refine VS_pure (P_fieldAddr0 fo32_3 rfl) rfl rfl rfl ?_
  refine VS_step (S_callP cl46 rfl (.cons .here (.cons .here .nil)) (fun m' hm he => bytesR p2 (hr.mono hm) hb a1 ha1) rfl ?_ ?_) rfl
  · rintro v L' ⟨j, hk, rfl⟩
    refine QS_block_pan ?_
    exact QS_pan [] (Pick.nil _) ⟨j, by rw [pBody_67, hn]; show Res.bind (pText b a1) _ = _; rw [hk]; rfl, rfl⟩
  rintro v L' ⟨t, a2, A2, c2, ht, ha2, htl, rfl, rfl⟩
  try dsimp only
  refine VS_nil ?_
  refine QS_block ?_
  exact QS_retPN [] trivial [_, _, pack [_]] (Pick.trans (L2 := [_, _, _]) (.cons (.there (.there .here)) (.cons .here (.cons .here (.nil _)))) (Pick.trans Pick.pack1 (.cons (.there .here) (.cons (.there .here) (.cons .here (.nil _)))))) ⟨_, a2, _, _, by rw [pBody_67, hn]; show Res.bind (pText b a1) _ = _; rw [ht]; rfl, ha2, rfl, rfl, fun ns hi => ⟨_, _, _, _, _, rfl, BytesE.ofOwn (hi.1 _ List.mem_cons_self) htl, StrsE.z _, IntsE.z _, PairsE.z _, EvsE.z _, (show U8 67 from ⟨by decide, by decide⟩), hn64, Nat.zero_le _, noS, acn0_N, u8_0, i64_0⟩⟩
theorem pBody_66 (b : List UInt8) (a : Nat) : pBody 66 b a = (pNum b a).bind fun n a1 => (pMany 43 pEvt b a1).bind fun t a2 => .ok ⟨66, n, [], [], [], acn0, 0, 0, t⟩ a2 := rfl
set_option maxHeartbeats 8000000 in
theorem letR66 {m : Mp} {bc la : Nat} {v : Value} {A : Option Addr} {c : Nat} {b : List UInt8} (hr : Rd m A (b.map byteV)) (hb : b.length ≤ 1099511627776) : LC 66 bc la v m A c b := by
  intro at_ hat
  refine CSP_of [] Try.func25 rfl rfl rfl ?_
  unfold L0
  have p1 : Plc ⟨la, 1, none⟩ (fun v => cel la [.int .u8 66, v, sV [], .slice none 0 0, .slice none 0 0, .int .i8 0, iV 0, iV 0, iV 0, .slice none 0 0, .slice none 0 0, .int .u8 0, iV 0, .slice none 0 0] 32) := Plc.cel (i := 1) (l := L0 66) (by decide)
  refine TS_seq ?_
  refine TS_seq ?_
  refine TS_region ?_
  refine VS_pure (P_move rfl) rfl rfl rfl ?_
  refine VS_pure (P_nilCheck rfl) rfl rfl rfl ?_
  refine VS_pure (P_fieldAddr0 fo32_0 rfl) rfl rfl rfl ?_
  refine VS_read (S_loadB sg5 rfl (.there (.here)) rfl) rfl rfl rfl ?_
  refine VS_nil ?_
  refine QS_then ?_
  refine TS_block ?_
  refine TS_seq ?_
  refine TS_region ?_
  refine VS_pure (df (P_eql rfl rfl) (by omega)) rfl rfl rfl ?_
  refine VS_pure (P_assign rfl) rfl rfl rfl ?_
  refine VS_nil ?_
  refine QS_then ?_
  refine TS_false rfl ?_
  refine TS_seq ?_
  refine TS_region ?_
  refine VS_pure (df (P_eql rfl rfl) (by omega)) rfl rfl rfl ?_
  refine VS_pure (P_assign rfl) rfl rfl rfl ?_
  refine VS_nil ?_
  refine QS_then ?_
  refine TS_false rfl ?_
  refine TS_seq ?_
  refine TS_region ?_
  refine VS_pure (df (P_eql rfl rfl) (by omega)) rfl rfl rfl ?_
  refine VS_pure (P_assign rfl) rfl rfl rfl ?_
  refine VS_nil ?_
  refine QS_then ?_
  refine TS_false rfl ?_
  refine TS_skip ?_
  refine QS_block ?_
  refine QS_then ?_
  refine TS_seq ?_
  refine TS_region ?_
  refine VS_pure (P_move rfl) rfl rfl rfl ?_
  refine VS_pure (P_move rfl) rfl rfl rfl ?_
  refine VS_pure (P_nilCheck rfl) rfl rfl rfl ?_
  refine VS_pure (P_fieldAddr0 fo32_1 rfl) rfl rfl rfl ?_
  refine VS_step (S_callP cl47 rfl (.cons .here (.cons .here .nil)) (fun m' hm he => numR p1 (hr.mono hm) hb at_ hat) rfl ?_ ?_) rfl
  · rintro v L' ⟨j, hk, rfl⟩
    refine QS_then_pan ?_
    exact QS_pan [] (Pick.nil _) ⟨j, by rw [pBody_66, hk]; rfl, rfl⟩
  rintro v L' ⟨n, a1, hn, ha1, rfl, rfl⟩
  try dsimp only
  have hn64 := pNum_I64 hn
  have p2 : Plc ⟨la, 13, none⟩ (fun v => cel la [.int .u8 66, iV n, sV [], .slice none 0 0, .slice none 0 0, .int .i8 0, iV 0, iV 0, iV 0, .slice none 0 0, .slice none 0 0, .int .u8 0, iV 0, v] 32) := Plc.cel (i := 13) (l := [.int .u8 66, iV n, sV [], .slice none 0 0, .slice none 0 0, .int .i8 0, iV 0, iV 0, iV 0, .slice none 0 0, .slice none 0 0, .int .u8 0, iV 0, sV []]) (by show _ < 14; decide)
  refine VS_nil ?_
  refine QS_then ?_
  refine TS_seq ?_
  refine TS_region ?_
  refine VS_pure (P_move rfl) rfl rfl rfl ?_
  refine VS_pure (P_nilCheck rfl) rfl rfl rfl ?_
  refine VS_pure (P_fieldAddr0 fo32_0 rfl) rfl rfl rfl ?_
  refine VS_read (S_loadB sg5 rfl (.there (.here)) rfl) rfl rfl rfl ?_
  refine VS_nil ?_
  refine QS_then ?_
  refine TS_block ?_
  refine TS_seq ?_
  refine TS_region ?_
  refine VS_pure (df (P_eql rfl rfl) (by omega)) rfl rfl rfl ?_
  refine VS_pure (P_assign rfl) rfl rfl rfl ?_
  refine VS_nil ?_
  refine QS_then ?_
  refine TS_false rfl ?_
  refine TS_seq ?_
  refine TS_region ?_
  refine VS_pure (df (P_eql rfl rfl) (by omega)) rfl rfl rfl ?_
  refine VS_pure (P_assign rfl) rfl rfl rfl ?_
  refine VS_nil ?_
  refine QS_then ?_
  refine TS_false rfl ?_
  refine TS_seq ?_
  refine TS_region ?_
  refine VS_pure (df (P_eql rfl rfl) (by omega)) rfl rfl rfl ?_
  refine VS_pure (P_assign rfl) rfl rfl rfl ?_
  refine VS_nil ?_
  refine QS_then ?_
  refine TS_false rfl ?_
  refine TS_seq ?_
  refine TS_seq ?_
  refine TS_region ?_
  refine VS_pure (df (P_eql rfl rfl) (by omega)) rfl rfl rfl ?_
  refine VS_pure (P_assign rfl) rfl rfl rfl ?_
  refine VS_nil ?_
  refine QS_then ?_
  refine TS_false rfl ?_
  refine TS_region ?_
  refine VS_pure (df (P_eql rfl rfl) (by omega)) rfl rfl rfl ?_
  refine VS_pure (P_assign rfl) rfl rfl rfl ?_
  refine VS_nil ?_
  refine QS_then ?_
  refine TS_false rfl ?_
  refine TS_seq ?_
  refine TS_region ?_
  refine VS_pure (dt (P_eql rfl rfl) rfl) rfl rfl rfl ?_
  refine VS_pure (P_assign rfl) rfl rfl rfl ?_
  refine VS_nil ?_
  refine QS_then ?_
  refine TS_true rfl ?_
  refine TS_region ?_
  refine VS_pure (P_move rfl) rfl rfl rfl ?_
  refine VS_pure (P_move rfl) rfl rfl rfl ?_
  refine VS_pure (P_nilCheck rfl) rfl rfl rfl ?_
  refine VS_pure (P_fieldAddr0 fo32_8 rfl) rfl rfl rfl ?_
  refine VS_pure (P_move rfl) rfl rfl rfl ?_
  refine VS_pure (P_makeFunc rfl rfl) rfl rfl rfl ?_
  refine VS_step (S_callP cl51 rfl (.cons .here (.cons .here .nil)) (fun m' hm he => evtsMR p2 (hr.mono hm) hb a1 ha1) rfl ?_ ?_) rfl
  · rintro v L' ⟨j, hk, rfl⟩
    refine QS_block_pan ?_
    exact QS_pan [] (Pick.nil _) ⟨j, by rw [pBody_66, hn]; show Res.bind (pMany 43 pEvt b a1) _ = _; rw [hk]; rfl, rfl⟩
  rintro v L' ⟨t, a2, A2, c2, ht, ha2, htl, htc, rfl, rfl⟩
  try dsimp only
  refine VS_nil ?_
  refine QS_block ?_
  have htq := pMany_all (Q := fun x => EvtN x) (fun _ _ _ h => (pEvt_N h).1) ht
  have htq2 : ∀ s ∈ t, EvtN s.1 := fun s hs => htq _ (List.mem_map.2 ⟨s, hs, rfl⟩)
  exact QS_retPN [] trivial [_, _, pack [_, _]] (Pick.trans (L2 := [_, _, _, _]) (.cons (.there (.there .here)) (.cons (.there (.there .here)) (.cons .here (.cons .here (.nil _))))) (Pick.trans Pick.pack2 (.cons (.there .here) (.cons (.there .here) (.cons .here (.nil _)))))) ⟨_, a2, _, _, by rw [pBody_66, hn]; show Res.bind (pMany 43 pEvt b a1) _ = _; rw [ht]; rfl, ha2, rfl, rfl, fun ns hi => ⟨_, _, _, _, _, rfl, BytesE.z _, StrsE.z _, IntsE.z _, PairsE.z _, EvsE.ofOwn (hi.1 _ List.mem_cons_self) (hi.1 _ (List.mem_cons_of_mem _ List.mem_cons_self)) htl htc htq2, (show U8 66 from ⟨by decide, by decide⟩), hn64, Nat.zero_le _, noS, acn0_N, u8_0, i64_0⟩⟩
theorem pBody_4 (b : List UInt8) (a : Nat) : pBody 4 b a = (pNum b a).bind fun n a1 => (pAct b a1).bind fun t a2 => .ok ⟨4, n, [], [], [], t, 0, 0, []⟩ a2 := rfl
set_option maxHeartbeats 8000000 in
theorem letR4 {m : Mp} {bc la : Nat} {v : Value} {A : Option Addr} {c : Nat} {b : List UInt8} (hr : Rd m A (b.map byteV)) (hb : b.length ≤ 1099511627776) : LC 4 bc la v m A c b := by
  intro at_ hat
  refine CSP_of [] Try.func25 rfl rfl rfl ?_
  unfold L0
  have p1 : Plc ⟨la, 1, none⟩ (fun v => cel la [.int .u8 4, v, sV [], .slice none 0 0, .slice none 0 0, .int .i8 0, iV 0, iV 0, iV 0, .slice none 0 0, .slice none 0 0, .int .u8 0, iV 0, .slice none 0 0] 32) := Plc.cel (i := 1) (l := L0 4) (by decide)
  refine TS_seq ?_
  refine TS_seq ?_
  refine TS_region ?_
  refine VS_pure (P_move rfl) rfl rfl rfl ?_
  refine VS_pure (P_nilCheck rfl) rfl rfl rfl ?_
  refine VS_pure (P_fieldAddr0 fo32_0 rfl) rfl rfl rfl ?_
  refine VS_read (S_loadB sg5 rfl (.there (.here)) rfl) rfl rfl rfl ?_
  refine VS_nil ?_
  refine QS_then ?_
  refine TS_block ?_
  refine TS_seq ?_
  refine TS_region ?_
  refine VS_pure (df (P_eql rfl rfl) (by omega)) rfl rfl rfl ?_
  refine VS_pure (P_assign rfl) rfl rfl rfl ?_
  refine VS_nil ?_
  refine QS_then ?_
  refine TS_false rfl ?_
  refine TS_seq ?_
  refine TS_region ?_
  refine VS_pure (df (P_eql rfl rfl) (by omega)) rfl rfl rfl ?_
  refine VS_pure (P_assign rfl) rfl rfl rfl ?_
  refine VS_nil ?_
  refine QS_then ?_
  refine TS_false rfl ?_
  refine TS_seq ?_
  refine TS_region ?_
  refine VS_pure (df (P_eql rfl rfl) (by omega)) rfl rfl rfl ?_
  refine VS_pure (P_assign rfl) rfl rfl rfl ?_
  refine VS_nil ?_
  refine QS_then ?_
  refine TS_false rfl ?_
  refine TS_skip ?_
  refine QS_block ?_
  refine QS_then ?_
  refine TS_seq ?_
  refine TS_region ?_
  refine VS_pure (P_move rfl) rfl rfl rfl ?_
  refine VS_pure (P_move rfl) rfl rfl rfl ?_
  refine VS_pure (P_nilCheck rfl) rfl rfl rfl ?_
  refine VS_pure (P_fieldAddr0 fo32_1 rfl) rfl rfl rfl ?_
  refine VS_step (S_callP cl47 rfl (.cons .here (.cons .here .nil)) (fun m' hm he => numR p1 (hr.mono hm) hb at_ hat) rfl ?_ ?_) rfl
  · rintro v L' ⟨j, hk, rfl⟩
    refine QS_then_pan ?_
    exact QS_pan [] (Pick.nil _) ⟨j, by rw [pBody_4, hk]; rfl, rfl⟩
  rintro v L' ⟨n, a1, hn, ha1, rfl, rfl⟩
  try dsimp only
  have hn64 := pNum_I64 hn
  have p2 : PlcN ⟨la, 5, none⟩ (fun w => cel la (.int .u8 4 :: iV n :: sV [] :: .slice none 0 0 :: .slice none 0 0 :: (w ++ [.int .u8 0, iV 0, .slice none 0 0])) 32) 6 := PlcN.cel (o := 5) (q := 6) (l := [.int .u8 4, iV n, sV [], .slice none 0 0, .slice none 0 0, .int .i8 0, iV 0, iV 0, iV 0, .slice none 0 0, .slice none 0 0, .int .u8 0, iV 0, .slice none 0 0]) (by show _ ≤ 14; decide)
  refine VS_nil ?_
  refine QS_then ?_
  refine TS_seq ?_
  refine TS_region ?_
  refine VS_pure (P_move rfl) rfl rfl rfl ?_
  refine VS_pure (P_nilCheck rfl) rfl rfl rfl ?_
  refine VS_pure (P_fieldAddr0 fo32_0 rfl) rfl rfl rfl ?_
  refine VS_read (S_loadB sg5 rfl (.there (.here)) rfl) rfl rfl rfl ?_
  refine VS_nil ?_
  refine QS_then ?_
  refine TS_block ?_
  refine TS_seq ?_
  refine TS_region ?_
  refine VS_pure (df (P_eql rfl rfl) (by omega)) rfl rfl rfl ?_
  refine VS_pure (P_assign rfl) rfl rfl rfl ?_
  refine VS_nil ?_
  refine QS_then ?_
  refine TS_false rfl ?_
  refine TS_seq ?_
  refine TS_region ?_
  refine VS_pure (df (P_eql rfl rfl) (by omega)) rfl rfl rfl ?_
  refine VS_pure (P_assign rfl) rfl rfl rfl ?_
  refine VS_nil ?_
  refine QS_then ?_
  refine TS_false rfl ?_
  refine TS_seq ?_
  refine TS_region ?_
  refine VS_pure (dt (P_eql rfl rfl) rfl) rfl rfl rfl ?_
  refine VS_pure (P_assign rfl) rfl rfl rfl ?_
  refine VS_nil ?_
  refine QS_then ?_
  refine TS_true rfl ?_
  refine TS_region ?_
  refine VS_pure (P_move rfl) rfl rfl rfl ?_
  refine VS_pure (P_move rfl) rfl rfl rfl ?_
  refine VS_pure (P_nilCheck rfl) rfl rfl rfl ?_
  refine VS_pure (P_fieldAddr0 fo32_5 rfl) rfl rfl rfl ?_
  refine VS_step (S_callP cl50 rfl (.cons .here (.cons .here .nil)) (fun m' hm he => actR p2 (hr.mono hm) hb a1 ha1) rfl ?_ ?_) rfl
  · rintro v L' ⟨j, hk, rfl⟩
    refine QS_block_pan ?_
    exact QS_pan [] (Pick.nil _) ⟨j, by rw [pBody_4, hn]; show Res.bind (pAct b a1) _ = _; rw [hk]; rfl, rfl⟩
  rintro v L' ⟨t, a2, Ai, ci, Ap, cp, ht, ha2, hil, hpl, rfl, rfl⟩
  try dsimp only
  refine VS_nil ?_
  refine QS_block ?_
  obtain ⟨hN, hi64, hp64, _⟩ := pAct_N ht
  exact QS_retPN [] trivial [_, _, pack [_, _]] (Pick.trans (L2 := [_, _, _, _]) (.cons (.there (.there .here)) (.cons (.there (.there .here)) (.cons .here (.cons .here (.nil _))))) (Pick.trans Pick.pack2 (.cons (.there .here) (.cons (.there .here) (.cons .here (.nil _)))))) ⟨_, a2, _, _, by rw [pBody_4, hn]; show Res.bind (pAct b a1) _ = _; rw [ht]; rfl, ha2, rfl, rfl, fun ns hi => ⟨_, _, _, _, _, rfl, BytesE.z _, StrsE.z _, IntsE.ofOwn (hi.1 _ List.mem_cons_self) hil hi64, PairsE.ofOwn (hi.1 _ (List.mem_cons_of_mem _ List.mem_cons_self)) hpl hp64, EvsE.z _, (show U8 4 from ⟨by decide, by decide⟩), hn64, Nat.zero_le _, noS, hN, u8_0, i64_0⟩⟩
theorem pBody_5 (b : List UInt8) (a : Nat) : pBody 5 b a = (pNum b a).bind fun n a1 => .ok ⟨5, n, [], [], [], acn0, 0, 0, []⟩ a1 := rfl
set_option maxHeartbeats 8000000 in
theorem letR5 {m : Mp} {bc la : Nat} {v : Value} {A : Option Addr} {c : Nat} {b : List UInt8} (hr : Rd m A (b.map byteV)) (hb : b.length ≤ 1099511627776) : LC 5 bc la v m A c b := by
  intro at_ hat
  refine CSP_of [] Try.func25 rfl rfl rfl ?_
  unfold L0
  have p1 : Plc ⟨la, 1, none⟩ (fun v => cel la [.int .u8 5, v, sV [], .slice none 0 0, .slice none 0 0, .int .i8 0, iV 0, iV 0, iV 0, .slice none 0 0, .slice none 0 0, .int .u8 0, iV 0, .slice none 0 0] 32) := Plc.cel (i := 1) (l := L0 5) (by decide)
  refine TS_seq ?_
  refine TS_seq ?_
  refine TS_region ?_
  refine VS_pure (P_move rfl) rfl rfl rfl ?_
  refine VS_pure (P_nilCheck rfl) rfl rfl rfl ?_
  refine VS_pure (P_fieldAddr0 fo32_0 rfl) rfl rfl rfl ?_
  refine VS_read (S_loadB sg5 rfl (.there (.here)) rfl) rfl rfl rfl ?_
  refine VS_nil ?_
  refine QS_then ?_
  refine TS_block ?_
  refine TS_seq ?_
  refine TS_region ?_
  refine VS_pure (df (P_eql rfl rfl) (by omega)) rfl rfl rfl ?_
  refine VS_pure (P_assign rfl) rfl rfl rfl ?_
  refine VS_nil ?_
  refine QS_then ?_
  refine TS_false rfl ?_
  refine TS_seq ?_
  refine TS_region ?_
  refine VS_pure (df (P_eql rfl rfl) (by omega)) rfl rfl rfl ?_
  refine VS_pure (P_assign rfl) rfl rfl rfl ?_
  refine VS_nil ?_
  refine QS_then ?_
  refine TS_false rfl ?_
  refine TS_seq ?_
  refine TS_region ?_
  refine VS_pure (df (P_eql rfl rfl) (by omega)) rfl rfl rfl ?_
  refine VS_pure (P_assign rfl) rfl rfl rfl ?_
  refine VS_nil ?_
  refine QS_then ?_
  refine TS_false rfl ?_
  refine TS_skip ?_
  refine QS_block ?_
  refine QS_then ?_
  refine TS_seq ?_
  refine TS_region ?_
  refine VS_pure (P_move rfl) rfl rfl rfl ?_
  refine VS_pure (P_move rfl) rfl rfl rfl ?_
  refine VS_pure (P_nilCheck rfl) rfl rfl rfl ?_
  refine VS_pure (P_fieldAddr0 fo32_1 rfl) rfl rfl rfl ?_
  refine VS_step (S_callP cl47 rfl (.cons .here (.cons .here .nil)) (fun m' hm he => numR p1 (hr.mono hm) hb at_ hat) rfl ?_ ?_) rfl
  · rintro v L' ⟨j, hk, rfl⟩
    refine QS_then_pan ?_
    exact QS_pan [] (Pick.nil _) ⟨j, by rw [pBody_5, hk]; rfl, rfl⟩
  rintro v L' ⟨n, a1, hn, ha1, rfl, rfl⟩
  try dsimp only
  have hn64 := pNum_I64 hn
  refine VS_nil ?_
  refine QS_then ?_
  refine TS_seq ?_
  refine TS_region ?_
  refine VS_pure (P_move rfl) rfl rfl rfl ?_
  refine VS_pure (P_nilCheck rfl) rfl rfl rfl ?_
  refine VS_pure (P_fieldAddr0 fo32_0 rfl) rfl rfl rfl ?_
  refine VS_read (S_loadB sg5 rfl (.there (.here)) rfl) rfl rfl rfl ?_
  refine VS_nil ?_
  refine QS_then ?_
  refine TS_block ?_
  refine TS_seq ?_
  refine TS_region ?_
  refine VS_pure (df (P_eql rfl rfl) (by omega)) rfl rfl rfl ?_
  refine VS_pure (P_assign rfl) rfl rfl rfl ?_
  refine VS_nil ?_
  refine QS_then ?_
  refine TS_false rfl ?_
  refine TS_seq ?_
  refine TS_region ?_
  refine VS_pure (df (P_eql rfl rfl) (by omega)) rfl rfl rfl ?_
  refine VS_pure (P_assign rfl) rfl rfl rfl ?_
  refine VS_nil ?_
  refine QS_then ?_
  refine TS_false rfl ?_
  refine TS_seq ?_
  refine TS_region ?_
  refine VS_pure (df (P_eql rfl rfl) (by omega)) rfl rfl rfl ?_
  refine VS_pure (P_assign rfl) rfl rfl rfl ?_
  refine VS_nil ?_
  refine QS_then ?_
  refine TS_false rfl ?_
  refine TS_seq ?_
  refine TS_seq ?_
  refine TS_region ?_
  refine VS_pure (df (P_eql rfl rfl) (by omega)) rfl rfl rfl ?_
  refine VS_pure (P_assign rfl) rfl rfl rfl ?_
  refine VS_nil ?_
  refine QS_then ?_
  refine TS_false rfl ?_
  refine TS_region ?_
  refine VS_pure (df (P_eql rfl rfl) (by omega)) rfl rfl rfl ?_
  refine VS_pure (P_assign rfl) rfl rfl rfl ?_
  refine VS_nil ?_
  refine QS_then ?_
  refine TS_false rfl ?_
  refine TS_seq ?_
  refine TS_region ?_
  refine VS_pure (df (P_eql rfl rfl) (by omega)) rfl rfl rfl ?_
  refine VS_pure (P_assign rfl) rfl rfl rfl ?_
  refine VS_nil ?_
  refine QS_then ?_
  refine TS_false rfl ?_
  refine TS_skip ?_
  refine QS_block ?_
  exact QS_retPN [] trivial [_, _, pack []] (Pick.trans Pick.pack0 (.cons (.there .here) (.cons (.there .here) (.cons .here (.nil _))))) ⟨_, a1, _, _, by rw [pBody_5, hn]; rfl, ha1, rfl, rfl, fun ns hi => ⟨_, _, _, _, _, rfl, BytesE.z _, StrsE.z _, IntsE.z _, PairsE.z _, EvsE.z _, (show U8 5 from ⟨by decide, by decide⟩), hn64, Nat.zero_le _, noS, acn0_N, u8_0, i64_0⟩⟩
theorem pBody_6 (b : List UInt8) (a : Nat) : pBody 6 b a = (pNum b a).bind fun n a1 => .ok ⟨6, n, [], [], [], acn0, 0, 0, []⟩ a1 := rfl
set_option maxHeartbeats 8000000 in
theorem letR6 {m : Mp} {bc la : Nat} {v : Value} {A : Option Addr} {c : Nat} {b : List UInt8} (hr : Rd m A (b.map byteV)) (hb : b.length ≤ 1099511627776) : LC 6 bc la v m A c b := by
  intro at_ hat
  refine CSP_of [] Try.func25 rfl rfl rfl ?_
  unfold L0
  have p1 : Plc ⟨la, 1, none⟩ (fun v => cel la [.int .u8 6, v, sV [], .slice none 0 0, .slice none 0 0, .int .i8 0, iV 0, iV 0, iV 0, .slice none 0 0, .slice none 0 0, .int .u8 0, iV 0, .slice none 0 0] 32) := Plc.cel (i := 1) (l := L0 6) (by decide)
  refine TS_seq ?_
  refine TS_seq ?_
  refine TS_region ?_
  refine VS_pure (P_move rfl) rfl rfl rfl ?_
  refine VS_pure (P_nilCheck rfl) rfl rfl rfl ?_
  refine VS_pure (P_fieldAddr0 fo32_0 rfl) rfl rfl rfl ?_
  refine VS_read (S_loadB sg5 rfl (.there (.here)) rfl) rfl rfl rfl ?_
  refine VS_nil ?_
  refine QS_then ?_
  refine TS_block ?_
  refine TS_seq ?_
  refine TS_region ?_
  refine VS_pure (df (P_eql rfl rfl) (by omega)) rfl rfl rfl ?_
  refine VS_pure (P_assign rfl) rfl rfl rfl ?_
  refine VS_nil ?_
  refine QS_then ?_
  refine TS_false rfl ?_
  refine TS_seq ?_
  refine TS_region ?_
  refine VS_pure (df (P_eql rfl rfl) (by omega)) rfl rfl rfl ?_
  refine VS_pure (P_assign rfl) rfl rfl rfl ?_
  refine VS_nil ?_
  refine QS_then ?_
  refine TS_false rfl ?_
  refine TS_seq ?_
  refine TS_region ?_
  refine VS_pure (df (P_eql rfl rfl) (by omega)) rfl rfl rfl ?_
  refine VS_pure (P_assign rfl) rfl rfl rfl ?_
  refine VS_nil ?_
  refine QS_then ?_
  refine TS_false rfl ?_
  refine TS_skip ?_
  refine QS_block ?_
  refine QS_then ?_
  refine TS_seq ?_
  refine TS_region ?_
  refine VS_pure (P_move rfl) rfl rfl rfl ?_
  refine VS_pure (P_move rfl) rfl rfl rfl ?_
  refine VS_pure (P_nilCheck rfl) rfl rfl rfl ?_
  refine VS_pure (P_fieldAddr0 fo32_1 rfl) rfl rfl rfl ?_
  refine VS_step (S_callP cl47 rfl (.cons .here (.cons .here .nil)) (fun m' hm he => numR p1 (hr.mono hm) hb at_ hat) rfl ?_ ?_) rfl
  · rintro v L' ⟨j, hk, rfl⟩
    refine QS_then_pan ?_
    exact QS_pan [] (Pick.nil _) ⟨j, by rw [pBody_6, hk]; rfl, rfl⟩
  rintro v L' ⟨n, a1, hn, ha1, rfl, rfl⟩
  try dsimp only
  have hn64 := pNum_I64 hn
  refine VS_nil ?_
  refine QS_then ?_
  refine TS_seq ?_
  refine TS_region ?_
  refine VS_pure (P_move rfl) rfl rfl rfl ?_
  refine VS_pure (P_nilCheck rfl) rfl rfl rfl ?_
  refine VS_pure (P_fieldAddr0 fo32_0 rfl) rfl rfl rfl ?_
  refine VS_read (S_loadB sg5 rfl (.there (.here)) rfl) rfl rfl rfl ?_
  refine VS_nil ?_
  refine QS_then ?_
  refine TS_block ?_
  refine TS_seq ?_
  refine TS_region ?_
  refine VS_pure (df (P_eql rfl rfl) (by omega)) rfl rfl rfl ?_
  refine VS_pure (P_assign rfl) rfl rfl rfl ?_
  refine VS_nil ?_
  refine QS_then ?_
  refine TS_false rfl ?_
  refine TS_seq ?_
  refine TS_region ?_
  refine VS_pure (df (P_eql rfl rfl) (by omega)) rfl rfl rfl ?_
  refine VS_pure (P_assign rfl) rfl rfl rfl ?_
  refine VS_nil ?_
  refine QS_then ?_
  refine TS_false rfl ?_
  refine TS_seq ?_
  refine TS_region ?_
  refine VS_pure (df (P_eql rfl rfl) (by omega)) rfl rfl rfl ?_
  refine VS_pure (P_assign rfl) rfl rfl rfl ?_
  refine VS_nil ?_
  refine QS_then ?_
  refine TS_false rfl ?_
  refine TS_seq ?_
  refine TS_seq ?_
  refine TS_region ?_
  refine VS_pure (df (P_eql rfl rfl) (by omega)) rfl rfl rfl ?_
  refine VS_pure (P_assign rfl) rfl rfl rfl ?_
  refine VS_nil ?_
  refine QS_then ?_
  refine TS_false rfl ?_
  refine TS_region ?_
  refine VS_pure (df (P_eql rfl rfl) (by omega)) rfl rfl rfl ?_
  refine VS_pure (P_assign rfl) rfl rfl rfl ?_
  refine VS_nil ?_
  refine QS_then ?_
  refine TS_false rfl ?_
  refine TS_seq ?_
  refine TS_region ?_
  refine VS_pure (df (P_eql rfl rfl) (by omega)) rfl rfl rfl ?_
  refine VS_pure (P_assign rfl) rfl rfl rfl ?_
  refine VS_nil ?_
  refine QS_then ?_
  refine TS_false rfl ?_
  refine TS_skip ?_
  refine QS_block ?_
  exact QS_retPN [] trivial [_, _, pack []] (Pick.trans Pick.pack0 (.cons (.there .here) (.cons (.there .here) (.cons .here (.nil _))))) ⟨_, a1, _, _, by rw [pBody_6, hn]; rfl, ha1, rfl, rfl, fun ns hi => ⟨_, _, _, _, _, rfl, BytesE.z _, StrsE.z _, IntsE.z _, PairsE.z _, EvsE.z _, (show U8 6 from ⟨by decide, by decide⟩), hn64, Nat.zero_le _, noS, acn0_N, u8_0, i64_0⟩⟩
theorem pBody_7 (b : List UInt8) (a : Nat) : pBody 7 b a = (pNum b a).bind fun n a1 => .ok ⟨7, n, [], [], [], acn0, 0, 0, []⟩ a1 := rfl
set_option maxHeartbeats 8000000 in
theorem letR7 {m : Mp} {bc la : Nat} {v : Value} {A : Option Addr} {c : Nat} {b : List UInt8} (hr : Rd m A (b.map byteV)) (hb : b.length ≤ 1099511627776) : LC 7 bc la v m A c b := by
  intro at_ hat
  refine CSP_of [] Try.func25 rfl rfl rfl ?_
  unfold L0
  have p1 : Plc ⟨la, 1, none⟩ (fun v => cel la [.int .u8 7, v, sV [], .slice none 0 0, .slice none 0 0, .int .i8 0, iV 0, iV 0, iV 0, .slice none 0 0, .slice none 0 0, .int .u8 0, iV 0, .slice none 0 0] 32) := Plc.cel (i := 1) (l := L0 7) (by decide)
  refine TS_seq ?_
  refine TS_seq ?_
  refine TS_region ?_
  refine VS_pure (P_move rfl) rfl rfl rfl ?_
  refine VS_pure (P_nilCheck rfl) rfl rfl rfl ?_
  refine VS_pure (P_fieldAddr0 fo32_0 rfl) rfl rfl rfl ?_
  refine VS_read (S_loadB sg5 rfl (.there (.here)) rfl) rfl rfl rfl ?_
  refine VS_nil ?_
  refine QS_then ?_
  refine TS_block ?_
  refine TS_seq ?_
  refine TS_region ?_
  refine VS_pure (df (P_eql rfl rfl) (by omega)) rfl rfl rfl ?_
  refine VS_pure (P_assign rfl) rfl rfl rfl ?_
  refine VS_nil ?_
  refine QS_then ?_
  refine TS_false rfl ?_
  refine TS_seq ?_
  refine TS_region ?_
  refine VS_pure (df (P_eql rfl rfl) (by omega)) rfl rfl rfl ?_
  refine VS_pure (P_assign rfl) rfl rfl rfl ?_
  refine VS_nil ?_
  refine QS_then ?_
  refine TS_false rfl ?_
  refine TS_seq ?_
  refine TS_region ?_
  refine VS_pure (df (P_eql rfl rfl) (by omega)) rfl rfl rfl ?_
  refine VS_pure (P_assign rfl) rfl rfl rfl ?_
  refine VS_nil ?_
  refine QS_then ?_
  refine TS_false rfl ?_
  refine TS_skip ?_
  refine QS_block ?_
  refine QS_then ?_
  refine TS_seq ?_
  refine TS_region ?_
  refine VS_pure (P_move rfl) rfl rfl rfl ?_
  refine VS_pure (P_move rfl) rfl rfl rfl ?_
  refine VS_pure (P_nilCheck rfl) rfl rfl rfl ?_
  refine VS_pure (P_fieldAddr0 fo32_1 rfl) rfl rfl rfl ?_
  refine VS_step (S_callP cl47 rfl (.cons .here (.cons .here .nil)) (fun m' hm he => numR p1 (hr.mono hm) hb at_ hat) rfl ?_ ?_) rfl
  · rintro v L' ⟨j, hk, rfl⟩
    refine QS_then_pan ?_
    exact QS_pan [] (Pick.nil _) ⟨j, by rw [pBody_7, hk]; rfl, rfl⟩
  rintro v L' ⟨n, a1, hn, ha1, rfl, rfl⟩
  try dsimp only
  have hn64 := pNum_I64 hn
  refine VS_nil ?_
  refine QS_then ?_
  refine TS_seq ?_
  refine TS_region ?_
  refine VS_pure (P_move rfl) rfl rfl rfl ?_
  refine VS_pure (P_nilCheck rfl) rfl rfl rfl ?_
  refine VS_pure (P_fieldAddr0 fo32_0 rfl) rfl rfl rfl ?_
  refine VS_read (S_loadB sg5 rfl (.there (.here)) rfl) rfl rfl rfl ?_
  refine VS_nil ?_
  refine QS_then ?_
  refine TS_block ?_
  refine TS_seq ?_
  refine TS_region ?_
  refine VS_pure (df (P_eql rfl rfl) (by omega)) rfl rfl rfl ?_
  refine VS_pure (P_assign rfl) rfl rfl rfl ?_
  refine VS_nil ?_
  refine QS_then ?_
  refine TS_false rfl ?_
  refine TS_seq ?_
  refine TS_region ?_
  refine VS_pure (df (P_eql rfl rfl) (by omega)) rfl rfl rfl ?_
  refine VS_pure (P_assign rfl) rfl rfl rfl ?_
  refine VS_nil ?_
  refine QS_then ?_
  refine TS_false rfl ?_
  refine TS_seq ?_
  refine TS_region ?_
  refine VS_pure (df (P_eql rfl rfl) (by omega)) rfl rfl rfl ?_
  refine VS_pure (P_assign rfl) rfl rfl rfl ?_
  refine VS_nil ?_
  refine QS_then ?_
  refine TS_false rfl ?_
  refine TS_seq ?_
  refine TS_seq ?_
  refine TS_region ?_
  refine VS_pure (df (P_eql rfl rfl) (by omega)) rfl rfl rfl ?_
  refine VS_pure (P_assign rfl) rfl rfl rfl ?_
  refine VS_nil ?_
  refine QS_then ?_
  refine TS_false rfl ?_
  refine TS_region ?_
  refine VS_pure (df (P_eql rfl rfl) (by omega)) rfl rfl rfl ?_
  refine VS_pure (P_assign rfl) rfl rfl rfl ?_
  refine VS_nil ?_
  refine QS_then ?_
  refine TS_false rfl ?_
  refine TS_seq ?_
  refine TS_region ?_
  refine VS_pure (df (P_eql rfl rfl) (by omega)) rfl rfl rfl ?_
  refine VS_pure (P_assign rfl) rfl rfl rfl ?_
  refine VS_nil ?_
  refine QS_then ?_
  refine TS_false rfl ?_
  refine TS_skip ?_
  refine QS_block ?_
  exact QS_retPN [] trivial [_, _, pack []] (Pick.trans Pick.pack0 (.cons (.there .here) (.cons (.there .here) (.cons .here (.nil _))))) ⟨_, a1, _, _, by rw [pBody_7, hn]; rfl, ha1, rfl, rfl, fun ns hi => ⟨_, _, _, _, _, rfl, BytesE.z _, StrsE.z _, IntsE.z _, PairsE.z _, EvsE.z _, (show U8 7 from ⟨by decide, by decide⟩), hn64, Nat.zero_le _, noS, acn0_N, u8_0, i64_0⟩⟩
theorem pBody_8 (b : List UInt8) (a : Nat) : pBody 8 b a = .ok ⟨8, 0, [], [], [], acn0, 0, 0, []⟩ a := rfl
set_option maxHeartbeats 8000000 in
theorem letR8 {m : Mp} {bc la : Nat} {v : Value} {A : Option Addr} {c : Nat} {b : List UInt8} (hr : Rd m A (b.map byteV)) (hb : b.length ≤ 1099511627776) : LC 8 bc la v m A c b := by
  intro at_ hat
  refine CSP_of [] Try.func25 rfl rfl rfl ?_
  unfold L0
  refine TS_seq ?_
  refine TS_seq ?_
  refine TS_region ?_
  refine VS_pure (P_move rfl) rfl rfl rfl ?_
  refine VS_pure (P_nilCheck rfl) rfl rfl rfl ?_
  refine VS_pure (P_fieldAddr0 fo32_0 rfl) rfl rfl rfl ?_
  refine VS_read (S_loadB sg5 rfl (.there (.here)) rfl) rfl rfl rfl ?_
  refine VS_nil ?_
  refine QS_then ?_
  refine TS_block ?_
  refine TS_seq ?_
  refine TS_region ?_
  refine VS_pure (df (P_eql rfl rfl) (by omega)) rfl rfl rfl ?_
  refine VS_pure (P_assign rfl) rfl rfl rfl ?_
  refine VS_nil ?_
  refine QS_then ?_
  refine TS_false rfl ?_
  refine TS_seq ?_
  refine TS_region ?_
  refine VS_pure (df (P_eql rfl rfl) (by omega)) rfl rfl rfl ?_
  refine VS_pure (P_assign rfl) rfl rfl rfl ?_
  refine VS_nil ?_
  refine QS_then ?_
  refine TS_false rfl ?_
  refine TS_seq ?_
  refine TS_region ?_
  refine VS_pure (dt (P_eql rfl rfl) rfl) rfl rfl rfl ?_
  refine VS_pure (P_assign rfl) rfl rfl rfl ?_
  refine VS_nil ?_
  refine QS_then ?_
  refine TS_true rfl ?_
  refine TS_ret ?_
  refine QS_block_ret ?_
  refine QS_then_ret ?_
  exact QS_retP [] trivial [_, _, pack []] (Pick.trans Pick.pack0 (.cons (.there .here) (.cons (.there .here) (.cons .here (.nil _))))) ⟨_, at_, _, _, pBody_8 b at_, hat, rfl, rfl, fun ns hi => ⟨_, _, _, _, _, rfl, BytesE.z _, StrsE.z _, IntsE.z _, PairsE.z _, EvsE.z _, (show U8 8 from ⟨by decide, by decide⟩), i64_0, Nat.zero_le _, noS, acn0_N, u8_0, i64_0⟩⟩
theorem pBody_1 (b : List UInt8) (a : Nat) : pBody 1 b a = (pText b a).bind fun t a1 => .ok ⟨1, 0, [], t, [], acn0, 0, 0, []⟩ a1 := rfl
set_option maxHeartbeats 8000000 in
theorem letR1 {m : Mp} {bc la : Nat} {v : Value} {A : Option Addr} {c : Nat} {b : List UInt8} (hr : Rd m A (b.map byteV)) (hb : b.length ≤ 1099511627776) (hv : ∃ a0 cz, v = .iface 61 (.agg [.slice a0 0 cz].toArray)) : LC 1 bc la v m A c b := by
  intro at_ hat
  refine CSP_of [] Try.func25 rfl rfl rfl ?_
  unfold L0
  obtain ⟨a0, cz, rfl⟩ := hv
  refine TS_seq ?_
  refine TS_seq ?_
  refine TS_region ?_
  refine VS_pure (P_move rfl) rfl rfl rfl ?_
  refine VS_pure (P_nilCheck rfl) rfl rfl rfl ?_
  refine VS_pure (P_fieldAddr0 fo32_0 rfl) rfl rfl rfl ?_
  refine VS_read (S_loadB sg5 rfl (.there (.here)) rfl) rfl rfl rfl ?_
  refine VS_nil ?_
  refine QS_then ?_
  refine TS_block ?_
  refine TS_seq ?_
  refine TS_region ?_
  refine VS_pure (dt (P_eql rfl rfl) rfl) rfl rfl rfl ?_
  refine VS_pure (P_assign rfl) rfl rfl rfl ?_
  refine VS_nil ?_
  refine QS_then ?_
  refine TS_true rfl ?_
  refine TS_seq ?_
  refine TS_region ?_
  refine VS_pure (P_move rfl) rfl rfl rfl ?_
  refine VS_pure (P_assertYes1 ni61 us61 rfl) rfl rfl rfl ?_
  refine VS_step (S_alloc zl61 rfl (fun b1 => ?_)) rfl
  refine VS_step (S_storeAgg ag61 rfl rfl rfl (.here) rfl rfl ?_) rfl
  refine VS_nil ?_
  refine QS_then ?_
  refine TS_seq ?_
  refine TS_region ?_
  refine VS_pure (P_move rfl) rfl rfl rfl ?_
  refine VS_pure (P_fieldAddr0 fo61_0 rfl) rfl rfl rfl ?_
  refine VS_step (S_callP cl46 rfl (.cons (.there .here) (.cons .here .nil)) (fun m' hm he => bytesR Plc.one (hr.mono hm) hb at_ hat) rfl ?_ ?_) rfl
  · rintro v L' ⟨j, hk, rfl⟩
    refine QS_then_pan ?_
    refine QS_block_pan ?_
    refine QS_then_pan ?_
    exact QS_pan [] (Pick.nil _) ⟨j, by rw [pBody_1, hk]; rfl, rfl⟩
  rintro v L' ⟨t, a2, A2, c2, ht, ha2, htl, rfl, rfl⟩
  try dsimp only
  refine VS_nil ?_
  refine QS_then ?_
  refine TS_seq ?_
  refine TS_region ?_
  refine VS_pure (P_move rfl) rfl rfl rfl ?_
  refine VS_pure (P_fieldAddr0 fo61_0 rfl) rfl rfl rfl ?_
  refine VS_read (S_loadB sg22 rfl (.there (.here)) rfl) rfl rfl rfl ?_
  refine VS_pure (P_nilCheck rfl) rfl rfl rfl ?_
  refine VS_pure (P_fieldAddr0 fo32_3 rfl) rfl rfl rfl ?_
  refine VS_step (S_store co22 rfl rfl rfl (.there (.there (.there (.here)))) (.there (.there (.there (.here)))) ?_) rfl
  refine VS_nil ?_
  refine QS_then ?_
  refine TS_ret ?_
  refine QS_block_ret ?_
  refine QS_then_ret ?_
  exact QS_retP [] trivial [_, _, pack [_]] (Pick.trans (L2 := [_, _, _]) (.cons (.there (.there .here)) (.cons .here (.cons (.there .here) (.nil _)))) (Pick.trans Pick.pack1 (.cons (.there .here) (.cons (.there .here) (.cons .here (.nil _)))))) ⟨_, a2, _, _, by rw [pBody_1, ht]; rfl, ha2, rfl, rfl, fun ns hi => ⟨_, _, _, _, _, rfl, BytesE.ofOwn (hi.1 _ List.mem_cons_self) htl, StrsE.z _, IntsE.z _, PairsE.z _, EvsE.z _, (show U8 1 from ⟨by decide, by decide⟩), i64_0, Nat.zero_le _, noS, acn0_N, u8_0, i64_0⟩⟩
theorem pBody_64 (b : List UInt8) (a : Nat) : pBody 64 b a = (pByte b a).bind fun t a1 => (pNum b a1).bind fun e a2 => .ok ⟨64, 0, [], [], [], acn0, (t.toNat : Int), e, []⟩ a2 := rfl
set_option maxHeartbeats 8000000 in
theorem letR64 {m : Mp} {bc la : Nat} {v : Value} {A : Option Addr} {c : Nat} {b : List UInt8} (hr : Rd m A (b.map byteV)) (hb : b.length ≤ 1099511627776) (hv : v = .iface 64 (.agg [.int .u8 0, iV 0].toArray)) : LC 64 bc la v m A c b := by
  intro at_ hat
  refine CSP_of [] Try.func25 rfl rfl rfl ?_
  unfold L0
  subst hv
  refine TS_seq ?_
  refine TS_seq ?_
  refine TS_region ?_
  refine VS_pure (P_move rfl) rfl rfl rfl ?_
  refine VS_pure (P_nilCheck rfl) rfl rfl rfl ?_
  refine VS_pure (P_fieldAddr0 fo32_0 rfl) rfl rfl rfl ?_
  refine VS_read (S_loadB sg5 rfl (.there (.here)) rfl) rfl rfl rfl ?_
  refine VS_nil ?_
  refine QS_then ?_
  refine TS_block ?_
  refine TS_seq ?_
  refine TS_region ?_
  refine VS_pure (df (P_eql rfl rfl) (by omega)) rfl rfl rfl ?_
  refine VS_pure (P_assign rfl) rfl rfl rfl ?_
  refine VS_nil ?_
  refine QS_then ?_
  refine TS_false rfl ?_
  refine TS_seq ?_
  refine TS_region ?_
  refine VS_pure (dt (P_eql rfl rfl) rfl) rfl rfl rfl ?_
  refine VS_pure (P_assign rfl) rfl rfl rfl ?_
  refine VS_nil ?_
  refine QS_then ?_
  refine TS_true rfl ?_
  refine TS_seq ?_
  refine TS_region ?_
  refine VS_pure (P_move rfl) rfl rfl rfl ?_
  refine VS_pure (P_assertYes1 ni64 us64 rfl) rfl rfl rfl ?_
  refine VS_step (S_alloc zl64 rfl (fun b1 => ?_)) rfl
  refine VS_step (S_storeAgg ag64 rfl rfl rfl (.here) rfl rfl ?_) rfl
  refine VS_nil ?_
  refine QS_then ?_
  refine TS_seq ?_
  refine TS_region ?_
  refine VS_pure (P_move rfl) rfl rfl rfl ?_
  refine VS_pure (P_fieldAddr0 fo64_0 rfl) rfl rfl rfl ?_
  have p1 : Plc ⟨b1, 0, none⟩ (fun v => cel b1 [v, iV 0] 64) := Plc.cel (i := 0) (l := [iV 0, iV 0]) (by decide)
  refine VS_step (S_callP cl24 rfl (.cons (.there .here) (.cons .here .nil)) (fun m' hm he => byteR p1 (hr.mono hm) hb at_ hat) rfl ?_ ?_) rfl
  · rintro v L' ⟨j, hk, rfl⟩
    refine QS_then_pan ?_
    refine QS_block_pan ?_
    refine QS_then_pan ?_
    exact QS_pan [] (Pick.nil _) ⟨j, by rw [pBody_64, hk]; rfl, rfl⟩
  rintro v L' ⟨t, a1, ht, ha1, rfl, rfl⟩
  try dsimp only
  refine VS_nil ?_
  refine QS_then ?_
  refine TS_seq ?_
  refine TS_region ?_
  refine VS_pure (P_fieldAddr0 fo64_1 rfl) rfl rfl rfl ?_
  refine VS_read (S_loadB sg29 rfl (.there (.here)) rfl) rfl rfl rfl ?_
  refine VS_step (S_alloc zl3 rfl (fun b2 => ?_)) rfl
  refine VS_step (S_store co3 rfl rfl rfl (.here) (.here) ?_) rfl
  refine VS_nil ?_
  refine QS_then ?_
  refine TS_seq ?_
  refine TS_region ?_
  refine VS_pure (P_move rfl) rfl rfl rfl ?_
  refine VS_step (S_callP cl47 rfl (.cons (.there .here) (.cons .here .nil)) (fun m' hm he => numR Plc.one (hr.mono hm) hb a1 ha1) rfl ?_ ?_) rfl
  · rintro v L' ⟨j, hk, rfl⟩
    refine QS_then_pan ?_
    refine QS_block_pan ?_
    refine QS_then_pan ?_
    exact QS_pan [] (Pick.nil _) ⟨j, by rw [pBody_64, ht]; show Res.bind (pNum b a1) _ = _; rw [hk]; rfl, rfl⟩
  rintro v L' ⟨n, a2, hn, ha2, rfl, rfl⟩
  try dsimp only
  have hn64 := pNum_I64 hn
  have htu : U8 (t.toNat : Int) := ⟨by omega, by have := t.toNat_lt; omega⟩
  refine VS_nil ?_
  refine QS_then ?_
  refine TS_seq ?_
  refine TS_region ?_
  refine VS_pure (P_move rfl) rfl rfl rfl ?_
  refine VS_pure (P_move rfl) rfl rfl rfl ?_
  refine VS_pure (P_fieldAddr0 fo64_0 rfl) rfl rfl rfl ?_
  refine VS_read (S_loadB sg5 rfl (.there (.there (.here))) rfl) rfl rfl rfl ?_
  refine VS_read (S_loadB sg3 rfl (.there (.here)) rfl) rfl rfl rfl ?_
  refine VS_pure (P_nilCheck rfl) rfl rfl rfl ?_
  refine VS_pure (P_fieldAddr0 fo32_6 rfl) rfl rfl rfl ?_
  refine VS_step (S_store co5 rfl rfl rfl (.there (.there (.there (.here)))) (.there (.there (.there (.there (.there (.there (.there (.there (.there (.there (.there (.here)))))))))))) ?_) rfl
  refine VS_pure (P_nilCheck rfl) rfl rfl rfl ?_
  refine VS_pure (P_fieldAddr0 fo32_7 rfl) rfl rfl rfl ?_
  refine VS_step (S_store co29 rfl rfl rfl (.there (.there (.there (.here)))) (.there (.there (.there (.there (.there (.there (.there (.there (.there (.there (.there (.there (.here))))))))))))) ?_) rfl
  refine VS_nil ?_
  refine QS_then ?_
  refine TS_ret ?_
  refine QS_block_ret ?_
  refine QS_then_ret ?_
  exact QS_retP [] trivial [_, _, pack []] (Pick.trans Pick.pack0 (.cons (.there .here) (.cons (.there (.there (.there .here))) (.cons .here (.nil _))))) ⟨_, a2, _, _, by rw [pBody_64, ht]; show Res.bind (pNum b a1) _ = _; rw [hn]; rfl, ha2, rfl, rfl, fun ns hi => ⟨_, _, _, _, _, rfl, BytesE.z _, StrsE.z _, IntsE.z _, PairsE.z _, EvsE.z _, (show U8 64 from ⟨by decide, by decide⟩), i64_0, Nat.zero_le _, noS, acn0_N, htu, hn64⟩⟩
/-- the message that an empty letter makes, for a kind -/
def EmptyV (k : Int) (v : Value) : Prop := (k = 1 → ∃ a0 cz, v = .iface 61 (.agg [.slice a0 0 cz].toArray)) ∧ (k = 64 → v = .iface 64 (.agg [.int .u8 0, iV 0].toArray))
theorem letR {m : Mp} {bc la : Nat} {v : Value} {A : Option Addr} {c : Nat} {b : List UInt8} {k : Int} (hr : Rd m A (b.map byteV)) (hb : b.length ≤ 1099511627776) (hk : known k = true) (hv : EmptyV k v) : LC k bc la v m A c b := by
  rcases known_or hk with rfl | rfl | rfl | rfl | rfl | rfl | rfl | rfl | rfl | rfl | rfl | rfl
  · exact letR1 hr hb (hv.1 rfl)
  · exact letR2 hr hb
  · exact letR3 hr hb
  · exact letR4 hr hb
  · exact letR5 hr hb
  · exact letR6 hr hb
  · exact letR7 hr hb
  · exact letR8 hr hb
  · exact letR64 hr hb (hv.2 rfl)
  · exact letR65 hr hb
  · exact letR66 hr hb
  · exact letR67 hr hb
end Go.Proofs.Ytbpihgphicmdiaa
