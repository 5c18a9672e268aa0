/- A part of the proof: contracts of functions of the program. No condition. -/
import Derived.Test.YtbpihgphicmdiaaWiY
namespace Go.Proofs.Ytbpihgphicmdiaa
open Go.Eng Wi
set_option maxRecDepth 100000
def lookL (n : Int) : Ltr := ⟨5, n, [], [], [], acn0, 0, 0, []⟩
def loginL (b : List UInt8) : Ltr := ⟨1, 0, [], b, [], acn0, 0, 0, []⟩
def replyL : Ltr := ⟨64, 0, [], [], [], acn0, 0, 0, []⟩
theorem enc_bye : encX byeL = some [8] := by decide +kernel
theorem enc_look : encX (lookL 3) = some [5, 0, 0, 0, 0, 0, 0, 0, 3] := by decide +kernel
theorem enc_login : encX (loginL [171, 205]) = some [1, 0, 2, 171, 205] := by decide +kernel
theorem Client_bye {m : Mp} : CS Try.prog 15 [.iface 57 (.agg ([] : List Value).toArray)] m [] (Gives (.bool true)) := Client_ok (m := m) MsgR.bye
theorem Client_reply {m : Mp} : CS Try.prog 15 [.iface 64 (.agg ([.int .u8 0, iV 0] : List Value).toArray)] m [] (Gives (.bool false)) := Client_ok (m := m) (MsgR.reply 0 0 U80 I640)
theorem BytesPost.some {e : List UInt8} {v : Value} {L' : List Ent} (h : BytesPost (some e) v L') : ∃ A c, v = .tuple [.slice A e.length c, .int .i64 0].toArray ∧ L' = [own 5 1 A e.length c (e.map byteV)] := by
  rcases h with ⟨e', A, c, h1, h2, h3⟩ | ⟨h1, _⟩
  · cases h1; exact ⟨A, c, h2, h3⟩
  · cases h1
theorem BytesPost.none {v : Value} {L' : List Ent} (h : BytesPost none v L') : v = .tuple [.slice none 0 0, .int .i64 2].toArray ∧ L' = [] := by
  rcases h with ⟨e', A, c, h1, _⟩ | ⟨_, h2, h3⟩
  · cases h1
  · exact ⟨h2, h3⟩
set_option maxHeartbeats 16000000 in
theorem wakes_ok {m : Mp} : CS Try.prog 8 [] m [] (Gives (.bool true)) := by
  refine CS_of [.tmp 0] Try.func8 rfl rfl rfl ?_
  have B1 : ∀ m' : Mp, CS Try.prog 12 [.iface 57 (.agg ([] : List Value).toArray)] m' [] (fun v L' => ∃ A c, v = .tuple [.slice A 1 c, .int .i64 0].toArray ∧ L' = [own 5 1 A 1 c (([8] : List UInt8).map byteV)]) := fun m' => (Bytes_ok (m := m') MsgR.bye (by decide)).mono fun v L' h => BytesPost.some (e := [8]) (by rw [← enc_bye]; exact h)
  have B2 : ∀ m' : Mp, CS Try.prog 12 [.iface 59 (.agg ([iV 3] : List Value).toArray)] m' [] (fun v L' => ∃ A c, v = .tuple [.slice A 9 c, .int .i64 0].toArray ∧ L' = [own 5 1 A 9 c (([5, 0, 0, 0, 0, 0, 0, 0, 3] : List UInt8).map byteV)]) := fun m' => (Bytes_ok (m := m') (MsgR.look 3 (by decide)) (by decide)).mono fun v L' h => BytesPost.some (e := [5, 0, 0, 0, 0, 0, 0, 0, 3]) (by rw [← enc_look]; exact h)
  refine TS_seq ?_
  refine TS_region ?_
  refine VS_pure (P_assign rfl) rfl rfl rfl ?_
  refine VS_nil ?_
  refine QS_then ?_
  refine TS_seq ?_
  refine TS_region ?_
  refine VS_pure (P_build zl57 pl57 rfl rfl) rfl rfl rfl ?_
  refine VS_pure (P_mkIface ni57 us57 rfl) rfl rfl rfl ?_
  refine VS_step ((S_call cl12 rfl (fun m' hm he => B1 m') rfl ?_)) rfl
  rintro _ _ ⟨A1, c1, rfl, rfl⟩
  refine VS_pure (P_move rfl) rfl rfl rfl ?_
  refine VS_pure (P_extract rfl rfl) rfl rfl rfl ?_
  refine VS_pure (P_extract rfl rfl) rfl rfl rfl ?_
  refine VS_pure (P_assign rfl) rfl rfl rfl ?_
  refine VS_pure (P_assign rfl) rfl rfl rfl ?_
  refine VS_nil ?_
  refine QS_then ?_
  refine TS_seq ?_
  refine TS_region ?_
  refine VS_pure (P_build zl59 pl59 rfl rfl) rfl rfl rfl ?_
  refine VS_pure (P_mkIface ni59 us59 rfl) rfl rfl rfl ?_
  refine VS_step ((S_call cl12 rfl (fun m' hm he => B2 m') rfl ?_)) rfl
  rintro _ _ ⟨A2, c2, rfl, rfl⟩
  refine VS_pure (P_move rfl) rfl rfl rfl ?_
  refine VS_pure (P_extract rfl rfl) rfl rfl rfl ?_
  refine VS_pure (P_extract rfl rfl) rfl rfl rfl ?_
  refine VS_pure (P_assign rfl) rfl rfl rfl ?_
  refine VS_pure (P_assign rfl) rfl rfl rfl ?_
  refine VS_nil ?_
  refine QS_then ?_
  refine TS_seq ?_
  refine TS_region ?_
  refine VS_step (S_buildSlice sl22 rfl rfl rfl rfl (fun b1 => ?_)) rfl
  refine VS_pure (P_build zl61 pl61 rfl rfl) rfl rfl rfl ?_
  refine VS_pure (P_mkIface ni61 us61 rfl) rfl rfl rfl ?_
  have B3 : ∀ m' : Mp, HE [cel b1 [.int .u8 171, .int .u8 205] 5, own 5 1 A2 9 c2 (([5, 0, 0, 0, 0, 0, 0, 0, 3] : List UInt8).map byteV), own 5 1 A1 1 c1 (([8] : List UInt8).map byteV)] m' → CS Try.prog 12 [.iface 61 (.agg ([.slice (some ⟨b1, 0, none⟩) 2 2] : List Value).toArray)] m' [] (fun v L' => ∃ A c, v = .tuple [.slice A 5 c, .int .i64 0].toArray ∧ L' = [own 5 1 A 5 c (([1, 0, 2, 171, 205] : List UInt8).map byteV)]) := fun m' he => by
    have hb : BytesE m' (.slice (some ⟨b1, 0, none⟩) 2 2) [171, 205] := ⟨_, _, rfl, fun _ => rfl, by decide, fun i hi => by
      rcases i with _ | _ | i
      · exact Wc.he he rfl
      · exact Wc.he he rfl
      · simp at hi; omega⟩
    exact (Bytes_ok (m := m') (MsgR.login _ _ hb) (by decide)).mono fun v L' h => BytesPost.some (e := [1, 0, 2, 171, 205]) (by rw [← enc_login]; exact h)
  refine VS_step ((S_call cl12 rfl (fun m' hm he => B3 m' he) rfl ?_)) rfl
  rintro _ _ ⟨A3, c3, rfl, rfl⟩
  refine VS_pure (P_move rfl) rfl rfl rfl ?_
  refine VS_pure (P_extract rfl rfl) rfl rfl rfl ?_
  refine VS_pure (P_extract rfl rfl) rfl rfl rfl ?_
  refine VS_pure (P_assign rfl) rfl rfl rfl ?_
  refine VS_pure (P_assign rfl) rfl rfl rfl ?_
  refine VS_nil ?_
  refine QS_then ?_
  refine TS_seq ?_
  refine TS_region ?_
  refine VS_step ((S_call cl12 rfl (fun m' hm he => (Bytes_no (m := m') (fun m'' => FlatNil)).mono fun v L' h => h.none) rfl ?_)) rfl
  rintro _ _ ⟨rfl, rfl⟩
  refine VS_pure (P_move rfl) rfl rfl rfl ?_
  refine VS_pure (P_extract rfl rfl) rfl rfl rfl ?_
  refine VS_pure (P_extract rfl rfl) rfl rfl rfl ?_
  refine VS_pure (P_assign rfl) rfl rfl rfl ?_
  refine VS_pure (P_assign rfl) rfl rfl rfl ?_
  refine VS_nil ?_
  refine QS_then ?_
  refine TS_seq ?_
  refine TS_region ?_
  refine VS_pure (P_build zl57 pl57 rfl rfl) rfl rfl rfl ?_
  refine VS_step (S_box rfl rfl (fun b2 => ?_)) rfl
  refine VS_pure (P_mkIface ni62 us62 rfl) rfl rfl rfl ?_
  refine VS_step ((S_call cl12 rfl (fun m' hm he => (Bytes_no (m := m') (fun m'' => FlatPtr)).mono fun v L' h => h.none) rfl ?_)) rfl
  rintro _ _ ⟨rfl, rfl⟩
  refine VS_pure (P_move rfl) rfl rfl rfl ?_
  refine VS_pure (P_extract rfl rfl) rfl rfl rfl ?_
  refine VS_pure (P_extract rfl rfl) rfl rfl rfl ?_
  refine VS_pure (P_assign rfl) rfl rfl rfl ?_
  refine VS_pure (P_assign rfl) rfl rfl rfl ?_
  refine VS_nil ?_
  refine QS_then ?_
  refine TS_seq ?_
  refine TS_absorb (.there .here) (fun n3 hi3 _ hd3 => ?_)
  refine TS_absorb (.there (.there .here)) (fun n2 hi2 _ hd2 => ?_)
  refine TS_absorb (.there (.there .here)) (fun n1 hi1 _ hd1 => ?_)
  have hr3 := (Eng.Own.rd hi3).mono ((uni_r hd3).trans ((uni_l _ n2).trans (uni_l _ n1)))
  have hr2 := (Eng.Own.rd hi2).mono ((uni_r hd2).trans (uni_l _ n1))
  have hr1 := (Eng.Own.rd hi1).mono (uni_r hd1)
  have hle : Le m (uni (uni (uni m n3) n2) n1) := (uni_l _ n3).trans ((uni_l _ n2).trans (uni_l _ n1))
  refine TS_region ?_
  refine VS_pure (P_move rfl) rfl rfl rfl ?_
  refine VS_pure (dt (P_eql rfl rfl) rfl) rfl rfl rfl ?_
  refine VS_pure (P_move rfl) rfl rfl rfl ?_
  refine VS_pure (P_move rfl) rfl rfl rfl ?_
  refine VS_read (S_bstr bt22 st9 rfl (by first | rfl | omega) hr1) rfl rfl rfl ?_
  refine VS_pure (dt (P_seql rfl rfl) rfl) rfl rfl rfl ?_
  refine VS_pure (P_pick_t rfl rfl) rfl rfl rfl ?_
  refine VS_pure (P_move rfl) rfl rfl rfl ?_
  refine VS_pure (P_move rfl) rfl rfl rfl ?_
  refine VS_pure (dt (P_eql rfl rfl) rfl) rfl rfl rfl ?_
  refine VS_pure (P_pick_t rfl rfl) rfl rfl rfl ?_
  refine VS_pure (P_move rfl) rfl rfl rfl ?_
  refine VS_pure (P_move rfl) rfl rfl rfl ?_
  refine VS_read (S_bstr bt22 st9 rfl (by first | rfl | omega) hr2) rfl rfl rfl ?_
  refine VS_pure (dt (P_seql rfl rfl) rfl) rfl rfl rfl ?_
  refine VS_pure (P_pick_t rfl rfl) rfl rfl rfl ?_
  refine VS_pure (P_move rfl) rfl rfl rfl ?_
  refine VS_pure (P_move rfl) rfl rfl rfl ?_
  refine VS_pure (dt (P_eql rfl rfl) rfl) rfl rfl rfl ?_
  refine VS_pure (P_pick_t rfl rfl) rfl rfl rfl ?_
  refine VS_pure (P_move rfl) rfl rfl rfl ?_
  refine VS_pure (P_move rfl) rfl rfl rfl ?_
  refine VS_read (S_bstr bt22 st9 rfl (by first | rfl | omega) hr3) rfl rfl rfl ?_
  refine VS_pure (dt (P_seql rfl rfl) rfl) rfl rfl rfl ?_
  refine VS_pure (P_pick_t rfl rfl) rfl rfl rfl ?_
  refine VS_pure (P_move rfl) rfl rfl rfl ?_
  refine VS_pure (P_move rfl) rfl rfl rfl ?_
  refine VS_pure (dt (P_eql rfl rfl) rfl) rfl rfl rfl ?_
  refine VS_pure (P_pick_t rfl rfl) rfl rfl rfl ?_
  refine VS_pure (P_move rfl) rfl rfl rfl ?_
  refine VS_pure (P_move rfl) rfl rfl rfl ?_
  refine VS_pure (dt (P_eql rfl rfl) rfl) rfl rfl rfl ?_
  refine VS_pure (P_pick_t rfl rfl) rfl rfl rfl ?_
  refine VS_pure (P_move rfl) rfl rfl rfl ?_
  refine VS_pure (P_build zl57 pl57 rfl rfl) rfl rfl rfl ?_
  refine VS_pure (P_mkIface ni57 us57 rfl) rfl rfl rfl ?_
  refine VS_step (S_callR cl15 rfl (fun m' hm he => (Client_bye)) rfl ?_) rfl
  rintro _ rfl
  refine VS_pure (P_pick_t rfl rfl) rfl rfl rfl ?_
  refine VS_pure (P_move rfl) rfl rfl rfl ?_
  refine VS_pure (P_build zl64 pl64 rfl rfl) rfl rfl rfl ?_
  refine VS_pure (P_mkIface ni64 us64 rfl) rfl rfl rfl ?_
  refine VS_step (S_callR cl15 rfl (fun m' hm he => (Client_reply)) rfl ?_) rfl
  rintro _ rfl
  refine VS_pure (P_not rfl) rfl rfl rfl ?_
  refine VS_pure (P_pick_t rfl rfl) rfl rfl rfl ?_
  refine VS_pure (P_move rfl) rfl rfl rfl ?_
  refine VS_step (S_callR cl16 rfl (fun m' hm he => (Same_nn)) rfl ?_) rfl
  rintro _ rfl
  refine VS_pure (P_pick_t rfl rfl) rfl rfl rfl ?_
  refine VS_pure (P_move rfl) rfl rfl rfl ?_
  refine VS_pure (P_build zl57 pl57 rfl rfl) rfl rfl rfl ?_
  refine VS_pure (P_mkIface ni57 us57 rfl) rfl rfl rfl ?_
  refine VS_step (S_callR cl16 rfl (fun m' hm he => (Same_nm)) rfl ?_) rfl
  rintro _ rfl
  refine VS_pure (P_not rfl) rfl rfl rfl ?_
  refine VS_pure (P_pick_t rfl rfl) rfl rfl rfl ?_
  refine VS_pure (P_assign rfl) rfl rfl rfl ?_
  refine VS_nil ?_
  refine QS_then ?_
  refine TS_ret ?_
  exact QS_retW hle [_] ⟨rfl, trivial⟩ [] (Pick.nil _) ⟨rfl, rfl⟩
end Go.Proofs.Ytbpihgphicmdiaa
