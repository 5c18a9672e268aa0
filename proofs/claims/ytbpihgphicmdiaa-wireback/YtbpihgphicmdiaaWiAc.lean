/- A part of the proof: contracts of functions of the program. No condition. -/
import Derived.Test.YtbpihgphicmdiaaWiAb
namespace Go.Proofs.Ytbpihgphicmdiaa
open Go.Eng Wi
set_option maxRecDepth 100000
theorem bytesMR {m : Mp} {bc : Nat} {A a0 : Option Addr} {c cz : Nat} {b : List UInt8} {la : Addr} {E : Value → Ent} (hp : Plc la E) (hr : Rd m A (b.map byteV)) (hb : b.length ≤ 1099511627776) :
    MC 61 bc [.pointer (some ⟨bc, 0, none⟩), .pointer (some la), .int .i64 ((1 : Nat) : Int), .func (.func 24) [.pointer (some ⟨bc, 0, none⟩)].toArray [].toArray] m A c b E (.slice a0 0 cz) pText 5 1 (fun xs => xs.map byteV) :=
  manyRB hp hr hb (by decide) fun m' E' a' hl hp' => byteR hp' (hr.mono hl) hb
theorem numsMR {m : Mp} {bc : Nat} {A a0 : Option Addr} {c cz : Nat} {b : List UInt8} {la : Addr} {E : Value → Ent} (hp : Plc la E) (hr : Rd m A (b.map byteV)) (hb : b.length ≤ 1099511627776) :
    MC 64 bc [.pointer (some ⟨bc, 0, none⟩), .pointer (some la), .int .i64 ((8 : Nat) : Int), .func (.func 47) [.pointer (some ⟨bc, 0, none⟩)].toArray [].toArray] m A c b E (.slice a0 0 cz) (pMany 8 pNum) 3 1 (fun xs => xs.map iV) :=
  manyRI hp hr hb (by decide) fun m' E' a' hl hp' => numR hp' (hr.mono hl) hb
theorem bytesR {m : Mp} {bc : Nat} {A a0 : Option Addr} {c cz : Nat} {b : List UInt8} {la : Addr} {E : Value → Ent} (hp : Plc la E) (hr : Rd m A (b.map byteV)) (hb : b.length ≤ 1099511627776) :
    MC 46 bc [.pointer (some ⟨bc, 0, none⟩), .pointer (some la)] m A c b E (.slice a0 0 cz) pText 5 1 (fun xs => xs.map byteV) := by
  intro at_ hat
  refine CSP_of [] Try.func46 rfl rfl rfl ?_
  refine TS_region ?_
  iterate 3 (refine VS_pure (P_move rfl) rfl rfl rfl ?_)
  refine VS_pure (P_makeFunc rfl rfl) rfl rfl rfl ?_
  refine VS_step (S_callP cl61 rfl (.cons .here (.cons .here .nil)) (fun m' hm he => bytesMR hp (hr.mono hm) hb at_ hat) rfl ?_ ?_) rfl
  · rintro v L' ⟨k, hk, rfl⟩
    skip
    exact QS_pan [] (Pick.nil _) ⟨k, hk, rfl⟩
  rintro v L' ⟨xs, a', A2, c2, hx, ha', hl, rfl, rfl⟩
  refine VS_nil ?_
  exact QS_retPN [] trivial [_, _, _] (Pick.refl _) ⟨xs, a', A2, c2, hx, ha', hl, rfl, rfl⟩
set_option maxHeartbeats 4000000 in
theorem textR {m : Mp} {bc : Nat} {A : Option Addr} {c : Nat} {b : List UInt8} {la : Addr} {E : Value → Ent} (hp : Plc la E) (hr : Rd m A (b.map byteV)) (hb : b.length ≤ 1099511627776) :
    RC 48 bc [.pointer (some ⟨bc, 0, none⟩), .pointer (some la)] m A c b E (sV []) pText sV := by
  intro at_ hat
  refine CSP_of [] Try.func48 rfl rfl rfl ?_
  refine TS_seq ?_
  refine TS_region ?_
  refine VS_pure (P_move rfl) rfl rfl rfl ?_
  refine VS_pure (P_nilCheck rfl) rfl rfl rfl ?_
  refine VS_read (S_loadP hp sg9 rfl (.there (.here))) rfl rfl rfl ?_
  refine VS_step (S_sbytes (s := []) st9 bt22 rfl rfl (fun e b1 k1 => ?_)) rfl
  refine VS_step (S_alloc zl22 rfl (fun b2 => ?_)) rfl
  refine VS_step (S_store co22 rfl rfl rfl (.here) (.here) ?_) rfl
  refine VS_nil ?_
  refine QS_then ?_
  refine TS_seq ?_
  refine TS_region ?_
  refine VS_pure (P_move rfl) rfl rfl rfl ?_
  refine VS_step (S_callP cl46 rfl (.cons (.there (.there .here)) (.cons .here .nil)) (fun m' hm he => bytesR (a0 := some ⟨b1, 0, none⟩) (cz := k1) Plc.one (hr.mono hm) hb at_ hat) rfl ?_ ?_) rfl
  · rintro v L' ⟨k, hk, rfl⟩
    refine QS_then_pan ?_
    exact QS_pan [] (Pick.nil _) ⟨k, hk, rfl⟩
  rintro v L' ⟨xs, a', A2, c2, hx, ha', hl, rfl, rfl⟩
  dsimp only [curR]
  refine VS_nil ?_
  refine QS_then ?_
  refine TS_region ?_
  refine VS_pure (P_move rfl) rfl rfl rfl ?_
  refine VS_read (S_loadB sg22 rfl (.there (.here)) rfl) rfl rfl rfl ?_
  refine VS_read (fun h hs => R_bstr bt22 st9 rfl rfl (Own.rd (hs.get (.there (.there .here))))) rfl rfl rfl ?_
  refine VS_pure (P_nilCheck rfl) rfl rfl rfl ?_
  refine VS_step (S_storeP hp co9 rfl rfl rfl (.there (.there (.there (.there (.here))))) ?_) rfl
  refine VS_nil ?_
  exact QS_retPN [] trivial [_, _] (.cons .here (.cons (.there (.there (.there .here))) (.nil _))) ⟨xs, a', hx, ha', rfl, rfl⟩
/-! ### a pair: two cells -/
theorem PlcN.mid {a : Addr} {E : List Value → Ent} {q : Nat} (hp : PlcN a E q) (pre post : List Value) (h : pre.length + post.length + 1 = q) : Plc (a.add pre.length) (fun v => E (pre ++ v :: post)) := by
  have := hp.at_ (l := pre ++ Value.bool false :: post) (i := pre.length) (by simp; omega) (by omega)
  have e1 : (fun v => E ((pre ++ Value.bool false :: post).set pre.length v)) = fun v => E (pre ++ v :: post) := by
    funext v
    rw [List.set_append_right _ _ (Nat.le_refl _), Nat.sub_self]
    rfl
  rw [e1] at this
  exact this
theorem PlcN.last {e sz k c q : Nat} {A : Option Addr} {xs : List Value} : PlcN ((sa A).add xs.length) (fun w => own e sz A k c (xs ++ w)) q := by
  have := PlcN.own (e := e) (sz := sz) (k := k) (c := c) (A := A) (o := xs.length) (q := q) (xs := xs ++ List.replicate q (Value.bool false)) (by simp)
  have e1 : (fun w => Eng.own e sz A k c ((xs ++ List.replicate q (Value.bool false)).take xs.length ++ w ++ (xs ++ List.replicate q (Value.bool false)).drop (xs.length + q))) = (fun w => Eng.own e sz A k c (xs ++ w)) := by
    funext w
    rw [List.take_left, List.drop_eq_nil_of_le (by simp), List.append_nil]
  rw [e1] at this
  exact this
def pairC2 (p : Int × Int) : List Value := [iV p.1, iV p.2]
set_option maxHeartbeats 4000000 in
theorem pairR {m : Mp} {bc : Nat} {A : Option Addr} {c : Nat} {b : List UInt8} {xa : Addr} {E : List Value → Ent} (hp : PlcN xa E 2) (hr : Rd m A (b.map byteV)) (hb : b.length ≤ 1099511627776) :
    RC 66 bc [.pointer (some ⟨bc, 0, none⟩), .pointer (some xa)] m A c b E [iV 0, iV 0] pPair pairC2 := by
  intro at_ hat
  refine CSP_of [] Try.func66 rfl rfl rfl ?_
  refine TS_seq ?_
  refine TS_region ?_
  refine VS_pure (P_move rfl) rfl rfl rfl ?_
  refine VS_pure (P_move rfl) rfl rfl rfl ?_
  refine VS_pure (P_nilCheck rfl) rfl rfl rfl ?_
  refine VS_pure (P_fieldAddr fo132_0 rfl) rfl rfl rfl ?_
  refine VS_step (S_callP cl47 rfl (.cons .here (.cons .here .nil)) (fun m' hm he => numR (PlcN.mid hp [] [iV 0] rfl) (hr.mono hm) hb at_ hat) rfl ?_ ?_) rfl
  · rintro v L' ⟨k, hk, rfl⟩
    refine QS_then_pan ?_
    exact QS_pan [] (Pick.nil _) ⟨k, by rw [pPair, hk]; rfl, rfl⟩
  rintro v L' ⟨x, a1, hx, ha1, rfl, rfl⟩
  refine VS_nil ?_
  refine QS_then ?_
  refine TS_region ?_
  refine VS_pure (P_move rfl) rfl rfl rfl ?_
  refine VS_pure (P_move rfl) rfl rfl rfl ?_
  refine VS_pure (P_nilCheck rfl) rfl rfl rfl ?_
  refine VS_pure (P_fieldAddr fo132_1 rfl) rfl rfl rfl ?_
  refine VS_step (S_callP cl47 rfl (.cons .here (.cons .here .nil)) (fun m' hm he => numR (PlcN.mid hp [iV x] [] rfl) (hr.mono hm) hb a1 ha1) rfl ?_ ?_) rfl
  · rintro v L' ⟨k, hk, rfl⟩
    skip
    exact QS_pan [] (Pick.nil _) ⟨k, by rw [pPair, hx]; show Res.bind (pNum b a1) _ = _; rw [hk]; rfl, rfl⟩
  rintro v L' ⟨y, a2, hy, ha2, rfl, rfl⟩
  refine VS_nil ?_
  exact QS_retPN [] trivial [_, _] (Pick.refl _) ⟨(x, y), a2, by rw [pPair, hx]; show Res.bind (pNum b a1) _ = _; rw [hy]; rfl, ha2, rfl, rfl⟩
end Go.Proofs.Ytbpihgphicmdiaa
