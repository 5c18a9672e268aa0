/- A part of the proof: contracts of functions of the program. No condition. -/
import Derived.Test.YtbpihgphicmdiaaWiF
import Derived.Test.YtbpihgphicmdiaaEng2
namespace Go.Proofs.Ytbpihgphicmdiaa
open Go.Eng Wi
set_option maxRecDepth 100000
theorem kind61 (v : Value) (w : World) : (method (Try.prog.types.size + Made.depth) 61 v "Kind").run Try.prog w = .ok (86, v) w := by kernel_rfl
theorem Kind61_ok {m : Mp} (a : Option Addr) (k c : Nat) : CS Try.prog 86 [.agg ([.slice a k c] : List Value).toArray] m [] (Gives (.int .u8 1)) := by
  refine CS_of [.tmp 2] Try.func86 rfl rfl rfl ?_
  refine TS_seq ?_
  refine TS_region ?_
  refine VS_step (S_box rfl rfl (fun b1 => ?_)) rfl
  refine VS_pure (P_assign rfl) rfl rfl rfl ?_
  refine VS_nil ?_
  refine QS_then ?_
  refine TS_seq ?_
  refine TS_region ?_
  refine VS_pure (P_assign rfl) rfl rfl rfl ?_
  refine VS_nil ?_
  refine QS_then ?_
  refine TS_ret ?_
  exact QS_ret [_] ⟨rfl, trivial⟩ [] (Pick.nil _) ⟨rfl, rfl⟩
set_option maxHeartbeats 8000000 in
theorem Flat61 {m : Mp} (a : Option Addr) (k c : Nat) : CS Try.prog 11 [.iface 61 (.agg ([.slice a k c] : List Value).toArray)] m [] (Gives (.tuple [.agg ([.int .u8 1, .int .i64 0, .string ByteArray.empty, .slice a k c, .slice none 0 0, .int .i8 0, .int .i64 0, .int .i64 0, .int .i64 0, .slice none 0 0, .slice none 0 0, .int .u8 0, .int .i64 0, .slice none 0 0] : List Value).toArray, .int .i64 0].toArray)) := by
  refine CS_of [.cell 2 32, .tmp 3] Try.func11 rfl rfl rfl ?_
  refine TS_seq ?_
  refine TS_region ?_
  refine VS_step (S_alloc zl32 rfl (fun b1 => ?_)) rfl
  refine VS_pure (P_assign rfl) rfl rfl rfl ?_
  refine VS_nil ?_
  refine QS_then ?_
  refine TS_seq ?_
  refine TS_region ?_
  refine VS_pure (P_build zl32 pl32 rfl rfl) rfl rfl rfl ?_
  refine VS_step (S_alloc zl32 rfl (fun b2 => ?_)) rfl
  refine VS_step (S_storeAgg ag32 rfl rfl rfl (.here) rfl rfl ?_) rfl
  refine VS_nil ?_
  refine QS_then ?_
  refine TS_seq ?_
  refine TS_seq ?_
  refine TS_region ?_
  refine VS_pure (P_move rfl) rfl rfl rfl ?_
  refine VS_nil ?_
  refine QS_then ?_
  refine TS_block ?_
  refine TS_seq ?_
  refine TS_region ?_
  refine VS_pure (P_assertYes ni61 us61 rfl) rfl rfl rfl ?_
  refine VS_pure (P_extract rfl rfl) rfl rfl rfl ?_
  refine VS_pure (P_extract rfl rfl) rfl rfl rfl ?_
  refine VS_nil ?_
  refine QS_then ?_
  refine TS_true rfl ?_
  refine TS_seq ?_
  refine TS_region ?_
  refine VS_step (S_alloc zl61 rfl (fun b3 => ?_)) rfl
  refine VS_step (S_storeAgg ag61 rfl rfl rfl (.here) rfl rfl ?_) rfl
  refine VS_nil ?_
  refine QS_then ?_
  refine TS_region ?_
  refine VS_pure (P_fieldAddr0 fo61_0 rfl) rfl rfl rfl ?_
  refine VS_read (S_loadB sg22 rfl (.here) rfl) rfl rfl rfl ?_
  refine VS_pure (P_fieldAddr0 fo32_3 rfl) rfl rfl rfl ?_
  refine VS_step (S_store co22 rfl rfl rfl (.there (.here)) (.there (.there (.there (.here)))) ?_) rfl
  refine VS_nil ?_
  refine QS_block ?_
  refine QS_then ?_
  refine TS_seq ?_
  refine TS_region ?_
  refine VS_pure (P_move rfl) rfl rfl rfl ?_
  refine VS_step ((S_invoke (by kernel_rfl) rfl rfl (kind61 _) (fun m' hm he => Kind61_ok _ _ _) rfl ?_)) rfl
  rintro _ _ ⟨rfl, rfl⟩
  refine VS_pure (P_fieldAddr0 fo32_0 rfl) rfl rfl rfl ?_
  refine VS_step (S_store co5 rfl rfl rfl (.there (.here)) (.here) ?_) rfl
  refine VS_nil ?_
  refine QS_then ?_
  refine TS_seq ?_
  refine TS_region ?_
  refine VS_read (S_loadBA ag32 rfl (.there (.here)) rfl) rfl rfl rfl ?_
  refine VS_step (S_storeAgg ag32 rfl rfl rfl (.there (.there (.here))) rfl rfl ?_) rfl
  refine VS_pure (P_assign rfl) rfl rfl rfl ?_
  refine VS_nil ?_
  refine QS_then ?_
  refine TS_ret ?_
  exact QS_ret [_, _] ⟨⟨_, _, _, _, rfl, .there (.there .here), .inr ⟨ag32, rfl⟩⟩, rfl, trivial⟩ [] (Pick.nil _) ⟨rfl, rfl⟩
theorem kind66 (v : Value) (w : World) : (method (Try.prog.types.size + Made.depth) 66 v "Kind").run Try.prog w = .ok (88, v) w := by kernel_rfl
theorem Kind66_ok {m : Mp} (n : Int) (s : ByteArray) : CS Try.prog 88 [.agg ([.int .i64 n, .string s] : List Value).toArray] m [] (Gives (.int .u8 2)) := by
  refine CS_of [.tmp 2] Try.func88 rfl rfl rfl ?_
  refine TS_seq ?_
  refine TS_region ?_
  refine VS_step (S_box rfl rfl (fun b1 => ?_)) rfl
  refine VS_pure (P_assign rfl) rfl rfl rfl ?_
  refine VS_nil ?_
  refine QS_then ?_
  refine TS_seq ?_
  refine TS_region ?_
  refine VS_pure (P_assign rfl) rfl rfl rfl ?_
  refine VS_nil ?_
  refine QS_then ?_
  refine TS_ret ?_
  exact QS_ret [_] ⟨rfl, trivial⟩ [] (Pick.nil _) ⟨rfl, rfl⟩
set_option maxHeartbeats 8000000 in
theorem Flat66 {m : Mp} (n : Int) (s : ByteArray) : CS Try.prog 11 [.iface 66 (.agg ([.int .i64 n, .string s] : List Value).toArray)] m [] (Gives (.tuple [.agg ([.int .u8 2, .int .i64 n, .string s, .slice none 0 0, .slice none 0 0, .int .i8 0, .int .i64 0, .int .i64 0, .int .i64 0, .slice none 0 0, .slice none 0 0, .int .u8 0, .int .i64 0, .slice none 0 0] : List Value).toArray, .int .i64 0].toArray)) := by
  refine CS_of [.cell 2 32, .tmp 3] Try.func11 rfl rfl rfl ?_
  refine TS_seq ?_
  refine TS_region ?_
  refine VS_step (S_alloc zl32 rfl (fun b1 => ?_)) rfl
  refine VS_pure (P_assign rfl) rfl rfl rfl ?_
  refine VS_nil ?_
  refine QS_then ?_
  refine TS_seq ?_
  refine TS_region ?_
  refine VS_pure (P_build zl32 pl32 rfl rfl) rfl rfl rfl ?_
  refine VS_step (S_alloc zl32 rfl (fun b2 => ?_)) rfl
  refine VS_step (S_storeAgg ag32 rfl rfl rfl (.here) rfl rfl ?_) rfl
  refine VS_nil ?_
  refine QS_then ?_
  refine TS_seq ?_
  refine TS_seq ?_
  refine TS_region ?_
  refine VS_pure (P_move rfl) rfl rfl rfl ?_
  refine VS_nil ?_
  refine QS_then ?_
  refine TS_block ?_
  refine TS_seq ?_
  refine TS_region ?_
  refine VS_pure (P_assertNo ni61 us61 rfl rfl Try.zeroValue61) rfl rfl rfl ?_
  refine VS_pure (P_extract rfl rfl) rfl rfl rfl ?_
  refine VS_pure (P_extract rfl rfl) rfl rfl rfl ?_
  refine VS_nil ?_
  refine QS_then ?_
  refine TS_false rfl ?_
  refine TS_seq ?_
  refine TS_region ?_
  refine VS_pure (P_assertYes ni66 us66 rfl) rfl rfl rfl ?_
  refine VS_pure (P_extract rfl rfl) rfl rfl rfl ?_
  refine VS_pure (P_extract rfl rfl) rfl rfl rfl ?_
  refine VS_nil ?_
  refine QS_then ?_
  refine TS_true rfl ?_
  refine TS_seq ?_
  refine TS_region ?_
  refine VS_step (S_alloc zl66 rfl (fun b3 => ?_)) rfl
  refine VS_step (S_storeAgg ag66 rfl rfl rfl (.here) rfl rfl ?_) rfl
  refine VS_nil ?_
  refine QS_then ?_
  refine TS_draw (.step 0 .pure (.step 2 .pure (.step 1 .read (.step 4 .pure (.fork (.step 3 .kept (.step 5 .wild (.step 6 .pure (.step 7 .wild (.done))))) (.step 5 .wild (.step 3 .read (.step 6 .pure (.step 7 .wild (.done)))))))))) mixed (by kernel_rfl) (fun _ _ _ _ hq => hq) ?_
  refine VTS_pure rfl (P_fieldAddr0 fo66_0 rfl) rfl rfl rfl ?_
  refine VTS_pure rfl (P_fieldAddr0 fo66_1 rfl) rfl rfl rfl ?_
  refine VTS_read rfl (S_loadB sg3 rfl (.here) rfl) rfl rfl rfl ?_
  refine VTS_pure rfl (P_fieldAddr0 fo32_1 rfl) rfl rfl rfl ?_
  refine VTS_fork ?_ ?_
  refine VTS_readK rfl (S_loadB sg9 rfl (.here) rfl) rfl rfl rfl ?_
  refine VTS_wild rfl rfl (S_store co3 rfl rfl rfl (.there (.here)) (.there (.here)) ?_) rfl
  refine VTS_pure rfl (P_fieldAddr0 fo32_2 rfl) rfl rfl rfl ?_
  refine VTS_wild rfl rfl (S_store co9 rfl rfl rfl (.there (.here)) (.there (.there (.here))) ?_) rfl
  refine VTS_nil ?_
  refine QS_block ?_
  refine QS_then ?_
  refine TS_seq ?_
  refine TS_region ?_
  refine VS_pure (P_move rfl) rfl rfl rfl ?_
  refine VS_step ((S_invoke (by kernel_rfl) rfl rfl (kind66 _) (fun m' hm he => Kind66_ok _ _) rfl ?_)) rfl
  rintro _ _ ⟨rfl, rfl⟩
  refine VS_pure (P_fieldAddr0 fo32_0 rfl) rfl rfl rfl ?_
  refine VS_step (S_store co5 rfl rfl rfl (.there (.here)) (.here) ?_) rfl
  refine VS_nil ?_
  refine QS_then ?_
  refine TS_seq ?_
  refine TS_region ?_
  refine VS_read (S_loadBA ag32 rfl (.there (.here)) rfl) rfl rfl rfl ?_
  refine VS_step (S_storeAgg ag32 rfl rfl rfl (.there (.there (.here))) rfl rfl ?_) rfl
  refine VS_pure (P_assign rfl) rfl rfl rfl ?_
  refine VS_nil ?_
  refine QS_then ?_
  refine TS_ret ?_
  exact QS_ret [_, _] ⟨⟨_, _, _, _, rfl, .there (.there .here), .inr ⟨ag32, rfl⟩⟩, rfl, trivial⟩ [] (Pick.nil _) ⟨rfl, rfl⟩
  refine VTS_wild rfl rfl (S_store co3 rfl rfl rfl (.there (.here)) (.there (.here)) ?_) rfl
  refine VTS_read rfl (S_loadB sg9 rfl (.here) rfl) rfl rfl rfl ?_
  refine VTS_pure rfl (P_fieldAddr0 fo32_2 rfl) rfl rfl rfl ?_
  refine VTS_wild rfl rfl (S_store co9 rfl rfl rfl (.there (.here)) (.there (.there (.here))) ?_) rfl
  refine VTS_nil ?_
  refine QS_block ?_
  refine QS_then ?_
  refine TS_seq ?_
  refine TS_region ?_
  refine VS_pure (P_move rfl) rfl rfl rfl ?_
  refine VS_step ((S_invoke (by kernel_rfl) rfl rfl (kind66 _) (fun m' hm he => Kind66_ok _ _) rfl ?_)) rfl
  rintro _ _ ⟨rfl, rfl⟩
  refine VS_pure (P_fieldAddr0 fo32_0 rfl) rfl rfl rfl ?_
  refine VS_step (S_store co5 rfl rfl rfl (.there (.here)) (.here) ?_) rfl
  refine VS_nil ?_
  refine QS_then ?_
  refine TS_seq ?_
  refine TS_region ?_
  refine VS_read (S_loadBA ag32 rfl (.there (.here)) rfl) rfl rfl rfl ?_
  refine VS_step (S_storeAgg ag32 rfl rfl rfl (.there (.there (.here))) rfl rfl ?_) rfl
  refine VS_pure (P_assign rfl) rfl rfl rfl ?_
  refine VS_nil ?_
  refine QS_then ?_
  refine TS_ret ?_
  exact QS_ret [_, _] ⟨⟨_, _, _, _, rfl, .there (.there .here), .inr ⟨ag32, rfl⟩⟩, rfl, trivial⟩ [] (Pick.nil _) ⟨rfl, rfl⟩
theorem kind68 (v : Value) (w : World) : (method (Try.prog.types.size + Made.depth) 68 v "Kind").run Try.prog w = .ok (89, v) w := by kernel_rfl
theorem Kind68_ok {m : Mp} (n : Int) (a : Option Addr) (k c : Nat) : CS Try.prog 89 [.agg ([.int .i64 n, .slice a k c] : List Value).toArray] m [] (Gives (.int .u8 3)) := by
  refine CS_of [.tmp 2] Try.func89 rfl rfl rfl ?_
  refine TS_seq ?_
  refine TS_region ?_
  refine VS_step (S_box rfl rfl (fun b1 => ?_)) rfl
  refine VS_pure (P_assign rfl) rfl rfl rfl ?_
  refine VS_nil ?_
  refine QS_then ?_
  refine TS_seq ?_
  refine TS_region ?_
  refine VS_pure (P_assign rfl) rfl rfl rfl ?_
  refine VS_nil ?_
  refine QS_then ?_
  refine TS_ret ?_
  exact QS_ret [_] ⟨rfl, trivial⟩ [] (Pick.nil _) ⟨rfl, rfl⟩
set_option maxHeartbeats 8000000 in
theorem Flat68 {m : Mp} (n : Int) (a : Option Addr) (k c : Nat) : CS Try.prog 11 [.iface 68 (.agg ([.int .i64 n, .slice a k c] : List Value).toArray)] m [] (Gives (.tuple [.agg ([.int .u8 3, .int .i64 n, .string ByteArray.empty, .slice none 0 0, .slice a k c, .int .i8 0, .int .i64 0, .int .i64 0, .int .i64 0, .slice none 0 0, .slice none 0 0, .int .u8 0, .int .i64 0, .slice none 0 0] : List Value).toArray, .int .i64 0].toArray)) := by
  refine CS_of [.cell 2 32, .tmp 3] Try.func11 rfl rfl rfl ?_
  refine TS_seq ?_
  refine TS_region ?_
  refine VS_step (S_alloc zl32 rfl (fun b1 => ?_)) rfl
  refine VS_pure (P_assign rfl) rfl rfl rfl ?_
  refine VS_nil ?_
  refine QS_then ?_
  refine TS_seq ?_
  refine TS_region ?_
  refine VS_pure (P_build zl32 pl32 rfl rfl) rfl rfl rfl ?_
  refine VS_step (S_alloc zl32 rfl (fun b2 => ?_)) rfl
  refine VS_step (S_storeAgg ag32 rfl rfl rfl (.here) rfl rfl ?_) rfl
  refine VS_nil ?_
  refine QS_then ?_
  refine TS_seq ?_
  refine TS_seq ?_
  refine TS_region ?_
  refine VS_pure (P_move rfl) rfl rfl rfl ?_
  refine VS_nil ?_
  refine QS_then ?_
  refine TS_block ?_
  refine TS_seq ?_
  refine TS_region ?_
  refine VS_pure (P_assertNo ni61 us61 rfl rfl Try.zeroValue61) rfl rfl rfl ?_
  refine VS_pure (P_extract rfl rfl) rfl rfl rfl ?_
  refine VS_pure (P_extract rfl rfl) rfl rfl rfl ?_
  refine VS_nil ?_
  refine QS_then ?_
  refine TS_false rfl ?_
  refine TS_seq ?_
  refine TS_region ?_
  refine VS_pure (P_assertNo ni66 us66 rfl rfl Try.zeroValue66) rfl rfl rfl ?_
  refine VS_pure (P_extract rfl rfl) rfl rfl rfl ?_
  refine VS_pure (P_extract rfl rfl) rfl rfl rfl ?_
  refine VS_nil ?_
  refine QS_then ?_
  refine TS_false rfl ?_
  refine TS_seq ?_
  refine TS_region ?_
  refine VS_pure (P_assertYes ni68 us68 rfl) rfl rfl rfl ?_
  refine VS_pure (P_extract rfl rfl) rfl rfl rfl ?_
  refine VS_pure (P_extract rfl rfl) rfl rfl rfl ?_
  refine VS_nil ?_
  refine QS_then ?_
  refine TS_true rfl ?_
  refine TS_seq ?_
  refine TS_region ?_
  refine VS_step (S_alloc zl68 rfl (fun b3 => ?_)) rfl
  refine VS_step (S_storeAgg ag68 rfl rfl rfl (.here) rfl rfl ?_) rfl
  refine VS_nil ?_
  refine QS_then ?_
  refine TS_draw (.step 0 .pure (.step 2 .pure (.step 1 .read (.step 4 .pure (.fork (.step 3 .kept (.step 5 .wild (.step 6 .pure (.step 7 .wild (.done))))) (.step 5 .wild (.step 3 .read (.step 6 .pure (.step 7 .wild (.done)))))))))) mixed (by kernel_rfl) (fun _ _ _ _ hq => hq) ?_
  refine VTS_pure rfl (P_fieldAddr0 fo68_0 rfl) rfl rfl rfl ?_
  refine VTS_pure rfl (P_fieldAddr0 fo68_1 rfl) rfl rfl rfl ?_
  refine VTS_read rfl (S_loadB sg3 rfl (.here) rfl) rfl rfl rfl ?_
  refine VTS_pure rfl (P_fieldAddr0 fo32_1 rfl) rfl rfl rfl ?_
  refine VTS_fork ?_ ?_
  refine VTS_readK rfl (S_loadB sg23 rfl (.here) rfl) rfl rfl rfl ?_
  refine VTS_wild rfl rfl (S_store co3 rfl rfl rfl (.there (.here)) (.there (.here)) ?_) rfl
  refine VTS_pure rfl (P_fieldAddr0 fo32_4 rfl) rfl rfl rfl ?_
  refine VTS_wild rfl rfl (S_store co23 rfl rfl rfl (.there (.here)) (.there (.there (.there (.there (.here))))) ?_) rfl
  refine VTS_nil ?_
  refine QS_block ?_
  refine QS_then ?_
  refine TS_seq ?_
  refine TS_region ?_
  refine VS_pure (P_move rfl) rfl rfl rfl ?_
  refine VS_step ((S_invoke (by kernel_rfl) rfl rfl (kind68 _) (fun m' hm he => Kind68_ok _ _ _ _) rfl ?_)) rfl
  rintro _ _ ⟨rfl, rfl⟩
  refine VS_pure (P_fieldAddr0 fo32_0 rfl) rfl rfl rfl ?_
  refine VS_step (S_store co5 rfl rfl rfl (.there (.here)) (.here) ?_) rfl
  refine VS_nil ?_
  refine QS_then ?_
  refine TS_seq ?_
  refine TS_region ?_
  refine VS_read (S_loadBA ag32 rfl (.there (.here)) rfl) rfl rfl rfl ?_
  refine VS_step (S_storeAgg ag32 rfl rfl rfl (.there (.there (.here))) rfl rfl ?_) rfl
  refine VS_pure (P_assign rfl) rfl rfl rfl ?_
  refine VS_nil ?_
  refine QS_then ?_
  refine TS_ret ?_
  exact QS_ret [_, _] ⟨⟨_, _, _, _, rfl, .there (.there .here), .inr ⟨ag32, rfl⟩⟩, rfl, trivial⟩ [] (Pick.nil _) ⟨rfl, rfl⟩
  refine VTS_wild rfl rfl (S_store co3 rfl rfl rfl (.there (.here)) (.there (.here)) ?_) rfl
  refine VTS_read rfl (S_loadB sg23 rfl (.here) rfl) rfl rfl rfl ?_
  refine VTS_pure rfl (P_fieldAddr0 fo32_4 rfl) rfl rfl rfl ?_
  refine VTS_wild rfl rfl (S_store co23 rfl rfl rfl (.there (.here)) (.there (.there (.there (.there (.here))))) ?_) rfl
  refine VTS_nil ?_
  refine QS_block ?_
  refine QS_then ?_
  refine TS_seq ?_
  refine TS_region ?_
  refine VS_pure (P_move rfl) rfl rfl rfl ?_
  refine VS_step ((S_invoke (by kernel_rfl) rfl rfl (kind68 _) (fun m' hm he => Kind68_ok _ _ _ _) rfl ?_)) rfl
  rintro _ _ ⟨rfl, rfl⟩
  refine VS_pure (P_fieldAddr0 fo32_0 rfl) rfl rfl rfl ?_
  refine VS_step (S_store co5 rfl rfl rfl (.there (.here)) (.here) ?_) rfl
  refine VS_nil ?_
  refine QS_then ?_
  refine TS_seq ?_
  refine TS_region ?_
  refine VS_read (S_loadBA ag32 rfl (.there (.here)) rfl) rfl rfl rfl ?_
  refine VS_step (S_storeAgg ag32 rfl rfl rfl (.there (.there (.here))) rfl rfl ?_) rfl
  refine VS_pure (P_assign rfl) rfl rfl rfl ?_
  refine VS_nil ?_
  refine QS_then ?_
  refine TS_ret ?_
  exact QS_ret [_, _] ⟨⟨_, _, _, _, rfl, .there (.there .here), .inr ⟨ag32, rfl⟩⟩, rfl, trivial⟩ [] (Pick.nil _) ⟨rfl, rfl⟩
theorem kind70 (v : Value) (w : World) : (method (Try.prog.types.size + Made.depth) 70 v "Kind").run Try.prog w = .ok (90, v) w := by kernel_rfl
theorem Kind70_ok {m : Mp} (n o p q r : Int) (a b : Option Addr) (k c l d : Nat) : CS Try.prog 90 [.agg ([.int .i64 n, .int .i8 o, .int .i64 p, .int .i64 q, .int .i64 r, .slice a k c, .slice b l d] : List Value).toArray] m [] (Gives (.int .u8 4)) := by
  refine CS_of [.tmp 2] Try.func90 rfl rfl rfl ?_
  refine TS_seq ?_
  refine TS_region ?_
  refine VS_step (S_box rfl rfl (fun b1 => ?_)) rfl
  refine VS_pure (P_assign rfl) rfl rfl rfl ?_
  refine VS_nil ?_
  refine QS_then ?_
  refine TS_seq ?_
  refine TS_region ?_
  refine VS_pure (P_assign rfl) rfl rfl rfl ?_
  refine VS_nil ?_
  refine QS_then ?_
  refine TS_ret ?_
  exact QS_ret [_] ⟨rfl, trivial⟩ [] (Pick.nil _) ⟨rfl, rfl⟩
set_option maxHeartbeats 8000000 in
theorem Flat70 {m : Mp} (n o p q r : Int) (a b : Option Addr) (k c l d : Nat) : CS Try.prog 11 [.iface 70 (.agg ([.int .i64 n, .int .i8 o, .int .i64 p, .int .i64 q, .int .i64 r, .slice a k c, .slice b l d] : List Value).toArray)] m [] (Gives (.tuple [.agg ([.int .u8 4, .int .i64 n, .string ByteArray.empty, .slice none 0 0, .slice none 0 0, .int .i8 o, .int .i64 p, .int .i64 q, .int .i64 r, .slice a k c, .slice b l d, .int .u8 0, .int .i64 0, .slice none 0 0] : List Value).toArray, .int .i64 0].toArray)) := by
  refine CS_of [.cell 2 32, .tmp 3] Try.func11 rfl rfl rfl ?_
  refine TS_seq ?_
  refine TS_region ?_
  refine VS_step (S_alloc zl32 rfl (fun b1 => ?_)) rfl
  refine VS_pure (P_assign rfl) rfl rfl rfl ?_
  refine VS_nil ?_
  refine QS_then ?_
  refine TS_seq ?_
  refine TS_region ?_
  refine VS_pure (P_build zl32 pl32 rfl rfl) rfl rfl rfl ?_
  refine VS_step (S_alloc zl32 rfl (fun b2 => ?_)) rfl
  refine VS_step (S_storeAgg ag32 rfl rfl rfl (.here) rfl rfl ?_) rfl
  refine VS_nil ?_
  refine QS_then ?_
  refine TS_seq ?_
  refine TS_seq ?_
  refine TS_region ?_
  refine VS_pure (P_move rfl) rfl rfl rfl ?_
  refine VS_nil ?_
  refine QS_then ?_
  refine TS_block ?_
  refine TS_seq ?_
  refine TS_region ?_
  refine VS_pure (P_assertNo ni61 us61 rfl rfl Try.zeroValue61) rfl rfl rfl ?_
  refine VS_pure (P_extract rfl rfl) rfl rfl rfl ?_
  refine VS_pure (P_extract rfl rfl) rfl rfl rfl ?_
  refine VS_nil ?_
  refine QS_then ?_
  refine TS_false rfl ?_
  refine TS_seq ?_
  refine TS_region ?_
  refine VS_pure (P_assertNo ni66 us66 rfl rfl Try.zeroValue66) rfl rfl rfl ?_
  refine VS_pure (P_extract rfl rfl) rfl rfl rfl ?_
  refine VS_pure (P_extract rfl rfl) rfl rfl rfl ?_
  refine VS_nil ?_
  refine QS_then ?_
  refine TS_false rfl ?_
  refine TS_seq ?_
  refine TS_region ?_
  refine VS_pure (P_assertNo ni68 us68 rfl rfl Try.zeroValue68) rfl rfl rfl ?_
  refine VS_pure (P_extract rfl rfl) rfl rfl rfl ?_
  refine VS_pure (P_extract rfl rfl) rfl rfl rfl ?_
  refine VS_nil ?_
  refine QS_then ?_
  refine TS_false rfl ?_
  refine TS_seq ?_
  refine TS_region ?_
  refine VS_pure (P_assertYes ni70 us70 rfl) rfl rfl rfl ?_
  refine VS_pure (P_extract rfl rfl) rfl rfl rfl ?_
  refine VS_pure (P_extract rfl rfl) rfl rfl rfl ?_
  refine VS_nil ?_
  refine QS_then ?_
  refine TS_true rfl ?_
  refine TS_seq ?_
  refine TS_region ?_
  refine VS_step (S_alloc zl70 rfl (fun b3 => ?_)) rfl
  refine VS_step (S_storeAgg ag70 rfl rfl rfl (.here) rfl rfl ?_) rfl
  refine VS_nil ?_
  refine QS_then ?_
  refine TS_draw (.step 0 .pure (.step 2 .pure (.step 1 .read (.step 4 .pure (.fork (.step 3 .kept (.step 5 .wild (.step 6 .pure (.step 7 .wild (.done))))) (.step 5 .wild (.step 3 .read (.step 6 .pure (.step 7 .wild (.done)))))))))) mixed (by kernel_rfl) (fun _ _ _ _ hq => hq) ?_
  refine VTS_pure rfl (P_fieldAddr0 fo70_0 rfl) rfl rfl rfl ?_
  refine VTS_pure rfl (P_fieldAddr0 fo70_1 rfl) rfl rfl rfl ?_
  refine VTS_read rfl (S_loadB sg3 rfl (.here) rfl) rfl rfl rfl ?_
  refine VTS_pure rfl (P_fieldAddr0 fo32_1 rfl) rfl rfl rfl ?_
  refine VTS_fork ?_ ?_
  refine VTS_readK rfl (S_loadBO ag28 rfl (.here) rfl) rfl rfl rfl ?_
  refine VTS_wild rfl rfl (S_store co3 rfl rfl rfl (.there (.here)) (.there (.here)) ?_) rfl
  refine VTS_pure rfl (P_fieldAddr0 fo32_5 rfl) rfl rfl rfl ?_
  refine VTS_wild rfl rfl (S_storeAggO ag28 rfl rfl rfl (.there (.here)) (.there (.there (.there (.there (.there (.cons (.cons (.cons (.cons (.cons (.cons .nil))))))))))) rfl ?_) rfl
  refine VTS_nil ?_
  refine QS_block ?_
  refine QS_then ?_
  refine TS_seq ?_
  refine TS_region ?_
  refine VS_pure (P_move rfl) rfl rfl rfl ?_
  refine VS_step ((S_invoke (by kernel_rfl) rfl rfl (kind70 _) (fun m' hm he => Kind70_ok _ _ _ _ _ _ _ _ _ _ _) rfl ?_)) rfl
  rintro _ _ ⟨rfl, rfl⟩
  refine VS_pure (P_fieldAddr0 fo32_0 rfl) rfl rfl rfl ?_
  refine VS_step (S_store co5 rfl rfl rfl (.there (.here)) (.here) ?_) rfl
  refine VS_nil ?_
  refine QS_then ?_
  refine TS_seq ?_
  refine TS_region ?_
  refine VS_read (S_loadBA ag32 rfl (.there (.here)) rfl) rfl rfl rfl ?_
  refine VS_step (S_storeAgg ag32 rfl rfl rfl (.there (.there (.here))) rfl rfl ?_) rfl
  refine VS_pure (P_assign rfl) rfl rfl rfl ?_
  refine VS_nil ?_
  refine QS_then ?_
  refine TS_ret ?_
  exact QS_ret [_, _] ⟨⟨_, _, _, _, rfl, .there (.there .here), .inr ⟨ag32, rfl⟩⟩, rfl, trivial⟩ [] (Pick.nil _) ⟨rfl, rfl⟩
  refine VTS_wild rfl rfl (S_store co3 rfl rfl rfl (.there (.here)) (.there (.here)) ?_) rfl
  refine VTS_read rfl (S_loadBO ag28 rfl (.here) rfl) rfl rfl rfl ?_
  refine VTS_pure rfl (P_fieldAddr0 fo32_5 rfl) rfl rfl rfl ?_
  refine VTS_wild rfl rfl (S_storeAggO ag28 rfl rfl rfl (.there (.here)) (.there (.there (.there (.there (.there (.cons (.cons (.cons (.cons (.cons (.cons .nil))))))))))) rfl ?_) rfl
  refine VTS_nil ?_
  refine QS_block ?_
  refine QS_then ?_
  refine TS_seq ?_
  refine TS_region ?_
  refine VS_pure (P_move rfl) rfl rfl rfl ?_
  refine VS_step ((S_invoke (by kernel_rfl) rfl rfl (kind70 _) (fun m' hm he => Kind70_ok _ _ _ _ _ _ _ _ _ _ _) rfl ?_)) rfl
  rintro _ _ ⟨rfl, rfl⟩
  refine VS_pure (P_fieldAddr0 fo32_0 rfl) rfl rfl rfl ?_
  refine VS_step (S_store co5 rfl rfl rfl (.there (.here)) (.here) ?_) rfl
  refine VS_nil ?_
  refine QS_then ?_
  refine TS_seq ?_
  refine TS_region ?_
  refine VS_read (S_loadBA ag32 rfl (.there (.here)) rfl) rfl rfl rfl ?_
  refine VS_step (S_storeAgg ag32 rfl rfl rfl (.there (.there (.here))) rfl rfl ?_) rfl
  refine VS_pure (P_assign rfl) rfl rfl rfl ?_
  refine VS_nil ?_
  refine QS_then ?_
  refine TS_ret ?_
  exact QS_ret [_, _] ⟨⟨_, _, _, _, rfl, .there (.there .here), .inr ⟨ag32, rfl⟩⟩, rfl, trivial⟩ [] (Pick.nil _) ⟨rfl, rfl⟩
theorem kind59 (v : Value) (w : World) : (method (Try.prog.types.size + Made.depth) 59 v "Kind").run Try.prog w = .ok (85, v) w := by kernel_rfl
theorem Kind59_ok {m : Mp} (n : Int) : CS Try.prog 85 [.agg ([.int .i64 n] : List Value).toArray] m [] (Gives (.int .u8 5)) := by
  refine CS_of [.tmp 2] Try.func85 rfl rfl rfl ?_
  refine TS_seq ?_
  refine TS_region ?_
  refine VS_step (S_box rfl rfl (fun b1 => ?_)) rfl
  refine VS_pure (P_assign rfl) rfl rfl rfl ?_
  refine VS_nil ?_
  refine QS_then ?_
  refine TS_seq ?_
  refine TS_region ?_
  refine VS_pure (P_assign rfl) rfl rfl rfl ?_
  refine VS_nil ?_
  refine QS_then ?_
  refine TS_ret ?_
  exact QS_ret [_] ⟨rfl, trivial⟩ [] (Pick.nil _) ⟨rfl, rfl⟩
set_option maxHeartbeats 8000000 in
theorem Flat59 {m : Mp} (n : Int) : CS Try.prog 11 [.iface 59 (.agg ([.int .i64 n] : List Value).toArray)] m [] (Gives (.tuple [.agg ([.int .u8 5, .int .i64 n, .string ByteArray.empty, .slice none 0 0, .slice none 0 0, .int .i8 0, .int .i64 0, .int .i64 0, .int .i64 0, .slice none 0 0, .slice none 0 0, .int .u8 0, .int .i64 0, .slice none 0 0] : List Value).toArray, .int .i64 0].toArray)) := by
  refine CS_of [.cell 2 32, .tmp 3] Try.func11 rfl rfl rfl ?_
  refine TS_seq ?_
  refine TS_region ?_
  refine VS_step (S_alloc zl32 rfl (fun b1 => ?_)) rfl
  refine VS_pure (P_assign rfl) rfl rfl rfl ?_
  refine VS_nil ?_
  refine QS_then ?_
  refine TS_seq ?_
  refine TS_region ?_
  refine VS_pure (P_build zl32 pl32 rfl rfl) rfl rfl rfl ?_
  refine VS_step (S_alloc zl32 rfl (fun b2 => ?_)) rfl
  refine VS_step (S_storeAgg ag32 rfl rfl rfl (.here) rfl rfl ?_) rfl
  refine VS_nil ?_
  refine QS_then ?_
  refine TS_seq ?_
  refine TS_seq ?_
  refine TS_region ?_
  refine VS_pure (P_move rfl) rfl rfl rfl ?_
  refine VS_nil ?_
  refine QS_then ?_
  refine TS_block ?_
  refine TS_seq ?_
  refine TS_region ?_
  refine VS_pure (P_assertNo ni61 us61 rfl rfl Try.zeroValue61) rfl rfl rfl ?_
  refine VS_pure (P_extract rfl rfl) rfl rfl rfl ?_
  refine VS_pure (P_extract rfl rfl) rfl rfl rfl ?_
  refine VS_nil ?_
  refine QS_then ?_
  refine TS_false rfl ?_
  refine TS_seq ?_
  refine TS_region ?_
  refine VS_pure (P_assertNo ni66 us66 rfl rfl Try.zeroValue66) rfl rfl rfl ?_
  refine VS_pure (P_extract rfl rfl) rfl rfl rfl ?_
  refine VS_pure (P_extract rfl rfl) rfl rfl rfl ?_
  refine VS_nil ?_
  refine QS_then ?_
  refine TS_false rfl ?_
  refine TS_seq ?_
  refine TS_region ?_
  refine VS_pure (P_assertNo ni68 us68 rfl rfl Try.zeroValue68) rfl rfl rfl ?_
  refine VS_pure (P_extract rfl rfl) rfl rfl rfl ?_
  refine VS_pure (P_extract rfl rfl) rfl rfl rfl ?_
  refine VS_nil ?_
  refine QS_then ?_
  refine TS_false rfl ?_
  refine TS_seq ?_
  refine TS_region ?_
  refine VS_pure (P_assertNo ni70 us70 rfl rfl Try.zeroValue70) rfl rfl rfl ?_
  refine VS_pure (P_extract rfl rfl) rfl rfl rfl ?_
  refine VS_pure (P_extract rfl rfl) rfl rfl rfl ?_
  refine VS_nil ?_
  refine QS_then ?_
  refine TS_false rfl ?_
  refine TS_seq ?_
  refine TS_region ?_
  refine VS_pure (P_assertYes ni59 us59 rfl) rfl rfl rfl ?_
  refine VS_pure (P_extract rfl rfl) rfl rfl rfl ?_
  refine VS_pure (P_extract rfl rfl) rfl rfl rfl ?_
  refine VS_nil ?_
  refine QS_then ?_
  refine TS_true rfl ?_
  refine TS_seq ?_
  refine TS_region ?_
  refine VS_step (S_alloc zl59 rfl (fun b3 => ?_)) rfl
  refine VS_step (S_storeAgg ag59 rfl rfl rfl (.here) rfl rfl ?_) rfl
  refine VS_nil ?_
  refine QS_then ?_
  refine TS_region ?_
  refine VS_pure (P_fieldAddr0 fo59_0 rfl) rfl rfl rfl ?_
  refine VS_read (S_loadB sg3 rfl (.here) rfl) rfl rfl rfl ?_
  refine VS_pure (P_fieldAddr0 fo32_1 rfl) rfl rfl rfl ?_
  refine VS_step (S_store co3 rfl rfl rfl (.there (.here)) (.there (.here)) ?_) rfl
  refine VS_nil ?_
  refine QS_block ?_
  refine QS_then ?_
  refine TS_seq ?_
  refine TS_region ?_
  refine VS_pure (P_move rfl) rfl rfl rfl ?_
  refine VS_step ((S_invoke (by kernel_rfl) rfl rfl (kind59 _) (fun m' hm he => Kind59_ok _) rfl ?_)) rfl
  rintro _ _ ⟨rfl, rfl⟩
  refine VS_pure (P_fieldAddr0 fo32_0 rfl) rfl rfl rfl ?_
  refine VS_step (S_store co5 rfl rfl rfl (.there (.here)) (.here) ?_) rfl
  refine VS_nil ?_
  refine QS_then ?_
  refine TS_seq ?_
  refine TS_region ?_
  refine VS_read (S_loadBA ag32 rfl (.there (.here)) rfl) rfl rfl rfl ?_
  refine VS_step (S_storeAgg ag32 rfl rfl rfl (.there (.there (.here))) rfl rfl ?_) rfl
  refine VS_pure (P_assign rfl) rfl rfl rfl ?_
  refine VS_nil ?_
  refine QS_then ?_
  refine TS_ret ?_
  exact QS_ret [_, _] ⟨⟨_, _, _, _, rfl, .there (.there .here), .inr ⟨ag32, rfl⟩⟩, rfl, trivial⟩ [] (Pick.nil _) ⟨rfl, rfl⟩
theorem kind71 (v : Value) (w : World) : (method (Try.prog.types.size + Made.depth) 71 v "Kind").run Try.prog w = .ok (91, v) w := by kernel_rfl
theorem Kind71_ok {m : Mp} (n : Int) : CS Try.prog 91 [.agg ([.int .i64 n] : List Value).toArray] m [] (Gives (.int .u8 6)) := by
  refine CS_of [.tmp 2] Try.func91 rfl rfl rfl ?_
  refine TS_seq ?_
  refine TS_region ?_
  refine VS_step (S_box rfl rfl (fun b1 => ?_)) rfl
  refine VS_pure (P_assign rfl) rfl rfl rfl ?_
  refine VS_nil ?_
  refine QS_then ?_
  refine TS_seq ?_
  refine TS_region ?_
  refine VS_pure (P_assign rfl) rfl rfl rfl ?_
  refine VS_nil ?_
  refine QS_then ?_
  refine TS_ret ?_
  exact QS_ret [_] ⟨rfl, trivial⟩ [] (Pick.nil _) ⟨rfl, rfl⟩
set_option maxHeartbeats 8000000 in
theorem Flat71 {m : Mp} (n : Int) : CS Try.prog 11 [.iface 71 (.agg ([.int .i64 n] : List Value).toArray)] m [] (Gives (.tuple [.agg ([.int .u8 6, .int .i64 n, .string ByteArray.empty, .slice none 0 0, .slice none 0 0, .int .i8 0, .int .i64 0, .int .i64 0, .int .i64 0, .slice none 0 0, .slice none 0 0, .int .u8 0, .int .i64 0, .slice none 0 0] : List Value).toArray, .int .i64 0].toArray)) := by
  refine CS_of [.cell 2 32, .tmp 3] Try.func11 rfl rfl rfl ?_
  refine TS_seq ?_
  refine TS_region ?_
  refine VS_step (S_alloc zl32 rfl (fun b1 => ?_)) rfl
  refine VS_pure (P_assign rfl) rfl rfl rfl ?_
  refine VS_nil ?_
  refine QS_then ?_
  refine TS_seq ?_
  refine TS_region ?_
  refine VS_pure (P_build zl32 pl32 rfl rfl) rfl rfl rfl ?_
  refine VS_step (S_alloc zl32 rfl (fun b2 => ?_)) rfl
  refine VS_step (S_storeAgg ag32 rfl rfl rfl (.here) rfl rfl ?_) rfl
  refine VS_nil ?_
  refine QS_then ?_
  refine TS_seq ?_
  refine TS_seq ?_
  refine TS_region ?_
  refine VS_pure (P_move rfl) rfl rfl rfl ?_
  refine VS_nil ?_
  refine QS_then ?_
  refine TS_block ?_
  refine TS_seq ?_
  refine TS_region ?_
  refine VS_pure (P_assertNo ni61 us61 rfl rfl Try.zeroValue61) rfl rfl rfl ?_
  refine VS_pure (P_extract rfl rfl) rfl rfl rfl ?_
  refine VS_pure (P_extract rfl rfl) rfl rfl rfl ?_
  refine VS_nil ?_
  refine QS_then ?_
  refine TS_false rfl ?_
  refine TS_seq ?_
  refine TS_region ?_
  refine VS_pure (P_assertNo ni66 us66 rfl rfl Try.zeroValue66) rfl rfl rfl ?_
  refine VS_pure (P_extract rfl rfl) rfl rfl rfl ?_
  refine VS_pure (P_extract rfl rfl) rfl rfl rfl ?_
  refine VS_nil ?_
  refine QS_then ?_
  refine TS_false rfl ?_
  refine TS_seq ?_
  refine TS_region ?_
  refine VS_pure (P_assertNo ni68 us68 rfl rfl Try.zeroValue68) rfl rfl rfl ?_
  refine VS_pure (P_extract rfl rfl) rfl rfl rfl ?_
  refine VS_pure (P_extract rfl rfl) rfl rfl rfl ?_
  refine VS_nil ?_
  refine QS_then ?_
  refine TS_false rfl ?_
  refine TS_seq ?_
  refine TS_region ?_
  refine VS_pure (P_assertNo ni70 us70 rfl rfl Try.zeroValue70) rfl rfl rfl ?_
  refine VS_pure (P_extract rfl rfl) rfl rfl rfl ?_
  refine VS_pure (P_extract rfl rfl) rfl rfl rfl ?_
  refine VS_nil ?_
  refine QS_then ?_
  refine TS_false rfl ?_
  refine TS_seq ?_
  refine TS_region ?_
  refine VS_pure (P_assertNo ni59 us59 rfl rfl Try.zeroValue59) rfl rfl rfl ?_
  refine VS_pure (P_extract rfl rfl) rfl rfl rfl ?_
  refine VS_pure (P_extract rfl rfl) rfl rfl rfl ?_
  refine VS_nil ?_
  refine QS_then ?_
  refine TS_false rfl ?_
  refine TS_seq ?_
  refine TS_region ?_
  refine VS_pure (P_assertYes ni71 us71 rfl) rfl rfl rfl ?_
  refine VS_pure (P_extract rfl rfl) rfl rfl rfl ?_
  refine VS_pure (P_extract rfl rfl) rfl rfl rfl ?_
  refine VS_nil ?_
  refine QS_then ?_
  refine TS_true rfl ?_
  refine TS_seq ?_
  refine TS_region ?_
  refine VS_step (S_alloc zl71 rfl (fun b3 => ?_)) rfl
  refine VS_step (S_storeAgg ag71 rfl rfl rfl (.here) rfl rfl ?_) rfl
  refine VS_nil ?_
  refine QS_then ?_
  refine TS_region ?_
  refine VS_pure (P_fieldAddr0 fo71_0 rfl) rfl rfl rfl ?_
  refine VS_read (S_loadB sg3 rfl (.here) rfl) rfl rfl rfl ?_
  refine VS_pure (P_fieldAddr0 fo32_1 rfl) rfl rfl rfl ?_
  refine VS_step (S_store co3 rfl rfl rfl (.there (.here)) (.there (.here)) ?_) rfl
  refine VS_nil ?_
  refine QS_block ?_
  refine QS_then ?_
  refine TS_seq ?_
  refine TS_region ?_
  refine VS_pure (P_move rfl) rfl rfl rfl ?_
  refine VS_step ((S_invoke (by kernel_rfl) rfl rfl (kind71 _) (fun m' hm he => Kind71_ok _) rfl ?_)) rfl
  rintro _ _ ⟨rfl, rfl⟩
  refine VS_pure (P_fieldAddr0 fo32_0 rfl) rfl rfl rfl ?_
  refine VS_step (S_store co5 rfl rfl rfl (.there (.here)) (.here) ?_) rfl
  refine VS_nil ?_
  refine QS_then ?_
  refine TS_seq ?_
  refine TS_region ?_
  refine VS_read (S_loadBA ag32 rfl (.there (.here)) rfl) rfl rfl rfl ?_
  refine VS_step (S_storeAgg ag32 rfl rfl rfl (.there (.there (.here))) rfl rfl ?_) rfl
  refine VS_pure (P_assign rfl) rfl rfl rfl ?_
  refine VS_nil ?_
  refine QS_then ?_
  refine TS_ret ?_
  exact QS_ret [_, _] ⟨⟨_, _, _, _, rfl, .there (.there .here), .inr ⟨ag32, rfl⟩⟩, rfl, trivial⟩ [] (Pick.nil _) ⟨rfl, rfl⟩
theorem kind72 (v : Value) (w : World) : (method (Try.prog.types.size + Made.depth) 72 v "Kind").run Try.prog w = .ok (92, v) w := by kernel_rfl
theorem Kind72_ok {m : Mp} (n : Int) : CS Try.prog 92 [.agg ([.int .i64 n] : List Value).toArray] m [] (Gives (.int .u8 7)) := by
  refine CS_of [.tmp 2] Try.func92 rfl rfl rfl ?_
  refine TS_seq ?_
  refine TS_region ?_
  refine VS_step (S_box rfl rfl (fun b1 => ?_)) rfl
  refine VS_pure (P_assign rfl) rfl rfl rfl ?_
  refine VS_nil ?_
  refine QS_then ?_
  refine TS_seq ?_
  refine TS_region ?_
  refine VS_pure (P_assign rfl) rfl rfl rfl ?_
  refine VS_nil ?_
  refine QS_then ?_
  refine TS_ret ?_
  exact QS_ret [_] ⟨rfl, trivial⟩ [] (Pick.nil _) ⟨rfl, rfl⟩
set_option maxHeartbeats 8000000 in
theorem Flat72 {m : Mp} (n : Int) : CS Try.prog 11 [.iface 72 (.agg ([.int .i64 n] : List Value).toArray)] m [] (Gives (.tuple [.agg ([.int .u8 7, .int .i64 n, .string ByteArray.empty, .slice none 0 0, .slice none 0 0, .int .i8 0, .int .i64 0, .int .i64 0, .int .i64 0, .slice none 0 0, .slice none 0 0, .int .u8 0, .int .i64 0, .slice none 0 0] : List Value).toArray, .int .i64 0].toArray)) := by
  refine CS_of [.cell 2 32, .tmp 3] Try.func11 rfl rfl rfl ?_
  refine TS_seq ?_
  refine TS_region ?_
  refine VS_step (S_alloc zl32 rfl (fun b1 => ?_)) rfl
  refine VS_pure (P_assign rfl) rfl rfl rfl ?_
  refine VS_nil ?_
  refine QS_then ?_
  refine TS_seq ?_
  refine TS_region ?_
  refine VS_pure (P_build zl32 pl32 rfl rfl) rfl rfl rfl ?_
  refine VS_step (S_alloc zl32 rfl (fun b2 => ?_)) rfl
  refine VS_step (S_storeAgg ag32 rfl rfl rfl (.here) rfl rfl ?_) rfl
  refine VS_nil ?_
  refine QS_then ?_
  refine TS_seq ?_
  refine TS_seq ?_
  refine TS_region ?_
  refine VS_pure (P_move rfl) rfl rfl rfl ?_
  refine VS_nil ?_
  refine QS_then ?_
  refine TS_block ?_
  refine TS_seq ?_
  refine TS_region ?_
  refine VS_pure (P_assertNo ni61 us61 rfl rfl Try.zeroValue61) rfl rfl rfl ?_
  refine VS_pure (P_extract rfl rfl) rfl rfl rfl ?_
  refine VS_pure (P_extract rfl rfl) rfl rfl rfl ?_
  refine VS_nil ?_
  refine QS_then ?_
  refine TS_false rfl ?_
  refine TS_seq ?_
  refine TS_region ?_
  refine VS_pure (P_assertNo ni66 us66 rfl rfl Try.zeroValue66) rfl rfl rfl ?_
  refine VS_pure (P_extract rfl rfl) rfl rfl rfl ?_
  refine VS_pure (P_extract rfl rfl) rfl rfl rfl ?_
  refine VS_nil ?_
  refine QS_then ?_
  refine TS_false rfl ?_
  refine TS_seq ?_
  refine TS_region ?_
  refine VS_pure (P_assertNo ni68 us68 rfl rfl Try.zeroValue68) rfl rfl rfl ?_
  refine VS_pure (P_extract rfl rfl) rfl rfl rfl ?_
  refine VS_pure (P_extract rfl rfl) rfl rfl rfl ?_
  refine VS_nil ?_
  refine QS_then ?_
  refine TS_false rfl ?_
  refine TS_seq ?_
  refine TS_region ?_
  refine VS_pure (P_assertNo ni70 us70 rfl rfl Try.zeroValue70) rfl rfl rfl ?_
  refine VS_pure (P_extract rfl rfl) rfl rfl rfl ?_
  refine VS_pure (P_extract rfl rfl) rfl rfl rfl ?_
  refine VS_nil ?_
  refine QS_then ?_
  refine TS_false rfl ?_
  refine TS_seq ?_
  refine TS_region ?_
  refine VS_pure (P_assertNo ni59 us59 rfl rfl Try.zeroValue59) rfl rfl rfl ?_
  refine VS_pure (P_extract rfl rfl) rfl rfl rfl ?_
  refine VS_pure (P_extract rfl rfl) rfl rfl rfl ?_
  refine VS_nil ?_
  refine QS_then ?_
  refine TS_false rfl ?_
  refine TS_seq ?_
  refine TS_region ?_
  refine VS_pure (P_assertNo ni71 us71 rfl rfl Try.zeroValue71) rfl rfl rfl ?_
  refine VS_pure (P_extract rfl rfl) rfl rfl rfl ?_
  refine VS_pure (P_extract rfl rfl) rfl rfl rfl ?_
  refine VS_nil ?_
  refine QS_then ?_
  refine TS_false rfl ?_
  refine TS_seq ?_
  refine TS_region ?_
  refine VS_pure (P_assertYes ni72 us72 rfl) rfl rfl rfl ?_
  refine VS_pure (P_extract rfl rfl) rfl rfl rfl ?_
  refine VS_pure (P_extract rfl rfl) rfl rfl rfl ?_
  refine VS_nil ?_
  refine QS_then ?_
  refine TS_true rfl ?_
  refine TS_seq ?_
  refine TS_region ?_
  refine VS_step (S_alloc zl72 rfl (fun b3 => ?_)) rfl
  refine VS_step (S_storeAgg ag72 rfl rfl rfl (.here) rfl rfl ?_) rfl
  refine VS_nil ?_
  refine QS_then ?_
  refine TS_region ?_
  refine VS_pure (P_fieldAddr0 fo72_0 rfl) rfl rfl rfl ?_
  refine VS_read (S_loadB sg3 rfl (.here) rfl) rfl rfl rfl ?_
  refine VS_pure (P_fieldAddr0 fo32_1 rfl) rfl rfl rfl ?_
  refine VS_step (S_store co3 rfl rfl rfl (.there (.here)) (.there (.here)) ?_) rfl
  refine VS_nil ?_
  refine QS_block ?_
  refine QS_then ?_
  refine TS_seq ?_
  refine TS_region ?_
  refine VS_pure (P_move rfl) rfl rfl rfl ?_
  refine VS_step ((S_invoke (by kernel_rfl) rfl rfl (kind72 _) (fun m' hm he => Kind72_ok _) rfl ?_)) rfl
  rintro _ _ ⟨rfl, rfl⟩
  refine VS_pure (P_fieldAddr0 fo32_0 rfl) rfl rfl rfl ?_
  refine VS_step (S_store co5 rfl rfl rfl (.there (.here)) (.here) ?_) rfl
  refine VS_nil ?_
  refine QS_then ?_
  refine TS_seq ?_
  refine TS_region ?_
  refine VS_read (S_loadBA ag32 rfl (.there (.here)) rfl) rfl rfl rfl ?_
  refine VS_step (S_storeAgg ag32 rfl rfl rfl (.there (.there (.here))) rfl rfl ?_) rfl
  refine VS_pure (P_assign rfl) rfl rfl rfl ?_
  refine VS_nil ?_
  refine QS_then ?_
  refine TS_ret ?_
  exact QS_ret [_, _] ⟨⟨_, _, _, _, rfl, .there (.there .here), .inr ⟨ag32, rfl⟩⟩, rfl, trivial⟩ [] (Pick.nil _) ⟨rfl, rfl⟩
theorem kind57 (v : Value) (w : World) : (method (Try.prog.types.size + Made.depth) 57 v "Kind").run Try.prog w = .ok (84, v) w := by kernel_rfl
theorem Kind57_ok {m : Mp}  : CS Try.prog 84 [.agg ([] : List Value).toArray] m [] (Gives (.int .u8 8)) := by
  refine CS_of [.tmp 2] Try.func84 rfl rfl rfl ?_
  refine TS_seq ?_
  refine TS_region ?_
  refine VS_step (S_box rfl rfl (fun b1 => ?_)) rfl
  refine VS_pure (P_assign rfl) rfl rfl rfl ?_
  refine VS_nil ?_
  refine QS_then ?_
  refine TS_seq ?_
  refine TS_region ?_
  refine VS_pure (P_assign rfl) rfl rfl rfl ?_
  refine VS_nil ?_
  refine QS_then ?_
  refine TS_ret ?_
  exact QS_ret [_] ⟨rfl, trivial⟩ [] (Pick.nil _) ⟨rfl, rfl⟩
set_option maxHeartbeats 8000000 in
theorem Flat57 {m : Mp}  : CS Try.prog 11 [.iface 57 (.agg ([] : List Value).toArray)] m [] (Gives (.tuple [.agg ([.int .u8 8, .int .i64 0, .string ByteArray.empty, .slice none 0 0, .slice none 0 0, .int .i8 0, .int .i64 0, .int .i64 0, .int .i64 0, .slice none 0 0, .slice none 0 0, .int .u8 0, .int .i64 0, .slice none 0 0] : List Value).toArray, .int .i64 0].toArray)) := by
  refine CS_of [.cell 2 32, .tmp 3] Try.func11 rfl rfl rfl ?_
  refine TS_seq ?_
  refine TS_region ?_
  refine VS_step (S_alloc zl32 rfl (fun b1 => ?_)) rfl
  refine VS_pure (P_assign rfl) rfl rfl rfl ?_
  refine VS_nil ?_
  refine QS_then ?_
  refine TS_seq ?_
  refine TS_region ?_
  refine VS_pure (P_build zl32 pl32 rfl rfl) rfl rfl rfl ?_
  refine VS_step (S_alloc zl32 rfl (fun b2 => ?_)) rfl
  refine VS_step (S_storeAgg ag32 rfl rfl rfl (.here) rfl rfl ?_) rfl
  refine VS_nil ?_
  refine QS_then ?_
  refine TS_seq ?_
  refine TS_seq ?_
  refine TS_region ?_
  refine VS_pure (P_move rfl) rfl rfl rfl ?_
  refine VS_nil ?_
  refine QS_then ?_
  refine TS_block ?_
  refine TS_seq ?_
  refine TS_region ?_
  refine VS_pure (P_assertNo ni61 us61 rfl rfl Try.zeroValue61) rfl rfl rfl ?_
  refine VS_pure (P_extract rfl rfl) rfl rfl rfl ?_
  refine VS_pure (P_extract rfl rfl) rfl rfl rfl ?_
  refine VS_nil ?_
  refine QS_then ?_
  refine TS_false rfl ?_
  refine TS_seq ?_
  refine TS_region ?_
  refine VS_pure (P_assertNo ni66 us66 rfl rfl Try.zeroValue66) rfl rfl rfl ?_
  refine VS_pure (P_extract rfl rfl) rfl rfl rfl ?_
  refine VS_pure (P_extract rfl rfl) rfl rfl rfl ?_
  refine VS_nil ?_
  refine QS_then ?_
  refine TS_false rfl ?_
  refine TS_seq ?_
  refine TS_region ?_
  refine VS_pure (P_assertNo ni68 us68 rfl rfl Try.zeroValue68) rfl rfl rfl ?_
  refine VS_pure (P_extract rfl rfl) rfl rfl rfl ?_
  refine VS_pure (P_extract rfl rfl) rfl rfl rfl ?_
  refine VS_nil ?_
  refine QS_then ?_
  refine TS_false rfl ?_
  refine TS_seq ?_
  refine TS_region ?_
  refine VS_pure (P_assertNo ni70 us70 rfl rfl Try.zeroValue70) rfl rfl rfl ?_
  refine VS_pure (P_extract rfl rfl) rfl rfl rfl ?_
  refine VS_pure (P_extract rfl rfl) rfl rfl rfl ?_
  refine VS_nil ?_
  refine QS_then ?_
  refine TS_false rfl ?_
  refine TS_seq ?_
  refine TS_region ?_
  refine VS_pure (P_assertNo ni59 us59 rfl rfl Try.zeroValue59) rfl rfl rfl ?_
  refine VS_pure (P_extract rfl rfl) rfl rfl rfl ?_
  refine VS_pure (P_extract rfl rfl) rfl rfl rfl ?_
  refine VS_nil ?_
  refine QS_then ?_
  refine TS_false rfl ?_
  refine TS_seq ?_
  refine TS_region ?_
  refine VS_pure (P_assertNo ni71 us71 rfl rfl Try.zeroValue71) rfl rfl rfl ?_
  refine VS_pure (P_extract rfl rfl) rfl rfl rfl ?_
  refine VS_pure (P_extract rfl rfl) rfl rfl rfl ?_
  refine VS_nil ?_
  refine QS_then ?_
  refine TS_false rfl ?_
  refine TS_seq ?_
  refine TS_region ?_
  refine VS_pure (P_assertNo ni72 us72 rfl rfl Try.zeroValue72) rfl rfl rfl ?_
  refine VS_pure (P_extract rfl rfl) rfl rfl rfl ?_
  refine VS_pure (P_extract rfl rfl) rfl rfl rfl ?_
  refine VS_nil ?_
  refine QS_then ?_
  refine TS_false rfl ?_
  refine TS_seq ?_
  refine TS_region ?_
  refine VS_pure (P_assertYes ni57 us57 rfl) rfl rfl rfl ?_
  refine VS_pure (P_extract rfl rfl) rfl rfl rfl ?_
  refine VS_pure (P_extract rfl rfl) rfl rfl rfl ?_
  refine VS_nil ?_
  refine QS_then ?_
  refine TS_true rfl ?_
  refine TS_region ?_
  refine VS_step (S_alloc zl57 rfl (fun b3 => ?_)) rfl
  refine VS_step (S_storeAgg ag57 rfl rfl rfl (.here) rfl rfl ?_) rfl
  refine VS_nil ?_
  refine QS_block ?_
  refine QS_then ?_
  refine TS_seq ?_
  refine TS_region ?_
  refine VS_pure (P_move rfl) rfl rfl rfl ?_
  refine VS_step ((S_invoke (by kernel_rfl) rfl rfl (kind57 _) (fun m' hm he => Kind57_ok) rfl ?_)) rfl
  rintro _ _ ⟨rfl, rfl⟩
  refine VS_pure (P_fieldAddr0 fo32_0 rfl) rfl rfl rfl ?_
  refine VS_step (S_store co5 rfl rfl rfl (.there (.here)) (.here) ?_) rfl
  refine VS_nil ?_
  refine QS_then ?_
  refine TS_seq ?_
  refine TS_region ?_
  refine VS_read (S_loadBA ag32 rfl (.there (.here)) rfl) rfl rfl rfl ?_
  refine VS_step (S_storeAgg ag32 rfl rfl rfl (.there (.there (.here))) rfl rfl ?_) rfl
  refine VS_pure (P_assign rfl) rfl rfl rfl ?_
  refine VS_nil ?_
  refine QS_then ?_
  refine TS_ret ?_
  exact QS_ret [_, _] ⟨⟨_, _, _, _, rfl, .there (.there .here), .inr ⟨ag32, rfl⟩⟩, rfl, trivial⟩ [] (Pick.nil _) ⟨rfl, rfl⟩
theorem kind64 (v : Value) (w : World) : (method (Try.prog.types.size + Made.depth) 64 v "Kind").run Try.prog w = .ok (87, v) w := by kernel_rfl
theorem Kind64_ok {m : Mp} (o n : Int) : CS Try.prog 87 [.agg ([.int .u8 o, .int .i64 n] : List Value).toArray] m [] (Gives (.int .u8 64)) := by
  refine CS_of [.tmp 2] Try.func87 rfl rfl rfl ?_
  refine TS_seq ?_
  refine TS_region ?_
  refine VS_step (S_box rfl rfl (fun b1 => ?_)) rfl
  refine VS_pure (P_assign rfl) rfl rfl rfl ?_
  refine VS_nil ?_
  refine QS_then ?_
  refine TS_seq ?_
  refine TS_region ?_
  refine VS_pure (P_assign rfl) rfl rfl rfl ?_
  refine VS_nil ?_
  refine QS_then ?_
  refine TS_ret ?_
  exact QS_ret [_] ⟨rfl, trivial⟩ [] (Pick.nil _) ⟨rfl, rfl⟩
set_option maxHeartbeats 8000000 in
theorem Flat64 {m : Mp} (o n : Int) : CS Try.prog 11 [.iface 64 (.agg ([.int .u8 o, .int .i64 n] : List Value).toArray)] m [] (Gives (.tuple [.agg ([.int .u8 64, .int .i64 0, .string ByteArray.empty, .slice none 0 0, .slice none 0 0, .int .i8 0, .int .i64 0, .int .i64 0, .int .i64 0, .slice none 0 0, .slice none 0 0, .int .u8 o, .int .i64 n, .slice none 0 0] : List Value).toArray, .int .i64 0].toArray)) := by
  refine CS_of [.cell 2 32, .tmp 3] Try.func11 rfl rfl rfl ?_
  refine TS_seq ?_
  refine TS_region ?_
  refine VS_step (S_alloc zl32 rfl (fun b1 => ?_)) rfl
  refine VS_pure (P_assign rfl) rfl rfl rfl ?_
  refine VS_nil ?_
  refine QS_then ?_
  refine TS_seq ?_
  refine TS_region ?_
  refine VS_pure (P_build zl32 pl32 rfl rfl) rfl rfl rfl ?_
  refine VS_step (S_alloc zl32 rfl (fun b2 => ?_)) rfl
  refine VS_step (S_storeAgg ag32 rfl rfl rfl (.here) rfl rfl ?_) rfl
  refine VS_nil ?_
  refine QS_then ?_
  refine TS_seq ?_
  refine TS_seq ?_
  refine TS_region ?_
  refine VS_pure (P_move rfl) rfl rfl rfl ?_
  refine VS_nil ?_
  refine QS_then ?_
  refine TS_block ?_
  refine TS_seq ?_
  refine TS_region ?_
  refine VS_pure (P_assertNo ni61 us61 rfl rfl Try.zeroValue61) rfl rfl rfl ?_
  refine VS_pure (P_extract rfl rfl) rfl rfl rfl ?_
  refine VS_pure (P_extract rfl rfl) rfl rfl rfl ?_
  refine VS_nil ?_
  refine QS_then ?_
  refine TS_false rfl ?_
  refine TS_seq ?_
  refine TS_region ?_
  refine VS_pure (P_assertNo ni66 us66 rfl rfl Try.zeroValue66) rfl rfl rfl ?_
  refine VS_pure (P_extract rfl rfl) rfl rfl rfl ?_
  refine VS_pure (P_extract rfl rfl) rfl rfl rfl ?_
  refine VS_nil ?_
  refine QS_then ?_
  refine TS_false rfl ?_
  refine TS_seq ?_
  refine TS_region ?_
  refine VS_pure (P_assertNo ni68 us68 rfl rfl Try.zeroValue68) rfl rfl rfl ?_
  refine VS_pure (P_extract rfl rfl) rfl rfl rfl ?_
  refine VS_pure (P_extract rfl rfl) rfl rfl rfl ?_
  refine VS_nil ?_
  refine QS_then ?_
  refine TS_false rfl ?_
  refine TS_seq ?_
  refine TS_region ?_
  refine VS_pure (P_assertNo ni70 us70 rfl rfl Try.zeroValue70) rfl rfl rfl ?_
  refine VS_pure (P_extract rfl rfl) rfl rfl rfl ?_
  refine VS_pure (P_extract rfl rfl) rfl rfl rfl ?_
  refine VS_nil ?_
  refine QS_then ?_
  refine TS_false rfl ?_
  refine TS_seq ?_
  refine TS_region ?_
  refine VS_pure (P_assertNo ni59 us59 rfl rfl Try.zeroValue59) rfl rfl rfl ?_
  refine VS_pure (P_extract rfl rfl) rfl rfl rfl ?_
  refine VS_pure (P_extract rfl rfl) rfl rfl rfl ?_
  refine VS_nil ?_
  refine QS_then ?_
  refine TS_false rfl ?_
  refine TS_seq ?_
  refine TS_region ?_
  refine VS_pure (P_assertNo ni71 us71 rfl rfl Try.zeroValue71) rfl rfl rfl ?_
  refine VS_pure (P_extract rfl rfl) rfl rfl rfl ?_
  refine VS_pure (P_extract rfl rfl) rfl rfl rfl ?_
  refine VS_nil ?_
  refine QS_then ?_
  refine TS_false rfl ?_
  refine TS_seq ?_
  refine TS_region ?_
  refine VS_pure (P_assertNo ni72 us72 rfl rfl Try.zeroValue72) rfl rfl rfl ?_
  refine VS_pure (P_extract rfl rfl) rfl rfl rfl ?_
  refine VS_pure (P_extract rfl rfl) rfl rfl rfl ?_
  refine VS_nil ?_
  refine QS_then ?_
  refine TS_false rfl ?_
  refine TS_seq ?_
  refine TS_region ?_
  refine VS_pure (P_assertNo ni57 us57 rfl rfl Try.zeroValue57) rfl rfl rfl ?_
  refine VS_pure (P_extract rfl rfl) rfl rfl rfl ?_
  refine VS_pure (P_extract rfl rfl) rfl rfl rfl ?_
  refine VS_nil ?_
  refine QS_then ?_
  refine TS_false rfl ?_
  refine TS_seq ?_
  refine TS_region ?_
  refine VS_pure (P_assertYes ni64 us64 rfl) rfl rfl rfl ?_
  refine VS_pure (P_extract rfl rfl) rfl rfl rfl ?_
  refine VS_pure (P_extract rfl rfl) rfl rfl rfl ?_
  refine VS_nil ?_
  refine QS_then ?_
  refine TS_true rfl ?_
  refine TS_seq ?_
  refine TS_region ?_
  refine VS_step (S_alloc zl64 rfl (fun b3 => ?_)) rfl
  refine VS_step (S_storeAgg ag64 rfl rfl rfl (.here) rfl rfl ?_) rfl
  refine VS_nil ?_
  refine QS_then ?_
  refine TS_draw (.step 0 .pure (.step 2 .pure (.step 1 .read (.step 4 .pure (.fork (.step 3 .kept (.step 5 .wild (.step 6 .pure (.step 7 .wild (.done))))) (.step 5 .wild (.step 3 .read (.step 6 .pure (.step 7 .wild (.done)))))))))) mixed (by kernel_rfl) (fun _ _ _ _ hq => hq) ?_
  refine VTS_pure rfl (P_fieldAddr0 fo64_0 rfl) rfl rfl rfl ?_
  refine VTS_pure rfl (P_fieldAddr0 fo64_1 rfl) rfl rfl rfl ?_
  refine VTS_read rfl (S_loadB sg5 rfl (.here) rfl) rfl rfl rfl ?_
  refine VTS_pure rfl (P_fieldAddr0 fo32_6 rfl) rfl rfl rfl ?_
  refine VTS_fork ?_ ?_
  refine VTS_readK rfl (S_loadB sg29 rfl (.here) rfl) rfl rfl rfl ?_
  refine VTS_wild rfl rfl (S_store co5 rfl rfl rfl (.there (.here)) (.there (.there (.there (.there (.there (.there (.there (.there (.there (.there (.there (.here)))))))))))) ?_) rfl
  refine VTS_pure rfl (P_fieldAddr0 fo32_7 rfl) rfl rfl rfl ?_
  refine VTS_wild rfl rfl (S_store co29 rfl rfl rfl (.there (.here)) (.there (.there (.there (.there (.there (.there (.there (.there (.there (.there (.there (.there (.here))))))))))))) ?_) rfl
  refine VTS_nil ?_
  refine QS_block ?_
  refine QS_then ?_
  refine TS_seq ?_
  refine TS_region ?_
  refine VS_pure (P_move rfl) rfl rfl rfl ?_
  refine VS_step ((S_invoke (by kernel_rfl) rfl rfl (kind64 _) (fun m' hm he => Kind64_ok _ _) rfl ?_)) rfl
  rintro _ _ ⟨rfl, rfl⟩
  refine VS_pure (P_fieldAddr0 fo32_0 rfl) rfl rfl rfl ?_
  refine VS_step (S_store co5 rfl rfl rfl (.there (.here)) (.here) ?_) rfl
  refine VS_nil ?_
  refine QS_then ?_
  refine TS_seq ?_
  refine TS_region ?_
  refine VS_read (S_loadBA ag32 rfl (.there (.here)) rfl) rfl rfl rfl ?_
  refine VS_step (S_storeAgg ag32 rfl rfl rfl (.there (.there (.here))) rfl rfl ?_) rfl
  refine VS_pure (P_assign rfl) rfl rfl rfl ?_
  refine VS_nil ?_
  refine QS_then ?_
  refine TS_ret ?_
  exact QS_ret [_, _] ⟨⟨_, _, _, _, rfl, .there (.there .here), .inr ⟨ag32, rfl⟩⟩, rfl, trivial⟩ [] (Pick.nil _) ⟨rfl, rfl⟩
  refine VTS_wild rfl rfl (S_store co5 rfl rfl rfl (.there (.here)) (.there (.there (.there (.there (.there (.there (.there (.there (.there (.there (.there (.here)))))))))))) ?_) rfl
  refine VTS_read rfl (S_loadB sg29 rfl (.here) rfl) rfl rfl rfl ?_
  refine VTS_pure rfl (P_fieldAddr0 fo32_7 rfl) rfl rfl rfl ?_
  refine VTS_wild rfl rfl (S_store co29 rfl rfl rfl (.there (.here)) (.there (.there (.there (.there (.there (.there (.there (.there (.there (.there (.there (.there (.here))))))))))))) ?_) rfl
  refine VTS_nil ?_
  refine QS_block ?_
  refine QS_then ?_
  refine TS_seq ?_
  refine TS_region ?_
  refine VS_pure (P_move rfl) rfl rfl rfl ?_
  refine VS_step ((S_invoke (by kernel_rfl) rfl rfl (kind64 _) (fun m' hm he => Kind64_ok _ _) rfl ?_)) rfl
  rintro _ _ ⟨rfl, rfl⟩
  refine VS_pure (P_fieldAddr0 fo32_0 rfl) rfl rfl rfl ?_
  refine VS_step (S_store co5 rfl rfl rfl (.there (.here)) (.here) ?_) rfl
  refine VS_nil ?_
  refine QS_then ?_
  refine TS_seq ?_
  refine TS_region ?_
  refine VS_read (S_loadBA ag32 rfl (.there (.here)) rfl) rfl rfl rfl ?_
  refine VS_step (S_storeAgg ag32 rfl rfl rfl (.there (.there (.here))) rfl rfl ?_) rfl
  refine VS_pure (P_assign rfl) rfl rfl rfl ?_
  refine VS_nil ?_
  refine QS_then ?_
  refine TS_ret ?_
  exact QS_ret [_, _] ⟨⟨_, _, _, _, rfl, .there (.there .here), .inr ⟨ag32, rfl⟩⟩, rfl, trivial⟩ [] (Pick.nil _) ⟨rfl, rfl⟩
theorem kind74 (v : Value) (w : World) : (method (Try.prog.types.size + Made.depth) 74 v "Kind").run Try.prog w = .ok (93, v) w := by kernel_rfl
theorem Kind74_ok {m : Mp} (n : Int) (a : Option Addr) (k c : Nat) : CS Try.prog 93 [.agg ([.int .i64 n, .slice a k c] : List Value).toArray] m [] (Gives (.int .u8 65)) := by
  refine CS_of [.tmp 2] Try.func93 rfl rfl rfl ?_
  refine TS_seq ?_
  refine TS_region ?_
  refine VS_step (S_box rfl rfl (fun b1 => ?_)) rfl
  refine VS_pure (P_assign rfl) rfl rfl rfl ?_
  refine VS_nil ?_
  refine QS_then ?_
  refine TS_seq ?_
  refine TS_region ?_
  refine VS_pure (P_assign rfl) rfl rfl rfl ?_
  refine VS_nil ?_
  refine QS_then ?_
  refine TS_ret ?_
  exact QS_ret [_] ⟨rfl, trivial⟩ [] (Pick.nil _) ⟨rfl, rfl⟩
set_option maxHeartbeats 8000000 in
theorem Flat74 {m : Mp} (n : Int) (a : Option Addr) (k c : Nat) : CS Try.prog 11 [.iface 74 (.agg ([.int .i64 n, .slice a k c] : List Value).toArray)] m [] (Gives (.tuple [.agg ([.int .u8 65, .int .i64 n, .string ByteArray.empty, .slice a k c, .slice none 0 0, .int .i8 0, .int .i64 0, .int .i64 0, .int .i64 0, .slice none 0 0, .slice none 0 0, .int .u8 0, .int .i64 0, .slice none 0 0] : List Value).toArray, .int .i64 0].toArray)) := by
  refine CS_of [.cell 2 32, .tmp 3] Try.func11 rfl rfl rfl ?_
  refine TS_seq ?_
  refine TS_region ?_
  refine VS_step (S_alloc zl32 rfl (fun b1 => ?_)) rfl
  refine VS_pure (P_assign rfl) rfl rfl rfl ?_
  refine VS_nil ?_
  refine QS_then ?_
  refine TS_seq ?_
  refine TS_region ?_
  refine VS_pure (P_build zl32 pl32 rfl rfl) rfl rfl rfl ?_
  refine VS_step (S_alloc zl32 rfl (fun b2 => ?_)) rfl
  refine VS_step (S_storeAgg ag32 rfl rfl rfl (.here) rfl rfl ?_) rfl
  refine VS_nil ?_
  refine QS_then ?_
  refine TS_seq ?_
  refine TS_seq ?_
  refine TS_region ?_
  refine VS_pure (P_move rfl) rfl rfl rfl ?_
  refine VS_nil ?_
  refine QS_then ?_
  refine TS_block ?_
  refine TS_seq ?_
  refine TS_region ?_
  refine VS_pure (P_assertNo ni61 us61 rfl rfl Try.zeroValue61) rfl rfl rfl ?_
  refine VS_pure (P_extract rfl rfl) rfl rfl rfl ?_
  refine VS_pure (P_extract rfl rfl) rfl rfl rfl ?_
  refine VS_nil ?_
  refine QS_then ?_
  refine TS_false rfl ?_
  refine TS_seq ?_
  refine TS_region ?_
  refine VS_pure (P_assertNo ni66 us66 rfl rfl Try.zeroValue66) rfl rfl rfl ?_
  refine VS_pure (P_extract rfl rfl) rfl rfl rfl ?_
  refine VS_pure (P_extract rfl rfl) rfl rfl rfl ?_
  refine VS_nil ?_
  refine QS_then ?_
  refine TS_false rfl ?_
  refine TS_seq ?_
  refine TS_region ?_
  refine VS_pure (P_assertNo ni68 us68 rfl rfl Try.zeroValue68) rfl rfl rfl ?_
  refine VS_pure (P_extract rfl rfl) rfl rfl rfl ?_
  refine VS_pure (P_extract rfl rfl) rfl rfl rfl ?_
  refine VS_nil ?_
  refine QS_then ?_
  refine TS_false rfl ?_
  refine TS_seq ?_
  refine TS_region ?_
  refine VS_pure (P_assertNo ni70 us70 rfl rfl Try.zeroValue70) rfl rfl rfl ?_
  refine VS_pure (P_extract rfl rfl) rfl rfl rfl ?_
  refine VS_pure (P_extract rfl rfl) rfl rfl rfl ?_
  refine VS_nil ?_
  refine QS_then ?_
  refine TS_false rfl ?_
  refine TS_seq ?_
  refine TS_region ?_
  refine VS_pure (P_assertNo ni59 us59 rfl rfl Try.zeroValue59) rfl rfl rfl ?_
  refine VS_pure (P_extract rfl rfl) rfl rfl rfl ?_
  refine VS_pure (P_extract rfl rfl) rfl rfl rfl ?_
  refine VS_nil ?_
  refine QS_then ?_
  refine TS_false rfl ?_
  refine TS_seq ?_
  refine TS_region ?_
  refine VS_pure (P_assertNo ni71 us71 rfl rfl Try.zeroValue71) rfl rfl rfl ?_
  refine VS_pure (P_extract rfl rfl) rfl rfl rfl ?_
  refine VS_pure (P_extract rfl rfl) rfl rfl rfl ?_
  refine VS_nil ?_
  refine QS_then ?_
  refine TS_false rfl ?_
  refine TS_seq ?_
  refine TS_region ?_
  refine VS_pure (P_assertNo ni72 us72 rfl rfl Try.zeroValue72) rfl rfl rfl ?_
  refine VS_pure (P_extract rfl rfl) rfl rfl rfl ?_
  refine VS_pure (P_extract rfl rfl) rfl rfl rfl ?_
  refine VS_nil ?_
  refine QS_then ?_
  refine TS_false rfl ?_
  refine TS_seq ?_
  refine TS_region ?_
  refine VS_pure (P_assertNo ni57 us57 rfl rfl Try.zeroValue57) rfl rfl rfl ?_
  refine VS_pure (P_extract rfl rfl) rfl rfl rfl ?_
  refine VS_pure (P_extract rfl rfl) rfl rfl rfl ?_
  refine VS_nil ?_
  refine QS_then ?_
  refine TS_false rfl ?_
  refine TS_seq ?_
  refine TS_region ?_
  refine VS_pure (P_assertNo ni64 us64 rfl rfl Try.zeroValue64) rfl rfl rfl ?_
  refine VS_pure (P_extract rfl rfl) rfl rfl rfl ?_
  refine VS_pure (P_extract rfl rfl) rfl rfl rfl ?_
  refine VS_nil ?_
  refine QS_then ?_
  refine TS_false rfl ?_
  refine TS_seq ?_
  refine TS_region ?_
  refine VS_pure (P_assertYes ni74 us74 rfl) rfl rfl rfl ?_
  refine VS_pure (P_extract rfl rfl) rfl rfl rfl ?_
  refine VS_pure (P_extract rfl rfl) rfl rfl rfl ?_
  refine VS_nil ?_
  refine QS_then ?_
  refine TS_true rfl ?_
  refine TS_seq ?_
  refine TS_region ?_
  refine VS_step (S_alloc zl74 rfl (fun b3 => ?_)) rfl
  refine VS_step (S_storeAgg ag74 rfl rfl rfl (.here) rfl rfl ?_) rfl
  refine VS_nil ?_
  refine QS_then ?_
  refine TS_draw (.step 0 .pure (.step 2 .pure (.step 1 .read (.step 4 .pure (.fork (.step 3 .kept (.step 5 .wild (.step 6 .pure (.step 7 .wild (.done))))) (.step 5 .wild (.step 3 .read (.step 6 .pure (.step 7 .wild (.done)))))))))) mixed (by kernel_rfl) (fun _ _ _ _ hq => hq) ?_
  refine VTS_pure rfl (P_fieldAddr0 fo74_0 rfl) rfl rfl rfl ?_
  refine VTS_pure rfl (P_fieldAddr0 fo74_1 rfl) rfl rfl rfl ?_
  refine VTS_read rfl (S_loadB sg3 rfl (.here) rfl) rfl rfl rfl ?_
  refine VTS_pure rfl (P_fieldAddr0 fo32_1 rfl) rfl rfl rfl ?_
  refine VTS_fork ?_ ?_
  refine VTS_readK rfl (S_loadB sg22 rfl (.here) rfl) rfl rfl rfl ?_
  refine VTS_wild rfl rfl (S_store co3 rfl rfl rfl (.there (.here)) (.there (.here)) ?_) rfl
  refine VTS_pure rfl (P_fieldAddr0 fo32_3 rfl) rfl rfl rfl ?_
  refine VTS_wild rfl rfl (S_store co22 rfl rfl rfl (.there (.here)) (.there (.there (.there (.here)))) ?_) rfl
  refine VTS_nil ?_
  refine QS_block ?_
  refine QS_then ?_
  refine TS_seq ?_
  refine TS_region ?_
  refine VS_pure (P_move rfl) rfl rfl rfl ?_
  refine VS_step ((S_invoke (by kernel_rfl) rfl rfl (kind74 _) (fun m' hm he => Kind74_ok _ _ _ _) rfl ?_)) rfl
  rintro _ _ ⟨rfl, rfl⟩
  refine VS_pure (P_fieldAddr0 fo32_0 rfl) rfl rfl rfl ?_
  refine VS_step (S_store co5 rfl rfl rfl (.there (.here)) (.here) ?_) rfl
  refine VS_nil ?_
  refine QS_then ?_
  refine TS_seq ?_
  refine TS_region ?_
  refine VS_read (S_loadBA ag32 rfl (.there (.here)) rfl) rfl rfl rfl ?_
  refine VS_step (S_storeAgg ag32 rfl rfl rfl (.there (.there (.here))) rfl rfl ?_) rfl
  refine VS_pure (P_assign rfl) rfl rfl rfl ?_
  refine VS_nil ?_
  refine QS_then ?_
  refine TS_ret ?_
  exact QS_ret [_, _] ⟨⟨_, _, _, _, rfl, .there (.there .here), .inr ⟨ag32, rfl⟩⟩, rfl, trivial⟩ [] (Pick.nil _) ⟨rfl, rfl⟩
  refine VTS_wild rfl rfl (S_store co3 rfl rfl rfl (.there (.here)) (.there (.here)) ?_) rfl
  refine VTS_read rfl (S_loadB sg22 rfl (.here) rfl) rfl rfl rfl ?_
  refine VTS_pure rfl (P_fieldAddr0 fo32_3 rfl) rfl rfl rfl ?_
  refine VTS_wild rfl rfl (S_store co22 rfl rfl rfl (.there (.here)) (.there (.there (.there (.here)))) ?_) rfl
  refine VTS_nil ?_
  refine QS_block ?_
  refine QS_then ?_
  refine TS_seq ?_
  refine TS_region ?_
  refine VS_pure (P_move rfl) rfl rfl rfl ?_
  refine VS_step ((S_invoke (by kernel_rfl) rfl rfl (kind74 _) (fun m' hm he => Kind74_ok _ _ _ _) rfl ?_)) rfl
  rintro _ _ ⟨rfl, rfl⟩
  refine VS_pure (P_fieldAddr0 fo32_0 rfl) rfl rfl rfl ?_
  refine VS_step (S_store co5 rfl rfl rfl (.there (.here)) (.here) ?_) rfl
  refine VS_nil ?_
  refine QS_then ?_
  refine TS_seq ?_
  refine TS_region ?_
  refine VS_read (S_loadBA ag32 rfl (.there (.here)) rfl) rfl rfl rfl ?_
  refine VS_step (S_storeAgg ag32 rfl rfl rfl (.there (.there (.here))) rfl rfl ?_) rfl
  refine VS_pure (P_assign rfl) rfl rfl rfl ?_
  refine VS_nil ?_
  refine QS_then ?_
  refine TS_ret ?_
  exact QS_ret [_, _] ⟨⟨_, _, _, _, rfl, .there (.there .here), .inr ⟨ag32, rfl⟩⟩, rfl, trivial⟩ [] (Pick.nil _) ⟨rfl, rfl⟩
theorem kind76 (v : Value) (w : World) : (method (Try.prog.types.size + Made.depth) 76 v "Kind").run Try.prog w = .ok (94, v) w := by kernel_rfl
theorem Kind76_ok {m : Mp} (n : Int) (a : Option Addr) (k c : Nat) : CS Try.prog 94 [.agg ([.int .i64 n, .slice a k c] : List Value).toArray] m [] (Gives (.int .u8 66)) := by
  refine CS_of [.tmp 2] Try.func94 rfl rfl rfl ?_
  refine TS_seq ?_
  refine TS_region ?_
  refine VS_step (S_box rfl rfl (fun b1 => ?_)) rfl
  refine VS_pure (P_assign rfl) rfl rfl rfl ?_
  refine VS_nil ?_
  refine QS_then ?_
  refine TS_seq ?_
  refine TS_region ?_
  refine VS_pure (P_assign rfl) rfl rfl rfl ?_
  refine VS_nil ?_
  refine QS_then ?_
  refine TS_ret ?_
  exact QS_ret [_] ⟨rfl, trivial⟩ [] (Pick.nil _) ⟨rfl, rfl⟩
set_option maxHeartbeats 8000000 in
theorem Flat76 {m : Mp} (n : Int) (a : Option Addr) (k c : Nat) : CS Try.prog 11 [.iface 76 (.agg ([.int .i64 n, .slice a k c] : List Value).toArray)] m [] (Gives (.tuple [.agg ([.int .u8 66, .int .i64 n, .string ByteArray.empty, .slice none 0 0, .slice none 0 0, .int .i8 0, .int .i64 0, .int .i64 0, .int .i64 0, .slice none 0 0, .slice none 0 0, .int .u8 0, .int .i64 0, .slice a k c] : List Value).toArray, .int .i64 0].toArray)) := by
  refine CS_of [.cell 2 32, .tmp 3] Try.func11 rfl rfl rfl ?_
  refine TS_seq ?_
  refine TS_region ?_
  refine VS_step (S_alloc zl32 rfl (fun b1 => ?_)) rfl
  refine VS_pure (P_assign rfl) rfl rfl rfl ?_
  refine VS_nil ?_
  refine QS_then ?_
  refine TS_seq ?_
  refine TS_region ?_
  refine VS_pure (P_build zl32 pl32 rfl rfl) rfl rfl rfl ?_
  refine VS_step (S_alloc zl32 rfl (fun b2 => ?_)) rfl
  refine VS_step (S_storeAgg ag32 rfl rfl rfl (.here) rfl rfl ?_) rfl
  refine VS_nil ?_
  refine QS_then ?_
  refine TS_seq ?_
  refine TS_seq ?_
  refine TS_region ?_
  refine VS_pure (P_move rfl) rfl rfl rfl ?_
  refine VS_nil ?_
  refine QS_then ?_
  refine TS_block ?_
  refine TS_seq ?_
  refine TS_region ?_
  refine VS_pure (P_assertNo ni61 us61 rfl rfl Try.zeroValue61) rfl rfl rfl ?_
  refine VS_pure (P_extract rfl rfl) rfl rfl rfl ?_
  refine VS_pure (P_extract rfl rfl) rfl rfl rfl ?_
  refine VS_nil ?_
  refine QS_then ?_
  refine TS_false rfl ?_
  refine TS_seq ?_
  refine TS_region ?_
  refine VS_pure (P_assertNo ni66 us66 rfl rfl Try.zeroValue66) rfl rfl rfl ?_
  refine VS_pure (P_extract rfl rfl) rfl rfl rfl ?_
  refine VS_pure (P_extract rfl rfl) rfl rfl rfl ?_
  refine VS_nil ?_
  refine QS_then ?_
  refine TS_false rfl ?_
  refine TS_seq ?_
  refine TS_region ?_
  refine VS_pure (P_assertNo ni68 us68 rfl rfl Try.zeroValue68) rfl rfl rfl ?_
  refine VS_pure (P_extract rfl rfl) rfl rfl rfl ?_
  refine VS_pure (P_extract rfl rfl) rfl rfl rfl ?_
  refine VS_nil ?_
  refine QS_then ?_
  refine TS_false rfl ?_
  refine TS_seq ?_
  refine TS_region ?_
  refine VS_pure (P_assertNo ni70 us70 rfl rfl Try.zeroValue70) rfl rfl rfl ?_
  refine VS_pure (P_extract rfl rfl) rfl rfl rfl ?_
  refine VS_pure (P_extract rfl rfl) rfl rfl rfl ?_
  refine VS_nil ?_
  refine QS_then ?_
  refine TS_false rfl ?_
  refine TS_seq ?_
  refine TS_region ?_
  refine VS_pure (P_assertNo ni59 us59 rfl rfl Try.zeroValue59) rfl rfl rfl ?_
  refine VS_pure (P_extract rfl rfl) rfl rfl rfl ?_
  refine VS_pure (P_extract rfl rfl) rfl rfl rfl ?_
  refine VS_nil ?_
  refine QS_then ?_
  refine TS_false rfl ?_
  refine TS_seq ?_
  refine TS_region ?_
  refine VS_pure (P_assertNo ni71 us71 rfl rfl Try.zeroValue71) rfl rfl rfl ?_
  refine VS_pure (P_extract rfl rfl) rfl rfl rfl ?_
  refine VS_pure (P_extract rfl rfl) rfl rfl rfl ?_
  refine VS_nil ?_
  refine QS_then ?_
  refine TS_false rfl ?_
  refine TS_seq ?_
  refine TS_region ?_
  refine VS_pure (P_assertNo ni72 us72 rfl rfl Try.zeroValue72) rfl rfl rfl ?_
  refine VS_pure (P_extract rfl rfl) rfl rfl rfl ?_
  refine VS_pure (P_extract rfl rfl) rfl rfl rfl ?_
  refine VS_nil ?_
  refine QS_then ?_
  refine TS_false rfl ?_
  refine TS_seq ?_
  refine TS_region ?_
  refine VS_pure (P_assertNo ni57 us57 rfl rfl Try.zeroValue57) rfl rfl rfl ?_
  refine VS_pure (P_extract rfl rfl) rfl rfl rfl ?_
  refine VS_pure (P_extract rfl rfl) rfl rfl rfl ?_
  refine VS_nil ?_
  refine QS_then ?_
  refine TS_false rfl ?_
  refine TS_seq ?_
  refine TS_region ?_
  refine VS_pure (P_assertNo ni64 us64 rfl rfl Try.zeroValue64) rfl rfl rfl ?_
  refine VS_pure (P_extract rfl rfl) rfl rfl rfl ?_
  refine VS_pure (P_extract rfl rfl) rfl rfl rfl ?_
  refine VS_nil ?_
  refine QS_then ?_
  refine TS_false rfl ?_
  refine TS_seq ?_
  refine TS_region ?_
  refine VS_pure (P_assertNo ni74 us74 rfl rfl Try.zeroValue74) rfl rfl rfl ?_
  refine VS_pure (P_extract rfl rfl) rfl rfl rfl ?_
  refine VS_pure (P_extract rfl rfl) rfl rfl rfl ?_
  refine VS_nil ?_
  refine QS_then ?_
  refine TS_false rfl ?_
  refine TS_seq ?_
  refine TS_region ?_
  refine VS_pure (P_assertYes ni76 us76 rfl) rfl rfl rfl ?_
  refine VS_pure (P_extract rfl rfl) rfl rfl rfl ?_
  refine VS_pure (P_extract rfl rfl) rfl rfl rfl ?_
  refine VS_nil ?_
  refine QS_then ?_
  refine TS_true rfl ?_
  refine TS_seq ?_
  refine TS_region ?_
  refine VS_step (S_alloc zl76 rfl (fun b3 => ?_)) rfl
  refine VS_step (S_storeAgg ag76 rfl rfl rfl (.here) rfl rfl ?_) rfl
  refine VS_nil ?_
  refine QS_then ?_
  refine TS_draw (.step 0 .pure (.step 2 .pure (.step 1 .read (.step 4 .pure (.fork (.step 3 .kept (.step 5 .wild (.step 6 .pure (.step 7 .wild (.done))))) (.step 5 .wild (.step 3 .read (.step 6 .pure (.step 7 .wild (.done)))))))))) mixed (by kernel_rfl) (fun _ _ _ _ hq => hq) ?_
  refine VTS_pure rfl (P_fieldAddr0 fo76_0 rfl) rfl rfl rfl ?_
  refine VTS_pure rfl (P_fieldAddr0 fo76_1 rfl) rfl rfl rfl ?_
  refine VTS_read rfl (S_loadB sg3 rfl (.here) rfl) rfl rfl rfl ?_
  refine VTS_pure rfl (P_fieldAddr0 fo32_1 rfl) rfl rfl rfl ?_
  refine VTS_fork ?_ ?_
  refine VTS_readK rfl (S_loadB sg30 rfl (.here) rfl) rfl rfl rfl ?_
  refine VTS_wild rfl rfl (S_store co3 rfl rfl rfl (.there (.here)) (.there (.here)) ?_) rfl
  refine VTS_pure rfl (P_fieldAddr0 fo32_8 rfl) rfl rfl rfl ?_
  refine VTS_wild rfl rfl (S_store co30 rfl rfl rfl (.there (.here)) (.there (.there (.there (.there (.there (.there (.there (.there (.there (.there (.there (.there (.there (.here)))))))))))))) ?_) rfl
  refine VTS_nil ?_
  refine QS_block ?_
  refine QS_then ?_
  refine TS_seq ?_
  refine TS_region ?_
  refine VS_pure (P_move rfl) rfl rfl rfl ?_
  refine VS_step ((S_invoke (by kernel_rfl) rfl rfl (kind76 _) (fun m' hm he => Kind76_ok _ _ _ _) rfl ?_)) rfl
  rintro _ _ ⟨rfl, rfl⟩
  refine VS_pure (P_fieldAddr0 fo32_0 rfl) rfl rfl rfl ?_
  refine VS_step (S_store co5 rfl rfl rfl (.there (.here)) (.here) ?_) rfl
  refine VS_nil ?_
  refine QS_then ?_
  refine TS_seq ?_
  refine TS_region ?_
  refine VS_read (S_loadBA ag32 rfl (.there (.here)) rfl) rfl rfl rfl ?_
  refine VS_step (S_storeAgg ag32 rfl rfl rfl (.there (.there (.here))) rfl rfl ?_) rfl
  refine VS_pure (P_assign rfl) rfl rfl rfl ?_
  refine VS_nil ?_
  refine QS_then ?_
  refine TS_ret ?_
  exact QS_ret [_, _] ⟨⟨_, _, _, _, rfl, .there (.there .here), .inr ⟨ag32, rfl⟩⟩, rfl, trivial⟩ [] (Pick.nil _) ⟨rfl, rfl⟩
  refine VTS_wild rfl rfl (S_store co3 rfl rfl rfl (.there (.here)) (.there (.here)) ?_) rfl
  refine VTS_read rfl (S_loadB sg30 rfl (.here) rfl) rfl rfl rfl ?_
  refine VTS_pure rfl (P_fieldAddr0 fo32_8 rfl) rfl rfl rfl ?_
  refine VTS_wild rfl rfl (S_store co30 rfl rfl rfl (.there (.here)) (.there (.there (.there (.there (.there (.there (.there (.there (.there (.there (.there (.there (.there (.here)))))))))))))) ?_) rfl
  refine VTS_nil ?_
  refine QS_block ?_
  refine QS_then ?_
  refine TS_seq ?_
  refine TS_region ?_
  refine VS_pure (P_move rfl) rfl rfl rfl ?_
  refine VS_step ((S_invoke (by kernel_rfl) rfl rfl (kind76 _) (fun m' hm he => Kind76_ok _ _ _ _) rfl ?_)) rfl
  rintro _ _ ⟨rfl, rfl⟩
  refine VS_pure (P_fieldAddr0 fo32_0 rfl) rfl rfl rfl ?_
  refine VS_step (S_store co5 rfl rfl rfl (.there (.here)) (.here) ?_) rfl
  refine VS_nil ?_
  refine QS_then ?_
  refine TS_seq ?_
  refine TS_region ?_
  refine VS_read (S_loadBA ag32 rfl (.there (.here)) rfl) rfl rfl rfl ?_
  refine VS_step (S_storeAgg ag32 rfl rfl rfl (.there (.there (.here))) rfl rfl ?_) rfl
  refine VS_pure (P_assign rfl) rfl rfl rfl ?_
  refine VS_nil ?_
  refine QS_then ?_
  refine TS_ret ?_
  exact QS_ret [_, _] ⟨⟨_, _, _, _, rfl, .there (.there .here), .inr ⟨ag32, rfl⟩⟩, rfl, trivial⟩ [] (Pick.nil _) ⟨rfl, rfl⟩
theorem kind78 (v : Value) (w : World) : (method (Try.prog.types.size + Made.depth) 78 v "Kind").run Try.prog w = .ok (95, v) w := by kernel_rfl
theorem Kind78_ok {m : Mp} (n : Int) (a : Option Addr) (k c : Nat) : CS Try.prog 95 [.agg ([.int .i64 n, .slice a k c] : List Value).toArray] m [] (Gives (.int .u8 67)) := by
  refine CS_of [.tmp 2] Try.func95 rfl rfl rfl ?_
  refine TS_seq ?_
  refine TS_region ?_
  refine VS_step (S_box rfl rfl (fun b1 => ?_)) rfl
  refine VS_pure (P_assign rfl) rfl rfl rfl ?_
  refine VS_nil ?_
  refine QS_then ?_
  refine TS_seq ?_
  refine TS_region ?_
  refine VS_pure (P_assign rfl) rfl rfl rfl ?_
  refine VS_nil ?_
  refine QS_then ?_
  refine TS_ret ?_
  exact QS_ret [_] ⟨rfl, trivial⟩ [] (Pick.nil _) ⟨rfl, rfl⟩
set_option maxHeartbeats 8000000 in
theorem Flat78 {m : Mp} (n : Int) (a : Option Addr) (k c : Nat) : CS Try.prog 11 [.iface 78 (.agg ([.int .i64 n, .slice a k c] : List Value).toArray)] m [] (Gives (.tuple [.agg ([.int .u8 67, .int .i64 n, .string ByteArray.empty, .slice a k c, .slice none 0 0, .int .i8 0, .int .i64 0, .int .i64 0, .int .i64 0, .slice none 0 0, .slice none 0 0, .int .u8 0, .int .i64 0, .slice none 0 0] : List Value).toArray, .int .i64 0].toArray)) := by
  refine CS_of [.cell 2 32, .tmp 3] Try.func11 rfl rfl rfl ?_
  refine TS_seq ?_
  refine TS_region ?_
  refine VS_step (S_alloc zl32 rfl (fun b1 => ?_)) rfl
  refine VS_pure (P_assign rfl) rfl rfl rfl ?_
  refine VS_nil ?_
  refine QS_then ?_
  refine TS_seq ?_
  refine TS_region ?_
  refine VS_pure (P_build zl32 pl32 rfl rfl) rfl rfl rfl ?_
  refine VS_step (S_alloc zl32 rfl (fun b2 => ?_)) rfl
  refine VS_step (S_storeAgg ag32 rfl rfl rfl (.here) rfl rfl ?_) rfl
  refine VS_nil ?_
  refine QS_then ?_
  refine TS_seq ?_
  refine TS_seq ?_
  refine TS_region ?_
  refine VS_pure (P_move rfl) rfl rfl rfl ?_
  refine VS_nil ?_
  refine QS_then ?_
  refine TS_block ?_
  refine TS_seq ?_
  refine TS_region ?_
  refine VS_pure (P_assertNo ni61 us61 rfl rfl Try.zeroValue61) rfl rfl rfl ?_
  refine VS_pure (P_extract rfl rfl) rfl rfl rfl ?_
  refine VS_pure (P_extract rfl rfl) rfl rfl rfl ?_
  refine VS_nil ?_
  refine QS_then ?_
  refine TS_false rfl ?_
  refine TS_seq ?_
  refine TS_region ?_
  refine VS_pure (P_assertNo ni66 us66 rfl rfl Try.zeroValue66) rfl rfl rfl ?_
  refine VS_pure (P_extract rfl rfl) rfl rfl rfl ?_
  refine VS_pure (P_extract rfl rfl) rfl rfl rfl ?_
  refine VS_nil ?_
  refine QS_then ?_
  refine TS_false rfl ?_
  refine TS_seq ?_
  refine TS_region ?_
  refine VS_pure (P_assertNo ni68 us68 rfl rfl Try.zeroValue68) rfl rfl rfl ?_
  refine VS_pure (P_extract rfl rfl) rfl rfl rfl ?_
  refine VS_pure (P_extract rfl rfl) rfl rfl rfl ?_
  refine VS_nil ?_
  refine QS_then ?_
  refine TS_false rfl ?_
  refine TS_seq ?_
  refine TS_region ?_
  refine VS_pure (P_assertNo ni70 us70 rfl rfl Try.zeroValue70) rfl rfl rfl ?_
  refine VS_pure (P_extract rfl rfl) rfl rfl rfl ?_
  refine VS_pure (P_extract rfl rfl) rfl rfl rfl ?_
  refine VS_nil ?_
  refine QS_then ?_
  refine TS_false rfl ?_
  refine TS_seq ?_
  refine TS_region ?_
  refine VS_pure (P_assertNo ni59 us59 rfl rfl Try.zeroValue59) rfl rfl rfl ?_
  refine VS_pure (P_extract rfl rfl) rfl rfl rfl ?_
  refine VS_pure (P_extract rfl rfl) rfl rfl rfl ?_
  refine VS_nil ?_
  refine QS_then ?_
  refine TS_false rfl ?_
  refine TS_seq ?_
  refine TS_region ?_
  refine VS_pure (P_assertNo ni71 us71 rfl rfl Try.zeroValue71) rfl rfl rfl ?_
  refine VS_pure (P_extract rfl rfl) rfl rfl rfl ?_
  refine VS_pure (P_extract rfl rfl) rfl rfl rfl ?_
  refine VS_nil ?_
  refine QS_then ?_
  refine TS_false rfl ?_
  refine TS_seq ?_
  refine TS_region ?_
  refine VS_pure (P_assertNo ni72 us72 rfl rfl Try.zeroValue72) rfl rfl rfl ?_
  refine VS_pure (P_extract rfl rfl) rfl rfl rfl ?_
  refine VS_pure (P_extract rfl rfl) rfl rfl rfl ?_
  refine VS_nil ?_
  refine QS_then ?_
  refine TS_false rfl ?_
  refine TS_seq ?_
  refine TS_region ?_
  refine VS_pure (P_assertNo ni57 us57 rfl rfl Try.zeroValue57) rfl rfl rfl ?_
  refine VS_pure (P_extract rfl rfl) rfl rfl rfl ?_
  refine VS_pure (P_extract rfl rfl) rfl rfl rfl ?_
  refine VS_nil ?_
  refine QS_then ?_
  refine TS_false rfl ?_
  refine TS_seq ?_
  refine TS_region ?_
  refine VS_pure (P_assertNo ni64 us64 rfl rfl Try.zeroValue64) rfl rfl rfl ?_
  refine VS_pure (P_extract rfl rfl) rfl rfl rfl ?_
  refine VS_pure (P_extract rfl rfl) rfl rfl rfl ?_
  refine VS_nil ?_
  refine QS_then ?_
  refine TS_false rfl ?_
  refine TS_seq ?_
  refine TS_region ?_
  refine VS_pure (P_assertNo ni74 us74 rfl rfl Try.zeroValue74) rfl rfl rfl ?_
  refine VS_pure (P_extract rfl rfl) rfl rfl rfl ?_
  refine VS_pure (P_extract rfl rfl) rfl rfl rfl ?_
  refine VS_nil ?_
  refine QS_then ?_
  refine TS_false rfl ?_
  refine TS_seq ?_
  refine TS_region ?_
  refine VS_pure (P_assertNo ni76 us76 rfl rfl Try.zeroValue76) rfl rfl rfl ?_
  refine VS_pure (P_extract rfl rfl) rfl rfl rfl ?_
  refine VS_pure (P_extract rfl rfl) rfl rfl rfl ?_
  refine VS_nil ?_
  refine QS_then ?_
  refine TS_false rfl ?_
  refine TS_seq ?_
  refine TS_region ?_
  refine VS_pure (P_assertYes ni78 us78 rfl) rfl rfl rfl ?_
  refine VS_pure (P_extract rfl rfl) rfl rfl rfl ?_
  refine VS_pure (P_extract rfl rfl) rfl rfl rfl ?_
  refine VS_nil ?_
  refine QS_then ?_
  refine TS_true rfl ?_
  refine TS_seq ?_
  refine TS_region ?_
  refine VS_step (S_alloc zl78 rfl (fun b3 => ?_)) rfl
  refine VS_step (S_storeAgg ag78 rfl rfl rfl (.here) rfl rfl ?_) rfl
  refine VS_nil ?_
  refine QS_then ?_
  refine TS_draw (.step 0 .pure (.step 2 .pure (.step 1 .read (.step 4 .pure (.fork (.step 3 .kept (.step 5 .wild (.step 6 .pure (.step 7 .wild (.done))))) (.step 5 .wild (.step 3 .read (.step 6 .pure (.step 7 .wild (.done)))))))))) mixed (by kernel_rfl) (fun _ _ _ _ hq => hq) ?_
  refine VTS_pure rfl (P_fieldAddr0 fo78_0 rfl) rfl rfl rfl ?_
  refine VTS_pure rfl (P_fieldAddr0 fo78_1 rfl) rfl rfl rfl ?_
  refine VTS_read rfl (S_loadB sg3 rfl (.here) rfl) rfl rfl rfl ?_
  refine VTS_pure rfl (P_fieldAddr0 fo32_1 rfl) rfl rfl rfl ?_
  refine VTS_fork ?_ ?_
  refine VTS_readK rfl (S_loadB sg22 rfl (.here) rfl) rfl rfl rfl ?_
  refine VTS_wild rfl rfl (S_store co3 rfl rfl rfl (.there (.here)) (.there (.here)) ?_) rfl
  refine VTS_pure rfl (P_fieldAddr0 fo32_3 rfl) rfl rfl rfl ?_
  refine VTS_wild rfl rfl (S_store co22 rfl rfl rfl (.there (.here)) (.there (.there (.there (.here)))) ?_) rfl
  refine VTS_nil ?_
  refine QS_block ?_
  refine QS_then ?_
  refine TS_seq ?_
  refine TS_region ?_
  refine VS_pure (P_move rfl) rfl rfl rfl ?_
  refine VS_step ((S_invoke (by kernel_rfl) rfl rfl (kind78 _) (fun m' hm he => Kind78_ok _ _ _ _) rfl ?_)) rfl
  rintro _ _ ⟨rfl, rfl⟩
  refine VS_pure (P_fieldAddr0 fo32_0 rfl) rfl rfl rfl ?_
  refine VS_step (S_store co5 rfl rfl rfl (.there (.here)) (.here) ?_) rfl
  refine VS_nil ?_
  refine QS_then ?_
  refine TS_seq ?_
  refine TS_region ?_
  refine VS_read (S_loadBA ag32 rfl (.there (.here)) rfl) rfl rfl rfl ?_
  refine VS_step (S_storeAgg ag32 rfl rfl rfl (.there (.there (.here))) rfl rfl ?_) rfl
  refine VS_pure (P_assign rfl) rfl rfl rfl ?_
  refine VS_nil ?_
  refine QS_then ?_
  refine TS_ret ?_
  exact QS_ret [_, _] ⟨⟨_, _, _, _, rfl, .there (.there .here), .inr ⟨ag32, rfl⟩⟩, rfl, trivial⟩ [] (Pick.nil _) ⟨rfl, rfl⟩
  refine VTS_wild rfl rfl (S_store co3 rfl rfl rfl (.there (.here)) (.there (.here)) ?_) rfl
  refine VTS_read rfl (S_loadB sg22 rfl (.here) rfl) rfl rfl rfl ?_
  refine VTS_pure rfl (P_fieldAddr0 fo32_3 rfl) rfl rfl rfl ?_
  refine VTS_wild rfl rfl (S_store co22 rfl rfl rfl (.there (.here)) (.there (.there (.there (.here)))) ?_) rfl
  refine VTS_nil ?_
  refine QS_block ?_
  refine QS_then ?_
  refine TS_seq ?_
  refine TS_region ?_
  refine VS_pure (P_move rfl) rfl rfl rfl ?_
  refine VS_step ((S_invoke (by kernel_rfl) rfl rfl (kind78 _) (fun m' hm he => Kind78_ok _ _ _ _) rfl ?_)) rfl
  rintro _ _ ⟨rfl, rfl⟩
  refine VS_pure (P_fieldAddr0 fo32_0 rfl) rfl rfl rfl ?_
  refine VS_step (S_store co5 rfl rfl rfl (.there (.here)) (.here) ?_) rfl
  refine VS_nil ?_
  refine QS_then ?_
  refine TS_seq ?_
  refine TS_region ?_
  refine VS_read (S_loadBA ag32 rfl (.there (.here)) rfl) rfl rfl rfl ?_
  refine VS_step (S_storeAgg ag32 rfl rfl rfl (.there (.there (.here))) rfl rfl ?_) rfl
  refine VS_pure (P_assign rfl) rfl rfl rfl ?_
  refine VS_nil ?_
  refine QS_then ?_
  refine TS_ret ?_
  exact QS_ret [_, _] ⟨⟨_, _, _, _, rfl, .there (.there .here), .inr ⟨ag32, rfl⟩⟩, rfl, trivial⟩ [] (Pick.nil _) ⟨rfl, rfl⟩
set_option maxHeartbeats 8000000 in
theorem FlatNil {m : Mp} : CS Try.prog 11 [.nilIface] m [] (Gives (.tuple [.agg ([.int .u8 0, .int .i64 0, .string ByteArray.empty, .slice none 0 0, .slice none 0 0, .int .i8 0, .int .i64 0, .int .i64 0, .int .i64 0, .slice none 0 0, .slice none 0 0, .int .u8 0, .int .i64 0, .slice none 0 0] : List Value).toArray, .int .i64 2].toArray)) := by
  refine CS_of [.cell 2 32, .tmp 3] Try.func11 rfl rfl rfl ?_
  refine TS_seq ?_
  refine TS_region ?_
  refine VS_step (S_alloc zl32 rfl (fun b1 => ?_)) rfl
  refine VS_pure (P_assign rfl) rfl rfl rfl ?_
  refine VS_nil ?_
  refine QS_then ?_
  refine TS_seq ?_
  refine TS_region ?_
  refine VS_pure (P_build zl32 pl32 rfl rfl) rfl rfl rfl ?_
  refine VS_step (S_alloc zl32 rfl (fun b2 => ?_)) rfl
  refine VS_step (S_storeAgg ag32 rfl rfl rfl (.here) rfl rfl ?_) rfl
  refine VS_nil ?_
  refine QS_then ?_
  refine TS_seq ?_
  refine TS_seq ?_
  refine TS_region ?_
  refine VS_pure (P_move rfl) rfl rfl rfl ?_
  refine VS_nil ?_
  refine QS_then ?_
  refine TS_block ?_
  refine TS_seq ?_
  refine TS_region ?_
  refine VS_pure (P_assertNil ni61 us61 rfl Try.zeroValue61) rfl rfl rfl ?_
  refine VS_pure (P_extract rfl rfl) rfl rfl rfl ?_
  refine VS_pure (P_extract rfl rfl) rfl rfl rfl ?_
  refine VS_nil ?_
  refine QS_then ?_
  refine TS_false rfl ?_
  refine TS_seq ?_
  refine TS_region ?_
  refine VS_pure (P_assertNil ni66 us66 rfl Try.zeroValue66) rfl rfl rfl ?_
  refine VS_pure (P_extract rfl rfl) rfl rfl rfl ?_
  refine VS_pure (P_extract rfl rfl) rfl rfl rfl ?_
  refine VS_nil ?_
  refine QS_then ?_
  refine TS_false rfl ?_
  refine TS_seq ?_
  refine TS_region ?_
  refine VS_pure (P_assertNil ni68 us68 rfl Try.zeroValue68) rfl rfl rfl ?_
  refine VS_pure (P_extract rfl rfl) rfl rfl rfl ?_
  refine VS_pure (P_extract rfl rfl) rfl rfl rfl ?_
  refine VS_nil ?_
  refine QS_then ?_
  refine TS_false rfl ?_
  refine TS_seq ?_
  refine TS_region ?_
  refine VS_pure (P_assertNil ni70 us70 rfl Try.zeroValue70) rfl rfl rfl ?_
  refine VS_pure (P_extract rfl rfl) rfl rfl rfl ?_
  refine VS_pure (P_extract rfl rfl) rfl rfl rfl ?_
  refine VS_nil ?_
  refine QS_then ?_
  refine TS_false rfl ?_
  refine TS_seq ?_
  refine TS_region ?_
  refine VS_pure (P_assertNil ni59 us59 rfl Try.zeroValue59) rfl rfl rfl ?_
  refine VS_pure (P_extract rfl rfl) rfl rfl rfl ?_
  refine VS_pure (P_extract rfl rfl) rfl rfl rfl ?_
  refine VS_nil ?_
  refine QS_then ?_
  refine TS_false rfl ?_
  refine TS_seq ?_
  refine TS_region ?_
  refine VS_pure (P_assertNil ni71 us71 rfl Try.zeroValue71) rfl rfl rfl ?_
  refine VS_pure (P_extract rfl rfl) rfl rfl rfl ?_
  refine VS_pure (P_extract rfl rfl) rfl rfl rfl ?_
  refine VS_nil ?_
  refine QS_then ?_
  refine TS_false rfl ?_
  refine TS_seq ?_
  refine TS_region ?_
  refine VS_pure (P_assertNil ni72 us72 rfl Try.zeroValue72) rfl rfl rfl ?_
  refine VS_pure (P_extract rfl rfl) rfl rfl rfl ?_
  refine VS_pure (P_extract rfl rfl) rfl rfl rfl ?_
  refine VS_nil ?_
  refine QS_then ?_
  refine TS_false rfl ?_
  refine TS_seq ?_
  refine TS_region ?_
  refine VS_pure (P_assertNil ni57 us57 rfl Try.zeroValue57) rfl rfl rfl ?_
  refine VS_pure (P_extract rfl rfl) rfl rfl rfl ?_
  refine VS_pure (P_extract rfl rfl) rfl rfl rfl ?_
  refine VS_nil ?_
  refine QS_then ?_
  refine TS_false rfl ?_
  refine TS_seq ?_
  refine TS_region ?_
  refine VS_pure (P_assertNil ni64 us64 rfl Try.zeroValue64) rfl rfl rfl ?_
  refine VS_pure (P_extract rfl rfl) rfl rfl rfl ?_
  refine VS_pure (P_extract rfl rfl) rfl rfl rfl ?_
  refine VS_nil ?_
  refine QS_then ?_
  refine TS_false rfl ?_
  refine TS_seq ?_
  refine TS_region ?_
  refine VS_pure (P_assertNil ni74 us74 rfl Try.zeroValue74) rfl rfl rfl ?_
  refine VS_pure (P_extract rfl rfl) rfl rfl rfl ?_
  refine VS_pure (P_extract rfl rfl) rfl rfl rfl ?_
  refine VS_nil ?_
  refine QS_then ?_
  refine TS_false rfl ?_
  refine TS_seq ?_
  refine TS_region ?_
  refine VS_pure (P_assertNil ni76 us76 rfl Try.zeroValue76) rfl rfl rfl ?_
  refine VS_pure (P_extract rfl rfl) rfl rfl rfl ?_
  refine VS_pure (P_extract rfl rfl) rfl rfl rfl ?_
  refine VS_nil ?_
  refine QS_then ?_
  refine TS_false rfl ?_
  refine TS_seq ?_
  refine TS_region ?_
  refine VS_pure (P_assertNil ni78 us78 rfl Try.zeroValue78) rfl rfl rfl ?_
  refine VS_pure (P_extract rfl rfl) rfl rfl rfl ?_
  refine VS_pure (P_extract rfl rfl) rfl rfl rfl ?_
  refine VS_nil ?_
  refine QS_then ?_
  refine TS_false rfl ?_
  refine TS_seq ?_
  refine TS_region ?_
  refine VS_pure (P_assign rfl) rfl rfl rfl ?_
  refine VS_nil ?_
  refine QS_then ?_
  refine TS_seq ?_
  refine TS_region ?_
  refine VS_pure (P_build zl32 pl32 rfl rfl) rfl rfl rfl ?_
  refine VS_step (S_storeAgg ag32 rfl rfl rfl (.there (.here)) rfl rfl ?_) rfl
  refine VS_pure (P_assign rfl) rfl rfl rfl ?_
  refine VS_nil ?_
  refine QS_then ?_
  refine TS_ret ?_
  refine QS_block_ret ?_
  refine QS_then_ret ?_
  exact QS_ret [_, _] ⟨⟨_, _, _, _, rfl, .there .here, .inr ⟨ag32, rfl⟩⟩, rfl, trivial⟩ [] (Pick.nil _) ⟨rfl, rfl⟩
end Go.Proofs.Ytbpihgphicmdiaa
