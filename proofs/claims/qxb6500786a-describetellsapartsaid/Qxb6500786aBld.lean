import Derived.Test.Qxb6500786aShp
import Derived.StillTailTactics
import Derived.Deep.QuietTactic
import Derived.BigQuiet
import Derived.Deep.RegionHeld
import Derived.Deep.CutRange
import Derived.Laws.ResultCell
import Derived.Laws.Rows
import Derived.DeepKeys
import Derived.DataBytes
import Derived.Laws.StructEq
set_option linter.unusedSimpArgs false
set_option linter.unusedVariables false
namespace Go.Proofs.Qxb6500786a
open Go.RowKit Go.Blk
attribute [local go_sem ↓] execOp_load execOp_store execOp_alloc
attribute [local go_sem] Try.ld33 Try.st33 Try.ld24 Try.st24 Try.ld29 Try.st29 Try.ld30 Try.st30 Try.ld31 Try.st31 Try.ld5 Try.st5 Try.ld28 Try.st28 Try.ld27 Try.st27 Try.ld26 Try.st26 Try.ld2 Try.st2 Try.ld3 Try.st3 Try.ld4 Try.st4 Try.ld9 Try.st9 Try.ld12 Try.st12 Try.ld21 Try.st21 Try.ld22 Try.st22 Try.ld41 Try.st41 Try.ld50 Try.st50 Try.ld55 Try.st55 Try.ld63 Try.st63 Try.ld78 Try.st78 Try.ld87 Try.st87 Try.ld91 Try.st91 Try.ld32 Try.st32 Try.ld47 Try.st47 Try.ld52 Try.st52 Try.ld71 Try.st71 Try.ld35 Try.st35 Try.ld37 Try.st37 Try.ld39 Try.st39 Try.al32 Try.al47 Try.al52 Try.al71 Try.al35 Try.al37 Try.al39
attribute [local go_sem] Message.length_enc Message.ok_enc Message.all_get Message.all_set Message.kind_get Message.kind_set Message.from__get Message.from__set Message.to__get Message.to__set Message.sender_get Message.sender_set Message.receiver_get Message.receiver_set Message.seq_get Message.seq_set Message.token_get Message.token_set Message.amount_get Message.amount_set Message.size_get Message.size_set Message.payload_get Message.payload_set Tx.length_enc Tx.ok_enc Tx.all_get Tx.all_set Tx.kind_get Tx.kind_set Tx.chain_get Tx.chain_set Tx.from__get Tx.from__set Tx.nonce_get Tx.nonce_set Tx.fee_get Tx.fee_set Tx.to__get Tx.to__set Tx.dest_get Tx.dest_set Tx.token_get Tx.token_set Tx.amount_get Tx.amount_set Tx.size_get Tx.size_set Tx.payload_get Tx.payload_set Tx.msg_get Tx.msg_set Tx.msg_kind_get Tx.msg_kind_set Tx.msg_from__get Tx.msg_from__set Tx.msg_to__get Tx.msg_to__set Tx.msg_sender_get Tx.msg_sender_set Tx.msg_receiver_get Tx.msg_receiver_set Tx.msg_seq_get Tx.msg_seq_set Tx.msg_token_get Tx.msg_token_set Tx.msg_amount_get Tx.msg_amount_set Tx.msg_size_get Tx.msg_size_set Tx.msg_payload_get Tx.msg_payload_set GOp.length_enc GOp.ok_enc GOp.all_get GOp.all_set GOp.kind_get GOp.kind_set GOp.tx_get GOp.tx_set GOp.txs_get GOp.txs_set GOp.gas_get GOp.gas_set GOp.acct_get GOp.acct_set GOp.token_get GOp.token_set GOp.chain_get GOp.chain_set GOp.seq_get GOp.seq_set GOp.tx_kind_get GOp.tx_kind_set GOp.tx_chain_get GOp.tx_chain_set GOp.tx_from__get GOp.tx_from__set GOp.tx_nonce_get GOp.tx_nonce_set GOp.tx_fee_get GOp.tx_fee_set GOp.tx_to__get GOp.tx_to__set GOp.tx_dest_get GOp.tx_dest_set GOp.tx_token_get GOp.tx_token_set GOp.tx_amount_get GOp.tx_amount_set GOp.tx_size_get GOp.tx_size_set GOp.tx_payload_get GOp.tx_payload_set GOp.tx_msg_get GOp.tx_msg_set GOp.tx_msg_kind_get GOp.tx_msg_kind_set GOp.tx_msg_from__get GOp.tx_msg_from__set GOp.tx_msg_to__get GOp.tx_msg_to__set GOp.tx_msg_sender_get GOp.tx_msg_sender_set GOp.tx_msg_receiver_get GOp.tx_msg_receiver_set GOp.tx_msg_seq_get GOp.tx_msg_seq_set GOp.tx_msg_token_get GOp.tx_msg_token_set GOp.tx_msg_amount_get GOp.tx_msg_amount_set GOp.tx_msg_size_get GOp.tx_msg_size_set GOp.tx_msg_payload_get GOp.tx_msg_payload_set
attribute [local go_sem] size_put size_ext blk_put free_put blk_alloc free_alloc blk_drew free_drew blk_ext free_ext lookOr_some putOr_some segAt_some cellAt_some storeIn_some put_put put_alloc_new length_arr ok_arr_u8 ok_arr_u32 ok_arr_u64 ok_arr_i64 ok_arr_sl cellsV_agg cellsV_int cellsV_bool cellsV_string cellsV_pointer cellsV_slice cellsV_sl ok_int ok_bool ok_string ok_pointer ok_slice ok_sl toList_arr seg_arr set_arr nth_splice nth_splice0 seg_splice seg_splice0 splice_splice splice_splice0 length_splice_if
attribute [local go_sem ↓] execOp_box
attribute [local go_sem] box_run nth_arr_u8 put_arr_u8
attribute [local go_sem ↓] execOp_build
theorem split1 (L : List Value) (n : Nat) (h : L.length = n + 1) : ∃ x L', L = x :: L' ∧ L'.length = n := by
  cases L with
  | nil => simp at h
  | cons x L => exact ⟨x, L, rfl, by simpa using h⟩
theorem build37z (w : World) : (buildOp 37 #[]).run Try.prog w = .ok (.value (.agg Tx.zero.enc.toArray)) w := by kernel_rfl
theorem buildT (w : World) (c f t k : UInt8) (n fe a : UInt64) : (buildOp 37 #[(0, .int .u8 1), (1, .int .u8 (w8 c)), (2, .int .u8 (w8 f)), (3, .int .u64 (w64 n)), (4, .int .u64 (w64 fe)), (5, .int .u8 (w8 t)), (7, .int .u8 (w8 k)), (8, .int .u64 (w64 a))]).run Try.prog w = .ok (.value (.agg (Tx.enc { Tx.zero with kind := 1, chain := c, from_ := f, nonce := n, fee := fe, to_ := t, token := k, amount := a }).toArray)) w := by kernel_rfl
theorem buildB (w : World) (c f t e k : UInt8) (n fe a : UInt64) : (buildOp 37 #[(0, .int .u8 2), (1, .int .u8 (w8 c)), (2, .int .u8 (w8 f)), (3, .int .u64 (w64 n)), (4, .int .u64 (w64 fe)), (5, .int .u8 (w8 t)), (6, .int .u8 (w8 e)), (7, .int .u8 (w8 k)), (8, .int .u64 (w64 a))]).run Try.prog w = .ok (.value (.agg (Tx.enc { Tx.zero with kind := 2, chain := c, from_ := f, nonce := n, fee := fe, to_ := t, dest := e, token := k, amount := a }).toArray)) w := by kernel_rfl
theorem buildS (w : World) (c f t e z : UInt8) (n fe : UInt64) : (buildOp 37 #[(0, .int .u8 4), (1, .int .u8 (w8 c)), (2, .int .u8 (w8 f)), (3, .int .u64 (w64 n)), (4, .int .u64 (w64 fe)), (5, .int .u8 (w8 t)), (6, .int .u8 (w8 e)), (9, .int .u8 (w8 z))]).run Try.prog w = .ok (.value (.agg (Tx.enc { Tx.zero with kind := 4, chain := c, from_ := f, nonce := n, fee := fe, to_ := t, dest := e, size := z }).toArray)) w := by kernel_rfl
theorem txM (c f k : UInt8) (n fe : UInt64) (m : Message) : Tx.enc { Tx.zero with kind := k, chain := c, from_ := f, nonce := n, fee := fe, msg := m } = [.int .u8 (w8 k), .int .u8 (w8 c), .int .u8 (w8 f), .int .u64 (w64 n), .int .u64 (w64 fe)] ++ ([.int .u8 0, .int .u8 0, .int .u8 0, .int .u64 0, .int .u8 0] ++ List.replicate 32 (.int .u8 0)) ++ m.enc := by
  simp [Tx.enc, Tx.zero, arr, u8v]
  exact ⟨rfl, rfl, rfl⟩
set_option maxRecDepth 100000 in
theorem buildM_lit (w : World) (c f : UInt8) (n fe : UInt64) (x0 x1 x2 x3 x4 x5 x6 x7 x8 x9 x10 x11 x12 x13 x14 x15 x16 x17 x18 x19 x20 x21 x22 x23 x24 x25 x26 x27 x28 x29 x30 x31 x32 x33 x34 x35 x36 x37 x38 x39 x40 : Value) : (buildOp 37 #[(0, .int .u8 3), (1, .int .u8 (w8 c)), (2, .int .u8 (w8 f)), (3, .int .u64 (w64 n)), (4, .int .u64 (w64 fe)), (11, .agg #[x0, x1, x2, x3, x4, x5, x6, x7, x8, x9, x10, x11, x12, x13, x14, x15, x16, x17, x18, x19, x20, x21, x22, x23, x24, x25, x26, x27, x28, x29, x30, x31, x32, x33, x34, x35, x36, x37, x38, x39, x40])]).run Try.prog w = .ok (.value (.agg ((([.int .u8 (w8 3), .int .u8 (w8 c), .int .u8 (w8 f), .int .u64 (w64 n), .int .u64 (w64 fe)] : List Value) ++ (([.int .u8 0, .int .u8 0, .int .u8 0, .int .u64 0, .int .u8 0] : List Value) ++ List.replicate 32 (.int .u8 0)) ++ [x0, x1, x2, x3, x4, x5, x6, x7, x8, x9, x10, x11, x12, x13, x14, x15, x16, x17, x18, x19, x20, x21, x22, x23, x24, x25, x26, x27, x28, x29, x30, x31, x32, x33, x34, x35, x36, x37, x38, x39, x40] : List Value)).toArray)) w := by kernel_rfl
theorem buildM (w : World) (c f : UInt8) (n fe : UInt64) (m : Message) : (buildOp 37 #[(0, .int .u8 3), (1, .int .u8 (w8 c)), (2, .int .u8 (w8 f)), (3, .int .u64 (w64 n)), (4, .int .u64 (w64 fe)), (11, .agg m.enc.toArray)]).run Try.prog w = .ok (.value (.agg (Tx.enc { Tx.zero with kind := 3, chain := c, from_ := f, nonce := n, fee := fe, msg := m }).toArray)) w := by
  rw [txM]
  have hL : m.enc.length = 41 := Message.length_enc m
  generalize m.enc = L at hL
  obtain ⟨x0, L0, rfl, hL0⟩ := split1 _ _ hL
  obtain ⟨x1, L1, rfl, hL1⟩ := split1 _ _ hL0
  obtain ⟨x2, L2, rfl, hL2⟩ := split1 _ _ hL1
  obtain ⟨x3, L3, rfl, hL3⟩ := split1 _ _ hL2
  obtain ⟨x4, L4, rfl, hL4⟩ := split1 _ _ hL3
  obtain ⟨x5, L5, rfl, hL5⟩ := split1 _ _ hL4
  obtain ⟨x6, L6, rfl, hL6⟩ := split1 _ _ hL5
  obtain ⟨x7, L7, rfl, hL7⟩ := split1 _ _ hL6
  obtain ⟨x8, L8, rfl, hL8⟩ := split1 _ _ hL7
  obtain ⟨x9, L9, rfl, hL9⟩ := split1 _ _ hL8
  obtain ⟨x10, L10, rfl, hL10⟩ := split1 _ _ hL9
  obtain ⟨x11, L11, rfl, hL11⟩ := split1 _ _ hL10
  obtain ⟨x12, L12, rfl, hL12⟩ := split1 _ _ hL11
  obtain ⟨x13, L13, rfl, hL13⟩ := split1 _ _ hL12
  obtain ⟨x14, L14, rfl, hL14⟩ := split1 _ _ hL13
  obtain ⟨x15, L15, rfl, hL15⟩ := split1 _ _ hL14
  obtain ⟨x16, L16, rfl, hL16⟩ := split1 _ _ hL15
  obtain ⟨x17, L17, rfl, hL17⟩ := split1 _ _ hL16
  obtain ⟨x18, L18, rfl, hL18⟩ := split1 _ _ hL17
  obtain ⟨x19, L19, rfl, hL19⟩ := split1 _ _ hL18
  obtain ⟨x20, L20, rfl, hL20⟩ := split1 _ _ hL19
  obtain ⟨x21, L21, rfl, hL21⟩ := split1 _ _ hL20
  obtain ⟨x22, L22, rfl, hL22⟩ := split1 _ _ hL21
  obtain ⟨x23, L23, rfl, hL23⟩ := split1 _ _ hL22
  obtain ⟨x24, L24, rfl, hL24⟩ := split1 _ _ hL23
  obtain ⟨x25, L25, rfl, hL25⟩ := split1 _ _ hL24
  obtain ⟨x26, L26, rfl, hL26⟩ := split1 _ _ hL25
  obtain ⟨x27, L27, rfl, hL27⟩ := split1 _ _ hL26
  obtain ⟨x28, L28, rfl, hL28⟩ := split1 _ _ hL27
  obtain ⟨x29, L29, rfl, hL29⟩ := split1 _ _ hL28
  obtain ⟨x30, L30, rfl, hL30⟩ := split1 _ _ hL29
  obtain ⟨x31, L31, rfl, hL31⟩ := split1 _ _ hL30
  obtain ⟨x32, L32, rfl, hL32⟩ := split1 _ _ hL31
  obtain ⟨x33, L33, rfl, hL33⟩ := split1 _ _ hL32
  obtain ⟨x34, L34, rfl, hL34⟩ := split1 _ _ hL33
  obtain ⟨x35, L35, rfl, hL35⟩ := split1 _ _ hL34
  obtain ⟨x36, L36, rfl, hL36⟩ := split1 _ _ hL35
  obtain ⟨x37, L37, rfl, hL37⟩ := split1 _ _ hL36
  obtain ⟨x38, L38, rfl, hL38⟩ := split1 _ _ hL37
  obtain ⟨x39, L39, rfl, hL39⟩ := split1 _ _ hL38
  obtain ⟨x40, L40, rfl, hL40⟩ := split1 _ _ hL39
  obtain rfl := List.eq_nil_of_length_eq_zero hL40
  exact buildM_lit w c f n fe x0 x1 x2 x3 x4 x5 x6 x7 x8 x9 x10 x11 x12 x13 x14 x15 x16 x17 x18 x19 x20 x21 x22 x23 x24 x25 x26 x27 x28 x29 x30 x31 x32 x33 x34 x35 x36 x37 x38 x39 x40
set_option maxRecDepth 100000 in
theorem buildC_lit (w : World) (c f : UInt8) (n fe : UInt64) (x0 x1 x2 x3 x4 x5 x6 x7 x8 x9 x10 x11 x12 x13 x14 x15 x16 x17 x18 x19 x20 x21 x22 x23 x24 x25 x26 x27 x28 x29 x30 x31 x32 x33 x34 x35 x36 x37 x38 x39 x40 : Value) : (buildOp 37 #[(0, .int .u8 5), (1, .int .u8 (w8 c)), (2, .int .u8 (w8 f)), (3, .int .u64 (w64 n)), (4, .int .u64 (w64 fe)), (11, .agg #[x0, x1, x2, x3, x4, x5, x6, x7, x8, x9, x10, x11, x12, x13, x14, x15, x16, x17, x18, x19, x20, x21, x22, x23, x24, x25, x26, x27, x28, x29, x30, x31, x32, x33, x34, x35, x36, x37, x38, x39, x40])]).run Try.prog w = .ok (.value (.agg ((([.int .u8 (w8 5), .int .u8 (w8 c), .int .u8 (w8 f), .int .u64 (w64 n), .int .u64 (w64 fe)] : List Value) ++ (([.int .u8 0, .int .u8 0, .int .u8 0, .int .u64 0, .int .u8 0] : List Value) ++ List.replicate 32 (.int .u8 0)) ++ [x0, x1, x2, x3, x4, x5, x6, x7, x8, x9, x10, x11, x12, x13, x14, x15, x16, x17, x18, x19, x20, x21, x22, x23, x24, x25, x26, x27, x28, x29, x30, x31, x32, x33, x34, x35, x36, x37, x38, x39, x40] : List Value)).toArray)) w := by kernel_rfl
theorem buildC (w : World) (c f : UInt8) (n fe : UInt64) (m : Message) : (buildOp 37 #[(0, .int .u8 5), (1, .int .u8 (w8 c)), (2, .int .u8 (w8 f)), (3, .int .u64 (w64 n)), (4, .int .u64 (w64 fe)), (11, .agg m.enc.toArray)]).run Try.prog w = .ok (.value (.agg (Tx.enc { Tx.zero with kind := 5, chain := c, from_ := f, nonce := n, fee := fe, msg := m }).toArray)) w := by
  rw [txM]
  have hL : m.enc.length = 41 := Message.length_enc m
  generalize m.enc = L at hL
  obtain ⟨x0, L0, rfl, hL0⟩ := split1 _ _ hL
  obtain ⟨x1, L1, rfl, hL1⟩ := split1 _ _ hL0
  obtain ⟨x2, L2, rfl, hL2⟩ := split1 _ _ hL1
  obtain ⟨x3, L3, rfl, hL3⟩ := split1 _ _ hL2
  obtain ⟨x4, L4, rfl, hL4⟩ := split1 _ _ hL3
  obtain ⟨x5, L5, rfl, hL5⟩ := split1 _ _ hL4
  obtain ⟨x6, L6, rfl, hL6⟩ := split1 _ _ hL5
  obtain ⟨x7, L7, rfl, hL7⟩ := split1 _ _ hL6
  obtain ⟨x8, L8, rfl, hL8⟩ := split1 _ _ hL7
  obtain ⟨x9, L9, rfl, hL9⟩ := split1 _ _ hL8
  obtain ⟨x10, L10, rfl, hL10⟩ := split1 _ _ hL9
  obtain ⟨x11, L11, rfl, hL11⟩ := split1 _ _ hL10
  obtain ⟨x12, L12, rfl, hL12⟩ := split1 _ _ hL11
  obtain ⟨x13, L13, rfl, hL13⟩ := split1 _ _ hL12
  obtain ⟨x14, L14, rfl, hL14⟩ := split1 _ _ hL13
  obtain ⟨x15, L15, rfl, hL15⟩ := split1 _ _ hL14
  obtain ⟨x16, L16, rfl, hL16⟩ := split1 _ _ hL15
  obtain ⟨x17, L17, rfl, hL17⟩ := split1 _ _ hL16
  obtain ⟨x18, L18, rfl, hL18⟩ := split1 _ _ hL17
  obtain ⟨x19, L19, rfl, hL19⟩ := split1 _ _ hL18
  obtain ⟨x20, L20, rfl, hL20⟩ := split1 _ _ hL19
  obtain ⟨x21, L21, rfl, hL21⟩ := split1 _ _ hL20
  obtain ⟨x22, L22, rfl, hL22⟩ := split1 _ _ hL21
  obtain ⟨x23, L23, rfl, hL23⟩ := split1 _ _ hL22
  obtain ⟨x24, L24, rfl, hL24⟩ := split1 _ _ hL23
  obtain ⟨x25, L25, rfl, hL25⟩ := split1 _ _ hL24
  obtain ⟨x26, L26, rfl, hL26⟩ := split1 _ _ hL25
  obtain ⟨x27, L27, rfl, hL27⟩ := split1 _ _ hL26
  obtain ⟨x28, L28, rfl, hL28⟩ := split1 _ _ hL27
  obtain ⟨x29, L29, rfl, hL29⟩ := split1 _ _ hL28
  obtain ⟨x30, L30, rfl, hL30⟩ := split1 _ _ hL29
  obtain ⟨x31, L31, rfl, hL31⟩ := split1 _ _ hL30
  obtain ⟨x32, L32, rfl, hL32⟩ := split1 _ _ hL31
  obtain ⟨x33, L33, rfl, hL33⟩ := split1 _ _ hL32
  obtain ⟨x34, L34, rfl, hL34⟩ := split1 _ _ hL33
  obtain ⟨x35, L35, rfl, hL35⟩ := split1 _ _ hL34
  obtain ⟨x36, L36, rfl, hL36⟩ := split1 _ _ hL35
  obtain ⟨x37, L37, rfl, hL37⟩ := split1 _ _ hL36
  obtain ⟨x38, L38, rfl, hL38⟩ := split1 _ _ hL37
  obtain ⟨x39, L39, rfl, hL39⟩ := split1 _ _ hL38
  obtain ⟨x40, L40, rfl, hL40⟩ := split1 _ _ hL39
  obtain rfl := List.eq_nil_of_length_eq_zero hL40
  exact buildC_lit w c f n fe x0 x1 x2 x3 x4 x5 x6 x7 x8 x9 x10 x11 x12 x13 x14 x15 x16 x17 x18 x19 x20 x21 x22 x23 x24 x25 x26 x27 x28 x29 x30 x31 x32 x33 x34 x35 x36 x37 x38 x39 x40
attribute [local go_sem] build37z buildT buildB buildS buildM buildC
theorem newTransfer_any (w : World) (c f t k : UInt8) (n fe a : UInt64) : Calls Try.prog 33 #[.int .u8 (w8 c), .int .u8 (w8 f), .int .u64 (w64 n), .int .u64 (w64 fe), .int .u8 (w8 t), .int .u8 (w8 k), .int .u64 (w64 a)] w fun e w' => e = .returned (.agg (Tx.enc { Tx.zero with kind := 1, chain := c, from_ := f, nonce := n, fee := fe, to_ := t, token := k, amount := a }).toArray) ∧ Ext w w' := by
  go_enter Try.func33, Try.ntmps33
  go_wp2_with fail
  refine ret_cell (C := Tx.enc { Tx.zero with kind := 1, chain := c, from_ := f, nonce := n, fee := fe, to_ := t, token := k, amount := a }) rfl rfl ?_ (by kernel_rfl) (by rw [Tx.length_enc]; kernel_rfl) rfl ?_
  · first | (rw [blk_alloc, if_pos rfl]; done) | (rw [blk_alloc, if_pos rfl]; rfl) | (rw [blk_put, if_pos rfl, blk_alloc, if_pos (by rw [World.size_alloc])]; rfl) | (rw [blk_put, if_pos rfl, blk_alloc, if_pos rfl]; rfl)
  · exact ⟨rfl, by first | exact (Ext.refl _).alloc _ | exact ((Ext.refl _).alloc _).alloc _ | exact ((Ext.refl _).alloc _).put_new _ _ (Nat.le_refl _) | exact (((Ext.refl _).alloc _).alloc _).put_new _ _ (by omega)⟩
theorem newBurn_any (w : World) (c f d t k : UInt8) (n fe a : UInt64) : Calls Try.prog 34 #[.int .u8 (w8 c), .int .u8 (w8 f), .int .u64 (w64 n), .int .u64 (w64 fe), .int .u8 (w8 d), .int .u8 (w8 t), .int .u8 (w8 k), .int .u64 (w64 a)] w fun e w' => e = .returned (.agg (Tx.enc { Tx.zero with kind := 2, chain := c, from_ := f, nonce := n, fee := fe, to_ := t, dest := d, token := k, amount := a }).toArray) ∧ Ext w w' := by
  go_enter Try.func34, Try.ntmps34
  go_wp2_with fail
  refine ret_cell (C := Tx.enc { Tx.zero with kind := 2, chain := c, from_ := f, nonce := n, fee := fe, to_ := t, dest := d, token := k, amount := a }) rfl rfl ?_ (by kernel_rfl) (by rw [Tx.length_enc]; kernel_rfl) rfl ?_
  · first | (rw [blk_alloc, if_pos rfl]; done) | (rw [blk_alloc, if_pos rfl]; rfl) | (rw [blk_put, if_pos rfl, blk_alloc, if_pos (by rw [World.size_alloc])]; rfl) | (rw [blk_put, if_pos rfl, blk_alloc, if_pos rfl]; rfl)
  · exact ⟨rfl, by first | exact (Ext.refl _).alloc _ | exact ((Ext.refl _).alloc _).alloc _ | exact ((Ext.refl _).alloc _).put_new _ _ (Nat.le_refl _) | exact (((Ext.refl _).alloc _).alloc _).put_new _ _ (by omega)⟩
theorem newMint_any (w : World) (c f : UInt8) (n fe : UInt64) (m : Message) : Calls Try.prog 36 #[.int .u8 (w8 c), .int .u8 (w8 f), .int .u64 (w64 n), .int .u64 (w64 fe), .agg m.enc.toArray] w fun e w' => e = .returned (.agg (Tx.enc { Tx.zero with kind := 3, chain := c, from_ := f, nonce := n, fee := fe, msg := m }).toArray) ∧ Ext w w' := by
  go_enter Try.func36, Try.ntmps36
  go_wp2_with fail
  refine ret_cell (C := Tx.enc { Tx.zero with kind := 3, chain := c, from_ := f, nonce := n, fee := fe, msg := m }) rfl rfl ?_ (by kernel_rfl) (by rw [Tx.length_enc]; kernel_rfl) rfl ?_
  · first | (rw [blk_alloc, if_pos rfl]; done) | (rw [blk_alloc, if_pos rfl]; rfl) | (rw [blk_put, if_pos rfl, blk_alloc, if_pos (by rw [World.size_alloc])]; rfl) | (rw [blk_put, if_pos rfl, blk_alloc, if_pos rfl]; rfl)
  · exact ⟨rfl, by first | exact (Ext.refl _).alloc _ | exact ((Ext.refl _).alloc _).alloc _ | exact ((Ext.refl _).alloc _).put_new _ _ (Nat.le_refl _) | exact (((Ext.refl _).alloc _).alloc _).put_new _ _ (by omega)⟩
theorem newConsume_any (w : World) (c : UInt8) (n fe : UInt64) (m : Message) : Calls Try.prog 37 #[.int .u8 (w8 c), .int .u64 (w64 n), .int .u64 (w64 fe), .agg m.enc.toArray] w fun e w' => e = .returned (.agg (Tx.enc { Tx.zero with kind := 5, chain := c, from_ := m.receiver, nonce := n, fee := fe, msg := m }).toArray) ∧ Ext w w' := by
  go_enter Try.func37, Try.ntmps37
  go_wp2_with fail
  refine ret_cell (C := Tx.enc { Tx.zero with kind := 5, chain := c, from_ := m.receiver, nonce := n, fee := fe, msg := m }) rfl rfl ?_ (by kernel_rfl) (by rw [Tx.length_enc]; kernel_rfl) rfl ?_
  · first | (rw [blk_alloc, if_pos rfl]; done) | (rw [blk_alloc, if_pos rfl]; rfl) | (rw [blk_put, if_pos rfl, blk_alloc, if_pos (by rw [World.size_alloc])]; rfl) | (rw [blk_put, if_pos rfl, blk_alloc, if_pos rfl]; rfl)
  · exact ⟨rfl, by first | exact (Ext.refl _).alloc _ | exact ((Ext.refl _).alloc _).alloc _ | exact ((Ext.refl _).alloc _).put_new _ _ (Nat.le_refl _) | exact (((Ext.refl _).alloc _).alloc _).put_new _ _ (by omega)⟩
end Go.Proofs.Qxb6500786a
