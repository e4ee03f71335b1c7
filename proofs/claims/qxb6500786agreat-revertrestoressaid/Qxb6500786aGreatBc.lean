import Derived.Test.Qxb6500786aGreatBb

import Derived.StillTailTactics
import Derived.Deep.QuietTactic
import Derived.BigQuiet
import Derived.Deep.RegionHeld
import Derived.Deep.CutRange
import Derived.Laws.ResultCell
import Derived.Laws.Rows
import Derived.DeepKeys
import Derived.DataBytes
import Derived.Laws.StructEq
import Derived.Laws.AppendOwn
import Derived.Laws.MakeOwn
import Derived.Lib.AppendStr
set_option linter.unusedSimpArgs false
set_option linter.unusedVariables false
namespace Go.Proofs.Qxb6500786aGreat
open Go.RowKit Go.Blk
attribute [local go_sem ↓] execOp_load execOp_store execOp_alloc
attribute [local go_sem] Tryz.ld24 Tryz.st24 Tryz.ld36 Tryz.st36 Tryz.ld28 Tryz.st28 Tryz.ld32 Tryz.st32 Tryz.ld33 Tryz.st33 Tryz.ld34 Tryz.st34 Tryz.ld5 Tryz.st5 Tryz.ld31 Tryz.st31 Tryz.ld30 Tryz.st30 Tryz.ld41 Tryz.st41 Tryz.ld44 Tryz.st44 Tryz.ld4 Tryz.st4 Tryz.ld173 Tryz.st173 Tryz.ld174 Tryz.st174 Tryz.ld95 Tryz.st95 Tryz.ld45 Tryz.st45 Tryz.ld207 Tryz.st207 Tryz.ld3 Tryz.st3 Tryz.ld189 Tryz.st189 Tryz.ld2 Tryz.st2 Tryz.ld9 Tryz.st9 Tryz.ld12 Tryz.st12 Tryz.ld21 Tryz.st21 Tryz.ld22 Tryz.st22 Tryz.ld46 Tryz.st46 Tryz.ld92 Tryz.st92 Tryz.ld94 Tryz.st94 Tryz.ld96 Tryz.st96 Tryz.ld97 Tryz.st97 Tryz.ld105 Tryz.st105 Tryz.ld117 Tryz.st117 Tryz.ld122 Tryz.st122 Tryz.ld123 Tryz.st123 Tryz.ld133 Tryz.st133 Tryz.ld155 Tryz.st155 Tryz.ld163 Tryz.st163 Tryz.ld190 Tryz.st190 Tryz.ld197 Tryz.st197 Tryz.ld201 Tryz.st201 Tryz.ld202 Tryz.st202 Tryz.ld209 Tryz.st209 Tryz.ld216 Tryz.st216 Tryz.ld230 Tryz.st230 Tryz.ld238 Tryz.st238 Tryz.ld242 Tryz.st242 Tryz.ld251 Tryz.st251 Tryz.ld260 Tryz.st260 Tryz.ld286 Tryz.st286 Tryz.ld292 Tryz.st292 Tryz.ld298 Tryz.st298 Tryz.ld309 Tryz.st309 Tryz.ld35 Tryz.st35 Tryz.ld48 Tryz.st48 Tryz.ld47 Tryz.st47 Tryz.ld79 Tryz.st79 Tryz.ld177 Tryz.st177 Tryz.ld180 Tryz.st180 Tryz.ld231 Tryz.st231 Tryz.ld232 Tryz.st232 Tryz.ld26 Tryz.st26 Tryz.ld38 Tryz.st38 Tryz.ld40 Tryz.st40 Tryz.ld43 Tryz.st43 Tryz.ld50 Tryz.st50 Tryz.ld52 Tryz.st52 Tryz.ld54 Tryz.st54 Tryz.ld81 Tryz.st81 Tryz.ld112 Tryz.st112 Tryz.ld120 Tryz.st120 Tryz.ld176 Tryz.st176 Tryz.ld179 Tryz.st179 Tryz.ld182 Tryz.st182 Tryz.ld184 Tryz.st184 Tryz.ld234 Tryz.st234 Tryz.ld236 Tryz.st236 Tryz.ld240 Tryz.st240 Tryz.ld246 Tryz.st246 Tryz.ld249 Tryz.st249 Tryz.al35 Tryz.al48 Tryz.al47 Tryz.al79 Tryz.al177 Tryz.al180 Tryz.al231 Tryz.al232 Tryz.al26 Tryz.al38 Tryz.al40 Tryz.al43 Tryz.al50 Tryz.al52 Tryz.al54 Tryz.al81 Tryz.al112 Tryz.al120 Tryz.al176 Tryz.al179 Tryz.al182 Tryz.al184 Tryz.al234 Tryz.al236 Tryz.al240 Tryz.al246 Tryz.al249
attribute [local go_sem] Player.length_enc Player.ok_enc Player.all_get Player.all_set Player.hand_get Player.hand_set Player.aside_get Player.aside_set Message.length_enc Message.ok_enc Message.all_get Message.all_set Message.kind_get Message.kind_set Message.from__get Message.from__set Message.to__get Message.to__set Message.sender_get Message.sender_set Message.receiver_get Message.receiver_set Message.seq_get Message.seq_set Message.token_get Message.token_set Message.amount_get Message.amount_set Message.size_get Message.size_set Message.payload_get Message.payload_set Tx.length_enc Tx.ok_enc Tx.all_get Tx.all_set Tx.kind_get Tx.kind_set Tx.chain_get Tx.chain_set Tx.from__get Tx.from__set Tx.nonce_get Tx.nonce_set Tx.fee_get Tx.fee_set Tx.to__get Tx.to__set Tx.dest_get Tx.dest_set Tx.token_get Tx.token_set Tx.amount_get Tx.amount_set Tx.size_get Tx.size_set Tx.payload_get Tx.payload_set Tx.msg_get Tx.msg_set Tx.msg_kind_get Tx.msg_kind_set Tx.msg_from__get Tx.msg_from__set Tx.msg_to__get Tx.msg_to__set Tx.msg_sender_get Tx.msg_sender_set Tx.msg_receiver_get Tx.msg_receiver_set Tx.msg_seq_get Tx.msg_seq_set Tx.msg_token_get Tx.msg_token_set Tx.msg_amount_get Tx.msg_amount_set Tx.msg_size_get Tx.msg_size_set Tx.msg_payload_get Tx.msg_payload_set GOp.length_enc GOp.ok_enc GOp.all_get GOp.all_set GOp.kind_get GOp.kind_set GOp.tx_get GOp.tx_set GOp.txs_get GOp.txs_set GOp.gas_get GOp.gas_set GOp.acct_get GOp.acct_set GOp.token_get GOp.token_set GOp.chain_get GOp.chain_set GOp.seq_get GOp.seq_set GOp.tx_kind_get GOp.tx_kind_set GOp.tx_chain_get GOp.tx_chain_set GOp.tx_from__get GOp.tx_from__set GOp.tx_nonce_get GOp.tx_nonce_set GOp.tx_fee_get GOp.tx_fee_set GOp.tx_to__get GOp.tx_to__set GOp.tx_dest_get GOp.tx_dest_set GOp.tx_token_get GOp.tx_token_set GOp.tx_amount_get GOp.tx_amount_set GOp.tx_size_get GOp.tx_size_set GOp.tx_payload_get GOp.tx_payload_set GOp.tx_msg_get GOp.tx_msg_set GOp.tx_msg_kind_get GOp.tx_msg_kind_set GOp.tx_msg_from__get GOp.tx_msg_from__set GOp.tx_msg_to__get GOp.tx_msg_to__set GOp.tx_msg_sender_get GOp.tx_msg_sender_set GOp.tx_msg_receiver_get GOp.tx_msg_receiver_set GOp.tx_msg_seq_get GOp.tx_msg_seq_set GOp.tx_msg_token_get GOp.tx_msg_token_set GOp.tx_msg_amount_get GOp.tx_msg_amount_set GOp.tx_msg_size_get GOp.tx_msg_size_set GOp.tx_msg_payload_get GOp.tx_msg_payload_set Summary.length_enc Summary.ok_enc Summary.all_get Summary.all_set Summary.height_get Summary.height_set Summary.txs_get Summary.txs_set Summary.gas_get Summary.gas_set Summary.fees_get Summary.fees_set Summary.sent_get Summary.sent_set Summary.took_get Summary.took_set Summary.minted_get Summary.minted_set Summary.burned_get Summary.burned_set Summary.root_get Summary.root_set Detail.length_enc Detail.ok_enc Detail.all_get Detail.all_set Detail.code_get Detail.code_set Detail.have__get Detail.have__set Detail.need_get Detail.need_set Slot.length_enc Slot.ok_enc Slot.all_get Slot.all_set Slot.nonce_get Slot.nonce_set Slot.balances_get Slot.balances_set Tree.length_enc Tree.ok_enc Tree.all_get Tree.all_set Tree.leaves_get Tree.leaves_set Mark.length_enc Mark.ok_enc Mark.all_get Mark.all_set Mark.from__get Mark.from__set Mark.seq_get Mark.seq_set Receipt.length_enc Receipt.ok_enc Receipt.all_get Receipt.all_set Receipt.code_get Receipt.code_set Receipt.hash_get Receipt.hash_set Receipt.index_get Receipt.index_set Receipt.gas_get Receipt.gas_set Receipt.fee_get Receipt.fee_set Receipt.hasSent_get Receipt.hasSent_set Receipt.sent_get Receipt.sent_set Receipt.hasTook_get Receipt.hasTook_set Receipt.took_get Receipt.took_set Receipt.sent_kind_get Receipt.sent_kind_set Receipt.sent_from__get Receipt.sent_from__set Receipt.sent_to__get Receipt.sent_to__set Receipt.sent_sender_get Receipt.sent_sender_set Receipt.sent_receiver_get Receipt.sent_receiver_set Receipt.sent_seq_get Receipt.sent_seq_set Receipt.sent_token_get Receipt.sent_token_set Receipt.sent_amount_get Receipt.sent_amount_set Receipt.sent_size_get Receipt.sent_size_set Receipt.sent_payload_get Receipt.sent_payload_set Receipt.took_kind_get Receipt.took_kind_set Receipt.took_from__get Receipt.took_from__set Receipt.took_to__get Receipt.took_to__set Receipt.took_sender_get Receipt.took_sender_set Receipt.took_receiver_get Receipt.took_receiver_set Receipt.took_seq_get Receipt.took_seq_set Receipt.took_token_get Receipt.took_token_set Receipt.took_amount_get Receipt.took_amount_set Receipt.took_size_get Receipt.took_size_set Receipt.took_payload_get Receipt.took_payload_set Store.length_enc Store.ok_enc Store.all_get Store.all_set Store.now_get Store.now_set Store.saved_get Store.saved_set GState.length_enc GState.ok_enc GState.all_get GState.all_set GState.kv_get GState.kv_set GState.tree_get GState.tree_set GState.stale_get GState.stale_set GState.touched_get GState.touched_set GState.kv_now_get GState.kv_now_set GState.kv_saved_get GState.kv_saved_set GState.tree_leaves_get GState.tree_leaves_set History.length_enc History.ok_enc History.all_get History.all_set History.ring_get History.ring_set History.closed_get History.closed_set Ledger.length_enc Ledger.ok_enc Ledger.all_get Ledger.all_set Ledger.chain_get Ledger.chain_set Ledger.st_get Ledger.st_set Ledger.height_get Ledger.height_set Ledger.open__get Ledger.open__set Ledger.gasLimit_get Ledger.gasLimit_set Ledger.past_get Ledger.past_set Ledger.begun_get Ledger.begun_set Ledger.sent_get Ledger.sent_set Ledger.took_get Ledger.took_set Ledger.receipts_get Ledger.receipts_set Ledger.st_kv_get Ledger.st_kv_set Ledger.st_tree_get Ledger.st_tree_set Ledger.st_stale_get Ledger.st_stale_set Ledger.st_touched_get Ledger.st_touched_set Ledger.st_kv_now_get Ledger.st_kv_now_set Ledger.st_kv_saved_get Ledger.st_kv_saved_set Ledger.st_tree_leaves_get Ledger.st_tree_leaves_set Ledger.past_ring_get Ledger.past_ring_set Ledger.past_closed_get Ledger.past_closed_set Ledger.begun_kv_get Ledger.begun_kv_set Ledger.begun_tree_get Ledger.begun_tree_set Ledger.begun_stale_get Ledger.begun_stale_set Ledger.begun_touched_get Ledger.begun_touched_set Ledger.begun_kv_now_get Ledger.begun_kv_now_set Ledger.begun_kv_saved_get Ledger.begun_kv_saved_set Ledger.begun_tree_leaves_get Ledger.begun_tree_leaves_set Purse.length_enc Purse.ok_enc Purse.all_get Purse.all_set Purse.st_get Purse.st_set Purse.n_get Purse.n_set Purse.account_get Purse.account_set Purse.token_get Purse.token_set Purse.amount_get Purse.amount_set Plan.length_enc Plan.ok_enc Plan.all_get Plan.all_set Plan.purse_get Plan.purse_set Plan.nonce_get Plan.nonce_set Plan.gasUsed_get Plan.gasUsed_set Plan.fees_get Plan.fees_set Plan.hasSupply_get Plan.hasSupply_set Plan.token_get Plan.token_set Plan.supply_get Plan.supply_set Plan.flowAt_get Plan.flowAt_set Plan.flow_get Plan.flow_set Plan.receipt_get Plan.receipt_set Plan.purse_st_get Plan.purse_st_set Plan.purse_n_get Plan.purse_n_set Plan.purse_account_get Plan.purse_account_set Plan.purse_token_get Plan.purse_token_set Plan.purse_amount_get Plan.purse_amount_set Plan.receipt_code_get Plan.receipt_code_set Plan.receipt_hash_get Plan.receipt_hash_set Plan.receipt_index_get Plan.receipt_index_set Plan.receipt_gas_get Plan.receipt_gas_set Plan.receipt_fee_get Plan.receipt_fee_set Plan.receipt_hasSent_get Plan.receipt_hasSent_set Plan.receipt_sent_get Plan.receipt_sent_set Plan.receipt_hasTook_get Plan.receipt_hasTook_set Plan.receipt_took_get Plan.receipt_took_set Plan.receipt_sent_kind_get Plan.receipt_sent_kind_set Plan.receipt_sent_from__get Plan.receipt_sent_from__set Plan.receipt_sent_to__get Plan.receipt_sent_to__set Plan.receipt_sent_sender_get Plan.receipt_sent_sender_set Plan.receipt_sent_receiver_get Plan.receipt_sent_receiver_set Plan.receipt_sent_seq_get Plan.receipt_sent_seq_set Plan.receipt_sent_token_get Plan.receipt_sent_token_set Plan.receipt_sent_amount_get Plan.receipt_sent_amount_set Plan.receipt_sent_size_get Plan.receipt_sent_size_set Plan.receipt_sent_payload_get Plan.receipt_sent_payload_set Plan.receipt_took_kind_get Plan.receipt_took_kind_set Plan.receipt_took_from__get Plan.receipt_took_from__set Plan.receipt_took_to__get Plan.receipt_took_to__set Plan.receipt_took_sender_get Plan.receipt_took_sender_set Plan.receipt_took_receiver_get Plan.receipt_took_receiver_set Plan.receipt_took_seq_get Plan.receipt_took_seq_set Plan.receipt_took_token_get Plan.receipt_took_token_set Plan.receipt_took_amount_get Plan.receipt_took_amount_set Plan.receipt_took_size_get Plan.receipt_took_size_set Plan.receipt_took_payload_get Plan.receipt_took_payload_set Move.length_enc Move.ok_enc Move.all_get Move.all_set Move.account_get Move.account_set Move.token_get Move.token_set Move.down_get Move.down_set Move.amount_get Move.amount_set Books.length_enc Books.ok_enc Books.all_get Books.all_set Books.sums_get Books.sums_set Books.stored_get Books.stored_set Books.marks_get Books.marks_set Pair.length_enc Pair.ok_enc Pair.all_get Pair.all_set Pair.key_get Pair.key_set Pair.value_get Pair.value_set
attribute [local go_sem] size_put size_ext blk_put free_put blk_alloc free_alloc blk_drew free_drew blk_ext free_ext lookOr_some putOr_some segAt_some cellAt_some storeIn_some put_put put_alloc_new length_arr ok_arr_u8 ok_arr_u32 ok_arr_u64 ok_arr_i64 ok_arr_sl cellsV_agg cellsV_int cellsV_bool cellsV_string cellsV_pointer cellsV_slice cellsV_sl ok_int ok_bool ok_string ok_pointer ok_slice ok_sl toList_arr seg_arr set_arr nth_splice nth_splice0 seg_splice seg_splice0 splice_splice splice_splice0 length_splice_if
attribute [local go_sem ↓] execOp_box
attribute [local go_sem] box_run nth_arr_u8 put_arr_u8 blk_drewN free_drewN put_drewN blk_raw free_raw
theorem w32_lt (a : UInt32) : a.toNat < 4294967296 := a.toNat_lt
theorem w32_bd (a : UInt32) : 0 ≤ w32 a ∧ w32 a < 4294967296 := by unfold w32; have := w32_lt a; omega
theorem w32_and (a b : UInt32) : bits .and .u32 (w32 a) (w32 b) = w32 (a &&& b) := by unfold w32; rw [u32_and_nat _ _ (w32_lt a) (w32_lt b), UInt32.toNat_and]
theorem w32_or (a b : UInt32) : bits .or .u32 (w32 a) (w32 b) = w32 (a ||| b) := by unfold w32; rw [u32_or_nat _ _ (w32_lt a) (w32_lt b), UInt32.toNat_or]
theorem w32_xor (a b : UInt32) : bits .xor .u32 (w32 a) (w32 b) = w32 (a ^^^ b) := by unfold w32; rw [u32_xor_nat _ _ (w32_lt a) (w32_lt b), UInt32.toNat_xor]
theorem w32_add (a b : UInt32) : (w32 a + w32 b) % 4294967296 = w32 (a + b) := by unfold w32; rw [UInt32.toNat_add]; omega
theorem w32_or8 (a : UInt32) (b : UInt8) : bits .or .u32 (w32 a) (w8 b) = w32 (a ||| b.toUInt32) := by rw [← w32_or]; unfold w32 w8; simp
theorem w8_and (a b : UInt8) : bits .and .u8 (w8 a) (w8 b) = w8 (a &&& b) := by unfold w8; rw [u8_and_nat _ _ (w8_lt a) (w8_lt b), UInt8.toNat_and]
theorem w8_or (a b : UInt8) : bits .or .u8 (w8 a) (w8 b) = w8 (a ||| b) := by unfold w8; rw [u8_or_nat _ _ (w8_lt a) (w8_lt b), UInt8.toNat_or]
theorem w8_xor (a b : UInt8) : bits .xor .u8 (w8 a) (w8 b) = w8 (a ^^^ b) := by unfold w8; rw [u8_xor_nat _ _ (w8_lt a) (w8_lt b), UInt8.toNat_xor]
theorem w32_not (a : UInt32) : bits .xor .u32 IntKind.u32.max (w32 a) = w32 (~~~a) := by
  have h : (IntKind.u32.max : Int) = w32 (4294967295 : UInt32) := by decide
  rw [h, w32_xor]
  congr 2
theorem v32_add (a b : UInt32) : IntKind.u32.wrap (w32 a + w32 b) = w32 (a + b) := by rw [IntKind.wrap_u32]; exact w32_add a b
theorem w32_shr2 (a : UInt32) : w32 a / (4 : Int) = w32 (a >>> 2) := by unfold w32; rw [UInt32.toNat_shiftRight, Nat.shiftRight_eq_div_pow]; rfl
theorem w32_shl2 (a : UInt32) : w32 a * (4 : Int) % (4294967296 : Int) = w32 (a <<< 2) := by unfold w32; rw [UInt32.toNat_shiftLeft, Nat.shiftLeft_eq]; rfl
theorem v32_shr2 (a : UInt32) : Int.fdiv (w32 a) (4 : Int) = w32 (a >>> 2) := by rw [Int.fdiv_eq_ediv_of_nonneg _ (by decide)]; exact w32_shr2 a
theorem v32_shl2 (a : UInt32) : IntKind.u32.wrap (w32 a * (4 : Int)) = w32 (a <<< 2) := by rw [IntKind.wrap_u32]; exact w32_shl2 a
theorem w32_shr3 (a : UInt32) : w32 a / (8 : Int) = w32 (a >>> 3) := by unfold w32; rw [UInt32.toNat_shiftRight, Nat.shiftRight_eq_div_pow]; rfl
theorem w32_shl3 (a : UInt32) : w32 a * (8 : Int) % (4294967296 : Int) = w32 (a <<< 3) := by unfold w32; rw [UInt32.toNat_shiftLeft, Nat.shiftLeft_eq]; rfl
theorem v32_shr3 (a : UInt32) : Int.fdiv (w32 a) (8 : Int) = w32 (a >>> 3) := by rw [Int.fdiv_eq_ediv_of_nonneg _ (by decide)]; exact w32_shr3 a
theorem v32_shl3 (a : UInt32) : IntKind.u32.wrap (w32 a * (8 : Int)) = w32 (a <<< 3) := by rw [IntKind.wrap_u32]; exact w32_shl3 a
theorem w32_shr6 (a : UInt32) : w32 a / (64 : Int) = w32 (a >>> 6) := by unfold w32; rw [UInt32.toNat_shiftRight, Nat.shiftRight_eq_div_pow]; rfl
theorem w32_shl6 (a : UInt32) : w32 a * (64 : Int) % (4294967296 : Int) = w32 (a <<< 6) := by unfold w32; rw [UInt32.toNat_shiftLeft, Nat.shiftLeft_eq]; rfl
theorem v32_shr6 (a : UInt32) : Int.fdiv (w32 a) (64 : Int) = w32 (a >>> 6) := by rw [Int.fdiv_eq_ediv_of_nonneg _ (by decide)]; exact w32_shr6 a
theorem v32_shl6 (a : UInt32) : IntKind.u32.wrap (w32 a * (64 : Int)) = w32 (a <<< 6) := by rw [IntKind.wrap_u32]; exact w32_shl6 a
theorem w32_shr7 (a : UInt32) : w32 a / (128 : Int) = w32 (a >>> 7) := by unfold w32; rw [UInt32.toNat_shiftRight, Nat.shiftRight_eq_div_pow]; rfl
theorem w32_shl7 (a : UInt32) : w32 a * (128 : Int) % (4294967296 : Int) = w32 (a <<< 7) := by unfold w32; rw [UInt32.toNat_shiftLeft, Nat.shiftLeft_eq]; rfl
theorem v32_shr7 (a : UInt32) : Int.fdiv (w32 a) (128 : Int) = w32 (a >>> 7) := by rw [Int.fdiv_eq_ediv_of_nonneg _ (by decide)]; exact w32_shr7 a
theorem v32_shl7 (a : UInt32) : IntKind.u32.wrap (w32 a * (128 : Int)) = w32 (a <<< 7) := by rw [IntKind.wrap_u32]; exact w32_shl7 a
theorem w32_shr8 (a : UInt32) : w32 a / (256 : Int) = w32 (a >>> 8) := by unfold w32; rw [UInt32.toNat_shiftRight, Nat.shiftRight_eq_div_pow]; rfl
theorem w32_shl8 (a : UInt32) : w32 a * (256 : Int) % (4294967296 : Int) = w32 (a <<< 8) := by unfold w32; rw [UInt32.toNat_shiftLeft, Nat.shiftLeft_eq]; rfl
theorem v32_shr8 (a : UInt32) : Int.fdiv (w32 a) (256 : Int) = w32 (a >>> 8) := by rw [Int.fdiv_eq_ediv_of_nonneg _ (by decide)]; exact w32_shr8 a
theorem v32_shl8 (a : UInt32) : IntKind.u32.wrap (w32 a * (256 : Int)) = w32 (a <<< 8) := by rw [IntKind.wrap_u32]; exact w32_shl8 a
theorem w32_shr10 (a : UInt32) : w32 a / (1024 : Int) = w32 (a >>> 10) := by unfold w32; rw [UInt32.toNat_shiftRight, Nat.shiftRight_eq_div_pow]; rfl
theorem w32_shl10 (a : UInt32) : w32 a * (1024 : Int) % (4294967296 : Int) = w32 (a <<< 10) := by unfold w32; rw [UInt32.toNat_shiftLeft, Nat.shiftLeft_eq]; rfl
theorem v32_shr10 (a : UInt32) : Int.fdiv (w32 a) (1024 : Int) = w32 (a >>> 10) := by rw [Int.fdiv_eq_ediv_of_nonneg _ (by decide)]; exact w32_shr10 a
theorem v32_shl10 (a : UInt32) : IntKind.u32.wrap (w32 a * (1024 : Int)) = w32 (a <<< 10) := by rw [IntKind.wrap_u32]; exact w32_shl10 a
theorem w32_shr11 (a : UInt32) : w32 a / (2048 : Int) = w32 (a >>> 11) := by unfold w32; rw [UInt32.toNat_shiftRight, Nat.shiftRight_eq_div_pow]; rfl
theorem w32_shl11 (a : UInt32) : w32 a * (2048 : Int) % (4294967296 : Int) = w32 (a <<< 11) := by unfold w32; rw [UInt32.toNat_shiftLeft, Nat.shiftLeft_eq]; rfl
theorem v32_shr11 (a : UInt32) : Int.fdiv (w32 a) (2048 : Int) = w32 (a >>> 11) := by rw [Int.fdiv_eq_ediv_of_nonneg _ (by decide)]; exact w32_shr11 a
theorem v32_shl11 (a : UInt32) : IntKind.u32.wrap (w32 a * (2048 : Int)) = w32 (a <<< 11) := by rw [IntKind.wrap_u32]; exact w32_shl11 a
theorem w32_shr13 (a : UInt32) : w32 a / (8192 : Int) = w32 (a >>> 13) := by unfold w32; rw [UInt32.toNat_shiftRight, Nat.shiftRight_eq_div_pow]; rfl
theorem w32_shl13 (a : UInt32) : w32 a * (8192 : Int) % (4294967296 : Int) = w32 (a <<< 13) := by unfold w32; rw [UInt32.toNat_shiftLeft, Nat.shiftLeft_eq]; rfl
theorem v32_shr13 (a : UInt32) : Int.fdiv (w32 a) (8192 : Int) = w32 (a >>> 13) := by rw [Int.fdiv_eq_ediv_of_nonneg _ (by decide)]; exact w32_shr13 a
theorem v32_shl13 (a : UInt32) : IntKind.u32.wrap (w32 a * (8192 : Int)) = w32 (a <<< 13) := by rw [IntKind.wrap_u32]; exact w32_shl13 a
theorem w32_shr14 (a : UInt32) : w32 a / (16384 : Int) = w32 (a >>> 14) := by unfold w32; rw [UInt32.toNat_shiftRight, Nat.shiftRight_eq_div_pow]; rfl
theorem w32_shl14 (a : UInt32) : w32 a * (16384 : Int) % (4294967296 : Int) = w32 (a <<< 14) := by unfold w32; rw [UInt32.toNat_shiftLeft, Nat.shiftLeft_eq]; rfl
theorem v32_shr14 (a : UInt32) : Int.fdiv (w32 a) (16384 : Int) = w32 (a >>> 14) := by rw [Int.fdiv_eq_ediv_of_nonneg _ (by decide)]; exact w32_shr14 a
theorem v32_shl14 (a : UInt32) : IntKind.u32.wrap (w32 a * (16384 : Int)) = w32 (a <<< 14) := by rw [IntKind.wrap_u32]; exact w32_shl14 a
theorem w32_shr15 (a : UInt32) : w32 a / (32768 : Int) = w32 (a >>> 15) := by unfold w32; rw [UInt32.toNat_shiftRight, Nat.shiftRight_eq_div_pow]; rfl
theorem w32_shl15 (a : UInt32) : w32 a * (32768 : Int) % (4294967296 : Int) = w32 (a <<< 15) := by unfold w32; rw [UInt32.toNat_shiftLeft, Nat.shiftLeft_eq]; rfl
theorem v32_shr15 (a : UInt32) : Int.fdiv (w32 a) (32768 : Int) = w32 (a >>> 15) := by rw [Int.fdiv_eq_ediv_of_nonneg _ (by decide)]; exact w32_shr15 a
theorem v32_shl15 (a : UInt32) : IntKind.u32.wrap (w32 a * (32768 : Int)) = w32 (a <<< 15) := by rw [IntKind.wrap_u32]; exact w32_shl15 a
theorem w32_shr16 (a : UInt32) : w32 a / (65536 : Int) = w32 (a >>> 16) := by unfold w32; rw [UInt32.toNat_shiftRight, Nat.shiftRight_eq_div_pow]; rfl
theorem w32_shl16 (a : UInt32) : w32 a * (65536 : Int) % (4294967296 : Int) = w32 (a <<< 16) := by unfold w32; rw [UInt32.toNat_shiftLeft, Nat.shiftLeft_eq]; rfl
theorem v32_shr16 (a : UInt32) : Int.fdiv (w32 a) (65536 : Int) = w32 (a >>> 16) := by rw [Int.fdiv_eq_ediv_of_nonneg _ (by decide)]; exact w32_shr16 a
theorem v32_shl16 (a : UInt32) : IntKind.u32.wrap (w32 a * (65536 : Int)) = w32 (a <<< 16) := by rw [IntKind.wrap_u32]; exact w32_shl16 a
theorem w32_shr17 (a : UInt32) : w32 a / (131072 : Int) = w32 (a >>> 17) := by unfold w32; rw [UInt32.toNat_shiftRight, Nat.shiftRight_eq_div_pow]; rfl
theorem w32_shl17 (a : UInt32) : w32 a * (131072 : Int) % (4294967296 : Int) = w32 (a <<< 17) := by unfold w32; rw [UInt32.toNat_shiftLeft, Nat.shiftLeft_eq]; rfl
theorem v32_shr17 (a : UInt32) : Int.fdiv (w32 a) (131072 : Int) = w32 (a >>> 17) := by rw [Int.fdiv_eq_ediv_of_nonneg _ (by decide)]; exact w32_shr17 a
theorem v32_shl17 (a : UInt32) : IntKind.u32.wrap (w32 a * (131072 : Int)) = w32 (a <<< 17) := by rw [IntKind.wrap_u32]; exact w32_shl17 a
theorem w32_shr18 (a : UInt32) : w32 a / (262144 : Int) = w32 (a >>> 18) := by unfold w32; rw [UInt32.toNat_shiftRight, Nat.shiftRight_eq_div_pow]; rfl
theorem w32_shl18 (a : UInt32) : w32 a * (262144 : Int) % (4294967296 : Int) = w32 (a <<< 18) := by unfold w32; rw [UInt32.toNat_shiftLeft, Nat.shiftLeft_eq]; rfl
theorem v32_shr18 (a : UInt32) : Int.fdiv (w32 a) (262144 : Int) = w32 (a >>> 18) := by rw [Int.fdiv_eq_ediv_of_nonneg _ (by decide)]; exact w32_shr18 a
theorem v32_shl18 (a : UInt32) : IntKind.u32.wrap (w32 a * (262144 : Int)) = w32 (a <<< 18) := by rw [IntKind.wrap_u32]; exact w32_shl18 a
theorem w32_shr19 (a : UInt32) : w32 a / (524288 : Int) = w32 (a >>> 19) := by unfold w32; rw [UInt32.toNat_shiftRight, Nat.shiftRight_eq_div_pow]; rfl
theorem w32_shl19 (a : UInt32) : w32 a * (524288 : Int) % (4294967296 : Int) = w32 (a <<< 19) := by unfold w32; rw [UInt32.toNat_shiftLeft, Nat.shiftLeft_eq]; rfl
theorem v32_shr19 (a : UInt32) : Int.fdiv (w32 a) (524288 : Int) = w32 (a >>> 19) := by rw [Int.fdiv_eq_ediv_of_nonneg _ (by decide)]; exact w32_shr19 a
theorem v32_shl19 (a : UInt32) : IntKind.u32.wrap (w32 a * (524288 : Int)) = w32 (a <<< 19) := by rw [IntKind.wrap_u32]; exact w32_shl19 a
theorem w32_shr21 (a : UInt32) : w32 a / (2097152 : Int) = w32 (a >>> 21) := by unfold w32; rw [UInt32.toNat_shiftRight, Nat.shiftRight_eq_div_pow]; rfl
theorem w32_shl21 (a : UInt32) : w32 a * (2097152 : Int) % (4294967296 : Int) = w32 (a <<< 21) := by unfold w32; rw [UInt32.toNat_shiftLeft, Nat.shiftLeft_eq]; rfl
theorem v32_shr21 (a : UInt32) : Int.fdiv (w32 a) (2097152 : Int) = w32 (a >>> 21) := by rw [Int.fdiv_eq_ediv_of_nonneg _ (by decide)]; exact w32_shr21 a
theorem v32_shl21 (a : UInt32) : IntKind.u32.wrap (w32 a * (2097152 : Int)) = w32 (a <<< 21) := by rw [IntKind.wrap_u32]; exact w32_shl21 a
theorem w32_shr22 (a : UInt32) : w32 a / (4194304 : Int) = w32 (a >>> 22) := by unfold w32; rw [UInt32.toNat_shiftRight, Nat.shiftRight_eq_div_pow]; rfl
theorem w32_shl22 (a : UInt32) : w32 a * (4194304 : Int) % (4294967296 : Int) = w32 (a <<< 22) := by unfold w32; rw [UInt32.toNat_shiftLeft, Nat.shiftLeft_eq]; rfl
theorem v32_shr22 (a : UInt32) : Int.fdiv (w32 a) (4194304 : Int) = w32 (a >>> 22) := by rw [Int.fdiv_eq_ediv_of_nonneg _ (by decide)]; exact w32_shr22 a
theorem v32_shl22 (a : UInt32) : IntKind.u32.wrap (w32 a * (4194304 : Int)) = w32 (a <<< 22) := by rw [IntKind.wrap_u32]; exact w32_shl22 a
theorem w32_shr24 (a : UInt32) : w32 a / (16777216 : Int) = w32 (a >>> 24) := by unfold w32; rw [UInt32.toNat_shiftRight, Nat.shiftRight_eq_div_pow]; rfl
theorem w32_shl24 (a : UInt32) : w32 a * (16777216 : Int) % (4294967296 : Int) = w32 (a <<< 24) := by unfold w32; rw [UInt32.toNat_shiftLeft, Nat.shiftLeft_eq]; rfl
theorem v32_shr24 (a : UInt32) : Int.fdiv (w32 a) (16777216 : Int) = w32 (a >>> 24) := by rw [Int.fdiv_eq_ediv_of_nonneg _ (by decide)]; exact w32_shr24 a
theorem v32_shl24 (a : UInt32) : IntKind.u32.wrap (w32 a * (16777216 : Int)) = w32 (a <<< 24) := by rw [IntKind.wrap_u32]; exact w32_shl24 a
theorem w32_shr25 (a : UInt32) : w32 a / (33554432 : Int) = w32 (a >>> 25) := by unfold w32; rw [UInt32.toNat_shiftRight, Nat.shiftRight_eq_div_pow]; rfl
theorem w32_shl25 (a : UInt32) : w32 a * (33554432 : Int) % (4294967296 : Int) = w32 (a <<< 25) := by unfold w32; rw [UInt32.toNat_shiftLeft, Nat.shiftLeft_eq]; rfl
theorem v32_shr25 (a : UInt32) : Int.fdiv (w32 a) (33554432 : Int) = w32 (a >>> 25) := by rw [Int.fdiv_eq_ediv_of_nonneg _ (by decide)]; exact w32_shr25 a
theorem v32_shl25 (a : UInt32) : IntKind.u32.wrap (w32 a * (33554432 : Int)) = w32 (a <<< 25) := by rw [IntKind.wrap_u32]; exact w32_shl25 a
theorem w32_shr26 (a : UInt32) : w32 a / (67108864 : Int) = w32 (a >>> 26) := by unfold w32; rw [UInt32.toNat_shiftRight, Nat.shiftRight_eq_div_pow]; rfl
theorem w32_shl26 (a : UInt32) : w32 a * (67108864 : Int) % (4294967296 : Int) = w32 (a <<< 26) := by unfold w32; rw [UInt32.toNat_shiftLeft, Nat.shiftLeft_eq]; rfl
theorem v32_shr26 (a : UInt32) : Int.fdiv (w32 a) (67108864 : Int) = w32 (a >>> 26) := by rw [Int.fdiv_eq_ediv_of_nonneg _ (by decide)]; exact w32_shr26 a
theorem v32_shl26 (a : UInt32) : IntKind.u32.wrap (w32 a * (67108864 : Int)) = w32 (a <<< 26) := by rw [IntKind.wrap_u32]; exact w32_shl26 a
theorem w32_shr30 (a : UInt32) : w32 a / (1073741824 : Int) = w32 (a >>> 30) := by unfold w32; rw [UInt32.toNat_shiftRight, Nat.shiftRight_eq_div_pow]; rfl
theorem w32_shl30 (a : UInt32) : w32 a * (1073741824 : Int) % (4294967296 : Int) = w32 (a <<< 30) := by unfold w32; rw [UInt32.toNat_shiftLeft, Nat.shiftLeft_eq]; rfl
theorem v32_shr30 (a : UInt32) : Int.fdiv (w32 a) (1073741824 : Int) = w32 (a >>> 30) := by rw [Int.fdiv_eq_ediv_of_nonneg _ (by decide)]; exact w32_shr30 a
theorem v32_shl30 (a : UInt32) : IntKind.u32.wrap (w32 a * (1073741824 : Int)) = w32 (a <<< 30) := by rw [IntKind.wrap_u32]; exact w32_shl30 a
theorem w8_shl24 (a : UInt8) : w8 a * (16777216 : Int) = w32 (a.toUInt32 <<< 24) := by unfold w8 w32; rw [UInt32.toNat_shiftLeft, Nat.shiftLeft_eq]; have := w8_lt a; simp; omega
theorem v8_shl24 (a : UInt8) : IntKind.u32.wrap (w8 a * (16777216 : Int)) = w32 (a.toUInt32 <<< 24) := by rw [IntKind.wrap_u32]; have h := w8_shl24 a; have := w32_bd (a.toUInt32 <<< 24); omega
theorem w32_byte24 (a : UInt32) : w32 a / (16777216 : Int) % 256 = w8 (a >>> 24).toUInt8 := by rw [w32_shr24]; unfold w32 w8; simp
theorem w8_shl16 (a : UInt8) : w8 a * (65536 : Int) = w32 (a.toUInt32 <<< 16) := by unfold w8 w32; rw [UInt32.toNat_shiftLeft, Nat.shiftLeft_eq]; have := w8_lt a; simp; omega
theorem v8_shl16 (a : UInt8) : IntKind.u32.wrap (w8 a * (65536 : Int)) = w32 (a.toUInt32 <<< 16) := by rw [IntKind.wrap_u32]; have h := w8_shl16 a; have := w32_bd (a.toUInt32 <<< 16); omega
theorem w32_byte16 (a : UInt32) : w32 a / (65536 : Int) % 256 = w8 (a >>> 16).toUInt8 := by rw [w32_shr16]; unfold w32 w8; simp
theorem w8_shl8 (a : UInt8) : w8 a * (256 : Int) = w32 (a.toUInt32 <<< 8) := by unfold w8 w32; rw [UInt32.toNat_shiftLeft, Nat.shiftLeft_eq]; have := w8_lt a; simp; omega
theorem v8_shl8 (a : UInt8) : IntKind.u32.wrap (w8 a * (256 : Int)) = w32 (a.toUInt32 <<< 8) := by rw [IntKind.wrap_u32]; have h := w8_shl8 a; have := w32_bd (a.toUInt32 <<< 8); omega
theorem w32_byte8 (a : UInt32) : w32 a / (256 : Int) % 256 = w8 (a >>> 8).toUInt8 := by rw [w32_shr8]; unfold w32 w8; simp
theorem w32_byte0 (a : UInt32) : w32 a % 256 = w8 a.toUInt8 := by unfold w32 w8; simp
theorem v32_byte (a : UInt32) : IntKind.u8.wrap (w32 a) = w8 a.toUInt8 := by rw [IntKind.wrap_u8]; exact w32_byte0 a

attribute [local go_sem] w32_and w32_or w32_xor v32_add w32_not w32_shr2 w32_shl2 v32_shr2 v32_shl2 w32_shr3 w32_shl3 v32_shr3 v32_shl3 w32_shr6 w32_shl6 v32_shr6 v32_shl6 w32_shr7 w32_shl7 v32_shr7 v32_shl7 w32_shr8 w32_shl8 v32_shr8 v32_shl8 w32_shr10 w32_shl10 v32_shr10 v32_shl10 w32_shr11 w32_shl11 v32_shr11 v32_shl11 w32_shr13 w32_shl13 v32_shr13 v32_shl13 w32_shr14 w32_shl14 v32_shr14 v32_shl14 w32_shr15 w32_shl15 v32_shr15 v32_shl15 w32_shr16 w32_shl16 v32_shr16 v32_shl16 w32_shr17 w32_shl17 v32_shr17 v32_shl17 w32_shr18 w32_shl18 v32_shr18 v32_shl18 w32_shr19 w32_shl19 v32_shr19 v32_shl19 w32_shr21 w32_shl21 v32_shr21 v32_shl21 w32_shr22 w32_shl22 v32_shr22 v32_shl22 w32_shr24 w32_shl24 v32_shr24 v32_shl24 w32_shr25 w32_shl25 v32_shr25 v32_shl25 w32_shr26 w32_shl26 v32_shr26 v32_shl26 w32_shr30 w32_shl30 v32_shr30 v32_shl30
theorem rotr7_any (W : World) (x : UInt32) : Calls Tryz.prog 228 #[.int .u64 7, .int .u32 (w32 x)] W fun e V => e = .returned (.int .u32 (w32 (x >>> 7 ||| x <<< 25))) ∧ V = W := by
  go_enter Tryz.func228, Tryz.ntmps228
  go_wp2_with fail
  try go_ret
  exact ⟨rfl, rfl⟩
theorem rotr18_any (W : World) (x : UInt32) : Calls Tryz.prog 228 #[.int .u64 18, .int .u32 (w32 x)] W fun e V => e = .returned (.int .u32 (w32 (x >>> 18 ||| x <<< 14))) ∧ V = W := by
  go_enter Tryz.func228, Tryz.ntmps228
  go_wp2_with fail
  try go_ret
  exact ⟨rfl, rfl⟩
theorem rotr17_any (W : World) (x : UInt32) : Calls Tryz.prog 228 #[.int .u64 17, .int .u32 (w32 x)] W fun e V => e = .returned (.int .u32 (w32 (x >>> 17 ||| x <<< 15))) ∧ V = W := by
  go_enter Tryz.func228, Tryz.ntmps228
  go_wp2_with fail
  try go_ret
  exact ⟨rfl, rfl⟩
theorem rotr19_any (W : World) (x : UInt32) : Calls Tryz.prog 228 #[.int .u64 19, .int .u32 (w32 x)] W fun e V => e = .returned (.int .u32 (w32 (x >>> 19 ||| x <<< 13))) ∧ V = W := by
  go_enter Tryz.func228, Tryz.ntmps228
  go_wp2_with fail
  try go_ret
  exact ⟨rfl, rfl⟩
theorem rotr6_any (W : World) (x : UInt32) : Calls Tryz.prog 228 #[.int .u64 6, .int .u32 (w32 x)] W fun e V => e = .returned (.int .u32 (w32 (x >>> 6 ||| x <<< 26))) ∧ V = W := by
  go_enter Tryz.func228, Tryz.ntmps228
  go_wp2_with fail
  try go_ret
  exact ⟨rfl, rfl⟩
theorem rotr11_any (W : World) (x : UInt32) : Calls Tryz.prog 228 #[.int .u64 11, .int .u32 (w32 x)] W fun e V => e = .returned (.int .u32 (w32 (x >>> 11 ||| x <<< 21))) ∧ V = W := by
  go_enter Tryz.func228, Tryz.ntmps228
  go_wp2_with fail
  try go_ret
  exact ⟨rfl, rfl⟩
theorem rotr25_any (W : World) (x : UInt32) : Calls Tryz.prog 228 #[.int .u64 25, .int .u32 (w32 x)] W fun e V => e = .returned (.int .u32 (w32 (x >>> 25 ||| x <<< 7))) ∧ V = W := by
  go_enter Tryz.func228, Tryz.ntmps228
  go_wp2_with fail
  try go_ret
  exact ⟨rfl, rfl⟩
theorem rotr2_any (W : World) (x : UInt32) : Calls Tryz.prog 228 #[.int .u64 2, .int .u32 (w32 x)] W fun e V => e = .returned (.int .u32 (w32 (x >>> 2 ||| x <<< 30))) ∧ V = W := by
  go_enter Tryz.func228, Tryz.ntmps228
  go_wp2_with fail
  try go_ret
  exact ⟨rfl, rfl⟩
theorem rotr13_any (W : World) (x : UInt32) : Calls Tryz.prog 228 #[.int .u64 13, .int .u32 (w32 x)] W fun e V => e = .returned (.int .u32 (w32 (x >>> 13 ||| x <<< 19))) ∧ V = W := by
  go_enter Tryz.func228, Tryz.ntmps228
  go_wp2_with fail
  try go_ret
  exact ⟨rfl, rfl⟩
theorem rotr22_any (W : World) (x : UInt32) : Calls Tryz.prog 228 #[.int .u64 22, .int .u32 (w32 x)] W fun e V => e = .returned (.int .u32 (w32 (x >>> 22 ||| x <<< 10))) ∧ V = W := by
  go_enter Tryz.func228, Tryz.ntmps228
  go_wp2_with fail
  try go_ret
  exact ⟨rfl, rfl⟩
end Go.Proofs.Qxb6500786aGreat
