import Derived.DeepKeys2
import Derived.Test.Qxb6500786aGreatJf
import Derived.Test.Qxb6500786aGreatJe
import Derived.Test.Qxb6500786aGreatZe
import Derived.Test.Qxb6500786aGreatWf
import Derived.Test.Qxb6500786aGreatXd
import Derived.Test.Qxb6500786aGreatUd

import Derived.StillTailTactics
import Derived.Deep.QuietTactic
import Derived.BigQuiet
import Derived.Deep.RegionHeld
import Derived.Deep.CutRange
import Derived.Laws.ResultCell
import Derived.Laws.Rows
import Derived.DeepKeys
import Derived.DataBytes
import Derived.Laws.StructEq
import Derived.Laws.AppendOwn
import Derived.Laws.MakeOwn
import Derived.Lib.AppendStr
set_option linter.unusedSimpArgs false
set_option linter.unusedVariables false
namespace Go.Proofs.Qxb6500786aGreat
open Go.RowKit Go.Blk
attribute [local go_sem ↓] execOp_load execOp_store execOp_alloc
attribute [local go_sem] Tryz.ld24 Tryz.st24 Tryz.ld36 Tryz.st36 Tryz.ld28 Tryz.st28 Tryz.ld32 Tryz.st32 Tryz.ld33 Tryz.st33 Tryz.ld34 Tryz.st34 Tryz.ld5 Tryz.st5 Tryz.ld31 Tryz.st31 Tryz.ld30 Tryz.st30 Tryz.ld41 Tryz.st41 Tryz.ld44 Tryz.st44 Tryz.ld4 Tryz.st4 Tryz.ld173 Tryz.st173 Tryz.ld174 Tryz.st174 Tryz.ld95 Tryz.st95 Tryz.ld45 Tryz.st45 Tryz.ld207 Tryz.st207 Tryz.ld3 Tryz.st3 Tryz.ld189 Tryz.st189 Tryz.ld2 Tryz.st2 Tryz.ld9 Tryz.st9 Tryz.ld12 Tryz.st12 Tryz.ld21 Tryz.st21 Tryz.ld22 Tryz.st22 Tryz.ld46 Tryz.st46 Tryz.ld92 Tryz.st92 Tryz.ld94 Tryz.st94 Tryz.ld96 Tryz.st96 Tryz.ld97 Tryz.st97 Tryz.ld105 Tryz.st105 Tryz.ld117 Tryz.st117 Tryz.ld122 Tryz.st122 Tryz.ld123 Tryz.st123 Tryz.ld133 Tryz.st133 Tryz.ld155 Tryz.st155 Tryz.ld163 Tryz.st163 Tryz.ld190 Tryz.st190 Tryz.ld197 Tryz.st197 Tryz.ld201 Tryz.st201 Tryz.ld202 Tryz.st202 Tryz.ld209 Tryz.st209 Tryz.ld216 Tryz.st216 Tryz.ld230 Tryz.st230 Tryz.ld238 Tryz.st238 Tryz.ld242 Tryz.st242 Tryz.ld251 Tryz.st251 Tryz.ld260 Tryz.st260 Tryz.ld286 Tryz.st286 Tryz.ld292 Tryz.st292 Tryz.ld298 Tryz.st298 Tryz.ld309 Tryz.st309 Tryz.ld35 Tryz.st35 Tryz.ld48 Tryz.st48 Tryz.ld47 Tryz.st47 Tryz.ld79 Tryz.st79 Tryz.ld177 Tryz.st177 Tryz.ld180 Tryz.st180 Tryz.ld231 Tryz.st231 Tryz.ld232 Tryz.st232 Tryz.ld26 Tryz.st26 Tryz.ld38 Tryz.st38 Tryz.ld40 Tryz.st40 Tryz.ld43 Tryz.st43 Tryz.ld50 Tryz.st50 Tryz.ld52 Tryz.st52 Tryz.ld54 Tryz.st54 Tryz.ld81 Tryz.st81 Tryz.ld112 Tryz.st112 Tryz.ld120 Tryz.st120 Tryz.ld176 Tryz.st176 Tryz.ld179 Tryz.st179 Tryz.ld182 Tryz.st182 Tryz.ld184 Tryz.st184 Tryz.ld234 Tryz.st234 Tryz.ld236 Tryz.st236 Tryz.ld240 Tryz.st240 Tryz.ld246 Tryz.st246 Tryz.ld249 Tryz.st249 Tryz.al35 Tryz.al48 Tryz.al47 Tryz.al79 Tryz.al177 Tryz.al180 Tryz.al231 Tryz.al232 Tryz.al26 Tryz.al38 Tryz.al40 Tryz.al43 Tryz.al50 Tryz.al52 Tryz.al54 Tryz.al81 Tryz.al112 Tryz.al120 Tryz.al176 Tryz.al179 Tryz.al182 Tryz.al184 Tryz.al234 Tryz.al236 Tryz.al240 Tryz.al246 Tryz.al249
attribute [local go_sem] Player.length_enc Player.ok_enc Player.all_get Player.all_set Player.hand_get Player.hand_set Player.aside_get Player.aside_set Message.length_enc Message.ok_enc Message.all_get Message.all_set Message.kind_get Message.kind_set Message.from__get Message.from__set Message.to__get Message.to__set Message.sender_get Message.sender_set Message.receiver_get Message.receiver_set Message.seq_get Message.seq_set Message.token_get Message.token_set Message.amount_get Message.amount_set Message.size_get Message.size_set Message.payload_get Message.payload_set Tx.length_enc Tx.ok_enc Tx.all_get Tx.all_set Tx.kind_get Tx.kind_set Tx.chain_get Tx.chain_set Tx.from__get Tx.from__set Tx.nonce_get Tx.nonce_set Tx.fee_get Tx.fee_set Tx.to__get Tx.to__set Tx.dest_get Tx.dest_set Tx.token_get Tx.token_set Tx.amount_get Tx.amount_set Tx.size_get Tx.size_set Tx.payload_get Tx.payload_set Tx.msg_get Tx.msg_set Tx.msg_kind_get Tx.msg_kind_set Tx.msg_from__get Tx.msg_from__set Tx.msg_to__get Tx.msg_to__set Tx.msg_sender_get Tx.msg_sender_set Tx.msg_receiver_get Tx.msg_receiver_set Tx.msg_seq_get Tx.msg_seq_set Tx.msg_token_get Tx.msg_token_set Tx.msg_amount_get Tx.msg_amount_set Tx.msg_size_get Tx.msg_size_set Tx.msg_payload_get Tx.msg_payload_set GOp.length_enc GOp.ok_enc GOp.all_get GOp.all_set GOp.kind_get GOp.kind_set GOp.tx_get GOp.tx_set GOp.txs_get GOp.txs_set GOp.gas_get GOp.gas_set GOp.acct_get GOp.acct_set GOp.token_get GOp.token_set GOp.chain_get GOp.chain_set GOp.seq_get GOp.seq_set GOp.tx_kind_get GOp.tx_kind_set GOp.tx_chain_get GOp.tx_chain_set GOp.tx_from__get GOp.tx_from__set GOp.tx_nonce_get GOp.tx_nonce_set GOp.tx_fee_get GOp.tx_fee_set GOp.tx_to__get GOp.tx_to__set GOp.tx_dest_get GOp.tx_dest_set GOp.tx_token_get GOp.tx_token_set GOp.tx_amount_get GOp.tx_amount_set GOp.tx_size_get GOp.tx_size_set GOp.tx_payload_get GOp.tx_payload_set GOp.tx_msg_get GOp.tx_msg_set GOp.tx_msg_kind_get GOp.tx_msg_kind_set GOp.tx_msg_from__get GOp.tx_msg_from__set GOp.tx_msg_to__get GOp.tx_msg_to__set GOp.tx_msg_sender_get GOp.tx_msg_sender_set GOp.tx_msg_receiver_get GOp.tx_msg_receiver_set GOp.tx_msg_seq_get GOp.tx_msg_seq_set GOp.tx_msg_token_get GOp.tx_msg_token_set GOp.tx_msg_amount_get GOp.tx_msg_amount_set GOp.tx_msg_size_get GOp.tx_msg_size_set GOp.tx_msg_payload_get GOp.tx_msg_payload_set Summary.length_enc Summary.ok_enc Summary.all_get Summary.all_set Summary.height_get Summary.height_set Summary.txs_get Summary.txs_set Summary.gas_get Summary.gas_set Summary.fees_get Summary.fees_set Summary.sent_get Summary.sent_set Summary.took_get Summary.took_set Summary.minted_get Summary.minted_set Summary.burned_get Summary.burned_set Summary.root_get Summary.root_set Detail.length_enc Detail.ok_enc Detail.all_get Detail.all_set Detail.code_get Detail.code_set Detail.have__get Detail.have__set Detail.need_get Detail.need_set Slot.length_enc Slot.ok_enc Slot.all_get Slot.all_set Slot.nonce_get Slot.nonce_set Slot.balances_get Slot.balances_set Tree.length_enc Tree.ok_enc Tree.all_get Tree.all_set Tree.leaves_get Tree.leaves_set Mark.length_enc Mark.ok_enc Mark.all_get Mark.all_set Mark.from__get Mark.from__set Mark.seq_get Mark.seq_set Receipt.length_enc Receipt.ok_enc Receipt.all_get Receipt.all_set Receipt.code_get Receipt.code_set Receipt.hash_get Receipt.hash_set Receipt.index_get Receipt.index_set Receipt.gas_get Receipt.gas_set Receipt.fee_get Receipt.fee_set Receipt.hasSent_get Receipt.hasSent_set Receipt.sent_get Receipt.sent_set Receipt.hasTook_get Receipt.hasTook_set Receipt.took_get Receipt.took_set Receipt.sent_kind_get Receipt.sent_kind_set Receipt.sent_from__get Receipt.sent_from__set Receipt.sent_to__get Receipt.sent_to__set Receipt.sent_sender_get Receipt.sent_sender_set Receipt.sent_receiver_get Receipt.sent_receiver_set Receipt.sent_seq_get Receipt.sent_seq_set Receipt.sent_token_get Receipt.sent_token_set Receipt.sent_amount_get Receipt.sent_amount_set Receipt.sent_size_get Receipt.sent_size_set Receipt.sent_payload_get Receipt.sent_payload_set Receipt.took_kind_get Receipt.took_kind_set Receipt.took_from__get Receipt.took_from__set Receipt.took_to__get Receipt.took_to__set Receipt.took_sender_get Receipt.took_sender_set Receipt.took_receiver_get Receipt.took_receiver_set Receipt.took_seq_get Receipt.took_seq_set Receipt.took_token_get Receipt.took_token_set Receipt.took_amount_get Receipt.took_amount_set Receipt.took_size_get Receipt.took_size_set Receipt.took_payload_get Receipt.took_payload_set Store.length_enc Store.ok_enc Store.all_get Store.all_set Store.now_get Store.now_set Store.saved_get Store.saved_set GState.length_enc GState.ok_enc GState.all_get GState.all_set GState.kv_get GState.kv_set GState.tree_get GState.tree_set GState.stale_get GState.stale_set GState.touched_get GState.touched_set GState.kv_now_get GState.kv_now_set GState.kv_saved_get GState.kv_saved_set GState.tree_leaves_get GState.tree_leaves_set History.length_enc History.ok_enc History.all_get History.all_set History.ring_get History.ring_set History.closed_get History.closed_set Ledger.length_enc Ledger.ok_enc Ledger.all_get Ledger.all_set Ledger.chain_get Ledger.chain_set Ledger.st_get Ledger.st_set Ledger.height_get Ledger.height_set Ledger.open__get Ledger.open__set Ledger.gasLimit_get Ledger.gasLimit_set Ledger.past_get Ledger.past_set Ledger.begun_get Ledger.begun_set Ledger.sent_get Ledger.sent_set Ledger.took_get Ledger.took_set Ledger.receipts_get Ledger.receipts_set Ledger.st_kv_get Ledger.st_kv_set Ledger.st_tree_get Ledger.st_tree_set Ledger.st_stale_get Ledger.st_stale_set Ledger.st_touched_get Ledger.st_touched_set Ledger.st_kv_now_get Ledger.st_kv_now_set Ledger.st_kv_saved_get Ledger.st_kv_saved_set Ledger.st_tree_leaves_get Ledger.st_tree_leaves_set Ledger.past_ring_get Ledger.past_ring_set Ledger.past_closed_get Ledger.past_closed_set Ledger.begun_kv_get Ledger.begun_kv_set Ledger.begun_tree_get Ledger.begun_tree_set Ledger.begun_stale_get Ledger.begun_stale_set Ledger.begun_touched_get Ledger.begun_touched_set Ledger.begun_kv_now_get Ledger.begun_kv_now_set Ledger.begun_kv_saved_get Ledger.begun_kv_saved_set Ledger.begun_tree_leaves_get Ledger.begun_tree_leaves_set Purse.length_enc Purse.ok_enc Purse.all_get Purse.all_set Purse.st_get Purse.st_set Purse.n_get Purse.n_set Purse.account_get Purse.account_set Purse.token_get Purse.token_set Purse.amount_get Purse.amount_set Plan.length_enc Plan.ok_enc Plan.all_get Plan.all_set Plan.purse_get Plan.purse_set Plan.nonce_get Plan.nonce_set Plan.gasUsed_get Plan.gasUsed_set Plan.fees_get Plan.fees_set Plan.hasSupply_get Plan.hasSupply_set Plan.token_get Plan.token_set Plan.supply_get Plan.supply_set Plan.flowAt_get Plan.flowAt_set Plan.flow_get Plan.flow_set Plan.receipt_get Plan.receipt_set Plan.purse_st_get Plan.purse_st_set Plan.purse_n_get Plan.purse_n_set Plan.purse_account_get Plan.purse_account_set Plan.purse_token_get Plan.purse_token_set Plan.purse_amount_get Plan.purse_amount_set Plan.receipt_code_get Plan.receipt_code_set Plan.receipt_hash_get Plan.receipt_hash_set Plan.receipt_index_get Plan.receipt_index_set Plan.receipt_gas_get Plan.receipt_gas_set Plan.receipt_fee_get Plan.receipt_fee_set Plan.receipt_hasSent_get Plan.receipt_hasSent_set Plan.receipt_sent_get Plan.receipt_sent_set Plan.receipt_hasTook_get Plan.receipt_hasTook_set Plan.receipt_took_get Plan.receipt_took_set Plan.receipt_sent_kind_get Plan.receipt_sent_kind_set Plan.receipt_sent_from__get Plan.receipt_sent_from__set Plan.receipt_sent_to__get Plan.receipt_sent_to__set Plan.receipt_sent_sender_get Plan.receipt_sent_sender_set Plan.receipt_sent_receiver_get Plan.receipt_sent_receiver_set Plan.receipt_sent_seq_get Plan.receipt_sent_seq_set Plan.receipt_sent_token_get Plan.receipt_sent_token_set Plan.receipt_sent_amount_get Plan.receipt_sent_amount_set Plan.receipt_sent_size_get Plan.receipt_sent_size_set Plan.receipt_sent_payload_get Plan.receipt_sent_payload_set Plan.receipt_took_kind_get Plan.receipt_took_kind_set Plan.receipt_took_from__get Plan.receipt_took_from__set Plan.receipt_took_to__get Plan.receipt_took_to__set Plan.receipt_took_sender_get Plan.receipt_took_sender_set Plan.receipt_took_receiver_get Plan.receipt_took_receiver_set Plan.receipt_took_seq_get Plan.receipt_took_seq_set Plan.receipt_took_token_get Plan.receipt_took_token_set Plan.receipt_took_amount_get Plan.receipt_took_amount_set Plan.receipt_took_size_get Plan.receipt_took_size_set Plan.receipt_took_payload_get Plan.receipt_took_payload_set Move.length_enc Move.ok_enc Move.all_get Move.all_set Move.account_get Move.account_set Move.token_get Move.token_set Move.down_get Move.down_set Move.amount_get Move.amount_set Books.length_enc Books.ok_enc Books.all_get Books.all_set Books.sums_get Books.sums_set Books.stored_get Books.stored_set Books.marks_get Books.marks_set Pair.length_enc Pair.ok_enc Pair.all_get Pair.all_set Pair.key_get Pair.key_set Pair.value_get Pair.value_set
attribute [local go_sem] size_put size_ext blk_put free_put blk_alloc free_alloc blk_drew free_drew blk_ext free_ext lookOr_some putOr_some segAt_some cellAt_some storeIn_some put_put put_alloc_new length_arr ok_arr_u8 ok_arr_u32 ok_arr_u64 ok_arr_i64 ok_arr_sl cellsV_agg cellsV_int cellsV_bool cellsV_string cellsV_pointer cellsV_slice cellsV_sl ok_int ok_bool ok_string ok_pointer ok_slice ok_sl toList_arr seg_arr set_arr nth_splice nth_splice0 seg_splice seg_splice0 splice_splice splice_splice0 length_splice_if
attribute [local go_sem ↓] execOp_box
attribute [local go_sem] box_run nth_arr_u8 put_arr_u8 blk_drewN free_drewN put_drewN blk_raw free_raw
attribute [local go_sem] Tryz.ld56 Tryz.st56 Tryz.ld91 Tryz.st91 Tryz.al56 Tryz.al91 Answer.length_enc Answer.ok_enc Answer.all_get Answer.all_set Answer.code_get Answer.code_set Answer.receipts_get Answer.receipts_set Answer.moves_get Answer.moves_set Answer.failed_get Answer.failed_set Answer.value_get Answer.value_set Answer.yes_get Answer.yes_set Answer.root_get Answer.root_set Answer.summary_get Answer.summary_set Answer.detail_get Answer.detail_set Answer.slot_get Answer.slot_set Answer.summary_height_get Answer.summary_height_set Answer.summary_txs_get Answer.summary_txs_set Answer.summary_gas_get Answer.summary_gas_set Answer.summary_fees_get Answer.summary_fees_set Answer.summary_sent_get Answer.summary_sent_set Answer.summary_took_get Answer.summary_took_set Answer.summary_minted_get Answer.summary_minted_set Answer.summary_burned_get Answer.summary_burned_set Answer.summary_root_get Answer.summary_root_set Answer.detail_code_get Answer.detail_code_set Answer.detail_have__get Answer.detail_have__set Answer.detail_need_get Answer.detail_need_set Answer.slot_nonce_get Answer.slot_nonce_set Answer.slot_balances_get Answer.slot_balances_set Block.length_enc Block.ok_enc Block.all_get Block.all_set Block.gasLimit_get Block.gasLimit_set Block.txs_get Block.txs_set
attribute [local go_sem] Tryz.ld61 Tryz.st61 Tryz.ld125 Tryz.st125 Tryz.ld148 Tryz.st148 Tryz.al61 Tryz.al125 Tryz.al148 View.length_enc View.ok_enc View.all_get View.all_set View.chain_get View.chain_set View.balances_get View.balances_set View.nonces_get View.nonces_set View.supply_get View.supply_set View.marks_get View.marks_set View.height_get View.height_set View.open__get View.open__set View.gasLimit_get View.gasLimit_set View.gasUsed_get View.gasUsed_set View.fees_get View.fees_set View.txs_get View.txs_set View.sent_get View.sent_set View.took_get View.took_set View.minted_get View.minted_set View.burned_get View.burned_set View.depth_get View.depth_set Trail.length_enc Trail.ok_enc Trail.all_get Trail.all_set Trail.views_get Trail.views_set Trail.roots_get Trail.roots_set Trail.begunView_get Trail.begunView_set Trail.begunRoot_get Trail.begunRoot_set Trail.begunKnown_get Trail.begunKnown_set Trail.begunView_chain_get Trail.begunView_chain_set Trail.begunView_balances_get Trail.begunView_balances_set Trail.begunView_nonces_get Trail.begunView_nonces_set Trail.begunView_supply_get Trail.begunView_supply_set Trail.begunView_marks_get Trail.begunView_marks_set Trail.begunView_height_get Trail.begunView_height_set Trail.begunView_open__get Trail.begunView_open__set Trail.begunView_gasLimit_get Trail.begunView_gasLimit_set Trail.begunView_gasUsed_get Trail.begunView_gasUsed_set Trail.begunView_fees_get Trail.begunView_fees_set Trail.begunView_txs_get Trail.begunView_txs_set Trail.begunView_sent_get Trail.begunView_sent_set Trail.begunView_took_get Trail.begunView_took_set Trail.begunView_minted_get Trail.begunView_minted_set Trail.begunView_burned_get Trail.begunView_burned_set Trail.begunView_depth_get Trail.begunView_depth_set Dump.length_enc Dump.ok_enc Dump.all_get Dump.all_set Dump.chain_get Dump.chain_set Dump.height_get Dump.height_set Dump.balances_get Dump.balances_set Dump.nonces_get Dump.nonces_set Dump.marks_get Dump.marks_set Dump.history_get Dump.history_set
attribute [local go_sem ↓] execOp_neq48
set_option maxRecDepth 100000 in
theorem frame141L (f : Nat → Value) : frameN 141 f = #[f 0, f 1, f 2, f 3, f 4, f 5, f 6, f 7, f 8, f 9, f 10, f 11, f 12, f 13, f 14, f 15, f 16, f 17, f 18, f 19, f 20, f 21, f 22, f 23, f 24, f 25, f 26, f 27, f 28, f 29, f 30, f 31, f 32, f 33, f 34, f 35, f 36, f 37, f 38, f 39, f 40, f 41, f 42, f 43, f 44, f 45, f 46, f 47, f 48, f 49, f 50, f 51, f 52, f 53, f 54, f 55, f 56, f 57, f 58, f 59, f 60, f 61, f 62, f 63, f 64, f 65, f 66, f 67, f 68, f 69, f 70, f 71, f 72, f 73, f 74, f 75, f 76, f 77, f 78, f 79, f 80, f 81, f 82, f 83, f 84, f 85, f 86, f 87, f 88, f 89, f 90, f 91, f 92, f 93, f 94, f 95, f 96, f 97, f 98, f 99, f 100, f 101, f 102, f 103, f 104, f 105, f 106, f 107, f 108, f 109, f 110, f 111, f 112, f 113, f 114, f 115, f 116, f 117, f 118, f 119, f 120, f 121, f 122, f 123, f 124, f 125, f 126, f 127, f 128, f 129, f 130, f 131, f 132, f 133, f 134, f 135, f 136, f 137, f 138, f 139, f 140] := by kernel_rfl
def lw8 (W : World) (a : Option Addr) (len cap : Nat) (g : Nat → GOp) (c : UInt8) (bp : Nat) (F : Nat → Value) (V : World) : Prop := F 3 = .pointer (some ⟨bp, 0, none⟩) ∧ F 20 = .slice a len cap ∧ F 21 = .int .i64 (len : Nat) ∧ ∃ i : Nat, i ≤ len ∧ F 22 = .int .i64 (i : Nat) ∧ Hid (LwS W g c (RcM c) bp i V)
def lw8b (W : World) (a : Option Addr) (len cap bp bo bv ba bw bu bd i : Nat) (ra : Option Addr) (rn rcap c1 c2 : Nat) (bs : List (Nat × List Value)) (rs : List Receipt) (M1 M2 : PLg) (F : Nat → Value) (V : World) : Prop := F 3 = .pointer (some ⟨bp, 0, none⟩) ∧ F 5 = .pointer (some ⟨bo, 0, none⟩) ∧ F 6 = .pointer (some ⟨bv, 0, none⟩) ∧ F 7 = .pointer (some ⟨ba, 0, none⟩) ∧ F 8 = .pointer (some ⟨bw, 0, none⟩) ∧ F 9 = .pointer (some ⟨bu, 0, none⟩) ∧ F 10 = .pointer (some ⟨bd, 0, none⟩) ∧ F 20 = .slice a len cap ∧ F 21 = .int .i64 (len : Nat) ∧ F 22 = .int .i64 (i : Nat) ∧ F 56 = .slice ra rn rcap ∧ F 57 = .int .i64 (rn : Nat) ∧ ∃ j : Nat, j ≤ rn ∧ F 58 = .int .i64 (j : Nat) ∧ Hid (∃ U D : Vector UInt64 4, UpV (rs.take j) U ∧ DnV (rs.take j) D ∧ TwI W c1 c2 ((bu, arr u64v U) :: (bd, arr u64v D) :: bs) M1 M2 V)
def lw8c (W : World) (a : Option Addr) (len cap bp bo bv ba bw bu bd i : Nat) (c1 c2 : Nat) (bs : List (Nat × List Value)) (M1 M2 : PLg) (F : Nat → Value) (V : World) : Prop := F 3 = .pointer (some ⟨bp, 0, none⟩) ∧ F 5 = .pointer (some ⟨bo, 0, none⟩) ∧ F 6 = .pointer (some ⟨bv, 0, none⟩) ∧ F 7 = .pointer (some ⟨ba, 0, none⟩) ∧ F 8 = .pointer (some ⟨bw, 0, none⟩) ∧ F 9 = .pointer (some ⟨bu, 0, none⟩) ∧ F 10 = .pointer (some ⟨bd, 0, none⟩) ∧ F 20 = .slice a len cap ∧ F 21 = .int .i64 (len : Nat) ∧ F 22 = .int .i64 (i : Nat) ∧ ∃ j : Nat, j ≤ 4 ∧ F 13 = .int .i64 (j : Nat) ∧ Hid (TwI W c1 c2 bs M1 M2 V)
set_option maxRecDepth 1000000 in
set_option maxHeartbeats 40000000 in
theorem mint_walk (W : World) (a : Option Addr) (len cap : Nat) (g : Nat → GOp) (dt : Nat → List Tx) (hS : ScriptAt W a len cap g dt) : Calls Tryz.prog 8 #[.slice a len cap] W fun e V => e = .returned (.bool true) ∧ W.Extends V := by
  obtain ⟨Q, hQ⟩ : ∃ Q : Ending → World → Prop, Q = fun e V => e = .returned (.bool true) ∧ W.Extends V := ⟨_, rfl⟩
  rw [← hQ]
  have HQ := hid_of hQ
  have HS := hid_of hS
  have hsm := small2_any W a len cap g dt hS
  have hch := chainOf2_any W a len cap g dt hS
  clear hQ hS
  go_enter Tryz.func8, Tryz.ntmps8
  go_wp2_with fail
  refine hsm.mono ?_
  clear hsm
  rintro e V0 ⟨⟨r, rfl, hr⟩, rfl⟩
  dsimp only
  cases r with
  | false =>
    have HP : Hid (Q (.returned (.bool true)) V0) := by
      show Q _ _
      rw [HQ.out]
      exact ⟨rfl, ext_Ext (Ext.refl _)⟩
    clear hch hr HS HQ
    go_wp2_with fail
    try (first | go_ret | go_ret2 | go_ret3 | go_end0)
    exact HP.out
  | true =>
  have HR := hid_of (hr rfl)
  clear hr
  go_wp2_with fail
  refine hch.mono ?_
  clear hch
  rintro e V0' ⟨c, hc, rfl, rfl⟩
  dsimp only
  have hnp := player_any V0' c hc
  have HC := hid_of hc
  clear hc
  go_wp2_with fail
  refine hnp.mono ?_
  clear hnp
  rintro e V1 ⟨b1, b2, rfl, h1⟩
  dsimp only
  obtain ⟨pl, hpl⟩ : ∃ pl, pl = Player.mk (some ⟨b1, 0, none⟩) (some ⟨b2, 0, none⟩) := ⟨_, rfl⟩
  rw [← hpl]
  have h2 := h1.box pl.enc 26
  obtain ⟨W2, hW2⟩ : ∃ W2 : World, W2 = V1.alloc (.cells pl.enc.toArray 26) := ⟨_, rfl⟩
  obtain ⟨bp, hbp⟩ : ∃ bp, bp = V1.heap.size := ⟨_, rfl⟩
  rw [← hW2, ← hbp] at h2
  have HI0 : Hid (LwS V0' g c (RcM c) bp 0 W2) := LwS.mk h2 (by rw [hpl]; simp) ⟨newL_li c HC.out, newL_ci c⟩ ⟨newL_li c HC.out, newL_ci c⟩ (Nat.zero_le _) (Nat.zero_le _) (newL_rci c _) (newL_rci c _)
  have HW2 := hid_of hW2
  have HBP := hid_of hbp
  clear hW2 hbp h1 h2 hpl
  go_upto_region 4 with fail
  rw [← HW2.out, ← HBP.out]
  clear HW2 HBP
  go_wp2_with fail
  refine wp_loop_f 141 (lw8 V0' a len cap g c bp) (fun f _ => len - (intOf (f 22)).toNat) rfl ⟨rfl, rfl, rfl, 0, Nat.zero_le _, rfl, HI0⟩ ?_
  clear HI0
  intro F V hrel
  obtain ⟨f3, f20, f21, i, hi, f22, HI⟩ := hrel
  have H22 := hid_of f22
  rw [frame141L, f3, f20, f21, f22]
  clear f3 f20 f21 f22
  obtain ⟨b1, b2, L1, L2, n, h0, hI1, hI2, hn, hR1, hR2⟩ := HI.out
  clear HI
  by_cases hin : i < len
  rotate_left 1
  · have HP : Hid (Q (.returned (.bool true)) V) := by
      show Q _ _
      rw [HQ.out]
      exact ⟨rfl, TwI.we h0⟩
    have hin' : ¬ (i : Int) < (len : Int) := by omega
    clear hin hi h0 hI1 hI2 hn hR1 hR2 HQ HS HR
    go_wp2_with fail
    try (first | go_ret | go_ret2 | go_ret3 | go_end0)
    exact HP.out
  have hin' : (i : Int) < (len : Int) := by omega
  have p0 : (0 : Int) ≤ (i : Int) := by omega
  have p2 : ((i : Int)).toNat = i := by omega
  obtain ⟨b, o, C, ha, kb0, hlen, hseg⟩ := HS.out.2.2.2 (by omega)
  have hsg := hseg i hin
  have kb : blk V b = some C := ((TwI.we h0).blk (blk_lt kb0)).trans kb0
  obtain ⟨hft, hT, -⟩ := HS.out.2.2.1 i hin
  have g90 : o + i * 90 + 90 ≤ C.length := by omega
  have hsum : len + sumT g len ≤ 65536 := HR.out
  have hsm := sumT_mono g (show i + 1 ≤ len from hin)
  have hsi : sumT g (i + 1) = sumT g i + (g i).txs.len := rfl
  have hXl : (dt i).length = (g i).txs.len := hT.1
  obtain ⟨x, hx⟩ : ∃ x, x = g i := ⟨_, rfl⟩
  rw [← hx] at hsg hft hT hsi hXl
  obtain ⟨X, hX⟩ : ∃ X, X = dt i := ⟨_, rfl⟩
  rw [← hX] at hT hXl
  have h1 := TwI.box h0 x.enc 43
  obtain ⟨V1', hV1⟩ : ∃ V1', V1' = V.alloc (.cells x.enc.toArray 43) := ⟨_, rfl⟩
  obtain ⟨bo, hbo⟩ : ∃ bo, bo = V.heap.size := ⟨_, rfl⟩
  obtain ⟨pl1, hpl⟩ : ∃ pl1, pl1 = Player.mk (some ⟨b1, 0, none⟩) (some ⟨b2, 0, none⟩) := ⟨_, rfl⟩
  have hob : bo ≠ bp := by
    have := TwI.lt h0 (List.mem_cons_self ..)
    have : bp < V.heap.size := this
    omega
  rw [← hV1, ← hbo, ← hpl] at h1
  have hph : nth pl1.enc 0 = some (.pointer (some ⟨b1, 0, none⟩)) := by rw [hpl]; exact Player.hand_get _
  have lpl : pl1.enc.length = 2 := Player.length_enc _
  have hi9 : (i : Int) + 1 ≤ 65537 := by omega
  have HV1 := hid_of hV1
  have HBO := hid_of hbo
  have HPL := hid_of hpl
  have HOB := hid_of hob
  have HN : Hid (i < len ∧ n + X.length + 1 ≤ (i + 1) + sumT g (i + 1) ∧ (i + 1) + sumT g (i + 1) ≤ 65536) := ⟨hin, by omega, by omega⟩
  have HT := hid_of hT
  have HI1 := hid_of hI1
  have HI2 := hid_of hI2
  have HR1 := hid_of hR1
  have HR2 := hid_of hR2
  have ko := (h1.at (b := bo) (C := x.enc) (by simp)).1
  have kp := (h1.at (b := bp) (C := pl1.enc) (by simp)).1
  subst ha
  clear hin hi hseg kb0 hft hsum hsm hsi hXl hV1 hbo hx hX h0 hn hpl hob hT hI1 hI2 hR1 hR2
  go_upto_region 7 with fail
  rw [← HV1.out, ← HBO.out]
  clear HV1 HBO kb hsg g90 hlen
  have HI9 := hid_of hi9
  have hvw := TwI.view h1
  obtain ⟨v, hv⟩ : ∃ v, v = viewF L1 := ⟨_, rfl⟩
  rw [← hv] at hvw
  have HVV := hid_of hv
  have H1 := hid_of h1
  clear hv h1 hi9
  go_wp2_with fail
  refine hvw.mono ?_
  clear hvw
  rintro e V2 ⟨rfl, hx2⟩
  dsimp only
  have h3 := (H1.out.ext hx2).box v.enc 61
  obtain ⟨V3, hV3⟩ : ∃ V3, V3 = V2.alloc (.cells v.enc.toArray 61) := ⟨_, rfl⟩
  obtain ⟨bv, hbv⟩ : ∃ bv, bv = V2.heap.size := ⟨_, rfl⟩
  have hvb : bv ≠ bp := by
    have := TwI.lt (H1.out.ext hx2) (p := (bp, pl1.enc)) (by simp)
    have : bp < V2.heap.size := this
    omega
  rw [← hV3, ← hbv] at h3
  have HV3 := hid_of hV3
  have HBV := hid_of hbv
  have HVB := hid_of hvb
  have ko3 := (h3.at (b := bo) (C := x.enc) (by simp)).1
  have HH : Hid (((LI (n + (X.length + 1)) (stpF L1 L2 x X).2.1 ∧ CI (stpF L1 L2 x X).2.1) ∧ (LI (n + (X.length + 1)) (stpF L1 L2 x X).2.2 ∧ CI (stpF L1 L2 x X).2.2)) ∧ (RcI c (RcM c) (stpF L1 L2 x X).2.1 ∧ RcI c (RcM c) (stpF L1 L2 x X).2.2) ∧ ∀ r ∈ (stpF L1 L2 x X).1.rs, RcM c r) := ⟨stpF_sound HI1.out HI2.out (by have := HN.out.2; omega), RcI.stp (fun L y hL hj => rcm_app HC.out L y hL hj) HR1.out HR2.out HI1.out.1.dep, rcm_stp HC.out HR1.out HI1.out.1.c3⟩
  have hst := step_any V0' V3 b1 b2 bp [(bv, v.enc), (bo, x.enc)] L1 L2 x X (by
    show TwI _ _ _ _ _ _ _
    rw [← HPL.out]
    exact h3.sub (fun p hp => by simp only [List.mem_cons, List.not_mem_nil, or_false] at hp ⊢; rcases hp with rfl | rfl | rfl <;> simp)) (fun p hp => by
    simp only [List.mem_cons, List.not_mem_nil, or_false] at hp
    rcases hp with rfl | rfl
    · exact HVB.out
    · exact HOB.out) (HI1.out.1.sti x.gas X (by have := HN.out.2; omega)) HT.out
  have HTOT : Hid ((x.kind ≠ 8 ∧ x.kind ≠ 23 ∧ x.kind ≠ 27 ∧ x.kind ≠ 16) → ∀ U D : Vector UInt64 4, UpV (effR x (stpF L1 L2 x X).1) U → DnV (effR x (stpF L1 L2 x X).1) D → ∀ (t : Nat) (ht : t < 4), (viewF (stpF L1 L2 x X).2.1).supply[t] + D[t] = v.supply[t] + U[t]) := fun hk U D hU hD t ht => by
    rw [HVV.out]
    exact stp_tot HI1.out.1 (by have := HN.out.2; omega) hk hU hD t ht
  have HONE : Hid (x.kind = 3 → (stpF L1 L2 x X).1.code = 0 → ∃ r, (stpF L1 L2 x X).1.rs = [r] ∧ Honest x.tx r v (viewF (stpF L1 L2 x X).2.1)) := fun hk hc => by
    rw [HVV.out]
    exact stp_one hk hc
  obtain ⟨sr, hsr⟩ : ∃ sr, sr = stpF L1 L2 x X := ⟨_, rfl⟩
  rw [← hsr] at hst HH HTOT HONE
  clear hsr h3 hx2 hV3 hbv hvb H1 ko kp hph lpl HVV
  go_upto_region 8 with fail
  rw [← HV3.out, ← HBV.out]
  clear HV3 HBV
  go_wp2_with fail
  refine hst.mono ?_
  clear hst ko3
  rintro e V5 ⟨rc, mv, c1, c2, bx', rfl, h5, -, hRR, -⟩
  dsimp only
  obtain ⟨A, hA⟩ : ∃ A, A = ansO sr.1 rc mv := ⟨_, rfl⟩
  obtain ⟨cd, hcd⟩ : ∃ cd, cd = sr.1.code := ⟨_, rfl⟩
  have na0 : nth A.enc 0 = some (.int .i64 cd) := by rw [Answer.code_get, hA, hcd]; rfl
  have na1 : nth A.enc 1 = some (.slice rc.a rc.len rc.cap) := by rw [Answer.receipts_get, hA]; rfl
  have la : A.enc.length = 92 := Answer.length_enc A
  rw [← hA]
  have h6 := TwI.box h5 A.enc 56
  obtain ⟨V6, hV6⟩ : ∃ V6, V6 = V5.alloc (.cells A.enc.toArray 56) := ⟨_, rfl⟩
  obtain ⟨ba, hba⟩ : ∃ ba, ba = V5.heap.size := ⟨_, rfl⟩
  obtain ⟨pl2, hpl2⟩ : ∃ pl2, pl2 = Player.mk (some ⟨c1, 0, none⟩) (some ⟨c2, 0, none⟩) := ⟨_, rfl⟩
  rw [← hV6, ← hba, ← hpl2] at h6
  have hph : nth pl2.enc 0 = some (.pointer (some ⟨c1, 0, none⟩)) := by rw [hpl2]; exact Player.hand_get _
  have lpl : pl2.enc.length = 2 := Player.length_enc _
  have kp := (h6.at (b := bp) (C := pl2.enc) (by simp)).1
  have hvw := TwI.view h6
  obtain ⟨w, hw⟩ : ∃ w, w = viewF sr.2.1 := ⟨_, rfl⟩
  have hsup : tsN w.balances 256 = w.supply := by rw [hw]; exact ts_view HH.out.1.1.1
  rw [← hw] at hvw HTOT HONE
  have HCD := hid_of hcd
  rw [← hcd] at HONE
  have HV6 := hid_of hV6
  have HBA := hid_of hba
  have HPL2 := hid_of hpl2
  have HNA := hid_of (And.intro na0 na1)
  have H6 := hid_of h6
  clear h5 h6 hV6 hba hpl2 hA hcd na0 na1 hw
  go_upto_region 9 with fail
  rw [← HV6.out, ← HBA.out]
  clear HV6 HBA
  obtain ⟨na0, na1⟩ := HNA.out
  clear HNA
  generalize A.enc = AE at na0 na1 la H6
  go_wp2_with fail
  refine hvw.mono ?_
  clear hvw
  rintro e V7 ⟨rfl, hx7⟩
  dsimp only
  have h8 := (H6.out.ext hx7).box w.enc 61
  obtain ⟨V8, hV8⟩ : ∃ V8, V8 = V7.alloc (.cells w.enc.toArray 61) := ⟨_, rfl⟩
  obtain ⟨bw, hbw⟩ : ∃ bw, bw = V7.heap.size := ⟨_, rfl⟩
  rw [← hV8, ← hbw] at h8
  obtain ⟨bs, hbs⟩ : ∃ bs, bs = (bw, w.enc) :: (ba, AE) :: (bp, pl2.enc) :: (bx' ++ [(bv, v.enc), (bo, x.enc)]) := ⟨_, rfl⟩
  have HM : Hid ((bp, pl2.enc) ∈ bs ∧ (bo, x.enc) ∈ bs ∧ (bv, v.enc) ∈ bs ∧ (ba, AE) ∈ bs ∧ (bw, w.enc) ∈ bs ∧ RowB bs Receipt.enc 120 rc sr.1.rs) := by
    rw [hbs]
    exact ⟨by simp, by simp, by simp, by simp, by simp, hRR.mono (fun p hp => by simp [hp])⟩
  rw [← hbs] at h8
  have kw := (h8.at (b := bw) (C := w.enc) HM.out.2.2.2.2.1).1
  have h8d := h8.ext (extends_drewN (ext_Ext (Ext.refl V8)) 1)
  have kwd := (h8d.at (b := bw) (C := w.enc) HM.out.2.2.2.2.1).1
  have htt := totalsOf_any (V8.drewN 1) w
  rw [hsup] at htt
  have hne : ∀ w' X Y, (cmpNe 48 X Y (.agg (arr u64v w.supply).toArray) (.agg (arr u64v w.supply).toArray)).run Tryz.prog w' = .ok (.value (.bool false)) w' := fun w' X Y => by
    have q := el_eq48.neq w' X Y w.supply w.supply trivial trivial
    rw [eqA_self] at q
    exact q
  have HV8 := hid_of hV8
  have HBW := hid_of hbw
  have H8d := hid_of h8d
  have HNA := hid_of (And.intro na0 na1)
  clear hx7 h8 hV8 hbw hbs h8d hRR H6 kp hph lpl hsup na0 na1
  go_upto_region 10 with fail
  rw [← HV8.out, ← HBW.out]
  clear HV8 HBW
  repeat go_step
  refine wp_region_F 4 (fun W' => blk W' bw = some w.enc) (by kernel_rfl) kwd (fun hHeld => ?_)
  refine wpAnyF_take (i := 0) (oi := ⟨_, _, _, _, _, _⟩) (v := ?_) rfl (by kernel_rfl) (by kernel_rfl) (by kernel_rfl) (by kernel_rfl) (by kernel_rfl) (fun _ _ _ h => h) (Or.inl ⟨by rfl, ?_⟩) (by assumption) ?_
  rotate_left 1
  · intro W' hSw
    go_simp
    try with_reducible rfl
  try simp only [Act.put, List.setIfInBounds_toArray, List.set_cons_zero, List.set_cons_succ]
  refine wpAnyF_take (i := 2) (oi := ⟨_, _, _, _, _, _⟩) (v := ?_) rfl (by kernel_rfl) (by kernel_rfl) (by kernel_rfl) (by kernel_rfl) (by kernel_rfl) (fun _ _ _ h => h) (Or.inl ⟨by rfl, ?_⟩) (by assumption) ?_
  rotate_left 1
  · intro W' hSw
    go_simp
    try with_reducible rfl
  try simp only [Act.put, List.setIfInBounds_toArray, List.set_cons_zero, List.set_cons_succ]
  refine wpAnyF_take (i := 3) (oi := ⟨_, _, _, _, _, _⟩) (v := ?_) rfl (by kernel_rfl) (by kernel_rfl) (by kernel_rfl) (by kernel_rfl) (by kernel_rfl) (fun _ _ _ h => h) (Or.inl ⟨by rfl, ?_⟩) (by assumption) ?_
  rotate_left 1
  · intro W' hSw
    go_simp
    try with_reducible rfl
  try simp only [Act.put, List.setIfInBounds_toArray, List.set_cons_zero, List.set_cons_succ]
  refine wpAnyF_one (o := ⟨_, _, _, _, _, _⟩) (i := 1) (by kernel_rfl) rfl rfl (fun K' hK => ?_)
  go_simp
  refine htt.mono ?_
  clear htt
  rintro e V10 ⟨rfl, hx10⟩
  dsimp only
  have h10 := H8d.out.ext hx10
  have kw10 := (h10.at (b := bw) (C := w.enc) HM.out.2.2.2.2.1).1
  refine hK.out _ _ kw10 (fun hHeld => ?_)
  clear hK K'
  try simp only [Act.put, List.setIfInBounds_toArray, List.set_cons_zero, List.set_cons_succ]
  refine wpAnyF_last (o := ⟨_, _, _, _, _, _⟩) (by kernel_rfl) rfl (fun K' hK => ?_)
  go_simp
  refine hK.out _ _ ?_
  clear hK K'
  try simp only [Act.put, List.setIfInBounds_toArray, List.set_cons_zero, List.set_cons_succ]
  refine wpAnyF_done (by kernel_rfl) ?_ _
  clear hHeld hx10 kwd kw H8d hne
  have ko := (h10.at (b := bo) (C := x.enc) HM.out.2.1).1
  have H10 := hid_of h10
  by_cases k8 : x.kind = 8
  · have hk8 : (x.kind == 8) = true := by rw [k8]; rfl

    clear h10 k8
    have HJ : Hid (LwS V0' g c (RcM c) bp (i + 1) V10) := LwS.mk H10.out (by rw [← HPL2.out]; exact HM.out.1) HH.out.1.1 HH.out.1.2 (by have := HN.out.2; omega) (by have := HN.out.2; omega) HH.out.2.1.1 HH.out.2.1.2
    have hi9 := HI9.out
    go_wp2_with fail
    refine ⟨rfl, rfl, ⟨rfl, rfl, rfl, i + 1, HN.out.1, ?_, HJ⟩, ?_⟩
    · show Value.int .i64 _ = _
      go_num
    · show len - (intOf (Value.int .i64 _)).toNat < len - (intOf (F 22)).toNat
      rw [H22.out]
      have := HN.out.1
      simp [intOf]; omega
  by_cases k23 : x.kind = 23
  · have hk23 : (x.kind == 23) = true := by rw [k23]; rfl
    have hk8 : (x.kind == 8) = false := by simp [k8]
    clear h10 k8 k23
    have HJ : Hid (LwS V0' g c (RcM c) bp (i + 1) V10) := LwS.mk H10.out (by rw [← HPL2.out]; exact HM.out.1) HH.out.1.1 HH.out.1.2 (by have := HN.out.2; omega) (by have := HN.out.2; omega) HH.out.2.1.1 HH.out.2.1.2
    have hi9 := HI9.out
    go_wp2_with fail
    refine ⟨rfl, rfl, ⟨rfl, rfl, rfl, i + 1, HN.out.1, ?_, HJ⟩, ?_⟩
    · show Value.int .i64 _ = _
      go_num
    · show len - (intOf (Value.int .i64 _)).toNat < len - (intOf (F 22)).toNat
      rw [H22.out]
      have := HN.out.1
      simp [intOf]; omega
  by_cases k27 : x.kind = 27
  · have hk27 : (x.kind == 27) = true := by rw [k27]; rfl
    have hk8 : (x.kind == 8) = false := by simp [k8]
    have hk23 : (x.kind == 23) = false := by simp [k23]
    clear h10 k8 k23 k27
    have HJ : Hid (LwS V0' g c (RcM c) bp (i + 1) V10) := LwS.mk H10.out (by rw [← HPL2.out]; exact HM.out.1) HH.out.1.1 HH.out.1.2 (by have := HN.out.2; omega) (by have := HN.out.2; omega) HH.out.2.1.1 HH.out.2.1.2
    have hi9 := HI9.out
    go_wp2_with fail
    refine ⟨rfl, rfl, ⟨rfl, rfl, rfl, i + 1, HN.out.1, ?_, HJ⟩, ?_⟩
    · show Value.int .i64 _ = _
      go_num
    · show len - (intOf (Value.int .i64 _)).toNat < len - (intOf (F 22)).toNat
      rw [H22.out]
      have := HN.out.1
      simp [intOf]; omega
  by_cases k16 : x.kind = 16
  · have hk16 : (x.kind == 16) = true := by rw [k16]; rfl
    have hk8 : (x.kind == 8) = false := by simp [k8]
    have hk23 : (x.kind == 23) = false := by simp [k23]
    have hk27 : (x.kind == 27) = false := by simp [k27]
    clear h10 k8 k23 k27 k16
    have HJ : Hid (LwS V0' g c (RcM c) bp (i + 1) V10) := LwS.mk H10.out (by rw [← HPL2.out]; exact HM.out.1) HH.out.1.1 HH.out.1.2 (by have := HN.out.2; omega) (by have := HN.out.2; omega) HH.out.2.1.1 HH.out.2.1.2
    have hi9 := HI9.out
    go_wp2_with fail
    refine ⟨rfl, rfl, ⟨rfl, rfl, rfl, i + 1, HN.out.1, ?_, HJ⟩, ?_⟩
    · show Value.int .i64 _ = _
      go_num
    · show len - (intOf (Value.int .i64 _)).toNat < len - (intOf (F 22)).toNat
      rw [H22.out]
      have := HN.out.1
      simp [intOf]; omega
  have hk8 : (x.kind == 8) = false := by simp [k8]
  have hk23 : (x.kind == 23) = false := by simp [k23]
  have hk27 : (x.kind == 27) = false := by simp [k27]
  have hk16 : (x.kind == 16) = false := by simp [k16]
  have HTT := hid_of (HTOT.out ⟨k8, k23, k27, k16⟩)
  have h11 := (h10.box tz 48).box tz 48
  rw [World.size_alloc] at h11
  obtain ⟨V11, hV11⟩ : ∃ V11, V11 = (V10.alloc (.cells tz.toArray 48)).alloc (.cells tz.toArray 48) := ⟨_, rfl⟩
  obtain ⟨bu, hbu⟩ : ∃ bu, bu = V10.heap.size := ⟨_, rfl⟩
  obtain ⟨bd, hbd⟩ : ∃ bd, bd = V10.heap.size + 1 := ⟨_, rfl⟩
  have HLT : Hid (∀ p ∈ bs, p.1 < bu) := fun p hp => by rw [hbu]; exact TwI.lt h10 hp
  have HUD : Hid (bu ≠ bd ∧ bu < bd) := by rw [Hid, hbu, hbd]; omega
  rw [← hV11, ← hbd, ← hbu] at h11
  have h12 : TwI V0' c1 c2 ((bu, arr u64v (Vector.replicate 4 0)) :: (bd, arr u64v (Vector.replicate 4 0)) :: bs) sr.2.1 sr.2.2 V11 := h11.sub (fun p hp => by
    simp only [List.mem_cons] at hp ⊢
    rcases hp with rfl | rfl | hp
    · exact .inr (.inl rfl)
    · exact .inl rfl
    · exact .inr (.inr hp))
  have HV11 := hid_of hV11
  have HBUD := hid_of (And.intro hbu hbd)
  have H12 := hid_of h12
  have ka := (h12.at (b := ba) (C := AE) (by simp [HM.out.2.2.2.1])).1
  have ko' := (h12.at (b := bo) (C := x.enc) (by simp [HM.out.2.1])).1
  obtain ⟨na0, na1⟩ := HNA.out
  clear h10 h11 h12 hV11 hbu hbd k8 k23 k27 k16 HTOT H10
  go_upto_region 18 with fail
  rw [show (arr u64v (Vector.replicate 4 0)) = tz from rfl, ← HV11.out, ← HBUD.out.2, ← HBUD.out.1]
  clear HV11 HBUD ko hk8 hk23 hk27 hk16
  by_cases hc0 : cd = 0
  rotate_left 1
  · have hcf : (cd == 0) = false := by simp [hc0]
    have HEQ := hid_of (HTT.out (Vector.replicate 4 0) (Vector.replicate 4 0) (by unfold effR; rw [if_neg (fun q => hc0 (HCD.out.trans q.1))]; exact UpV.nil) (by unfold effR; rw [if_neg (fun q => hc0 (HCD.out.trans q.1))]; exact DnV.nil))
    clear HTT hc0 HONE
    by_cases k3 : x.kind = 3
    · have hk3 : (x.kind == 3) = true := by rw [k3]; rfl
      clear k3
      go_upto_region 27 with fail
      clear ka ko'
      go_wp2_with fail
      refine wp_loop_f 141 (lw8c V0' (some ⟨b, o, none⟩) len cap bp bo bv ba bw bu bd i c1 c2 ((bu, arr u64v (Vector.replicate 4 0 : Vector UInt64 4)) :: (bd, arr u64v (Vector.replicate 4 0 : Vector UInt64 4)) :: bs) sr.2.1 sr.2.2) (fun f _ => 4 - (intOf (f 13)).toNat) rfl ⟨rfl, rfl, rfl, rfl, rfl, rfl, rfl, rfl, rfl, rfl, 0, by omega, rfl, H12⟩ ?_
      clear H12
      intro G V hrel
      obtain ⟨f3, f5, f6, f7, f8, f9, f10, f20, f21, f22, j, hj, f13, HI⟩ := hrel
      have H13 := hid_of f13
      rw [frame141L, f3, f5, f6, f7, f8, f9, f10, f20, f21, f22, f13]
      clear f3 f5 f6 f7 f8 f9 f10 f20 f21 f22 f13
      have kv := (HI.out.at (b := bv) (C := v.enc) (by simp [HM.out.2.2.1])).1
      have kw := (HI.out.at (b := bw) (C := w.enc) (by simp [HM.out.2.2.2.2.1])).1
      have ku := (HI.out.at (b := bu) (C := arr u64v (Vector.replicate 4 0 : Vector UInt64 4)) (by simp)).1
      have kd := (HI.out.at (b := bd) (C := arr u64v (Vector.replicate 4 0 : Vector UInt64 4)) (by simp)).1
      have ka := (HI.out.at (b := ba) (C := AE) (by simp [HM.out.2.2.2.1])).1
      have ko := (HI.out.at (b := bo) (C := x.enc) (by simp [HM.out.2.1])).1
      by_cases hjn : j < 4
      rotate_left 1
      · have hjn' : ¬ (j : Int) < 4 := by omega
        clear hjn hj ku kd
        clear kv kw
        go_upto_region 32 with fail
        repeat go_step
        refine wp_region_F 19 (fun W' => blk W' bo = some x.enc ∧ blk W' ba = some AE) (by kernel_rfl) (by rw [show blk V.drew bo = blk V bo from rfl, show blk V.drew ba = blk V ba from rfl]; exact ⟨ko, ka⟩) (fun hHeld => ?_)
        refine wpAnyF_take (i := 0) (oi := ⟨_, _, _, _, _, _⟩) (v := ?_) rfl (by kernel_rfl) (by kernel_rfl) (by kernel_rfl) (by kernel_rfl) (by kernel_rfl) (fun _ _ _ h => h) (Or.inl ⟨by rfl, ?_⟩) (by assumption) ?_
        rotate_left 1
        · intro W' hSw
          obtain ⟨hS1, hS2⟩ := hSw
          go_simp
          try with_reducible rfl
        try simp only [Act.put, List.setIfInBounds_toArray, List.set_cons_zero, List.set_cons_succ]
        refine wpAnyF_take (i := 1) (oi := ⟨_, _, _, _, _, _⟩) (v := ?_) rfl (by kernel_rfl) (by kernel_rfl) (by kernel_rfl) (by kernel_rfl) (by kernel_rfl) (fun _ _ _ h => h) (Or.inl ⟨by rfl, ?_⟩) (by assumption) ?_
        rotate_left 1
        · intro W' hSw
          obtain ⟨hS1, hS2⟩ := hSw
          go_simp
          try with_reducible rfl
        try simp only [Act.put, List.setIfInBounds_toArray, List.set_cons_zero, List.set_cons_succ]
        refine wpAnyF_take (i := 2) (oi := ⟨_, _, _, _, _, _⟩) (v := ?_) rfl (by kernel_rfl) (by kernel_rfl) (by kernel_rfl) (by kernel_rfl) (by kernel_rfl) (fun _ _ _ h => h) (Or.inl ⟨by rfl, ?_⟩) (by assumption) ?_
        rotate_left 1
        · intro W' hSw
          obtain ⟨hS1, hS2⟩ := hSw
          go_simp
          try with_reducible rfl
        try simp only [Act.put, List.setIfInBounds_toArray, List.set_cons_zero, List.set_cons_succ]
        refine wpAnyF_take (i := 3) (oi := ⟨_, _, _, _, _, _⟩) (v := ?_) rfl (by kernel_rfl) (by kernel_rfl) (by kernel_rfl) (by kernel_rfl) (by kernel_rfl) (fun _ _ _ h => h) (Or.inl ⟨by rfl, ?_⟩) (by assumption) ?_
        rotate_left 1
        · intro W' hSw
          obtain ⟨hS1, hS2⟩ := hSw
          go_simp
          try with_reducible rfl
        try simp only [Act.put, List.setIfInBounds_toArray, List.set_cons_zero, List.set_cons_succ]
        refine wpAnyF_take (i := 4) (oi := ⟨_, _, _, _, _, _⟩) (v := ?_) rfl (by kernel_rfl) (by kernel_rfl) (by kernel_rfl) (by kernel_rfl) (by kernel_rfl) (fun _ _ _ h => h) (Or.inl ⟨by rfl, ?_⟩) (by assumption) ?_
        rotate_left 1
        · intro W' hSw
          obtain ⟨hS1, hS2⟩ := hSw
          go_simp
          try with_reducible rfl
        try simp only [Act.put, List.setIfInBounds_toArray, List.set_cons_zero, List.set_cons_succ]
        refine wpAnyF_take (i := 5) (oi := ⟨_, _, _, _, _, _⟩) (v := ?_) rfl (by kernel_rfl) (by kernel_rfl) (by kernel_rfl) (by kernel_rfl) (by kernel_rfl) (fun _ _ _ h => h) (Or.inl ⟨by rfl, ?_⟩) (by assumption) ?_
        rotate_left 1
        · intro W' hSw
          obtain ⟨hS1, hS2⟩ := hSw
          go_simp
          try with_reducible rfl
        try simp only [Act.put, List.setIfInBounds_toArray, List.set_cons_zero, List.set_cons_succ]
        refine wpAnyF_take (i := 6) (oi := ⟨_, _, _, _, _, _⟩) (v := ?_) rfl (by kernel_rfl) (by kernel_rfl) (by kernel_rfl) (by kernel_rfl) (by kernel_rfl) (fun _ _ _ h => h) (Or.inl ⟨by rfl, ?_⟩) (by assumption) ?_
        rotate_left 1
        · intro W' hSw
          obtain ⟨hS1, hS2⟩ := hSw
          go_simp
          try with_reducible rfl
        try simp only [Act.put, List.setIfInBounds_toArray, List.set_cons_zero, List.set_cons_succ]
        refine wpAnyF_take (i := 7) (oi := ⟨_, _, _, _, _, _⟩) (v := ?_) rfl (by kernel_rfl) (by kernel_rfl) (by kernel_rfl) (by kernel_rfl) (by kernel_rfl) (fun _ _ _ h => h) (Or.inl ⟨by rfl, ?_⟩) (by assumption) ?_
        rotate_left 1
        · intro W' hSw
          obtain ⟨hS1, hS2⟩ := hSw
          go_simp
          try with_reducible rfl
        try simp only [Act.put, List.setIfInBounds_toArray, List.set_cons_zero, List.set_cons_succ]
        refine wpAnyF_take (i := 8) (oi := ⟨_, _, _, _, _, _⟩) (v := ?_) rfl (by kernel_rfl) (by kernel_rfl) (by kernel_rfl) (by kernel_rfl) (by kernel_rfl) (fun _ _ _ h => h) (Or.inl ⟨by rfl, ?_⟩) (by assumption) ?_
        rotate_left 1
        · intro W' hSw
          obtain ⟨hS1, hS2⟩ := hSw
          go_simp
          try with_reducible rfl
        try simp only [Act.put, List.setIfInBounds_toArray, List.set_cons_zero, List.set_cons_succ]
        refine wpAnyF_take (i := 9) (oi := ⟨_, _, _, _, _, _⟩) (v := undef) rfl (by kernel_rfl) (by kernel_rfl) (by kernel_rfl) (by kernel_rfl) (by kernel_rfl) (fun _ _ _ h => h) (Or.inr ⟨by rfl, rfl⟩) (by assumption) ?_
        try simp only [Act.put, List.setIfInBounds_toArray, List.set_cons_zero, List.set_cons_succ]
        refine wpAnyF_take (i := 10) (oi := ⟨_, _, _, _, _, _⟩) (v := undef) rfl (by kernel_rfl) (by kernel_rfl) (by kernel_rfl) (by kernel_rfl) (by kernel_rfl) (fun _ _ _ h => h) (Or.inr ⟨by rfl, rfl⟩) (by assumption) ?_
        try simp only [Act.put, List.setIfInBounds_toArray, List.set_cons_zero, List.set_cons_succ]
        refine wpAnyF_take (i := 11) (oi := ⟨_, _, _, _, _, _⟩) (v := undef) rfl (by kernel_rfl) (by kernel_rfl) (by kernel_rfl) (by kernel_rfl) (by kernel_rfl) (fun _ _ _ h => h) (Or.inr ⟨by rfl, rfl⟩) (by assumption) ?_
        try simp only [Act.put, List.setIfInBounds_toArray, List.set_cons_zero, List.set_cons_succ]
        refine wpAnyF_take (i := 12) (oi := ⟨_, _, _, _, _, _⟩) (v := undef) rfl (by kernel_rfl) (by kernel_rfl) (by kernel_rfl) (by kernel_rfl) (by kernel_rfl) (fun _ _ _ h => h) (Or.inr ⟨by rfl, rfl⟩) (by assumption) ?_
        try simp only [Act.put, List.setIfInBounds_toArray, List.set_cons_zero, List.set_cons_succ]
        refine wpAnyF_take (i := 13) (oi := ⟨_, _, _, _, _, _⟩) (v := undef) rfl (by kernel_rfl) (by kernel_rfl) (by kernel_rfl) (by kernel_rfl) (by kernel_rfl) (fun _ _ _ h => h) (Or.inr ⟨by rfl, rfl⟩) (by assumption) ?_
        try simp only [Act.put, List.setIfInBounds_toArray, List.set_cons_zero, List.set_cons_succ]
        refine wpAnyF_take (i := 14) (oi := ⟨_, _, _, _, _, _⟩) (v := undef) rfl (by kernel_rfl) (by kernel_rfl) (by kernel_rfl) (by kernel_rfl) (by kernel_rfl) (fun _ _ _ h => h) (Or.inr ⟨by rfl, rfl⟩) (by assumption) ?_
        try simp only [Act.put, List.setIfInBounds_toArray, List.set_cons_zero, List.set_cons_succ]
        refine wpAnyF_take (i := 15) (oi := ⟨_, _, _, _, _, _⟩) (v := undef) rfl (by kernel_rfl) (by kernel_rfl) (by kernel_rfl) (by kernel_rfl) (by kernel_rfl) (fun _ _ _ h => h) (Or.inr ⟨by rfl, rfl⟩) (by assumption) ?_
        try simp only [Act.put, List.setIfInBounds_toArray, List.set_cons_zero, List.set_cons_succ]
        refine wpAnyF_take (i := 16) (oi := ⟨_, _, _, _, _, _⟩) (v := undef) rfl (by kernel_rfl) (by kernel_rfl) (by kernel_rfl) (by kernel_rfl) (by kernel_rfl) (fun _ _ _ h => h) (Or.inr ⟨by rfl, rfl⟩) (by assumption) ?_
        try simp only [Act.put, List.setIfInBounds_toArray, List.set_cons_zero, List.set_cons_succ]
        refine wpAnyF_take (i := 17) (oi := ⟨_, _, _, _, _, _⟩) (v := undef) rfl (by kernel_rfl) (by kernel_rfl) (by kernel_rfl) (by kernel_rfl) (by kernel_rfl) (fun _ _ _ h => h) (Or.inr ⟨by rfl, rfl⟩) (by assumption) ?_
        try simp only [Act.put, List.setIfInBounds_toArray, List.set_cons_zero, List.set_cons_succ]
        refine wpAnyF_take (i := 18) (oi := ⟨_, _, _, _, _, _⟩) (v := undef) rfl (by kernel_rfl) (by kernel_rfl) (by kernel_rfl) (by kernel_rfl) (by kernel_rfl) (fun _ _ _ h => h) (Or.inr ⟨by rfl, rfl⟩) (by assumption) ?_
        try simp only [Act.put, List.setIfInBounds_toArray, List.set_cons_zero, List.set_cons_succ]
        refine wpAnyF_last (o := ⟨_, _, _, _, _, _⟩) (by kernel_rfl) rfl (fun K' hK => ?_)
        go_simp
        refine hK.out _ _ ?_
        clear hK K'
        try simp only [Act.put, List.setIfInBounds_toArray, List.set_cons_zero, List.set_cons_succ]
        refine wpAnyF_done (by kernel_rfl) ?_ _
        clear hHeld
        have HJ : Hid (LwS V0' g c (RcM c) bp (i + 1) V.drew) := LwS.mk (HI.out.ext (extends_drewN (ext_Ext (Ext.refl V)) 1)) (by rw [← HPL2.out]; simp [HM.out.1]) HH.out.1.1 HH.out.1.2 (by have := HN.out.2; omega) (by have := HN.out.2; omega) HH.out.2.1.1 HH.out.2.1.2
        have hi9 := HI9.out
        go_wp2_with fail
        refine ⟨rfl, rfl, ⟨rfl, rfl, rfl, i + 1, HN.out.1, ?_, HJ⟩, ?_⟩
        · show Value.int .i64 _ = _
          go_num
        · show len - (intOf (Value.int .i64 _)).toNat < len - (intOf (F 22)).toNat
          rw [H22.out]
          have := HN.out.1
          simp [intOf]; omega
      have hjn' : (j : Int) < 4 := by omega
      have q0 : (0 : Int) ≤ (j : Int) := by omega
      have q2 : ((j : Int)).toNat = j := by omega
      have hj9 : (j : Int) + 1 ≤ 1000 := by omega
      have hj3 : j ≤ 3 := by omega
      obtain ⟨sv, hsv⟩ : ∃ sv, sv = v.supply[j] := ⟨_, rfl⟩
      obtain ⟨sw, hsw⟩ : ∃ sw, sw = w.supply[j] := ⟨_, rfl⟩
      obtain ⟨su, hsu⟩ : ∃ su, su = ((Vector.replicate 4 0 : Vector UInt64 4))[j] := ⟨_, rfl⟩
      obtain ⟨sd, hsd⟩ : ∃ sd, sd = ((Vector.replicate 4 0 : Vector UInt64 4))[j] := ⟨_, rfl⟩
      have heq : sw + sd = sv + su := by rw [hsv, hsw, hsu, hsd]; exact HEQ.out j hjn
      have n1 : nth v.enc (321 + j) = some (.int .u64 (w64 sv)) := by rw [hsv]; exact View.supply_at v j hjn
      have n2 : nth w.enc (321 + j) = some (.int .u64 (w64 sw)) := by rw [hsw]; exact View.supply_at w j hjn
      have n3 : nth (arr u64v (Vector.replicate 4 0 : Vector UInt64 4)) j = some (.int .u64 (w64 su)) := by rw [hsu]; exact nth_arr_u64 _ hjn
      have n4 : nth (arr u64v (Vector.replicate 4 0 : Vector UInt64 4)) j = some (.int .u64 (w64 sd)) := by rw [hsd]; exact nth_arr_u64 _ hjn
      have a1 : IntKind.u64.wrap (w64 sw + w64 sd) = w64 (sw + sd) := x64_add _ _
      have a2 : IntKind.u64.wrap (w64 sv + w64 su) = w64 (sw + sd) := by rw [heq]; exact x64_add _ _
      have l3 : (arr u64v (Vector.replicate 4 0 : Vector UInt64 4)).length = 4 := length_arr _ _
      have l4 : (arr u64v (Vector.replicate 4 0 : Vector UInt64 4)).length = 4 := length_arr _ _
      have HK : Hid (∀ k, TwI V0' c1 c2 ((bu, arr u64v (Vector.replicate 4 0 : Vector UInt64 4)) :: (bd, arr u64v (Vector.replicate 4 0 : Vector UInt64 4)) :: bs) sr.2.1 sr.2.2 (V.drewN k)) := fun k => HI.out.ext (extends_drewN (ext_Ext (Ext.refl V)) k)
      have HJN := hid_of hjn
      obtain ⟨UE, hUE⟩ : ∃ UE, UE = arr u64v ((Vector.replicate 4 0 : Vector UInt64 4)) := ⟨_, rfl⟩
      obtain ⟨DE, hDE⟩ : ∃ DE, DE = arr u64v ((Vector.replicate 4 0 : Vector UInt64 4)) := ⟨_, rfl⟩
      rw [← hUE] at ku n3 l3
      rw [← hDE] at kd n4 l4
      clear hUE hDE
      clear hjn hj heq hsv hsw hsu hsd HI ka ko
      go_upto_region 30 with fail
      repeat go_step
      go_quiet (fail)
      go_wp2_with fail
      refine ⟨rfl, rfl, ⟨rfl, rfl, rfl, rfl, rfl, rfl, rfl, rfl, rfl, rfl, j + 1, HJN.out, ?_, HK.out _⟩, ?_⟩
      · show Value.int .i64 _ = _
        go_num
      · show 4 - (intOf (Value.int .i64 _)).toNat < 4 - (intOf (G 13)).toNat
        rw [H13.out]
        have := HJN.out
        simp [intOf]; omega
    have hk3 : (x.kind == 3) = false := by simp [k3]
    clear k3
    go_upto_region 27 with fail
    clear ka ko'
    go_wp2_with fail
    refine wp_loop_f 141 (lw8c V0' (some ⟨b, o, none⟩) len cap bp bo bv ba bw bu bd i c1 c2 ((bu, arr u64v (Vector.replicate 4 0 : Vector UInt64 4)) :: (bd, arr u64v (Vector.replicate 4 0 : Vector UInt64 4)) :: bs) sr.2.1 sr.2.2) (fun f _ => 4 - (intOf (f 13)).toNat) rfl ⟨rfl, rfl, rfl, rfl, rfl, rfl, rfl, rfl, rfl, rfl, 0, by omega, rfl, H12⟩ ?_
    clear H12
    intro G V hrel
    obtain ⟨f3, f5, f6, f7, f8, f9, f10, f20, f21, f22, j, hj, f13, HI⟩ := hrel
    have H13 := hid_of f13
    rw [frame141L, f3, f5, f6, f7, f8, f9, f10, f20, f21, f22, f13]
    clear f3 f5 f6 f7 f8 f9 f10 f20 f21 f22 f13
    have kv := (HI.out.at (b := bv) (C := v.enc) (by simp [HM.out.2.2.1])).1
    have kw := (HI.out.at (b := bw) (C := w.enc) (by simp [HM.out.2.2.2.2.1])).1
    have ku := (HI.out.at (b := bu) (C := arr u64v (Vector.replicate 4 0 : Vector UInt64 4)) (by simp)).1
    have kd := (HI.out.at (b := bd) (C := arr u64v (Vector.replicate 4 0 : Vector UInt64 4)) (by simp)).1
    have ka := (HI.out.at (b := ba) (C := AE) (by simp [HM.out.2.2.2.1])).1
    have ko := (HI.out.at (b := bo) (C := x.enc) (by simp [HM.out.2.1])).1
    by_cases hjn : j < 4
    rotate_left 1
    · have hjn' : ¬ (j : Int) < 4 := by omega
      clear hjn hj ku kd
      clear kv kw ka
      go_upto_region 32 with fail
      repeat go_step
      refine wp_region_F 19 (fun W' => blk W' bo = some x.enc) (by kernel_rfl) (by rw [show blk V.drew bo = blk V bo from rfl]; exact ko) (fun hHeld => ?_)
      refine wpAnyF_take (i := 0) (oi := ⟨_, _, _, _, _, _⟩) (v := ?_) rfl (by kernel_rfl) (by kernel_rfl) (by kernel_rfl) (by kernel_rfl) (by kernel_rfl) (fun _ _ _ h => h) (Or.inl ⟨by rfl, ?_⟩) (by assumption) ?_
      rotate_left 1
      · intro W' hSw
        go_simp
        try with_reducible rfl
      try simp only [Act.put, List.setIfInBounds_toArray, List.set_cons_zero, List.set_cons_succ]
      refine wpAnyF_take (i := 1) (oi := ⟨_, _, _, _, _, _⟩) (v := ?_) rfl (by kernel_rfl) (by kernel_rfl) (by kernel_rfl) (by kernel_rfl) (by kernel_rfl) (fun _ _ _ h => h) (Or.inl ⟨by rfl, ?_⟩) (by assumption) ?_
      rotate_left 1
      · intro W' hSw
        go_simp
        try with_reducible rfl
      try simp only [Act.put, List.setIfInBounds_toArray, List.set_cons_zero, List.set_cons_succ]
      refine wpAnyF_take (i := 2) (oi := ⟨_, _, _, _, _, _⟩) (v := ?_) rfl (by kernel_rfl) (by kernel_rfl) (by kernel_rfl) (by kernel_rfl) (by kernel_rfl) (fun _ _ _ h => h) (Or.inl ⟨by rfl, ?_⟩) (by assumption) ?_
      rotate_left 1
      · intro W' hSw
        go_simp
        try with_reducible rfl
      try simp only [Act.put, List.setIfInBounds_toArray, List.set_cons_zero, List.set_cons_succ]
      refine wpAnyF_take (i := 3) (oi := ⟨_, _, _, _, _, _⟩) (v := ?_) rfl (by kernel_rfl) (by kernel_rfl) (by kernel_rfl) (by kernel_rfl) (by kernel_rfl) (fun _ _ _ h => h) (Or.inl ⟨by rfl, ?_⟩) (by assumption) ?_
      rotate_left 1
      · intro W' hSw
        go_simp
        try with_reducible rfl
      try simp only [Act.put, List.setIfInBounds_toArray, List.set_cons_zero, List.set_cons_succ]
      refine wpAnyF_take (i := 4) (oi := ⟨_, _, _, _, _, _⟩) (v := undef) rfl (by kernel_rfl) (by kernel_rfl) (by kernel_rfl) (by kernel_rfl) (by kernel_rfl) (fun _ _ _ h => h) (Or.inr ⟨by rfl, rfl⟩) (by assumption) ?_
      try simp only [Act.put, List.setIfInBounds_toArray, List.set_cons_zero, List.set_cons_succ]
      refine wpAnyF_take (i := 5) (oi := ⟨_, _, _, _, _, _⟩) (v := undef) rfl (by kernel_rfl) (by kernel_rfl) (by kernel_rfl) (by kernel_rfl) (by kernel_rfl) (fun _ _ _ h => h) (Or.inr ⟨by rfl, rfl⟩) (by assumption) ?_
      try simp only [Act.put, List.setIfInBounds_toArray, List.set_cons_zero, List.set_cons_succ]
      refine wpAnyF_take (i := 6) (oi := ⟨_, _, _, _, _, _⟩) (v := undef) rfl (by kernel_rfl) (by kernel_rfl) (by kernel_rfl) (by kernel_rfl) (by kernel_rfl) (fun _ _ _ h => h) (Or.inr ⟨by rfl, rfl⟩) (by assumption) ?_
      try simp only [Act.put, List.setIfInBounds_toArray, List.set_cons_zero, List.set_cons_succ]
      refine wpAnyF_take (i := 7) (oi := ⟨_, _, _, _, _, _⟩) (v := ?_) rfl (by kernel_rfl) (by kernel_rfl) (by kernel_rfl) (by kernel_rfl) (by kernel_rfl) (fun _ _ _ h => h) (Or.inl ⟨by rfl, ?_⟩) (by assumption) ?_
      rotate_left 1
      · intro W' hSw
        go_simp
        try with_reducible rfl
      try simp only [Act.put, List.setIfInBounds_toArray, List.set_cons_zero, List.set_cons_succ]
      refine wpAnyF_take (i := 8) (oi := ⟨_, _, _, _, _, _⟩) (v := ?_) rfl (by kernel_rfl) (by kernel_rfl) (by kernel_rfl) (by kernel_rfl) (by kernel_rfl) (fun _ _ _ h => h) (Or.inl ⟨by rfl, ?_⟩) (by assumption) ?_
      rotate_left 1
      · intro W' hSw
        go_simp
        try with_reducible rfl
      try simp only [Act.put, List.setIfInBounds_toArray, List.set_cons_zero, List.set_cons_succ]
      refine wpAnyF_take (i := 9) (oi := ⟨_, _, _, _, _, _⟩) (v := undef) rfl (by kernel_rfl) (by kernel_rfl) (by kernel_rfl) (by kernel_rfl) (by kernel_rfl) (fun _ _ _ h => h) (Or.inr ⟨by rfl, rfl⟩) (by assumption) ?_
      try simp only [Act.put, List.setIfInBounds_toArray, List.set_cons_zero, List.set_cons_succ]
      refine wpAnyF_take (i := 10) (oi := ⟨_, _, _, _, _, _⟩) (v := undef) rfl (by kernel_rfl) (by kernel_rfl) (by kernel_rfl) (by kernel_rfl) (by kernel_rfl) (fun _ _ _ h => h) (Or.inr ⟨by rfl, rfl⟩) (by assumption) ?_
      try simp only [Act.put, List.setIfInBounds_toArray, List.set_cons_zero, List.set_cons_succ]
      refine wpAnyF_take (i := 11) (oi := ⟨_, _, _, _, _, _⟩) (v := undef) rfl (by kernel_rfl) (by kernel_rfl) (by kernel_rfl) (by kernel_rfl) (by kernel_rfl) (fun _ _ _ h => h) (Or.inr ⟨by rfl, rfl⟩) (by assumption) ?_
      try simp only [Act.put, List.setIfInBounds_toArray, List.set_cons_zero, List.set_cons_succ]
      refine wpAnyF_take (i := 12) (oi := ⟨_, _, _, _, _, _⟩) (v := undef) rfl (by kernel_rfl) (by kernel_rfl) (by kernel_rfl) (by kernel_rfl) (by kernel_rfl) (fun _ _ _ h => h) (Or.inr ⟨by rfl, rfl⟩) (by assumption) ?_
      try simp only [Act.put, List.setIfInBounds_toArray, List.set_cons_zero, List.set_cons_succ]
      refine wpAnyF_take (i := 13) (oi := ⟨_, _, _, _, _, _⟩) (v := undef) rfl (by kernel_rfl) (by kernel_rfl) (by kernel_rfl) (by kernel_rfl) (by kernel_rfl) (fun _ _ _ h => h) (Or.inr ⟨by rfl, rfl⟩) (by assumption) ?_
      try simp only [Act.put, List.setIfInBounds_toArray, List.set_cons_zero, List.set_cons_succ]
      refine wpAnyF_take (i := 14) (oi := ⟨_, _, _, _, _, _⟩) (v := undef) rfl (by kernel_rfl) (by kernel_rfl) (by kernel_rfl) (by kernel_rfl) (by kernel_rfl) (fun _ _ _ h => h) (Or.inr ⟨by rfl, rfl⟩) (by assumption) ?_
      try simp only [Act.put, List.setIfInBounds_toArray, List.set_cons_zero, List.set_cons_succ]
      refine wpAnyF_take (i := 15) (oi := ⟨_, _, _, _, _, _⟩) (v := undef) rfl (by kernel_rfl) (by kernel_rfl) (by kernel_rfl) (by kernel_rfl) (by kernel_rfl) (fun _ _ _ h => h) (Or.inr ⟨by rfl, rfl⟩) (by assumption) ?_
      try simp only [Act.put, List.setIfInBounds_toArray, List.set_cons_zero, List.set_cons_succ]
      refine wpAnyF_take (i := 16) (oi := ⟨_, _, _, _, _, _⟩) (v := undef) rfl (by kernel_rfl) (by kernel_rfl) (by kernel_rfl) (by kernel_rfl) (by kernel_rfl) (fun _ _ _ h => h) (Or.inr ⟨by rfl, rfl⟩) (by assumption) ?_
      try simp only [Act.put, List.setIfInBounds_toArray, List.set_cons_zero, List.set_cons_succ]
      refine wpAnyF_take (i := 17) (oi := ⟨_, _, _, _, _, _⟩) (v := undef) rfl (by kernel_rfl) (by kernel_rfl) (by kernel_rfl) (by kernel_rfl) (by kernel_rfl) (fun _ _ _ h => h) (Or.inr ⟨by rfl, rfl⟩) (by assumption) ?_
      try simp only [Act.put, List.setIfInBounds_toArray, List.set_cons_zero, List.set_cons_succ]
      refine wpAnyF_take (i := 18) (oi := ⟨_, _, _, _, _, _⟩) (v := undef) rfl (by kernel_rfl) (by kernel_rfl) (by kernel_rfl) (by kernel_rfl) (by kernel_rfl) (fun _ _ _ h => h) (Or.inr ⟨by rfl, rfl⟩) (by assumption) ?_
      try simp only [Act.put, List.setIfInBounds_toArray, List.set_cons_zero, List.set_cons_succ]
      refine wpAnyF_last (o := ⟨_, _, _, _, _, _⟩) (by kernel_rfl) rfl (fun K' hK => ?_)
      go_simp
      refine hK.out _ _ ?_
      clear hK K'
      try simp only [Act.put, List.setIfInBounds_toArray, List.set_cons_zero, List.set_cons_succ]
      refine wpAnyF_done (by kernel_rfl) ?_ _
      clear hHeld
      have HJ : Hid (LwS V0' g c (RcM c) bp (i + 1) V.drew) := LwS.mk (HI.out.ext (extends_drewN (ext_Ext (Ext.refl V)) 1)) (by rw [← HPL2.out]; simp [HM.out.1]) HH.out.1.1 HH.out.1.2 (by have := HN.out.2; omega) (by have := HN.out.2; omega) HH.out.2.1.1 HH.out.2.1.2
      have hi9 := HI9.out
      go_wp2_with fail
      refine ⟨rfl, rfl, ⟨rfl, rfl, rfl, i + 1, HN.out.1, ?_, HJ⟩, ?_⟩
      · show Value.int .i64 _ = _
        go_num
      · show len - (intOf (Value.int .i64 _)).toNat < len - (intOf (F 22)).toNat
        rw [H22.out]
        have := HN.out.1
        simp [intOf]; omega
    have hjn' : (j : Int) < 4 := by omega
    have q0 : (0 : Int) ≤ (j : Int) := by omega
    have q2 : ((j : Int)).toNat = j := by omega
    have hj9 : (j : Int) + 1 ≤ 1000 := by omega
    have hj3 : j ≤ 3 := by omega
    obtain ⟨sv, hsv⟩ : ∃ sv, sv = v.supply[j] := ⟨_, rfl⟩
    obtain ⟨sw, hsw⟩ : ∃ sw, sw = w.supply[j] := ⟨_, rfl⟩
    obtain ⟨su, hsu⟩ : ∃ su, su = ((Vector.replicate 4 0 : Vector UInt64 4))[j] := ⟨_, rfl⟩
    obtain ⟨sd, hsd⟩ : ∃ sd, sd = ((Vector.replicate 4 0 : Vector UInt64 4))[j] := ⟨_, rfl⟩
    have heq : sw + sd = sv + su := by rw [hsv, hsw, hsu, hsd]; exact HEQ.out j hjn
    have n1 : nth v.enc (321 + j) = some (.int .u64 (w64 sv)) := by rw [hsv]; exact View.supply_at v j hjn
    have n2 : nth w.enc (321 + j) = some (.int .u64 (w64 sw)) := by rw [hsw]; exact View.supply_at w j hjn
    have n3 : nth (arr u64v (Vector.replicate 4 0 : Vector UInt64 4)) j = some (.int .u64 (w64 su)) := by rw [hsu]; exact nth_arr_u64 _ hjn
    have n4 : nth (arr u64v (Vector.replicate 4 0 : Vector UInt64 4)) j = some (.int .u64 (w64 sd)) := by rw [hsd]; exact nth_arr_u64 _ hjn
    have a1 : IntKind.u64.wrap (w64 sw + w64 sd) = w64 (sw + sd) := x64_add _ _
    have a2 : IntKind.u64.wrap (w64 sv + w64 su) = w64 (sw + sd) := by rw [heq]; exact x64_add _ _
    have l3 : (arr u64v (Vector.replicate 4 0 : Vector UInt64 4)).length = 4 := length_arr _ _
    have l4 : (arr u64v (Vector.replicate 4 0 : Vector UInt64 4)).length = 4 := length_arr _ _
    have HK : Hid (∀ k, TwI V0' c1 c2 ((bu, arr u64v (Vector.replicate 4 0 : Vector UInt64 4)) :: (bd, arr u64v (Vector.replicate 4 0 : Vector UInt64 4)) :: bs) sr.2.1 sr.2.2 (V.drewN k)) := fun k => HI.out.ext (extends_drewN (ext_Ext (Ext.refl V)) k)
    have HJN := hid_of hjn
    obtain ⟨UE, hUE⟩ : ∃ UE, UE = arr u64v ((Vector.replicate 4 0 : Vector UInt64 4)) := ⟨_, rfl⟩
    obtain ⟨DE, hDE⟩ : ∃ DE, DE = arr u64v ((Vector.replicate 4 0 : Vector UInt64 4)) := ⟨_, rfl⟩
    rw [← hUE] at ku n3 l3
    rw [← hDE] at kd n4 l4
    clear hUE hDE
    clear hjn hj heq hsv hsw hsu hsd HI ka ko
    go_upto_region 30 with fail
    repeat go_step
    go_quiet (fail)
    go_wp2_with fail
    refine ⟨rfl, rfl, ⟨rfl, rfl, rfl, rfl, rfl, rfl, rfl, rfl, rfl, rfl, j + 1, HJN.out, ?_, HK.out _⟩, ?_⟩
    · show Value.int .i64 _ = _
      go_num
    · show 4 - (intOf (Value.int .i64 _)).toNat < 4 - (intOf (G 13)).toNat
      rw [H13.out]
      have := HJN.out
      simp [intOf]; omega
  have hcf : (cd == 0) = true := by rw [hc0]; rfl
  have has := asksOnly_any V11 x.kind
  have HC0 := hid_of hc0
  clear hc0
  go_wp2_with fail
  refine has.mono ?_
  clear has
  rintro e V12 ⟨rfl, hv12⟩
  obtain rfl := hv12.symm
  clear hv12
  dsimp only
  cases hsf : asF x.kind with
  | true =>
    have HEQ := hid_of (HTT.out (Vector.replicate 4 0) (Vector.replicate 4 0) (by unfold effR; rw [if_neg (fun q => by rw [hsf] at q; cases q.2)]; exact UpV.nil) (by unfold effR; rw [if_neg (fun q => by rw [hsf] at q; cases q.2)]; exact DnV.nil))
    have hk3 := asF_three hsf
    clear HTT hsf HONE
    go_upto_region 27 with fail
    clear ka ko'
    go_wp2_with fail
    refine wp_loop_f 141 (lw8c V0' (some ⟨b, o, none⟩) len cap bp bo bv ba bw bu bd i c1 c2 ((bu, arr u64v (Vector.replicate 4 0 : Vector UInt64 4)) :: (bd, arr u64v (Vector.replicate 4 0 : Vector UInt64 4)) :: bs) sr.2.1 sr.2.2) (fun f _ => 4 - (intOf (f 13)).toNat) rfl ⟨rfl, rfl, rfl, rfl, rfl, rfl, rfl, rfl, rfl, rfl, 0, by omega, rfl, H12⟩ ?_
    clear H12
    intro G V hrel
    obtain ⟨f3, f5, f6, f7, f8, f9, f10, f20, f21, f22, j, hj, f13, HI⟩ := hrel
    have H13 := hid_of f13
    rw [frame141L, f3, f5, f6, f7, f8, f9, f10, f20, f21, f22, f13]
    clear f3 f5 f6 f7 f8 f9 f10 f20 f21 f22 f13
    have kv := (HI.out.at (b := bv) (C := v.enc) (by simp [HM.out.2.2.1])).1
    have kw := (HI.out.at (b := bw) (C := w.enc) (by simp [HM.out.2.2.2.2.1])).1
    have ku := (HI.out.at (b := bu) (C := arr u64v (Vector.replicate 4 0 : Vector UInt64 4)) (by simp)).1
    have kd := (HI.out.at (b := bd) (C := arr u64v (Vector.replicate 4 0 : Vector UInt64 4)) (by simp)).1
    have ka := (HI.out.at (b := ba) (C := AE) (by simp [HM.out.2.2.2.1])).1
    have ko := (HI.out.at (b := bo) (C := x.enc) (by simp [HM.out.2.1])).1
    by_cases hjn : j < 4
    rotate_left 1
    · have hjn' : ¬ (j : Int) < 4 := by omega
      clear hjn hj ku kd
      clear kv kw ka
      go_upto_region 32 with fail
      repeat go_step
      refine wp_region_F 19 (fun W' => blk W' bo = some x.enc) (by kernel_rfl) (by rw [show blk V.drew bo = blk V bo from rfl]; exact ko) (fun hHeld => ?_)
      refine wpAnyF_take (i := 0) (oi := ⟨_, _, _, _, _, _⟩) (v := ?_) rfl (by kernel_rfl) (by kernel_rfl) (by kernel_rfl) (by kernel_rfl) (by kernel_rfl) (fun _ _ _ h => h) (Or.inl ⟨by rfl, ?_⟩) (by assumption) ?_
      rotate_left 1
      · intro W' hSw
        go_simp
        try with_reducible rfl
      try simp only [Act.put, List.setIfInBounds_toArray, List.set_cons_zero, List.set_cons_succ]
      refine wpAnyF_take (i := 1) (oi := ⟨_, _, _, _, _, _⟩) (v := ?_) rfl (by kernel_rfl) (by kernel_rfl) (by kernel_rfl) (by kernel_rfl) (by kernel_rfl) (fun _ _ _ h => h) (Or.inl ⟨by rfl, ?_⟩) (by assumption) ?_
      rotate_left 1
      · intro W' hSw
        go_simp
        try with_reducible rfl
      try simp only [Act.put, List.setIfInBounds_toArray, List.set_cons_zero, List.set_cons_succ]
      refine wpAnyF_take (i := 2) (oi := ⟨_, _, _, _, _, _⟩) (v := ?_) rfl (by kernel_rfl) (by kernel_rfl) (by kernel_rfl) (by kernel_rfl) (by kernel_rfl) (fun _ _ _ h => h) (Or.inl ⟨by rfl, ?_⟩) (by assumption) ?_
      rotate_left 1
      · intro W' hSw
        go_simp
        try with_reducible rfl
      try simp only [Act.put, List.setIfInBounds_toArray, List.set_cons_zero, List.set_cons_succ]
      refine wpAnyF_take (i := 3) (oi := ⟨_, _, _, _, _, _⟩) (v := ?_) rfl (by kernel_rfl) (by kernel_rfl) (by kernel_rfl) (by kernel_rfl) (by kernel_rfl) (fun _ _ _ h => h) (Or.inl ⟨by rfl, ?_⟩) (by assumption) ?_
      rotate_left 1
      · intro W' hSw
        go_simp
        try with_reducible rfl
      try simp only [Act.put, List.setIfInBounds_toArray, List.set_cons_zero, List.set_cons_succ]
      refine wpAnyF_take (i := 4) (oi := ⟨_, _, _, _, _, _⟩) (v := undef) rfl (by kernel_rfl) (by kernel_rfl) (by kernel_rfl) (by kernel_rfl) (by kernel_rfl) (fun _ _ _ h => h) (Or.inr ⟨by rfl, rfl⟩) (by assumption) ?_
      try simp only [Act.put, List.setIfInBounds_toArray, List.set_cons_zero, List.set_cons_succ]
      refine wpAnyF_take (i := 5) (oi := ⟨_, _, _, _, _, _⟩) (v := undef) rfl (by kernel_rfl) (by kernel_rfl) (by kernel_rfl) (by kernel_rfl) (by kernel_rfl) (fun _ _ _ h => h) (Or.inr ⟨by rfl, rfl⟩) (by assumption) ?_
      try simp only [Act.put, List.setIfInBounds_toArray, List.set_cons_zero, List.set_cons_succ]
      refine wpAnyF_take (i := 6) (oi := ⟨_, _, _, _, _, _⟩) (v := undef) rfl (by kernel_rfl) (by kernel_rfl) (by kernel_rfl) (by kernel_rfl) (by kernel_rfl) (fun _ _ _ h => h) (Or.inr ⟨by rfl, rfl⟩) (by assumption) ?_
      try simp only [Act.put, List.setIfInBounds_toArray, List.set_cons_zero, List.set_cons_succ]
      refine wpAnyF_take (i := 7) (oi := ⟨_, _, _, _, _, _⟩) (v := ?_) rfl (by kernel_rfl) (by kernel_rfl) (by kernel_rfl) (by kernel_rfl) (by kernel_rfl) (fun _ _ _ h => h) (Or.inl ⟨by rfl, ?_⟩) (by assumption) ?_
      rotate_left 1
      · intro W' hSw
        go_simp
        try with_reducible rfl
      try simp only [Act.put, List.setIfInBounds_toArray, List.set_cons_zero, List.set_cons_succ]
      refine wpAnyF_take (i := 8) (oi := ⟨_, _, _, _, _, _⟩) (v := ?_) rfl (by kernel_rfl) (by kernel_rfl) (by kernel_rfl) (by kernel_rfl) (by kernel_rfl) (fun _ _ _ h => h) (Or.inl ⟨by rfl, ?_⟩) (by assumption) ?_
      rotate_left 1
      · intro W' hSw
        go_simp
        try with_reducible rfl
      try simp only [Act.put, List.setIfInBounds_toArray, List.set_cons_zero, List.set_cons_succ]
      refine wpAnyF_take (i := 9) (oi := ⟨_, _, _, _, _, _⟩) (v := undef) rfl (by kernel_rfl) (by kernel_rfl) (by kernel_rfl) (by kernel_rfl) (by kernel_rfl) (fun _ _ _ h => h) (Or.inr ⟨by rfl, rfl⟩) (by assumption) ?_
      try simp only [Act.put, List.setIfInBounds_toArray, List.set_cons_zero, List.set_cons_succ]
      refine wpAnyF_take (i := 10) (oi := ⟨_, _, _, _, _, _⟩) (v := undef) rfl (by kernel_rfl) (by kernel_rfl) (by kernel_rfl) (by kernel_rfl) (by kernel_rfl) (fun _ _ _ h => h) (Or.inr ⟨by rfl, rfl⟩) (by assumption) ?_
      try simp only [Act.put, List.setIfInBounds_toArray, List.set_cons_zero, List.set_cons_succ]
      refine wpAnyF_take (i := 11) (oi := ⟨_, _, _, _, _, _⟩) (v := undef) rfl (by kernel_rfl) (by kernel_rfl) (by kernel_rfl) (by kernel_rfl) (by kernel_rfl) (fun _ _ _ h => h) (Or.inr ⟨by rfl, rfl⟩) (by assumption) ?_
      try simp only [Act.put, List.setIfInBounds_toArray, List.set_cons_zero, List.set_cons_succ]
      refine wpAnyF_take (i := 12) (oi := ⟨_, _, _, _, _, _⟩) (v := undef) rfl (by kernel_rfl) (by kernel_rfl) (by kernel_rfl) (by kernel_rfl) (by kernel_rfl) (fun _ _ _ h => h) (Or.inr ⟨by rfl, rfl⟩) (by assumption) ?_
      try simp only [Act.put, List.setIfInBounds_toArray, List.set_cons_zero, List.set_cons_succ]
      refine wpAnyF_take (i := 13) (oi := ⟨_, _, _, _, _, _⟩) (v := undef) rfl (by kernel_rfl) (by kernel_rfl) (by kernel_rfl) (by kernel_rfl) (by kernel_rfl) (fun _ _ _ h => h) (Or.inr ⟨by rfl, rfl⟩) (by assumption) ?_
      try simp only [Act.put, List.setIfInBounds_toArray, List.set_cons_zero, List.set_cons_succ]
      refine wpAnyF_take (i := 14) (oi := ⟨_, _, _, _, _, _⟩) (v := undef) rfl (by kernel_rfl) (by kernel_rfl) (by kernel_rfl) (by kernel_rfl) (by kernel_rfl) (fun _ _ _ h => h) (Or.inr ⟨by rfl, rfl⟩) (by assumption) ?_
      try simp only [Act.put, List.setIfInBounds_toArray, List.set_cons_zero, List.set_cons_succ]
      refine wpAnyF_take (i := 15) (oi := ⟨_, _, _, _, _, _⟩) (v := undef) rfl (by kernel_rfl) (by kernel_rfl) (by kernel_rfl) (by kernel_rfl) (by kernel_rfl) (fun _ _ _ h => h) (Or.inr ⟨by rfl, rfl⟩) (by assumption) ?_
      try simp only [Act.put, List.setIfInBounds_toArray, List.set_cons_zero, List.set_cons_succ]
      refine wpAnyF_take (i := 16) (oi := ⟨_, _, _, _, _, _⟩) (v := undef) rfl (by kernel_rfl) (by kernel_rfl) (by kernel_rfl) (by kernel_rfl) (by kernel_rfl) (fun _ _ _ h => h) (Or.inr ⟨by rfl, rfl⟩) (by assumption) ?_
      try simp only [Act.put, List.setIfInBounds_toArray, List.set_cons_zero, List.set_cons_succ]
      refine wpAnyF_take (i := 17) (oi := ⟨_, _, _, _, _, _⟩) (v := undef) rfl (by kernel_rfl) (by kernel_rfl) (by kernel_rfl) (by kernel_rfl) (by kernel_rfl) (fun _ _ _ h => h) (Or.inr ⟨by rfl, rfl⟩) (by assumption) ?_
      try simp only [Act.put, List.setIfInBounds_toArray, List.set_cons_zero, List.set_cons_succ]
      refine wpAnyF_take (i := 18) (oi := ⟨_, _, _, _, _, _⟩) (v := undef) rfl (by kernel_rfl) (by kernel_rfl) (by kernel_rfl) (by kernel_rfl) (by kernel_rfl) (fun _ _ _ h => h) (Or.inr ⟨by rfl, rfl⟩) (by assumption) ?_
      try simp only [Act.put, List.setIfInBounds_toArray, List.set_cons_zero, List.set_cons_succ]
      refine wpAnyF_last (o := ⟨_, _, _, _, _, _⟩) (by kernel_rfl) rfl (fun K' hK => ?_)
      go_simp
      refine hK.out _ _ ?_
      clear hK K'
      try simp only [Act.put, List.setIfInBounds_toArray, List.set_cons_zero, List.set_cons_succ]
      refine wpAnyF_done (by kernel_rfl) ?_ _
      clear hHeld
      have HJ : Hid (LwS V0' g c (RcM c) bp (i + 1) V.drew) := LwS.mk (HI.out.ext (extends_drewN (ext_Ext (Ext.refl V)) 1)) (by rw [← HPL2.out]; simp [HM.out.1]) HH.out.1.1 HH.out.1.2 (by have := HN.out.2; omega) (by have := HN.out.2; omega) HH.out.2.1.1 HH.out.2.1.2
      have hi9 := HI9.out
      go_wp2_with fail
      refine ⟨rfl, rfl, ⟨rfl, rfl, rfl, i + 1, HN.out.1, ?_, HJ⟩, ?_⟩
      · show Value.int .i64 _ = _
        go_num
      · show len - (intOf (Value.int .i64 _)).toNat < len - (intOf (F 22)).toNat
        rw [H22.out]
        have := HN.out.1
        simp [intOf]; omega
    have hjn' : (j : Int) < 4 := by omega
    have q0 : (0 : Int) ≤ (j : Int) := by omega
    have q2 : ((j : Int)).toNat = j := by omega
    have hj9 : (j : Int) + 1 ≤ 1000 := by omega
    have hj3 : j ≤ 3 := by omega
    obtain ⟨sv, hsv⟩ : ∃ sv, sv = v.supply[j] := ⟨_, rfl⟩
    obtain ⟨sw, hsw⟩ : ∃ sw, sw = w.supply[j] := ⟨_, rfl⟩
    obtain ⟨su, hsu⟩ : ∃ su, su = ((Vector.replicate 4 0 : Vector UInt64 4))[j] := ⟨_, rfl⟩
    obtain ⟨sd, hsd⟩ : ∃ sd, sd = ((Vector.replicate 4 0 : Vector UInt64 4))[j] := ⟨_, rfl⟩
    have heq : sw + sd = sv + su := by rw [hsv, hsw, hsu, hsd]; exact HEQ.out j hjn
    have n1 : nth v.enc (321 + j) = some (.int .u64 (w64 sv)) := by rw [hsv]; exact View.supply_at v j hjn
    have n2 : nth w.enc (321 + j) = some (.int .u64 (w64 sw)) := by rw [hsw]; exact View.supply_at w j hjn
    have n3 : nth (arr u64v (Vector.replicate 4 0 : Vector UInt64 4)) j = some (.int .u64 (w64 su)) := by rw [hsu]; exact nth_arr_u64 _ hjn
    have n4 : nth (arr u64v (Vector.replicate 4 0 : Vector UInt64 4)) j = some (.int .u64 (w64 sd)) := by rw [hsd]; exact nth_arr_u64 _ hjn
    have a1 : IntKind.u64.wrap (w64 sw + w64 sd) = w64 (sw + sd) := x64_add _ _
    have a2 : IntKind.u64.wrap (w64 sv + w64 su) = w64 (sw + sd) := by rw [heq]; exact x64_add _ _
    have l3 : (arr u64v (Vector.replicate 4 0 : Vector UInt64 4)).length = 4 := length_arr _ _
    have l4 : (arr u64v (Vector.replicate 4 0 : Vector UInt64 4)).length = 4 := length_arr _ _
    have HK : Hid (∀ k, TwI V0' c1 c2 ((bu, arr u64v (Vector.replicate 4 0 : Vector UInt64 4)) :: (bd, arr u64v (Vector.replicate 4 0 : Vector UInt64 4)) :: bs) sr.2.1 sr.2.2 (V.drewN k)) := fun k => HI.out.ext (extends_drewN (ext_Ext (Ext.refl V)) k)
    have HJN := hid_of hjn
    obtain ⟨UE, hUE⟩ : ∃ UE, UE = arr u64v ((Vector.replicate 4 0 : Vector UInt64 4)) := ⟨_, rfl⟩
    obtain ⟨DE, hDE⟩ : ∃ DE, DE = arr u64v ((Vector.replicate 4 0 : Vector UInt64 4)) := ⟨_, rfl⟩
    rw [← hUE] at ku n3 l3
    rw [← hDE] at kd n4 l4
    clear hUE hDE
    clear hjn hj heq hsv hsw hsu hsd HI ka ko
    go_upto_region 30 with fail
    repeat go_step
    go_quiet (fail)
    go_wp2_with fail
    refine ⟨rfl, rfl, ⟨rfl, rfl, rfl, rfl, rfl, rfl, rfl, rfl, rfl, rfl, j + 1, HJN.out, ?_, HK.out _⟩, ?_⟩
    · show Value.int .i64 _ = _
      go_num
    · show 4 - (intOf (Value.int .i64 _)).toNat < 4 - (intOf (G 13)).toNat
      rw [H13.out]
      have := HJN.out
      simp [intOf]; omega
  | false =>
  have HEF : Hid (effR x sr.1 = sr.1.rs) := by
    show effR x sr.1 = _
    unfold effR
    rw [if_pos ⟨HCD.out.symm.trans HC0.out, hsf⟩]
  obtain ⟨ra, rn, rcap⟩ := rc
  dsimp only at na1 HM
  have HRN : Hid (sr.1.rs.length = rn ∧ rn ≤ 9223372036854775807) := by
    obtain ⟨q1, q2, q3, -⟩ := HM.out.2.2.2.2.2
    refine ⟨q1, ?_⟩
    have q2' : rn ≤ rcap := q2
    have q3' : rcap ≤ maxLen := q3
    unfold maxLen at q3'
    omega
  have HI0 : Hid (∃ U D : Vector UInt64 4, UpV (sr.1.rs.take 0) U ∧ DnV (sr.1.rs.take 0) D ∧ TwI V0' c1 c2 ((bu, arr u64v U) :: (bd, arr u64v D) :: bs) sr.2.1 sr.2.2 V11) := ⟨_, _, UpV.nil, DnV.nil, H12.out⟩
  clear hsf H12
  go_upto_region 20 with fail
  go_wp2_with fail
  refine wp_loop_f 141 (lw8b V0' (some ⟨b, o, none⟩) len cap bp bo bv ba bw bu bd i ra rn rcap c1 c2 bs sr.1.rs sr.2.1 sr.2.2) (fun f _ => rn - (intOf (f 58)).toNat) rfl ⟨rfl, rfl, rfl, rfl, rfl, rfl, rfl, rfl, rfl, rfl, rfl, rfl, 0, Nat.zero_le _, rfl, HI0⟩ ?_
  clear HI0 ka ko'
  intro G V hrel
  obtain ⟨f3, f5, f6, f7, f8, f9, f10, f20, f21, f22, f56, f57, j, hj, f58, HI⟩ := hrel
  have H58 := hid_of f58
  rw [frame141L, f3, f5, f6, f7, f8, f9, f10, f20, f21, f22, f56, f57, f58]
  clear f3 f5 f6 f7 f8 f9 f10 f20 f21 f22 f56 f57 f58
  obtain ⟨U, D, hU, hD, h13⟩ := HI.out
  clear HI
  by_cases hjn : j < rn
  rotate_left 1
  · have hjn' : ¬ (j : Int) < (rn : Int) := by omega
    have ej : sr.1.rs.take j = sr.1.rs := List.take_of_length_le (by have := HRN.out.1; omega)
    rw [ej] at hU hD
    have HEQ := hid_of (HTT.out U D (by rw [HEF.out]; exact hU) (by rw [HEF.out]; exact hD))
    have H13' := hid_of h13
    clear HTT hU hD ej h13 hjn hj
    by_cases k3 : x.kind = 3
    · have hk3 : (x.kind == 3) = true := by rw [k3]; rfl
      have HO1 := hid_of (HONE.out k3 HC0.out)
      clear k3 HONE
      go_upto_region 27 with fail
      go_wp2_with fail
      refine wp_loop_f 141 (lw8c V0' (some ⟨b, o, none⟩) len cap bp bo bv ba bw bu bd i c1 c2 ((bu, arr u64v U) :: (bd, arr u64v D) :: bs) sr.2.1 sr.2.2) (fun f _ => 4 - (intOf (f 13)).toNat) rfl ⟨rfl, rfl, rfl, rfl, rfl, rfl, rfl, rfl, rfl, rfl, 0, by omega, rfl, H13'⟩ ?_
      clear H13'
      intro G V hrel
      obtain ⟨f3, f5, f6, f7, f8, f9, f10, f20, f21, f22, j, hj, f13, HI⟩ := hrel
      have H13 := hid_of f13
      rw [frame141L, f3, f5, f6, f7, f8, f9, f10, f20, f21, f22, f13]
      clear f3 f5 f6 f7 f8 f9 f10 f20 f21 f22 f13
      have kv := (HI.out.at (b := bv) (C := v.enc) (by simp [HM.out.2.2.1])).1
      have kw := (HI.out.at (b := bw) (C := w.enc) (by simp [HM.out.2.2.2.2.1])).1
      have ku := (HI.out.at (b := bu) (C := arr u64v U) (by simp)).1
      have kd := (HI.out.at (b := bd) (C := arr u64v D) (by simp)).1
      have ka := (HI.out.at (b := ba) (C := AE) (by simp [HM.out.2.2.2.1])).1
      have ko := (HI.out.at (b := bo) (C := x.enc) (by simp [HM.out.2.1])).1
      by_cases hjn : j < 4
      rotate_left 1
      · have hjn' : ¬ (j : Int) < 4 := by omega
        clear hjn hj ku kd
        obtain ⟨r1, hr1, hon⟩ := HO1.out
        obtain ⟨bb, CC, e1, k1, l1, s1⟩ := (HI.out.rowrw (bx' := bs) HM.out.2.2.2.2.2 (fun p hp => by simp [hp])).2 0 r1 (by rw [hr1]; rfl)
        have e1' : ra = some ⟨bb, 0, none⟩ := e1
        subst e1'
        have rn0 : (0 : Int) < (rn : Int) := by
          have q := HRN.out.1
          rw [hr1] at q
          have : 1 = rn := q
          omega
        have rn1 : 0 < rn := by omega
        have l1' : rn * 120 ≤ CC.length := l1
        have g1 : 120 ≤ CC.length := by omega
        have s1' : seg CC 0 120 = r1.enc := by rw [Nat.zero_mul] at s1; exact s1
        have h20 := HI.out.ext (extends_drewN (ext_Ext (Ext.refl V)) 1)
        have hox := oneTx_any (V.drewN 1) x.tx r1 v w hon
        clear e1 l1 l1' s1 hr1 hon
        go_upto_region 32 with fail
        repeat go_step
        refine wp_region_F 19 (fun W' => blk W' bo = some x.enc ∧ blk W' ba = some AE ∧ blk W' bv = some v.enc ∧ blk W' bw = some w.enc ∧ blk W' bb = some CC) (by kernel_rfl) (by exact ⟨ko, ka, kv, kw, k1⟩) (fun hHeld => ?_)
        refine wpAnyF_take (i := 0) (oi := ⟨_, _, _, _, _, _⟩) (v := ?_) rfl (by kernel_rfl) (by kernel_rfl) (by kernel_rfl) (by kernel_rfl) (by kernel_rfl) (fun _ _ _ h => h) (Or.inl ⟨by rfl, ?_⟩) (by assumption) ?_
        rotate_left 1
        · intro W' hSw
          obtain ⟨hS1, hS2, hS3, hS4, hS5⟩ := hSw
          go_simp
          try with_reducible rfl
        try simp only [Act.put, List.setIfInBounds_toArray, List.set_cons_zero, List.set_cons_succ]
        refine wpAnyF_take (i := 1) (oi := ⟨_, _, _, _, _, _⟩) (v := ?_) rfl (by kernel_rfl) (by kernel_rfl) (by kernel_rfl) (by kernel_rfl) (by kernel_rfl) (fun _ _ _ h => h) (Or.inl ⟨by rfl, ?_⟩) (by assumption) ?_
        rotate_left 1
        · intro W' hSw
          obtain ⟨hS1, hS2, hS3, hS4, hS5⟩ := hSw
          go_simp
          try with_reducible rfl
        try simp only [Act.put, List.setIfInBounds_toArray, List.set_cons_zero, List.set_cons_succ]
        refine wpAnyF_take (i := 2) (oi := ⟨_, _, _, _, _, _⟩) (v := ?_) rfl (by kernel_rfl) (by kernel_rfl) (by kernel_rfl) (by kernel_rfl) (by kernel_rfl) (fun _ _ _ h => h) (Or.inl ⟨by rfl, ?_⟩) (by assumption) ?_
        rotate_left 1
        · intro W' hSw
          obtain ⟨hS1, hS2, hS3, hS4, hS5⟩ := hSw
          go_simp
          try with_reducible rfl
        try simp only [Act.put, List.setIfInBounds_toArray, List.set_cons_zero, List.set_cons_succ]
        refine wpAnyF_take (i := 3) (oi := ⟨_, _, _, _, _, _⟩) (v := ?_) rfl (by kernel_rfl) (by kernel_rfl) (by kernel_rfl) (by kernel_rfl) (by kernel_rfl) (fun _ _ _ h => h) (Or.inl ⟨by rfl, ?_⟩) (by assumption) ?_
        rotate_left 1
        · intro W' hSw
          obtain ⟨hS1, hS2, hS3, hS4, hS5⟩ := hSw
          go_simp
          try with_reducible rfl
        try simp only [Act.put, List.setIfInBounds_toArray, List.set_cons_zero, List.set_cons_succ]
        refine wpAnyF_take (i := 4) (oi := ⟨_, _, _, _, _, _⟩) (v := ?_) rfl (by kernel_rfl) (by kernel_rfl) (by kernel_rfl) (by kernel_rfl) (by kernel_rfl) (fun _ _ _ h => h) (Or.inl ⟨by rfl, ?_⟩) (by assumption) ?_
        rotate_left 1
        · intro W' hSw
          obtain ⟨hS1, hS2, hS3, hS4, hS5⟩ := hSw
          go_simp
          try with_reducible rfl
        try simp only [Act.put, List.setIfInBounds_toArray, List.set_cons_zero, List.set_cons_succ]
        refine wpAnyF_take (i := 5) (oi := ⟨_, _, _, _, _, _⟩) (v := ?_) rfl (by kernel_rfl) (by kernel_rfl) (by kernel_rfl) (by kernel_rfl) (by kernel_rfl) (fun _ _ _ h => h) (Or.inl ⟨by rfl, ?_⟩) (by assumption) ?_
        rotate_left 1
        · intro W' hSw
          obtain ⟨hS1, hS2, hS3, hS4, hS5⟩ := hSw
          go_simp
          try with_reducible rfl
        try simp only [Act.put, List.setIfInBounds_toArray, List.set_cons_zero, List.set_cons_succ]
        refine wpAnyF_take (i := 6) (oi := ⟨_, _, _, _, _, _⟩) (v := ?_) rfl (by kernel_rfl) (by kernel_rfl) (by kernel_rfl) (by kernel_rfl) (by kernel_rfl) (fun _ _ _ h => h) (Or.inl ⟨by rfl, ?_⟩) (by assumption) ?_
        rotate_left 1
        · intro W' hSw
          obtain ⟨hS1, hS2, hS3, hS4, hS5⟩ := hSw
          go_simp
          try with_reducible rfl
        try simp only [Act.put, List.setIfInBounds_toArray, List.set_cons_zero, List.set_cons_succ]
        refine wpAnyF_take (i := 7) (oi := ⟨_, _, _, _, _, _⟩) (v := ?_) rfl (by kernel_rfl) (by kernel_rfl) (by kernel_rfl) (by kernel_rfl) (by kernel_rfl) (fun _ _ _ h => h) (Or.inl ⟨by rfl, ?_⟩) (by assumption) ?_
        rotate_left 1
        · intro W' hSw
          obtain ⟨hS1, hS2, hS3, hS4, hS5⟩ := hSw
          go_simp
          try with_reducible rfl
        try simp only [Act.put, List.setIfInBounds_toArray, List.set_cons_zero, List.set_cons_succ]
        refine wpAnyF_take (i := 8) (oi := ⟨_, _, _, _, _, _⟩) (v := ?_) rfl (by kernel_rfl) (by kernel_rfl) (by kernel_rfl) (by kernel_rfl) (by kernel_rfl) (fun _ _ _ h => h) (Or.inl ⟨by rfl, ?_⟩) (by assumption) ?_
        rotate_left 1
        · intro W' hSw
          obtain ⟨hS1, hS2, hS3, hS4, hS5⟩ := hSw
          go_simp
          try with_reducible rfl
        try simp only [Act.put, List.setIfInBounds_toArray, List.set_cons_zero, List.set_cons_succ]
        refine wpAnyF_take (i := 9) (oi := ⟨_, _, _, _, _, _⟩) (v := ?_) rfl (by kernel_rfl) (by kernel_rfl) (by kernel_rfl) (by kernel_rfl) (by kernel_rfl) (fun _ _ _ h => h) (Or.inl ⟨by rfl, ?_⟩) (by assumption) ?_
        rotate_left 1
        · intro W' hSw
          obtain ⟨hS1, hS2, hS3, hS4, hS5⟩ := hSw
          go_simp
          try with_reducible rfl
        try simp only [Act.put, List.setIfInBounds_toArray, List.set_cons_zero, List.set_cons_succ]
        refine wpAnyF_take (i := 10) (oi := ⟨_, _, _, _, _, _⟩) (v := ?_) rfl (by kernel_rfl) (by kernel_rfl) (by kernel_rfl) (by kernel_rfl) (by kernel_rfl) (fun _ _ _ h => h) (Or.inl ⟨by rfl, ?_⟩) (by assumption) ?_
        rotate_left 1
        · intro W' hSw
          obtain ⟨hS1, hS2, hS3, hS4, hS5⟩ := hSw
          go_simp
          try with_reducible rfl
        try simp only [Act.put, List.setIfInBounds_toArray, List.set_cons_zero, List.set_cons_succ]
        refine wpAnyF_take (i := 11) (oi := ⟨_, _, _, _, _, _⟩) (v := ?_) rfl (by kernel_rfl) (by kernel_rfl) (by kernel_rfl) (by kernel_rfl) (by kernel_rfl) (fun _ _ _ h => h) (Or.inl ⟨by rfl, ?_⟩) (by assumption) ?_
        rotate_left 1
        · intro W' hSw
          obtain ⟨hS1, hS2, hS3, hS4, hS5⟩ := hSw
          go_simp
          try with_reducible rfl
        try simp only [Act.put, List.setIfInBounds_toArray, List.set_cons_zero, List.set_cons_succ]
        refine wpAnyF_take (i := 12) (oi := ⟨_, _, _, _, _, _⟩) (v := ?_) rfl (by kernel_rfl) (by kernel_rfl) (by kernel_rfl) (by kernel_rfl) (by kernel_rfl) (fun _ _ _ h => h) (Or.inl ⟨by rfl, ?_⟩) (by assumption) ?_
        rotate_left 1
        · intro W' hSw
          obtain ⟨hS1, hS2, hS3, hS4, hS5⟩ := hSw
          go_simp
          try with_reducible rfl
        try simp only [Act.put, List.setIfInBounds_toArray, List.set_cons_zero, List.set_cons_succ]
        refine wpAnyF_take (i := 13) (oi := ⟨_, _, _, _, _, _⟩) (v := ?_) rfl (by kernel_rfl) (by kernel_rfl) (by kernel_rfl) (by kernel_rfl) (by kernel_rfl) (fun _ _ _ h => h) (Or.inl ⟨by rfl, ?_⟩) (by assumption) ?_
        rotate_left 1
        · intro W' hSw
          obtain ⟨hS1, hS2, hS3, hS4, hS5⟩ := hSw
          go_simp
          try with_reducible rfl
        try simp only [Act.put, List.setIfInBounds_toArray, List.set_cons_zero, List.set_cons_succ]
        refine wpAnyF_take (i := 14) (oi := ⟨_, _, _, _, _, _⟩) (v := ?_) rfl (by kernel_rfl) (by kernel_rfl) (by kernel_rfl) (by kernel_rfl) (by kernel_rfl) (fun _ _ _ h => h) (Or.inl ⟨by rfl, ?_⟩) (by assumption) ?_
        rotate_left 1
        · intro W' hSw
          obtain ⟨hS1, hS2, hS3, hS4, hS5⟩ := hSw
          go_simp
          try with_reducible rfl
        try simp only [Act.put, List.setIfInBounds_toArray, List.set_cons_zero, List.set_cons_succ]
        refine wpAnyF_take (i := 15) (oi := ⟨_, _, _, _, _, _⟩) (v := ?_) rfl (by kernel_rfl) (by kernel_rfl) (by kernel_rfl) (by kernel_rfl) (by kernel_rfl) (fun _ _ _ h => h) (Or.inl ⟨by rfl, ?_⟩) (by assumption) ?_
        rotate_left 1
        · intro W' hSw
          obtain ⟨hS1, hS2, hS3, hS4, hS5⟩ := hSw
          go_simp
          try with_reducible rfl
        try simp only [Act.put, List.setIfInBounds_toArray, List.set_cons_zero, List.set_cons_succ]
        refine wpAnyF_take (i := 16) (oi := ⟨_, _, _, _, _, _⟩) (v := ?_) rfl (by kernel_rfl) (by kernel_rfl) (by kernel_rfl) (by kernel_rfl) (by kernel_rfl) (fun _ _ _ h => h) (Or.inl ⟨by rfl, ?_⟩) (by assumption) ?_
        rotate_left 1
        · intro W' hSw
          obtain ⟨hS1, hS2, hS3, hS4, hS5⟩ := hSw
          go_simp
          try with_reducible rfl
        try simp only [Act.put, List.setIfInBounds_toArray, List.set_cons_zero, List.set_cons_succ]
        refine wpAnyF_one (o := ⟨_, _, _, _, _, _⟩) (i := 17) (by kernel_rfl) rfl rfl (fun K' hK => ?_)
        go_simp
        refine hox.mono ?_
        clear hox
        rintro e V21 ⟨rfl, hx21⟩
        dsimp only
        have h21 := h20.ext hx21
        have k21 := hx21.blk (blk_lt (show blk (V.drewN 1) bb = some CC from k1))
        refine hK.out _ _ ⟨(h21.at (b := bo) (C := x.enc) (by simp [HM.out.2.1])).1, (h21.at (b := ba) (C := AE) (by simp [HM.out.2.2.2.1])).1, (h21.at (b := bv) (C := v.enc) (by simp [HM.out.2.2.1])).1, (h21.at (b := bw) (C := w.enc) (by simp [HM.out.2.2.2.2.1])).1, k21.trans k1⟩ (fun hHeld => ?_)
        clear hK K'
        try simp only [Act.put, List.setIfInBounds_toArray, List.set_cons_zero, List.set_cons_succ]
        refine wpAnyF_take (i := 18) (oi := ⟨_, _, _, _, _, _⟩) (v := ?_) rfl (by kernel_rfl) (by kernel_rfl) (by kernel_rfl) (by kernel_rfl) (by kernel_rfl) (fun _ _ _ h => h) (Or.inl ⟨by rfl, ?_⟩) (by assumption) ?_
        rotate_left 1
        · intro W' hSw
          obtain ⟨hS1, hS2, hS3, hS4, hS5⟩ := hSw
          go_simp
          try with_reducible rfl
        try simp only [Act.put, List.setIfInBounds_toArray, List.set_cons_zero, List.set_cons_succ]
        refine wpAnyF_last (o := ⟨_, _, _, _, _, _⟩) (by kernel_rfl) rfl (fun K' hK => ?_)
        go_simp
        refine hK.out _ _ ?_
        clear hK K'
        try simp only [Act.put, List.setIfInBounds_toArray, List.set_cons_zero, List.set_cons_succ]
        refine wpAnyF_done (by kernel_rfl) ?_ _
        clear hHeld
        have HJ : Hid (LwS V0' g c (RcM c) bp (i + 1) V21) := LwS.mk h21 (by rw [← HPL2.out]; simp [HM.out.1]) HH.out.1.1 HH.out.1.2 (by have := HN.out.2; omega) (by have := HN.out.2; omega) HH.out.2.1.1 HH.out.2.1.2
        have hi9 := HI9.out
        go_wp2_with fail
        refine ⟨rfl, rfl, ⟨rfl, rfl, rfl, i + 1, HN.out.1, ?_, HJ⟩, ?_⟩
        · show Value.int .i64 _ = _
          go_num
        · show len - (intOf (Value.int .i64 _)).toNat < len - (intOf (F 22)).toNat
          rw [H22.out]
          have := HN.out.1
          simp [intOf]; omega
      have hjn' : (j : Int) < 4 := by omega
      have q0 : (0 : Int) ≤ (j : Int) := by omega
      have q2 : ((j : Int)).toNat = j := by omega
      have hj9 : (j : Int) + 1 ≤ 1000 := by omega
      have hj3 : j ≤ 3 := by omega
      obtain ⟨sv, hsv⟩ : ∃ sv, sv = v.supply[j] := ⟨_, rfl⟩
      obtain ⟨sw, hsw⟩ : ∃ sw, sw = w.supply[j] := ⟨_, rfl⟩
      obtain ⟨su, hsu⟩ : ∃ su, su = (U)[j] := ⟨_, rfl⟩
      obtain ⟨sd, hsd⟩ : ∃ sd, sd = (D)[j] := ⟨_, rfl⟩
      have heq : sw + sd = sv + su := by rw [hsv, hsw, hsu, hsd]; exact HEQ.out j hjn
      have n1 : nth v.enc (321 + j) = some (.int .u64 (w64 sv)) := by rw [hsv]; exact View.supply_at v j hjn
      have n2 : nth w.enc (321 + j) = some (.int .u64 (w64 sw)) := by rw [hsw]; exact View.supply_at w j hjn
      have n3 : nth (arr u64v U) j = some (.int .u64 (w64 su)) := by rw [hsu]; exact nth_arr_u64 _ hjn
      have n4 : nth (arr u64v D) j = some (.int .u64 (w64 sd)) := by rw [hsd]; exact nth_arr_u64 _ hjn
      have a1 : IntKind.u64.wrap (w64 sw + w64 sd) = w64 (sw + sd) := x64_add _ _
      have a2 : IntKind.u64.wrap (w64 sv + w64 su) = w64 (sw + sd) := by rw [heq]; exact x64_add _ _
      have l3 : (arr u64v U).length = 4 := length_arr _ _
      have l4 : (arr u64v D).length = 4 := length_arr _ _
      have HK : Hid (∀ k, TwI V0' c1 c2 ((bu, arr u64v U) :: (bd, arr u64v D) :: bs) sr.2.1 sr.2.2 (V.drewN k)) := fun k => HI.out.ext (extends_drewN (ext_Ext (Ext.refl V)) k)
      have HJN := hid_of hjn
      obtain ⟨UE, hUE⟩ : ∃ UE, UE = arr u64v (U) := ⟨_, rfl⟩
      obtain ⟨DE, hDE⟩ : ∃ DE, DE = arr u64v (D) := ⟨_, rfl⟩
      rw [← hUE] at ku n3 l3
      rw [← hDE] at kd n4 l4
      clear hUE hDE
      clear hjn hj heq hsv hsw hsu hsd HI ka ko
      go_upto_region 30 with fail
      repeat go_step
      go_quiet (fail)
      go_wp2_with fail
      refine ⟨rfl, rfl, ⟨rfl, rfl, rfl, rfl, rfl, rfl, rfl, rfl, rfl, rfl, j + 1, HJN.out, ?_, HK.out _⟩, ?_⟩
      · show Value.int .i64 _ = _
        go_num
      · show 4 - (intOf (Value.int .i64 _)).toNat < 4 - (intOf (G 13)).toNat
        rw [H13.out]
        have := HJN.out
        simp [intOf]; omega
    have hk3 : (x.kind == 3) = false := by simp [k3]
    clear k3 HONE
    go_upto_region 27 with fail
    go_wp2_with fail
    refine wp_loop_f 141 (lw8c V0' (some ⟨b, o, none⟩) len cap bp bo bv ba bw bu bd i c1 c2 ((bu, arr u64v U) :: (bd, arr u64v D) :: bs) sr.2.1 sr.2.2) (fun f _ => 4 - (intOf (f 13)).toNat) rfl ⟨rfl, rfl, rfl, rfl, rfl, rfl, rfl, rfl, rfl, rfl, 0, by omega, rfl, H13'⟩ ?_
    clear H13'
    intro G V hrel
    obtain ⟨f3, f5, f6, f7, f8, f9, f10, f20, f21, f22, j, hj, f13, HI⟩ := hrel
    have H13 := hid_of f13
    rw [frame141L, f3, f5, f6, f7, f8, f9, f10, f20, f21, f22, f13]
    clear f3 f5 f6 f7 f8 f9 f10 f20 f21 f22 f13
    have kv := (HI.out.at (b := bv) (C := v.enc) (by simp [HM.out.2.2.1])).1
    have kw := (HI.out.at (b := bw) (C := w.enc) (by simp [HM.out.2.2.2.2.1])).1
    have ku := (HI.out.at (b := bu) (C := arr u64v U) (by simp)).1
    have kd := (HI.out.at (b := bd) (C := arr u64v D) (by simp)).1
    have ka := (HI.out.at (b := ba) (C := AE) (by simp [HM.out.2.2.2.1])).1
    have ko := (HI.out.at (b := bo) (C := x.enc) (by simp [HM.out.2.1])).1
    by_cases hjn : j < 4
    rotate_left 1
    · have hjn' : ¬ (j : Int) < 4 := by omega
      clear hjn hj ku kd
      clear kv kw ka
      go_upto_region 32 with fail
      repeat go_step
      refine wp_region_F 19 (fun W' => blk W' bo = some x.enc) (by kernel_rfl) (by rw [show blk V.drew bo = blk V bo from rfl]; exact ko) (fun hHeld => ?_)
      refine wpAnyF_take (i := 0) (oi := ⟨_, _, _, _, _, _⟩) (v := ?_) rfl (by kernel_rfl) (by kernel_rfl) (by kernel_rfl) (by kernel_rfl) (by kernel_rfl) (fun _ _ _ h => h) (Or.inl ⟨by rfl, ?_⟩) (by assumption) ?_
      rotate_left 1
      · intro W' hSw
        go_simp
        try with_reducible rfl
      try simp only [Act.put, List.setIfInBounds_toArray, List.set_cons_zero, List.set_cons_succ]
      refine wpAnyF_take (i := 1) (oi := ⟨_, _, _, _, _, _⟩) (v := ?_) rfl (by kernel_rfl) (by kernel_rfl) (by kernel_rfl) (by kernel_rfl) (by kernel_rfl) (fun _ _ _ h => h) (Or.inl ⟨by rfl, ?_⟩) (by assumption) ?_
      rotate_left 1
      · intro W' hSw
        go_simp
        try with_reducible rfl
      try simp only [Act.put, List.setIfInBounds_toArray, List.set_cons_zero, List.set_cons_succ]
      refine wpAnyF_take (i := 2) (oi := ⟨_, _, _, _, _, _⟩) (v := ?_) rfl (by kernel_rfl) (by kernel_rfl) (by kernel_rfl) (by kernel_rfl) (by kernel_rfl) (fun _ _ _ h => h) (Or.inl ⟨by rfl, ?_⟩) (by assumption) ?_
      rotate_left 1
      · intro W' hSw
        go_simp
        try with_reducible rfl
      try simp only [Act.put, List.setIfInBounds_toArray, List.set_cons_zero, List.set_cons_succ]
      refine wpAnyF_take (i := 3) (oi := ⟨_, _, _, _, _, _⟩) (v := ?_) rfl (by kernel_rfl) (by kernel_rfl) (by kernel_rfl) (by kernel_rfl) (by kernel_rfl) (fun _ _ _ h => h) (Or.inl ⟨by rfl, ?_⟩) (by assumption) ?_
      rotate_left 1
      · intro W' hSw
        go_simp
        try with_reducible rfl
      try simp only [Act.put, List.setIfInBounds_toArray, List.set_cons_zero, List.set_cons_succ]
      refine wpAnyF_take (i := 4) (oi := ⟨_, _, _, _, _, _⟩) (v := undef) rfl (by kernel_rfl) (by kernel_rfl) (by kernel_rfl) (by kernel_rfl) (by kernel_rfl) (fun _ _ _ h => h) (Or.inr ⟨by rfl, rfl⟩) (by assumption) ?_
      try simp only [Act.put, List.setIfInBounds_toArray, List.set_cons_zero, List.set_cons_succ]
      refine wpAnyF_take (i := 5) (oi := ⟨_, _, _, _, _, _⟩) (v := undef) rfl (by kernel_rfl) (by kernel_rfl) (by kernel_rfl) (by kernel_rfl) (by kernel_rfl) (fun _ _ _ h => h) (Or.inr ⟨by rfl, rfl⟩) (by assumption) ?_
      try simp only [Act.put, List.setIfInBounds_toArray, List.set_cons_zero, List.set_cons_succ]
      refine wpAnyF_take (i := 6) (oi := ⟨_, _, _, _, _, _⟩) (v := undef) rfl (by kernel_rfl) (by kernel_rfl) (by kernel_rfl) (by kernel_rfl) (by kernel_rfl) (fun _ _ _ h => h) (Or.inr ⟨by rfl, rfl⟩) (by assumption) ?_
      try simp only [Act.put, List.setIfInBounds_toArray, List.set_cons_zero, List.set_cons_succ]
      refine wpAnyF_take (i := 7) (oi := ⟨_, _, _, _, _, _⟩) (v := ?_) rfl (by kernel_rfl) (by kernel_rfl) (by kernel_rfl) (by kernel_rfl) (by kernel_rfl) (fun _ _ _ h => h) (Or.inl ⟨by rfl, ?_⟩) (by assumption) ?_
      rotate_left 1
      · intro W' hSw
        go_simp
        try with_reducible rfl
      try simp only [Act.put, List.setIfInBounds_toArray, List.set_cons_zero, List.set_cons_succ]
      refine wpAnyF_take (i := 8) (oi := ⟨_, _, _, _, _, _⟩) (v := ?_) rfl (by kernel_rfl) (by kernel_rfl) (by kernel_rfl) (by kernel_rfl) (by kernel_rfl) (fun _ _ _ h => h) (Or.inl ⟨by rfl, ?_⟩) (by assumption) ?_
      rotate_left 1
      · intro W' hSw
        go_simp
        try with_reducible rfl
      try simp only [Act.put, List.setIfInBounds_toArray, List.set_cons_zero, List.set_cons_succ]
      refine wpAnyF_take (i := 9) (oi := ⟨_, _, _, _, _, _⟩) (v := undef) rfl (by kernel_rfl) (by kernel_rfl) (by kernel_rfl) (by kernel_rfl) (by kernel_rfl) (fun _ _ _ h => h) (Or.inr ⟨by rfl, rfl⟩) (by assumption) ?_
      try simp only [Act.put, List.setIfInBounds_toArray, List.set_cons_zero, List.set_cons_succ]
      refine wpAnyF_take (i := 10) (oi := ⟨_, _, _, _, _, _⟩) (v := undef) rfl (by kernel_rfl) (by kernel_rfl) (by kernel_rfl) (by kernel_rfl) (by kernel_rfl) (fun _ _ _ h => h) (Or.inr ⟨by rfl, rfl⟩) (by assumption) ?_
      try simp only [Act.put, List.setIfInBounds_toArray, List.set_cons_zero, List.set_cons_succ]
      refine wpAnyF_take (i := 11) (oi := ⟨_, _, _, _, _, _⟩) (v := undef) rfl (by kernel_rfl) (by kernel_rfl) (by kernel_rfl) (by kernel_rfl) (by kernel_rfl) (fun _ _ _ h => h) (Or.inr ⟨by rfl, rfl⟩) (by assumption) ?_
      try simp only [Act.put, List.setIfInBounds_toArray, List.set_cons_zero, List.set_cons_succ]
      refine wpAnyF_take (i := 12) (oi := ⟨_, _, _, _, _, _⟩) (v := undef) rfl (by kernel_rfl) (by kernel_rfl) (by kernel_rfl) (by kernel_rfl) (by kernel_rfl) (fun _ _ _ h => h) (Or.inr ⟨by rfl, rfl⟩) (by assumption) ?_
      try simp only [Act.put, List.setIfInBounds_toArray, List.set_cons_zero, List.set_cons_succ]
      refine wpAnyF_take (i := 13) (oi := ⟨_, _, _, _, _, _⟩) (v := undef) rfl (by kernel_rfl) (by kernel_rfl) (by kernel_rfl) (by kernel_rfl) (by kernel_rfl) (fun _ _ _ h => h) (Or.inr ⟨by rfl, rfl⟩) (by assumption) ?_
      try simp only [Act.put, List.setIfInBounds_toArray, List.set_cons_zero, List.set_cons_succ]
      refine wpAnyF_take (i := 14) (oi := ⟨_, _, _, _, _, _⟩) (v := undef) rfl (by kernel_rfl) (by kernel_rfl) (by kernel_rfl) (by kernel_rfl) (by kernel_rfl) (fun _ _ _ h => h) (Or.inr ⟨by rfl, rfl⟩) (by assumption) ?_
      try simp only [Act.put, List.setIfInBounds_toArray, List.set_cons_zero, List.set_cons_succ]
      refine wpAnyF_take (i := 15) (oi := ⟨_, _, _, _, _, _⟩) (v := undef) rfl (by kernel_rfl) (by kernel_rfl) (by kernel_rfl) (by kernel_rfl) (by kernel_rfl) (fun _ _ _ h => h) (Or.inr ⟨by rfl, rfl⟩) (by assumption) ?_
      try simp only [Act.put, List.setIfInBounds_toArray, List.set_cons_zero, List.set_cons_succ]
      refine wpAnyF_take (i := 16) (oi := ⟨_, _, _, _, _, _⟩) (v := undef) rfl (by kernel_rfl) (by kernel_rfl) (by kernel_rfl) (by kernel_rfl) (by kernel_rfl) (fun _ _ _ h => h) (Or.inr ⟨by rfl, rfl⟩) (by assumption) ?_
      try simp only [Act.put, List.setIfInBounds_toArray, List.set_cons_zero, List.set_cons_succ]
      refine wpAnyF_take (i := 17) (oi := ⟨_, _, _, _, _, _⟩) (v := undef) rfl (by kernel_rfl) (by kernel_rfl) (by kernel_rfl) (by kernel_rfl) (by kernel_rfl) (fun _ _ _ h => h) (Or.inr ⟨by rfl, rfl⟩) (by assumption) ?_
      try simp only [Act.put, List.setIfInBounds_toArray, List.set_cons_zero, List.set_cons_succ]
      refine wpAnyF_take (i := 18) (oi := ⟨_, _, _, _, _, _⟩) (v := undef) rfl (by kernel_rfl) (by kernel_rfl) (by kernel_rfl) (by kernel_rfl) (by kernel_rfl) (fun _ _ _ h => h) (Or.inr ⟨by rfl, rfl⟩) (by assumption) ?_
      try simp only [Act.put, List.setIfInBounds_toArray, List.set_cons_zero, List.set_cons_succ]
      refine wpAnyF_last (o := ⟨_, _, _, _, _, _⟩) (by kernel_rfl) rfl (fun K' hK => ?_)
      go_simp
      refine hK.out _ _ ?_
      clear hK K'
      try simp only [Act.put, List.setIfInBounds_toArray, List.set_cons_zero, List.set_cons_succ]
      refine wpAnyF_done (by kernel_rfl) ?_ _
      clear hHeld
      have HJ : Hid (LwS V0' g c (RcM c) bp (i + 1) V.drew) := LwS.mk (HI.out.ext (extends_drewN (ext_Ext (Ext.refl V)) 1)) (by rw [← HPL2.out]; simp [HM.out.1]) HH.out.1.1 HH.out.1.2 (by have := HN.out.2; omega) (by have := HN.out.2; omega) HH.out.2.1.1 HH.out.2.1.2
      have hi9 := HI9.out
      go_wp2_with fail
      refine ⟨rfl, rfl, ⟨rfl, rfl, rfl, i + 1, HN.out.1, ?_, HJ⟩, ?_⟩
      · show Value.int .i64 _ = _
        go_num
      · show len - (intOf (Value.int .i64 _)).toNat < len - (intOf (F 22)).toNat
        rw [H22.out]
        have := HN.out.1
        simp [intOf]; omega
    have hjn' : (j : Int) < 4 := by omega
    have q0 : (0 : Int) ≤ (j : Int) := by omega
    have q2 : ((j : Int)).toNat = j := by omega
    have hj9 : (j : Int) + 1 ≤ 1000 := by omega
    have hj3 : j ≤ 3 := by omega
    obtain ⟨sv, hsv⟩ : ∃ sv, sv = v.supply[j] := ⟨_, rfl⟩
    obtain ⟨sw, hsw⟩ : ∃ sw, sw = w.supply[j] := ⟨_, rfl⟩
    obtain ⟨su, hsu⟩ : ∃ su, su = (U)[j] := ⟨_, rfl⟩
    obtain ⟨sd, hsd⟩ : ∃ sd, sd = (D)[j] := ⟨_, rfl⟩
    have heq : sw + sd = sv + su := by rw [hsv, hsw, hsu, hsd]; exact HEQ.out j hjn
    have n1 : nth v.enc (321 + j) = some (.int .u64 (w64 sv)) := by rw [hsv]; exact View.supply_at v j hjn
    have n2 : nth w.enc (321 + j) = some (.int .u64 (w64 sw)) := by rw [hsw]; exact View.supply_at w j hjn
    have n3 : nth (arr u64v U) j = some (.int .u64 (w64 su)) := by rw [hsu]; exact nth_arr_u64 _ hjn
    have n4 : nth (arr u64v D) j = some (.int .u64 (w64 sd)) := by rw [hsd]; exact nth_arr_u64 _ hjn
    have a1 : IntKind.u64.wrap (w64 sw + w64 sd) = w64 (sw + sd) := x64_add _ _
    have a2 : IntKind.u64.wrap (w64 sv + w64 su) = w64 (sw + sd) := by rw [heq]; exact x64_add _ _
    have l3 : (arr u64v U).length = 4 := length_arr _ _
    have l4 : (arr u64v D).length = 4 := length_arr _ _
    have HK : Hid (∀ k, TwI V0' c1 c2 ((bu, arr u64v U) :: (bd, arr u64v D) :: bs) sr.2.1 sr.2.2 (V.drewN k)) := fun k => HI.out.ext (extends_drewN (ext_Ext (Ext.refl V)) k)
    have HJN := hid_of hjn
    obtain ⟨UE, hUE⟩ : ∃ UE, UE = arr u64v (U) := ⟨_, rfl⟩
    obtain ⟨DE, hDE⟩ : ∃ DE, DE = arr u64v (D) := ⟨_, rfl⟩
    rw [← hUE] at ku n3 l3
    rw [← hDE] at kd n4 l4
    clear hUE hDE
    clear hjn hj heq hsv hsw hsu hsd HI ka ko
    go_upto_region 30 with fail
    repeat go_step
    go_quiet (fail)
    go_wp2_with fail
    refine ⟨rfl, rfl, ⟨rfl, rfl, rfl, rfl, rfl, rfl, rfl, rfl, rfl, rfl, j + 1, HJN.out, ?_, HK.out _⟩, ?_⟩
    · show Value.int .i64 _ = _
      go_num
    · show 4 - (intOf (Value.int .i64 _)).toNat < 4 - (intOf (G 13)).toNat
      rw [H13.out]
      have := HJN.out
      simp [intOf]; omega
  clear HTT HONE
  have hjn' : (j : Int) < (rn : Int) := by omega
  have q0 : (0 : Int) ≤ (j : Int) := by omega
  have q2 : ((j : Int)).toNat = j := by omega
  obtain ⟨r, hr⟩ : ∃ r, sr.1.rs[j]? = some r := ⟨_, List.getElem?_eq_getElem (by rw [HRN.out.1]; exact hjn)⟩
  have HRM := hid_of (HH.out.2.2 r (List.mem_of_getElem? hr))
  have HRR := hid_of hr
  obtain ⟨bb, CC, e1, k1, l1, s1⟩ := (h13.rowrw (bx' := bs) HM.out.2.2.2.2.2 (fun p hp => by simp [hp])).2 j r hr
  have e1' : ra = some ⟨bb, 0, none⟩ := e1
  subst e1'
  have l1' : rn * 120 ≤ CC.length := l1
  have g1 : j * 120 + 120 ≤ CC.length := Nat.le_trans (by rw [← Nat.succ_mul]; exact Nat.mul_le_mul_right _ hjn) l1'
  have hj9 : (j : Int) + 1 ≤ 9223372036854775807 := by have := HRN.out.2; omega
  have h2 := h13.box r.enc 120
  obtain ⟨V2, hV2⟩ : ∃ V2, V2 = V.alloc (.cells r.enc.toArray 120) := ⟨_, rfl⟩
  obtain ⟨br, hbr⟩ : ∃ br, br = V.heap.size := ⟨_, rfl⟩
  have HBR2 : Hid (br ≠ bu ∧ br ≠ bd) := by
    have e1 := TwI.lt h13 (p := (bu, arr u64v U)) (by simp)
    have e2 := TwI.lt h13 (p := (bd, arr u64v D)) (by simp)
    have e1' : bu < V.heap.size := e1
    have e2' : bd < V.heap.size := e2
    rw [Hid, hbr]
    omega
  rw [← hV2, ← hbr] at h2
  have HV2 := hid_of hV2
  have HBR := hid_of hbr
  have HJN : Hid (j < rn) := hjn
  have HJ9 := hid_of hj9
  have HU := hid_of hU
  have HD := hid_of hD
  have kr := (h2.at (b := br) (C := r.enc) (by simp)).1
  have H2 := hid_of h2
  clear hV2 hbr h2 hjn hj hr e1 l1 l1' h13 hj9 hU hD
  go_upto_region 22 with fail
  rw [← HV2.out, ← HBR.out]
  clear HV2 HBR k1 s1 g1 hjn' q0 q2
  by_cases hy1 : r.hasTook = true
  rotate_left 1
  · have hxf : r.hasTook = false := by simpa using hy1
    have hup := HU.out.stay HRR.out (fun e => hy1 e.1)
    clear hy1
    have kr := (H2.out.at (b := br) (C := r.enc) (by simp)).1
    by_cases hy1 : r.hasSent = true
    rotate_left 1
    · have hyf : r.hasSent = false := by simpa using hy1
      have hdn := HD.out.stay HRR.out (fun e => hy1 e.1)
      clear hy1
      have HJ3 : Hid (∃ U D : Vector UInt64 4, UpV (sr.1.rs.take (j + 1)) U ∧ DnV (sr.1.rs.take (j + 1)) D ∧ TwI V0' c1 c2 ((bu, arr u64v U) :: (bd, arr u64v D) :: bs) sr.2.1 sr.2.2 V2) := ⟨U, D, hup, hdn, H2.out.sub (fun p hp => by
        simp only [List.mem_cons] at hp ⊢
        rcases hp with rfl | rfl | hp <;> simp [*])⟩
      have hj9 := HJ9.out
      go_wp2_with fail
      refine ⟨rfl, rfl, ⟨rfl, rfl, rfl, rfl, rfl, rfl, rfl, rfl, rfl, rfl, rfl, rfl, j + 1, HJN.out, ?_, HJ3⟩, ?_⟩
      · show Value.int .i64 _ = _
        go_num
      · show rn - (intOf (Value.int .i64 _)).toNat < rn - (intOf (G 58)).toNat
        rw [H58.out]
        have := HJN.out
        simp [intOf]; omega
    by_cases hy2 : r.sent.kind = 2
    rotate_left 1
    · have hyk : (w8 r.sent.kind == 2) = false := by
        have : ¬ w8 r.sent.kind = 2 := fun e => hy2 (w8_inj (b := 2) e)
        simpa using this
      have hdn := HD.out.stay HRR.out (fun e => hy2 e.2)
      clear hy2
      have HJ3 : Hid (∃ U D : Vector UInt64 4, UpV (sr.1.rs.take (j + 1)) U ∧ DnV (sr.1.rs.take (j + 1)) D ∧ TwI V0' c1 c2 ((bu, arr u64v U) :: (bd, arr u64v D) :: bs) sr.2.1 sr.2.2 V2) := ⟨U, D, hup, hdn, H2.out.sub (fun p hp => by
        simp only [List.mem_cons] at hp ⊢
        rcases hp with rfl | rfl | hp <;> simp [*])⟩
      have hj9 := HJ9.out
      go_wp2_with fail
      refine ⟨rfl, rfl, ⟨rfl, rfl, rfl, rfl, rfl, rfl, rfl, rfl, rfl, rfl, rfl, rfl, j + 1, HJN.out, ?_, HJ3⟩, ?_⟩
      · show Value.int .i64 _ = _
        go_num
      · show rn - (intOf (Value.int .i64 _)).toNat < rn - (intOf (G 58)).toNat
        rw [H58.out]
        have := HJN.out
        simp [intOf]; omega
    have hyk : (w8 r.sent.kind == 2) = true := by rw [hy2]; rfl
    have hmo := HRM.out.1 hy1
    have htk : r.sent.token.toNat < 4 := val_lt (hmo.2.2.brn hy2).1
    obtain ⟨m, hm⟩ : ∃ m, m = r.sent.token.toNat := ⟨_, rfl⟩
    have hm4 : m < 4 := by omega
    have hm3 : m ≤ 3 := by omega
    have m0 : (0 : Int) ≤ w8 r.sent.token := by unfold w8; omega
    have m1 : w8 r.sent.token < 4 := by unfold w8; omega
    have m2 : (w8 r.sent.token).toNat = m := by unfold w8; omega
    have hgo := DnV.go HD.out HRR.out ⟨hy1, hy2⟩ hm.symm hm4
    obtain ⟨u0, hu0⟩ : ∃ u0, u0 = D[m] := ⟨_, rfl⟩
    obtain ⟨D2, hV2⟩ : ∃ D2, D2 = D.set m (D[m] + r.sent.amount) hm4 := ⟨_, rfl⟩
    rw [← hV2] at hgo
    have HD2 := hid_of hgo
    have n3 : nth (arr u64v D) m = some (.int .u64 (w64 u0)) := by rw [hu0]; exact nth_arr_u64 _ hm4
    have p3 : splice (arr u64v D) m [.int .u64 (w64 (u0 + r.sent.amount))] = arr u64v D2 := by rw [put_arr_u64 _ _ hm4, hV2, hu0]
    have had : IntKind.u64.wrap (w64 u0 + w64 r.sent.amount) = w64 (u0 + r.sent.amount) := x64_add _ _
    have lt3 : (arr u64v D).length = 4 := length_arr _ _
    have kq := (H2.out.at (b := bd) (C := arr u64v D) (by simp)).1
    have fq := (H2.out.at (b := bd) (C := arr u64v D) (by simp)).2
    have H4 : Hid (TwI V0' c1 c2 ((bd, arr u64v D2) :: (bu, arr u64v U) :: (br, r.enc) :: bs) sr.2.1 sr.2.2 (put V2.drew bd (arr u64v D2))) := ((H2.out.ext (extends_drewN (ext_Ext (Ext.refl V2)) 1)).sub (bx' := (bd, arr u64v D) :: (bu, arr u64v U) :: (br, r.enc) :: bs) (fun p hp => by
      simp only [List.mem_cons] at hp ⊢
      rcases hp with rfl | rfl | rfl | hp <;> simp [*])).put (fun p hp => by
      simp only [List.mem_cons] at hp
      rcases hp with rfl | rfl | hp
      · exact HUD.out.1
      · exact HBR2.out.2
      · have := HLT.out p hp
        have := HUD.out.2
        omega)
    generalize arr u64v D = QE at kq n3 p3 lt3
    obtain ⟨QE2, hQE2⟩ : ∃ QE2, QE2 = arr u64v D2 := ⟨_, rfl⟩
    rw [← hQE2] at p3 H4
    have HQE := hid_of hQE2
    clear hmo htk hm hgo hu0 hV2 hQE2 hm4 hy2
    go_upto_region 25 with fail
    repeat go_step
    refine wp_region_F 10 (fun W' => W' = V2.drew) (by kernel_rfl) rfl (fun hHeld => ?_)
    refine wpAnyF_take (i := 0) (oi := ⟨_, _, _, _, _, _⟩) (v := ?_) rfl (by kernel_rfl) (by kernel_rfl) (by kernel_rfl) (by kernel_rfl) (by kernel_rfl) (fun _ _ _ h => h) (Or.inl ⟨by rfl, ?_⟩) (by assumption) ?_
    rotate_left 1
    · intro W' hSw
      subst hSw
      go_simp
      try with_reducible rfl
    try simp only [Act.put, List.setIfInBounds_toArray, List.set_cons_zero, List.set_cons_succ]
    refine wpAnyF_take (i := 1) (oi := ⟨_, _, _, _, _, _⟩) (v := ?_) rfl (by kernel_rfl) (by kernel_rfl) (by kernel_rfl) (by kernel_rfl) (by kernel_rfl) (fun _ _ _ h => h) (Or.inl ⟨by rfl, ?_⟩) (by assumption) ?_
    rotate_left 1
    · intro W' hSw
      subst hSw
      go_simp
      try with_reducible rfl
    try simp only [Act.put, List.setIfInBounds_toArray, List.set_cons_zero, List.set_cons_succ]
    refine wpAnyF_take (i := 2) (oi := ⟨_, _, _, _, _, _⟩) (v := ?_) rfl (by kernel_rfl) (by kernel_rfl) (by kernel_rfl) (by kernel_rfl) (by kernel_rfl) (fun _ _ _ h => h) (Or.inl ⟨by rfl, ?_⟩) (by assumption) ?_
    rotate_left 1
    · intro W' hSw
      subst hSw
      go_simp
      try with_reducible rfl
    try simp only [Act.put, List.setIfInBounds_toArray, List.set_cons_zero, List.set_cons_succ]
    refine wpAnyF_take (i := 3) (oi := ⟨_, _, _, _, _, _⟩) (v := ?_) rfl (by kernel_rfl) (by kernel_rfl) (by kernel_rfl) (by kernel_rfl) (by kernel_rfl) (fun _ _ _ h => h) (Or.inl ⟨by rfl, ?_⟩) (by assumption) ?_
    rotate_left 1
    · intro W' hSw
      subst hSw
      go_simp
      try with_reducible rfl
    try simp only [Act.put, List.setIfInBounds_toArray, List.set_cons_zero, List.set_cons_succ]
    refine wpAnyF_take (i := 4) (oi := ⟨_, _, _, _, _, _⟩) (v := ?_) rfl (by kernel_rfl) (by kernel_rfl) (by kernel_rfl) (by kernel_rfl) (by kernel_rfl) (fun _ _ _ h => h) (Or.inl ⟨by rfl, ?_⟩) (by assumption) ?_
    rotate_left 1
    · intro W' hSw
      subst hSw
      go_simp
      try with_reducible rfl
    try simp only [Act.put, List.setIfInBounds_toArray, List.set_cons_zero, List.set_cons_succ]
    refine wpAnyF_take (i := 5) (oi := ⟨_, _, _, _, _, _⟩) (v := ?_) rfl (by kernel_rfl) (by kernel_rfl) (by kernel_rfl) (by kernel_rfl) (by kernel_rfl) (fun _ _ _ h => h) (Or.inl ⟨by rfl, ?_⟩) (by assumption) ?_
    rotate_left 1
    · intro W' hSw
      subst hSw
      go_simp
      try with_reducible rfl
    try simp only [Act.put, List.setIfInBounds_toArray, List.set_cons_zero, List.set_cons_succ]
    refine wpAnyF_take (i := 6) (oi := ⟨_, _, _, _, _, _⟩) (v := ?_) rfl (by kernel_rfl) (by kernel_rfl) (by kernel_rfl) (by kernel_rfl) (by kernel_rfl) (fun _ _ _ h => h) (Or.inl ⟨by rfl, ?_⟩) (by assumption) ?_
    rotate_left 1
    · intro W' hSw
      subst hSw
      go_simp
      try with_reducible rfl
    try simp only [Act.put, List.setIfInBounds_toArray, List.set_cons_zero, List.set_cons_succ]
    refine wpAnyF_take (i := 7) (oi := ⟨_, _, _, _, _, _⟩) (v := ?_) rfl (by kernel_rfl) (by kernel_rfl) (by kernel_rfl) (by kernel_rfl) (by kernel_rfl) (fun _ _ _ h => h) (Or.inl ⟨by rfl, ?_⟩) (by assumption) ?_
    rotate_left 1
    · intro W' hSw
      subst hSw
      go_simp
      try with_reducible rfl
    try simp only [Act.put, List.setIfInBounds_toArray, List.set_cons_zero, List.set_cons_succ]
    refine wpAnyF_take (i := 8) (oi := ⟨_, _, _, _, _, _⟩) (v := ?_) rfl (by kernel_rfl) (by kernel_rfl) (by kernel_rfl) (by kernel_rfl) (by kernel_rfl) (fun _ _ _ h => h) (Or.inl ⟨by rfl, ?_⟩) (by assumption) ?_
    rotate_left 1
    · intro W' hSw
      subst hSw
      go_simp
      try with_reducible rfl
    try simp only [Act.put, List.setIfInBounds_toArray, List.set_cons_zero, List.set_cons_succ]
    refine wpAnyF_take (i := 9) (oi := ⟨_, _, _, _, _, _⟩) (v := ?_) rfl (by kernel_rfl) (by kernel_rfl) (by kernel_rfl) (by kernel_rfl) (by kernel_rfl) (fun _ _ _ h => h) (Or.inl ⟨by rfl, ?_⟩) (by assumption) ?_
    rotate_left 1
    · intro W' hSw
      subst hSw
      go_simp
      try with_reducible rfl
    try simp only [Act.put, List.setIfInBounds_toArray, List.set_cons_zero, List.set_cons_succ]
    refine wpAnyF_last (o := ⟨_, _, _, _, _, _⟩) (by kernel_rfl) rfl (fun K' hK => ?_)
    go_simp
    refine hK.out _ _ ?_
    clear hK K'
    try simp only [Act.put, List.setIfInBounds_toArray, List.set_cons_zero, List.set_cons_succ]
    refine wpAnyF_done (by kernel_rfl) ?_ _
    clear hHeld kq fq n3 p3 lt3 had m0 m1 m2 hm3 hy1
    have hdn := HD2.out
    have H4x := H4.out
    rw [HQE.out] at H4x ⊢
    have HJ3 : Hid (∃ U D : Vector UInt64 4, UpV (sr.1.rs.take (j + 1)) U ∧ DnV (sr.1.rs.take (j + 1)) D ∧ TwI V0' c1 c2 ((bu, arr u64v U) :: (bd, arr u64v D) :: bs) sr.2.1 sr.2.2 _) := ⟨U, D2, hup, hdn, H4x.sub (fun p hp => by
      simp only [List.mem_cons] at hp ⊢
      rcases hp with rfl | rfl | hp <;> simp [*])⟩
    have hj9 := HJ9.out
    go_wp2_with fail
    refine ⟨rfl, rfl, ⟨rfl, rfl, rfl, rfl, rfl, rfl, rfl, rfl, rfl, rfl, rfl, rfl, j + 1, HJN.out, ?_, HJ3⟩, ?_⟩
    · show Value.int .i64 _ = _
      go_num
    · show rn - (intOf (Value.int .i64 _)).toNat < rn - (intOf (G 58)).toNat
      rw [H58.out]
      have := HJN.out
      simp [intOf]; omega
  by_cases hy2 : r.took.kind = 2
  rotate_left 1
  · have hxk : (w8 r.took.kind == 2) = false := by
      have : ¬ w8 r.took.kind = 2 := fun e => hy2 (w8_inj (b := 2) e)
      simpa using this
    have hup := HU.out.stay HRR.out (fun e => hy2 e.2)
    clear hy2
    have kr := (H2.out.at (b := br) (C := r.enc) (by simp)).1
    by_cases hy1 : r.hasSent = true
    rotate_left 1
    · have hyf : r.hasSent = false := by simpa using hy1
      have hdn := HD.out.stay HRR.out (fun e => hy1 e.1)
      clear hy1
      have HJ3 : Hid (∃ U D : Vector UInt64 4, UpV (sr.1.rs.take (j + 1)) U ∧ DnV (sr.1.rs.take (j + 1)) D ∧ TwI V0' c1 c2 ((bu, arr u64v U) :: (bd, arr u64v D) :: bs) sr.2.1 sr.2.2 V2) := ⟨U, D, hup, hdn, H2.out.sub (fun p hp => by
        simp only [List.mem_cons] at hp ⊢
        rcases hp with rfl | rfl | hp <;> simp [*])⟩
      have hj9 := HJ9.out
      go_wp2_with fail
      refine ⟨rfl, rfl, ⟨rfl, rfl, rfl, rfl, rfl, rfl, rfl, rfl, rfl, rfl, rfl, rfl, j + 1, HJN.out, ?_, HJ3⟩, ?_⟩
      · show Value.int .i64 _ = _
        go_num
      · show rn - (intOf (Value.int .i64 _)).toNat < rn - (intOf (G 58)).toNat
        rw [H58.out]
        have := HJN.out
        simp [intOf]; omega
    by_cases hy2 : r.sent.kind = 2
    rotate_left 1
    · have hyk : (w8 r.sent.kind == 2) = false := by
        have : ¬ w8 r.sent.kind = 2 := fun e => hy2 (w8_inj (b := 2) e)
        simpa using this
      have hdn := HD.out.stay HRR.out (fun e => hy2 e.2)
      clear hy2
      have HJ3 : Hid (∃ U D : Vector UInt64 4, UpV (sr.1.rs.take (j + 1)) U ∧ DnV (sr.1.rs.take (j + 1)) D ∧ TwI V0' c1 c2 ((bu, arr u64v U) :: (bd, arr u64v D) :: bs) sr.2.1 sr.2.2 V2) := ⟨U, D, hup, hdn, H2.out.sub (fun p hp => by
        simp only [List.mem_cons] at hp ⊢
        rcases hp with rfl | rfl | hp <;> simp [*])⟩
      have hj9 := HJ9.out
      go_wp2_with fail
      refine ⟨rfl, rfl, ⟨rfl, rfl, rfl, rfl, rfl, rfl, rfl, rfl, rfl, rfl, rfl, rfl, j + 1, HJN.out, ?_, HJ3⟩, ?_⟩
      · show Value.int .i64 _ = _
        go_num
      · show rn - (intOf (Value.int .i64 _)).toNat < rn - (intOf (G 58)).toNat
        rw [H58.out]
        have := HJN.out
        simp [intOf]; omega
    have hyk : (w8 r.sent.kind == 2) = true := by rw [hy2]; rfl
    have hmo := HRM.out.1 hy1
    have htk : r.sent.token.toNat < 4 := val_lt (hmo.2.2.brn hy2).1
    obtain ⟨m, hm⟩ : ∃ m, m = r.sent.token.toNat := ⟨_, rfl⟩
    have hm4 : m < 4 := by omega
    have hm3 : m ≤ 3 := by omega
    have m0 : (0 : Int) ≤ w8 r.sent.token := by unfold w8; omega
    have m1 : w8 r.sent.token < 4 := by unfold w8; omega
    have m2 : (w8 r.sent.token).toNat = m := by unfold w8; omega
    have hgo := DnV.go HD.out HRR.out ⟨hy1, hy2⟩ hm.symm hm4
    obtain ⟨u0, hu0⟩ : ∃ u0, u0 = D[m] := ⟨_, rfl⟩
    obtain ⟨D2, hV2⟩ : ∃ D2, D2 = D.set m (D[m] + r.sent.amount) hm4 := ⟨_, rfl⟩
    rw [← hV2] at hgo
    have HD2 := hid_of hgo
    have n3 : nth (arr u64v D) m = some (.int .u64 (w64 u0)) := by rw [hu0]; exact nth_arr_u64 _ hm4
    have p3 : splice (arr u64v D) m [.int .u64 (w64 (u0 + r.sent.amount))] = arr u64v D2 := by rw [put_arr_u64 _ _ hm4, hV2, hu0]
    have had : IntKind.u64.wrap (w64 u0 + w64 r.sent.amount) = w64 (u0 + r.sent.amount) := x64_add _ _
    have lt3 : (arr u64v D).length = 4 := length_arr _ _
    have kq := (H2.out.at (b := bd) (C := arr u64v D) (by simp)).1
    have fq := (H2.out.at (b := bd) (C := arr u64v D) (by simp)).2
    have H4 : Hid (TwI V0' c1 c2 ((bd, arr u64v D2) :: (bu, arr u64v U) :: (br, r.enc) :: bs) sr.2.1 sr.2.2 (put V2.drew bd (arr u64v D2))) := ((H2.out.ext (extends_drewN (ext_Ext (Ext.refl V2)) 1)).sub (bx' := (bd, arr u64v D) :: (bu, arr u64v U) :: (br, r.enc) :: bs) (fun p hp => by
      simp only [List.mem_cons] at hp ⊢
      rcases hp with rfl | rfl | rfl | hp <;> simp [*])).put (fun p hp => by
      simp only [List.mem_cons] at hp
      rcases hp with rfl | rfl | hp
      · exact HUD.out.1
      · exact HBR2.out.2
      · have := HLT.out p hp
        have := HUD.out.2
        omega)
    generalize arr u64v D = QE at kq n3 p3 lt3
    obtain ⟨QE2, hQE2⟩ : ∃ QE2, QE2 = arr u64v D2 := ⟨_, rfl⟩
    rw [← hQE2] at p3 H4
    have HQE := hid_of hQE2
    clear hmo htk hm hgo hu0 hV2 hQE2 hm4 hy2
    go_upto_region 25 with fail
    repeat go_step
    refine wp_region_F 10 (fun W' => W' = V2.drew) (by kernel_rfl) rfl (fun hHeld => ?_)
    refine wpAnyF_take (i := 0) (oi := ⟨_, _, _, _, _, _⟩) (v := ?_) rfl (by kernel_rfl) (by kernel_rfl) (by kernel_rfl) (by kernel_rfl) (by kernel_rfl) (fun _ _ _ h => h) (Or.inl ⟨by rfl, ?_⟩) (by assumption) ?_
    rotate_left 1
    · intro W' hSw
      subst hSw
      go_simp
      try with_reducible rfl
    try simp only [Act.put, List.setIfInBounds_toArray, List.set_cons_zero, List.set_cons_succ]
    refine wpAnyF_take (i := 1) (oi := ⟨_, _, _, _, _, _⟩) (v := ?_) rfl (by kernel_rfl) (by kernel_rfl) (by kernel_rfl) (by kernel_rfl) (by kernel_rfl) (fun _ _ _ h => h) (Or.inl ⟨by rfl, ?_⟩) (by assumption) ?_
    rotate_left 1
    · intro W' hSw
      subst hSw
      go_simp
      try with_reducible rfl
    try simp only [Act.put, List.setIfInBounds_toArray, List.set_cons_zero, List.set_cons_succ]
    refine wpAnyF_take (i := 2) (oi := ⟨_, _, _, _, _, _⟩) (v := ?_) rfl (by kernel_rfl) (by kernel_rfl) (by kernel_rfl) (by kernel_rfl) (by kernel_rfl) (fun _ _ _ h => h) (Or.inl ⟨by rfl, ?_⟩) (by assumption) ?_
    rotate_left 1
    · intro W' hSw
      subst hSw
      go_simp
      try with_reducible rfl
    try simp only [Act.put, List.setIfInBounds_toArray, List.set_cons_zero, List.set_cons_succ]
    refine wpAnyF_take (i := 3) (oi := ⟨_, _, _, _, _, _⟩) (v := ?_) rfl (by kernel_rfl) (by kernel_rfl) (by kernel_rfl) (by kernel_rfl) (by kernel_rfl) (fun _ _ _ h => h) (Or.inl ⟨by rfl, ?_⟩) (by assumption) ?_
    rotate_left 1
    · intro W' hSw
      subst hSw
      go_simp
      try with_reducible rfl
    try simp only [Act.put, List.setIfInBounds_toArray, List.set_cons_zero, List.set_cons_succ]
    refine wpAnyF_take (i := 4) (oi := ⟨_, _, _, _, _, _⟩) (v := ?_) rfl (by kernel_rfl) (by kernel_rfl) (by kernel_rfl) (by kernel_rfl) (by kernel_rfl) (fun _ _ _ h => h) (Or.inl ⟨by rfl, ?_⟩) (by assumption) ?_
    rotate_left 1
    · intro W' hSw
      subst hSw
      go_simp
      try with_reducible rfl
    try simp only [Act.put, List.setIfInBounds_toArray, List.set_cons_zero, List.set_cons_succ]
    refine wpAnyF_take (i := 5) (oi := ⟨_, _, _, _, _, _⟩) (v := ?_) rfl (by kernel_rfl) (by kernel_rfl) (by kernel_rfl) (by kernel_rfl) (by kernel_rfl) (fun _ _ _ h => h) (Or.inl ⟨by rfl, ?_⟩) (by assumption) ?_
    rotate_left 1
    · intro W' hSw
      subst hSw
      go_simp
      try with_reducible rfl
    try simp only [Act.put, List.setIfInBounds_toArray, List.set_cons_zero, List.set_cons_succ]
    refine wpAnyF_take (i := 6) (oi := ⟨_, _, _, _, _, _⟩) (v := ?_) rfl (by kernel_rfl) (by kernel_rfl) (by kernel_rfl) (by kernel_rfl) (by kernel_rfl) (fun _ _ _ h => h) (Or.inl ⟨by rfl, ?_⟩) (by assumption) ?_
    rotate_left 1
    · intro W' hSw
      subst hSw
      go_simp
      try with_reducible rfl
    try simp only [Act.put, List.setIfInBounds_toArray, List.set_cons_zero, List.set_cons_succ]
    refine wpAnyF_take (i := 7) (oi := ⟨_, _, _, _, _, _⟩) (v := ?_) rfl (by kernel_rfl) (by kernel_rfl) (by kernel_rfl) (by kernel_rfl) (by kernel_rfl) (fun _ _ _ h => h) (Or.inl ⟨by rfl, ?_⟩) (by assumption) ?_
    rotate_left 1
    · intro W' hSw
      subst hSw
      go_simp
      try with_reducible rfl
    try simp only [Act.put, List.setIfInBounds_toArray, List.set_cons_zero, List.set_cons_succ]
    refine wpAnyF_take (i := 8) (oi := ⟨_, _, _, _, _, _⟩) (v := ?_) rfl (by kernel_rfl) (by kernel_rfl) (by kernel_rfl) (by kernel_rfl) (by kernel_rfl) (fun _ _ _ h => h) (Or.inl ⟨by rfl, ?_⟩) (by assumption) ?_
    rotate_left 1
    · intro W' hSw
      subst hSw
      go_simp
      try with_reducible rfl
    try simp only [Act.put, List.setIfInBounds_toArray, List.set_cons_zero, List.set_cons_succ]
    refine wpAnyF_take (i := 9) (oi := ⟨_, _, _, _, _, _⟩) (v := ?_) rfl (by kernel_rfl) (by kernel_rfl) (by kernel_rfl) (by kernel_rfl) (by kernel_rfl) (fun _ _ _ h => h) (Or.inl ⟨by rfl, ?_⟩) (by assumption) ?_
    rotate_left 1
    · intro W' hSw
      subst hSw
      go_simp
      try with_reducible rfl
    try simp only [Act.put, List.setIfInBounds_toArray, List.set_cons_zero, List.set_cons_succ]
    refine wpAnyF_last (o := ⟨_, _, _, _, _, _⟩) (by kernel_rfl) rfl (fun K' hK => ?_)
    go_simp
    refine hK.out _ _ ?_
    clear hK K'
    try simp only [Act.put, List.setIfInBounds_toArray, List.set_cons_zero, List.set_cons_succ]
    refine wpAnyF_done (by kernel_rfl) ?_ _
    clear hHeld kq fq n3 p3 lt3 had m0 m1 m2 hm3 hy1
    have hdn := HD2.out
    have H4x := H4.out
    rw [HQE.out] at H4x ⊢
    have HJ3 : Hid (∃ U D : Vector UInt64 4, UpV (sr.1.rs.take (j + 1)) U ∧ DnV (sr.1.rs.take (j + 1)) D ∧ TwI V0' c1 c2 ((bu, arr u64v U) :: (bd, arr u64v D) :: bs) sr.2.1 sr.2.2 _) := ⟨U, D2, hup, hdn, H4x.sub (fun p hp => by
      simp only [List.mem_cons] at hp ⊢
      rcases hp with rfl | rfl | hp <;> simp [*])⟩
    have hj9 := HJ9.out
    go_wp2_with fail
    refine ⟨rfl, rfl, ⟨rfl, rfl, rfl, rfl, rfl, rfl, rfl, rfl, rfl, rfl, rfl, rfl, j + 1, HJN.out, ?_, HJ3⟩, ?_⟩
    · show Value.int .i64 _ = _
      go_num
    · show rn - (intOf (Value.int .i64 _)).toNat < rn - (intOf (G 58)).toNat
      rw [H58.out]
      have := HJN.out
      simp [intOf]; omega
  have hxk : (w8 r.took.kind == 2) = true := by rw [hy2]; rfl
  have hmo := HRM.out.2 hy1
  have htk : r.took.token.toNat < 4 := val_lt (hmo.2.brn hy2).1
  obtain ⟨m, hm⟩ : ∃ m, m = r.took.token.toNat := ⟨_, rfl⟩
  have hm4 : m < 4 := by omega
  have hm3 : m ≤ 3 := by omega
  have m0 : (0 : Int) ≤ w8 r.took.token := by unfold w8; omega
  have m1 : w8 r.took.token < 4 := by unfold w8; omega
  have m2 : (w8 r.took.token).toNat = m := by unfold w8; omega
  have hgo := UpV.go HU.out HRR.out ⟨hy1, hy2⟩ hm.symm hm4
  obtain ⟨u0, hu0⟩ : ∃ u0, u0 = U[m] := ⟨_, rfl⟩
  obtain ⟨U2, hV2⟩ : ∃ U2, U2 = U.set m (U[m] + r.took.amount) hm4 := ⟨_, rfl⟩
  rw [← hV2] at hgo
  have HU2 := hid_of hgo
  have n3 : nth (arr u64v U) m = some (.int .u64 (w64 u0)) := by rw [hu0]; exact nth_arr_u64 _ hm4
  have p3 : splice (arr u64v U) m [.int .u64 (w64 (u0 + r.took.amount))] = arr u64v U2 := by rw [put_arr_u64 _ _ hm4, hV2, hu0]
  have had : IntKind.u64.wrap (w64 u0 + w64 r.took.amount) = w64 (u0 + r.took.amount) := x64_add _ _
  have lt3 : (arr u64v U).length = 4 := length_arr _ _
  have kq := (H2.out.at (b := bu) (C := arr u64v U) (by simp)).1
  have fq := (H2.out.at (b := bu) (C := arr u64v U) (by simp)).2
  have H3 : Hid (TwI V0' c1 c2 ((bu, arr u64v U2) :: (bd, arr u64v D) :: (br, r.enc) :: bs) sr.2.1 sr.2.2 (put V2.drew bu (arr u64v U2))) := ((H2.out.ext (extends_drewN (ext_Ext (Ext.refl V2)) 1)).sub (bx' := (bu, arr u64v U) :: (bd, arr u64v D) :: (br, r.enc) :: bs) (fun p hp => by
    simp only [List.mem_cons] at hp ⊢
    rcases hp with rfl | rfl | rfl | hp <;> simp [*])).put (fun p hp => by
    simp only [List.mem_cons] at hp
    rcases hp with rfl | rfl | hp
    · exact HUD.out.1.symm
    · exact HBR2.out.1
    · have := HLT.out p hp
      have := HUD.out.2
      omega)
  generalize arr u64v U = QE at kq n3 p3 lt3
  obtain ⟨QE2, hQE2⟩ : ∃ QE2, QE2 = arr u64v U2 := ⟨_, rfl⟩
  rw [← hQE2] at p3 H3
  have HQE := hid_of hQE2
  clear hmo htk hm hgo hu0 hV2 hQE2 hm4 hy2
  go_upto_region 23 with fail
  repeat go_step
  refine wp_region_F 10 (fun W' => W' = V2.drew) (by kernel_rfl) rfl (fun hHeld => ?_)
  refine wpAnyF_take (i := 0) (oi := ⟨_, _, _, _, _, _⟩) (v := ?_) rfl (by kernel_rfl) (by kernel_rfl) (by kernel_rfl) (by kernel_rfl) (by kernel_rfl) (fun _ _ _ h => h) (Or.inl ⟨by rfl, ?_⟩) (by assumption) ?_
  rotate_left 1
  · intro W' hSw
    subst hSw
    go_simp
    try with_reducible rfl
  try simp only [Act.put, List.setIfInBounds_toArray, List.set_cons_zero, List.set_cons_succ]
  refine wpAnyF_take (i := 1) (oi := ⟨_, _, _, _, _, _⟩) (v := ?_) rfl (by kernel_rfl) (by kernel_rfl) (by kernel_rfl) (by kernel_rfl) (by kernel_rfl) (fun _ _ _ h => h) (Or.inl ⟨by rfl, ?_⟩) (by assumption) ?_
  rotate_left 1
  · intro W' hSw
    subst hSw
    go_simp
    try with_reducible rfl
  try simp only [Act.put, List.setIfInBounds_toArray, List.set_cons_zero, List.set_cons_succ]
  refine wpAnyF_take (i := 2) (oi := ⟨_, _, _, _, _, _⟩) (v := ?_) rfl (by kernel_rfl) (by kernel_rfl) (by kernel_rfl) (by kernel_rfl) (by kernel_rfl) (fun _ _ _ h => h) (Or.inl ⟨by rfl, ?_⟩) (by assumption) ?_
  rotate_left 1
  · intro W' hSw
    subst hSw
    go_simp
    try with_reducible rfl
  try simp only [Act.put, List.setIfInBounds_toArray, List.set_cons_zero, List.set_cons_succ]
  refine wpAnyF_take (i := 3) (oi := ⟨_, _, _, _, _, _⟩) (v := ?_) rfl (by kernel_rfl) (by kernel_rfl) (by kernel_rfl) (by kernel_rfl) (by kernel_rfl) (fun _ _ _ h => h) (Or.inl ⟨by rfl, ?_⟩) (by assumption) ?_
  rotate_left 1
  · intro W' hSw
    subst hSw
    go_simp
    try with_reducible rfl
  try simp only [Act.put, List.setIfInBounds_toArray, List.set_cons_zero, List.set_cons_succ]
  refine wpAnyF_take (i := 4) (oi := ⟨_, _, _, _, _, _⟩) (v := ?_) rfl (by kernel_rfl) (by kernel_rfl) (by kernel_rfl) (by kernel_rfl) (by kernel_rfl) (fun _ _ _ h => h) (Or.inl ⟨by rfl, ?_⟩) (by assumption) ?_
  rotate_left 1
  · intro W' hSw
    subst hSw
    go_simp
    try with_reducible rfl
  try simp only [Act.put, List.setIfInBounds_toArray, List.set_cons_zero, List.set_cons_succ]
  refine wpAnyF_take (i := 5) (oi := ⟨_, _, _, _, _, _⟩) (v := ?_) rfl (by kernel_rfl) (by kernel_rfl) (by kernel_rfl) (by kernel_rfl) (by kernel_rfl) (fun _ _ _ h => h) (Or.inl ⟨by rfl, ?_⟩) (by assumption) ?_
  rotate_left 1
  · intro W' hSw
    subst hSw
    go_simp
    try with_reducible rfl
  try simp only [Act.put, List.setIfInBounds_toArray, List.set_cons_zero, List.set_cons_succ]
  refine wpAnyF_take (i := 6) (oi := ⟨_, _, _, _, _, _⟩) (v := ?_) rfl (by kernel_rfl) (by kernel_rfl) (by kernel_rfl) (by kernel_rfl) (by kernel_rfl) (fun _ _ _ h => h) (Or.inl ⟨by rfl, ?_⟩) (by assumption) ?_
  rotate_left 1
  · intro W' hSw
    subst hSw
    go_simp
    try with_reducible rfl
  try simp only [Act.put, List.setIfInBounds_toArray, List.set_cons_zero, List.set_cons_succ]
  refine wpAnyF_take (i := 7) (oi := ⟨_, _, _, _, _, _⟩) (v := ?_) rfl (by kernel_rfl) (by kernel_rfl) (by kernel_rfl) (by kernel_rfl) (by kernel_rfl) (fun _ _ _ h => h) (Or.inl ⟨by rfl, ?_⟩) (by assumption) ?_
  rotate_left 1
  · intro W' hSw
    subst hSw
    go_simp
    try with_reducible rfl
  try simp only [Act.put, List.setIfInBounds_toArray, List.set_cons_zero, List.set_cons_succ]
  refine wpAnyF_take (i := 8) (oi := ⟨_, _, _, _, _, _⟩) (v := ?_) rfl (by kernel_rfl) (by kernel_rfl) (by kernel_rfl) (by kernel_rfl) (by kernel_rfl) (fun _ _ _ h => h) (Or.inl ⟨by rfl, ?_⟩) (by assumption) ?_
  rotate_left 1
  · intro W' hSw
    subst hSw
    go_simp
    try with_reducible rfl
  try simp only [Act.put, List.setIfInBounds_toArray, List.set_cons_zero, List.set_cons_succ]
  refine wpAnyF_take (i := 9) (oi := ⟨_, _, _, _, _, _⟩) (v := ?_) rfl (by kernel_rfl) (by kernel_rfl) (by kernel_rfl) (by kernel_rfl) (by kernel_rfl) (fun _ _ _ h => h) (Or.inl ⟨by rfl, ?_⟩) (by assumption) ?_
  rotate_left 1
  · intro W' hSw
    subst hSw
    go_simp
    try with_reducible rfl
  try simp only [Act.put, List.setIfInBounds_toArray, List.set_cons_zero, List.set_cons_succ]
  refine wpAnyF_last (o := ⟨_, _, _, _, _, _⟩) (by kernel_rfl) rfl (fun K' hK => ?_)
  go_simp
  refine hK.out _ _ ?_
  clear hK K'
  try simp only [Act.put, List.setIfInBounds_toArray, List.set_cons_zero, List.set_cons_succ]
  refine wpAnyF_done (by kernel_rfl) ?_ _
  clear hHeld kq fq n3 p3 lt3 had m0 m1 m2 hm3 hy1
  rw [HQE.out] at H3 ⊢
  obtain ⟨V3, hV3⟩ : ∃ V3, V3 = put V2.drew bu (arr u64v U2) := ⟨_, rfl⟩
  rw [← hV3] at H3 ⊢
  have hup := HU2.out
  clear hV3 HQE kr H2
  have kr := (H3.out.at (b := br) (C := r.enc) (by simp)).1
  by_cases hy1 : r.hasSent = true
  rotate_left 1
  · have hyf : r.hasSent = false := by simpa using hy1
    have hdn := HD.out.stay HRR.out (fun e => hy1 e.1)
    clear hy1
    have HJ3 : Hid (∃ U D : Vector UInt64 4, UpV (sr.1.rs.take (j + 1)) U ∧ DnV (sr.1.rs.take (j + 1)) D ∧ TwI V0' c1 c2 ((bu, arr u64v U) :: (bd, arr u64v D) :: bs) sr.2.1 sr.2.2 V3) := ⟨U2, D, hup, hdn, H3.out.sub (fun p hp => by
      simp only [List.mem_cons] at hp ⊢
      rcases hp with rfl | rfl | hp <;> simp [*])⟩
    have hj9 := HJ9.out
    go_wp2_with fail
    refine ⟨rfl, rfl, ⟨rfl, rfl, rfl, rfl, rfl, rfl, rfl, rfl, rfl, rfl, rfl, rfl, j + 1, HJN.out, ?_, HJ3⟩, ?_⟩
    · show Value.int .i64 _ = _
      go_num
    · show rn - (intOf (Value.int .i64 _)).toNat < rn - (intOf (G 58)).toNat
      rw [H58.out]
      have := HJN.out
      simp [intOf]; omega
  by_cases hy2 : r.sent.kind = 2
  rotate_left 1
  · have hyk : (w8 r.sent.kind == 2) = false := by
      have : ¬ w8 r.sent.kind = 2 := fun e => hy2 (w8_inj (b := 2) e)
      simpa using this
    have hdn := HD.out.stay HRR.out (fun e => hy2 e.2)
    clear hy2
    have HJ3 : Hid (∃ U D : Vector UInt64 4, UpV (sr.1.rs.take (j + 1)) U ∧ DnV (sr.1.rs.take (j + 1)) D ∧ TwI V0' c1 c2 ((bu, arr u64v U) :: (bd, arr u64v D) :: bs) sr.2.1 sr.2.2 V3) := ⟨U2, D, hup, hdn, H3.out.sub (fun p hp => by
      simp only [List.mem_cons] at hp ⊢
      rcases hp with rfl | rfl | hp <;> simp [*])⟩
    have hj9 := HJ9.out
    go_wp2_with fail
    refine ⟨rfl, rfl, ⟨rfl, rfl, rfl, rfl, rfl, rfl, rfl, rfl, rfl, rfl, rfl, rfl, j + 1, HJN.out, ?_, HJ3⟩, ?_⟩
    · show Value.int .i64 _ = _
      go_num
    · show rn - (intOf (Value.int .i64 _)).toNat < rn - (intOf (G 58)).toNat
      rw [H58.out]
      have := HJN.out
      simp [intOf]; omega
  have hyk : (w8 r.sent.kind == 2) = true := by rw [hy2]; rfl
  have hmo := HRM.out.1 hy1
  have htk : r.sent.token.toNat < 4 := val_lt (hmo.2.2.brn hy2).1
  obtain ⟨m, hm⟩ : ∃ m, m = r.sent.token.toNat := ⟨_, rfl⟩
  have hm4 : m < 4 := by omega
  have hm3 : m ≤ 3 := by omega
  have m0 : (0 : Int) ≤ w8 r.sent.token := by unfold w8; omega
  have m1 : w8 r.sent.token < 4 := by unfold w8; omega
  have m2 : (w8 r.sent.token).toNat = m := by unfold w8; omega
  have hgo := DnV.go HD.out HRR.out ⟨hy1, hy2⟩ hm.symm hm4
  obtain ⟨u0, hu0⟩ : ∃ u0, u0 = D[m] := ⟨_, rfl⟩
  obtain ⟨D2, hV2⟩ : ∃ D2, D2 = D.set m (D[m] + r.sent.amount) hm4 := ⟨_, rfl⟩
  rw [← hV2] at hgo
  have HD2 := hid_of hgo
  have n3 : nth (arr u64v D) m = some (.int .u64 (w64 u0)) := by rw [hu0]; exact nth_arr_u64 _ hm4
  have p3 : splice (arr u64v D) m [.int .u64 (w64 (u0 + r.sent.amount))] = arr u64v D2 := by rw [put_arr_u64 _ _ hm4, hV2, hu0]
  have had : IntKind.u64.wrap (w64 u0 + w64 r.sent.amount) = w64 (u0 + r.sent.amount) := x64_add _ _
  have lt3 : (arr u64v D).length = 4 := length_arr _ _
  have kq := (H3.out.at (b := bd) (C := arr u64v D) (by simp)).1
  have fq := (H3.out.at (b := bd) (C := arr u64v D) (by simp)).2
  have H4 : Hid (TwI V0' c1 c2 ((bd, arr u64v D2) :: (bu, arr u64v U2) :: (br, r.enc) :: bs) sr.2.1 sr.2.2 (put V3.drew bd (arr u64v D2))) := ((H3.out.ext (extends_drewN (ext_Ext (Ext.refl V3)) 1)).sub (bx' := (bd, arr u64v D) :: (bu, arr u64v U2) :: (br, r.enc) :: bs) (fun p hp => by
    simp only [List.mem_cons] at hp ⊢
    rcases hp with rfl | rfl | rfl | hp <;> simp [*])).put (fun p hp => by
    simp only [List.mem_cons] at hp
    rcases hp with rfl | rfl | hp
    · exact HUD.out.1
    · exact HBR2.out.2
    · have := HLT.out p hp
      have := HUD.out.2
      omega)
  generalize arr u64v D = QE at kq n3 p3 lt3
  obtain ⟨QE2, hQE2⟩ : ∃ QE2, QE2 = arr u64v D2 := ⟨_, rfl⟩
  rw [← hQE2] at p3 H4
  have HQE := hid_of hQE2
  clear hmo htk hm hgo hu0 hV2 hQE2 hm4 hy2
  go_upto_region 25 with fail
  repeat go_step
  refine wp_region_F 10 (fun W' => W' = V3.drew) (by kernel_rfl) rfl (fun hHeld => ?_)
  refine wpAnyF_take (i := 0) (oi := ⟨_, _, _, _, _, _⟩) (v := ?_) rfl (by kernel_rfl) (by kernel_rfl) (by kernel_rfl) (by kernel_rfl) (by kernel_rfl) (fun _ _ _ h => h) (Or.inl ⟨by rfl, ?_⟩) (by assumption) ?_
  rotate_left 1
  · intro W' hSw
    subst hSw
    go_simp
    try with_reducible rfl
  try simp only [Act.put, List.setIfInBounds_toArray, List.set_cons_zero, List.set_cons_succ]
  refine wpAnyF_take (i := 1) (oi := ⟨_, _, _, _, _, _⟩) (v := ?_) rfl (by kernel_rfl) (by kernel_rfl) (by kernel_rfl) (by kernel_rfl) (by kernel_rfl) (fun _ _ _ h => h) (Or.inl ⟨by rfl, ?_⟩) (by assumption) ?_
  rotate_left 1
  · intro W' hSw
    subst hSw
    go_simp
    try with_reducible rfl
  try simp only [Act.put, List.setIfInBounds_toArray, List.set_cons_zero, List.set_cons_succ]
  refine wpAnyF_take (i := 2) (oi := ⟨_, _, _, _, _, _⟩) (v := ?_) rfl (by kernel_rfl) (by kernel_rfl) (by kernel_rfl) (by kernel_rfl) (by kernel_rfl) (fun _ _ _ h => h) (Or.inl ⟨by rfl, ?_⟩) (by assumption) ?_
  rotate_left 1
  · intro W' hSw
    subst hSw
    go_simp
    try with_reducible rfl
  try simp only [Act.put, List.setIfInBounds_toArray, List.set_cons_zero, List.set_cons_succ]
  refine wpAnyF_take (i := 3) (oi := ⟨_, _, _, _, _, _⟩) (v := ?_) rfl (by kernel_rfl) (by kernel_rfl) (by kernel_rfl) (by kernel_rfl) (by kernel_rfl) (fun _ _ _ h => h) (Or.inl ⟨by rfl, ?_⟩) (by assumption) ?_
  rotate_left 1
  · intro W' hSw
    subst hSw
    go_simp
    try with_reducible rfl
  try simp only [Act.put, List.setIfInBounds_toArray, List.set_cons_zero, List.set_cons_succ]
  refine wpAnyF_take (i := 4) (oi := ⟨_, _, _, _, _, _⟩) (v := ?_) rfl (by kernel_rfl) (by kernel_rfl) (by kernel_rfl) (by kernel_rfl) (by kernel_rfl) (fun _ _ _ h => h) (Or.inl ⟨by rfl, ?_⟩) (by assumption) ?_
  rotate_left 1
  · intro W' hSw
    subst hSw
    go_simp
    try with_reducible rfl
  try simp only [Act.put, List.setIfInBounds_toArray, List.set_cons_zero, List.set_cons_succ]
  refine wpAnyF_take (i := 5) (oi := ⟨_, _, _, _, _, _⟩) (v := ?_) rfl (by kernel_rfl) (by kernel_rfl) (by kernel_rfl) (by kernel_rfl) (by kernel_rfl) (fun _ _ _ h => h) (Or.inl ⟨by rfl, ?_⟩) (by assumption) ?_
  rotate_left 1
  · intro W' hSw
    subst hSw
    go_simp
    try with_reducible rfl
  try simp only [Act.put, List.setIfInBounds_toArray, List.set_cons_zero, List.set_cons_succ]
  refine wpAnyF_take (i := 6) (oi := ⟨_, _, _, _, _, _⟩) (v := ?_) rfl (by kernel_rfl) (by kernel_rfl) (by kernel_rfl) (by kernel_rfl) (by kernel_rfl) (fun _ _ _ h => h) (Or.inl ⟨by rfl, ?_⟩) (by assumption) ?_
  rotate_left 1
  · intro W' hSw
    subst hSw
    go_simp
    try with_reducible rfl
  try simp only [Act.put, List.setIfInBounds_toArray, List.set_cons_zero, List.set_cons_succ]
  refine wpAnyF_take (i := 7) (oi := ⟨_, _, _, _, _, _⟩) (v := ?_) rfl (by kernel_rfl) (by kernel_rfl) (by kernel_rfl) (by kernel_rfl) (by kernel_rfl) (fun _ _ _ h => h) (Or.inl ⟨by rfl, ?_⟩) (by assumption) ?_
  rotate_left 1
  · intro W' hSw
    subst hSw
    go_simp
    try with_reducible rfl
  try simp only [Act.put, List.setIfInBounds_toArray, List.set_cons_zero, List.set_cons_succ]
  refine wpAnyF_take (i := 8) (oi := ⟨_, _, _, _, _, _⟩) (v := ?_) rfl (by kernel_rfl) (by kernel_rfl) (by kernel_rfl) (by kernel_rfl) (by kernel_rfl) (fun _ _ _ h => h) (Or.inl ⟨by rfl, ?_⟩) (by assumption) ?_
  rotate_left 1
  · intro W' hSw
    subst hSw
    go_simp
    try with_reducible rfl
  try simp only [Act.put, List.setIfInBounds_toArray, List.set_cons_zero, List.set_cons_succ]
  refine wpAnyF_take (i := 9) (oi := ⟨_, _, _, _, _, _⟩) (v := ?_) rfl (by kernel_rfl) (by kernel_rfl) (by kernel_rfl) (by kernel_rfl) (by kernel_rfl) (fun _ _ _ h => h) (Or.inl ⟨by rfl, ?_⟩) (by assumption) ?_
  rotate_left 1
  · intro W' hSw
    subst hSw
    go_simp
    try with_reducible rfl
  try simp only [Act.put, List.setIfInBounds_toArray, List.set_cons_zero, List.set_cons_succ]
  refine wpAnyF_last (o := ⟨_, _, _, _, _, _⟩) (by kernel_rfl) rfl (fun K' hK => ?_)
  go_simp
  refine hK.out _ _ ?_
  clear hK K'
  try simp only [Act.put, List.setIfInBounds_toArray, List.set_cons_zero, List.set_cons_succ]
  refine wpAnyF_done (by kernel_rfl) ?_ _
  clear hHeld kq fq n3 p3 lt3 had m0 m1 m2 hm3 hy1
  have hdn := HD2.out
  have H4x := H4.out
  rw [HQE.out] at H4x ⊢
  have HJ3 : Hid (∃ U D : Vector UInt64 4, UpV (sr.1.rs.take (j + 1)) U ∧ DnV (sr.1.rs.take (j + 1)) D ∧ TwI V0' c1 c2 ((bu, arr u64v U) :: (bd, arr u64v D) :: bs) sr.2.1 sr.2.2 _) := ⟨U2, D2, hup, hdn, H4x.sub (fun p hp => by
    simp only [List.mem_cons] at hp ⊢
    rcases hp with rfl | rfl | hp <;> simp [*])⟩
  have hj9 := HJ9.out
  go_wp2_with fail
  refine ⟨rfl, rfl, ⟨rfl, rfl, rfl, rfl, rfl, rfl, rfl, rfl, rfl, rfl, rfl, rfl, j + 1, HJN.out, ?_, HJ3⟩, ?_⟩
  · show Value.int .i64 _ = _
    go_num
  · show rn - (intOf (Value.int .i64 _)).toNat < rn - (intOf (G 58)).toNat
    rw [H58.out]
    have := HJN.out
    simp [intOf]; omega
end Go.Proofs.Qxb6500786aGreat
