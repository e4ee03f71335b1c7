import Derived.DeepKeys2
import Derived.Test.Qxb6500786aGreatJc
import Derived.Test.Qxb6500786aGreatJd
import Derived.Test.Qxb6500786aGreatEc

import Derived.StillTailTactics
import Derived.Deep.QuietTactic
import Derived.BigQuiet
import Derived.Deep.RegionHeld
import Derived.Deep.CutRange
import Derived.Laws.ResultCell
import Derived.Laws.Rows
import Derived.DeepKeys
import Derived.DataBytes
import Derived.Laws.StructEq
import Derived.Laws.AppendOwn
import Derived.Laws.MakeOwn
import Derived.Lib.AppendStr
set_option linter.unusedSimpArgs false
set_option linter.unusedVariables false
namespace Go.Proofs.Qxb6500786aGreat
open Go.RowKit Go.Blk
attribute [local go_sem ↓] execOp_load execOp_store execOp_alloc
attribute [local go_sem] Tryz.ld24 Tryz.st24 Tryz.ld36 Tryz.st36 Tryz.ld28 Tryz.st28 Tryz.ld32 Tryz.st32 Tryz.ld33 Tryz.st33 Tryz.ld34 Tryz.st34 Tryz.ld5 Tryz.st5 Tryz.ld31 Tryz.st31 Tryz.ld30 Tryz.st30 Tryz.ld41 Tryz.st41 Tryz.ld44 Tryz.st44 Tryz.ld4 Tryz.st4 Tryz.ld173 Tryz.st173 Tryz.ld174 Tryz.st174 Tryz.ld95 Tryz.st95 Tryz.ld45 Tryz.st45 Tryz.ld207 Tryz.st207 Tryz.ld3 Tryz.st3 Tryz.ld189 Tryz.st189 Tryz.ld2 Tryz.st2 Tryz.ld9 Tryz.st9 Tryz.ld12 Tryz.st12 Tryz.ld21 Tryz.st21 Tryz.ld22 Tryz.st22 Tryz.ld46 Tryz.st46 Tryz.ld92 Tryz.st92 Tryz.ld94 Tryz.st94 Tryz.ld96 Tryz.st96 Tryz.ld97 Tryz.st97 Tryz.ld105 Tryz.st105 Tryz.ld117 Tryz.st117 Tryz.ld122 Tryz.st122 Tryz.ld123 Tryz.st123 Tryz.ld133 Tryz.st133 Tryz.ld155 Tryz.st155 Tryz.ld163 Tryz.st163 Tryz.ld190 Tryz.st190 Tryz.ld197 Tryz.st197 Tryz.ld201 Tryz.st201 Tryz.ld202 Tryz.st202 Tryz.ld209 Tryz.st209 Tryz.ld216 Tryz.st216 Tryz.ld230 Tryz.st230 Tryz.ld238 Tryz.st238 Tryz.ld242 Tryz.st242 Tryz.ld251 Tryz.st251 Tryz.ld260 Tryz.st260 Tryz.ld286 Tryz.st286 Tryz.ld292 Tryz.st292 Tryz.ld298 Tryz.st298 Tryz.ld309 Tryz.st309 Tryz.ld35 Tryz.st35 Tryz.ld48 Tryz.st48 Tryz.ld47 Tryz.st47 Tryz.ld79 Tryz.st79 Tryz.ld177 Tryz.st177 Tryz.ld180 Tryz.st180 Tryz.ld231 Tryz.st231 Tryz.ld232 Tryz.st232 Tryz.ld26 Tryz.st26 Tryz.ld38 Tryz.st38 Tryz.ld40 Tryz.st40 Tryz.ld43 Tryz.st43 Tryz.ld50 Tryz.st50 Tryz.ld52 Tryz.st52 Tryz.ld54 Tryz.st54 Tryz.ld81 Tryz.st81 Tryz.ld112 Tryz.st112 Tryz.ld120 Tryz.st120 Tryz.ld176 Tryz.st176 Tryz.ld179 Tryz.st179 Tryz.ld182 Tryz.st182 Tryz.ld184 Tryz.st184 Tryz.ld234 Tryz.st234 Tryz.ld236 Tryz.st236 Tryz.ld240 Tryz.st240 Tryz.ld246 Tryz.st246 Tryz.ld249 Tryz.st249 Tryz.al35 Tryz.al48 Tryz.al47 Tryz.al79 Tryz.al177 Tryz.al180 Tryz.al231 Tryz.al232 Tryz.al26 Tryz.al38 Tryz.al40 Tryz.al43 Tryz.al50 Tryz.al52 Tryz.al54 Tryz.al81 Tryz.al112 Tryz.al120 Tryz.al176 Tryz.al179 Tryz.al182 Tryz.al184 Tryz.al234 Tryz.al236 Tryz.al240 Tryz.al246 Tryz.al249
attribute [local go_sem] Player.length_enc Player.ok_enc Player.all_get Player.all_set Player.hand_get Player.hand_set Player.aside_get Player.aside_set Message.length_enc Message.ok_enc Message.all_get Message.all_set Message.kind_get Message.kind_set Message.from__get Message.from__set Message.to__get Message.to__set Message.sender_get Message.sender_set Message.receiver_get Message.receiver_set Message.seq_get Message.seq_set Message.token_get Message.token_set Message.amount_get Message.amount_set Message.size_get Message.size_set Message.payload_get Message.payload_set Tx.length_enc Tx.ok_enc Tx.all_get Tx.all_set Tx.kind_get Tx.kind_set Tx.chain_get Tx.chain_set Tx.from__get Tx.from__set Tx.nonce_get Tx.nonce_set Tx.fee_get Tx.fee_set Tx.to__get Tx.to__set Tx.dest_get Tx.dest_set Tx.token_get Tx.token_set Tx.amount_get Tx.amount_set Tx.size_get Tx.size_set Tx.payload_get Tx.payload_set Tx.msg_get Tx.msg_set Tx.msg_kind_get Tx.msg_kind_set Tx.msg_from__get Tx.msg_from__set Tx.msg_to__get Tx.msg_to__set Tx.msg_sender_get Tx.msg_sender_set Tx.msg_receiver_get Tx.msg_receiver_set Tx.msg_seq_get Tx.msg_seq_set Tx.msg_token_get Tx.msg_token_set Tx.msg_amount_get Tx.msg_amount_set Tx.msg_size_get Tx.msg_size_set Tx.msg_payload_get Tx.msg_payload_set GOp.length_enc GOp.ok_enc GOp.all_get GOp.all_set GOp.kind_get GOp.kind_set GOp.tx_get GOp.tx_set GOp.txs_get GOp.txs_set GOp.gas_get GOp.gas_set GOp.acct_get GOp.acct_set GOp.token_get GOp.token_set GOp.chain_get GOp.chain_set GOp.seq_get GOp.seq_set GOp.tx_kind_get GOp.tx_kind_set GOp.tx_chain_get GOp.tx_chain_set GOp.tx_from__get GOp.tx_from__set GOp.tx_nonce_get GOp.tx_nonce_set GOp.tx_fee_get GOp.tx_fee_set GOp.tx_to__get GOp.tx_to__set GOp.tx_dest_get GOp.tx_dest_set GOp.tx_token_get GOp.tx_token_set GOp.tx_amount_get GOp.tx_amount_set GOp.tx_size_get GOp.tx_size_set GOp.tx_payload_get GOp.tx_payload_set GOp.tx_msg_get GOp.tx_msg_set GOp.tx_msg_kind_get GOp.tx_msg_kind_set GOp.tx_msg_from__get GOp.tx_msg_from__set GOp.tx_msg_to__get GOp.tx_msg_to__set GOp.tx_msg_sender_get GOp.tx_msg_sender_set GOp.tx_msg_receiver_get GOp.tx_msg_receiver_set GOp.tx_msg_seq_get GOp.tx_msg_seq_set GOp.tx_msg_token_get GOp.tx_msg_token_set GOp.tx_msg_amount_get GOp.tx_msg_amount_set GOp.tx_msg_size_get GOp.tx_msg_size_set GOp.tx_msg_payload_get GOp.tx_msg_payload_set Summary.length_enc Summary.ok_enc Summary.all_get Summary.all_set Summary.height_get Summary.height_set Summary.txs_get Summary.txs_set Summary.gas_get Summary.gas_set Summary.fees_get Summary.fees_set Summary.sent_get Summary.sent_set Summary.took_get Summary.took_set Summary.minted_get Summary.minted_set Summary.burned_get Summary.burned_set Summary.root_get Summary.root_set Detail.length_enc Detail.ok_enc Detail.all_get Detail.all_set Detail.code_get Detail.code_set Detail.have__get Detail.have__set Detail.need_get Detail.need_set Slot.length_enc Slot.ok_enc Slot.all_get Slot.all_set Slot.nonce_get Slot.nonce_set Slot.balances_get Slot.balances_set Tree.length_enc Tree.ok_enc Tree.all_get Tree.all_set Tree.leaves_get Tree.leaves_set Mark.length_enc Mark.ok_enc Mark.all_get Mark.all_set Mark.from__get Mark.from__set Mark.seq_get Mark.seq_set Receipt.length_enc Receipt.ok_enc Receipt.all_get Receipt.all_set Receipt.code_get Receipt.code_set Receipt.hash_get Receipt.hash_set Receipt.index_get Receipt.index_set Receipt.gas_get Receipt.gas_set Receipt.fee_get Receipt.fee_set Receipt.hasSent_get Receipt.hasSent_set Receipt.sent_get Receipt.sent_set Receipt.hasTook_get Receipt.hasTook_set Receipt.took_get Receipt.took_set Receipt.sent_kind_get Receipt.sent_kind_set Receipt.sent_from__get Receipt.sent_from__set Receipt.sent_to__get Receipt.sent_to__set Receipt.sent_sender_get Receipt.sent_sender_set Receipt.sent_receiver_get Receipt.sent_receiver_set Receipt.sent_seq_get Receipt.sent_seq_set Receipt.sent_token_get Receipt.sent_token_set Receipt.sent_amount_get Receipt.sent_amount_set Receipt.sent_size_get Receipt.sent_size_set Receipt.sent_payload_get Receipt.sent_payload_set Receipt.took_kind_get Receipt.took_kind_set Receipt.took_from__get Receipt.took_from__set Receipt.took_to__get Receipt.took_to__set Receipt.took_sender_get Receipt.took_sender_set Receipt.took_receiver_get Receipt.took_receiver_set Receipt.took_seq_get Receipt.took_seq_set Receipt.took_token_get Receipt.took_token_set Receipt.took_amount_get Receipt.took_amount_set Receipt.took_size_get Receipt.took_size_set Receipt.took_payload_get Receipt.took_payload_set Store.length_enc Store.ok_enc Store.all_get Store.all_set Store.now_get Store.now_set Store.saved_get Store.saved_set GState.length_enc GState.ok_enc GState.all_get GState.all_set GState.kv_get GState.kv_set GState.tree_get GState.tree_set GState.stale_get GState.stale_set GState.touched_get GState.touched_set GState.kv_now_get GState.kv_now_set GState.kv_saved_get GState.kv_saved_set GState.tree_leaves_get GState.tree_leaves_set History.length_enc History.ok_enc History.all_get History.all_set History.ring_get History.ring_set History.closed_get History.closed_set Ledger.length_enc Ledger.ok_enc Ledger.all_get Ledger.all_set Ledger.chain_get Ledger.chain_set Ledger.st_get Ledger.st_set Ledger.height_get Ledger.height_set Ledger.open__get Ledger.open__set Ledger.gasLimit_get Ledger.gasLimit_set Ledger.past_get Ledger.past_set Ledger.begun_get Ledger.begun_set Ledger.sent_get Ledger.sent_set Ledger.took_get Ledger.took_set Ledger.receipts_get Ledger.receipts_set Ledger.st_kv_get Ledger.st_kv_set Ledger.st_tree_get Ledger.st_tree_set Ledger.st_stale_get Ledger.st_stale_set Ledger.st_touched_get Ledger.st_touched_set Ledger.st_kv_now_get Ledger.st_kv_now_set Ledger.st_kv_saved_get Ledger.st_kv_saved_set Ledger.st_tree_leaves_get Ledger.st_tree_leaves_set Ledger.past_ring_get Ledger.past_ring_set Ledger.past_closed_get Ledger.past_closed_set Ledger.begun_kv_get Ledger.begun_kv_set Ledger.begun_tree_get Ledger.begun_tree_set Ledger.begun_stale_get Ledger.begun_stale_set Ledger.begun_touched_get Ledger.begun_touched_set Ledger.begun_kv_now_get Ledger.begun_kv_now_set Ledger.begun_kv_saved_get Ledger.begun_kv_saved_set Ledger.begun_tree_leaves_get Ledger.begun_tree_leaves_set Purse.length_enc Purse.ok_enc Purse.all_get Purse.all_set Purse.st_get Purse.st_set Purse.n_get Purse.n_set Purse.account_get Purse.account_set Purse.token_get Purse.token_set Purse.amount_get Purse.amount_set Plan.length_enc Plan.ok_enc Plan.all_get Plan.all_set Plan.purse_get Plan.purse_set Plan.nonce_get Plan.nonce_set Plan.gasUsed_get Plan.gasUsed_set Plan.fees_get Plan.fees_set Plan.hasSupply_get Plan.hasSupply_set Plan.token_get Plan.token_set Plan.supply_get Plan.supply_set Plan.flowAt_get Plan.flowAt_set Plan.flow_get Plan.flow_set Plan.receipt_get Plan.receipt_set Plan.purse_st_get Plan.purse_st_set Plan.purse_n_get Plan.purse_n_set Plan.purse_account_get Plan.purse_account_set Plan.purse_token_get Plan.purse_token_set Plan.purse_amount_get Plan.purse_amount_set Plan.receipt_code_get Plan.receipt_code_set Plan.receipt_hash_get Plan.receipt_hash_set Plan.receipt_index_get Plan.receipt_index_set Plan.receipt_gas_get Plan.receipt_gas_set Plan.receipt_fee_get Plan.receipt_fee_set Plan.receipt_hasSent_get Plan.receipt_hasSent_set Plan.receipt_sent_get Plan.receipt_sent_set Plan.receipt_hasTook_get Plan.receipt_hasTook_set Plan.receipt_took_get Plan.receipt_took_set Plan.receipt_sent_kind_get Plan.receipt_sent_kind_set Plan.receipt_sent_from__get Plan.receipt_sent_from__set Plan.receipt_sent_to__get Plan.receipt_sent_to__set Plan.receipt_sent_sender_get Plan.receipt_sent_sender_set Plan.receipt_sent_receiver_get Plan.receipt_sent_receiver_set Plan.receipt_sent_seq_get Plan.receipt_sent_seq_set Plan.receipt_sent_token_get Plan.receipt_sent_token_set Plan.receipt_sent_amount_get Plan.receipt_sent_amount_set Plan.receipt_sent_size_get Plan.receipt_sent_size_set Plan.receipt_sent_payload_get Plan.receipt_sent_payload_set Plan.receipt_took_kind_get Plan.receipt_took_kind_set Plan.receipt_took_from__get Plan.receipt_took_from__set Plan.receipt_took_to__get Plan.receipt_took_to__set Plan.receipt_took_sender_get Plan.receipt_took_sender_set Plan.receipt_took_receiver_get Plan.receipt_took_receiver_set Plan.receipt_took_seq_get Plan.receipt_took_seq_set Plan.receipt_took_token_get Plan.receipt_took_token_set Plan.receipt_took_amount_get Plan.receipt_took_amount_set Plan.receipt_took_size_get Plan.receipt_took_size_set Plan.receipt_took_payload_get Plan.receipt_took_payload_set Move.length_enc Move.ok_enc Move.all_get Move.all_set Move.account_get Move.account_set Move.token_get Move.token_set Move.down_get Move.down_set Move.amount_get Move.amount_set Books.length_enc Books.ok_enc Books.all_get Books.all_set Books.sums_get Books.sums_set Books.stored_get Books.stored_set Books.marks_get Books.marks_set Pair.length_enc Pair.ok_enc Pair.all_get Pair.all_set Pair.key_get Pair.key_set Pair.value_get Pair.value_set
attribute [local go_sem] size_put size_ext blk_put free_put blk_alloc free_alloc blk_drew free_drew blk_ext free_ext lookOr_some putOr_some segAt_some cellAt_some storeIn_some put_put put_alloc_new length_arr ok_arr_u8 ok_arr_u32 ok_arr_u64 ok_arr_i64 ok_arr_sl cellsV_agg cellsV_int cellsV_bool cellsV_string cellsV_pointer cellsV_slice cellsV_sl ok_int ok_bool ok_string ok_pointer ok_slice ok_sl toList_arr seg_arr set_arr nth_splice nth_splice0 seg_splice seg_splice0 splice_splice splice_splice0 length_splice_if
attribute [local go_sem ↓] execOp_box
attribute [local go_sem] box_run nth_arr_u8 put_arr_u8 blk_drewN free_drewN put_drewN blk_raw free_raw
attribute [local go_sem] Tryz.ld61 Tryz.st61 Tryz.ld125 Tryz.st125 Tryz.ld148 Tryz.st148 Tryz.al61 Tryz.al125 Tryz.al148 View.length_enc View.ok_enc View.all_get View.all_set View.chain_get View.chain_set View.balances_get View.balances_set View.nonces_get View.nonces_set View.supply_get View.supply_set View.marks_get View.marks_set View.height_get View.height_set View.open__get View.open__set View.gasLimit_get View.gasLimit_set View.gasUsed_get View.gasUsed_set View.fees_get View.fees_set View.txs_get View.txs_set View.sent_get View.sent_set View.took_get View.took_set View.minted_get View.minted_set View.burned_get View.burned_set View.depth_get View.depth_set Trail.length_enc Trail.ok_enc Trail.all_get Trail.all_set Trail.views_get Trail.views_set Trail.roots_get Trail.roots_set Trail.begunView_get Trail.begunView_set Trail.begunRoot_get Trail.begunRoot_set Trail.begunKnown_get Trail.begunKnown_set Trail.begunView_chain_get Trail.begunView_chain_set Trail.begunView_balances_get Trail.begunView_balances_set Trail.begunView_nonces_get Trail.begunView_nonces_set Trail.begunView_supply_get Trail.begunView_supply_set Trail.begunView_marks_get Trail.begunView_marks_set Trail.begunView_height_get Trail.begunView_height_set Trail.begunView_open__get Trail.begunView_open__set Trail.begunView_gasLimit_get Trail.begunView_gasLimit_set Trail.begunView_gasUsed_get Trail.begunView_gasUsed_set Trail.begunView_fees_get Trail.begunView_fees_set Trail.begunView_txs_get Trail.begunView_txs_set Trail.begunView_sent_get Trail.begunView_sent_set Trail.begunView_took_get Trail.begunView_took_set Trail.begunView_minted_get Trail.begunView_minted_set Trail.begunView_burned_get Trail.begunView_burned_set Trail.begunView_depth_get Trail.begunView_depth_set Dump.length_enc Dump.ok_enc Dump.all_get Dump.all_set Dump.chain_get Dump.chain_set Dump.height_get Dump.height_set Dump.balances_get Dump.balances_set Dump.nonces_get Dump.nonces_set Dump.marks_get Dump.marks_set Dump.history_get Dump.history_set
attribute [local go_sem ↓] execOp_neq38
attribute [local go_sem] neq38

def otI (W1 : World) (b4 b5 b6 b7 : Nat) (F : Nat → Value) (V : World) : Prop := F 4 = .pointer (some ⟨b4, 0, none⟩) ∧ F 6 = .pointer (some ⟨b6, 0, none⟩) ∧ F 7 = .pointer (some ⟨b7, 0, none⟩) ∧ ∃ i : Nat, i ≤ 4 ∧ F 11 = .int .i64 (i : Nat) ∧ ∃ k, V = W1.drewN k
set_option maxRecDepth 100000 in
theorem frame146L (f : Nat → Value) : frameN 146 f = #[f 0, f 1, f 2, f 3, f 4, f 5, f 6, f 7, f 8, f 9, f 10, f 11, f 12, f 13, f 14, f 15, f 16, f 17, f 18, f 19, f 20, f 21, f 22, f 23, f 24, f 25, f 26, f 27, f 28, f 29, f 30, f 31, f 32, f 33, f 34, f 35, f 36, f 37, f 38, f 39, f 40, f 41, f 42, f 43, f 44, f 45, f 46, f 47, f 48, f 49, f 50, f 51, f 52, f 53, f 54, f 55, f 56, f 57, f 58, f 59, f 60, f 61, f 62, f 63, f 64, f 65, f 66, f 67, f 68, f 69, f 70, f 71, f 72, f 73, f 74, f 75, f 76, f 77, f 78, f 79, f 80, f 81, f 82, f 83, f 84, f 85, f 86, f 87, f 88, f 89, f 90, f 91, f 92, f 93, f 94, f 95, f 96, f 97, f 98, f 99, f 100, f 101, f 102, f 103, f 104, f 105, f 106, f 107, f 108, f 109, f 110, f 111, f 112, f 113, f 114, f 115, f 116, f 117, f 118, f 119, f 120, f 121, f 122, f 123, f 124, f 125, f 126, f 127, f 128, f 129, f 130, f 131, f 132, f 133, f 134, f 135, f 136, f 137, f 138, f 139, f 140, f 141, f 142, f 143, f 144, f 145] := by kernel_rfl
set_option maxRecDepth 40000 in
set_option maxHeartbeats 4000000 in
theorem oneTx_any (W : World) (x : Tx) (r : Receipt) (v w : View) (h : Honest x r v w) : Calls Tryz.prog 59 #[.agg x.enc.toArray, .agg r.enc.toArray, .agg v.enc.toArray, .agg w.enc.toArray] W fun e V => e = .returned (.bool true) ∧ W.Extends V := by
  obtain ⟨Q, hQ⟩ : ∃ Q : Ending → World → Prop, Q = fun e V => e = .returned (.bool true) ∧ W.Extends V := ⟨_, rfl⟩
  rw [← hQ]
  have hB := ((((BxI.start W).box x.enc 40).box r.enc 120).box v.enc 61).box w.enc 61
  obtain ⟨W1, hW1⟩ : ∃ W1 : World, W1 = (((W.alloc (.cells x.enc.toArray 40)).alloc (.cells r.enc.toArray 120)).alloc (.cells v.enc.toArray 61)).alloc (.cells w.enc.toArray 61) := ⟨_, rfl⟩
  obtain ⟨b4, hb4⟩ : ∃ b, b = W.heap.size := ⟨_, rfl⟩
  obtain ⟨b5, hb5⟩ : ∃ b, b = W.heap.size + 1 := ⟨_, rfl⟩
  obtain ⟨b6, hb6⟩ : ∃ b, b = W.heap.size + 1 + 1 := ⟨_, rfl⟩
  obtain ⟨b7, hb7⟩ : ∃ b, b = W.heap.size + 1 + 1 + 1 := ⟨_, rfl⟩
  rw [World.size_alloc, World.size_alloc, World.size_alloc, ← hW1, ← hb7, ← hb6, ← hb5, ← hb4] at hB
  have k4 := (hB.at (b := b4) (C := x.enc) (by simp)).1
  have k5 := (hB.at (b := b5) (C := r.enc) (by simp)).1
  have k6 := (hB.at (b := b6) (C := v.enc) (by simp)).1
  have k7 := (hB.at (b := b7) (C := w.enc) (by simp)).1
  have HP1 : Hid (∀ k, Q (.returned (.bool true)) (W1.drewN k)) := fun k => by
    rw [hQ]
    exact ⟨rfl, (hB.ext (extends_drewN (ext_Ext (Ext.refl W1)) k)).1⟩
  have HE : Hid (W1 = (((W.alloc (.cells x.enc.toArray 40)).alloc (.cells r.enc.toArray 120)).alloc (.cells v.enc.toArray 61)).alloc (.cells w.enc.toArray 61) ∧ b4 = W.heap.size ∧ b5 = W.heap.size + 1 ∧ b6 = W.heap.size + 1 + 1 ∧ b7 = W.heap.size + 1 + 1 + 1) := ⟨hW1, hb4, hb5, hb6, hb7⟩
  have ef : w64 r.fee = w64 x.fee := by rw [h.fee]
  have es : IntKind.u64.wrap (w64 v.fees + w64 x.fee) = w64 w.fees := by rw [h.fees]; exact x64_add _ _
  obtain ⟨a, ha⟩ : ∃ a, a = x.from_.toNat := ⟨_, rfl⟩
  have ha64 : a < 64 := by rw [ha]; exact h.fr
  obtain ⟨nv, hnv⟩ : ∃ nv, nv = v.nonces[a] := ⟨_, rfl⟩
  obtain ⟨nw, hnw⟩ : ∃ nw, nw = w.nonces[a] := ⟨_, rfl⟩
  have n1 : nth v.enc (257 + a) = some (.int .u64 (w64 nv)) := by rw [hnv]; exact View.nonces_at v a ha64
  have n2 : nth w.enc (257 + a) = some (.int .u64 (w64 nw)) := by rw [hnw]; exact View.nonces_at w a ha64
  have en : IntKind.u64.wrap (w64 nv + 1) = w64 nw := by
    have q := h.non h.fr
    have e : nw = nv + 1 := by rw [hnv, hnw]; subst ha; exact q
    rw [e]
    exact x64_add nv 1
  have p0 : (0 : Int) ≤ w8 x.from_ := by unfold w8; omega
  have p1 : w8 x.from_ < 64 := by unfold w8; omega
  have p2 : (w8 x.from_).toNat = a := by unfold w8; omega
  have hsf := fun a : Message => eqA_self a
  have HH := hid_of h
  clear hQ hB hW1 hb4 hb5 hb6 hb7 ha hnv hnw
  by_cases h3 : w8 x.kind = 3
  · obtain ⟨t1, t2⟩ := h.mint.2 h3
    have t3 : (w8 r.took.kind == 2) = true := by rw [t2]; rfl
    have t4 := h.tk h3
    have x3 : (w8 x.kind == 3) = true := by rw [h3]; rfl
    have x2 : (w8 x.kind == 2) = false := by rw [h3]; rfl
    have x1 : (w8 x.kind == 1) = false := by rw [h3]; rfl
    have ns : ¬ (r.hasSent = true ∧ r.sent.kind = 2) := fun e => by have := h.burn.1 e; omega
    have hK := hid_of h3
    have t3' : (w8 x.msg.kind == 2) = true := by rw [← t4]; exact t3
    clear h3 t2 h
    cases hs : r.hasSent with
    | false =>
      clear ns
      go_enter Tryz.func59, Tryz.ntmps59
      go_upto_region 1 with fail
      rw [← HE.out.1, ← HE.out.2.2.2.2, ← HE.out.2.2.2.1, ← HE.out.2.2.1, ← HE.out.2.1]
      clear HE
      go_upto_region 11 with fail
      repeat go_step
      go_quiet (fail)
      by_cases hf0 : w8 x.from_ = 0
      · have hf1 : (w8 x.from_ == 0) = true := by rw [hf0]; rfl
        clear hf0 p0 p1 p2
        clear HH
        go_wp2_with fail
        try (first | go_ret | go_ret2 | go_ret3 | go_end0)
        exact HP1.out _
      have hf1 : (w8 x.from_ == 0) = false := by simpa using hf0
      by_cases hr0 : w8 x.msg.receiver = 0
      · have hr1 : (w8 x.msg.receiver == 0) = true := by rw [hr0]; rfl
        clear hr0 hf0
        clear HH
        go_wp2_with fail
        try (first | go_ret | go_ret2 | go_ret3 | go_end0)
        exact HP1.out _
      have hr1 : (w8 x.msg.receiver == 0) = false := by simpa using hr0
      have HN := hid_of (HH.out.bal (fun e => hf0 (by rw [e]; rfl)) (fun e => by have := hK.out; omega) (fun e => hr0 (by rw [e.2]; rfl)))
      clear HH
      go_upto_region 15 with fail
      go_wp2_with fail
      refine wp_loop_f 146 (otI W1 b4 b5 b6 b7) (fun f _ => 4 - (intOf (f 11)).toNat) rfl ⟨rfl, rfl, rfl, 0, by omega, rfl, _, rfl⟩ ?_
      intro F V hrel
      obtain ⟨f4, f6, f7, i, hi, f11, k, rfl⟩ := hrel
      have H11 := hid_of f11
      rw [frame146L, f4, f6, f7, f11]
      clear f4 f6 f7 f11
      by_cases hin : i < 4
      rotate_left 1
      · have hin' : ¬ (i : Int) < 4 := by omega
        clear hin hi HN
        go_wp2_with fail
        try (first | go_ret | go_ret2 | go_ret3 | go_end0)
        exact HP1.out _
      have hin' : (i : Int) < 4 := by omega
      have q0 : (0 : Int) ≤ (i : Int) := by omega
      have q1 : (i : Int) < 256 := by omega
      have q2 : ((i : Int)).toNat = i := by omega
      obtain ⟨bv, hbv⟩ : ∃ bv, bv = v.balances[i] := ⟨_, rfl⟩
      obtain ⟨bw, hbw⟩ : ∃ bw, bw = w.balances[i] := ⟨_, rfl⟩
      have m1 : nth v.enc (1 + i) = some (.int .u64 (w64 bv)) := by rw [hbv]; exact View.balances_at v i (by omega)
      have m2 : nth w.enc (1 + i) = some (.int .u64 (w64 bw)) := by rw [hbw]; exact View.balances_at w i (by omega)
      have hq := HN.out i (by omega) hin
      rw [← hbv, ← hbw] at hq
      have hwr : IntKind.u8.wrap (i : Int) = (i : Int) := by
        have : IntKind.u8.wrap (i : Int) = ((i % 256 : Nat) : Int) := by simp [IntKind.wrap, IntKind.bits, IntKind.signed]
        rw [this]; congr 1; omega
      have hi9 : (i : Int) + 1 ≤ 1000 := by omega
      have HIN := hid_of hin
      by_cases hi0 : i = 0
      · have hz : ((i : Int) == 0) = true := by rw [hi0]; rfl
        rw [if_pos hi0] at hq
        have ee : IntKind.u64.wrap (w64 bv + w64 x.fee) = w64 bw := by rw [hq]; exact x64_add _ _
        clear hin hi hbv hbw hq HN hi0
        go_wp2_with fail
        refine ⟨rfl, rfl, ⟨rfl, rfl, rfl, i + 1, HIN.out, ?_, _, rfl⟩, ?_⟩
        · show Value.int .i64 _ = _
          go_num
        · show 4 - (intOf (Value.int .i64 _)).toNat < 4 - (intOf (F 11)).toNat
          rw [H11.out]
          have := HIN.out
          simp [intOf]; omega
      · have hz : ((i : Int) == 0) = false := by simpa using (by omega : ¬ (i : Int) = 0)
        rw [if_neg hi0] at hq
        subst hq
        clear hin hi hbv hbw HN hi0
        go_wp2_with fail
        refine ⟨rfl, rfl, ⟨rfl, rfl, rfl, i + 1, HIN.out, ?_, _, rfl⟩, ?_⟩
        · show Value.int .i64 _ = _
          go_num
        · show 4 - (intOf (Value.int .i64 _)).toNat < 4 - (intOf (F 11)).toNat
          rw [H11.out]
          have := HIN.out
          simp [intOf]; omega
    | true =>
      have s3 : (w8 r.sent.kind == 2) = false := by
        have : ¬ w8 r.sent.kind = 2 := fun e => ns ⟨hs, w8_inj (b := 2) e⟩
        simpa using this
      clear ns
      go_enter Tryz.func59, Tryz.ntmps59
      go_upto_region 1 with fail
      rw [← HE.out.1, ← HE.out.2.2.2.2, ← HE.out.2.2.2.1, ← HE.out.2.2.1, ← HE.out.2.1]
      clear HE
      go_upto_region 11 with fail
      repeat go_step
      go_quiet (fail)
      by_cases hf0 : w8 x.from_ = 0
      · have hf1 : (w8 x.from_ == 0) = true := by rw [hf0]; rfl
        clear hf0 p0 p1 p2
        clear HH
        go_wp2_with fail
        try (first | go_ret | go_ret2 | go_ret3 | go_end0)
        exact HP1.out _
      have hf1 : (w8 x.from_ == 0) = false := by simpa using hf0
      by_cases hr0 : w8 x.msg.receiver = 0
      · have hr1 : (w8 x.msg.receiver == 0) = true := by rw [hr0]; rfl
        clear hr0 hf0
        clear HH
        go_wp2_with fail
        try (first | go_ret | go_ret2 | go_ret3 | go_end0)
        exact HP1.out _
      have hr1 : (w8 x.msg.receiver == 0) = false := by simpa using hr0
      have HN := hid_of (HH.out.bal (fun e => hf0 (by rw [e]; rfl)) (fun e => by have := hK.out; omega) (fun e => hr0 (by rw [e.2]; rfl)))
      clear HH
      go_upto_region 15 with fail
      go_wp2_with fail
      refine wp_loop_f 146 (otI W1 b4 b5 b6 b7) (fun f _ => 4 - (intOf (f 11)).toNat) rfl ⟨rfl, rfl, rfl, 0, by omega, rfl, _, rfl⟩ ?_
      intro F V hrel
      obtain ⟨f4, f6, f7, i, hi, f11, k, rfl⟩ := hrel
      have H11 := hid_of f11
      rw [frame146L, f4, f6, f7, f11]
      clear f4 f6 f7 f11
      by_cases hin : i < 4
      rotate_left 1
      · have hin' : ¬ (i : Int) < 4 := by omega
        clear hin hi HN
        go_wp2_with fail
        try (first | go_ret | go_ret2 | go_ret3 | go_end0)
        exact HP1.out _
      have hin' : (i : Int) < 4 := by omega
      have q0 : (0 : Int) ≤ (i : Int) := by omega
      have q1 : (i : Int) < 256 := by omega
      have q2 : ((i : Int)).toNat = i := by omega
      obtain ⟨bv, hbv⟩ : ∃ bv, bv = v.balances[i] := ⟨_, rfl⟩
      obtain ⟨bw, hbw⟩ : ∃ bw, bw = w.balances[i] := ⟨_, rfl⟩
      have m1 : nth v.enc (1 + i) = some (.int .u64 (w64 bv)) := by rw [hbv]; exact View.balances_at v i (by omega)
      have m2 : nth w.enc (1 + i) = some (.int .u64 (w64 bw)) := by rw [hbw]; exact View.balances_at w i (by omega)
      have hq := HN.out i (by omega) hin
      rw [← hbv, ← hbw] at hq
      have hwr : IntKind.u8.wrap (i : Int) = (i : Int) := by
        have : IntKind.u8.wrap (i : Int) = ((i % 256 : Nat) : Int) := by simp [IntKind.wrap, IntKind.bits, IntKind.signed]
        rw [this]; congr 1; omega
      have hi9 : (i : Int) + 1 ≤ 1000 := by omega
      have HIN := hid_of hin
      by_cases hi0 : i = 0
      · have hz : ((i : Int) == 0) = true := by rw [hi0]; rfl
        rw [if_pos hi0] at hq
        have ee : IntKind.u64.wrap (w64 bv + w64 x.fee) = w64 bw := by rw [hq]; exact x64_add _ _
        clear hin hi hbv hbw hq HN hi0
        go_wp2_with fail
        refine ⟨rfl, rfl, ⟨rfl, rfl, rfl, i + 1, HIN.out, ?_, _, rfl⟩, ?_⟩
        · show Value.int .i64 _ = _
          go_num
        · show 4 - (intOf (Value.int .i64 _)).toNat < 4 - (intOf (F 11)).toNat
          rw [H11.out]
          have := HIN.out
          simp [intOf]; omega
      · have hz : ((i : Int) == 0) = false := by simpa using (by omega : ¬ (i : Int) = 0)
        rw [if_neg hi0] at hq
        subst hq
        clear hin hi hbv hbw HN hi0
        go_wp2_with fail
        refine ⟨rfl, rfl, ⟨rfl, rfl, rfl, i + 1, HIN.out, ?_, _, rfl⟩, ?_⟩
        · show Value.int .i64 _ = _
          go_num
        · show 4 - (intOf (Value.int .i64 _)).toNat < 4 - (intOf (F 11)).toNat
          rw [H11.out]
          have := HIN.out
          simp [intOf]; omega
  have nt : ¬ (r.hasTook = true ∧ r.took.kind = 2) := fun e => h3 (h.mint.1 e)
  have x3 : (w8 x.kind == 3) = false := by simpa using h3
  by_cases h2 : w8 x.kind = 2
  · obtain ⟨t1, t2⟩ := h.burn.2 h2
    have t3 : (w8 r.sent.kind == 2) = true := by rw [t2]; rfl
    obtain ⟨t4, t5, t6⟩ := h.st h2
    have t4' : w8 r.sent.token = w8 x.token := by rw [t4]
    have t5' : w64 r.sent.amount = w64 x.amount := by rw [t5]
    have t6' : w8 r.sent.sender = w8 x.from_ := by rw [t6]
    have x2 : (w8 x.kind == 2) = true := by rw [h2]; rfl
    have x1 : (w8 x.kind == 1) = false := by rw [h2]; rfl
    have hK := hid_of h2
    clear h2 t2 h t4 t5 t6 h3
    cases hs : r.hasTook with
    | false =>
      clear nt
      go_enter Tryz.func59, Tryz.ntmps59
      go_upto_region 1 with fail
      rw [← HE.out.1, ← HE.out.2.2.2.2, ← HE.out.2.2.2.1, ← HE.out.2.2.1, ← HE.out.2.1]
      clear HE
      go_upto_region 11 with fail
      repeat go_step
      go_quiet (fail)
      by_cases hf0 : w8 x.from_ = 0
      · have hf1 : (w8 x.from_ == 0) = true := by rw [hf0]; rfl
        clear hf0 p0 p1 p2
        clear HH
        go_wp2_with fail
        try (first | go_ret | go_ret2 | go_ret3 | go_end0)
        exact HP1.out _
      have hf1 : (w8 x.from_ == 0) = false := by simpa using hf0
      have HN := hid_of (HH.out.bal (fun e => hf0 (by rw [e]; rfl)) (fun e => by have := hK.out; omega) (fun e => by have := hK.out; omega))
      clear HH
      go_upto_region 15 with fail
      go_wp2_with fail
      refine wp_loop_f 146 (otI W1 b4 b5 b6 b7) (fun f _ => 4 - (intOf (f 11)).toNat) rfl ⟨rfl, rfl, rfl, 0, by omega, rfl, _, rfl⟩ ?_
      intro F V hrel
      obtain ⟨f4, f6, f7, i, hi, f11, k, rfl⟩ := hrel
      have H11 := hid_of f11
      rw [frame146L, f4, f6, f7, f11]
      clear f4 f6 f7 f11
      by_cases hin : i < 4
      rotate_left 1
      · have hin' : ¬ (i : Int) < 4 := by omega
        clear hin hi HN
        go_wp2_with fail
        try (first | go_ret | go_ret2 | go_ret3 | go_end0)
        exact HP1.out _
      have hin' : (i : Int) < 4 := by omega
      have q0 : (0 : Int) ≤ (i : Int) := by omega
      have q1 : (i : Int) < 256 := by omega
      have q2 : ((i : Int)).toNat = i := by omega
      obtain ⟨bv, hbv⟩ : ∃ bv, bv = v.balances[i] := ⟨_, rfl⟩
      obtain ⟨bw, hbw⟩ : ∃ bw, bw = w.balances[i] := ⟨_, rfl⟩
      have m1 : nth v.enc (1 + i) = some (.int .u64 (w64 bv)) := by rw [hbv]; exact View.balances_at v i (by omega)
      have m2 : nth w.enc (1 + i) = some (.int .u64 (w64 bw)) := by rw [hbw]; exact View.balances_at w i (by omega)
      have hq := HN.out i (by omega) hin
      rw [← hbv, ← hbw] at hq
      have hwr : IntKind.u8.wrap (i : Int) = (i : Int) := by
        have : IntKind.u8.wrap (i : Int) = ((i % 256 : Nat) : Int) := by simp [IntKind.wrap, IntKind.bits, IntKind.signed]
        rw [this]; congr 1; omega
      have hi9 : (i : Int) + 1 ≤ 1000 := by omega
      have HIN := hid_of hin
      by_cases hi0 : i = 0
      · have hz : ((i : Int) == 0) = true := by rw [hi0]; rfl
        rw [if_pos hi0] at hq
        have ee : IntKind.u64.wrap (w64 bv + w64 x.fee) = w64 bw := by rw [hq]; exact x64_add _ _
        clear hin hi hbv hbw hq HN hi0
        go_wp2_with fail
        refine ⟨rfl, rfl, ⟨rfl, rfl, rfl, i + 1, HIN.out, ?_, _, rfl⟩, ?_⟩
        · show Value.int .i64 _ = _
          go_num
        · show 4 - (intOf (Value.int .i64 _)).toNat < 4 - (intOf (F 11)).toNat
          rw [H11.out]
          have := HIN.out
          simp [intOf]; omega
      · have hz : ((i : Int) == 0) = false := by simpa using (by omega : ¬ (i : Int) = 0)
        rw [if_neg hi0] at hq
        subst hq
        clear hin hi hbv hbw HN hi0
        go_wp2_with fail
        refine ⟨rfl, rfl, ⟨rfl, rfl, rfl, i + 1, HIN.out, ?_, _, rfl⟩, ?_⟩
        · show Value.int .i64 _ = _
          go_num
        · show 4 - (intOf (Value.int .i64 _)).toNat < 4 - (intOf (F 11)).toNat
          rw [H11.out]
          have := HIN.out
          simp [intOf]; omega
    | true =>
      have s3 : (w8 r.took.kind == 2) = false := by
        have : ¬ w8 r.took.kind = 2 := fun e => nt ⟨hs, w8_inj (b := 2) e⟩
        simpa using this
      clear nt
      go_enter Tryz.func59, Tryz.ntmps59
      go_upto_region 1 with fail
      rw [← HE.out.1, ← HE.out.2.2.2.2, ← HE.out.2.2.2.1, ← HE.out.2.2.1, ← HE.out.2.1]
      clear HE
      go_upto_region 11 with fail
      repeat go_step
      go_quiet (fail)
      by_cases hf0 : w8 x.from_ = 0
      · have hf1 : (w8 x.from_ == 0) = true := by rw [hf0]; rfl
        clear hf0 p0 p1 p2
        clear HH
        go_wp2_with fail
        try (first | go_ret | go_ret2 | go_ret3 | go_end0)
        exact HP1.out _
      have hf1 : (w8 x.from_ == 0) = false := by simpa using hf0
      have HN := hid_of (HH.out.bal (fun e => hf0 (by rw [e]; rfl)) (fun e => by have := hK.out; omega) (fun e => by have := hK.out; omega))
      clear HH
      go_upto_region 15 with fail
      go_wp2_with fail
      refine wp_loop_f 146 (otI W1 b4 b5 b6 b7) (fun f _ => 4 - (intOf (f 11)).toNat) rfl ⟨rfl, rfl, rfl, 0, by omega, rfl, _, rfl⟩ ?_
      intro F V hrel
      obtain ⟨f4, f6, f7, i, hi, f11, k, rfl⟩ := hrel
      have H11 := hid_of f11
      rw [frame146L, f4, f6, f7, f11]
      clear f4 f6 f7 f11
      by_cases hin : i < 4
      rotate_left 1
      · have hin' : ¬ (i : Int) < 4 := by omega
        clear hin hi HN
        go_wp2_with fail
        try (first | go_ret | go_ret2 | go_ret3 | go_end0)
        exact HP1.out _
      have hin' : (i : Int) < 4 := by omega
      have q0 : (0 : Int) ≤ (i : Int) := by omega
      have q1 : (i : Int) < 256 := by omega
      have q2 : ((i : Int)).toNat = i := by omega
      obtain ⟨bv, hbv⟩ : ∃ bv, bv = v.balances[i] := ⟨_, rfl⟩
      obtain ⟨bw, hbw⟩ : ∃ bw, bw = w.balances[i] := ⟨_, rfl⟩
      have m1 : nth v.enc (1 + i) = some (.int .u64 (w64 bv)) := by rw [hbv]; exact View.balances_at v i (by omega)
      have m2 : nth w.enc (1 + i) = some (.int .u64 (w64 bw)) := by rw [hbw]; exact View.balances_at w i (by omega)
      have hq := HN.out i (by omega) hin
      rw [← hbv, ← hbw] at hq
      have hwr : IntKind.u8.wrap (i : Int) = (i : Int) := by
        have : IntKind.u8.wrap (i : Int) = ((i % 256 : Nat) : Int) := by simp [IntKind.wrap, IntKind.bits, IntKind.signed]
        rw [this]; congr 1; omega
      have hi9 : (i : Int) + 1 ≤ 1000 := by omega
      have HIN := hid_of hin
      by_cases hi0 : i = 0
      · have hz : ((i : Int) == 0) = true := by rw [hi0]; rfl
        rw [if_pos hi0] at hq
        have ee : IntKind.u64.wrap (w64 bv + w64 x.fee) = w64 bw := by rw [hq]; exact x64_add _ _
        clear hin hi hbv hbw hq HN hi0
        go_wp2_with fail
        refine ⟨rfl, rfl, ⟨rfl, rfl, rfl, i + 1, HIN.out, ?_, _, rfl⟩, ?_⟩
        · show Value.int .i64 _ = _
          go_num
        · show 4 - (intOf (Value.int .i64 _)).toNat < 4 - (intOf (F 11)).toNat
          rw [H11.out]
          have := HIN.out
          simp [intOf]; omega
      · have hz : ((i : Int) == 0) = false := by simpa using (by omega : ¬ (i : Int) = 0)
        rw [if_neg hi0] at hq
        subst hq
        clear hin hi hbv hbw HN hi0
        go_wp2_with fail
        refine ⟨rfl, rfl, ⟨rfl, rfl, rfl, i + 1, HIN.out, ?_, _, rfl⟩, ?_⟩
        · show Value.int .i64 _ = _
          go_num
        · show 4 - (intOf (Value.int .i64 _)).toNat < 4 - (intOf (F 11)).toNat
          rw [H11.out]
          have := HIN.out
          simp [intOf]; omega
  have ns : ¬ (r.hasSent = true ∧ r.sent.kind = 2) := fun e => h2 (h.burn.1 e)
  have x2 : (w8 x.kind == 2) = false := by simpa using h2
  have hK : Hid (¬ w8 x.kind = 3 ∧ ¬ w8 x.kind = 2) := ⟨h3, h2⟩
  clear h h3 h2
  cases ht : r.hasTook with
  | false =>
    clear nt
    cases hs : r.hasSent with
    | false =>
      clear ns
      go_enter Tryz.func59, Tryz.ntmps59
      go_upto_region 1 with fail
      rw [← HE.out.1, ← HE.out.2.2.2.2, ← HE.out.2.2.2.1, ← HE.out.2.2.1, ← HE.out.2.1]
      clear HE
      go_upto_region 11 with fail
      repeat go_step
      go_quiet (fail)
      by_cases hf0 : w8 x.from_ = 0
      · have hf1 : (w8 x.from_ == 0) = true := by rw [hf0]; rfl
        clear hf0 p0 p1 p2
        clear HH
        go_wp2_with fail
        try (first | go_ret | go_ret2 | go_ret3 | go_end0)
        exact HP1.out _
      have hf1 : (w8 x.from_ == 0) = false := by simpa using hf0
      by_cases h10 : w8 x.kind = 1
      · have h11 : (w8 x.kind == 1) = true := by rw [h10]; rfl
        by_cases ht0 : w8 x.to_ = 0
        · have ht1 : (w8 x.to_ == 0) = true := by rw [ht0]; rfl
          clear ht0 h10 hf0
          clear HH
          go_wp2_with fail
          try (first | go_ret | go_ret2 | go_ret3 | go_end0)
          exact HP1.out _
        have ht1 : (w8 x.to_ == 0) = false := by simpa using ht0
        have HN := hid_of (HH.out.bal (fun e => hf0 (by rw [e]; rfl)) (fun e => ht0 (by rw [e.2]; rfl)) (fun e => hK.out.1 e.1))
        clear HH
        go_upto_region 15 with fail
        go_wp2_with fail
        refine wp_loop_f 146 (otI W1 b4 b5 b6 b7) (fun f _ => 4 - (intOf (f 11)).toNat) rfl ⟨rfl, rfl, rfl, 0, by omega, rfl, _, rfl⟩ ?_
        intro F V hrel
        obtain ⟨f4, f6, f7, i, hi, f11, k, rfl⟩ := hrel
        have H11 := hid_of f11
        rw [frame146L, f4, f6, f7, f11]
        clear f4 f6 f7 f11
        by_cases hin : i < 4
        rotate_left 1
        · have hin' : ¬ (i : Int) < 4 := by omega
          clear hin hi HN
          go_wp2_with fail
          try (first | go_ret | go_ret2 | go_ret3 | go_end0)
          exact HP1.out _
        have hin' : (i : Int) < 4 := by omega
        have q0 : (0 : Int) ≤ (i : Int) := by omega
        have q1 : (i : Int) < 256 := by omega
        have q2 : ((i : Int)).toNat = i := by omega
        obtain ⟨bv, hbv⟩ : ∃ bv, bv = v.balances[i] := ⟨_, rfl⟩
        obtain ⟨bw, hbw⟩ : ∃ bw, bw = w.balances[i] := ⟨_, rfl⟩
        have m1 : nth v.enc (1 + i) = some (.int .u64 (w64 bv)) := by rw [hbv]; exact View.balances_at v i (by omega)
        have m2 : nth w.enc (1 + i) = some (.int .u64 (w64 bw)) := by rw [hbw]; exact View.balances_at w i (by omega)
        have hq := HN.out i (by omega) hin
        rw [← hbv, ← hbw] at hq
        have hwr : IntKind.u8.wrap (i : Int) = (i : Int) := by
          have : IntKind.u8.wrap (i : Int) = ((i % 256 : Nat) : Int) := by simp [IntKind.wrap, IntKind.bits, IntKind.signed]
          rw [this]; congr 1; omega
        have hi9 : (i : Int) + 1 ≤ 1000 := by omega
        have HIN := hid_of hin
        by_cases hi0 : i = 0
        · have hz : ((i : Int) == 0) = true := by rw [hi0]; rfl
          rw [if_pos hi0] at hq
          have ee : IntKind.u64.wrap (w64 bv + w64 x.fee) = w64 bw := by rw [hq]; exact x64_add _ _
          clear hin hi hbv hbw hq HN hi0
          go_wp2_with fail
          refine ⟨rfl, rfl, ⟨rfl, rfl, rfl, i + 1, HIN.out, ?_, _, rfl⟩, ?_⟩
          · show Value.int .i64 _ = _
            go_num
          · show 4 - (intOf (Value.int .i64 _)).toNat < 4 - (intOf (F 11)).toNat
            rw [H11.out]
            have := HIN.out
            simp [intOf]; omega
        · have hz : ((i : Int) == 0) = false := by simpa using (by omega : ¬ (i : Int) = 0)
          rw [if_neg hi0] at hq
          subst hq
          clear hin hi hbv hbw HN hi0
          go_wp2_with fail
          refine ⟨rfl, rfl, ⟨rfl, rfl, rfl, i + 1, HIN.out, ?_, _, rfl⟩, ?_⟩
          · show Value.int .i64 _ = _
            go_num
          · show 4 - (intOf (Value.int .i64 _)).toNat < 4 - (intOf (F 11)).toNat
            rw [H11.out]
            have := HIN.out
            simp [intOf]; omega
      have h11 : (w8 x.kind == 1) = false := by simpa using h10
      have HN := hid_of (HH.out.bal (fun e => hf0 (by rw [e]; rfl)) (fun e => h10 e.1) (fun e => hK.out.1 e.1))
      clear HH
      go_upto_region 15 with fail
      go_wp2_with fail
      refine wp_loop_f 146 (otI W1 b4 b5 b6 b7) (fun f _ => 4 - (intOf (f 11)).toNat) rfl ⟨rfl, rfl, rfl, 0, by omega, rfl, _, rfl⟩ ?_
      intro F V hrel
      obtain ⟨f4, f6, f7, i, hi, f11, k, rfl⟩ := hrel
      have H11 := hid_of f11
      rw [frame146L, f4, f6, f7, f11]
      clear f4 f6 f7 f11
      by_cases hin : i < 4
      rotate_left 1
      · have hin' : ¬ (i : Int) < 4 := by omega
        clear hin hi HN
        go_wp2_with fail
        try (first | go_ret | go_ret2 | go_ret3 | go_end0)
        exact HP1.out _
      have hin' : (i : Int) < 4 := by omega
      have q0 : (0 : Int) ≤ (i : Int) := by omega
      have q1 : (i : Int) < 256 := by omega
      have q2 : ((i : Int)).toNat = i := by omega
      obtain ⟨bv, hbv⟩ : ∃ bv, bv = v.balances[i] := ⟨_, rfl⟩
      obtain ⟨bw, hbw⟩ : ∃ bw, bw = w.balances[i] := ⟨_, rfl⟩
      have m1 : nth v.enc (1 + i) = some (.int .u64 (w64 bv)) := by rw [hbv]; exact View.balances_at v i (by omega)
      have m2 : nth w.enc (1 + i) = some (.int .u64 (w64 bw)) := by rw [hbw]; exact View.balances_at w i (by omega)
      have hq := HN.out i (by omega) hin
      rw [← hbv, ← hbw] at hq
      have hwr : IntKind.u8.wrap (i : Int) = (i : Int) := by
        have : IntKind.u8.wrap (i : Int) = ((i % 256 : Nat) : Int) := by simp [IntKind.wrap, IntKind.bits, IntKind.signed]
        rw [this]; congr 1; omega
      have hi9 : (i : Int) + 1 ≤ 1000 := by omega
      have HIN := hid_of hin
      by_cases hi0 : i = 0
      · have hz : ((i : Int) == 0) = true := by rw [hi0]; rfl
        rw [if_pos hi0] at hq
        have ee : IntKind.u64.wrap (w64 bv + w64 x.fee) = w64 bw := by rw [hq]; exact x64_add _ _
        clear hin hi hbv hbw hq HN hi0
        go_wp2_with fail
        refine ⟨rfl, rfl, ⟨rfl, rfl, rfl, i + 1, HIN.out, ?_, _, rfl⟩, ?_⟩
        · show Value.int .i64 _ = _
          go_num
        · show 4 - (intOf (Value.int .i64 _)).toNat < 4 - (intOf (F 11)).toNat
          rw [H11.out]
          have := HIN.out
          simp [intOf]; omega
      · have hz : ((i : Int) == 0) = false := by simpa using (by omega : ¬ (i : Int) = 0)
        rw [if_neg hi0] at hq
        subst hq
        clear hin hi hbv hbw HN hi0
        go_wp2_with fail
        refine ⟨rfl, rfl, ⟨rfl, rfl, rfl, i + 1, HIN.out, ?_, _, rfl⟩, ?_⟩
        · show Value.int .i64 _ = _
          go_num
        · show 4 - (intOf (Value.int .i64 _)).toNat < 4 - (intOf (F 11)).toNat
          rw [H11.out]
          have := HIN.out
          simp [intOf]; omega
    | true =>
      have s3 : (w8 r.sent.kind == 2) = false := by
        have : ¬ w8 r.sent.kind = 2 := fun e => ns ⟨hs, w8_inj (b := 2) e⟩
        simpa using this
      clear ns
      go_enter Tryz.func59, Tryz.ntmps59
      go_upto_region 1 with fail
      rw [← HE.out.1, ← HE.out.2.2.2.2, ← HE.out.2.2.2.1, ← HE.out.2.2.1, ← HE.out.2.1]
      clear HE
      go_upto_region 11 with fail
      repeat go_step
      go_quiet (fail)
      by_cases hf0 : w8 x.from_ = 0
      · have hf1 : (w8 x.from_ == 0) = true := by rw [hf0]; rfl
        clear hf0 p0 p1 p2
        clear HH
        go_wp2_with fail
        try (first | go_ret | go_ret2 | go_ret3 | go_end0)
        exact HP1.out _
      have hf1 : (w8 x.from_ == 0) = false := by simpa using hf0
      by_cases h10 : w8 x.kind = 1
      · have h11 : (w8 x.kind == 1) = true := by rw [h10]; rfl
        by_cases ht0 : w8 x.to_ = 0
        · have ht1 : (w8 x.to_ == 0) = true := by rw [ht0]; rfl
          clear ht0 h10 hf0
          clear HH
          go_wp2_with fail
          try (first | go_ret | go_ret2 | go_ret3 | go_end0)
          exact HP1.out _
        have ht1 : (w8 x.to_ == 0) = false := by simpa using ht0
        have HN := hid_of (HH.out.bal (fun e => hf0 (by rw [e]; rfl)) (fun e => ht0 (by rw [e.2]; rfl)) (fun e => hK.out.1 e.1))
        clear HH
        go_upto_region 15 with fail
        go_wp2_with fail
        refine wp_loop_f 146 (otI W1 b4 b5 b6 b7) (fun f _ => 4 - (intOf (f 11)).toNat) rfl ⟨rfl, rfl, rfl, 0, by omega, rfl, _, rfl⟩ ?_
        intro F V hrel
        obtain ⟨f4, f6, f7, i, hi, f11, k, rfl⟩ := hrel
        have H11 := hid_of f11
        rw [frame146L, f4, f6, f7, f11]
        clear f4 f6 f7 f11
        by_cases hin : i < 4
        rotate_left 1
        · have hin' : ¬ (i : Int) < 4 := by omega
          clear hin hi HN
          go_wp2_with fail
          try (first | go_ret | go_ret2 | go_ret3 | go_end0)
          exact HP1.out _
        have hin' : (i : Int) < 4 := by omega
        have q0 : (0 : Int) ≤ (i : Int) := by omega
        have q1 : (i : Int) < 256 := by omega
        have q2 : ((i : Int)).toNat = i := by omega
        obtain ⟨bv, hbv⟩ : ∃ bv, bv = v.balances[i] := ⟨_, rfl⟩
        obtain ⟨bw, hbw⟩ : ∃ bw, bw = w.balances[i] := ⟨_, rfl⟩
        have m1 : nth v.enc (1 + i) = some (.int .u64 (w64 bv)) := by rw [hbv]; exact View.balances_at v i (by omega)
        have m2 : nth w.enc (1 + i) = some (.int .u64 (w64 bw)) := by rw [hbw]; exact View.balances_at w i (by omega)
        have hq := HN.out i (by omega) hin
        rw [← hbv, ← hbw] at hq
        have hwr : IntKind.u8.wrap (i : Int) = (i : Int) := by
          have : IntKind.u8.wrap (i : Int) = ((i % 256 : Nat) : Int) := by simp [IntKind.wrap, IntKind.bits, IntKind.signed]
          rw [this]; congr 1; omega
        have hi9 : (i : Int) + 1 ≤ 1000 := by omega
        have HIN := hid_of hin
        by_cases hi0 : i = 0
        · have hz : ((i : Int) == 0) = true := by rw [hi0]; rfl
          rw [if_pos hi0] at hq
          have ee : IntKind.u64.wrap (w64 bv + w64 x.fee) = w64 bw := by rw [hq]; exact x64_add _ _
          clear hin hi hbv hbw hq HN hi0
          go_wp2_with fail
          refine ⟨rfl, rfl, ⟨rfl, rfl, rfl, i + 1, HIN.out, ?_, _, rfl⟩, ?_⟩
          · show Value.int .i64 _ = _
            go_num
          · show 4 - (intOf (Value.int .i64 _)).toNat < 4 - (intOf (F 11)).toNat
            rw [H11.out]
            have := HIN.out
            simp [intOf]; omega
        · have hz : ((i : Int) == 0) = false := by simpa using (by omega : ¬ (i : Int) = 0)
          rw [if_neg hi0] at hq
          subst hq
          clear hin hi hbv hbw HN hi0
          go_wp2_with fail
          refine ⟨rfl, rfl, ⟨rfl, rfl, rfl, i + 1, HIN.out, ?_, _, rfl⟩, ?_⟩
          · show Value.int .i64 _ = _
            go_num
          · show 4 - (intOf (Value.int .i64 _)).toNat < 4 - (intOf (F 11)).toNat
            rw [H11.out]
            have := HIN.out
            simp [intOf]; omega
      have h11 : (w8 x.kind == 1) = false := by simpa using h10
      have HN := hid_of (HH.out.bal (fun e => hf0 (by rw [e]; rfl)) (fun e => h10 e.1) (fun e => hK.out.1 e.1))
      clear HH
      go_upto_region 15 with fail
      go_wp2_with fail
      refine wp_loop_f 146 (otI W1 b4 b5 b6 b7) (fun f _ => 4 - (intOf (f 11)).toNat) rfl ⟨rfl, rfl, rfl, 0, by omega, rfl, _, rfl⟩ ?_
      intro F V hrel
      obtain ⟨f4, f6, f7, i, hi, f11, k, rfl⟩ := hrel
      have H11 := hid_of f11
      rw [frame146L, f4, f6, f7, f11]
      clear f4 f6 f7 f11
      by_cases hin : i < 4
      rotate_left 1
      · have hin' : ¬ (i : Int) < 4 := by omega
        clear hin hi HN
        go_wp2_with fail
        try (first | go_ret | go_ret2 | go_ret3 | go_end0)
        exact HP1.out _
      have hin' : (i : Int) < 4 := by omega
      have q0 : (0 : Int) ≤ (i : Int) := by omega
      have q1 : (i : Int) < 256 := by omega
      have q2 : ((i : Int)).toNat = i := by omega
      obtain ⟨bv, hbv⟩ : ∃ bv, bv = v.balances[i] := ⟨_, rfl⟩
      obtain ⟨bw, hbw⟩ : ∃ bw, bw = w.balances[i] := ⟨_, rfl⟩
      have m1 : nth v.enc (1 + i) = some (.int .u64 (w64 bv)) := by rw [hbv]; exact View.balances_at v i (by omega)
      have m2 : nth w.enc (1 + i) = some (.int .u64 (w64 bw)) := by rw [hbw]; exact View.balances_at w i (by omega)
      have hq := HN.out i (by omega) hin
      rw [← hbv, ← hbw] at hq
      have hwr : IntKind.u8.wrap (i : Int) = (i : Int) := by
        have : IntKind.u8.wrap (i : Int) = ((i % 256 : Nat) : Int) := by simp [IntKind.wrap, IntKind.bits, IntKind.signed]
        rw [this]; congr 1; omega
      have hi9 : (i : Int) + 1 ≤ 1000 := by omega
      have HIN := hid_of hin
      by_cases hi0 : i = 0
      · have hz : ((i : Int) == 0) = true := by rw [hi0]; rfl
        rw [if_pos hi0] at hq
        have ee : IntKind.u64.wrap (w64 bv + w64 x.fee) = w64 bw := by rw [hq]; exact x64_add _ _
        clear hin hi hbv hbw hq HN hi0
        go_wp2_with fail
        refine ⟨rfl, rfl, ⟨rfl, rfl, rfl, i + 1, HIN.out, ?_, _, rfl⟩, ?_⟩
        · show Value.int .i64 _ = _
          go_num
        · show 4 - (intOf (Value.int .i64 _)).toNat < 4 - (intOf (F 11)).toNat
          rw [H11.out]
          have := HIN.out
          simp [intOf]; omega
      · have hz : ((i : Int) == 0) = false := by simpa using (by omega : ¬ (i : Int) = 0)
        rw [if_neg hi0] at hq
        subst hq
        clear hin hi hbv hbw HN hi0
        go_wp2_with fail
        refine ⟨rfl, rfl, ⟨rfl, rfl, rfl, i + 1, HIN.out, ?_, _, rfl⟩, ?_⟩
        · show Value.int .i64 _ = _
          go_num
        · show 4 - (intOf (Value.int .i64 _)).toNat < 4 - (intOf (F 11)).toNat
          rw [H11.out]
          have := HIN.out
          simp [intOf]; omega
  | true =>
    have t3 : (w8 r.took.kind == 2) = false := by
      have : ¬ w8 r.took.kind = 2 := fun e => nt ⟨ht, w8_inj (b := 2) e⟩
      simpa using this
    clear nt
    cases hs : r.hasSent with
    | false =>
      clear ns
      go_enter Tryz.func59, Tryz.ntmps59
      go_upto_region 1 with fail
      rw [← HE.out.1, ← HE.out.2.2.2.2, ← HE.out.2.2.2.1, ← HE.out.2.2.1, ← HE.out.2.1]
      clear HE
      go_upto_region 11 with fail
      repeat go_step
      go_quiet (fail)
      by_cases hf0 : w8 x.from_ = 0
      · have hf1 : (w8 x.from_ == 0) = true := by rw [hf0]; rfl
        clear hf0 p0 p1 p2
        clear HH
        go_wp2_with fail
        try (first | go_ret | go_ret2 | go_ret3 | go_end0)
        exact HP1.out _
      have hf1 : (w8 x.from_ == 0) = false := by simpa using hf0
      by_cases h10 : w8 x.kind = 1
      · have h11 : (w8 x.kind == 1) = true := by rw [h10]; rfl
        by_cases ht0 : w8 x.to_ = 0
        · have ht1 : (w8 x.to_ == 0) = true := by rw [ht0]; rfl
          clear ht0 h10 hf0
          clear HH
          go_wp2_with fail
          try (first | go_ret | go_ret2 | go_ret3 | go_end0)
          exact HP1.out _
        have ht1 : (w8 x.to_ == 0) = false := by simpa using ht0
        have HN := hid_of (HH.out.bal (fun e => hf0 (by rw [e]; rfl)) (fun e => ht0 (by rw [e.2]; rfl)) (fun e => hK.out.1 e.1))
        clear HH
        go_upto_region 15 with fail
        go_wp2_with fail
        refine wp_loop_f 146 (otI W1 b4 b5 b6 b7) (fun f _ => 4 - (intOf (f 11)).toNat) rfl ⟨rfl, rfl, rfl, 0, by omega, rfl, _, rfl⟩ ?_
        intro F V hrel
        obtain ⟨f4, f6, f7, i, hi, f11, k, rfl⟩ := hrel
        have H11 := hid_of f11
        rw [frame146L, f4, f6, f7, f11]
        clear f4 f6 f7 f11
        by_cases hin : i < 4
        rotate_left 1
        · have hin' : ¬ (i : Int) < 4 := by omega
          clear hin hi HN
          go_wp2_with fail
          try (first | go_ret | go_ret2 | go_ret3 | go_end0)
          exact HP1.out _
        have hin' : (i : Int) < 4 := by omega
        have q0 : (0 : Int) ≤ (i : Int) := by omega
        have q1 : (i : Int) < 256 := by omega
        have q2 : ((i : Int)).toNat = i := by omega
        obtain ⟨bv, hbv⟩ : ∃ bv, bv = v.balances[i] := ⟨_, rfl⟩
        obtain ⟨bw, hbw⟩ : ∃ bw, bw = w.balances[i] := ⟨_, rfl⟩
        have m1 : nth v.enc (1 + i) = some (.int .u64 (w64 bv)) := by rw [hbv]; exact View.balances_at v i (by omega)
        have m2 : nth w.enc (1 + i) = some (.int .u64 (w64 bw)) := by rw [hbw]; exact View.balances_at w i (by omega)
        have hq := HN.out i (by omega) hin
        rw [← hbv, ← hbw] at hq
        have hwr : IntKind.u8.wrap (i : Int) = (i : Int) := by
          have : IntKind.u8.wrap (i : Int) = ((i % 256 : Nat) : Int) := by simp [IntKind.wrap, IntKind.bits, IntKind.signed]
          rw [this]; congr 1; omega
        have hi9 : (i : Int) + 1 ≤ 1000 := by omega
        have HIN := hid_of hin
        by_cases hi0 : i = 0
        · have hz : ((i : Int) == 0) = true := by rw [hi0]; rfl
          rw [if_pos hi0] at hq
          have ee : IntKind.u64.wrap (w64 bv + w64 x.fee) = w64 bw := by rw [hq]; exact x64_add _ _
          clear hin hi hbv hbw hq HN hi0
          go_wp2_with fail
          refine ⟨rfl, rfl, ⟨rfl, rfl, rfl, i + 1, HIN.out, ?_, _, rfl⟩, ?_⟩
          · show Value.int .i64 _ = _
            go_num
          · show 4 - (intOf (Value.int .i64 _)).toNat < 4 - (intOf (F 11)).toNat
            rw [H11.out]
            have := HIN.out
            simp [intOf]; omega
        · have hz : ((i : Int) == 0) = false := by simpa using (by omega : ¬ (i : Int) = 0)
          rw [if_neg hi0] at hq
          subst hq
          clear hin hi hbv hbw HN hi0
          go_wp2_with fail
          refine ⟨rfl, rfl, ⟨rfl, rfl, rfl, i + 1, HIN.out, ?_, _, rfl⟩, ?_⟩
          · show Value.int .i64 _ = _
            go_num
          · show 4 - (intOf (Value.int .i64 _)).toNat < 4 - (intOf (F 11)).toNat
            rw [H11.out]
            have := HIN.out
            simp [intOf]; omega
      have h11 : (w8 x.kind == 1) = false := by simpa using h10
      have HN := hid_of (HH.out.bal (fun e => hf0 (by rw [e]; rfl)) (fun e => h10 e.1) (fun e => hK.out.1 e.1))
      clear HH
      go_upto_region 15 with fail
      go_wp2_with fail
      refine wp_loop_f 146 (otI W1 b4 b5 b6 b7) (fun f _ => 4 - (intOf (f 11)).toNat) rfl ⟨rfl, rfl, rfl, 0, by omega, rfl, _, rfl⟩ ?_
      intro F V hrel
      obtain ⟨f4, f6, f7, i, hi, f11, k, rfl⟩ := hrel
      have H11 := hid_of f11
      rw [frame146L, f4, f6, f7, f11]
      clear f4 f6 f7 f11
      by_cases hin : i < 4
      rotate_left 1
      · have hin' : ¬ (i : Int) < 4 := by omega
        clear hin hi HN
        go_wp2_with fail
        try (first | go_ret | go_ret2 | go_ret3 | go_end0)
        exact HP1.out _
      have hin' : (i : Int) < 4 := by omega
      have q0 : (0 : Int) ≤ (i : Int) := by omega
      have q1 : (i : Int) < 256 := by omega
      have q2 : ((i : Int)).toNat = i := by omega
      obtain ⟨bv, hbv⟩ : ∃ bv, bv = v.balances[i] := ⟨_, rfl⟩
      obtain ⟨bw, hbw⟩ : ∃ bw, bw = w.balances[i] := ⟨_, rfl⟩
      have m1 : nth v.enc (1 + i) = some (.int .u64 (w64 bv)) := by rw [hbv]; exact View.balances_at v i (by omega)
      have m2 : nth w.enc (1 + i) = some (.int .u64 (w64 bw)) := by rw [hbw]; exact View.balances_at w i (by omega)
      have hq := HN.out i (by omega) hin
      rw [← hbv, ← hbw] at hq
      have hwr : IntKind.u8.wrap (i : Int) = (i : Int) := by
        have : IntKind.u8.wrap (i : Int) = ((i % 256 : Nat) : Int) := by simp [IntKind.wrap, IntKind.bits, IntKind.signed]
        rw [this]; congr 1; omega
      have hi9 : (i : Int) + 1 ≤ 1000 := by omega
      have HIN := hid_of hin
      by_cases hi0 : i = 0
      · have hz : ((i : Int) == 0) = true := by rw [hi0]; rfl
        rw [if_pos hi0] at hq
        have ee : IntKind.u64.wrap (w64 bv + w64 x.fee) = w64 bw := by rw [hq]; exact x64_add _ _
        clear hin hi hbv hbw hq HN hi0
        go_wp2_with fail
        refine ⟨rfl, rfl, ⟨rfl, rfl, rfl, i + 1, HIN.out, ?_, _, rfl⟩, ?_⟩
        · show Value.int .i64 _ = _
          go_num
        · show 4 - (intOf (Value.int .i64 _)).toNat < 4 - (intOf (F 11)).toNat
          rw [H11.out]
          have := HIN.out
          simp [intOf]; omega
      · have hz : ((i : Int) == 0) = false := by simpa using (by omega : ¬ (i : Int) = 0)
        rw [if_neg hi0] at hq
        subst hq
        clear hin hi hbv hbw HN hi0
        go_wp2_with fail
        refine ⟨rfl, rfl, ⟨rfl, rfl, rfl, i + 1, HIN.out, ?_, _, rfl⟩, ?_⟩
        · show Value.int .i64 _ = _
          go_num
        · show 4 - (intOf (Value.int .i64 _)).toNat < 4 - (intOf (F 11)).toNat
          rw [H11.out]
          have := HIN.out
          simp [intOf]; omega
    | true =>
      have s3 : (w8 r.sent.kind == 2) = false := by
        have : ¬ w8 r.sent.kind = 2 := fun e => ns ⟨hs, w8_inj (b := 2) e⟩
        simpa using this
      clear ns
      go_enter Tryz.func59, Tryz.ntmps59
      go_upto_region 1 with fail
      rw [← HE.out.1, ← HE.out.2.2.2.2, ← HE.out.2.2.2.1, ← HE.out.2.2.1, ← HE.out.2.1]
      clear HE
      go_upto_region 11 with fail
      repeat go_step
      go_quiet (fail)
      by_cases hf0 : w8 x.from_ = 0
      · have hf1 : (w8 x.from_ == 0) = true := by rw [hf0]; rfl
        clear hf0 p0 p1 p2
        clear HH
        go_wp2_with fail
        try (first | go_ret | go_ret2 | go_ret3 | go_end0)
        exact HP1.out _
      have hf1 : (w8 x.from_ == 0) = false := by simpa using hf0
      by_cases h10 : w8 x.kind = 1
      · have h11 : (w8 x.kind == 1) = true := by rw [h10]; rfl
        by_cases ht0 : w8 x.to_ = 0
        · have ht1 : (w8 x.to_ == 0) = true := by rw [ht0]; rfl
          clear ht0 h10 hf0
          clear HH
          go_wp2_with fail
          try (first | go_ret | go_ret2 | go_ret3 | go_end0)
          exact HP1.out _
        have ht1 : (w8 x.to_ == 0) = false := by simpa using ht0
        have HN := hid_of (HH.out.bal (fun e => hf0 (by rw [e]; rfl)) (fun e => ht0 (by rw [e.2]; rfl)) (fun e => hK.out.1 e.1))
        clear HH
        go_upto_region 15 with fail
        go_wp2_with fail
        refine wp_loop_f 146 (otI W1 b4 b5 b6 b7) (fun f _ => 4 - (intOf (f 11)).toNat) rfl ⟨rfl, rfl, rfl, 0, by omega, rfl, _, rfl⟩ ?_
        intro F V hrel
        obtain ⟨f4, f6, f7, i, hi, f11, k, rfl⟩ := hrel
        have H11 := hid_of f11
        rw [frame146L, f4, f6, f7, f11]
        clear f4 f6 f7 f11
        by_cases hin : i < 4
        rotate_left 1
        · have hin' : ¬ (i : Int) < 4 := by omega
          clear hin hi HN
          go_wp2_with fail
          try (first | go_ret | go_ret2 | go_ret3 | go_end0)
          exact HP1.out _
        have hin' : (i : Int) < 4 := by omega
        have q0 : (0 : Int) ≤ (i : Int) := by omega
        have q1 : (i : Int) < 256 := by omega
        have q2 : ((i : Int)).toNat = i := by omega
        obtain ⟨bv, hbv⟩ : ∃ bv, bv = v.balances[i] := ⟨_, rfl⟩
        obtain ⟨bw, hbw⟩ : ∃ bw, bw = w.balances[i] := ⟨_, rfl⟩
        have m1 : nth v.enc (1 + i) = some (.int .u64 (w64 bv)) := by rw [hbv]; exact View.balances_at v i (by omega)
        have m2 : nth w.enc (1 + i) = some (.int .u64 (w64 bw)) := by rw [hbw]; exact View.balances_at w i (by omega)
        have hq := HN.out i (by omega) hin
        rw [← hbv, ← hbw] at hq
        have hwr : IntKind.u8.wrap (i : Int) = (i : Int) := by
          have : IntKind.u8.wrap (i : Int) = ((i % 256 : Nat) : Int) := by simp [IntKind.wrap, IntKind.bits, IntKind.signed]
          rw [this]; congr 1; omega
        have hi9 : (i : Int) + 1 ≤ 1000 := by omega
        have HIN := hid_of hin
        by_cases hi0 : i = 0
        · have hz : ((i : Int) == 0) = true := by rw [hi0]; rfl
          rw [if_pos hi0] at hq
          have ee : IntKind.u64.wrap (w64 bv + w64 x.fee) = w64 bw := by rw [hq]; exact x64_add _ _
          clear hin hi hbv hbw hq HN hi0
          go_wp2_with fail
          refine ⟨rfl, rfl, ⟨rfl, rfl, rfl, i + 1, HIN.out, ?_, _, rfl⟩, ?_⟩
          · show Value.int .i64 _ = _
            go_num
          · show 4 - (intOf (Value.int .i64 _)).toNat < 4 - (intOf (F 11)).toNat
            rw [H11.out]
            have := HIN.out
            simp [intOf]; omega
        · have hz : ((i : Int) == 0) = false := by simpa using (by omega : ¬ (i : Int) = 0)
          rw [if_neg hi0] at hq
          subst hq
          clear hin hi hbv hbw HN hi0
          go_wp2_with fail
          refine ⟨rfl, rfl, ⟨rfl, rfl, rfl, i + 1, HIN.out, ?_, _, rfl⟩, ?_⟩
          · show Value.int .i64 _ = _
            go_num
          · show 4 - (intOf (Value.int .i64 _)).toNat < 4 - (intOf (F 11)).toNat
            rw [H11.out]
            have := HIN.out
            simp [intOf]; omega
      have h11 : (w8 x.kind == 1) = false := by simpa using h10
      have HN := hid_of (HH.out.bal (fun e => hf0 (by rw [e]; rfl)) (fun e => h10 e.1) (fun e => hK.out.1 e.1))
      clear HH
      go_upto_region 15 with fail
      go_wp2_with fail
      refine wp_loop_f 146 (otI W1 b4 b5 b6 b7) (fun f _ => 4 - (intOf (f 11)).toNat) rfl ⟨rfl, rfl, rfl, 0, by omega, rfl, _, rfl⟩ ?_
      intro F V hrel
      obtain ⟨f4, f6, f7, i, hi, f11, k, rfl⟩ := hrel
      have H11 := hid_of f11
      rw [frame146L, f4, f6, f7, f11]
      clear f4 f6 f7 f11
      by_cases hin : i < 4
      rotate_left 1
      · have hin' : ¬ (i : Int) < 4 := by omega
        clear hin hi HN
        go_wp2_with fail
        try (first | go_ret | go_ret2 | go_ret3 | go_end0)
        exact HP1.out _
      have hin' : (i : Int) < 4 := by omega
      have q0 : (0 : Int) ≤ (i : Int) := by omega
      have q1 : (i : Int) < 256 := by omega
      have q2 : ((i : Int)).toNat = i := by omega
      obtain ⟨bv, hbv⟩ : ∃ bv, bv = v.balances[i] := ⟨_, rfl⟩
      obtain ⟨bw, hbw⟩ : ∃ bw, bw = w.balances[i] := ⟨_, rfl⟩
      have m1 : nth v.enc (1 + i) = some (.int .u64 (w64 bv)) := by rw [hbv]; exact View.balances_at v i (by omega)
      have m2 : nth w.enc (1 + i) = some (.int .u64 (w64 bw)) := by rw [hbw]; exact View.balances_at w i (by omega)
      have hq := HN.out i (by omega) hin
      rw [← hbv, ← hbw] at hq
      have hwr : IntKind.u8.wrap (i : Int) = (i : Int) := by
        have : IntKind.u8.wrap (i : Int) = ((i % 256 : Nat) : Int) := by simp [IntKind.wrap, IntKind.bits, IntKind.signed]
        rw [this]; congr 1; omega
      have hi9 : (i : Int) + 1 ≤ 1000 := by omega
      have HIN := hid_of hin
      by_cases hi0 : i = 0
      · have hz : ((i : Int) == 0) = true := by rw [hi0]; rfl
        rw [if_pos hi0] at hq
        have ee : IntKind.u64.wrap (w64 bv + w64 x.fee) = w64 bw := by rw [hq]; exact x64_add _ _
        clear hin hi hbv hbw hq HN hi0
        go_wp2_with fail
        refine ⟨rfl, rfl, ⟨rfl, rfl, rfl, i + 1, HIN.out, ?_, _, rfl⟩, ?_⟩
        · show Value.int .i64 _ = _
          go_num
        · show 4 - (intOf (Value.int .i64 _)).toNat < 4 - (intOf (F 11)).toNat
          rw [H11.out]
          have := HIN.out
          simp [intOf]; omega
      · have hz : ((i : Int) == 0) = false := by simpa using (by omega : ¬ (i : Int) = 0)
        rw [if_neg hi0] at hq
        subst hq
        clear hin hi hbv hbw HN hi0
        go_wp2_with fail
        refine ⟨rfl, rfl, ⟨rfl, rfl, rfl, i + 1, HIN.out, ?_, _, rfl⟩, ?_⟩
        · show Value.int .i64 _ = _
          go_num
        · show 4 - (intOf (Value.int .i64 _)).toNat < 4 - (intOf (F 11)).toNat
          rw [H11.out]
          have := HIN.out
          simp [intOf]; omega
end Go.Proofs.Qxb6500786aGreat
