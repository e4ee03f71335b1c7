import Derived.DeepKeys2
import Derived.Test.Qxb6500786aGreatWp
import Derived.Test.Qxb6500786aGreatNk
import Derived.Test.Qxb6500786aGreatTyc

import Derived.StillTailTactics
import Derived.Deep.QuietTactic
import Derived.BigQuiet
import Derived.Deep.RegionHeld
import Derived.Deep.CutRange
import Derived.Laws.ResultCell
import Derived.Laws.Rows
import Derived.DeepKeys
import Derived.DataBytes
import Derived.Laws.StructEq
import Derived.Laws.AppendOwn
import Derived.Laws.MakeOwn
import Derived.Lib.AppendStr
set_option linter.unusedSimpArgs false
set_option linter.unusedVariables false
namespace Go.Proofs.Qxb6500786aGreat
open Go.RowKit Go.Blk
attribute [local go_sem ↓] execOp_load execOp_store execOp_alloc
attribute [local go_sem] Tryz.ld24 Tryz.st24 Tryz.ld36 Tryz.st36 Tryz.ld28 Tryz.st28 Tryz.ld32 Tryz.st32 Tryz.ld33 Tryz.st33 Tryz.ld34 Tryz.st34 Tryz.ld5 Tryz.st5 Tryz.ld31 Tryz.st31 Tryz.ld30 Tryz.st30 Tryz.ld41 Tryz.st41 Tryz.ld44 Tryz.st44 Tryz.ld4 Tryz.st4 Tryz.ld173 Tryz.st173 Tryz.ld174 Tryz.st174 Tryz.ld95 Tryz.st95 Tryz.ld45 Tryz.st45 Tryz.ld207 Tryz.st207 Tryz.ld3 Tryz.st3 Tryz.ld189 Tryz.st189 Tryz.ld2 Tryz.st2 Tryz.ld9 Tryz.st9 Tryz.ld12 Tryz.st12 Tryz.ld21 Tryz.st21 Tryz.ld22 Tryz.st22 Tryz.ld46 Tryz.st46 Tryz.ld92 Tryz.st92 Tryz.ld94 Tryz.st94 Tryz.ld96 Tryz.st96 Tryz.ld97 Tryz.st97 Tryz.ld105 Tryz.st105 Tryz.ld117 Tryz.st117 Tryz.ld122 Tryz.st122 Tryz.ld123 Tryz.st123 Tryz.ld133 Tryz.st133 Tryz.ld155 Tryz.st155 Tryz.ld163 Tryz.st163 Tryz.ld190 Tryz.st190 Tryz.ld197 Tryz.st197 Tryz.ld201 Tryz.st201 Tryz.ld202 Tryz.st202 Tryz.ld209 Tryz.st209 Tryz.ld216 Tryz.st216 Tryz.ld230 Tryz.st230 Tryz.ld238 Tryz.st238 Tryz.ld242 Tryz.st242 Tryz.ld251 Tryz.st251 Tryz.ld260 Tryz.st260 Tryz.ld286 Tryz.st286 Tryz.ld292 Tryz.st292 Tryz.ld298 Tryz.st298 Tryz.ld309 Tryz.st309 Tryz.ld35 Tryz.st35 Tryz.ld48 Tryz.st48 Tryz.ld47 Tryz.st47 Tryz.ld79 Tryz.st79 Tryz.ld177 Tryz.st177 Tryz.ld180 Tryz.st180 Tryz.ld231 Tryz.st231 Tryz.ld232 Tryz.st232 Tryz.ld26 Tryz.st26 Tryz.ld38 Tryz.st38 Tryz.ld40 Tryz.st40 Tryz.ld43 Tryz.st43 Tryz.ld50 Tryz.st50 Tryz.ld52 Tryz.st52 Tryz.ld54 Tryz.st54 Tryz.ld81 Tryz.st81 Tryz.ld112 Tryz.st112 Tryz.ld120 Tryz.st120 Tryz.ld176 Tryz.st176 Tryz.ld179 Tryz.st179 Tryz.ld182 Tryz.st182 Tryz.ld184 Tryz.st184 Tryz.ld234 Tryz.st234 Tryz.ld236 Tryz.st236 Tryz.ld240 Tryz.st240 Tryz.ld246 Tryz.st246 Tryz.ld249 Tryz.st249 Tryz.al35 Tryz.al48 Tryz.al47 Tryz.al79 Tryz.al177 Tryz.al180 Tryz.al231 Tryz.al232 Tryz.al26 Tryz.al38 Tryz.al40 Tryz.al43 Tryz.al50 Tryz.al52 Tryz.al54 Tryz.al81 Tryz.al112 Tryz.al120 Tryz.al176 Tryz.al179 Tryz.al182 Tryz.al184 Tryz.al234 Tryz.al236 Tryz.al240 Tryz.al246 Tryz.al249
attribute [local go_sem] Player.length_enc Player.ok_enc Player.all_get Player.all_set Player.hand_get Player.hand_set Player.aside_get Player.aside_set Message.length_enc Message.ok_enc Message.all_get Message.all_set Message.kind_get Message.kind_set Message.from__get Message.from__set Message.to__get Message.to__set Message.sender_get Message.sender_set Message.receiver_get Message.receiver_set Message.seq_get Message.seq_set Message.token_get Message.token_set Message.amount_get Message.amount_set Message.size_get Message.size_set Message.payload_get Message.payload_set Tx.length_enc Tx.ok_enc Tx.all_get Tx.all_set Tx.kind_get Tx.kind_set Tx.chain_get Tx.chain_set Tx.from__get Tx.from__set Tx.nonce_get Tx.nonce_set Tx.fee_get Tx.fee_set Tx.to__get Tx.to__set Tx.dest_get Tx.dest_set Tx.token_get Tx.token_set Tx.amount_get Tx.amount_set Tx.size_get Tx.size_set Tx.payload_get Tx.payload_set Tx.msg_get Tx.msg_set Tx.msg_kind_get Tx.msg_kind_set Tx.msg_from__get Tx.msg_from__set Tx.msg_to__get Tx.msg_to__set Tx.msg_sender_get Tx.msg_sender_set Tx.msg_receiver_get Tx.msg_receiver_set Tx.msg_seq_get Tx.msg_seq_set Tx.msg_token_get Tx.msg_token_set Tx.msg_amount_get Tx.msg_amount_set Tx.msg_size_get Tx.msg_size_set Tx.msg_payload_get Tx.msg_payload_set GOp.length_enc GOp.ok_enc GOp.all_get GOp.all_set GOp.kind_get GOp.kind_set GOp.tx_get GOp.tx_set GOp.txs_get GOp.txs_set GOp.gas_get GOp.gas_set GOp.acct_get GOp.acct_set GOp.token_get GOp.token_set GOp.chain_get GOp.chain_set GOp.seq_get GOp.seq_set GOp.tx_kind_get GOp.tx_kind_set GOp.tx_chain_get GOp.tx_chain_set GOp.tx_from__get GOp.tx_from__set GOp.tx_nonce_get GOp.tx_nonce_set GOp.tx_fee_get GOp.tx_fee_set GOp.tx_to__get GOp.tx_to__set GOp.tx_dest_get GOp.tx_dest_set GOp.tx_token_get GOp.tx_token_set GOp.tx_amount_get GOp.tx_amount_set GOp.tx_size_get GOp.tx_size_set GOp.tx_payload_get GOp.tx_payload_set GOp.tx_msg_get GOp.tx_msg_set GOp.tx_msg_kind_get GOp.tx_msg_kind_set GOp.tx_msg_from__get GOp.tx_msg_from__set GOp.tx_msg_to__get GOp.tx_msg_to__set GOp.tx_msg_sender_get GOp.tx_msg_sender_set GOp.tx_msg_receiver_get GOp.tx_msg_receiver_set GOp.tx_msg_seq_get GOp.tx_msg_seq_set GOp.tx_msg_token_get GOp.tx_msg_token_set GOp.tx_msg_amount_get GOp.tx_msg_amount_set GOp.tx_msg_size_get GOp.tx_msg_size_set GOp.tx_msg_payload_get GOp.tx_msg_payload_set Summary.length_enc Summary.ok_enc Summary.all_get Summary.all_set Summary.height_get Summary.height_set Summary.txs_get Summary.txs_set Summary.gas_get Summary.gas_set Summary.fees_get Summary.fees_set Summary.sent_get Summary.sent_set Summary.took_get Summary.took_set Summary.minted_get Summary.minted_set Summary.burned_get Summary.burned_set Summary.root_get Summary.root_set Detail.length_enc Detail.ok_enc Detail.all_get Detail.all_set Detail.code_get Detail.code_set Detail.have__get Detail.have__set Detail.need_get Detail.need_set Slot.length_enc Slot.ok_enc Slot.all_get Slot.all_set Slot.nonce_get Slot.nonce_set Slot.balances_get Slot.balances_set Tree.length_enc Tree.ok_enc Tree.all_get Tree.all_set Tree.leaves_get Tree.leaves_set Mark.length_enc Mark.ok_enc Mark.all_get Mark.all_set Mark.from__get Mark.from__set Mark.seq_get Mark.seq_set Receipt.length_enc Receipt.ok_enc Receipt.all_get Receipt.all_set Receipt.code_get Receipt.code_set Receipt.hash_get Receipt.hash_set Receipt.index_get Receipt.index_set Receipt.gas_get Receipt.gas_set Receipt.fee_get Receipt.fee_set Receipt.hasSent_get Receipt.hasSent_set Receipt.sent_get Receipt.sent_set Receipt.hasTook_get Receipt.hasTook_set Receipt.took_get Receipt.took_set Receipt.sent_kind_get Receipt.sent_kind_set Receipt.sent_from__get Receipt.sent_from__set Receipt.sent_to__get Receipt.sent_to__set Receipt.sent_sender_get Receipt.sent_sender_set Receipt.sent_receiver_get Receipt.sent_receiver_set Receipt.sent_seq_get Receipt.sent_seq_set Receipt.sent_token_get Receipt.sent_token_set Receipt.sent_amount_get Receipt.sent_amount_set Receipt.sent_size_get Receipt.sent_size_set Receipt.sent_payload_get Receipt.sent_payload_set Receipt.took_kind_get Receipt.took_kind_set Receipt.took_from__get Receipt.took_from__set Receipt.took_to__get Receipt.took_to__set Receipt.took_sender_get Receipt.took_sender_set Receipt.took_receiver_get Receipt.took_receiver_set Receipt.took_seq_get Receipt.took_seq_set Receipt.took_token_get Receipt.took_token_set Receipt.took_amount_get Receipt.took_amount_set Receipt.took_size_get Receipt.took_size_set Receipt.took_payload_get Receipt.took_payload_set Store.length_enc Store.ok_enc Store.all_get Store.all_set Store.now_get Store.now_set Store.saved_get Store.saved_set GState.length_enc GState.ok_enc GState.all_get GState.all_set GState.kv_get GState.kv_set GState.tree_get GState.tree_set GState.stale_get GState.stale_set GState.touched_get GState.touched_set GState.kv_now_get GState.kv_now_set GState.kv_saved_get GState.kv_saved_set GState.tree_leaves_get GState.tree_leaves_set History.length_enc History.ok_enc History.all_get History.all_set History.ring_get History.ring_set History.closed_get History.closed_set Ledger.length_enc Ledger.ok_enc Ledger.all_get Ledger.all_set Ledger.chain_get Ledger.chain_set Ledger.st_get Ledger.st_set Ledger.height_get Ledger.height_set Ledger.open__get Ledger.open__set Ledger.gasLimit_get Ledger.gasLimit_set Ledger.past_get Ledger.past_set Ledger.begun_get Ledger.begun_set Ledger.sent_get Ledger.sent_set Ledger.took_get Ledger.took_set Ledger.receipts_get Ledger.receipts_set Ledger.st_kv_get Ledger.st_kv_set Ledger.st_tree_get Ledger.st_tree_set Ledger.st_stale_get Ledger.st_stale_set Ledger.st_touched_get Ledger.st_touched_set Ledger.st_kv_now_get Ledger.st_kv_now_set Ledger.st_kv_saved_get Ledger.st_kv_saved_set Ledger.st_tree_leaves_get Ledger.st_tree_leaves_set Ledger.past_ring_get Ledger.past_ring_set Ledger.past_closed_get Ledger.past_closed_set Ledger.begun_kv_get Ledger.begun_kv_set Ledger.begun_tree_get Ledger.begun_tree_set Ledger.begun_stale_get Ledger.begun_stale_set Ledger.begun_touched_get Ledger.begun_touched_set Ledger.begun_kv_now_get Ledger.begun_kv_now_set Ledger.begun_kv_saved_get Ledger.begun_kv_saved_set Ledger.begun_tree_leaves_get Ledger.begun_tree_leaves_set Purse.length_enc Purse.ok_enc Purse.all_get Purse.all_set Purse.st_get Purse.st_set Purse.n_get Purse.n_set Purse.account_get Purse.account_set Purse.token_get Purse.token_set Purse.amount_get Purse.amount_set Plan.length_enc Plan.ok_enc Plan.all_get Plan.all_set Plan.purse_get Plan.purse_set Plan.nonce_get Plan.nonce_set Plan.gasUsed_get Plan.gasUsed_set Plan.fees_get Plan.fees_set Plan.hasSupply_get Plan.hasSupply_set Plan.token_get Plan.token_set Plan.supply_get Plan.supply_set Plan.flowAt_get Plan.flowAt_set Plan.flow_get Plan.flow_set Plan.receipt_get Plan.receipt_set Plan.purse_st_get Plan.purse_st_set Plan.purse_n_get Plan.purse_n_set Plan.purse_account_get Plan.purse_account_set Plan.purse_token_get Plan.purse_token_set Plan.purse_amount_get Plan.purse_amount_set Plan.receipt_code_get Plan.receipt_code_set Plan.receipt_hash_get Plan.receipt_hash_set Plan.receipt_index_get Plan.receipt_index_set Plan.receipt_gas_get Plan.receipt_gas_set Plan.receipt_fee_get Plan.receipt_fee_set Plan.receipt_hasSent_get Plan.receipt_hasSent_set Plan.receipt_sent_get Plan.receipt_sent_set Plan.receipt_hasTook_get Plan.receipt_hasTook_set Plan.receipt_took_get Plan.receipt_took_set Plan.receipt_sent_kind_get Plan.receipt_sent_kind_set Plan.receipt_sent_from__get Plan.receipt_sent_from__set Plan.receipt_sent_to__get Plan.receipt_sent_to__set Plan.receipt_sent_sender_get Plan.receipt_sent_sender_set Plan.receipt_sent_receiver_get Plan.receipt_sent_receiver_set Plan.receipt_sent_seq_get Plan.receipt_sent_seq_set Plan.receipt_sent_token_get Plan.receipt_sent_token_set Plan.receipt_sent_amount_get Plan.receipt_sent_amount_set Plan.receipt_sent_size_get Plan.receipt_sent_size_set Plan.receipt_sent_payload_get Plan.receipt_sent_payload_set Plan.receipt_took_kind_get Plan.receipt_took_kind_set Plan.receipt_took_from__get Plan.receipt_took_from__set Plan.receipt_took_to__get Plan.receipt_took_to__set Plan.receipt_took_sender_get Plan.receipt_took_sender_set Plan.receipt_took_receiver_get Plan.receipt_took_receiver_set Plan.receipt_took_seq_get Plan.receipt_took_seq_set Plan.receipt_took_token_get Plan.receipt_took_token_set Plan.receipt_took_amount_get Plan.receipt_took_amount_set Plan.receipt_took_size_get Plan.receipt_took_size_set Plan.receipt_took_payload_get Plan.receipt_took_payload_set Move.length_enc Move.ok_enc Move.all_get Move.all_set Move.account_get Move.account_set Move.token_get Move.token_set Move.down_get Move.down_set Move.amount_get Move.amount_set Books.length_enc Books.ok_enc Books.all_get Books.all_set Books.sums_get Books.sums_set Books.stored_get Books.stored_set Books.marks_get Books.marks_set Pair.length_enc Pair.ok_enc Pair.all_get Pair.all_set Pair.key_get Pair.key_set Pair.value_get Pair.value_set
attribute [local go_sem] size_put size_ext blk_put free_put blk_alloc free_alloc blk_drew free_drew blk_ext free_ext lookOr_some putOr_some segAt_some cellAt_some storeIn_some put_put put_alloc_new length_arr ok_arr_u8 ok_arr_u32 ok_arr_u64 ok_arr_i64 ok_arr_sl cellsV_agg cellsV_int cellsV_bool cellsV_string cellsV_pointer cellsV_slice cellsV_sl ok_int ok_bool ok_string ok_pointer ok_slice ok_sl toList_arr seg_arr set_arr nth_splice nth_splice0 seg_splice seg_splice0 splice_splice splice_splice0 length_splice_if
attribute [local go_sem ↓] execOp_box
attribute [local go_sem] box_run nth_arr_u8 put_arr_u8 blk_drewN free_drewN put_drewN blk_raw free_raw
attribute [local go_sem] Tryz.ld61 Tryz.st61 Tryz.ld125 Tryz.st125 Tryz.ld148 Tryz.st148 Tryz.al61 Tryz.al125 Tryz.al148 View.length_enc View.ok_enc View.all_get View.all_set View.chain_get View.chain_set View.balances_get View.balances_set View.nonces_get View.nonces_set View.supply_get View.supply_set View.marks_get View.marks_set View.height_get View.height_set View.open__get View.open__set View.gasLimit_get View.gasLimit_set View.gasUsed_get View.gasUsed_set View.fees_get View.fees_set View.txs_get View.txs_set View.sent_get View.sent_set View.took_get View.took_set View.minted_get View.minted_set View.burned_get View.burned_set View.depth_get View.depth_set Trail.length_enc Trail.ok_enc Trail.all_get Trail.all_set Trail.views_get Trail.views_set Trail.roots_get Trail.roots_set Trail.begunView_get Trail.begunView_set Trail.begunRoot_get Trail.begunRoot_set Trail.begunKnown_get Trail.begunKnown_set Trail.begunView_chain_get Trail.begunView_chain_set Trail.begunView_balances_get Trail.begunView_balances_set Trail.begunView_nonces_get Trail.begunView_nonces_set Trail.begunView_supply_get Trail.begunView_supply_set Trail.begunView_marks_get Trail.begunView_marks_set Trail.begunView_height_get Trail.begunView_height_set Trail.begunView_open__get Trail.begunView_open__set Trail.begunView_gasLimit_get Trail.begunView_gasLimit_set Trail.begunView_gasUsed_get Trail.begunView_gasUsed_set Trail.begunView_fees_get Trail.begunView_fees_set Trail.begunView_txs_get Trail.begunView_txs_set Trail.begunView_sent_get Trail.begunView_sent_set Trail.begunView_took_get Trail.begunView_took_set Trail.begunView_minted_get Trail.begunView_minted_set Trail.begunView_burned_get Trail.begunView_burned_set Trail.begunView_depth_get Trail.begunView_depth_set Dump.length_enc Dump.ok_enc Dump.all_get Dump.all_set Dump.chain_get Dump.chain_set Dump.height_get Dump.height_set Dump.balances_get Dump.balances_set Dump.nonces_get Dump.nonces_set Dump.marks_get Dump.marks_set Dump.history_get Dump.history_set
attribute [local go_sem ↓] execOp_build execOp_bslice execOp_neq240
attribute [local go_sem] build240 bslice46 neq240
def difI (W : World) (b2 b3 : Nat) (v w : View) (F : Nat → Value) (V : World) : Prop := F 2 = .pointer (some ⟨b2, 0, none⟩) ∧ F 3 = .pointer (some ⟨b3, 0, none⟩) ∧ ∃ a n c, F 5 = .slice a n c ∧ ∃ i : Nat, F 6 = .int .i64 (i : Nat) ∧ Hid (i ≤ 256 ∧ OutG Move.enc 4 240 W V a n c (difF v w i) ∧ blk V b2 = some v.enc ∧ blk V b3 = some w.enc ∧ ∀ k, (Value.slice a n c).ownBlock = some k → b3 < k ∧ b2 < k)
set_option maxRecDepth 100000 in
theorem frame49L (f : Nat → Value) : frameN 49 f = #[f 0, f 1, f 2, f 3, f 4, f 5, f 6, f 7, f 8, f 9, f 10, f 11, f 12, f 13, f 14, f 15, f 16, f 17, f 18, f 19, f 20, f 21, f 22, f 23, f 24, f 25, f 26, f 27, f 28, f 29, f 30, f 31, f 32, f 33, f 34, f 35, f 36, f 37, f 38, f 39, f 40, f 41, f 42, f 43, f 44, f 45, f 46, f 47, f 48] := by kernel_rfl
set_option maxRecDepth 20000 in
set_option maxHeartbeats 1000000 in
theorem diff_any (W : World) (v w : View) : Calls Tryz.prog 64 #[.agg v.enc.toArray, .agg w.enc.toArray] W fun e V => ∃ a n c, e = .returned (.slice a n c) ∧ OutG Move.enc 4 240 W V a n c (difF v w 256) := by
  obtain ⟨Q, hQ⟩ : ∃ Q : Ending → World → Prop, Q = fun e V => ∃ a n c, e = .returned (.slice a n c) ∧ OutG Move.enc 4 240 W V a n c (difF v w 256) := ⟨_, rfl⟩
  rw [← hQ]
  have HQ := hid_of hQ
  obtain ⟨V1, hV1⟩ : ∃ V1 : World, V1 = (W.alloc (.cells v.enc.toArray 61)).alloc (.cells w.enc.toArray 61) := ⟨_, rfl⟩
  have hx1 : W.Extends V1 := by rw [hV1]; exact extends_alloc (extends_alloc (ext_Ext (Ext.refl _)) _) _
  obtain ⟨b2, hb2⟩ : ∃ b2, b2 = W.heap.size := ⟨_, rfl⟩
  obtain ⟨b3, hb3⟩ : ∃ b3, b3 = W.heap.size + 1 := ⟨_, rfl⟩
  have k2 : blk V1 b2 = some v.enc := by rw [hV1, blk_alloc, if_neg (by simp only [World.size_alloc]; omega), blk_alloc, if_pos hb2]
  have k3 : blk V1 b3 = some w.enc := by rw [hV1, blk_alloc, if_pos (by simp only [World.size_alloc]; omega)]
  have HI0 : Hid (0 ≤ 256 ∧ OutG Move.enc 4 240 W V1 none 0 0 (difF v w 0) ∧ blk V1 b2 = some v.enc ∧ blk V1 b3 = some w.enc ∧ ∀ k, (Value.slice none 0 0).ownBlock = some k → b3 < k ∧ b2 < k) := ⟨by omega, OutG.nil hx1, k2, k3, fun k hk => by cases hk⟩
  have HV1 := hid_of hV1
  have HB2 := hid_of hb2
  have HB3 := hid_of hb3
  clear hQ hV1 hx1 hb2 hb3 k2 k3
  go_enter Tryz.func64, Tryz.ntmps64
  go_upto_region 1 with fail
  rw [← HV1.out, ← HB3.out, ← HB2.out]
  clear HV1 HB2 HB3
  go_wp2_with fail
  refine wp_loop_f 49 (difI W b2 b3 v w) (fun f _ => 256 - (intOf (f 6)).toNat) rfl ⟨rfl, rfl, _, _, _, rfl, 0, rfl, HI0⟩ ?_
  clear HI0
  intro F V hrel
  obtain ⟨f2, f3, a, n, c, f5, i, f6, HI⟩ := hrel
  have H6 := hid_of f6
  rw [frame49L, f2, f3, f5, f6]
  clear f2 f3 f5 f6
  obtain ⟨hil, hO, k2, k3, hown⟩ := HI.out
  clear HI
  by_cases hin : i < 256
  rotate_left 1
  · have hin' : ¬ (i : Int) < 256 := by omega
    have HP : Hid (Q (.returned (.slice a n c)) V) := by
      show Q _ _
      rw [HQ.out]
      have e : i = 256 := by omega
      rw [e] at hO
      exact ⟨a, n, c, rfl, hO⟩
    clear hO k2 k3 hown hin hil H6 HQ
    go_wp2_with fail
    try (first | go_ret | go_ret2 | go_ret3 | go_end0)
    exact HP.out
  have hin' : (i : Int) < 256 := by omega
  have p0 : (0 : Int) ≤ (i : Int) := by omega
  have p2 : ((i : Int)).toNat = i := by omega
  have hi9 : (i : Int) + 1 ≤ 1000001 := by omega
  obtain ⟨wv, hwv⟩ : ∃ wv, wv = v.balances[i] := ⟨_, rfl⟩
  obtain ⟨ww, hww⟩ : ∃ ww, ww = w.balances[i] := ⟨_, rfl⟩
  have n2 : nth v.enc (1 + i) = some (.int .u64 (w64 wv)) := by rw [hwv]; exact View.balances_at v i hin
  have n3 : nth w.enc (1 + i) = some (.int .u64 (w64 ww)) := by rw [hww]; exact View.balances_at w i hin
  have l2 : v.enc.length = 343 := View.length_enc v
  have l3 : w.enc.length = 343 := View.length_enc w
  have hq4 : Int.tdiv (i : Int) 4 = ((i / 4 : Nat) : Int) := by rw [Int.tdiv_eq_ediv_of_nonneg (by omega)]; omega
  have hr4 : Int.tmod (i : Int) 4 = ((i % 4 : Nat) : Int) := by rw [Int.tmod_eq_emod_of_nonneg (by omega)]; omega
  have ha8 : ((i / 4 : Nat) : Int) = w8 (UInt8.ofNat (i / 4)) := by
    show _ = (((UInt8.ofNat (i / 4)).toNat : Nat) : Int)
    rw [UInt8.toNat_ofNat']
    omega
  have ht8 : ((i % 4 : Nat) : Int) = w8 (UInt8.ofNat (i % 4)) := by
    show _ = (((UInt8.ofNat (i % 4)).toNat : Nat) : Int)
    rw [UInt8.toNat_ofNat']
    omega
  rw [ha8] at hq4
  rw [ht8] at hr4
  obtain ⟨ua, hua⟩ : ∃ ua, ua = UInt8.ofNat (i / 4) := ⟨_, rfl⟩
  obtain ⟨ut, hut⟩ : ∃ ut, ut = UInt8.ofNat (i % 4) := ⟨_, rfl⟩
  have HSU : Hid (difF v w (i + 1) = difF v w i ++ (mvD ua ut wv ww).toList) := by
    show _ = _
    rw [hua, hut, hwv, hww]
    exact difF_succ v w hin
  rw [← hua] at hq4
  rw [← hut] at hr4
  have hwa : IntKind.u8.wrap (w8 ua) = w8 ua := x8_wrap ua
  have hwt : IntKind.u8.wrap (w8 ut) = w8 ut := x8_wrap ut
  have bqa := w8_bd ua
  have bqt := w8_bd ut
  have HL : Hid (i < 256 ∧ (difF v w i).length ≤ 256) := ⟨hin, Nat.le_trans (difF_len v w i) hil⟩
  have HO := hid_of hO
  have HOWN := hid_of hown
  have HX2 := hid_of (blk_lt k2)
  have HX3 := hid_of (blk_lt k3)
  have HE : Hid (blk V b2 = some v.enc ∧ blk V b3 = some w.enc) := ⟨k2, k3⟩
  generalize hve : v.enc = vE at k2 n2 l2
  generalize hwe : w.enc = wE at k3 n3 l3
  clear hO hown hin hil hwv hww hua hut ha8 ht8 hve hwe
  go_upto_region 5 with fail
  go_quiet (fail)
  clear hin'
  by_cases hq : w64 wv = w64 ww
  · have hqb : (w64 wv == w64 ww) = true := by simp [hq]
    have HI1 : Hid (∀ k, i + 1 ≤ 256 ∧ OutG Move.enc 4 240 W (V.drewN k) a n c (difF v w (i + 1)) ∧ blk (V.drewN k) b2 = some v.enc ∧ blk (V.drewN k) b3 = some w.enc ∧ ∀ k, (Value.slice a n c).ownBlock = some k → b3 < k ∧ b2 < k) := fun k => by
      refine ⟨HL.out.1, ?_, HE.out.1, HE.out.2, HOWN.out⟩
      have e1 : difF v w (i + 1) = difF v w i := by
        rw [HSU.out]
        unfold mvD
        rw [if_pos hq]
        simp
      rw [e1]
      exact HO.out.ext (extends_drewN (ext_Ext (Ext.refl V)) k)
    go_wp2_with fail
    refine ⟨rfl, rfl, ⟨rfl, rfl, a, n, c, rfl, i + 1, rfl, HI1.out _⟩, ?_⟩
    show 256 - ((i : Int) + 1).toNat < 256 - (intOf (F 6)).toNat
    rw [H6.out]
    show 256 - (i + 1) < 256 - i
    have := HL.out.1
    omega
  have hqb : (w64 wv == w64 ww) = false := by simp [hq]
  obtain ⟨m, hm⟩ : ∃ m : Move, m = if w64 ww < w64 wv then ⟨ua, ut, true, wv - ww⟩ else ⟨ua, ut, false, ww - wv⟩ := ⟨_, rfl⟩
  obtain ⟨V5, hV5⟩ : ∃ V5 : World, V5 = V.drewN nq := ⟨_, rfl⟩
  have hx5 : V.Extends V5 := by rw [hV5]; exact extends_drewN (ext_Ext (Ext.refl V)) nq
  have hs5 : V5.heap.size = V.heap.size := by rw [hV5]; rfl
  obtain ⟨bm, hbm0⟩ : ∃ bm, bm = V.heap.size := ⟨_, rfl⟩
  have hbm : bm = V5.heap.size := by rw [hs5]; exact hbm0
  obtain ⟨V6, hV6⟩ : ∃ V6 : World, V6 = put ((V.drewN nq).alloc (.cells Move.zero.enc.toArray 240)) V.heap.size (Move.mk ua ut false 0).enc := ⟨_, rfl⟩
  have hx6 : V5.Extends V6 := by rw [hV6, ← hV5]; exact extends_put (extends_alloc (ext_Ext (Ext.refl _)) _) (by rw [hs5]; exact Nat.le_refl _) _
  have hbm6 : blk V6 bm = some (Move.mk ua ut false 0).enc := by rw [hV6, ← hV5, ← hbm0, blk_put, if_pos rfl, blk_alloc, if_pos hbm]; rfl
  have hfm6 : free V6 bm = true := by rw [hV6, ← hV5, free_put, free_alloc, if_pos hbm]
  have hne2 : ¬ b2 = bm := by rw [hbm]; have := HX2.out; have := hx5.size; omega
  have hne3 : ¬ b3 = bm := by rw [hbm]; have := HX3.out; have := hx5.size; omega
  have HAP : Hid (∀ V7, V7 = put V6 bm m.enc → ∃ a' c' V8, (Builtin.append_ #[46, 46] 46 #[.slice a n c, .slice (some ⟨V7.heap.size, 0, none⟩) 1 1]).run Tryz.prog (V7.alloc (.cells m.enc.toArray 240)) = .ok (.slice a' (n + 1) c') V8 ∧ i + 1 ≤ 256 ∧ OutG Move.enc 4 240 W V8 a' (n + 1) c' (difF v w (i + 1)) ∧ blk V8 b2 = some v.enc ∧ blk V8 b3 = some w.enc ∧ ∀ k, (Value.slice a' (n + 1) c').ownBlock = some k → b3 < k ∧ b2 < k) := by
    intro V7 h7
    have hx7 : V.Extends V7 := by rw [h7]; exact extends_put (hx5.trans hx6) (by rw [hbm]; exact hx5.size) _
    have hO7 := HO.out.ext hx7
    obtain ⟨a', c', V8, hr8, hO8, hg8⟩ := hO7.app elMove m (by have := HL.out.2; omega) m.enc.toArray rfl 1
    have k27 : blk V7 b2 = some v.enc := (hx7.blk (blk_lt HE.out.1)).trans HE.out.1
    have k37 : blk V7 b3 = some w.enc := (hx7.blk (blk_lt HE.out.2)).trans HE.out.2
    refine ⟨a', c', V8, hr8, HL.out.1, ?_, ?_, ?_, fun k hk => ?_⟩
    · have e1 : difF v w (i + 1) = difF v w i ++ [m] := by
        rw [HSU.out]
        unfold mvD
        rw [if_neg hq, hm]
        split <;> rfl
      rw [e1]
      exact hO8
    · refine (blk_of_heap (hg8.block b2 (blk_lt k27) (fun e => ?_))).trans k27
      exact Nat.lt_irrefl _ (HOWN.out b2 e).2
    · refine (blk_of_heap (hg8.block b3 (blk_lt k37) (fun e => ?_))).trans k37
      exact Nat.lt_irrefl _ (HOWN.out b3 e).1
    · rcases hg8.own k hk with g | g
      · exact HOWN.out k g
      · have := blk_lt k27
        have := blk_lt k37
        omega
  have HV6 := hid_of hV6
  have HV5 := hid_of hV5
  have HBM := hid_of hbm0
  clear hs5 hbm0 HO HOWN hx6 hx5 hV6 hV5 hbm HSU HX2 HX3 k2 k3 HE
  go_upto_region 8 with fail
  rw [← HV6.out, ← HBM.out]
  clear HV6 HV5 HBM
  by_cases hlt : w64 ww < w64 wv
  · have hme : m = ⟨ua, ut, true, wv - ww⟩ := by rw [hm, if_pos hlt]
    have hsb : IntKind.u64.wrap (w64 wv - w64 ww) = w64 (wv - ww) := x64_sub wv ww
    obtain ⟨a', c', V8, hr8, h8⟩ := HAP.out _ rfl
    have HI1 := hid_of h8
    clear h8 HAP hm
    subst hme
    obtain ⟨V7, hV7⟩ : ∃ V7 : World, V7 = put V6 bm (Move.mk ua ut true (wv - ww)).enc := ⟨_, rfl⟩
    rw [← hV7] at hr8
    have k7b : blk V7 bm = some (Move.mk ua ut true (wv - ww)).enc := by rw [hV7, blk_put, if_pos rfl, hbm6]; rfl
    have HV7 := hid_of hV7
    clear hV7
    go_upto_region 12 with fail
    rw [← HV7.out]
    clear HV7
    go_wp2_with (at_builtin; refine wpList_append_run rfl _ _ 46 rfl _ _ _ _ rfl rfl hr8 ?_)
    refine ⟨rfl, rfl, ⟨rfl, rfl, a', n + 1, c', rfl, i + 1, rfl, HI1⟩, ?_⟩
    show 256 - ((i : Int) + 1).toNat < 256 - (intOf (F 6)).toNat
    rw [H6.out]
    show 256 - (i + 1) < 256 - i
    have := HL.out.1
    omega
  · have hme : m = ⟨ua, ut, false, ww - wv⟩ := by rw [hm, if_neg hlt]
    have hsb : IntKind.u64.wrap (w64 ww - w64 wv) = w64 (ww - wv) := x64_sub ww wv
    obtain ⟨a', c', V8, hr8, h8⟩ := HAP.out _ rfl
    have HI1 := hid_of h8
    clear h8 HAP hm
    subst hme
    obtain ⟨V7, hV7⟩ : ∃ V7 : World, V7 = put V6 bm (Move.mk ua ut false (ww - wv)).enc := ⟨_, rfl⟩
    rw [← hV7] at hr8
    have k7b : blk V7 bm = some (Move.mk ua ut false (ww - wv)).enc := by rw [hV7, blk_put, if_pos rfl, hbm6]; rfl
    have HV7 := hid_of hV7
    clear hV7
    go_upto_region 12 with fail
    rw [← HV7.out]
    clear HV7
    go_wp2_with (at_builtin; refine wpList_append_run rfl _ _ 46 rfl _ _ _ _ rfl rfl hr8 ?_)
    refine ⟨rfl, rfl, ⟨rfl, rfl, a', n + 1, c', rfl, i + 1, rfl, HI1⟩, ?_⟩
    show 256 - ((i : Int) + 1).toNat < 256 - (intOf (F 6)).toNat
    rw [H6.out]
    show 256 - (i + 1) < 256 - i
    have := HL.out.1
    omega
end Go.Proofs.Qxb6500786aGreat
