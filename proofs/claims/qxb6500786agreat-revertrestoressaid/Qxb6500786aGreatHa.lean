import Derived.DeepKeys2
import Derived.Test.Qxb6500786aGreatSd

import Derived.StillTailTactics
import Derived.Deep.QuietTactic
import Derived.BigQuiet
import Derived.Deep.RegionHeld
import Derived.Deep.CutRange
import Derived.Laws.ResultCell
import Derived.Laws.Rows
import Derived.DeepKeys
import Derived.DataBytes
import Derived.Laws.StructEq
import Derived.Laws.AppendOwn
import Derived.Laws.MakeOwn
import Derived.Lib.AppendStr
set_option linter.unusedSimpArgs false
set_option linter.unusedVariables false
namespace Go.Proofs.Qxb6500786aGreat
open Go.RowKit Go.Blk
attribute [local go_sem ↓] execOp_load execOp_store execOp_alloc
attribute [local go_sem] Tryz.ld24 Tryz.st24 Tryz.ld36 Tryz.st36 Tryz.ld28 Tryz.st28 Tryz.ld32 Tryz.st32 Tryz.ld33 Tryz.st33 Tryz.ld34 Tryz.st34 Tryz.ld5 Tryz.st5 Tryz.ld31 Tryz.st31 Tryz.ld30 Tryz.st30 Tryz.ld41 Tryz.st41 Tryz.ld44 Tryz.st44 Tryz.ld4 Tryz.st4 Tryz.ld173 Tryz.st173 Tryz.ld174 Tryz.st174 Tryz.ld95 Tryz.st95 Tryz.ld45 Tryz.st45 Tryz.ld207 Tryz.st207 Tryz.ld3 Tryz.st3 Tryz.ld189 Tryz.st189 Tryz.ld2 Tryz.st2 Tryz.ld9 Tryz.st9 Tryz.ld12 Tryz.st12 Tryz.ld21 Tryz.st21 Tryz.ld22 Tryz.st22 Tryz.ld46 Tryz.st46 Tryz.ld92 Tryz.st92 Tryz.ld94 Tryz.st94 Tryz.ld96 Tryz.st96 Tryz.ld97 Tryz.st97 Tryz.ld105 Tryz.st105 Tryz.ld117 Tryz.st117 Tryz.ld122 Tryz.st122 Tryz.ld123 Tryz.st123 Tryz.ld133 Tryz.st133 Tryz.ld155 Tryz.st155 Tryz.ld163 Tryz.st163 Tryz.ld190 Tryz.st190 Tryz.ld197 Tryz.st197 Tryz.ld201 Tryz.st201 Tryz.ld202 Tryz.st202 Tryz.ld209 Tryz.st209 Tryz.ld216 Tryz.st216 Tryz.ld230 Tryz.st230 Tryz.ld238 Tryz.st238 Tryz.ld242 Tryz.st242 Tryz.ld251 Tryz.st251 Tryz.ld260 Tryz.st260 Tryz.ld286 Tryz.st286 Tryz.ld292 Tryz.st292 Tryz.ld298 Tryz.st298 Tryz.ld309 Tryz.st309 Tryz.ld35 Tryz.st35 Tryz.ld48 Tryz.st48 Tryz.ld47 Tryz.st47 Tryz.ld79 Tryz.st79 Tryz.ld177 Tryz.st177 Tryz.ld180 Tryz.st180 Tryz.ld231 Tryz.st231 Tryz.ld232 Tryz.st232 Tryz.ld26 Tryz.st26 Tryz.ld38 Tryz.st38 Tryz.ld40 Tryz.st40 Tryz.ld43 Tryz.st43 Tryz.ld50 Tryz.st50 Tryz.ld52 Tryz.st52 Tryz.ld54 Tryz.st54 Tryz.ld81 Tryz.st81 Tryz.ld112 Tryz.st112 Tryz.ld120 Tryz.st120 Tryz.ld176 Tryz.st176 Tryz.ld179 Tryz.st179 Tryz.ld182 Tryz.st182 Tryz.ld184 Tryz.st184 Tryz.ld234 Tryz.st234 Tryz.ld236 Tryz.st236 Tryz.ld240 Tryz.st240 Tryz.ld246 Tryz.st246 Tryz.ld249 Tryz.st249 Tryz.al35 Tryz.al48 Tryz.al47 Tryz.al79 Tryz.al177 Tryz.al180 Tryz.al231 Tryz.al232 Tryz.al26 Tryz.al38 Tryz.al40 Tryz.al43 Tryz.al50 Tryz.al52 Tryz.al54 Tryz.al81 Tryz.al112 Tryz.al120 Tryz.al176 Tryz.al179 Tryz.al182 Tryz.al184 Tryz.al234 Tryz.al236 Tryz.al240 Tryz.al246 Tryz.al249
attribute [local go_sem] Player.length_enc Player.ok_enc Player.all_get Player.all_set Player.hand_get Player.hand_set Player.aside_get Player.aside_set Message.length_enc Message.ok_enc Message.all_get Message.all_set Message.kind_get Message.kind_set Message.from__get Message.from__set Message.to__get Message.to__set Message.sender_get Message.sender_set Message.receiver_get Message.receiver_set Message.seq_get Message.seq_set Message.token_get Message.token_set Message.amount_get Message.amount_set Message.size_get Message.size_set Message.payload_get Message.payload_set Tx.length_enc Tx.ok_enc Tx.all_get Tx.all_set Tx.kind_get Tx.kind_set Tx.chain_get Tx.chain_set Tx.from__get Tx.from__set Tx.nonce_get Tx.nonce_set Tx.fee_get Tx.fee_set Tx.to__get Tx.to__set Tx.dest_get Tx.dest_set Tx.token_get Tx.token_set Tx.amount_get Tx.amount_set Tx.size_get Tx.size_set Tx.payload_get Tx.payload_set Tx.msg_get Tx.msg_set Tx.msg_kind_get Tx.msg_kind_set Tx.msg_from__get Tx.msg_from__set Tx.msg_to__get Tx.msg_to__set Tx.msg_sender_get Tx.msg_sender_set Tx.msg_receiver_get Tx.msg_receiver_set Tx.msg_seq_get Tx.msg_seq_set Tx.msg_token_get Tx.msg_token_set Tx.msg_amount_get Tx.msg_amount_set Tx.msg_size_get Tx.msg_size_set Tx.msg_payload_get Tx.msg_payload_set GOp.length_enc GOp.ok_enc GOp.all_get GOp.all_set GOp.kind_get GOp.kind_set GOp.tx_get GOp.tx_set GOp.txs_get GOp.txs_set GOp.gas_get GOp.gas_set GOp.acct_get GOp.acct_set GOp.token_get GOp.token_set GOp.chain_get GOp.chain_set GOp.seq_get GOp.seq_set GOp.tx_kind_get GOp.tx_kind_set GOp.tx_chain_get GOp.tx_chain_set GOp.tx_from__get GOp.tx_from__set GOp.tx_nonce_get GOp.tx_nonce_set GOp.tx_fee_get GOp.tx_fee_set GOp.tx_to__get GOp.tx_to__set GOp.tx_dest_get GOp.tx_dest_set GOp.tx_token_get GOp.tx_token_set GOp.tx_amount_get GOp.tx_amount_set GOp.tx_size_get GOp.tx_size_set GOp.tx_payload_get GOp.tx_payload_set GOp.tx_msg_get GOp.tx_msg_set GOp.tx_msg_kind_get GOp.tx_msg_kind_set GOp.tx_msg_from__get GOp.tx_msg_from__set GOp.tx_msg_to__get GOp.tx_msg_to__set GOp.tx_msg_sender_get GOp.tx_msg_sender_set GOp.tx_msg_receiver_get GOp.tx_msg_receiver_set GOp.tx_msg_seq_get GOp.tx_msg_seq_set GOp.tx_msg_token_get GOp.tx_msg_token_set GOp.tx_msg_amount_get GOp.tx_msg_amount_set GOp.tx_msg_size_get GOp.tx_msg_size_set GOp.tx_msg_payload_get GOp.tx_msg_payload_set Summary.length_enc Summary.ok_enc Summary.all_get Summary.all_set Summary.height_get Summary.height_set Summary.txs_get Summary.txs_set Summary.gas_get Summary.gas_set Summary.fees_get Summary.fees_set Summary.sent_get Summary.sent_set Summary.took_get Summary.took_set Summary.minted_get Summary.minted_set Summary.burned_get Summary.burned_set Summary.root_get Summary.root_set Detail.length_enc Detail.ok_enc Detail.all_get Detail.all_set Detail.code_get Detail.code_set Detail.have__get Detail.have__set Detail.need_get Detail.need_set Slot.length_enc Slot.ok_enc Slot.all_get Slot.all_set Slot.nonce_get Slot.nonce_set Slot.balances_get Slot.balances_set Tree.length_enc Tree.ok_enc Tree.all_get Tree.all_set Tree.leaves_get Tree.leaves_set Mark.length_enc Mark.ok_enc Mark.all_get Mark.all_set Mark.from__get Mark.from__set Mark.seq_get Mark.seq_set Receipt.length_enc Receipt.ok_enc Receipt.all_get Receipt.all_set Receipt.code_get Receipt.code_set Receipt.hash_get Receipt.hash_set Receipt.index_get Receipt.index_set Receipt.gas_get Receipt.gas_set Receipt.fee_get Receipt.fee_set Receipt.hasSent_get Receipt.hasSent_set Receipt.sent_get Receipt.sent_set Receipt.hasTook_get Receipt.hasTook_set Receipt.took_get Receipt.took_set Receipt.sent_kind_get Receipt.sent_kind_set Receipt.sent_from__get Receipt.sent_from__set Receipt.sent_to__get Receipt.sent_to__set Receipt.sent_sender_get Receipt.sent_sender_set Receipt.sent_receiver_get Receipt.sent_receiver_set Receipt.sent_seq_get Receipt.sent_seq_set Receipt.sent_token_get Receipt.sent_token_set Receipt.sent_amount_get Receipt.sent_amount_set Receipt.sent_size_get Receipt.sent_size_set Receipt.sent_payload_get Receipt.sent_payload_set Receipt.took_kind_get Receipt.took_kind_set Receipt.took_from__get Receipt.took_from__set Receipt.took_to__get Receipt.took_to__set Receipt.took_sender_get Receipt.took_sender_set Receipt.took_receiver_get Receipt.took_receiver_set Receipt.took_seq_get Receipt.took_seq_set Receipt.took_token_get Receipt.took_token_set Receipt.took_amount_get Receipt.took_amount_set Receipt.took_size_get Receipt.took_size_set Receipt.took_payload_get Receipt.took_payload_set Store.length_enc Store.ok_enc Store.all_get Store.all_set Store.now_get Store.now_set Store.saved_get Store.saved_set GState.length_enc GState.ok_enc GState.all_get GState.all_set GState.kv_get GState.kv_set GState.tree_get GState.tree_set GState.stale_get GState.stale_set GState.touched_get GState.touched_set GState.kv_now_get GState.kv_now_set GState.kv_saved_get GState.kv_saved_set GState.tree_leaves_get GState.tree_leaves_set History.length_enc History.ok_enc History.all_get History.all_set History.ring_get History.ring_set History.closed_get History.closed_set Ledger.length_enc Ledger.ok_enc Ledger.all_get Ledger.all_set Ledger.chain_get Ledger.chain_set Ledger.st_get Ledger.st_set Ledger.height_get Ledger.height_set Ledger.open__get Ledger.open__set Ledger.gasLimit_get Ledger.gasLimit_set Ledger.past_get Ledger.past_set Ledger.begun_get Ledger.begun_set Ledger.sent_get Ledger.sent_set Ledger.took_get Ledger.took_set Ledger.receipts_get Ledger.receipts_set Ledger.st_kv_get Ledger.st_kv_set Ledger.st_tree_get Ledger.st_tree_set Ledger.st_stale_get Ledger.st_stale_set Ledger.st_touched_get Ledger.st_touched_set Ledger.st_kv_now_get Ledger.st_kv_now_set Ledger.st_kv_saved_get Ledger.st_kv_saved_set Ledger.st_tree_leaves_get Ledger.st_tree_leaves_set Ledger.past_ring_get Ledger.past_ring_set Ledger.past_closed_get Ledger.past_closed_set Ledger.begun_kv_get Ledger.begun_kv_set Ledger.begun_tree_get Ledger.begun_tree_set Ledger.begun_stale_get Ledger.begun_stale_set Ledger.begun_touched_get Ledger.begun_touched_set Ledger.begun_kv_now_get Ledger.begun_kv_now_set Ledger.begun_kv_saved_get Ledger.begun_kv_saved_set Ledger.begun_tree_leaves_get Ledger.begun_tree_leaves_set Purse.length_enc Purse.ok_enc Purse.all_get Purse.all_set Purse.st_get Purse.st_set Purse.n_get Purse.n_set Purse.account_get Purse.account_set Purse.token_get Purse.token_set Purse.amount_get Purse.amount_set Plan.length_enc Plan.ok_enc Plan.all_get Plan.all_set Plan.purse_get Plan.purse_set Plan.nonce_get Plan.nonce_set Plan.gasUsed_get Plan.gasUsed_set Plan.fees_get Plan.fees_set Plan.hasSupply_get Plan.hasSupply_set Plan.token_get Plan.token_set Plan.supply_get Plan.supply_set Plan.flowAt_get Plan.flowAt_set Plan.flow_get Plan.flow_set Plan.receipt_get Plan.receipt_set Plan.purse_st_get Plan.purse_st_set Plan.purse_n_get Plan.purse_n_set Plan.purse_account_get Plan.purse_account_set Plan.purse_token_get Plan.purse_token_set Plan.purse_amount_get Plan.purse_amount_set Plan.receipt_code_get Plan.receipt_code_set Plan.receipt_hash_get Plan.receipt_hash_set Plan.receipt_index_get Plan.receipt_index_set Plan.receipt_gas_get Plan.receipt_gas_set Plan.receipt_fee_get Plan.receipt_fee_set Plan.receipt_hasSent_get Plan.receipt_hasSent_set Plan.receipt_sent_get Plan.receipt_sent_set Plan.receipt_hasTook_get Plan.receipt_hasTook_set Plan.receipt_took_get Plan.receipt_took_set Plan.receipt_sent_kind_get Plan.receipt_sent_kind_set Plan.receipt_sent_from__get Plan.receipt_sent_from__set Plan.receipt_sent_to__get Plan.receipt_sent_to__set Plan.receipt_sent_sender_get Plan.receipt_sent_sender_set Plan.receipt_sent_receiver_get Plan.receipt_sent_receiver_set Plan.receipt_sent_seq_get Plan.receipt_sent_seq_set Plan.receipt_sent_token_get Plan.receipt_sent_token_set Plan.receipt_sent_amount_get Plan.receipt_sent_amount_set Plan.receipt_sent_size_get Plan.receipt_sent_size_set Plan.receipt_sent_payload_get Plan.receipt_sent_payload_set Plan.receipt_took_kind_get Plan.receipt_took_kind_set Plan.receipt_took_from__get Plan.receipt_took_from__set Plan.receipt_took_to__get Plan.receipt_took_to__set Plan.receipt_took_sender_get Plan.receipt_took_sender_set Plan.receipt_took_receiver_get Plan.receipt_took_receiver_set Plan.receipt_took_seq_get Plan.receipt_took_seq_set Plan.receipt_took_token_get Plan.receipt_took_token_set Plan.receipt_took_amount_get Plan.receipt_took_amount_set Plan.receipt_took_size_get Plan.receipt_took_size_set Plan.receipt_took_payload_get Plan.receipt_took_payload_set Move.length_enc Move.ok_enc Move.all_get Move.all_set Move.account_get Move.account_set Move.token_get Move.token_set Move.down_get Move.down_set Move.amount_get Move.amount_set Books.length_enc Books.ok_enc Books.all_get Books.all_set Books.sums_get Books.sums_set Books.stored_get Books.stored_set Books.marks_get Books.marks_set Pair.length_enc Pair.ok_enc Pair.all_get Pair.all_set Pair.key_get Pair.key_set Pair.value_get Pair.value_set
attribute [local go_sem] size_put size_ext blk_put free_put blk_alloc free_alloc blk_drew free_drew blk_ext free_ext lookOr_some putOr_some segAt_some cellAt_some storeIn_some put_put put_alloc_new length_arr ok_arr_u8 ok_arr_u32 ok_arr_u64 ok_arr_i64 ok_arr_sl cellsV_agg cellsV_int cellsV_bool cellsV_string cellsV_pointer cellsV_slice cellsV_sl ok_int ok_bool ok_string ok_pointer ok_slice ok_sl toList_arr seg_arr set_arr nth_splice nth_splice0 seg_splice seg_splice0 splice_splice splice_splice0 length_splice_if
attribute [local go_sem ↓] execOp_box
attribute [local go_sem] box_run nth_arr_u8 put_arr_u8 blk_drewN free_drewN put_drewN blk_raw free_raw
attribute [local go_sem ↓] execOp_bslice execOp_slice
attribute [local go_sem] bslice197 slice47 slice35 slice79
/-- The encoding of a message. -/
def encM (m : Message) : List UInt8 := [m.kind] ++ ([m.from_] ++ ([m.to_] ++ ([m.sender] ++ ([m.receiver] ++ (be8 m.seq ++ ([m.token] ++ (be8 m.amount ++ ([m.size] ++ m.payload.toList))))))))
def encX (x : Tx) : List UInt8 := [x.kind] ++ ([x.chain] ++ ([x.from_] ++ (be8 x.nonce ++ (be8 x.fee ++ ([x.to_] ++ ([x.dest] ++ ([x.token] ++ (be8 x.amount ++ ([x.size] ++ (x.payload.toList ++ encM x.msg))))))))))
theorem encM_len (m : Message) : (encM m).length = 55 := by unfold encM; simp [be8_len]
theorem encX_len (x : Tx) : (encX x).length = 118 := by unfold encX; simp [be8_len, encM_len]
set_option maxRecDepth 20000 in
set_option maxHeartbeats 2000000 in
theorem putMessage_any (W0 W : World) (a : Option Addr) (n c : Nat) (ts : List UInt8) (h : OutB W0 W a n c ts) (hl : ts.length ≤ 900000000) (m : Message) : Calls Tryz.prog 226 #[.slice a n c, .agg m.enc.toArray] W (PutB W0 W (ts ++ encM m)) := by
  obtain ⟨W1, hW1⟩ : ∃ W1 : World, W1 = W.alloc (.cells m.enc.toArray 38) := ⟨_, rfl⟩
  have hx1 : W.Extends W1 := by rw [hW1]; exact extends_alloc (ext_Ext (Ext.refl _)) _
  have hO0 : OutB W0 W1 a n c ts := h.ext hx1
  have HKB : Hid (∀ V, Nb W1 V → blk V W.heap.size = some m.enc) := fun V hN => by
    rw [hW1] at hN
    exact (hN.new (by decide)).1
  have kb0 : blk W1 W.heap.size = some m.enc := HKB.out W1 (Nb.refl _)
  have HNB0 : Hid (Nb W1 W1) := Nb.refl _
  have HX1 := hid_of hx1
  obtain ⟨Q, hQ⟩ : ∃ Q : Ending → World → Prop, Q = PutB W0 W (ts ++ encM m) := ⟨_, rfl⟩
  rw [← hQ]
  have HQ := hid_of hQ
  clear hQ h hx1
  go_enter Tryz.func226, Tryz.ntmps226
  go_wp2_with fail
  rw [← hW1]
  have hW2 := hid_of hW1
  clear hW1
  obtain ⟨V0, hV0⟩ : ∃ V0, V0 = W1 := ⟨_, rfl⟩
  rw [← hV0] at hO0 kb0
  have HNB0 : Hid (Nb W1 V0) := by rw [hV0]; exact Nb.refl _
  rw [← hV0]
  clear hV0
  have hc1 := putU8_any W0 V0 _ _ _ _ hO0 (by first | omega | (simp [be8_len]; done) | (simp [be8_len]; omega)) m.kind
  clear hO0
  refine hc1.mono ?_
  rintro e V1 ⟨a1, n1, c1, rfl, hO1, hN1⟩
  have kb1 : blk V1 W.heap.size = some m.enc := HKB.out V1 (HNB0.out.trans hN1)
  have HNB1 : Hid (Nb W1 V1) := HNB0.out.trans hN1
  clear hc1 hN1 kb0
  have hc2 := putU8_any W0 V1 _ _ _ _ hO1 (by first | omega | (simp [be8_len]; done) | (simp [be8_len]; omega)) m.from_
  clear hO1
  dsimp only
  go_wp2_with fail
  refine hc2.mono ?_
  rintro e V2 ⟨a2, n2, c2, rfl, hO2, hN2⟩
  have kb2 : blk V2 W.heap.size = some m.enc := HKB.out V2 (HNB1.out.trans hN2)
  have HNB2 : Hid (Nb W1 V2) := HNB1.out.trans hN2
  clear hc2 hN2 kb1
  have hc3 := putU8_any W0 V2 _ _ _ _ hO2 (by first | omega | (simp [be8_len]; done) | (simp [be8_len]; omega)) m.to_
  clear hO2
  dsimp only
  go_wp2_with fail
  refine hc3.mono ?_
  rintro e V3 ⟨a3, n3, c3, rfl, hO3, hN3⟩
  have kb3 : blk V3 W.heap.size = some m.enc := HKB.out V3 (HNB2.out.trans hN3)
  have HNB3 : Hid (Nb W1 V3) := HNB2.out.trans hN3
  clear hc3 hN3 kb2
  have hc4 := putU8_any W0 V3 _ _ _ _ hO3 (by first | omega | (simp [be8_len]; done) | (simp [be8_len]; omega)) m.sender
  clear hO3
  dsimp only
  go_wp2_with fail
  refine hc4.mono ?_
  rintro e V4 ⟨a4, n4, c4, rfl, hO4, hN4⟩
  have kb4 : blk V4 W.heap.size = some m.enc := HKB.out V4 (HNB3.out.trans hN4)
  have HNB4 : Hid (Nb W1 V4) := HNB3.out.trans hN4
  clear hc4 hN4 kb3
  have hc5 := putU8_any W0 V4 _ _ _ _ hO4 (by first | omega | (simp [be8_len]; done) | (simp [be8_len]; omega)) m.receiver
  clear hO4
  dsimp only
  go_wp2_with fail
  refine hc5.mono ?_
  rintro e V5 ⟨a5, n5, c5, rfl, hO5, hN5⟩
  have kb5 : blk V5 W.heap.size = some m.enc := HKB.out V5 (HNB4.out.trans hN5)
  have HNB5 : Hid (Nb W1 V5) := HNB4.out.trans hN5
  clear hc5 hN5 kb4
  have hc6 := putU64_any W0 V5 _ _ _ _ hO5 (by first | omega | (simp [be8_len]; done) | (simp [be8_len]; omega)) m.seq
  clear hO5
  dsimp only
  go_wp2_with fail
  refine hc6.mono ?_
  rintro e V6 ⟨a6, n6, c6, rfl, hO6, hN6⟩
  have kb6 : blk V6 W.heap.size = some m.enc := HKB.out V6 (HNB5.out.trans hN6)
  have HNB6 : Hid (Nb W1 V6) := HNB5.out.trans hN6
  clear hc6 hN6 kb5
  have hc7 := putU8_any W0 V6 _ _ _ _ hO6 (by first | omega | (simp [be8_len]; done) | (simp [be8_len]; omega)) m.token
  clear hO6
  dsimp only
  go_wp2_with fail
  refine hc7.mono ?_
  rintro e V7 ⟨a7, n7, c7, rfl, hO7, hN7⟩
  have kb7 : blk V7 W.heap.size = some m.enc := HKB.out V7 (HNB6.out.trans hN7)
  have HNB7 : Hid (Nb W1 V7) := HNB6.out.trans hN7
  clear hc7 hN7 kb6
  have hc8 := putU64_any W0 V7 _ _ _ _ hO7 (by first | omega | (simp [be8_len]; done) | (simp [be8_len]; omega)) m.amount
  clear hO7
  dsimp only
  go_wp2_with fail
  refine hc8.mono ?_
  rintro e V8 ⟨a8, n8, c8, rfl, hO8, hN8⟩
  have kb8 : blk V8 W.heap.size = some m.enc := HKB.out V8 (HNB7.out.trans hN8)
  have HNB8 : Hid (Nb W1 V8) := HNB7.out.trans hN8
  clear hc8 hN8 kb7
  have hc9 := putU8_any W0 V8 _ _ _ _ hO8 (by first | omega | (simp [be8_len]; done) | (simp [be8_len]; omega)) m.size
  clear hO8
  dsimp only
  go_wp2_with fail
  refine hc9.mono ?_
  rintro e V9 ⟨a9, n9, c9, rfl, hO9, hN9⟩
  have kb9 : blk V9 W.heap.size = some m.enc := HKB.out V9 (HNB8.out.trans hN9)
  have HNB9 : Hid (Nb W1 V9) := HNB8.out.trans hN9
  clear hc9 hN9 kb8
  have hb : Bs V9 (some ⟨W.heap.size, 9, none⟩) 32 m.payload.toList := ⟨by simp, fun _ => ⟨_, 9, _, rfl, kb9, by rw [Message.length_enc]; omega, by rw [Message.payload_get, arr_bv]⟩, .inr ⟨_, _, rfl⟩⟩
  obtain ⟨a10, c10, V10, hrun, hO10, hN10⟩ := OutB.bytes hO9 hb 32 (by simp [be8_len]; omega)
  have HP : Hid (Q (.returned (.slice a10 (n9 + 32) c10)) V10) := by
    show Q _ _
    rw [HQ.out]
    refine ⟨a10, n9 + 32, c10, rfl, ?_, (Nb.ext HX1.out).trans (HNB9.out.trans hN10)⟩
    unfold encM
    simpa only [List.append_assoc] using hO10
  clear hO10 hN10 hb hO9
  dsimp only
  go_wp2_with (at_builtin; refine wpList_append_run rfl _ _ 197 rfl _ _ _ _ rfl rfl hrun ?_)
  try go_ret
  exact HP.out
set_option maxRecDepth 20000 in
set_option maxHeartbeats 2000000 in
theorem encodeTx_any (W : World) (x : Tx) : Calls Tryz.prog 189 #[.agg x.enc.toArray] W (PutB W W (encX x)) := by
  obtain ⟨W1, hW1⟩ : ∃ W1 : World, W1 = W.alloc (.cells x.enc.toArray 40) := ⟨_, rfl⟩
  have hx1 : W.Extends W1 := by rw [hW1]; exact extends_alloc (ext_Ext (Ext.refl _)) _
  have hO0 : OutB W1 W1 none 0 0 [] := OutG.nil (ext_Ext (Ext.refl _))
  have HKB : Hid (∀ V, Nb W1 V → blk V W.heap.size = some x.enc) := fun V hN => by
    rw [hW1] at hN
    exact (hN.new (by decide)).1
  have kb0 : blk W1 W.heap.size = some x.enc := HKB.out W1 (Nb.refl _)
  have HX1 := hid_of hx1
  obtain ⟨Q, hQ⟩ : ∃ Q : Ending → World → Prop, Q = PutB W W (encX x) := ⟨_, rfl⟩
  rw [← hQ]
  have HQ := hid_of hQ
  clear hQ hx1
  go_enter Tryz.func189, Tryz.ntmps189
  go_wp2_with fail
  rw [← hW1]
  have hW2 := hid_of hW1
  clear hW1
  obtain ⟨V0, hV0⟩ : ∃ V0, V0 = W1 := ⟨_, rfl⟩
  have hO0 : OutB W1 V0 none 0 0 [] := by rw [hV0]; exact hO0
  rw [← hV0] at kb0
  have HNB0 : Hid (Nb W1 V0) := by rw [hV0]; exact Nb.refl _
  have hV9 : W1 = V0 := hV0.symm
  rw [show Calls Tryz.prog 142 _ W1 = Calls Tryz.prog 142 _ V0 from by rw [hV9]]
  clear hV0 hV9
  have hc1 := putU8_any W1 V0 _ _ _ _ hO0 (by first | omega | (simp [be8_len]; done) | (simp [be8_len]; omega)) x.kind
  clear hO0
  refine hc1.mono ?_
  rintro e V1 ⟨a1, n1, c1, rfl, hO1, hN1⟩
  have kb1 : blk V1 W.heap.size = some x.enc := HKB.out V1 (HNB0.out.trans hN1)
  have HNB1 : Hid (Nb W1 V1) := HNB0.out.trans hN1
  clear hc1 hN1 kb0
  have hc2 := putU8_any W1 V1 _ _ _ _ hO1 (by first | omega | (simp [be8_len]; done) | (simp [be8_len]; omega)) x.chain
  clear hO1
  dsimp only
  go_wp2_with fail
  refine hc2.mono ?_
  rintro e V2 ⟨a2, n2, c2, rfl, hO2, hN2⟩
  have kb2 : blk V2 W.heap.size = some x.enc := HKB.out V2 (HNB1.out.trans hN2)
  have HNB2 : Hid (Nb W1 V2) := HNB1.out.trans hN2
  clear hc2 hN2 kb1
  have hc3 := putU8_any W1 V2 _ _ _ _ hO2 (by first | omega | (simp [be8_len]; done) | (simp [be8_len]; omega)) x.from_
  clear hO2
  dsimp only
  go_wp2_with fail
  refine hc3.mono ?_
  rintro e V3 ⟨a3, n3, c3, rfl, hO3, hN3⟩
  have kb3 : blk V3 W.heap.size = some x.enc := HKB.out V3 (HNB2.out.trans hN3)
  have HNB3 : Hid (Nb W1 V3) := HNB2.out.trans hN3
  clear hc3 hN3 kb2
  have hc4 := putU64_any W1 V3 _ _ _ _ hO3 (by first | omega | (simp [be8_len]; done) | (simp [be8_len]; omega)) x.nonce
  clear hO3
  dsimp only
  go_wp2_with fail
  refine hc4.mono ?_
  rintro e V4 ⟨a4, n4, c4, rfl, hO4, hN4⟩
  have kb4 : blk V4 W.heap.size = some x.enc := HKB.out V4 (HNB3.out.trans hN4)
  have HNB4 : Hid (Nb W1 V4) := HNB3.out.trans hN4
  clear hc4 hN4 kb3
  have hc5 := putU64_any W1 V4 _ _ _ _ hO4 (by first | omega | (simp [be8_len]; done) | (simp [be8_len]; omega)) x.fee
  clear hO4
  dsimp only
  go_wp2_with fail
  refine hc5.mono ?_
  rintro e V5 ⟨a5, n5, c5, rfl, hO5, hN5⟩
  have kb5 : blk V5 W.heap.size = some x.enc := HKB.out V5 (HNB4.out.trans hN5)
  have HNB5 : Hid (Nb W1 V5) := HNB4.out.trans hN5
  clear hc5 hN5 kb4
  have hc6 := putU8_any W1 V5 _ _ _ _ hO5 (by first | omega | (simp [be8_len]; done) | (simp [be8_len]; omega)) x.to_
  clear hO5
  dsimp only
  go_wp2_with fail
  refine hc6.mono ?_
  rintro e V6 ⟨a6, n6, c6, rfl, hO6, hN6⟩
  have kb6 : blk V6 W.heap.size = some x.enc := HKB.out V6 (HNB5.out.trans hN6)
  have HNB6 : Hid (Nb W1 V6) := HNB5.out.trans hN6
  clear hc6 hN6 kb5
  have hc7 := putU8_any W1 V6 _ _ _ _ hO6 (by first | omega | (simp [be8_len]; done) | (simp [be8_len]; omega)) x.dest
  clear hO6
  dsimp only
  go_wp2_with fail
  refine hc7.mono ?_
  rintro e V7 ⟨a7, n7, c7, rfl, hO7, hN7⟩
  have kb7 : blk V7 W.heap.size = some x.enc := HKB.out V7 (HNB6.out.trans hN7)
  have HNB7 : Hid (Nb W1 V7) := HNB6.out.trans hN7
  clear hc7 hN7 kb6
  have hc8 := putU8_any W1 V7 _ _ _ _ hO7 (by first | omega | (simp [be8_len]; done) | (simp [be8_len]; omega)) x.token
  clear hO7
  dsimp only
  go_wp2_with fail
  refine hc8.mono ?_
  rintro e V8 ⟨a8, n8, c8, rfl, hO8, hN8⟩
  have kb8 : blk V8 W.heap.size = some x.enc := HKB.out V8 (HNB7.out.trans hN8)
  have HNB8 : Hid (Nb W1 V8) := HNB7.out.trans hN8
  clear hc8 hN8 kb7
  have hc9 := putU64_any W1 V8 _ _ _ _ hO8 (by first | omega | (simp [be8_len]; done) | (simp [be8_len]; omega)) x.amount
  clear hO8
  dsimp only
  go_wp2_with fail
  refine hc9.mono ?_
  rintro e V9 ⟨a9, n9, c9, rfl, hO9, hN9⟩
  have kb9 : blk V9 W.heap.size = some x.enc := HKB.out V9 (HNB8.out.trans hN9)
  have HNB9 : Hid (Nb W1 V9) := HNB8.out.trans hN9
  clear hc9 hN9 kb8
  have hc10 := putU8_any W1 V9 _ _ _ _ hO9 (by first | omega | (simp [be8_len]; done) | (simp [be8_len]; omega)) x.size
  clear hO9
  dsimp only
  go_wp2_with fail
  refine hc10.mono ?_
  rintro e V10 ⟨a10, n10, c10, rfl, hO10, hN10⟩
  have kb10 : blk V10 W.heap.size = some x.enc := HKB.out V10 (HNB9.out.trans hN10)
  have HNB10 : Hid (Nb W1 V10) := HNB9.out.trans hN10
  clear hc10 hN10 kb9
  have hb : Bs V10 (some ⟨W.heap.size, 10, none⟩) 32 x.payload.toList := ⟨by simp, fun _ => ⟨_, 10, _, rfl, kb10, by rw [Tx.length_enc]; omega, by rw [Tx.payload_get, arr_bv]⟩, .inr ⟨_, _, rfl⟩⟩
  obtain ⟨a11, c11, V11, hrun, hO11, hN11⟩ := OutB.bytes hO10 hb 32 (by simp [be8_len])
  have hpm := putMessage_any W1 V11 _ _ _ _ hO11 (by simp [be8_len]) x.msg
  have kb11 : blk V11 W.heap.size = some x.enc := HKB.out V11 (HNB10.out.trans hN11)
  clear hO11 hN11 hb hO10 kb10
  dsimp only
  go_wp2_with (at_builtin; refine wpList_append_run rfl _ _ 197 rfl _ _ _ _ rfl rfl hrun ?_)
  refine hpm.mono ?_
  rintro e V12 ⟨a12, n12, c12, rfl, hO12, -⟩
  have HP : Hid (Q (.returned (.slice a12 n12 c12)) V12) := by
    show Q _ _
    rw [HQ.out]
    have hb := hO12.base HX1.out
    refine ⟨a12, n12, c12, rfl, ?_, Nb.ext hb.2.1⟩
    unfold encX
    simpa only [List.append_assoc, List.nil_append] using hb
  clear hO12 hpm
  dsimp only
  go_wp2_with fail
  try go_ret
  exact HP.out
/-- The hash of a transaction. -/
def hashF (x : Tx) : Dig := tagF 5 (encX x)
set_option maxRecDepth 20000 in
theorem hashTx_any (W : World) (x : Tx) : Calls Tryz.prog 97 #[.agg x.enc.toArray] W fun e V => e = .returned (.agg (arr u8v (hashF x)).toArray) ∧ W.Extends V := by
  obtain ⟨W1, hW1⟩ : ∃ W1 : World, W1 = (W.alloc (.cells x.enc.toArray 40)).alloc (.cells (arr u8v (Vector.replicate 32 (0 : UInt8))).toArray 47) := ⟨_, rfl⟩
  have hx1 : W.Extends W1 := by rw [hW1]; exact extends_alloc (extends_alloc (ext_Ext (Ext.refl _)) _) _
  have hb1 : blk W1 (W.heap.size + 1) = some (arr u8v (Vector.replicate 32 (0 : UInt8))) := by rw [hW1, blk_alloc, World.size_alloc, if_pos rfl]
  have hf1 : free W1 (W.heap.size + 1) = true := by rw [hW1, free_alloc, World.size_alloc, if_pos rfl]
  have he := encodeTx_any W1 x
  rw [hW1] at he
  rw [← hW1] at he
  have HX1 := hid_of hx1
  clear hx1
  go_enter Tryz.func97, Tryz.ntmps97
  go_wp2_with fail
  rw [← hW1]
  refine he.mono ?_
  rintro e V2 ⟨a2, n2, c2, rfl, hO2, -⟩
  have hn2 : n2 = 118 := by rw [hO2.2.2, encX_len]
  have htag : Calls Tryz.prog 115 #[.int .u8 5, .slice a2 n2 c2] V2 fun e w' => e = .returned (.agg (arr u8v (hashF x)).toArray) ∧ V2.Extends w' := tagged_any V2 5 a2 n2 c2 _ hO2.bs (by omega)
  have hb2 : blk V2 (W.heap.size + 1) = some (arr u8v (Vector.replicate 32 (0 : UInt8))) := (hO2.2.1.blk (blk_lt hb1)).trans hb1
  have hf2 : free V2 (W.heap.size + 1) = true := (free_of_heap (hO2.2.1.block _ (blk_lt hb1))).trans hf1
  have HX2 : Hid (W.Extends V2) := HX1.out.trans hO2.2.1
  clear hO2 he hb1 hf1 hW1 hn2
  dsimp only
  go_wp2_with fail
  refine htag.mono ?_
  rintro e V3 ⟨rfl, hx3⟩
  have hb3 : blk V3 (W.heap.size + 1) = some (arr u8v (Vector.replicate 32 (0 : UInt8))) := (hx3.blk (blk_lt hb2)).trans hb2
  have hf3 : free V3 (W.heap.size + 1) = true := (free_of_heap (hx3.block _ (blk_lt hb2))).trans hf2
  have HX3 : Hid (W.Extends V3) := HX2.out.trans hx3
  clear hx3 htag hb2 hf2
  dsimp only
  go_wp2_with fail
  refine ret_cell (C := arr u8v (hashF x)) rfl rfl (by rw [blk_put, if_pos rfl, hb3]; rfl) (by kernel_rfl) (by rw [length_arr]; kernel_rfl) rfl ?_
  exact ⟨rfl, extends_put HX3.out (by omega) _⟩
end Go.Proofs.Qxb6500786aGreat
