import Derived.DeepKeys2
import Derived.Test.Qxb6500786aGreatRvd
import Derived.Test.Qxb6500786aGreatUd
import Derived.Test.Qxb6500786aGreatDe

import Derived.StillTailTactics
import Derived.Deep.QuietTactic
import Derived.BigQuiet
import Derived.Deep.RegionHeld
import Derived.Deep.CutRange
import Derived.Laws.ResultCell
import Derived.Laws.Rows
import Derived.DeepKeys
import Derived.DataBytes
import Derived.Laws.StructEq
import Derived.Laws.AppendOwn
import Derived.Laws.MakeOwn
import Derived.Lib.AppendStr
set_option linter.unusedSimpArgs false
set_option linter.unusedVariables false
namespace Go.Proofs.Qxb6500786aGreat
open Go.RowKit Go.Blk
attribute [local go_sem ↓] execOp_load execOp_store execOp_alloc
attribute [local go_sem] Tryz.ld24 Tryz.st24 Tryz.ld36 Tryz.st36 Tryz.ld28 Tryz.st28 Tryz.ld32 Tryz.st32 Tryz.ld33 Tryz.st33 Tryz.ld34 Tryz.st34 Tryz.ld5 Tryz.st5 Tryz.ld31 Tryz.st31 Tryz.ld30 Tryz.st30 Tryz.ld41 Tryz.st41 Tryz.ld44 Tryz.st44 Tryz.ld4 Tryz.st4 Tryz.ld173 Tryz.st173 Tryz.ld174 Tryz.st174 Tryz.ld95 Tryz.st95 Tryz.ld45 Tryz.st45 Tryz.ld207 Tryz.st207 Tryz.ld3 Tryz.st3 Tryz.ld189 Tryz.st189 Tryz.ld2 Tryz.st2 Tryz.ld9 Tryz.st9 Tryz.ld12 Tryz.st12 Tryz.ld21 Tryz.st21 Tryz.ld22 Tryz.st22 Tryz.ld46 Tryz.st46 Tryz.ld92 Tryz.st92 Tryz.ld94 Tryz.st94 Tryz.ld96 Tryz.st96 Tryz.ld97 Tryz.st97 Tryz.ld105 Tryz.st105 Tryz.ld117 Tryz.st117 Tryz.ld122 Tryz.st122 Tryz.ld123 Tryz.st123 Tryz.ld133 Tryz.st133 Tryz.ld155 Tryz.st155 Tryz.ld163 Tryz.st163 Tryz.ld190 Tryz.st190 Tryz.ld197 Tryz.st197 Tryz.ld201 Tryz.st201 Tryz.ld202 Tryz.st202 Tryz.ld209 Tryz.st209 Tryz.ld216 Tryz.st216 Tryz.ld230 Tryz.st230 Tryz.ld238 Tryz.st238 Tryz.ld242 Tryz.st242 Tryz.ld251 Tryz.st251 Tryz.ld260 Tryz.st260 Tryz.ld286 Tryz.st286 Tryz.ld292 Tryz.st292 Tryz.ld298 Tryz.st298 Tryz.ld309 Tryz.st309 Tryz.ld35 Tryz.st35 Tryz.ld48 Tryz.st48 Tryz.ld47 Tryz.st47 Tryz.ld79 Tryz.st79 Tryz.ld177 Tryz.st177 Tryz.ld180 Tryz.st180 Tryz.ld231 Tryz.st231 Tryz.ld232 Tryz.st232 Tryz.ld26 Tryz.st26 Tryz.ld38 Tryz.st38 Tryz.ld40 Tryz.st40 Tryz.ld43 Tryz.st43 Tryz.ld50 Tryz.st50 Tryz.ld52 Tryz.st52 Tryz.ld54 Tryz.st54 Tryz.ld81 Tryz.st81 Tryz.ld112 Tryz.st112 Tryz.ld120 Tryz.st120 Tryz.ld176 Tryz.st176 Tryz.ld179 Tryz.st179 Tryz.ld182 Tryz.st182 Tryz.ld184 Tryz.st184 Tryz.ld234 Tryz.st234 Tryz.ld236 Tryz.st236 Tryz.ld240 Tryz.st240 Tryz.ld246 Tryz.st246 Tryz.ld249 Tryz.st249 Tryz.al35 Tryz.al48 Tryz.al47 Tryz.al79 Tryz.al177 Tryz.al180 Tryz.al231 Tryz.al232 Tryz.al26 Tryz.al38 Tryz.al40 Tryz.al43 Tryz.al50 Tryz.al52 Tryz.al54 Tryz.al81 Tryz.al112 Tryz.al120 Tryz.al176 Tryz.al179 Tryz.al182 Tryz.al184 Tryz.al234 Tryz.al236 Tryz.al240 Tryz.al246 Tryz.al249
attribute [local go_sem] Player.length_enc Player.ok_enc Player.all_get Player.all_set Player.hand_get Player.hand_set Player.aside_get Player.aside_set Message.length_enc Message.ok_enc Message.all_get Message.all_set Message.kind_get Message.kind_set Message.from__get Message.from__set Message.to__get Message.to__set Message.sender_get Message.sender_set Message.receiver_get Message.receiver_set Message.seq_get Message.seq_set Message.token_get Message.token_set Message.amount_get Message.amount_set Message.size_get Message.size_set Message.payload_get Message.payload_set Tx.length_enc Tx.ok_enc Tx.all_get Tx.all_set Tx.kind_get Tx.kind_set Tx.chain_get Tx.chain_set Tx.from__get Tx.from__set Tx.nonce_get Tx.nonce_set Tx.fee_get Tx.fee_set Tx.to__get Tx.to__set Tx.dest_get Tx.dest_set Tx.token_get Tx.token_set Tx.amount_get Tx.amount_set Tx.size_get Tx.size_set Tx.payload_get Tx.payload_set Tx.msg_get Tx.msg_set Tx.msg_kind_get Tx.msg_kind_set Tx.msg_from__get Tx.msg_from__set Tx.msg_to__get Tx.msg_to__set Tx.msg_sender_get Tx.msg_sender_set Tx.msg_receiver_get Tx.msg_receiver_set Tx.msg_seq_get Tx.msg_seq_set Tx.msg_token_get Tx.msg_token_set Tx.msg_amount_get Tx.msg_amount_set Tx.msg_size_get Tx.msg_size_set Tx.msg_payload_get Tx.msg_payload_set GOp.length_enc GOp.ok_enc GOp.all_get GOp.all_set GOp.kind_get GOp.kind_set GOp.tx_get GOp.tx_set GOp.txs_get GOp.txs_set GOp.gas_get GOp.gas_set GOp.acct_get GOp.acct_set GOp.token_get GOp.token_set GOp.chain_get GOp.chain_set GOp.seq_get GOp.seq_set GOp.tx_kind_get GOp.tx_kind_set GOp.tx_chain_get GOp.tx_chain_set GOp.tx_from__get GOp.tx_from__set GOp.tx_nonce_get GOp.tx_nonce_set GOp.tx_fee_get GOp.tx_fee_set GOp.tx_to__get GOp.tx_to__set GOp.tx_dest_get GOp.tx_dest_set GOp.tx_token_get GOp.tx_token_set GOp.tx_amount_get GOp.tx_amount_set GOp.tx_size_get GOp.tx_size_set GOp.tx_payload_get GOp.tx_payload_set GOp.tx_msg_get GOp.tx_msg_set GOp.tx_msg_kind_get GOp.tx_msg_kind_set GOp.tx_msg_from__get GOp.tx_msg_from__set GOp.tx_msg_to__get GOp.tx_msg_to__set GOp.tx_msg_sender_get GOp.tx_msg_sender_set GOp.tx_msg_receiver_get GOp.tx_msg_receiver_set GOp.tx_msg_seq_get GOp.tx_msg_seq_set GOp.tx_msg_token_get GOp.tx_msg_token_set GOp.tx_msg_amount_get GOp.tx_msg_amount_set GOp.tx_msg_size_get GOp.tx_msg_size_set GOp.tx_msg_payload_get GOp.tx_msg_payload_set Summary.length_enc Summary.ok_enc Summary.all_get Summary.all_set Summary.height_get Summary.height_set Summary.txs_get Summary.txs_set Summary.gas_get Summary.gas_set Summary.fees_get Summary.fees_set Summary.sent_get Summary.sent_set Summary.took_get Summary.took_set Summary.minted_get Summary.minted_set Summary.burned_get Summary.burned_set Summary.root_get Summary.root_set Detail.length_enc Detail.ok_enc Detail.all_get Detail.all_set Detail.code_get Detail.code_set Detail.have__get Detail.have__set Detail.need_get Detail.need_set Slot.length_enc Slot.ok_enc Slot.all_get Slot.all_set Slot.nonce_get Slot.nonce_set Slot.balances_get Slot.balances_set Tree.length_enc Tree.ok_enc Tree.all_get Tree.all_set Tree.leaves_get Tree.leaves_set Mark.length_enc Mark.ok_enc Mark.all_get Mark.all_set Mark.from__get Mark.from__set Mark.seq_get Mark.seq_set Receipt.length_enc Receipt.ok_enc Receipt.all_get Receipt.all_set Receipt.code_get Receipt.code_set Receipt.hash_get Receipt.hash_set Receipt.index_get Receipt.index_set Receipt.gas_get Receipt.gas_set Receipt.fee_get Receipt.fee_set Receipt.hasSent_get Receipt.hasSent_set Receipt.sent_get Receipt.sent_set Receipt.hasTook_get Receipt.hasTook_set Receipt.took_get Receipt.took_set Receipt.sent_kind_get Receipt.sent_kind_set Receipt.sent_from__get Receipt.sent_from__set Receipt.sent_to__get Receipt.sent_to__set Receipt.sent_sender_get Receipt.sent_sender_set Receipt.sent_receiver_get Receipt.sent_receiver_set Receipt.sent_seq_get Receipt.sent_seq_set Receipt.sent_token_get Receipt.sent_token_set Receipt.sent_amount_get Receipt.sent_amount_set Receipt.sent_size_get Receipt.sent_size_set Receipt.sent_payload_get Receipt.sent_payload_set Receipt.took_kind_get Receipt.took_kind_set Receipt.took_from__get Receipt.took_from__set Receipt.took_to__get Receipt.took_to__set Receipt.took_sender_get Receipt.took_sender_set Receipt.took_receiver_get Receipt.took_receiver_set Receipt.took_seq_get Receipt.took_seq_set Receipt.took_token_get Receipt.took_token_set Receipt.took_amount_get Receipt.took_amount_set Receipt.took_size_get Receipt.took_size_set Receipt.took_payload_get Receipt.took_payload_set Store.length_enc Store.ok_enc Store.all_get Store.all_set Store.now_get Store.now_set Store.saved_get Store.saved_set GState.length_enc GState.ok_enc GState.all_get GState.all_set GState.kv_get GState.kv_set GState.tree_get GState.tree_set GState.stale_get GState.stale_set GState.touched_get GState.touched_set GState.kv_now_get GState.kv_now_set GState.kv_saved_get GState.kv_saved_set GState.tree_leaves_get GState.tree_leaves_set History.length_enc History.ok_enc History.all_get History.all_set History.ring_get History.ring_set History.closed_get History.closed_set Ledger.length_enc Ledger.ok_enc Ledger.all_get Ledger.all_set Ledger.chain_get Ledger.chain_set Ledger.st_get Ledger.st_set Ledger.height_get Ledger.height_set Ledger.open__get Ledger.open__set Ledger.gasLimit_get Ledger.gasLimit_set Ledger.past_get Ledger.past_set Ledger.begun_get Ledger.begun_set Ledger.sent_get Ledger.sent_set Ledger.took_get Ledger.took_set Ledger.receipts_get Ledger.receipts_set Ledger.st_kv_get Ledger.st_kv_set Ledger.st_tree_get Ledger.st_tree_set Ledger.st_stale_get Ledger.st_stale_set Ledger.st_touched_get Ledger.st_touched_set Ledger.st_kv_now_get Ledger.st_kv_now_set Ledger.st_kv_saved_get Ledger.st_kv_saved_set Ledger.st_tree_leaves_get Ledger.st_tree_leaves_set Ledger.past_ring_get Ledger.past_ring_set Ledger.past_closed_get Ledger.past_closed_set Ledger.begun_kv_get Ledger.begun_kv_set Ledger.begun_tree_get Ledger.begun_tree_set Ledger.begun_stale_get Ledger.begun_stale_set Ledger.begun_touched_get Ledger.begun_touched_set Ledger.begun_kv_now_get Ledger.begun_kv_now_set Ledger.begun_kv_saved_get Ledger.begun_kv_saved_set Ledger.begun_tree_leaves_get Ledger.begun_tree_leaves_set Purse.length_enc Purse.ok_enc Purse.all_get Purse.all_set Purse.st_get Purse.st_set Purse.n_get Purse.n_set Purse.account_get Purse.account_set Purse.token_get Purse.token_set Purse.amount_get Purse.amount_set Plan.length_enc Plan.ok_enc Plan.all_get Plan.all_set Plan.purse_get Plan.purse_set Plan.nonce_get Plan.nonce_set Plan.gasUsed_get Plan.gasUsed_set Plan.fees_get Plan.fees_set Plan.hasSupply_get Plan.hasSupply_set Plan.token_get Plan.token_set Plan.supply_get Plan.supply_set Plan.flowAt_get Plan.flowAt_set Plan.flow_get Plan.flow_set Plan.receipt_get Plan.receipt_set Plan.purse_st_get Plan.purse_st_set Plan.purse_n_get Plan.purse_n_set Plan.purse_account_get Plan.purse_account_set Plan.purse_token_get Plan.purse_token_set Plan.purse_amount_get Plan.purse_amount_set Plan.receipt_code_get Plan.receipt_code_set Plan.receipt_hash_get Plan.receipt_hash_set Plan.receipt_index_get Plan.receipt_index_set Plan.receipt_gas_get Plan.receipt_gas_set Plan.receipt_fee_get Plan.receipt_fee_set Plan.receipt_hasSent_get Plan.receipt_hasSent_set Plan.receipt_sent_get Plan.receipt_sent_set Plan.receipt_hasTook_get Plan.receipt_hasTook_set Plan.receipt_took_get Plan.receipt_took_set Plan.receipt_sent_kind_get Plan.receipt_sent_kind_set Plan.receipt_sent_from__get Plan.receipt_sent_from__set Plan.receipt_sent_to__get Plan.receipt_sent_to__set Plan.receipt_sent_sender_get Plan.receipt_sent_sender_set Plan.receipt_sent_receiver_get Plan.receipt_sent_receiver_set Plan.receipt_sent_seq_get Plan.receipt_sent_seq_set Plan.receipt_sent_token_get Plan.receipt_sent_token_set Plan.receipt_sent_amount_get Plan.receipt_sent_amount_set Plan.receipt_sent_size_get Plan.receipt_sent_size_set Plan.receipt_sent_payload_get Plan.receipt_sent_payload_set Plan.receipt_took_kind_get Plan.receipt_took_kind_set Plan.receipt_took_from__get Plan.receipt_took_from__set Plan.receipt_took_to__get Plan.receipt_took_to__set Plan.receipt_took_sender_get Plan.receipt_took_sender_set Plan.receipt_took_receiver_get Plan.receipt_took_receiver_set Plan.receipt_took_seq_get Plan.receipt_took_seq_set Plan.receipt_took_token_get Plan.receipt_took_token_set Plan.receipt_took_amount_get Plan.receipt_took_amount_set Plan.receipt_took_size_get Plan.receipt_took_size_set Plan.receipt_took_payload_get Plan.receipt_took_payload_set Move.length_enc Move.ok_enc Move.all_get Move.all_set Move.account_get Move.account_set Move.token_get Move.token_set Move.down_get Move.down_set Move.amount_get Move.amount_set Books.length_enc Books.ok_enc Books.all_get Books.all_set Books.sums_get Books.sums_set Books.stored_get Books.stored_set Books.marks_get Books.marks_set Pair.length_enc Pair.ok_enc Pair.all_get Pair.all_set Pair.key_get Pair.key_set Pair.value_get Pair.value_set
attribute [local go_sem] size_put size_ext blk_put free_put blk_alloc free_alloc blk_drew free_drew blk_ext free_ext lookOr_some putOr_some segAt_some cellAt_some storeIn_some put_put put_alloc_new length_arr ok_arr_u8 ok_arr_u32 ok_arr_u64 ok_arr_i64 ok_arr_sl cellsV_agg cellsV_int cellsV_bool cellsV_string cellsV_pointer cellsV_slice cellsV_sl ok_int ok_bool ok_string ok_pointer ok_slice ok_sl toList_arr seg_arr set_arr nth_splice nth_splice0 seg_splice seg_splice0 splice_splice splice_splice0 length_splice_if
attribute [local go_sem ↓] execOp_box
attribute [local go_sem] box_run nth_arr_u8 put_arr_u8 blk_drewN free_drewN put_drewN blk_raw free_raw
attribute [local go_sem] Tryz.ld56 Tryz.st56 Tryz.ld91 Tryz.st91 Tryz.al56 Tryz.al91 Answer.length_enc Answer.ok_enc Answer.all_get Answer.all_set Answer.code_get Answer.code_set Answer.receipts_get Answer.receipts_set Answer.moves_get Answer.moves_set Answer.failed_get Answer.failed_set Answer.value_get Answer.value_set Answer.yes_get Answer.yes_set Answer.root_get Answer.root_set Answer.summary_get Answer.summary_set Answer.detail_get Answer.detail_set Answer.slot_get Answer.slot_set Answer.summary_height_get Answer.summary_height_set Answer.summary_txs_get Answer.summary_txs_set Answer.summary_gas_get Answer.summary_gas_set Answer.summary_fees_get Answer.summary_fees_set Answer.summary_sent_get Answer.summary_sent_set Answer.summary_took_get Answer.summary_took_set Answer.summary_minted_get Answer.summary_minted_set Answer.summary_burned_get Answer.summary_burned_set Answer.summary_root_get Answer.summary_root_set Answer.detail_code_get Answer.detail_code_set Answer.detail_have__get Answer.detail_have__set Answer.detail_need_get Answer.detail_need_set Answer.slot_nonce_get Answer.slot_nonce_set Answer.slot_balances_get Answer.slot_balances_set Block.length_enc Block.ok_enc Block.all_get Block.all_set Block.gasLimit_get Block.gasLimit_set Block.txs_get Block.txs_set
attribute [local go_sem] Tryz.ld61 Tryz.st61 Tryz.ld125 Tryz.st125 Tryz.ld148 Tryz.st148 Tryz.al61 Tryz.al125 Tryz.al148 View.length_enc View.ok_enc View.all_get View.all_set View.chain_get View.chain_set View.balances_get View.balances_set View.nonces_get View.nonces_set View.supply_get View.supply_set View.marks_get View.marks_set View.height_get View.height_set View.open__get View.open__set View.gasLimit_get View.gasLimit_set View.gasUsed_get View.gasUsed_set View.fees_get View.fees_set View.txs_get View.txs_set View.sent_get View.sent_set View.took_get View.took_set View.minted_get View.minted_set View.burned_get View.burned_set View.depth_get View.depth_set Trail.length_enc Trail.ok_enc Trail.all_get Trail.all_set Trail.views_get Trail.views_set Trail.roots_get Trail.roots_set Trail.begunView_get Trail.begunView_set Trail.begunRoot_get Trail.begunRoot_set Trail.begunKnown_get Trail.begunKnown_set Trail.begunView_chain_get Trail.begunView_chain_set Trail.begunView_balances_get Trail.begunView_balances_set Trail.begunView_nonces_get Trail.begunView_nonces_set Trail.begunView_supply_get Trail.begunView_supply_set Trail.begunView_marks_get Trail.begunView_marks_set Trail.begunView_height_get Trail.begunView_height_set Trail.begunView_open__get Trail.begunView_open__set Trail.begunView_gasLimit_get Trail.begunView_gasLimit_set Trail.begunView_gasUsed_get Trail.begunView_gasUsed_set Trail.begunView_fees_get Trail.begunView_fees_set Trail.begunView_txs_get Trail.begunView_txs_set Trail.begunView_sent_get Trail.begunView_sent_set Trail.begunView_took_get Trail.begunView_took_set Trail.begunView_minted_get Trail.begunView_minted_set Trail.begunView_burned_get Trail.begunView_burned_set Trail.begunView_depth_get Trail.begunView_depth_set Dump.length_enc Dump.ok_enc Dump.all_get Dump.all_set Dump.chain_get Dump.chain_set Dump.height_get Dump.height_set Dump.balances_get Dump.balances_set Dump.nonces_get Dump.nonces_set Dump.marks_get Dump.marks_set Dump.history_get Dump.history_set
attribute [local go_sem ↓] execOp_neq61 execOp_neq47 execOp_slice execOp_bslice execOp_build
attribute [local go_sem] neq47
theorem bslice_v {α : Type} {en : α → List Value} {sz bytes : Nat} {t e : TypeId} (hE : ElV en sz bytes t e) (hs : sz ≤ 10000) (w : World) (x : α) : (bsliceOp t 1 #[(0, .agg (en x).toArray)]).run Tryz.prog w = .ok (.value (.slice (some ⟨w.heap.size, 0, none⟩) 1 1)) (w.alloc (.cells (en x).toArray e)) := by
  obtain ⟨i, z, h1, h2, h3, h4, h5⟩ := hE.info
  have h6 := hE.pos
  have h7 := hE.len x
  have h8 : ¬ sz > 16777216 := by omega
  have h9 : ¬ sz = 0 := by omega
  have hf : ∀ cs : Array Value, cs.size = sz → List.foldl (fun (cs : Array Value) (p : Value × Nat) => cs.setIfInBounds p.snd p.fst) cs (en x).zipIdx = (en x).toArray := fun cs hc => by
    have h := foldO 0 (en x) 0 cs (by omega)
    rw [Nat.add_zero, splice_whole _ _ (by have h0 : cs.toList.length = cs.size := Array.length_toList; omega)] at h
    simpa only [Nat.zero_add] using h
  simp [bsliceOp, Instr.buildSlice, run_underlying hE.und, sizeOf, typeInfo, h1, h3, zeroValue, h2, h8, h9, Instr.fill, Value.cells, h7, newRow]
  rw [hf _ (by simp)]
set_option maxRecDepth 100000 in
theorem frame183L (f : Nat → Value) : frameN 183 f = List.toArray (f 0 :: f 1 :: f 2 :: f 3 :: f 4 :: f 5 :: f 6 :: f 7 :: f 8 :: f 9 :: f 10 :: f 11 :: f 12 :: f 13 :: f 14 :: f 15 :: f 16 :: f 17 :: f 18 :: f 19 :: f 20 :: f 21 :: f 22 :: f 23 :: f 24 :: f 25 :: f 26 :: f 27 :: f 28 :: f 29 :: f 30 :: f 31 :: f 32 :: f 33 :: f 34 :: f 35 :: f 36 :: f 37 :: f 38 :: f 39 :: f 40 :: f 41 :: f 42 :: f 43 :: f 44 :: f 45 :: f 46 :: f 47 :: f 48 :: f 49 :: f 50 :: f 51 :: f 52 :: f 53 :: f 54 :: f 55 :: f 56 :: f 57 :: f 58 :: f 59 :: f 60 :: f 61 :: f 62 :: f 63 :: f 64 :: f 65 :: f 66 :: f 67 :: f 68 :: f 69 :: f 70 :: f 71 :: f 72 :: f 73 :: f 74 :: f 75 :: f 76 :: f 77 :: f 78 :: f 79 :: f 80 :: f 81 :: f 82 :: f 83 :: f 84 :: f 85 :: f 86 :: f 87 :: f 88 :: f 89 :: f 90 :: f 91 :: f 92 :: f 93 :: f 94 :: f 95 :: f 96 :: f 97 :: f 98 :: f 99 :: f 100 :: f 101 :: f 102 :: f 103 :: f 104 :: f 105 :: f 106 :: f 107 :: f 108 :: f 109 :: f 110 :: f 111 :: f 112 :: f 113 :: f 114 :: f 115 :: f 116 :: f 117 :: f 118 :: f 119 :: f 120 :: f 121 :: f 122 :: f 123 :: f 124 :: f 125 :: f 126 :: f 127 :: f 128 :: f 129 :: f 130 :: f 131 :: f 132 :: f 133 :: f 134 :: f 135 :: f 136 :: f 137 :: f 138 :: f 139 :: f 140 :: f 141 :: f 142 :: f 143 :: f 144 :: f 145 :: f 146 :: f 147 :: f 148 :: f 149 :: f 150 :: f 151 :: f 152 :: f 153 :: f 154 :: f 155 :: f 156 :: f 157 :: f 158 :: f 159 :: f 160 :: f 161 :: f 162 :: f 163 :: f 164 :: f 165 :: f 166 :: f 167 :: f 168 :: f 169 :: f 170 :: f 171 :: f 172 :: f 173 :: f 174 :: f 175 :: f 176 :: f 177 :: f 178 :: f 179 :: f 180 :: f 181 :: f 182 :: []) := by kernel_rfl
theorem bslice122 (w : World) (r : View) : (bsliceOp 122 1 #[(0, .agg r.enc.toArray)]).run Tryz.prog w = .ok (.value (.slice (some ⟨w.heap.size, 0, none⟩) 1 1)) (w.alloc (.cells r.enc.toArray 61)) := by
  have hE := elv122
  exact bslice_v hE (by omega) w r
theorem bslice123w (w : World) (r : Dig) : (bsliceOp 123 1 #[(0, .agg (arr u8v r).toArray)]).run Tryz.prog w = .ok (.value (.slice (some ⟨w.heap.size, 0, none⟩) 1 1)) (w.alloc (.cells (arr u8v r).toArray 47)) := bslice_v elv123 (by omega) w r
attribute [local go_sem] bslice122 bslice123w
theorem field56b (w : World) (x : Answer) : (Instr.field 56 (.agg x.enc.toArray) 0).run Tryz.prog w = .ok (.int .i64 x.code) w := by kernel_rfl
theorem build125z (w : World) : (buildOp 125 #[]).run Tryz.prog w = .ok (.value (.agg Trail.zero.enc.toArray)) w := by kernel_rfl
attribute [local go_sem] build125z
def fr9 (a : Option Addr) (len cap i bp bh bz bo bw bd : Nat) (F : Nat → Value) : Prop := F 3 = .pointer (some ⟨bp, 0, none⟩) ∧ F 4 = .pointer (some ⟨bh, 0, none⟩) ∧ F 5 = .pointer (some ⟨bz, 0, none⟩) ∧ F 7 = .pointer (some ⟨bo, 0, none⟩) ∧ F 8 = .pointer (some ⟨bw, 0, none⟩) ∧ F 9 = .pointer (some ⟨bd, 0, none⟩) ∧ F 17 = .slice a len cap ∧ F 18 = .int .i64 (len : Nat) ∧ F 19 = .int .i64 (i : Nat)
def lw9 (W : World) (a : Option Addr) (len cap : Nat) (g : Nat → GOp) (bp bh bz : Nat) (F : Nat → Value) (V : World) : Prop := F 3 = .pointer (some ⟨bp, 0, none⟩) ∧ F 4 = .pointer (some ⟨bh, 0, none⟩) ∧ F 5 = .pointer (some ⟨bz, 0, none⟩) ∧ F 17 = .slice a len cap ∧ F 18 = .int .i64 (len : Nat) ∧ ∃ i : Nat, i ≤ len ∧ F 19 = .int .i64 (i : Nat) ∧ Hid (Lp9 W g bp bh bz i V)
set_option maxRecDepth 200000 in
set_option maxHeartbeats 4000000 in
theorem revert_walk (W : World) (a : Option Addr) (len cap : Nat) (g : Nat → GOp) (dt : Nat → List Tx) (hS : ScriptAt W a len cap g dt) : Calls Tryz.prog 9 #[.slice a len cap] W fun e V => e = .returned (.bool true) ∧ W.Extends V := by
  obtain ⟨Q, hQ⟩ : ∃ Q : Ending → World → Prop, Q = fun e V => e = .returned (.bool true) ∧ W.Extends V := ⟨_, rfl⟩
  rw [← hQ]
  have HQ := hid_of hQ
  have HS := hid_of hS
  have hsm := small2_any W a len cap g dt hS
  have hch := chainOf2_any W a len cap g dt hS
  clear hQ hS
  go_enter Tryz.func9, Tryz.ntmps9
  go_wp2_with fail
  refine hsm.mono ?_
  clear hsm
  rintro e V0 ⟨⟨r, rfl, hr⟩, rfl⟩
  dsimp only
  cases r with
  | false =>
    have HP : Hid (Q (.returned (.bool true)) V0) := by
      show Q _ _
      rw [HQ.out]
      exact ⟨rfl, ext_Ext (Ext.refl _)⟩
    clear hch hr HS HQ
    go_wp2_with fail
    try (first | go_ret | go_ret2 | go_ret3 | go_end0)
    exact HP.out
  | true =>
  have HR := hid_of (hr rfl)
  clear hr
  go_wp2_with fail
  refine hch.mono ?_
  clear hch
  rintro e V0' ⟨c, hc, rfl, rfl⟩
  dsimp only
  have hnp := player_any V0' c hc
  have HC := hid_of hc
  clear hc
  go_wp2_with fail
  refine hnp.mono ?_
  clear hnp
  rintro e V1 ⟨b1, b2, rfl, h1⟩
  dsimp only
  obtain ⟨pl, hpl⟩ : ∃ pl, pl = Player.mk (some ⟨b1, 0, none⟩) (some ⟨b2, 0, none⟩) := ⟨_, rfl⟩
  rw [← hpl]
  have h2 := ((h1.box pl.enc 26).box Trail.zero.enc 125).box Trail.zero.enc 125
  obtain ⟨W2, hW2⟩ : ∃ W2 : World, W2 = ((V1.alloc (.cells pl.enc.toArray 26)).alloc (.cells Trail.zero.enc.toArray 125)).alloc (.cells Trail.zero.enc.toArray 125) := ⟨_, rfl⟩
  obtain ⟨bp, hbp⟩ : ∃ bp, bp = V1.heap.size := ⟨_, rfl⟩
  obtain ⟨bh, hbh⟩ : ∃ bh, bh = V1.heap.size + 1 := ⟨_, rfl⟩
  obtain ⟨bz, hbz⟩ : ∃ bz, bz = V1.heap.size + 1 + 1 := ⟨_, rfl⟩
  rw [World.size_alloc, World.size_alloc, ← hW2, ← hbz, ← hbh, ← hbp] at h2
  have HI0 : Hid (Lp9 V0' g bp bh bz 0 W2) := by
    refine ⟨b1, b2, newL c, newL c, 0, ⟨ptz, ptz, ⟨none, 0, 0⟩, ⟨none, 0, 0⟩, ⟨none, 0, 0⟩, ⟨none, 0, 0⟩, ?_, RwT.nil _ _, RwT.nil _ _, Dj.nil _, Dj.nil _, newL_tri c, newL_tri c⟩, ⟨newL_li c HC.out, newL_ci c⟩, ⟨newL_li c HC.out, newL_ci c⟩, Nat.zero_le _⟩
    have := Kp.toJ (h2.sub (bx' := [(bp, pl.enc), (bh, Trail.zero.enc), (bz, Trail.zero.enc)]) (fun p hp => by simp only [List.mem_cons, List.not_mem_nil, or_false] at hp ⊢; rcases hp with rfl | rfl | rfl <;> simp))
    rw [hpl] at this
    exact this
  have HBH := hid_of hbh
  have HBZ := hid_of hbz
  have HNE : Hid (bp ≠ bh ∧ bp ≠ bz ∧ bh ≠ bz) := ⟨by omega, by omega, by omega⟩
  have HW2 := hid_of hW2
  have HBP := hid_of hbp
  clear hW2 hbp hbh hbz h1 h2 hpl
  go_upto_region 5 with fail
  rw [← HW2.out, ← HBZ.out, ← HBH.out, ← HBP.out]
  clear HW2 HBP HBH HBZ
  go_wp2_with fail
  refine wp_loop_f 183 (lw9 V0' a len cap g bp bh bz) (fun f _ => len - (intOf (f 19)).toNat) rfl ⟨rfl, rfl, rfl, rfl, rfl, 0, Nat.zero_le _, rfl, HI0⟩ ?_
  clear HI0
  intro F V hrel
  obtain ⟨f3, f4, f5, f17, f18, i, hi, f19, HI⟩ := hrel
  have H19 := hid_of f19
  rw [frame183L, f3, f4, f5, f17, f18, f19]
  clear f3 f4 f5 f17 f18 f19
  obtain ⟨b1, b2, L1, L2, n, ⟨t, s, tv, tr, sv, sr, h0, hr1, hr2, hd1, hd2, ht1, ht2⟩, hI1, hI2, hn⟩ := HI.out
  clear HI
  by_cases hin : i < len
  rotate_left 1
  · have HP : Hid (Q (.returned (.bool true)) V) := by
      show Q _ _
      rw [HQ.out]
      exact ⟨rfl, Kp.TwJ.we h0⟩
    have hin' : ¬ (i : Int) < (len : Int) := by omega
    clear hin hi h0 hI1 hI2 hn hr1 hr2 hd1 hd2 ht1 ht2 HQ HS HR
    go_wp2_with fail
    try (first | go_ret | go_ret2 | go_ret3 | go_end0)
    exact HP.out
  have hin' : (i : Int) < (len : Int) := by omega
  have p0 : (0 : Int) ≤ (i : Int) := by omega
  have p2 : ((i : Int)).toNat = i := by omega
  obtain ⟨b, o, C, ha, kb0, hlen, hseg⟩ := HS.out.2.2.2 (by omega)
  have hsg := hseg i hin
  have kb : blk V b = some C := ((Kp.TwJ.we h0).blk (blk_lt kb0)).trans kb0
  obtain ⟨hft, hT, -⟩ := HS.out.2.2.1 i hin
  have g90 : o + i * 90 + 90 ≤ C.length := by omega
  have hsum : len + sumT g len ≤ 65536 := HR.out
  have hsm := sumT_mono g (show i + 1 ≤ len from hin)
  have hsi : sumT g (i + 1) = sumT g i + (g i).txs.len := rfl
  have hXl : (dt i).length = (g i).txs.len := hT.1
  obtain ⟨x, hx⟩ : ∃ x, x = g i := ⟨_, rfl⟩
  rw [← hx] at hsg hft hT hsi hXl
  obtain ⟨X, hX⟩ : ∃ X, X = dt i := ⟨_, rfl⟩
  rw [← hX] at hT hXl
  have h1 := Kp.TwJ.box h0 x.enc 43
  obtain ⟨V1', hV1⟩ : ∃ V1', V1' = V.alloc (.cells x.enc.toArray 43) := ⟨_, rfl⟩
  obtain ⟨bo, hbo⟩ : ∃ bo, bo = V.heap.size := ⟨_, rfl⟩
  obtain ⟨pl1, hpl⟩ : ∃ pl1, pl1 = Player.mk (some ⟨b1, 0, none⟩) (some ⟨b2, 0, none⟩) := ⟨_, rfl⟩
  have hob : bo ≠ bp := by
    have := Kp.TwJ.lt h0 (List.mem_cons_self ..)
    have : bp < V.heap.size := this
    omega
  rw [← hV1, ← hbo, ← hpl] at h1
  have hph : nth pl1.enc 0 = some (.pointer (some ⟨b1, 0, none⟩)) := by rw [hpl]; exact Player.hand_get _
  have lpl : pl1.enc.length = 2 := Player.length_enc _
  have hi9 : (i : Int) + 1 ≤ 65537 := by omega
  have HV1 := hid_of hV1
  have HBO := hid_of hbo
  have HPL := hid_of hpl
  have HOB := hid_of hob
  have HN : Hid (i < len ∧ n + X.length + 1 ≤ (i + 1) + sumT g (i + 1) ∧ (i + 1) + sumT g (i + 1) ≤ 65536) := ⟨hin, by omega, by omega⟩
  have HT := hid_of hT
  have HI1 := hid_of hI1
  have HI2 := hid_of hI2
  have HROW : Hid (RwT V0' V t tv tr ∧ RwT V0' V s sv sr ∧ Dj tv sv ∧ Dj tr sr) := ⟨hr1, hr2, hd1, hd2⟩
  have HTR : Hid (TrI t L1 ∧ TrI s L2) := ⟨ht1, ht2⟩
  have hlt4 := hr1.lt hr2
  have HLT := hid_of hlt4
  have hbo1 : bp < bo ∧ bh < bo ∧ bz < bo := by
    have q1 := Kp.TwJ.lt h0 (p := (bp, (Player.mk (some ⟨b1, 0, none⟩) (some ⟨b2, 0, none⟩)).enc)) (by simp)
    have q2 := Kp.TwJ.lt h0 (p := (bh, (trE t tv tr).enc)) (by simp)
    have q3 := Kp.TwJ.lt h0 (p := (bz, (trE s sv sr).enc)) (by simp)
    dsimp only at q1 q2 q3
    omega
  have HBO1 := hid_of hbo1
  have ko := (h1.at (b := bo) (C := x.enc) (by simp)).1
  have kp := (h1.at (b := bp) (C := pl1.enc) (by simp)).1
  subst ha
  clear hin hi hseg kb0 hft hsum hsm hsi hXl hV1 hbo hx hX h0 hn hpl hob hT hI1 hI2 hr1 hr2 hd1 hd2 ht1 ht2 hlt4 hbo1
  go_upto_region 8 with fail
  rw [← HV1.out, ← HBO.out]
  clear HV1 HBO kb hsg g90 hlen
  obtain ⟨T, hT9⟩ : ∃ T, T = trE t tv tr := ⟨_, rfl⟩
  obtain ⟨S, hS9⟩ : ∃ S, S = trE s sv sr := ⟨_, rfl⟩
  rw [← hT9, ← hS9] at h1
  have HTE := hid_of hT9
  have HSE := hid_of hS9
  have HI9 := hid_of hi9
  have hvw := h1.view
  obtain ⟨v, hv⟩ : ∃ v, v = viewF L1 := ⟨_, rfl⟩
  rw [← hv] at hvw
  have HVV := hid_of hv
  have H1 := hid_of h1
  clear hT9 hS9 hv h1 hi9
  go_wp2_with fail
  refine hvw.mono ?_
  clear hvw
  rintro e V2 ⟨rfl, hx2⟩
  dsimp only
  obtain ⟨ZD, hZD⟩ : ∃ ZD : Dig, ZD = Vector.replicate 32 0 := ⟨_, rfl⟩
  have h3 := ((H1.out.ext hx2).box v.enc 61).box (arr u8v ZD) 47
  obtain ⟨V3, hV3⟩ : ∃ V3, V3 = (V2.alloc (.cells v.enc.toArray 61)).alloc (.cells (arr u8v ZD).toArray 47) := ⟨_, rfl⟩
  obtain ⟨bw, hbw⟩ : ∃ bw, bw = V2.heap.size := ⟨_, rfl⟩
  obtain ⟨bd, hbd⟩ : ∃ bd, bd = V2.heap.size + 1 := ⟨_, rfl⟩
  rw [World.size_alloc, ← hV3, ← hbd, ← hbw] at h3
  have HORD : Hid (bp < bo ∧ bh < bo ∧ bz < bo ∧ bo < bw ∧ bw < bd) := by
    have q := (H1.out.ext hx2).lt (p := (bo, x.enc)) (by simp)
    have q' : bo < V2.heap.size := q
    have := HBO1.out
    exact ⟨this.1, this.2.1, this.2.2, by omega, by omega⟩
  have HV3 := hid_of hV3
  have HBW := hid_of hbw
  have HBD := hid_of hbd
  have HZD := hid_of hZD
  have ko := (h3.at (b := bo) (C := x.enc) (by simp)).1
  have H3 := hid_of h3
  clear hx2 hV3 hbw hbd H1 kp h3 hZD HBO1
  go_upto_region 10 with fail
  rw [← HZD.out, ← HV3.out, ← HBD.out, ← HBW.out]
  clear HV3 HBD HBW
  obtain ⟨kb, hkb⟩ : ∃ kb : Bool, kb = decide (x.kind = 1 ∨ x.kind = 7) := ⟨_, rfl⟩
  have HKB := hid_of hkb
  clear hkb
  obtain ⟨I10, hI10⟩ : ∃ I : (Nat → Value) → World → Prop, I = fun F W' => fr9 (some ⟨b, o, none⟩) len cap i bp bh bz bo bw bd F ∧ F 33 = .bool kb ∧ W' = V3 := ⟨_, rfl⟩
  have HI10 := hid_of hI10
  clear hI10
  refine wp_cut_f 183 I10 ?_ ?_
  · as_aux_lemma =>
    by_cases k1 : x.kind = 1
    · have hk1 : (x.kind == 1) = true := by rw [k1]; rfl
      have e : kb = true := by rw [HKB.out]; simp [k1]
      clear k1
      go_wp2_with fail
      refine ⟨rfl, rfl, ?_⟩
      rw [HI10.out, e]
      exact ⟨⟨rfl, rfl, rfl, rfl, rfl, rfl, rfl, rfl, rfl⟩, rfl, rfl⟩
    · have hk1 : (x.kind == 1) = false := by simp [k1]
      by_cases k7 : x.kind = 7
      · have hk7 : (x.kind == 7) = true := by rw [k7]; rfl
        have e : kb = true := by rw [HKB.out]; simp [k7]
        clear k1 k7
        go_wp2_with fail
        refine ⟨rfl, rfl, ?_⟩
        rw [HI10.out, e]
        exact ⟨⟨rfl, rfl, rfl, rfl, rfl, rfl, rfl, rfl, rfl⟩, rfl, rfl⟩
      · have hk7 : (x.kind == 7) = false := by simp [k7]
        have e : kb = false := by rw [HKB.out]; simp [k1, k7]
        clear k1 k7
        go_wp2_with fail
        refine ⟨rfl, rfl, ?_⟩
        rw [HI10.out, e]
        exact ⟨⟨rfl, rfl, rfl, rfl, rfl, rfl, rfl, rfl, rfl⟩, rfl, rfl⟩
  clear ko
  intro F10 V3' hrel
  rw [HI10.out] at hrel
  obtain ⟨⟨f3, f4, f5, f7, f8, f9, f17, f18, f19⟩, f33, rfl⟩ := hrel
  rw [frame183L, f3, f4, f5, f7, f8, f9, f17, f18, f19, f33]
  clear f3 f4 f5 f7 f8 f9 f17 f18 f19 f33 HI10
  go_step
  obtain ⟨I11, hI11⟩ : ∃ I : (Nat → Value) → World → Prop, I = fun F W' => fr9 (some ⟨b, o, none⟩) len cap i bp bh bz bo bw bd F ∧ Hid (∃ M1 D, Kp.TwJ ⟨V0', [], Kp.obL V (vs4 tv tr sv sr)⟩ b1 b2 [(bd, arr u8v D), (bw, v.enc), (bo, x.enc), (bp, pl1.enc), (bh, T.enc), (bz, S.enc)] M1 L2 W' ∧ (M1 = L1 ∨ M1 = rotL L1) ∧ ((x.kind = 1 ∨ x.kind = 7) → D = rootD L1.st)) := ⟨_, rfl⟩
  have HI11 := hid_of hI11
  clear hI11
  refine wp_cut_f 183 I11 ?_ ?_
  · as_aux_lemma =>
    cases hkb : kb with
    | true =>
      have kp3 := (H3.out.at (b := bp) (C := pl1.enc) (by simp)).1
      have hrt := H3.out.root
      go_wp2_with fail
      refine hrt.mono ?_
      clear hrt
      rintro e V4 ⟨rfl, h4⟩
      dsimp only
      obtain ⟨D, hD⟩ : ∃ D, D = rootD L1.st := ⟨_, rfl⟩
      have kd4 := (h4.at (b := bd) (C := arr u8v ZD) (by simp)).1
      have fd4 := (h4.at (b := bd) (C := arr u8v ZD) (by simp)).2
      have hput := Kp.TwJ.put (C' := arr u8v D) h4 (fun p hp => by
        have := HORD.out
        simp only [List.mem_cons, List.not_mem_nil, or_false] at hp
        rcases hp with rfl | rfl | rfl | rfl | rfl <;> (dsimp only; omega))
      have hspl : splice (arr u8v ZD) 0 (arr u8v D) = arr u8v D := splice_all _ _ (by rw [length_arr, length_arr])
      have lzd : (arr u8v ZD).length = 32 := length_arr _ _
      have okd : okCells 32 (arr u8v D) = true := ok_arr_u8 _
      rw [← hD]
      have HE : Hid (∃ M1 D9, Kp.TwJ ⟨V0', [], Kp.obL V (vs4 tv tr sv sr)⟩ b1 b2 [(bd, arr u8v D9), (bw, v.enc), (bo, x.enc), (bp, pl1.enc), (bh, T.enc), (bz, S.enc)] M1 L2 (put V4 bd (arr u8v D)) ∧ (M1 = L1 ∨ M1 = rotL L1) ∧ ((x.kind = 1 ∨ x.kind = 7) → D9 = rootD L1.st)) := ⟨rotL L1, D, hput, .inr rfl, fun _ => hD⟩
      clear hput h4 hD kp3 H3
      go_wp2_with fail
      refine ⟨rfl, rfl, ?_⟩
      rw [HI11.out]
      exact ⟨⟨rfl, rfl, rfl, rfl, rfl, rfl, rfl, rfl, rfl⟩, HE⟩
    | false =>
      have HE : Hid (∃ M1 D, Kp.TwJ ⟨V0', [], Kp.obL V (vs4 tv tr sv sr)⟩ b1 b2 [(bd, arr u8v D), (bw, v.enc), (bo, x.enc), (bp, pl1.enc), (bh, T.enc), (bz, S.enc)] M1 L2 V3' ∧ (M1 = L1 ∨ M1 = rotL L1) ∧ ((x.kind = 1 ∨ x.kind = 7) → D = rootD L1.st)) := ⟨L1, ZD, H3.out, .inl rfl, fun q => by
        have := HKB.out
        rw [hkb] at this
        simp at this
        exact absurd q (by simp [this])⟩
      go_wp2_with fail
      refine ⟨rfl, rfl, ?_⟩
      rw [HI11.out]
      exact ⟨⟨rfl, rfl, rfl, rfl, rfl, rfl, rfl, rfl, rfl⟩, HE⟩
  clear H3 hph lpl
  intro F11 V4 hrel
  rw [HI11.out] at hrel
  obtain ⟨⟨f3, f4, f5, f7, f8, f9, f17, f18, f19⟩, HE⟩ := hrel
  rw [frame183L, f3, f4, f5, f7, f8, f9, f17, f18, f19]
  clear f3 f4 f5 f7 f8 f9 f17 f18 f19 HI11 HKB
  obtain ⟨M1, D, h4, hM, hD⟩ := HE.out
  clear HE
  have HM1 : Hid (TrI t M1 ∧ (LI n M1 ∧ CI M1) ∧ viewF M1 = v ∧ ((x.kind = 1 ∨ x.kind = 7) → D = rootD M1.st)) := by
    rcases hM with rfl | rfl
    · exact ⟨HTR.out.1, HI1.out, HVV.out.symm, hD⟩
    · have hr := LI.rot HI1.out (by have := HN.out.2; omega)
      refine ⟨HTR.out.1.rot, hr, ?_, fun q => ?_⟩
      · rw [HVV.out]
        exact (Sim.view (Sim.refl L1).rot2)
      · rw [hD q, hr.2.coh.root, HI1.out.2.coh.root]
        exact congrArg rtN ((Sim.refl L1).rot2.now).symm
  have hst := Kp.stepJ_any ⟨V0', [], Kp.obL V (vs4 tv tr sv sr)⟩ V4 b1 b2 bp [(bh, T.enc), (bz, S.enc), (bd, arr u8v D), (bw, v.enc), (bo, x.enc)] M1 L2 x X (by
    show Kp.TwJ _ _ _ _ _ _ _
    rw [← HPL.out]
    exact h4.sub (fun p hp => by simp only [List.mem_cons, List.not_mem_nil, or_false] at hp ⊢; rcases hp with rfl | rfl | rfl | rfl | rfl | rfl <;> simp)) (fun p hp => by
    have := HORD.out
    have := HNE.out
    simp only [List.mem_cons, List.not_mem_nil, or_false] at hp
    rcases hp with rfl | rfl | rfl | rfl | rfl <;> (dsimp only; omega)) (HM1.out.2.1.1.sti x.gas X (by have := HN.out.2; omega)) HT.out
  have HH := hid_of (stpF_sound (g := x) (X := X) HM1.out.2.1 HI2.out (by have := HN.out.2; omega))
  obtain ⟨rs, hrs⟩ : ∃ rs, rs = stpF M1 L2 x X := ⟨_, rfl⟩
  have HRS := hid_of hrs
  rw [← hrs] at hst HH
  have ko4 := (h4.at (b := bo) (C := x.enc) (by simp)).1
  clear hM hD h4 hrs
  go_wp2_with fail
  refine hst.mono ?_
  clear hst ko4
  rintro e V5 ⟨rc, mv, c1, c2, bx', rfl, h5, -, -, -⟩
  dsimp only
  obtain ⟨A, hA⟩ : ∃ A, A = ansO rs.1 rc mv := ⟨_, rfl⟩
  obtain ⟨cd, hcd⟩ : ∃ cd, cd = rs.1.code := ⟨_, rfl⟩
  have hfld : ∀ w, (Instr.field 56 (.agg A.enc.toArray) 0).run Tryz.prog w = .ok (.int .i64 cd) w := fun w => by rw [field56b, hA, hcd]; rfl
  rw [← hA]
  have HCD := hid_of hcd
  obtain ⟨pl2, hpl2⟩ : ∃ pl2, pl2 = Player.mk (some ⟨c1, 0, none⟩) (some ⟨c2, 0, none⟩) := ⟨_, rfl⟩
  have h5' : Kp.TwJ ⟨V0', [], Kp.obL V (vs4 tv tr sv sr)⟩ c1 c2 ((bp, (Player.mk (some ⟨c1, 0, none⟩) (some ⟨c2, 0, none⟩)).enc) :: (bx' ++ [(bh, T.enc), (bz, S.enc), (bd, arr u8v D), (bw, v.enc), (bo, x.enc)])) rs.2.1 rs.2.2 V5 := h5
  rw [← hpl2] at h5'
  have h6 : Kp.TwJ ⟨V0', [], Kp.obL V (vs4 tv tr sv sr)⟩ c1 c2 [(bh, T.enc), (bp, pl2.enc), (bz, S.enc), (bd, arr u8v D), (bw, v.enc), (bo, x.enc)] rs.2.1 rs.2.2 V5 := h5'.sub (fun p hp => by
    simp only [List.mem_cons, List.mem_append, List.not_mem_nil, or_false] at hp ⊢
    rcases hp with rfl | rfl | rfl | rfl | rfl | rfl <;> simp)
  have hrw1 := h6.rwt (by simp [vs4]) (by simp [vs4]) HROW.out.1
  have hrw2 := h6.rwt (by simp [vs4]) (by simp [vs4]) HROW.out.2.1
  have h7 := h6.reb HLT.out
  have H7 := hid_of h7
  have HRW : Hid (RwT V0' V5 t tv tr ∧ RwT V0' V5 s sv sr ∧ Dj tv sv ∧ Dj tr sr) := ⟨hrw1, hrw2, HROW.out.2.2.1, HROW.out.2.2.2⟩
  have HPL2 := hid_of hpl2
  have hself : ∀ u ∈ vs4 tv tr sv sr, ∀ k, u.ownBlock = some k → ∃ w ∈ vs4 tv tr sv sr, w.ownBlock = some k := fun u hu k hk => ⟨u, hu, hk⟩
  have HSF := hid_of hself
  clear h5 h5' h6 h7 hrw1 hrw2 hpl2 hA hcd hself HROW HLT
  by_cases hc0 : cd = 0
  rotate_left 1
  · as_aux_lemma =>
    have hceq : (cd != 0) = true := by simp [hc0]
    have hceq2 : (cd == 0) = false := by simp [hc0]
    have HJ : Hid (Lp9 V0' g bp bh bz (i + 1) V5) := by
      obtain ⟨q1, q2⟩ := stp_ref (L2 := L2) (g := x) (X := X) HM1.out.2.1.1 (by have := HN.out.2; omega) (by rw [← HRS.out, ← HCD.out]; exact hc0)
      rw [← HRS.out] at q1 q2
      refine ⟨c1, c2, rs.2.1, rs.2.2, n + (X.length + 1), ?_, HH.out.1, HH.out.2, by have := HN.out.2; omega⟩
      rw [← HPL2.out]
      exact Tr9.fin H7.out (by simp) (by rw [← HTE.out]; simp) (by rw [← HSE.out]; simp) HSF.out HRW.out.1 HRW.out.2.1 HRW.out.2.2.1 HRW.out.2.2.2 (HM1.out.1.sim q1) (by rw [q2]; exact HTR.out.2)
    have hi9 := HI9.out
    clear H7 hc0
    go_wp2_with fail
    refine ⟨rfl, rfl, ⟨rfl, rfl, rfl, rfl, rfl, i + 1, HN.out.1, ?_, HJ⟩, ?_⟩
    · show Value.int .i64 _ = _
      go_num
    · show len - (intOf (Value.int .i64 _)).toNat < len - (intOf (F 19)).toNat
      rw [H19.out]
      have := HN.out.1
      simp [intOf]; omega
  subst hc0
  have ko5 := (H7.out.at (b := bo) (C := x.enc) (by simp)).1
  go_upto_region 13 with fail
  obtain ⟨I13, hI13⟩ : ∃ I : (Nat → Value) → World → Prop, I = fun F W' => fr9 (some ⟨b, o, none⟩) len cap i bp bh bz bo bw bd F ∧ F 42 = .int .i64 x.kind ∧ W' = V5 := ⟨_, rfl⟩
  have HI13 := hid_of hI13
  clear hI13
  refine wp_cut_f 183 I13 ?_ ?_
  · as_aux_lemma =>
    go_wp2_with fail
    refine ⟨rfl, rfl, ?_⟩
    rw [HI13.out]
    exact ⟨⟨rfl, rfl, rfl, rfl, rfl, rfl, rfl, rfl, rfl⟩, rfl, rfl⟩
  clear hfld ko5
  intro F13 V5' hrel
  rw [HI13.out] at hrel
  obtain ⟨⟨f3, f4, f5, f7, f8, f9, f17, f18, f19⟩, f42, hV5'⟩ := hrel
  obtain rfl := hV5'.symm
  rw [frame183L, f3, f4, f5, f7, f8, f9, f17, f18, f19, f42]
  clear f3 f4 f5 f7 f8 f9 f17 f18 f19 f42 HI13
  go_step
  obtain ⟨I42, hI42⟩ : ∃ I : (Nat → Value) → World → Prop, I = fun F W' => fr9 (some ⟨b, o, none⟩) len cap i bp bh bz bo bw bd F ∧ Hid (∃ N1, (LI (n + (X.length + 1)) N1 ∧ CI N1) ∧ Tr9 V0' bp bh bz c1 c2 pl2.enc N1 rs.2.2 W') := ⟨_, rfl⟩
  have HI42 := hid_of hI42
  clear hI42
  have HC0 : Hid ((stpF M1 L2 x X).1.code = 0) := by
    show _ = _
    rw [← HRS.out, ← HCD.out]
  refine wp_cut_f 183 I42 ?_ ?_
  · as_aux_lemma =>
    by_cases n1 : x.kind = 1
    · have hk := n1
      have hk1 : (x.kind == 1) = true := by rw [hk]; rfl
      have h7 := H7.out
      have hlt5 := HRW.out.1.lt HRW.out.2.1
      have hnb : ∀ p ∈ [(bp, pl2.enc), (bz, S.enc), (bd, arr u8v D), (bw, v.enc), (bo, x.enc)], p.1 ≠ bh := fun p hp => by
        have := HORD.out
        have := HNE.out
        simp only [List.mem_cons, List.not_mem_nil, or_false] at hp
        rcases hp with rfl | rfl | rfl | rfl | rfl <;> (dsimp only; omega)
      have kh := (h7.at (b := bh) (C := T.enc) (by simp)).1
      have fh := (h7.at (b := bh) (C := T.enc) (by simp)).2
      have ko := (h7.at (b := bo) (C := x.enc) (by simp)).1
      have lT : T.enc.length = 378 := Trail.length_enc _
      have hTv : T.views = tv := by rw [HTE.out]; rfl
      have hTr : T.roots = tr := by rw [HTE.out]; rfl
      have nT0 : nth T.enc 0 = some (.slice tv.a tv.len tv.cap) := by rw [Trail.views_get, hTv]; rfl
      have nT1 : nth T.enc 1 = some (.slice tr.a tr.len tr.cap) := by rw [Trail.roots_get, hTr]; rfl
      have l1 : tv.len = t.vs.length := row_len View.length_enc HRW.out.1.1
      have l2 : tr.len = t.rs.length := row_len encD_len HRW.out.1.2
      have nbo : ¬ bo = bh := by have := HORD.out; omega
      obtain ⟨q1, q2⟩ := tri_beg HM1.out.1 HM1.out.2.1 hk HC0.out
      rw [← HRS.out] at q1 q2
      have hDv := HM1.out.2.2.2 (.inl hk)
      have hvv := HM1.out.2.2.1
      rw [hvv, ← hDv] at q1
      obtain ⟨C1, hC1⟩ : ∃ C1, C1 = ({ T with begunView := v } : Trail).enc := ⟨_, rfl⟩
      obtain ⟨C2, hC2⟩ : ∃ C2, C2 = ({ T with begunView := v, begunRoot := D } : Trail).enc := ⟨_, rfl⟩
      obtain ⟨C3, hC3⟩ : ∃ C3, C3 = ({ T with begunView := v, begunRoot := D, begunKnown := true } : Trail).enc := ⟨_, rfl⟩
      have sp1 : splice T.enc 2 v.enc = C1 := by rw [hC1]; exact Trail.begunView_set T v
      have sp2 : splice C1 345 (arr u8v D) = C2 := by rw [hC1, hC2]; exact Trail.begunRoot_set _ D
      have sp3 : splice C2 377 [.bool true] = C3 := by rw [hC2, hC3]; exact Trail.begunKnown_set _ true
      have lC1 : C1.length = 378 := by rw [hC1]; exact Trail.length_enc _
      have lC2 : C2.length = 378 := by rw [hC2]; exact Trail.length_enc _
      have eT3 : C3 = (trE { t with bv := v, br := D, bk := true } tv tr).enc := by rw [hC3, HTE.out]; rfl
      have lv : v.enc.length = 343 := View.length_enc v
      have okv9 : okCells 343 v.enc = true := View.ok_enc v
      have ld : (arr u8v D).length = 32 := length_arr _ _
      have okd9 : okCells 32 (arr u8v D) = true := ok_arr_u8 _
      have h7d : Kp.TwJ ⟨V0', [], Kp.obL V5 (vs4 tv tr sv sr)⟩ c1 c2 [(bh, T.enc), (bp, pl2.enc), (bz, S.enc), (bd, arr u8v D), (bw, v.enc), (bo, x.enc)] rs.2.1 rs.2.2 V5.drew := h7.ext (extends_drewN (ext_Ext (Ext.refl V5)) 1)
      have kw0 := (h7.at (b := bw) (C := v.enc) (by simp)).1
      have kd0 := (h7.at (b := bd) (C := arr u8v D) (by simp)).1
      have w1 := h7d.rwt (by simp [vs4]) (by simp [vs4]) HRW.out.1
      have w2 := h7d.rwt (by simp [vs4]) (by simp [vs4]) HRW.out.2.1
      have h8 := (h7d.reb hlt5).putk (C' := C1) hnb (w1.lt w2)
      have w3 := (h7d.reb hlt5).rwp (C' := C1) hnb (by simp [vs4]) (by simp [vs4]) w1
      have w4 := (h7d.reb hlt5).rwp (C' := C1) hnb (by simp [vs4]) (by simp [vs4]) w2
      have h9 := h8.putk (C' := C2) hnb (w3.lt w4)
      have w5 := h8.rwp (C' := C2) hnb (by simp [vs4]) (by simp [vs4]) w3
      have w6 := h8.rwp (C' := C2) hnb (by simp [vs4]) (by simp [vs4]) w4
      have h10 := h9.putk (C' := C3) hnb (w5.lt w6)
      have w7 := h9.rwp (C' := C3) hnb (by simp [vs4]) (by simp [vs4]) w5
      have w8 := h9.rwp (C' := C3) hnb (by simp [vs4]) (by simp [vs4]) w6
      have khd := (h7d.at (b := bh) (C := T.enc) (by simp)).1
      have fhd := (h7d.at (b := bh) (C := T.enc) (by simp)).2
      have kwd := (h7d.at (b := bw) (C := v.enc) (by simp)).1
      have kdd := (h7d.at (b := bd) (C := arr u8v D) (by simp)).1
      have kh8 := (h8.at (b := bh) (C := C1) (by simp)).1
      have fh8 := (h8.at (b := bh) (C := C1) (by simp)).2
      have kw8 := (h8.at (b := bw) (C := v.enc) (by simp)).1
      have kd8 := (h8.at (b := bd) (C := arr u8v D) (by simp)).1
      have kh9 := (h9.at (b := bh) (C := C2) (by simp)).1
      have fh9 := (h9.at (b := bh) (C := C2) (by simp)).2
      have kw9 := (h9.at (b := bw) (C := v.enc) (by simp)).1
      have kd9 := (h9.at (b := bd) (C := arr u8v D) (by simp)).1
      obtain ⟨V8, hV8⟩ : ∃ V8, V8 = put V5.drew bh C1 := ⟨_, rfl⟩
      obtain ⟨V9, hV9⟩ : ∃ V9, V9 = put V8 bh C2 := ⟨_, rfl⟩
      obtain ⟨V10, hV10⟩ : ∃ V10, V10 = put V9 bh C3 := ⟨_, rfl⟩
      rw [← hV8] at h8 h9 kh8 fh8 kw8 kd8 h10 kh9 fh9 kw9 kd9 w7 w8
      rw [← hV9] at h9 kh9 fh9 kw9 kd9 h10 w7 w8
      rw [← hV10] at h10 w7 w8
      have HR9 : Hid (∃ N1, (LI (n + (X.length + 1)) N1 ∧ CI N1) ∧ Tr9 V0' bp bh bz c1 c2 pl2.enc N1 rs.2.2 V10) := by
        exact ⟨rs.2.1, HH.out.1, Tr9.fin (t := { t with bv := v, br := D, bk := true }) (s := s) (tv := tv) (tr := tr) (sv := sv) (sr := sr) h10 (by simp) (by rw [← eT3]; simp) (by rw [← HSE.out]; simp) (fun u hu k hk => ⟨u, hu, hk⟩) w7 w8 HRW.out.2.2.1 HRW.out.2.2.2 q1 (by rw [q2]; exact HTR.out.2)⟩
      have HV8 := hid_of hV8
      have HV9 := hid_of hV9
      have HV10 := hid_of hV10
      clear H7 HRW h7 h8 h9 h10 w1 w2 w3 w4 w5 w6 w7 w8 h7d q1 q2 hDv hvv hC1 hC2 hC3 eT3 hnb hlt5 hk nT0 nT1 hTv hTr l1 l2 ko hV8 hV9 hV10 nbo
      generalize T.enc = E at *
      go_upto_region 15 with fail
      repeat go_step
      refine wp_region_F 7 (fun W' => blk W' bw = some v.enc ∧ blk W' bd = some (arr u8v D)) (by kernel_rfl) ⟨kwd, kdd⟩ (fun hHeld => ?_)
      refine wpAnyF_take (i := 0) (oi := ⟨_, _, _, _, _, _⟩) (v := ?_) rfl (by kernel_rfl) (by kernel_rfl) (by kernel_rfl) (by kernel_rfl) (by kernel_rfl) (fun _ _ _ h => h) (Or.inl ⟨by rfl, ?_⟩) (by assumption) ?_
      rotate_left 1
      · intro W' hSw
        obtain ⟨hS1, hS2⟩ := hSw
        go_simp
        try with_reducible rfl
      try simp only [Act.put, List.setIfInBounds_toArray, List.set_cons_zero, List.set_cons_succ]
      refine wpAnyF_take (i := 1) (oi := ⟨_, _, _, _, _, _⟩) (v := ?_) rfl (by kernel_rfl) (by kernel_rfl) (by kernel_rfl) (by kernel_rfl) (by kernel_rfl) (fun _ _ _ h => h) (Or.inl ⟨by rfl, ?_⟩) (by assumption) ?_
      rotate_left 1
      · intro W' hSw
        obtain ⟨hS1, hS2⟩ := hSw
        go_simp
        try with_reducible rfl
      try simp only [Act.put, List.setIfInBounds_toArray, List.set_cons_zero, List.set_cons_succ]
      refine wpAnyF_take (i := 2) (oi := ⟨_, _, _, _, _, _⟩) (v := ?_) rfl (by kernel_rfl) (by kernel_rfl) (by kernel_rfl) (by kernel_rfl) (by kernel_rfl) (fun _ _ _ h => h) (Or.inl ⟨by rfl, ?_⟩) (by assumption) ?_
      rotate_left 1
      · intro W' hSw
        obtain ⟨hS1, hS2⟩ := hSw
        go_simp
        try with_reducible rfl
      try simp only [Act.put, List.setIfInBounds_toArray, List.set_cons_zero, List.set_cons_succ]
      refine wpAnyF_one (o := ⟨_, _, _, _, _, _⟩) (i := 3) (by kernel_rfl) rfl rfl (fun K' hK => ?_)
      go_simp
      rw [← HV8.out]
      refine hK.out _ _ ⟨kw8, kd8⟩ (fun hHeld => ?_)
      clear hK K'
      try simp only [Act.put, List.setIfInBounds_toArray, List.set_cons_zero, List.set_cons_succ]
      refine wpAnyF_take (i := 4) (oi := ⟨_, _, _, _, _, _⟩) (v := ?_) rfl (by kernel_rfl) (by kernel_rfl) (by kernel_rfl) (by kernel_rfl) (by kernel_rfl) (fun _ _ _ h => h) (Or.inl ⟨by rfl, ?_⟩) (by assumption) ?_
      rotate_left 1
      · intro W' hSw
        obtain ⟨hS1, hS2⟩ := hSw
        go_simp
        try with_reducible rfl
      try simp only [Act.put, List.setIfInBounds_toArray, List.set_cons_zero, List.set_cons_succ]
      refine wpAnyF_one (o := ⟨_, _, _, _, _, _⟩) (i := 5) (by kernel_rfl) rfl rfl (fun K' hK => ?_)
      go_simp
      rw [← HV9.out]
      refine hK.out _ _ ⟨kw9, kd9⟩ (fun hHeld => ?_)
      clear hK K'
      try simp only [Act.put, List.setIfInBounds_toArray, List.set_cons_zero, List.set_cons_succ]
      refine wpAnyF_take (i := 6) (oi := ⟨_, _, _, _, _, _⟩) (v := ?_) rfl (by kernel_rfl) (by kernel_rfl) (by kernel_rfl) (by kernel_rfl) (by kernel_rfl) (fun _ _ _ h => h) (Or.inl ⟨by rfl, ?_⟩) (by assumption) ?_
      rotate_left 1
      · intro W' hSw
        obtain ⟨hS1, hS2⟩ := hSw
        go_simp
        try with_reducible rfl
      try simp only [Act.put, List.setIfInBounds_toArray, List.set_cons_zero, List.set_cons_succ]
      refine wpAnyF_last (o := ⟨_, _, _, _, _, _⟩) (by kernel_rfl) rfl (fun K' hK => ?_)
      go_simp
      rw [← HV10.out]
      refine hK.out _ _ ?_
      clear hK K'
      try simp only [Act.put, List.setIfInBounds_toArray, List.set_cons_zero, List.set_cons_succ]
      refine wpAnyF_done (by kernel_rfl) ?_ _
      clear hHeld
      go_wp2_with fail
      refine ⟨rfl, rfl, ?_⟩
      rw [HI42.out]
      exact ⟨⟨rfl, rfl, rfl, rfl, rfl, rfl, rfl, rfl, rfl⟩, HR9⟩
    by_cases n7 : x.kind = 7
    · have hk := n7
      have hk1 : (x.kind == 1) = false := by simp [hk]
      have hk7 : (x.kind == 7) = true := by rw [hk]; rfl
      have h7 := H7.out
      have hlt5 := HRW.out.1.lt HRW.out.2.1
      have hnb : ∀ p ∈ [(bp, pl2.enc), (bz, S.enc), (bd, arr u8v D), (bw, v.enc), (bo, x.enc)], p.1 ≠ bh := fun p hp => by
        have := HORD.out
        have := HNE.out
        simp only [List.mem_cons, List.not_mem_nil, or_false] at hp
        rcases hp with rfl | rfl | rfl | rfl | rfl <;> (dsimp only; omega)
      have kh := (h7.at (b := bh) (C := T.enc) (by simp)).1
      have fh := (h7.at (b := bh) (C := T.enc) (by simp)).2
      have ko := (h7.at (b := bo) (C := x.enc) (by simp)).1
      have lT : T.enc.length = 378 := Trail.length_enc _
      have hTv : T.views = tv := by rw [HTE.out]; rfl
      have hTr : T.roots = tr := by rw [HTE.out]; rfl
      have nT0 : nth T.enc 0 = some (.slice tv.a tv.len tv.cap) := by rw [Trail.views_get, hTv]; rfl
      have nT1 : nth T.enc 1 = some (.slice tr.a tr.len tr.cap) := by rw [Trail.roots_get, hTr]; rfl
      have l1 : tv.len = t.vs.length := row_len View.length_enc HRW.out.1.1
      have l2 : tr.len = t.rs.length := row_len encD_len HRW.out.1.2
      have nbo : ¬ bo = bh := by have := HORD.out; omega
      obtain ⟨q1, q2⟩ := tri_ck HM1.out.1 HM1.out.2.1 hk HC0.out
      rw [← HRS.out] at q1 q2
      have hDv := HM1.out.2.2.2 (.inr hk)
      have hvv := HM1.out.2.2.1
      rw [hvv, ← hDv] at q1
      have h8l := HM1.out.2.1.1.dep
      have evl := HM1.out.1.vl
      have erl := HM1.out.1.rl
      obtain ⟨a6, c6, V6, hrun1, hrv6, hblk6, hown6, hsz6, htw6⟩ := Kp.TwJ.appV elv122 h7 (by simp [vs4]) HRW.out.1.1 (by omega) v
      obtain ⟨tv6, htv6⟩ : ∃ tv6 : Sl, tv6 = ⟨a6, tv.len + 1, c6⟩ := ⟨_, rfl⟩
      have h8 := htw6 (vs4 tv6 tr sv sr) (fun u hu => by rw [htv6] at hu; simp only [vs4, List.mem_cons, List.not_mem_nil, or_false] at hu ⊢; rcases hu with rfl | rfl | rfl | rfl <;> simp)
      have r2' := row_keep HRW.out.1.2 (fun k hk => hblk6 k (row_at HRW.out.1.2 k hk).2.1 (row_ty HRW.out.1.2 HRW.out.1.1 (by decide) k hk))
      have s1' := row_keep HRW.out.2.1.1 (fun k hk => hblk6 k (row_at HRW.out.2.1.1 k hk).2.1 (fun q => HRW.out.2.2.1 k q hk))
      have s2' := row_keep HRW.out.2.1.2 (fun k hk => hblk6 k (row_at HRW.out.2.1.2 k hk).2.1 (row_ty HRW.out.2.1.2 HRW.out.1.1 (by decide) k hk))
      have w1 : RwT V0' V6 { t with vs := t.vs ++ [v] } tv6 tr := by rw [htv6]; exact ⟨hrv6, r2'⟩
      have w2 : RwT V0' V6 s sv sr := ⟨s1', s2'⟩
      have dv : Dj tv6 sv := by
        rw [htv6]
        intro k hk q
        rcases hown6 k hk with e | e
        · exact HRW.out.2.2.1 k e q
        · have := (row_at HRW.out.2.1.1 k q).2.1
          omega
      obtain ⟨C1, hC1⟩ : ∃ C1, C1 = ({ T with views := ⟨a6, tv.len + 1, c6⟩ } : Trail).enc := ⟨_, rfl⟩
      have sp1 : splice T.enc 0 [.slice a6 (tv.len + 1) c6] = C1 := by rw [hC1]; exact Trail.views_sl T _ _ _
      have lC1 : C1.length = 378 := by rw [hC1]; exact Trail.length_enc _
      have nC1 : nth C1 1 = some (.slice tr.a tr.len tr.cap) := by rw [hC1, Trail.roots_get]; show some (Sl.val T.roots) = _; rw [hTr]; rfl
      have kw := (h7.at (b := bw) (C := v.enc) (by simp)).1
      have kh6 := (h8.at (b := bh) (C := T.enc) (by simp)).1
      have fh6 := (h8.at (b := bh) (C := T.enc) (by simp)).2
      have h9 := h8.putk (C' := C1) hnb (w1.lt w2)
      have w3 := h8.rwp (C' := C1) hnb (by simp [vs4]) (by simp [vs4]) w1
      have w4 := h8.rwp (C' := C1) hnb (by simp [vs4]) (by simp [vs4]) w2
      obtain ⟨V7, hV7⟩ : ∃ V7, V7 = put V6 bh C1 := ⟨_, rfl⟩
      rw [← hV7] at h9 w3 w4
      have kd7 := (h9.at (b := bd) (C := arr u8v D) (by simp)).1
      have kh7 := (h9.at (b := bh) (C := C1) (by simp)).1
      obtain ⟨a8, c8, V8, hrun2, hrr8, hblk8, hown8, hsz8, htw8⟩ := Kp.TwJ.appV elv123 h9 (by simp [vs4]) w3.2 (by show t.rs.length < 1000000000; omega) D
      obtain ⟨tr8, htr8⟩ : ∃ tr8 : Sl, tr8 = ⟨a8, tr.len + 1, c8⟩ := ⟨_, rfl⟩
      have h10 := htw8 (vs4 tv6 tr8 sv sr) (fun u hu => by rw [htr8] at hu; simp only [vs4, List.mem_cons, List.not_mem_nil, or_false] at hu ⊢; rcases hu with rfl | rfl | rfl | rfl <;> simp)
      have x1 := row_keep w3.1 (fun k hk => hblk8 k (row_at w3.1 k hk).2.1 (row_ty w3.1 w3.2 (by decide) k hk))
      have x3 := row_keep w4.1 (fun k hk => hblk8 k (row_at w4.1 k hk).2.1 (row_ty w4.1 w3.2 (by decide) k hk))
      have x4 := row_keep w4.2 (fun k hk => hblk8 k (row_at w4.2 k hk).2.1 (fun q => HRW.out.2.2.2 k q hk))
      have y1 : RwT V0' V8 { t with vs := t.vs ++ [v], rs := t.rs ++ [D] } tv6 tr8 := by rw [htr8]; exact ⟨x1, hrr8⟩
      have y2 : RwT V0' V8 s sv sr := ⟨x3, x4⟩
      have dr : Dj tr8 sr := by
        rw [htr8]
        intro k hk q
        rcases hown8 k hk with e | e
        · exact HRW.out.2.2.2 k e q
        · have := (row_at w4.2 k q).2.1
          omega
      obtain ⟨C2, hC2⟩ : ∃ C2, C2 = ({ T with views := ⟨a6, tv.len + 1, c6⟩, roots := ⟨a8, tr.len + 1, c8⟩ } : Trail).enc := ⟨_, rfl⟩
      have sp2 : splice C1 1 [.slice a8 (tr.len + 1) c8] = C2 := by rw [hC1, hC2]; exact Trail.roots_sl _ _ _ _
      have eT2 : C2 = (trE { t with vs := t.vs ++ [v], rs := t.rs ++ [D] } tv6 tr8).enc := by rw [hC2, HTE.out, htv6, htr8]; rfl
      have kh8 := (h10.at (b := bh) (C := C1) (by simp)).1
      have fh8 := (h10.at (b := bh) (C := C1) (by simp)).2
      have h11 := h10.putk (C' := C2) hnb (y1.lt y2)
      have z1 := h10.rwp (C' := C2) hnb (by simp [vs4]) (by simp [vs4]) y1
      have z2 := h10.rwp (C' := C2) hnb (by simp [vs4]) (by simp [vs4]) y2
      have HR9 : Hid (∃ N1, (LI (n + (X.length + 1)) N1 ∧ CI N1) ∧ Tr9 V0' bp bh bz c1 c2 pl2.enc N1 rs.2.2 (put V8 bh C2)) := by
        exact ⟨rs.2.1, HH.out.1, Tr9.fin (t := { t with vs := t.vs ++ [v], rs := t.rs ++ [D] }) (s := s) (tv := tv6) (tr := tr8) (sv := sv) (sr := sr) h11 (by simp) (by rw [← eT2]; simp) (by rw [← HSE.out]; simp) (fun u hu k hk => ⟨u, hu, hk⟩) z1 z2 dv dr q1 (by rw [q2]; exact HTR.out.2)⟩
      have HV7 := hid_of hV7
      clear H7 HRW h7 h8 h9 h10 h11 w1 w2 w3 w4 r2' s1' s2' x1 x3 x4 y1 y2 z1 z2 dv dr q1 q2 hDv hvv hC1 hC2 eT2 hnb hlt5 hk hTv hTr l1 l2 nbo evl erl h8l hrv6 hblk6 hown6 hsz6 htw6 hrr8 hblk8 hown8 hsz8 htw8 htv6 htr8 hV7 nT1
      generalize T.enc = E at *
      go_upto_region 18 with (at_builtin; refine wpList_append_run rfl _ _ 122 rfl _ _ _ _ rfl rfl hrun1 ?_)
      rw [← HV7.out]
      clear HV7 kh6 fh6 kw hrun1 sp1 nT0 kh fh
      go_wp2_with (at_builtin; refine wpList_append_run rfl _ _ 123 rfl _ _ _ _ rfl rfl hrun2 ?_)
      refine ⟨rfl, rfl, ?_⟩
      rw [HI42.out]
      exact ⟨⟨rfl, rfl, rfl, rfl, rfl, rfl, rfl, rfl, rfl⟩, HR9⟩
    by_cases n8 : x.kind = 8
    · have hk := n8
      have hk1 : (x.kind == 1) = false := by simp [hk]
      have hk7 : (x.kind == 7) = false := by simp [hk]
      have hk8 : (x.kind == 8) = true := by rw [hk]; rfl
      have h7 := H7.out
      have hlt5 := HRW.out.1.lt HRW.out.2.1
      have hnb : ∀ p ∈ [(bp, pl2.enc), (bz, S.enc), (bd, arr u8v D), (bw, v.enc), (bo, x.enc)], p.1 ≠ bh := fun p hp => by
        have := HORD.out
        have := HNE.out
        simp only [List.mem_cons, List.not_mem_nil, or_false] at hp
        rcases hp with rfl | rfl | rfl | rfl | rfl <;> (dsimp only; omega)
      have kh := (h7.at (b := bh) (C := T.enc) (by simp)).1
      have fh := (h7.at (b := bh) (C := T.enc) (by simp)).2
      have ko := (h7.at (b := bo) (C := x.enc) (by simp)).1
      have lT : T.enc.length = 378 := Trail.length_enc _
      have hTv : T.views = tv := by rw [HTE.out]; rfl
      have hTr : T.roots = tr := by rw [HTE.out]; rfl
      have nT0 : nth T.enc 0 = some (.slice tv.a tv.len tv.cap) := by rw [Trail.views_get, hTv]; rfl
      have nT1 : nth T.enc 1 = some (.slice tr.a tr.len tr.cap) := by rw [Trail.roots_get, hTr]; rfl
      have l1 : tv.len = t.vs.length := row_len View.length_enc HRW.out.1.1
      have l2 : tr.len = t.rs.length := row_len encD_len HRW.out.1.2
      have nbo : ¬ bo = bh := by have := HORD.out; omega
      obtain ⟨q0, q1, q2, q3, q4⟩ := tri_rv HM1.out.1 HM1.out.2.1 (by rw [← HRS.out]; exact HH.out.1.2) hk HC0.out
      obtain ⟨kk, hkk⟩ : ∃ kk, kk = M1.st.saved.length - 1 := ⟨_, rfl⟩
      rw [← hkk] at q1 q3 q4
      rw [← HRS.out] at q1 q2 q3 q4
      have hd8 := HM1.out.2.1.1.dep
      have evl := HM1.out.1.vl
      have erl := HM1.out.1.rl
      have hlt1 : kk < tv.len := by omega
      have hlt2 : kk < tr.len := by omega
      have ew1 : wrap64 ((tv.len : Int) - 1) = ((kk : Nat) : Int) := by unfold wrap64; omega
      have hle1 : kk ≤ tv.len := by omega
      have hle2 : kk ≤ tr.len := by omega
      have hltI : ((kk : Nat) : Int) < (tv.len : Int) := by omega
      have hltJ : ((kk : Nat) : Int) < (tr.len : Int) := by omega
      have p0 : (0 : Int) ≤ ((kk : Nat) : Int) := by omega
      have p2 : (((kk : Nat) : Int)).toNat = kk := by omega
      have sl1 : ∀ w a', (sliceOp 122 (.slice a' tv.len tv.cap) none (some (.int .i64 (kk : Int))) none).run Tryz.prog w = .ok (.value (.slice a' kk tv.cap)) w := fun w a' => slice_hiI und122 (by kernel_rfl) w _ _ _ _ (by have := row_cap HRW.out.1.1; omega)
      have sl2 : ∀ w a', (sliceOp 123 (.slice a' tr.len tr.cap) none (some (.int .i64 (kk : Int))) none).run Tryz.prog w = .ok (.value (.slice a' kk tr.cap)) w := fun w a' => slice_hiI und123 (by kernel_rfl) w _ _ _ _ (by have := row_cap HRW.out.1.2; omega)
      have hkI : ((kk : Nat) : Int) < (tv.len : Int) ∨ ¬ ((kk : Nat) : Int) < (tv.len : Int) := by omega
      clear hkI
      obtain ⟨y, bV, CV, hy, eaV, kV, lV, sgV⟩ := (rw_own View.length_enc HRW.out.1.1).1.at hlt1
      obtain ⟨z, bR, CR, hz, eaR, kR, lR, sgR⟩ := (rw_own encD_len HRW.out.1.2).1.at hlt2
      obtain rfl : y = viewF rs.2.1 := Option.some.inj (hy.symm.trans q3)
      obtain rfl : z = rootD rs.2.1.st := Option.some.inj (hz.symm.trans q4)
      have gV : kk * 343 + 343 ≤ CV.length := by
        have : (kk + 1) * 343 ≤ tv.len * 343 := Nat.mul_le_mul_right _ hlt1
        omega
      have gR : kk * 32 + 32 ≤ CR.length := by
        have : (kk + 1) * 32 ≤ tr.len * 32 := Nat.mul_le_mul_right _ hlt2
        omega
      obtain ⟨vw, hvw⟩ : ∃ vw, vw = viewF rs.2.1 := ⟨_, rfl⟩
      obtain ⟨D0, hD0⟩ : ∃ D0, D0 = rootD rs.2.1.st := ⟨_, rfl⟩
      have sgR' : seg CR (kk * 32) 32 = arr u8v D0 := by rw [hD0]; exact sgR
      rw [← hvw] at sgV
      have hokv : okView vw := by rw [hvw]; exact viewF_ok _ HH.out.1.1.dep
      have hVV : ∀ w X Y, (cmpNe 61 X Y (.agg vw.enc.toArray) (.agg vw.enc.toArray)).run Tryz.prog w = .ok (.value (.bool false)) w := fun w X Y => by rw [neq61 w X Y vw vw hokv hokv, eqA_self]; rfl
      have hDD : ∀ w X Y, (cmpNe 47 X Y (.agg (arr u8v D0).toArray) (.agg (arr u8v D0).toArray)).run Tryz.prog w = .ok (.value (.bool false)) w := fun w X Y => by rw [neq47, eqA_self]; rfl
      have h7d := h7.ext (extends_drewN (ext_Ext (Ext.refl V5)) 1)
      have hph : nth pl2.enc 0 = some (.pointer (some ⟨c1, 0, none⟩)) := by rw [HPL2.out]; exact Player.hand_get _
      have lpl : pl2.enc.length = 2 := Player.length_enc _
      have kpd := (h7d.at (b := bp) (C := pl2.enc) (by simp)).1
      have khd := (h7d.at (b := bh) (C := T.enc) (by simp)).1
      have kVd : blk (V5.drewN 1) bV = some CV := kV
      have kRd : blk (V5.drewN 1) bR = some CR := kR
      have hv1 := h7d.view
      rw [← hvw] at hv1
      have HD0 := hid_of hD0
      have HOV : Hid ((Value.slice tv.a tv.len tv.cap).ownBlock = some bV ∧ bV < V5.heap.size ∧ (Value.slice tr.a tr.len tr.cap).ownBlock = some bR ∧ bR < V5.heap.size) := ⟨by rw [eaV]; rfl, blk_lt kV, by rw [eaR]; rfl, blk_lt kR⟩
      have HEA : Hid (tv.a = some ⟨bV, 0, none⟩ ∧ tr.a = some ⟨bR, 0, none⟩) := ⟨eaV, eaR⟩
      rw [eaV] at nT0
      rw [eaR] at nT1
      have HQ1 := hid_of (And.intro q1 q2)
      have HLE : Hid (kk ≤ tv.len ∧ kk ≤ tr.len) := ⟨hle1, hle2⟩
      have HTT : Hid (T.views = tv ∧ T.roots = tr) := ⟨hTv, hTr⟩
      clear q0 q1 q2 q3 q4 hy hz eaV eaR lV lR sgR hvw hD0 hokv h7 hk l1 l2 evl erl hd8 hlt1 hlt2 hle1 hle2 kV kR hTv hTr hlt5 hnb hkk
      go_upto_region 24 with fail
      repeat go_step
      refine wp_region_F 26 (fun W' => blk W' bp = some pl2.enc ∧ blk W' bh = some T.enc ∧ blk W' bV = some CV ∧ blk W' bR = some CR) (by kernel_rfl) ⟨kpd, khd, kVd, kRd⟩ (fun hHeld => ?_)
      refine wpAnyF_take (i := 0) (oi := ⟨_, _, _, _, _, _⟩) (v := ?_) rfl (by kernel_rfl) (by kernel_rfl) (by kernel_rfl) (by kernel_rfl) (by kernel_rfl) (fun _ _ _ h => h) (Or.inl ⟨by rfl, ?_⟩) (by assumption) ?_
      rotate_left 1
      · intro W' hSw
        obtain ⟨hS1, hS2, hS3, hS4⟩ := hSw
        go_simp
        try with_reducible rfl
      try simp only [Act.put, List.setIfInBounds_toArray, List.set_cons_zero, List.set_cons_succ]
      refine wpAnyF_take (i := 1) (oi := ⟨_, _, _, _, _, _⟩) (v := ?_) rfl (by kernel_rfl) (by kernel_rfl) (by kernel_rfl) (by kernel_rfl) (by kernel_rfl) (fun _ _ _ h => h) (Or.inl ⟨by rfl, ?_⟩) (by assumption) ?_
      rotate_left 1
      · intro W' hSw
        obtain ⟨hS1, hS2, hS3, hS4⟩ := hSw
        go_simp
        try with_reducible rfl
      try simp only [Act.put, List.setIfInBounds_toArray, List.set_cons_zero, List.set_cons_succ]
      refine wpAnyF_take (i := 2) (oi := ⟨_, _, _, _, _, _⟩) (v := ?_) rfl (by kernel_rfl) (by kernel_rfl) (by kernel_rfl) (by kernel_rfl) (by kernel_rfl) (fun _ _ _ h => h) (Or.inl ⟨by rfl, ?_⟩) (by assumption) ?_
      rotate_left 1
      · intro W' hSw
        obtain ⟨hS1, hS2, hS3, hS4⟩ := hSw
        go_simp
        try with_reducible rfl
      try simp only [Act.put, List.setIfInBounds_toArray, List.set_cons_zero, List.set_cons_succ]
      refine wpAnyF_take (i := 3) (oi := ⟨_, _, _, _, _, _⟩) (v := ?_) rfl (by kernel_rfl) (by kernel_rfl) (by kernel_rfl) (by kernel_rfl) (by kernel_rfl) (fun _ _ _ h => h) (Or.inl ⟨by rfl, ?_⟩) (by assumption) ?_
      rotate_left 1
      · intro W' hSw
        obtain ⟨hS1, hS2, hS3, hS4⟩ := hSw
        go_simp
        try with_reducible rfl
      try simp only [Act.put, List.setIfInBounds_toArray, List.set_cons_zero, List.set_cons_succ]
      refine wpAnyF_take (i := 4) (oi := ⟨_, _, _, _, _, _⟩) (v := ?_) rfl (by kernel_rfl) (by kernel_rfl) (by kernel_rfl) (by kernel_rfl) (by kernel_rfl) (fun _ _ _ h => h) (Or.inl ⟨by rfl, ?_⟩) (by assumption) ?_
      rotate_left 1
      · intro W' hSw
        obtain ⟨hS1, hS2, hS3, hS4⟩ := hSw
        go_simp
        try with_reducible rfl
      try simp only [Act.put, List.setIfInBounds_toArray, List.set_cons_zero, List.set_cons_succ]
      refine wpAnyF_take (i := 5) (oi := ⟨_, _, _, _, _, _⟩) (v := ?_) rfl (by kernel_rfl) (by kernel_rfl) (by kernel_rfl) (by kernel_rfl) (by kernel_rfl) (fun _ _ _ h => h) (Or.inl ⟨by rfl, ?_⟩) (by assumption) ?_
      rotate_left 1
      · intro W' hSw
        obtain ⟨hS1, hS2, hS3, hS4⟩ := hSw
        go_simp
        try with_reducible rfl
      try simp only [Act.put, List.setIfInBounds_toArray, List.set_cons_zero, List.set_cons_succ]
      refine wpAnyF_take (i := 6) (oi := ⟨_, _, _, _, _, _⟩) (v := ?_) rfl (by kernel_rfl) (by kernel_rfl) (by kernel_rfl) (by kernel_rfl) (by kernel_rfl) (fun _ _ _ h => h) (Or.inl ⟨by rfl, ?_⟩) (by assumption) ?_
      rotate_left 1
      · intro W' hSw
        obtain ⟨hS1, hS2, hS3, hS4⟩ := hSw
        go_simp
        try with_reducible rfl
      try simp only [Act.put, List.setIfInBounds_toArray, List.set_cons_zero, List.set_cons_succ]
      refine wpAnyF_take (i := 7) (oi := ⟨_, _, _, _, _, _⟩) (v := ?_) rfl (by kernel_rfl) (by kernel_rfl) (by kernel_rfl) (by kernel_rfl) (by kernel_rfl) (fun _ _ _ h => h) (Or.inl ⟨by rfl, ?_⟩) (by assumption) ?_
      rotate_left 1
      · intro W' hSw
        obtain ⟨hS1, hS2, hS3, hS4⟩ := hSw
        go_simp
        try with_reducible rfl
      try simp only [Act.put, List.setIfInBounds_toArray, List.set_cons_zero, List.set_cons_succ]
      refine wpAnyF_take (i := 9) (oi := ⟨_, _, _, _, _, _⟩) (v := ?_) rfl (by kernel_rfl) (by kernel_rfl) (by kernel_rfl) (by kernel_rfl) (by kernel_rfl) (fun _ _ _ h => h) (Or.inl ⟨by rfl, ?_⟩) (by assumption) ?_
      rotate_left 1
      · intro W' hSw
        obtain ⟨hS1, hS2, hS3, hS4⟩ := hSw
        go_simp
        try with_reducible rfl
      try simp only [Act.put, List.setIfInBounds_toArray, List.set_cons_zero, List.set_cons_succ]
      refine wpAnyF_take (i := 10) (oi := ⟨_, _, _, _, _, _⟩) (v := ?_) rfl (by kernel_rfl) (by kernel_rfl) (by kernel_rfl) (by kernel_rfl) (by kernel_rfl) (fun _ _ _ h => h) (Or.inl ⟨by rfl, ?_⟩) (by assumption) ?_
      rotate_left 1
      · intro W' hSw
        obtain ⟨hS1, hS2, hS3, hS4⟩ := hSw
        go_simp
        try with_reducible rfl
      try simp only [Act.put, List.setIfInBounds_toArray, List.set_cons_zero, List.set_cons_succ]
      refine wpAnyF_take (i := 11) (oi := ⟨_, _, _, _, _, _⟩) (v := ?_) rfl (by kernel_rfl) (by kernel_rfl) (by kernel_rfl) (by kernel_rfl) (by kernel_rfl) (fun _ _ _ h => h) (Or.inl ⟨by rfl, ?_⟩) (by assumption) ?_
      rotate_left 1
      · intro W' hSw
        obtain ⟨hS1, hS2, hS3, hS4⟩ := hSw
        go_simp
        try with_reducible rfl
      try simp only [Act.put, List.setIfInBounds_toArray, List.set_cons_zero, List.set_cons_succ]
      refine wpAnyF_take (i := 12) (oi := ⟨_, _, _, _, _, _⟩) (v := ?_) rfl (by kernel_rfl) (by kernel_rfl) (by kernel_rfl) (by kernel_rfl) (by kernel_rfl) (fun _ _ _ h => h) (Or.inl ⟨by rfl, ?_⟩) (by assumption) ?_
      rotate_left 1
      · intro W' hSw
        obtain ⟨hS1, hS2, hS3, hS4⟩ := hSw
        go_simp
        try with_reducible rfl
      try simp only [Act.put, List.setIfInBounds_toArray, List.set_cons_zero, List.set_cons_succ]
      refine wpAnyF_take (i := 13) (oi := ⟨_, _, _, _, _, _⟩) (v := ?_) rfl (by kernel_rfl) (by kernel_rfl) (by kernel_rfl) (by kernel_rfl) (by kernel_rfl) (fun _ _ _ h => h) (Or.inl ⟨by rfl, ?_⟩) (by assumption) ?_
      rotate_left 1
      · intro W' hSw
        obtain ⟨hS1, hS2, hS3, hS4⟩ := hSw
        go_simp
        try with_reducible rfl
      try simp only [Act.put, List.setIfInBounds_toArray, List.set_cons_zero, List.set_cons_succ]
      refine wpAnyF_one (o := ⟨_, _, _, _, _, _⟩) (i := 8) (by kernel_rfl) rfl rfl (fun K' hK => ?_)
      go_simp
      refine hv1.mono ?_
      clear hv1
      rintro e V6 ⟨rfl, hx6⟩
      dsimp only
      have h8 := h7d.ext hx6
      clear hx6
      have kp8 := (h8.at (b := bp) (C := pl2.enc) (by simp)).1
      have kh8 := (h8.at (b := bh) (C := T.enc) (by simp)).1
      have kV8 := (blk_of_heap (h8.obs (v := .slice tv.a tv.len tv.cap) (by simp [vs4]) HOV.out.1 HOV.out.2.1)).trans kVd
      have kR8 := (blk_of_heap (h8.obs (v := .slice tr.a tr.len tr.cap) (by simp [vs4]) HOV.out.2.2.1 HOV.out.2.2.2)).trans kRd
      refine hK.out _ _ ⟨kp8, kh8, kV8, kR8⟩ (fun hHeld => ?_)
      clear hK K'
      try simp only [Act.put, List.setIfInBounds_toArray, List.set_cons_zero, List.set_cons_succ]
      have hrt := h8.root
      rw [← HD0.out] at hrt
      refine wpAnyF_take (i := 14) (oi := ⟨_, _, _, _, _, _⟩) (v := ?_) rfl (by kernel_rfl) (by kernel_rfl) (by kernel_rfl) (by kernel_rfl) (by kernel_rfl) (fun _ _ _ h => h) (Or.inl ⟨by rfl, ?_⟩) (by assumption) ?_
      rotate_left 1
      · intro W' hSw
        obtain ⟨hS1, hS2, hS3, hS4⟩ := hSw
        go_simp
        try with_reducible rfl
      try simp only [Act.put, List.setIfInBounds_toArray, List.set_cons_zero, List.set_cons_succ]
      refine wpAnyF_take (i := 15) (oi := ⟨_, _, _, _, _, _⟩) (v := ?_) rfl (by kernel_rfl) (by kernel_rfl) (by kernel_rfl) (by kernel_rfl) (by kernel_rfl) (fun _ _ _ h => h) (Or.inl ⟨by rfl, ?_⟩) (by assumption) ?_
      rotate_left 1
      · intro W' hSw
        obtain ⟨hS1, hS2, hS3, hS4⟩ := hSw
        go_simp
        try with_reducible rfl
      try simp only [Act.put, List.setIfInBounds_toArray, List.set_cons_zero, List.set_cons_succ]
      refine wpAnyF_take (i := 16) (oi := ⟨_, _, _, _, _, _⟩) (v := ?_) rfl (by kernel_rfl) (by kernel_rfl) (by kernel_rfl) (by kernel_rfl) (by kernel_rfl) (fun _ _ _ h => h) (Or.inl ⟨by rfl, ?_⟩) (by assumption) ?_
      rotate_left 1
      · intro W' hSw
        obtain ⟨hS1, hS2, hS3, hS4⟩ := hSw
        go_simp
        try with_reducible rfl
      try simp only [Act.put, List.setIfInBounds_toArray, List.set_cons_zero, List.set_cons_succ]
      refine wpAnyF_take (i := 17) (oi := ⟨_, _, _, _, _, _⟩) (v := ?_) rfl (by kernel_rfl) (by kernel_rfl) (by kernel_rfl) (by kernel_rfl) (by kernel_rfl) (fun _ _ _ h => h) (Or.inl ⟨by rfl, ?_⟩) (by assumption) ?_
      rotate_left 1
      · intro W' hSw
        obtain ⟨hS1, hS2, hS3, hS4⟩ := hSw
        go_simp
        try with_reducible rfl
      try simp only [Act.put, List.setIfInBounds_toArray, List.set_cons_zero, List.set_cons_succ]
      refine wpAnyF_take (i := 19) (oi := ⟨_, _, _, _, _, _⟩) (v := ?_) rfl (by kernel_rfl) (by kernel_rfl) (by kernel_rfl) (by kernel_rfl) (by kernel_rfl) (fun _ _ _ h => h) (Or.inl ⟨by rfl, ?_⟩) (by assumption) ?_
      rotate_left 1
      · intro W' hSw
        obtain ⟨hS1, hS2, hS3, hS4⟩ := hSw
        go_simp
        try with_reducible rfl
      try simp only [Act.put, List.setIfInBounds_toArray, List.set_cons_zero, List.set_cons_succ]
      refine wpAnyF_take (i := 20) (oi := ⟨_, _, _, _, _, _⟩) (v := ?_) rfl (by kernel_rfl) (by kernel_rfl) (by kernel_rfl) (by kernel_rfl) (by kernel_rfl) (fun _ _ _ h => h) (Or.inl ⟨by rfl, ?_⟩) (by assumption) ?_
      rotate_left 1
      · intro W' hSw
        obtain ⟨hS1, hS2, hS3, hS4⟩ := hSw
        go_simp
        try with_reducible rfl
      try simp only [Act.put, List.setIfInBounds_toArray, List.set_cons_zero, List.set_cons_succ]
      refine wpAnyF_take (i := 21) (oi := ⟨_, _, _, _, _, _⟩) (v := ?_) rfl (by kernel_rfl) (by kernel_rfl) (by kernel_rfl) (by kernel_rfl) (by kernel_rfl) (fun _ _ _ h => h) (Or.inl ⟨by rfl, ?_⟩) (by assumption) ?_
      rotate_left 1
      · intro W' hSw
        obtain ⟨hS1, hS2, hS3, hS4⟩ := hSw
        go_simp
        try with_reducible rfl
      try simp only [Act.put, List.setIfInBounds_toArray, List.set_cons_zero, List.set_cons_succ]
      refine wpAnyF_take (i := 22) (oi := ⟨_, _, _, _, _, _⟩) (v := ?_) rfl (by kernel_rfl) (by kernel_rfl) (by kernel_rfl) (by kernel_rfl) (by kernel_rfl) (fun _ _ _ h => h) (Or.inl ⟨by rfl, ?_⟩) (by assumption) ?_
      rotate_left 1
      · intro W' hSw
        obtain ⟨hS1, hS2, hS3, hS4⟩ := hSw
        go_simp
        try with_reducible rfl
      try simp only [Act.put, List.setIfInBounds_toArray, List.set_cons_zero, List.set_cons_succ]
      refine wpAnyF_take (i := 23) (oi := ⟨_, _, _, _, _, _⟩) (v := ?_) rfl (by kernel_rfl) (by kernel_rfl) (by kernel_rfl) (by kernel_rfl) (by kernel_rfl) (fun _ _ _ h => h) (Or.inl ⟨by rfl, ?_⟩) (by assumption) ?_
      rotate_left 1
      · intro W' hSw
        obtain ⟨hS1, hS2, hS3, hS4⟩ := hSw
        go_simp
        try with_reducible rfl
      try simp only [Act.put, List.setIfInBounds_toArray, List.set_cons_zero, List.set_cons_succ]
      refine wpAnyF_one (o := ⟨_, _, _, _, _, _⟩) (i := 18) (by kernel_rfl) rfl rfl (fun K' hK => ?_)
      go_simp
      refine hrt.mono ?_
      clear hrt
      rintro e V7 ⟨rfl, h9⟩
      dsimp only
      have kp9 := (h9.at (b := bp) (C := pl2.enc) (by simp)).1
      have kh9 := (h9.at (b := bh) (C := T.enc) (by simp)).1
      have kV9 := (blk_of_heap (h9.obs (v := .slice tv.a tv.len tv.cap) (by simp [vs4]) HOV.out.1 HOV.out.2.1)).trans kVd
      have kR9 := (blk_of_heap (h9.obs (v := .slice tr.a tr.len tr.cap) (by simp [vs4]) HOV.out.2.2.1 HOV.out.2.2.2)).trans kRd
      refine hK.out _ _ ⟨kp9, kh9, kV9, kR9⟩ (fun hHeld => ?_)
      clear hK K'
      try simp only [Act.put, List.setIfInBounds_toArray, List.set_cons_zero, List.set_cons_succ]
      refine wpAnyF_take (i := 24) (oi := ⟨_, _, _, _, _, _⟩) (v := ?_) rfl (by kernel_rfl) (by kernel_rfl) (by kernel_rfl) (by kernel_rfl) (by kernel_rfl) (fun _ _ _ h => h) (Or.inl ⟨by rfl, ?_⟩) (by assumption) ?_
      rotate_left 1
      · intro W' hSw
        obtain ⟨hS1, hS2, hS3, hS4⟩ := hSw
        go_simp
        try with_reducible rfl
      try simp only [Act.put, List.setIfInBounds_toArray, List.set_cons_zero, List.set_cons_succ]
      refine wpAnyF_take (i := 25) (oi := ⟨_, _, _, _, _, _⟩) (v := ?_) rfl (by kernel_rfl) (by kernel_rfl) (by kernel_rfl) (by kernel_rfl) (by kernel_rfl) (fun _ _ _ h => h) (Or.inl ⟨by rfl, ?_⟩) (by assumption) ?_
      rotate_left 1
      · intro W' hSw
        obtain ⟨hS1, hS2, hS3, hS4⟩ := hSw
        go_simp
        try with_reducible rfl
      try simp only [Act.put, List.setIfInBounds_toArray, List.set_cons_zero, List.set_cons_succ]
      refine wpAnyF_last (o := ⟨_, _, _, _, _, _⟩) (by kernel_rfl) rfl (fun K' hK => ?_)
      go_simp
      refine hK.out _ _ ?_
      clear hK K'
      try simp only [Act.put, List.setIfInBounds_toArray, List.set_cons_zero, List.set_cons_succ]
      refine wpAnyF_done (by kernel_rfl) ?_ _
      clear hHeld h7d kpd khd kVd kRd h8 kp8 kh8 kV8 kR8 hVV hDD sgV sgR' gV gR
      obtain ⟨hle1, hle2⟩ := HLE.out
      obtain ⟨hTv, hTr⟩ := HTT.out
      have hnb : ∀ p ∈ [(bp, pl2.enc), (bz, S.enc), (bd, arr u8v D), (bw, v.enc), (bo, x.enc)], p.1 ≠ bh := fun p hp => by
        have := HORD.out
        have := HNE.out
        simp only [List.mem_cons, List.not_mem_nil, or_false] at hp
        rcases hp with rfl | rfl | rfl | rfl | rfl <;> (dsimp only; omega)
      have hlt5 := HRW.out.1.lt HRW.out.2.1
      have w1 := h9.rwt (by simp [vs4]) (by simp [vs4]) HRW.out.1
      have w2 := h9.rwt (by simp [vs4]) (by simp [vs4]) HRW.out.2.1
      have h11 := h9.reb hlt5
      have fh9 := (h9.at (b := bh) (C := T.enc) (by simp)).2
      have hlr := LI.rot HH.out.1 (by have := HN.out.2; omega)
      obtain ⟨tv1, htv1⟩ : ∃ tv1 : Sl, tv1 = ⟨tv.a, kk, tv.cap⟩ := ⟨_, rfl⟩
      obtain ⟨tr1, htr1⟩ : ∃ tr1 : Sl, tr1 = ⟨tr.a, kk, tr.cap⟩ := ⟨_, rfl⟩
      have eT2 : Trail.mk ⟨tv.a, kk, tv.cap⟩ ⟨tr.a, kk, tr.cap⟩ T.begunView T.begunRoot T.begunKnown = trE (t.cut kk) tv1 tr1 := by rw [HTE.out, htv1, htr1]; rfl
      have h12 := h11.putk (C' := (Trail.mk ⟨tv.a, kk, tv.cap⟩ ⟨tr.a, kk, tr.cap⟩ T.begunView T.begunRoot T.begunKnown).enc) hnb (w1.lt w2)
      have q5 := h11.rwp (C' := (Trail.mk ⟨tv.a, kk, tv.cap⟩ ⟨tr.a, kk, tr.cap⟩ T.begunView T.begunRoot T.begunKnown).enc) hnb (by simp [vs4]) (by simp [vs4]) w1
      have q6 := h11.rwp (C' := (Trail.mk ⟨tv.a, kk, tv.cap⟩ ⟨tr.a, kk, tr.cap⟩ T.begunView T.begunRoot T.begunKnown).enc) hnb (by simp [vs4]) (by simp [vs4]) w2
      have HR9 : Hid (∃ N1, (LI (n + (X.length + 1)) N1 ∧ CI N1) ∧ Tr9 V0' bp bh bz c1 c2 pl2.enc N1 rs.2.2 (put V7 bh (Trail.mk ⟨tv.a, kk, tv.cap⟩ ⟨tr.a, kk, tr.cap⟩ T.begunView T.begunRoot T.begunKnown).enc)) := by
        refine ⟨rotL rs.2.1, hlr, Tr9.fin (t := t.cut kk) (s := s) (tv := tv1) (tr := tr1) (sv := sv) (sr := sr) h12 (by simp) (by rw [← eT2]; simp) (by rw [← HSE.out]; simp) (fun u hu k hk => ?_) ⟨?_, ?_⟩ q6 ?_ ?_ HQ1.out.1.rot (by rw [HQ1.out.2]; exact HTR.out.2)⟩
        · rw [htv1, htr1] at hu
          simp only [vs4, List.mem_cons, List.not_mem_nil, or_false] at hu
          rcases hu with rfl | rfl | rfl | rfl
          · exact ⟨.slice tv.a tv.len tv.cap, by simp [vs4], by rw [sl_own tv.a tv.len kk tv.cap tv.cap]; exact hk⟩
          · exact ⟨.slice tr.a tr.len tr.cap, by simp [vs4], by rw [sl_own tr.a tr.len kk tr.cap tr.cap]; exact hk⟩
          · exact ⟨_, by simp [vs4], hk⟩
          · exact ⟨_, by simp [vs4], hk⟩
        · rw [htv1]; exact row_sh View.length_enc q5.1 hle1
        · rw [htr1]; exact row_sh encD_len q5.2 hle2
        · rw [htv1]; exact HRW.out.2.2.1.cut _ _
        · rw [htr1]; exact HRW.out.2.2.2.cut _ _
      obtain ⟨C2, hC2⟩ : ∃ C2, C2 = (Trail.mk ⟨tv.a, kk, tv.cap⟩ ⟨tr.a, kk, tr.cap⟩ T.begunView T.begunRoot T.begunKnown).enc := ⟨_, rfl⟩
      have sp : splice (splice T.enc 0 [.slice tv.a kk tv.cap]) 1 [.slice tr.a kk tr.cap] = C2 := by rw [hC2, Trail.views_sl, Trail.roots_sl]
      have nsp : nth (splice T.enc 0 [.slice tv.a kk tv.cap]) 1 = some (.slice tr.a tr.len tr.cap) := by rw [Trail.views_sl, Trail.roots_get]; show some (Sl.val T.roots) = _; rw [hTr]; rfl
      have lsp : (splice T.enc 0 [.slice tv.a kk tv.cap]).length = 378 := by rw [Trail.views_sl]; exact Trail.length_enc _
      rw [← hC2] at HR9
      clear hC2
      rw [HEA.out.1, HEA.out.2] at sp
      rw [HEA.out.1] at nsp lsp
      rw [HEA.out.2] at nsp
      clear H7 HRW h9 h11 h12 q5 q6 hnb hlt5 w1 w2 eT2 htv1 htr1 hle1 hle2 hTv hTr hlr kp9 kV9 kR9 hph lpl hltI hltJ
      generalize T.enc = E at *
      go_wp2_with fail
      refine ⟨rfl, rfl, ?_⟩
      rw [HI42.out]
      exact ⟨⟨rfl, rfl, rfl, rfl, rfl, rfl, rfl, rfl, rfl⟩, HR9⟩
    by_cases n23 : x.kind = 23
    · have hk := n23
      have hk1 : (x.kind == 1) = false := by simp [hk]
      have hk7 : (x.kind == 7) = false := by simp [hk]
      have hk8 : (x.kind == 8) = false := by simp [hk]
      have hk23 : (x.kind == 23) = true := by rw [hk]; rfl
      have h7 := H7.out
      have hlt5 := HRW.out.1.lt HRW.out.2.1
      have hnb : ∀ p ∈ [(bp, pl2.enc), (bz, S.enc), (bd, arr u8v D), (bw, v.enc), (bo, x.enc)], p.1 ≠ bh := fun p hp => by
        have := HORD.out
        have := HNE.out
        simp only [List.mem_cons, List.not_mem_nil, or_false] at hp
        rcases hp with rfl | rfl | rfl | rfl | rfl <;> (dsimp only; omega)
      have kh := (h7.at (b := bh) (C := T.enc) (by simp)).1
      have fh := (h7.at (b := bh) (C := T.enc) (by simp)).2
      have ko := (h7.at (b := bo) (C := x.enc) (by simp)).1
      have lT : T.enc.length = 378 := Trail.length_enc _
      have hTv : T.views = tv := by rw [HTE.out]; rfl
      have hTr : T.roots = tr := by rw [HTE.out]; rfl
      have nT0 : nth T.enc 0 = some (.slice tv.a tv.len tv.cap) := by rw [Trail.views_get, hTv]; rfl
      have nT1 : nth T.enc 1 = some (.slice tr.a tr.len tr.cap) := by rw [Trail.roots_get, hTr]; rfl
      have l1 : tv.len = t.vs.length := row_len View.length_enc HRW.out.1.1
      have l2 : tr.len = t.rs.length := row_len encD_len HRW.out.1.2
      have nbo : ¬ bo = bh := by have := HORD.out; omega
      obtain ⟨kk, hsq, q0, q1, q2, q34⟩ := tri_rvTo HM1.out.1 HM1.out.2.1 (by rw [← HRS.out]; exact HH.out.1.2) hk HC0.out
      rw [← HRS.out] at q1 q2 q34
      have hd8 := HM1.out.2.1.1.dep
      have evl := HM1.out.1.vl
      have erl := HM1.out.1.rl
      have hcv : IntKind.i64.wrap (w64 x.seq) = ((kk : Nat) : Int) := hsq
      have ew1 : wrap64 ((tv.len : Int) - 1) = (tv.len : Int) - 1 := by unfold wrap64; omega
      by_cases hlt1 : kk < tv.len
      · obtain ⟨q3, q4⟩ := q34 (by omega)
        have hlt2 : kk < tr.len := by omega
        have hle1 : kk ≤ tv.len := by omega
        have hle2 : kk ≤ tr.len := by omega
        have hltI : ((kk : Nat) : Int) < (tv.len : Int) := by omega
        have hltJ : ((kk : Nat) : Int) < (tr.len : Int) := by omega
        have p0 : (0 : Int) ≤ ((kk : Nat) : Int) := by omega
        have p2 : (((kk : Nat) : Int)).toNat = kk := by omega
        have sl1 : ∀ w a', (sliceOp 122 (.slice a' tv.len tv.cap) none (some (.int .i64 (kk : Int))) none).run Tryz.prog w = .ok (.value (.slice a' kk tv.cap)) w := fun w a' => slice_hiI und122 (by kernel_rfl) w _ _ _ _ (by have := row_cap HRW.out.1.1; omega)
        have sl2 : ∀ w a', (sliceOp 123 (.slice a' tr.len tr.cap) none (some (.int .i64 (kk : Int))) none).run Tryz.prog w = .ok (.value (.slice a' kk tr.cap)) w := fun w a' => slice_hiI und123 (by kernel_rfl) w _ _ _ _ (by have := row_cap HRW.out.1.2; omega)
        have hkI : ((kk : Nat) : Int) < (tv.len : Int) ∨ ¬ ((kk : Nat) : Int) < (tv.len : Int) := by omega
        clear hkI
        obtain ⟨y, bV, CV, hy, eaV, kV, lV, sgV⟩ := (rw_own View.length_enc HRW.out.1.1).1.at hlt1
        obtain ⟨z, bR, CR, hz, eaR, kR, lR, sgR⟩ := (rw_own encD_len HRW.out.1.2).1.at hlt2
        obtain rfl : y = viewF rs.2.1 := Option.some.inj (hy.symm.trans q3)
        obtain rfl : z = rootD rs.2.1.st := Option.some.inj (hz.symm.trans q4)
        have gV : kk * 343 + 343 ≤ CV.length := by
          have : (kk + 1) * 343 ≤ tv.len * 343 := Nat.mul_le_mul_right _ hlt1
          omega
        have gR : kk * 32 + 32 ≤ CR.length := by
          have : (kk + 1) * 32 ≤ tr.len * 32 := Nat.mul_le_mul_right _ hlt2
          omega
        obtain ⟨vw, hvw⟩ : ∃ vw, vw = viewF rs.2.1 := ⟨_, rfl⟩
        obtain ⟨D0, hD0⟩ : ∃ D0, D0 = rootD rs.2.1.st := ⟨_, rfl⟩
        have sgR' : seg CR (kk * 32) 32 = arr u8v D0 := by rw [hD0]; exact sgR
        rw [← hvw] at sgV
        have hokv : okView vw := by rw [hvw]; exact viewF_ok _ HH.out.1.1.dep
        have hVV : ∀ w X Y, (cmpNe 61 X Y (.agg vw.enc.toArray) (.agg vw.enc.toArray)).run Tryz.prog w = .ok (.value (.bool false)) w := fun w X Y => by rw [neq61 w X Y vw vw hokv hokv, eqA_self]; rfl
        have hDD : ∀ w X Y, (cmpNe 47 X Y (.agg (arr u8v D0).toArray) (.agg (arr u8v D0).toArray)).run Tryz.prog w = .ok (.value (.bool false)) w := fun w X Y => by rw [neq47, eqA_self]; rfl
        have h7d := h7.ext (extends_drewN (ext_Ext (Ext.refl V5)) 1)
        have hph : nth pl2.enc 0 = some (.pointer (some ⟨c1, 0, none⟩)) := by rw [HPL2.out]; exact Player.hand_get _
        have lpl : pl2.enc.length = 2 := Player.length_enc _
        have kpd := (h7d.at (b := bp) (C := pl2.enc) (by simp)).1
        have khd := (h7d.at (b := bh) (C := T.enc) (by simp)).1
        have kVd : blk (V5.drewN 1) bV = some CV := kV
        have kRd : blk (V5.drewN 1) bR = some CR := kR
        have hv1 := h7d.view
        rw [← hvw] at hv1
        have HD0 := hid_of hD0
        have HOV : Hid ((Value.slice tv.a tv.len tv.cap).ownBlock = some bV ∧ bV < V5.heap.size ∧ (Value.slice tr.a tr.len tr.cap).ownBlock = some bR ∧ bR < V5.heap.size) := ⟨by rw [eaV]; rfl, blk_lt kV, by rw [eaR]; rfl, blk_lt kR⟩
        have HEA : Hid (tv.a = some ⟨bV, 0, none⟩ ∧ tr.a = some ⟨bR, 0, none⟩) := ⟨eaV, eaR⟩
        rw [eaV] at nT0
        rw [eaR] at nT1
        have HQ1 := hid_of (And.intro q1 q2)
        have HLE : Hid (kk ≤ tv.len ∧ kk ≤ tr.len) := ⟨hle1, hle2⟩
        have HTT : Hid (T.views = tv ∧ T.roots = tr) := ⟨hTv, hTr⟩
        clear q0 q1 q2 q3 q4 hy hz eaV eaR lV lR sgR hvw hD0 hokv h7 hk l1 l2 evl erl hd8 hlt1 hlt2 hle1 hle2 kV kR hTv hTr hlt5 hnb hsq q34
        go_upto_region 24 with fail
        repeat go_step
        refine wp_region_F 26 (fun W' => blk W' bp = some pl2.enc ∧ blk W' bh = some T.enc ∧ blk W' bV = some CV ∧ blk W' bR = some CR) (by kernel_rfl) ⟨kpd, khd, kVd, kRd⟩ (fun hHeld => ?_)
        refine wpAnyF_take (i := 0) (oi := ⟨_, _, _, _, _, _⟩) (v := ?_) rfl (by kernel_rfl) (by kernel_rfl) (by kernel_rfl) (by kernel_rfl) (by kernel_rfl) (fun _ _ _ h => h) (Or.inl ⟨by rfl, ?_⟩) (by assumption) ?_
        rotate_left 1
        · intro W' hSw
          obtain ⟨hS1, hS2, hS3, hS4⟩ := hSw
          go_simp
          try with_reducible rfl
        try simp only [Act.put, List.setIfInBounds_toArray, List.set_cons_zero, List.set_cons_succ]
        refine wpAnyF_take (i := 1) (oi := ⟨_, _, _, _, _, _⟩) (v := ?_) rfl (by kernel_rfl) (by kernel_rfl) (by kernel_rfl) (by kernel_rfl) (by kernel_rfl) (fun _ _ _ h => h) (Or.inl ⟨by rfl, ?_⟩) (by assumption) ?_
        rotate_left 1
        · intro W' hSw
          obtain ⟨hS1, hS2, hS3, hS4⟩ := hSw
          go_simp
          try with_reducible rfl
        try simp only [Act.put, List.setIfInBounds_toArray, List.set_cons_zero, List.set_cons_succ]
        refine wpAnyF_take (i := 2) (oi := ⟨_, _, _, _, _, _⟩) (v := ?_) rfl (by kernel_rfl) (by kernel_rfl) (by kernel_rfl) (by kernel_rfl) (by kernel_rfl) (fun _ _ _ h => h) (Or.inl ⟨by rfl, ?_⟩) (by assumption) ?_
        rotate_left 1
        · intro W' hSw
          obtain ⟨hS1, hS2, hS3, hS4⟩ := hSw
          go_simp
          try with_reducible rfl
        try simp only [Act.put, List.setIfInBounds_toArray, List.set_cons_zero, List.set_cons_succ]
        refine wpAnyF_take (i := 3) (oi := ⟨_, _, _, _, _, _⟩) (v := ?_) rfl (by kernel_rfl) (by kernel_rfl) (by kernel_rfl) (by kernel_rfl) (by kernel_rfl) (fun _ _ _ h => h) (Or.inl ⟨by rfl, ?_⟩) (by assumption) ?_
        rotate_left 1
        · intro W' hSw
          obtain ⟨hS1, hS2, hS3, hS4⟩ := hSw
          go_simp
          try with_reducible rfl
        try simp only [Act.put, List.setIfInBounds_toArray, List.set_cons_zero, List.set_cons_succ]
        refine wpAnyF_take (i := 4) (oi := ⟨_, _, _, _, _, _⟩) (v := ?_) rfl (by kernel_rfl) (by kernel_rfl) (by kernel_rfl) (by kernel_rfl) (by kernel_rfl) (fun _ _ _ h => h) (Or.inl ⟨by rfl, ?_⟩) (by assumption) ?_
        rotate_left 1
        · intro W' hSw
          obtain ⟨hS1, hS2, hS3, hS4⟩ := hSw
          go_simp
          try with_reducible rfl
        try simp only [Act.put, List.setIfInBounds_toArray, List.set_cons_zero, List.set_cons_succ]
        refine wpAnyF_take (i := 5) (oi := ⟨_, _, _, _, _, _⟩) (v := ?_) rfl (by kernel_rfl) (by kernel_rfl) (by kernel_rfl) (by kernel_rfl) (by kernel_rfl) (fun _ _ _ h => h) (Or.inl ⟨by rfl, ?_⟩) (by assumption) ?_
        rotate_left 1
        · intro W' hSw
          obtain ⟨hS1, hS2, hS3, hS4⟩ := hSw
          go_simp
          try with_reducible rfl
        try simp only [Act.put, List.setIfInBounds_toArray, List.set_cons_zero, List.set_cons_succ]
        refine wpAnyF_take (i := 6) (oi := ⟨_, _, _, _, _, _⟩) (v := ?_) rfl (by kernel_rfl) (by kernel_rfl) (by kernel_rfl) (by kernel_rfl) (by kernel_rfl) (fun _ _ _ h => h) (Or.inl ⟨by rfl, ?_⟩) (by assumption) ?_
        rotate_left 1
        · intro W' hSw
          obtain ⟨hS1, hS2, hS3, hS4⟩ := hSw
          go_simp
          try with_reducible rfl
        try simp only [Act.put, List.setIfInBounds_toArray, List.set_cons_zero, List.set_cons_succ]
        refine wpAnyF_take (i := 7) (oi := ⟨_, _, _, _, _, _⟩) (v := ?_) rfl (by kernel_rfl) (by kernel_rfl) (by kernel_rfl) (by kernel_rfl) (by kernel_rfl) (fun _ _ _ h => h) (Or.inl ⟨by rfl, ?_⟩) (by assumption) ?_
        rotate_left 1
        · intro W' hSw
          obtain ⟨hS1, hS2, hS3, hS4⟩ := hSw
          go_simp
          try with_reducible rfl
        try simp only [Act.put, List.setIfInBounds_toArray, List.set_cons_zero, List.set_cons_succ]
        refine wpAnyF_take (i := 9) (oi := ⟨_, _, _, _, _, _⟩) (v := ?_) rfl (by kernel_rfl) (by kernel_rfl) (by kernel_rfl) (by kernel_rfl) (by kernel_rfl) (fun _ _ _ h => h) (Or.inl ⟨by rfl, ?_⟩) (by assumption) ?_
        rotate_left 1
        · intro W' hSw
          obtain ⟨hS1, hS2, hS3, hS4⟩ := hSw
          go_simp
          try with_reducible rfl
        try simp only [Act.put, List.setIfInBounds_toArray, List.set_cons_zero, List.set_cons_succ]
        refine wpAnyF_take (i := 10) (oi := ⟨_, _, _, _, _, _⟩) (v := ?_) rfl (by kernel_rfl) (by kernel_rfl) (by kernel_rfl) (by kernel_rfl) (by kernel_rfl) (fun _ _ _ h => h) (Or.inl ⟨by rfl, ?_⟩) (by assumption) ?_
        rotate_left 1
        · intro W' hSw
          obtain ⟨hS1, hS2, hS3, hS4⟩ := hSw
          go_simp
          try with_reducible rfl
        try simp only [Act.put, List.setIfInBounds_toArray, List.set_cons_zero, List.set_cons_succ]
        refine wpAnyF_take (i := 11) (oi := ⟨_, _, _, _, _, _⟩) (v := ?_) rfl (by kernel_rfl) (by kernel_rfl) (by kernel_rfl) (by kernel_rfl) (by kernel_rfl) (fun _ _ _ h => h) (Or.inl ⟨by rfl, ?_⟩) (by assumption) ?_
        rotate_left 1
        · intro W' hSw
          obtain ⟨hS1, hS2, hS3, hS4⟩ := hSw
          go_simp
          try with_reducible rfl
        try simp only [Act.put, List.setIfInBounds_toArray, List.set_cons_zero, List.set_cons_succ]
        refine wpAnyF_take (i := 12) (oi := ⟨_, _, _, _, _, _⟩) (v := ?_) rfl (by kernel_rfl) (by kernel_rfl) (by kernel_rfl) (by kernel_rfl) (by kernel_rfl) (fun _ _ _ h => h) (Or.inl ⟨by rfl, ?_⟩) (by assumption) ?_
        rotate_left 1
        · intro W' hSw
          obtain ⟨hS1, hS2, hS3, hS4⟩ := hSw
          go_simp
          try with_reducible rfl
        try simp only [Act.put, List.setIfInBounds_toArray, List.set_cons_zero, List.set_cons_succ]
        refine wpAnyF_take (i := 13) (oi := ⟨_, _, _, _, _, _⟩) (v := ?_) rfl (by kernel_rfl) (by kernel_rfl) (by kernel_rfl) (by kernel_rfl) (by kernel_rfl) (fun _ _ _ h => h) (Or.inl ⟨by rfl, ?_⟩) (by assumption) ?_
        rotate_left 1
        · intro W' hSw
          obtain ⟨hS1, hS2, hS3, hS4⟩ := hSw
          go_simp
          try with_reducible rfl
        try simp only [Act.put, List.setIfInBounds_toArray, List.set_cons_zero, List.set_cons_succ]
        refine wpAnyF_one (o := ⟨_, _, _, _, _, _⟩) (i := 8) (by kernel_rfl) rfl rfl (fun K' hK => ?_)
        go_simp
        refine hv1.mono ?_
        clear hv1
        rintro e V6 ⟨rfl, hx6⟩
        dsimp only
        have h8 := h7d.ext hx6
        clear hx6
        have kp8 := (h8.at (b := bp) (C := pl2.enc) (by simp)).1
        have kh8 := (h8.at (b := bh) (C := T.enc) (by simp)).1
        have kV8 := (blk_of_heap (h8.obs (v := .slice tv.a tv.len tv.cap) (by simp [vs4]) HOV.out.1 HOV.out.2.1)).trans kVd
        have kR8 := (blk_of_heap (h8.obs (v := .slice tr.a tr.len tr.cap) (by simp [vs4]) HOV.out.2.2.1 HOV.out.2.2.2)).trans kRd
        refine hK.out _ _ ⟨kp8, kh8, kV8, kR8⟩ (fun hHeld => ?_)
        clear hK K'
        try simp only [Act.put, List.setIfInBounds_toArray, List.set_cons_zero, List.set_cons_succ]
        have hrt := h8.root
        rw [← HD0.out] at hrt
        refine wpAnyF_take (i := 14) (oi := ⟨_, _, _, _, _, _⟩) (v := ?_) rfl (by kernel_rfl) (by kernel_rfl) (by kernel_rfl) (by kernel_rfl) (by kernel_rfl) (fun _ _ _ h => h) (Or.inl ⟨by rfl, ?_⟩) (by assumption) ?_
        rotate_left 1
        · intro W' hSw
          obtain ⟨hS1, hS2, hS3, hS4⟩ := hSw
          go_simp
          try with_reducible rfl
        try simp only [Act.put, List.setIfInBounds_toArray, List.set_cons_zero, List.set_cons_succ]
        refine wpAnyF_take (i := 15) (oi := ⟨_, _, _, _, _, _⟩) (v := ?_) rfl (by kernel_rfl) (by kernel_rfl) (by kernel_rfl) (by kernel_rfl) (by kernel_rfl) (fun _ _ _ h => h) (Or.inl ⟨by rfl, ?_⟩) (by assumption) ?_
        rotate_left 1
        · intro W' hSw
          obtain ⟨hS1, hS2, hS3, hS4⟩ := hSw
          go_simp
          try with_reducible rfl
        try simp only [Act.put, List.setIfInBounds_toArray, List.set_cons_zero, List.set_cons_succ]
        refine wpAnyF_take (i := 16) (oi := ⟨_, _, _, _, _, _⟩) (v := ?_) rfl (by kernel_rfl) (by kernel_rfl) (by kernel_rfl) (by kernel_rfl) (by kernel_rfl) (fun _ _ _ h => h) (Or.inl ⟨by rfl, ?_⟩) (by assumption) ?_
        rotate_left 1
        · intro W' hSw
          obtain ⟨hS1, hS2, hS3, hS4⟩ := hSw
          go_simp
          try with_reducible rfl
        try simp only [Act.put, List.setIfInBounds_toArray, List.set_cons_zero, List.set_cons_succ]
        refine wpAnyF_take (i := 17) (oi := ⟨_, _, _, _, _, _⟩) (v := ?_) rfl (by kernel_rfl) (by kernel_rfl) (by kernel_rfl) (by kernel_rfl) (by kernel_rfl) (fun _ _ _ h => h) (Or.inl ⟨by rfl, ?_⟩) (by assumption) ?_
        rotate_left 1
        · intro W' hSw
          obtain ⟨hS1, hS2, hS3, hS4⟩ := hSw
          go_simp
          try with_reducible rfl
        try simp only [Act.put, List.setIfInBounds_toArray, List.set_cons_zero, List.set_cons_succ]
        refine wpAnyF_take (i := 19) (oi := ⟨_, _, _, _, _, _⟩) (v := ?_) rfl (by kernel_rfl) (by kernel_rfl) (by kernel_rfl) (by kernel_rfl) (by kernel_rfl) (fun _ _ _ h => h) (Or.inl ⟨by rfl, ?_⟩) (by assumption) ?_
        rotate_left 1
        · intro W' hSw
          obtain ⟨hS1, hS2, hS3, hS4⟩ := hSw
          go_simp
          try with_reducible rfl
        try simp only [Act.put, List.setIfInBounds_toArray, List.set_cons_zero, List.set_cons_succ]
        refine wpAnyF_take (i := 20) (oi := ⟨_, _, _, _, _, _⟩) (v := ?_) rfl (by kernel_rfl) (by kernel_rfl) (by kernel_rfl) (by kernel_rfl) (by kernel_rfl) (fun _ _ _ h => h) (Or.inl ⟨by rfl, ?_⟩) (by assumption) ?_
        rotate_left 1
        · intro W' hSw
          obtain ⟨hS1, hS2, hS3, hS4⟩ := hSw
          go_simp
          try with_reducible rfl
        try simp only [Act.put, List.setIfInBounds_toArray, List.set_cons_zero, List.set_cons_succ]
        refine wpAnyF_take (i := 21) (oi := ⟨_, _, _, _, _, _⟩) (v := ?_) rfl (by kernel_rfl) (by kernel_rfl) (by kernel_rfl) (by kernel_rfl) (by kernel_rfl) (fun _ _ _ h => h) (Or.inl ⟨by rfl, ?_⟩) (by assumption) ?_
        rotate_left 1
        · intro W' hSw
          obtain ⟨hS1, hS2, hS3, hS4⟩ := hSw
          go_simp
          try with_reducible rfl
        try simp only [Act.put, List.setIfInBounds_toArray, List.set_cons_zero, List.set_cons_succ]
        refine wpAnyF_take (i := 22) (oi := ⟨_, _, _, _, _, _⟩) (v := ?_) rfl (by kernel_rfl) (by kernel_rfl) (by kernel_rfl) (by kernel_rfl) (by kernel_rfl) (fun _ _ _ h => h) (Or.inl ⟨by rfl, ?_⟩) (by assumption) ?_
        rotate_left 1
        · intro W' hSw
          obtain ⟨hS1, hS2, hS3, hS4⟩ := hSw
          go_simp
          try with_reducible rfl
        try simp only [Act.put, List.setIfInBounds_toArray, List.set_cons_zero, List.set_cons_succ]
        refine wpAnyF_take (i := 23) (oi := ⟨_, _, _, _, _, _⟩) (v := ?_) rfl (by kernel_rfl) (by kernel_rfl) (by kernel_rfl) (by kernel_rfl) (by kernel_rfl) (fun _ _ _ h => h) (Or.inl ⟨by rfl, ?_⟩) (by assumption) ?_
        rotate_left 1
        · intro W' hSw
          obtain ⟨hS1, hS2, hS3, hS4⟩ := hSw
          go_simp
          try with_reducible rfl
        try simp only [Act.put, List.setIfInBounds_toArray, List.set_cons_zero, List.set_cons_succ]
        refine wpAnyF_one (o := ⟨_, _, _, _, _, _⟩) (i := 18) (by kernel_rfl) rfl rfl (fun K' hK => ?_)
        go_simp
        refine hrt.mono ?_
        clear hrt
        rintro e V7 ⟨rfl, h9⟩
        dsimp only
        have kp9 := (h9.at (b := bp) (C := pl2.enc) (by simp)).1
        have kh9 := (h9.at (b := bh) (C := T.enc) (by simp)).1
        have kV9 := (blk_of_heap (h9.obs (v := .slice tv.a tv.len tv.cap) (by simp [vs4]) HOV.out.1 HOV.out.2.1)).trans kVd
        have kR9 := (blk_of_heap (h9.obs (v := .slice tr.a tr.len tr.cap) (by simp [vs4]) HOV.out.2.2.1 HOV.out.2.2.2)).trans kRd
        refine hK.out _ _ ⟨kp9, kh9, kV9, kR9⟩ (fun hHeld => ?_)
        clear hK K'
        try simp only [Act.put, List.setIfInBounds_toArray, List.set_cons_zero, List.set_cons_succ]
        refine wpAnyF_take (i := 24) (oi := ⟨_, _, _, _, _, _⟩) (v := ?_) rfl (by kernel_rfl) (by kernel_rfl) (by kernel_rfl) (by kernel_rfl) (by kernel_rfl) (fun _ _ _ h => h) (Or.inl ⟨by rfl, ?_⟩) (by assumption) ?_
        rotate_left 1
        · intro W' hSw
          obtain ⟨hS1, hS2, hS3, hS4⟩ := hSw
          go_simp
          try with_reducible rfl
        try simp only [Act.put, List.setIfInBounds_toArray, List.set_cons_zero, List.set_cons_succ]
        refine wpAnyF_take (i := 25) (oi := ⟨_, _, _, _, _, _⟩) (v := ?_) rfl (by kernel_rfl) (by kernel_rfl) (by kernel_rfl) (by kernel_rfl) (by kernel_rfl) (fun _ _ _ h => h) (Or.inl ⟨by rfl, ?_⟩) (by assumption) ?_
        rotate_left 1
        · intro W' hSw
          obtain ⟨hS1, hS2, hS3, hS4⟩ := hSw
          go_simp
          try with_reducible rfl
        try simp only [Act.put, List.setIfInBounds_toArray, List.set_cons_zero, List.set_cons_succ]
        refine wpAnyF_last (o := ⟨_, _, _, _, _, _⟩) (by kernel_rfl) rfl (fun K' hK => ?_)
        go_simp
        refine hK.out _ _ ?_
        clear hK K'
        try simp only [Act.put, List.setIfInBounds_toArray, List.set_cons_zero, List.set_cons_succ]
        refine wpAnyF_done (by kernel_rfl) ?_ _
        clear hHeld h7d kpd khd kVd kRd h8 kp8 kh8 kV8 kR8 hVV hDD sgV sgR' gV gR
        obtain ⟨hle1, hle2⟩ := HLE.out
        obtain ⟨hTv, hTr⟩ := HTT.out
        have hnb : ∀ p ∈ [(bp, pl2.enc), (bz, S.enc), (bd, arr u8v D), (bw, v.enc), (bo, x.enc)], p.1 ≠ bh := fun p hp => by
          have := HORD.out
          have := HNE.out
          simp only [List.mem_cons, List.not_mem_nil, or_false] at hp
          rcases hp with rfl | rfl | rfl | rfl | rfl <;> (dsimp only; omega)
        have hlt5 := HRW.out.1.lt HRW.out.2.1
        have w1 := h9.rwt (by simp [vs4]) (by simp [vs4]) HRW.out.1
        have w2 := h9.rwt (by simp [vs4]) (by simp [vs4]) HRW.out.2.1
        have h11 := h9.reb hlt5
        have fh9 := (h9.at (b := bh) (C := T.enc) (by simp)).2
        have hlr := LI.rot HH.out.1 (by have := HN.out.2; omega)
        obtain ⟨tv1, htv1⟩ : ∃ tv1 : Sl, tv1 = ⟨tv.a, kk, tv.cap⟩ := ⟨_, rfl⟩
        obtain ⟨tr1, htr1⟩ : ∃ tr1 : Sl, tr1 = ⟨tr.a, kk, tr.cap⟩ := ⟨_, rfl⟩
        have eT2 : Trail.mk ⟨tv.a, kk, tv.cap⟩ ⟨tr.a, kk, tr.cap⟩ T.begunView T.begunRoot T.begunKnown = trE (t.cut kk) tv1 tr1 := by rw [HTE.out, htv1, htr1]; rfl
        have h12 := h11.putk (C' := (Trail.mk ⟨tv.a, kk, tv.cap⟩ ⟨tr.a, kk, tr.cap⟩ T.begunView T.begunRoot T.begunKnown).enc) hnb (w1.lt w2)
        have q5 := h11.rwp (C' := (Trail.mk ⟨tv.a, kk, tv.cap⟩ ⟨tr.a, kk, tr.cap⟩ T.begunView T.begunRoot T.begunKnown).enc) hnb (by simp [vs4]) (by simp [vs4]) w1
        have q6 := h11.rwp (C' := (Trail.mk ⟨tv.a, kk, tv.cap⟩ ⟨tr.a, kk, tr.cap⟩ T.begunView T.begunRoot T.begunKnown).enc) hnb (by simp [vs4]) (by simp [vs4]) w2
        have HR9 : Hid (∃ N1, (LI (n + (X.length + 1)) N1 ∧ CI N1) ∧ Tr9 V0' bp bh bz c1 c2 pl2.enc N1 rs.2.2 (put V7 bh (Trail.mk ⟨tv.a, kk, tv.cap⟩ ⟨tr.a, kk, tr.cap⟩ T.begunView T.begunRoot T.begunKnown).enc)) := by
          refine ⟨rotL rs.2.1, hlr, Tr9.fin (t := t.cut kk) (s := s) (tv := tv1) (tr := tr1) (sv := sv) (sr := sr) h12 (by simp) (by rw [← eT2]; simp) (by rw [← HSE.out]; simp) (fun u hu k hk => ?_) ⟨?_, ?_⟩ q6 ?_ ?_ HQ1.out.1.rot (by rw [HQ1.out.2]; exact HTR.out.2)⟩
          · rw [htv1, htr1] at hu
            simp only [vs4, List.mem_cons, List.not_mem_nil, or_false] at hu
            rcases hu with rfl | rfl | rfl | rfl
            · exact ⟨.slice tv.a tv.len tv.cap, by simp [vs4], by rw [sl_own tv.a tv.len kk tv.cap tv.cap]; exact hk⟩
            · exact ⟨.slice tr.a tr.len tr.cap, by simp [vs4], by rw [sl_own tr.a tr.len kk tr.cap tr.cap]; exact hk⟩
            · exact ⟨_, by simp [vs4], hk⟩
            · exact ⟨_, by simp [vs4], hk⟩
          · rw [htv1]; exact row_sh View.length_enc q5.1 hle1
          · rw [htr1]; exact row_sh encD_len q5.2 hle2
          · rw [htv1]; exact HRW.out.2.2.1.cut _ _
          · rw [htr1]; exact HRW.out.2.2.2.cut _ _
        obtain ⟨C2, hC2⟩ : ∃ C2, C2 = (Trail.mk ⟨tv.a, kk, tv.cap⟩ ⟨tr.a, kk, tr.cap⟩ T.begunView T.begunRoot T.begunKnown).enc := ⟨_, rfl⟩
        have sp : splice (splice T.enc 0 [.slice tv.a kk tv.cap]) 1 [.slice tr.a kk tr.cap] = C2 := by rw [hC2, Trail.views_sl, Trail.roots_sl]
        have nsp : nth (splice T.enc 0 [.slice tv.a kk tv.cap]) 1 = some (.slice tr.a tr.len tr.cap) := by rw [Trail.views_sl, Trail.roots_get]; show some (Sl.val T.roots) = _; rw [hTr]; rfl
        have lsp : (splice T.enc 0 [.slice tv.a kk tv.cap]).length = 378 := by rw [Trail.views_sl]; exact Trail.length_enc _
        rw [← hC2] at HR9
        clear hC2
        rw [HEA.out.1, HEA.out.2] at sp
        rw [HEA.out.1] at nsp lsp
        rw [HEA.out.2] at nsp
        clear H7 HRW h9 h11 h12 q5 q6 hnb hlt5 w1 w2 eT2 htv1 htr1 hle1 hle2 hTv hTr hlr kp9 kV9 kR9 hph lpl hltI hltJ
        generalize T.enc = E at *
        go_wp2_with fail
        refine ⟨rfl, rfl, ?_⟩
        rw [HI42.out]
        exact ⟨⟨rfl, rfl, rfl, rfl, rfl, rfl, rfl, rfl, rfl⟩, HR9⟩
      have hle1 : kk ≤ tv.len := by omega
      have hle2 : kk ≤ tr.len := by omega
      have sl1 : ∀ w a', (sliceOp 122 (.slice a' tv.len tv.cap) none (some (.int .i64 (kk : Int))) none).run Tryz.prog w = .ok (.value (.slice a' kk tv.cap)) w := fun w a' => slice_hiI und122 (by kernel_rfl) w _ _ _ _ (by have := row_cap HRW.out.1.1; omega)
      have sl2 : ∀ w a', (sliceOp 123 (.slice a' tr.len tr.cap) none (some (.int .i64 (kk : Int))) none).run Tryz.prog w = .ok (.value (.slice a' kk tr.cap)) w := fun w a' => slice_hiI und123 (by kernel_rfl) w _ _ _ _ (by have := row_cap HRW.out.1.2; omega)
      have hkI : ((kk : Nat) : Int) < (tv.len : Int) ∨ ¬ ((kk : Nat) : Int) < (tv.len : Int) := by omega
      clear hkI
      have hltI : ¬ ((kk : Nat) : Int) < (tv.len : Int) := by omega
      have h7d : Kp.TwJ ⟨V0', [], Kp.obL V5 (vs4 tv tr sv sr)⟩ c1 c2 [(bh, T.enc), (bp, pl2.enc), (bz, S.enc), (bd, arr u8v D), (bw, v.enc), (bo, x.enc)] rs.2.1 rs.2.2 V5.drew := h7.ext (extends_drewN (ext_Ext (Ext.refl V5)) 1)
      have khd := (h7d.at (b := bh) (C := T.enc) (by simp)).1
      have w1 := h7d.rwt (by simp [vs4]) (by simp [vs4]) HRW.out.1
      have w2 := h7d.rwt (by simp [vs4]) (by simp [vs4]) HRW.out.2.1
      have h11 := h7d.reb hlt5
      obtain ⟨tv1, htv1⟩ : ∃ tv1 : Sl, tv1 = ⟨tv.a, kk, tv.cap⟩ := ⟨_, rfl⟩
      obtain ⟨tr1, htr1⟩ : ∃ tr1 : Sl, tr1 = ⟨tr.a, kk, tr.cap⟩ := ⟨_, rfl⟩
      have eT2 : Trail.mk ⟨tv.a, kk, tv.cap⟩ ⟨tr.a, kk, tr.cap⟩ T.begunView T.begunRoot T.begunKnown = trE (t.cut kk) tv1 tr1 := by rw [HTE.out, htv1, htr1]; rfl
      have h12 := h11.putk (C' := (Trail.mk ⟨tv.a, kk, tv.cap⟩ ⟨tr.a, kk, tr.cap⟩ T.begunView T.begunRoot T.begunKnown).enc) hnb (w1.lt w2)
      have q5 := h11.rwp (C' := (Trail.mk ⟨tv.a, kk, tv.cap⟩ ⟨tr.a, kk, tr.cap⟩ T.begunView T.begunRoot T.begunKnown).enc) hnb (by simp [vs4]) (by simp [vs4]) w1
      have q6 := h11.rwp (C' := (Trail.mk ⟨tv.a, kk, tv.cap⟩ ⟨tr.a, kk, tr.cap⟩ T.begunView T.begunRoot T.begunKnown).enc) hnb (by simp [vs4]) (by simp [vs4]) w2
      have HR9 : Hid (∃ N1, (LI (n + (X.length + 1)) N1 ∧ CI N1) ∧ Tr9 V0' bp bh bz c1 c2 pl2.enc N1 rs.2.2 (put V5.drew bh (Trail.mk ⟨tv.a, kk, tv.cap⟩ ⟨tr.a, kk, tr.cap⟩ T.begunView T.begunRoot T.begunKnown).enc)) := by
        refine ⟨rs.2.1, HH.out.1, Tr9.fin (t := t.cut kk) (s := s) (tv := tv1) (tr := tr1) (sv := sv) (sr := sr) h12 (by simp) (by rw [← eT2]; simp) (by rw [← HSE.out]; simp) (fun u hu k hk => ?_) ⟨?_, ?_⟩ q6 ?_ ?_ q1 (by rw [q2]; exact HTR.out.2)⟩
        · rw [htv1, htr1] at hu
          simp only [vs4, List.mem_cons, List.not_mem_nil, or_false] at hu
          rcases hu with rfl | rfl | rfl | rfl
          · exact ⟨.slice tv.a tv.len tv.cap, by simp [vs4], by rw [sl_own tv.a tv.len kk tv.cap tv.cap]; exact hk⟩
          · exact ⟨.slice tr.a tr.len tr.cap, by simp [vs4], by rw [sl_own tr.a tr.len kk tr.cap tr.cap]; exact hk⟩
          · exact ⟨_, by simp [vs4], hk⟩
          · exact ⟨_, by simp [vs4], hk⟩
        · rw [htv1]; exact row_sh View.length_enc q5.1 hle1
        · rw [htr1]; exact row_sh encD_len q5.2 hle2
        · rw [htv1]; exact HRW.out.2.2.1.cut _ _
        · rw [htr1]; exact HRW.out.2.2.2.cut _ _
      obtain ⟨C2, hC2⟩ : ∃ C2, C2 = (Trail.mk ⟨tv.a, kk, tv.cap⟩ ⟨tr.a, kk, tr.cap⟩ T.begunView T.begunRoot T.begunKnown).enc := ⟨_, rfl⟩
      have sp : splice (splice T.enc 0 [.slice tv.a kk tv.cap]) 1 [.slice tr.a kk tr.cap] = C2 := by rw [hC2, Trail.views_sl, Trail.roots_sl]
      have nsp : nth (splice T.enc 0 [.slice tv.a kk tv.cap]) 1 = some (.slice tr.a tr.len tr.cap) := by rw [Trail.views_sl, Trail.roots_get]; show some (Sl.val T.roots) = _; rw [hTr]; rfl
      have lsp : (splice T.enc 0 [.slice tv.a kk tv.cap]).length = 378 := by rw [Trail.views_sl]; exact Trail.length_enc _
      rw [← hC2] at HR9
      clear hC2
      clear H7 HRW h7 h7d h11 h12 q5 q6 hnb hlt5 w1 w2 eT2 htv1 htr1 hle1 hle2 hTv hTr q0 q1 q2 hk l1 l2 evl erl hd8 hlt1 hsq q34
      generalize T.enc = E at *
      go_upto_region 24 with fail
      repeat go_step
      refine wp_region_F 26 (fun W' => blk W' bh = some E) (by kernel_rfl) khd (fun hHeld => ?_)
      refine wpAnyF_take (i := 0) (oi := ⟨_, _, _, _, _, _⟩) (v := ?_) rfl (by kernel_rfl) (by kernel_rfl) (by kernel_rfl) (by kernel_rfl) (by kernel_rfl) (fun _ _ _ h => h) (Or.inl ⟨by rfl, ?_⟩) (by assumption) ?_
      rotate_left 1
      · intro W' hSw
        go_simp
        try with_reducible rfl
      try simp only [Act.put, List.setIfInBounds_toArray, List.set_cons_zero, List.set_cons_succ]
      refine wpAnyF_take (i := 1) (oi := ⟨_, _, _, _, _, _⟩) (v := ?_) rfl (by kernel_rfl) (by kernel_rfl) (by kernel_rfl) (by kernel_rfl) (by kernel_rfl) (fun _ _ _ h => h) (Or.inl ⟨by rfl, ?_⟩) (by assumption) ?_
      rotate_left 1
      · intro W' hSw
        go_simp
        try with_reducible rfl
      try simp only [Act.put, List.setIfInBounds_toArray, List.set_cons_zero, List.set_cons_succ]
      refine wpAnyF_take (i := 2) (oi := ⟨_, _, _, _, _, _⟩) (v := ?_) rfl (by kernel_rfl) (by kernel_rfl) (by kernel_rfl) (by kernel_rfl) (by kernel_rfl) (fun _ _ _ h => h) (Or.inl ⟨by rfl, ?_⟩) (by assumption) ?_
      rotate_left 1
      · intro W' hSw
        go_simp
        try with_reducible rfl
      try simp only [Act.put, List.setIfInBounds_toArray, List.set_cons_zero, List.set_cons_succ]
      refine wpAnyF_take (i := 3) (oi := ⟨_, _, _, _, _, _⟩) (v := ?_) rfl (by kernel_rfl) (by kernel_rfl) (by kernel_rfl) (by kernel_rfl) (by kernel_rfl) (fun _ _ _ h => h) (Or.inl ⟨by rfl, ?_⟩) (by assumption) ?_
      rotate_left 1
      · intro W' hSw
        go_simp
        try with_reducible rfl
      try simp only [Act.put, List.setIfInBounds_toArray, List.set_cons_zero, List.set_cons_succ]
      refine wpAnyF_take (i := 4) (oi := ⟨_, _, _, _, _, _⟩) (v := ?_) rfl (by kernel_rfl) (by kernel_rfl) (by kernel_rfl) (by kernel_rfl) (by kernel_rfl) (fun _ _ _ h => h) (Or.inl ⟨by rfl, ?_⟩) (by assumption) ?_
      rotate_left 1
      · intro W' hSw
        go_simp
        try with_reducible rfl
      try simp only [Act.put, List.setIfInBounds_toArray, List.set_cons_zero, List.set_cons_succ]
      refine wpAnyF_take (i := 5) (oi := ⟨_, _, _, _, _, _⟩) (v := ?_) rfl (by kernel_rfl) (by kernel_rfl) (by kernel_rfl) (by kernel_rfl) (by kernel_rfl) (fun _ _ _ h => h) (Or.inl ⟨by rfl, ?_⟩) (by assumption) ?_
      rotate_left 1
      · intro W' hSw
        go_simp
        try with_reducible rfl
      try simp only [Act.put, List.setIfInBounds_toArray, List.set_cons_zero, List.set_cons_succ]
      refine wpAnyF_take (i := 6) (oi := ⟨_, _, _, _, _, _⟩) (v := undef) rfl (by kernel_rfl) (by kernel_rfl) (by kernel_rfl) (by kernel_rfl) (by kernel_rfl) (fun _ _ _ h => h) (Or.inr ⟨by rfl, rfl⟩) (by assumption) ?_
      try simp only [Act.put, List.setIfInBounds_toArray, List.set_cons_zero, List.set_cons_succ]
      refine wpAnyF_take (i := 7) (oi := ⟨_, _, _, _, _, _⟩) (v := undef) rfl (by kernel_rfl) (by kernel_rfl) (by kernel_rfl) (by kernel_rfl) (by kernel_rfl) (fun _ _ _ h => h) (Or.inr ⟨by rfl, rfl⟩) (by assumption) ?_
      try simp only [Act.put, List.setIfInBounds_toArray, List.set_cons_zero, List.set_cons_succ]
      refine wpAnyF_take (i := 9) (oi := ⟨_, _, _, _, _, _⟩) (v := undef) rfl (by kernel_rfl) (by kernel_rfl) (by kernel_rfl) (by kernel_rfl) (by kernel_rfl) (fun _ _ _ h => h) (Or.inr ⟨by rfl, rfl⟩) (by assumption) ?_
      try simp only [Act.put, List.setIfInBounds_toArray, List.set_cons_zero, List.set_cons_succ]
      refine wpAnyF_take (i := 10) (oi := ⟨_, _, _, _, _, _⟩) (v := undef) rfl (by kernel_rfl) (by kernel_rfl) (by kernel_rfl) (by kernel_rfl) (by kernel_rfl) (fun _ _ _ h => h) (Or.inr ⟨by rfl, rfl⟩) (by assumption) ?_
      try simp only [Act.put, List.setIfInBounds_toArray, List.set_cons_zero, List.set_cons_succ]
      refine wpAnyF_take (i := 11) (oi := ⟨_, _, _, _, _, _⟩) (v := undef) rfl (by kernel_rfl) (by kernel_rfl) (by kernel_rfl) (by kernel_rfl) (by kernel_rfl) (fun _ _ _ h => h) (Or.inr ⟨by rfl, rfl⟩) (by assumption) ?_
      try simp only [Act.put, List.setIfInBounds_toArray, List.set_cons_zero, List.set_cons_succ]
      refine wpAnyF_take (i := 12) (oi := ⟨_, _, _, _, _, _⟩) (v := undef) rfl (by kernel_rfl) (by kernel_rfl) (by kernel_rfl) (by kernel_rfl) (by kernel_rfl) (fun _ _ _ h => h) (Or.inr ⟨by rfl, rfl⟩) (by assumption) ?_
      try simp only [Act.put, List.setIfInBounds_toArray, List.set_cons_zero, List.set_cons_succ]
      refine wpAnyF_take (i := 13) (oi := ⟨_, _, _, _, _, _⟩) (v := undef) rfl (by kernel_rfl) (by kernel_rfl) (by kernel_rfl) (by kernel_rfl) (by kernel_rfl) (fun _ _ _ h => h) (Or.inr ⟨by rfl, rfl⟩) (by assumption) ?_
      try simp only [Act.put, List.setIfInBounds_toArray, List.set_cons_zero, List.set_cons_succ]
      refine wpAnyF_take (i := 8) (oi := ⟨_, _, _, _, _, _⟩) (v := undef) rfl (by kernel_rfl) (by kernel_rfl) (by kernel_rfl) (by kernel_rfl) (by kernel_rfl) (fun _ _ _ h => h) (Or.inr ⟨by rfl, rfl⟩) (by assumption) ?_
      try simp only [Act.put, List.setIfInBounds_toArray, List.set_cons_zero, List.set_cons_succ]
      refine wpAnyF_take (i := 14) (oi := ⟨_, _, _, _, _, _⟩) (v := undef) rfl (by kernel_rfl) (by kernel_rfl) (by kernel_rfl) (by kernel_rfl) (by kernel_rfl) (fun _ _ _ h => h) (Or.inr ⟨by rfl, rfl⟩) (by assumption) ?_
      try simp only [Act.put, List.setIfInBounds_toArray, List.set_cons_zero, List.set_cons_succ]
      refine wpAnyF_take (i := 15) (oi := ⟨_, _, _, _, _, _⟩) (v := undef) rfl (by kernel_rfl) (by kernel_rfl) (by kernel_rfl) (by kernel_rfl) (by kernel_rfl) (fun _ _ _ h => h) (Or.inr ⟨by rfl, rfl⟩) (by assumption) ?_
      try simp only [Act.put, List.setIfInBounds_toArray, List.set_cons_zero, List.set_cons_succ]
      refine wpAnyF_take (i := 16) (oi := ⟨_, _, _, _, _, _⟩) (v := undef) rfl (by kernel_rfl) (by kernel_rfl) (by kernel_rfl) (by kernel_rfl) (by kernel_rfl) (fun _ _ _ h => h) (Or.inr ⟨by rfl, rfl⟩) (by assumption) ?_
      try simp only [Act.put, List.setIfInBounds_toArray, List.set_cons_zero, List.set_cons_succ]
      refine wpAnyF_take (i := 17) (oi := ⟨_, _, _, _, _, _⟩) (v := undef) rfl (by kernel_rfl) (by kernel_rfl) (by kernel_rfl) (by kernel_rfl) (by kernel_rfl) (fun _ _ _ h => h) (Or.inr ⟨by rfl, rfl⟩) (by assumption) ?_
      try simp only [Act.put, List.setIfInBounds_toArray, List.set_cons_zero, List.set_cons_succ]
      refine wpAnyF_take (i := 19) (oi := ⟨_, _, _, _, _, _⟩) (v := undef) rfl (by kernel_rfl) (by kernel_rfl) (by kernel_rfl) (by kernel_rfl) (by kernel_rfl) (fun _ _ _ h => h) (Or.inr ⟨by rfl, rfl⟩) (by assumption) ?_
      try simp only [Act.put, List.setIfInBounds_toArray, List.set_cons_zero, List.set_cons_succ]
      refine wpAnyF_take (i := 20) (oi := ⟨_, _, _, _, _, _⟩) (v := undef) rfl (by kernel_rfl) (by kernel_rfl) (by kernel_rfl) (by kernel_rfl) (by kernel_rfl) (fun _ _ _ h => h) (Or.inr ⟨by rfl, rfl⟩) (by assumption) ?_
      try simp only [Act.put, List.setIfInBounds_toArray, List.set_cons_zero, List.set_cons_succ]
      refine wpAnyF_take (i := 21) (oi := ⟨_, _, _, _, _, _⟩) (v := undef) rfl (by kernel_rfl) (by kernel_rfl) (by kernel_rfl) (by kernel_rfl) (by kernel_rfl) (fun _ _ _ h => h) (Or.inr ⟨by rfl, rfl⟩) (by assumption) ?_
      try simp only [Act.put, List.setIfInBounds_toArray, List.set_cons_zero, List.set_cons_succ]
      refine wpAnyF_take (i := 22) (oi := ⟨_, _, _, _, _, _⟩) (v := undef) rfl (by kernel_rfl) (by kernel_rfl) (by kernel_rfl) (by kernel_rfl) (by kernel_rfl) (fun _ _ _ h => h) (Or.inr ⟨by rfl, rfl⟩) (by assumption) ?_
      try simp only [Act.put, List.setIfInBounds_toArray, List.set_cons_zero, List.set_cons_succ]
      refine wpAnyF_take (i := 23) (oi := ⟨_, _, _, _, _, _⟩) (v := undef) rfl (by kernel_rfl) (by kernel_rfl) (by kernel_rfl) (by kernel_rfl) (by kernel_rfl) (fun _ _ _ h => h) (Or.inr ⟨by rfl, rfl⟩) (by assumption) ?_
      try simp only [Act.put, List.setIfInBounds_toArray, List.set_cons_zero, List.set_cons_succ]
      refine wpAnyF_take (i := 18) (oi := ⟨_, _, _, _, _, _⟩) (v := undef) rfl (by kernel_rfl) (by kernel_rfl) (by kernel_rfl) (by kernel_rfl) (by kernel_rfl) (fun _ _ _ h => h) (Or.inr ⟨by rfl, rfl⟩) (by assumption) ?_
      try simp only [Act.put, List.setIfInBounds_toArray, List.set_cons_zero, List.set_cons_succ]
      refine wpAnyF_take (i := 24) (oi := ⟨_, _, _, _, _, _⟩) (v := undef) rfl (by kernel_rfl) (by kernel_rfl) (by kernel_rfl) (by kernel_rfl) (by kernel_rfl) (fun _ _ _ h => h) (Or.inr ⟨by rfl, rfl⟩) (by assumption) ?_
      try simp only [Act.put, List.setIfInBounds_toArray, List.set_cons_zero, List.set_cons_succ]
      refine wpAnyF_take (i := 25) (oi := ⟨_, _, _, _, _, _⟩) (v := undef) rfl (by kernel_rfl) (by kernel_rfl) (by kernel_rfl) (by kernel_rfl) (by kernel_rfl) (fun _ _ _ h => h) (Or.inr ⟨by rfl, rfl⟩) (by assumption) ?_
      try simp only [Act.put, List.setIfInBounds_toArray, List.set_cons_zero, List.set_cons_succ]
      refine wpAnyF_last (o := ⟨_, _, _, _, _, _⟩) (by kernel_rfl) rfl (fun K' hK => ?_)
      go_simp
      refine hK.out _ _ ?_
      clear hK K'
      try simp only [Act.put, List.setIfInBounds_toArray, List.set_cons_zero, List.set_cons_succ]
      refine wpAnyF_done (by kernel_rfl) ?_ _
      clear hHeld
      go_wp2_with fail
      refine ⟨rfl, rfl, ?_⟩
      rw [HI42.out]
      exact ⟨⟨rfl, rfl, rfl, rfl, rfl, rfl, rfl, rfl, rfl⟩, HR9⟩
    by_cases n9 : x.kind = 9
    · have hk := n9
      have hk1 : (x.kind == 1) = false := by simp [hk]
      have hk7 : (x.kind == 7) = false := by simp [hk]
      have hk8 : (x.kind == 8) = false := by simp [hk]
      have hk23 : (x.kind == 23) = false := by simp [hk]
      have hk9 : (x.kind == 9) = true := by rw [hk]; rfl
      have h7 := H7.out
      have hlt5 := HRW.out.1.lt HRW.out.2.1
      have hnb : ∀ p ∈ [(bp, pl2.enc), (bz, S.enc), (bd, arr u8v D), (bw, v.enc), (bo, x.enc)], p.1 ≠ bh := fun p hp => by
        have := HORD.out
        have := HNE.out
        simp only [List.mem_cons, List.not_mem_nil, or_false] at hp
        rcases hp with rfl | rfl | rfl | rfl | rfl <;> (dsimp only; omega)
      have kh := (h7.at (b := bh) (C := T.enc) (by simp)).1
      have fh := (h7.at (b := bh) (C := T.enc) (by simp)).2
      have ko := (h7.at (b := bo) (C := x.enc) (by simp)).1
      have lT : T.enc.length = 378 := Trail.length_enc _
      have hTv : T.views = tv := by rw [HTE.out]; rfl
      have hTr : T.roots = tr := by rw [HTE.out]; rfl
      have nT0 : nth T.enc 0 = some (.slice tv.a tv.len tv.cap) := by rw [Trail.views_get, hTv]; rfl
      have nT1 : nth T.enc 1 = some (.slice tr.a tr.len tr.cap) := by rw [Trail.roots_get, hTr]; rfl
      have l1 : tv.len = t.vs.length := row_len View.length_enc HRW.out.1.1
      have l2 : tr.len = t.rs.length := row_len encD_len HRW.out.1.2
      have nbo : ¬ bo = bh := by have := HORD.out; omega
      obtain ⟨q0, q1, q2⟩ := tri_cm HM1.out.1 HM1.out.2.1 hk HC0.out
      obtain ⟨kk, hkk⟩ : ∃ kk, kk = M1.st.saved.length - 1 := ⟨_, rfl⟩
      rw [← hkk] at q1
      have evl := HM1.out.1.vl
      have erl := HM1.out.1.rl
      have hle1 : kk ≤ tv.len := by omega
      have hle2 : kk ≤ tr.len := by omega
      have hd8 := HM1.out.2.1.1.dep
      have ek1 : (tv.len : Int) - 1 = ((kk : Nat) : Int) := by omega
      have ek2 : (tr.len : Int) - 1 = ((kk : Nat) : Int) := by omega
      have ew1 : wrap64 ((tv.len : Int) - 1) = ((kk : Nat) : Int) := by rw [ek1]; unfold wrap64; omega
      have ew2 : wrap64 ((tr.len : Int) - 1) = ((kk : Nat) : Int) := by rw [ek2]; unfold wrap64; omega
      rw [← HRS.out] at q1 q2
      have sl1 : ∀ w, (sliceOp 122 (.slice tv.a tv.len tv.cap) none (some (.int .i64 (kk : Int))) none).run Tryz.prog w = .ok (.value (.slice tv.a kk tv.cap)) w := fun w => slice_hiI und122 (by kernel_rfl) w _ _ _ _ (by have := row_cap HRW.out.1.1; omega)
      have sl2 : ∀ w, (sliceOp 123 (.slice tr.a tr.len tr.cap) none (some (.int .i64 (kk : Int))) none).run Tryz.prog w = .ok (.value (.slice tr.a kk tr.cap)) w := fun w => slice_hiI und123 (by kernel_rfl) w _ _ _ _ (by have := row_cap HRW.out.1.2; omega)
      obtain ⟨tv1, htv1⟩ : ∃ tv1 : Sl, tv1 = ⟨tv.a, kk, tv.cap⟩ := ⟨_, rfl⟩
      obtain ⟨tr1, htr1⟩ : ∃ tr1 : Sl, tr1 = ⟨tr.a, kk, tr.cap⟩ := ⟨_, rfl⟩
      have eT2 : Trail.mk ⟨tv.a, kk, tv.cap⟩ ⟨tr.a, kk, tr.cap⟩ T.begunView T.begunRoot T.begunKnown = trE (t.cut kk) tv1 tr1 := by rw [HTE.out, htv1, htr1]; rfl
      have h9 := h7.putk (C' := (Trail.mk ⟨tv.a, kk, tv.cap⟩ ⟨tr.a, kk, tr.cap⟩ T.begunView T.begunRoot T.begunKnown).enc) hnb hlt5
      have q5 := h7.rwp (C' := (Trail.mk ⟨tv.a, kk, tv.cap⟩ ⟨tr.a, kk, tr.cap⟩ T.begunView T.begunRoot T.begunKnown).enc) hnb (by simp [vs4]) (by simp [vs4]) HRW.out.1
      have q6 := h7.rwp (C' := (Trail.mk ⟨tv.a, kk, tv.cap⟩ ⟨tr.a, kk, tr.cap⟩ T.begunView T.begunRoot T.begunKnown).enc) hnb (by simp [vs4]) (by simp [vs4]) HRW.out.2.1
      have HR9 : Hid (∃ N1, (LI (n + (X.length + 1)) N1 ∧ CI N1) ∧ Tr9 V0' bp bh bz c1 c2 pl2.enc N1 rs.2.2 (put V5 bh (Trail.mk ⟨tv.a, kk, tv.cap⟩ ⟨tr.a, kk, tr.cap⟩ T.begunView T.begunRoot T.begunKnown).enc)) := by
        refine ⟨rs.2.1, HH.out.1, Tr9.fin (t := t.cut kk) (s := s) (tv := tv1) (tr := tr1) (sv := sv) (sr := sr) h9 (by simp) (by rw [← eT2]; simp) (by rw [← HSE.out]; simp) (fun u hu k hk => ?_) ⟨?_, ?_⟩ q6 ?_ ?_ q1 (by rw [q2]; exact HTR.out.2)⟩
        · rw [htv1, htr1] at hu
          simp only [vs4, List.mem_cons, List.not_mem_nil, or_false] at hu
          rcases hu with rfl | rfl | rfl | rfl
          · exact ⟨.slice tv.a tv.len tv.cap, by simp [vs4], by rw [sl_own tv.a tv.len kk tv.cap tv.cap]; exact hk⟩
          · exact ⟨.slice tr.a tr.len tr.cap, by simp [vs4], by rw [sl_own tr.a tr.len kk tr.cap tr.cap]; exact hk⟩
          · exact ⟨_, by simp [vs4], hk⟩
          · exact ⟨_, by simp [vs4], hk⟩
        · rw [htv1]; exact row_sh View.length_enc q5.1 hle1
        · rw [htr1]; exact row_sh encD_len q5.2 hle2
        · rw [htv1]; exact HRW.out.2.2.1.cut _ _
        · rw [htr1]; exact HRW.out.2.2.2.cut _ _
      obtain ⟨C2, hC2⟩ : ∃ C2, C2 = (Trail.mk ⟨tv.a, kk, tv.cap⟩ ⟨tr.a, kk, tr.cap⟩ T.begunView T.begunRoot T.begunKnown).enc := ⟨_, rfl⟩
      have sp : splice (splice T.enc 0 [.slice tv.a kk tv.cap]) 1 [.slice tr.a kk tr.cap] = C2 := by rw [hC2, Trail.views_sl, Trail.roots_sl]
      have nsp : nth (splice T.enc 0 [.slice tv.a kk tv.cap]) 1 = some (.slice tr.a tr.len tr.cap) := by rw [Trail.views_sl, Trail.roots_get]; show some (Sl.val T.roots) = _; rw [hTr]; rfl
      have lsp : (splice T.enc 0 [.slice tv.a kk tv.cap]).length = 378 := by rw [Trail.views_sl]; exact Trail.length_enc _
      rw [← hC2] at HR9
      clear hC2
      clear H7 HRW h7 h9 q5 q6 hnb hlt5 hk q0 q1 q2 eT2 htv1 htr1 evl erl hle1 hle2 l1 l2 hTv hTr hkk ek1 ek2 hd8
      generalize T.enc = E at *
      go_wp2_with fail
      refine ⟨rfl, rfl, ?_⟩
      rw [HI42.out]
      exact ⟨⟨rfl, rfl, rfl, rfl, rfl, rfl, rfl, rfl, rfl⟩, HR9⟩
    by_cases n24 : x.kind = 24
    · have hk := n24
      have hk1 : (x.kind == 1) = false := by simp [hk]
      have hk7 : (x.kind == 7) = false := by simp [hk]
      have hk8 : (x.kind == 8) = false := by simp [hk]
      have hk23 : (x.kind == 23) = false := by simp [hk]
      have hk9 : (x.kind == 9) = false := by simp [hk]
      have hk24 : (x.kind == 24) = true := by rw [hk]; rfl
      have h7 := H7.out
      have hlt5 := HRW.out.1.lt HRW.out.2.1
      have hnb : ∀ p ∈ [(bp, pl2.enc), (bz, S.enc), (bd, arr u8v D), (bw, v.enc), (bo, x.enc)], p.1 ≠ bh := fun p hp => by
        have := HORD.out
        have := HNE.out
        simp only [List.mem_cons, List.not_mem_nil, or_false] at hp
        rcases hp with rfl | rfl | rfl | rfl | rfl <;> (dsimp only; omega)
      have kh := (h7.at (b := bh) (C := T.enc) (by simp)).1
      have fh := (h7.at (b := bh) (C := T.enc) (by simp)).2
      have ko := (h7.at (b := bo) (C := x.enc) (by simp)).1
      have lT : T.enc.length = 378 := Trail.length_enc _
      have hTv : T.views = tv := by rw [HTE.out]; rfl
      have hTr : T.roots = tr := by rw [HTE.out]; rfl
      have nT0 : nth T.enc 0 = some (.slice tv.a tv.len tv.cap) := by rw [Trail.views_get, hTv]; rfl
      have nT1 : nth T.enc 1 = some (.slice tr.a tr.len tr.cap) := by rw [Trail.roots_get, hTr]; rfl
      have l1 : tv.len = t.vs.length := row_len View.length_enc HRW.out.1.1
      have l2 : tr.len = t.rs.length := row_len encD_len HRW.out.1.2
      have nbo : ¬ bo = bh := by have := HORD.out; omega
      obtain ⟨kk, hsq, q0, q1, q2⟩ := tri_cmTo HM1.out.1 HM1.out.2.1 hk HC0.out
      have evl := HM1.out.1.vl
      have erl := HM1.out.1.rl
      have hle1 : kk ≤ tv.len := by omega
      have hle2 : kk ≤ tr.len := by omega
      have hxs : x.seq.toNat = kk := by
        have hd := HM1.out.2.1.1.dep
        unfold sqI w64 at hsq
        rw [IntKind.wrap_i64] at hsq
        have := x.seq.toNat_lt
        omega
      rw [← HRS.out] at q1 q2
      have sl1 : ∀ w, (sliceOp 122 (.slice tv.a tv.len tv.cap) none (some (.int .u64 (w64 x.seq))) none).run Tryz.prog w = .ok (.value (.slice tv.a kk tv.cap)) w := fun w => by rw [← hxs]; exact slice_hiU und122 (by kernel_rfl) w _ _ _ _ (by have := row_cap HRW.out.1.1; omega)
      have sl2 : ∀ w, (sliceOp 123 (.slice tr.a tr.len tr.cap) none (some (.int .u64 (w64 x.seq))) none).run Tryz.prog w = .ok (.value (.slice tr.a kk tr.cap)) w := fun w => by rw [← hxs]; exact slice_hiU und123 (by kernel_rfl) w _ _ _ _ (by have := row_cap HRW.out.1.2; omega)
      obtain ⟨tv1, htv1⟩ : ∃ tv1 : Sl, tv1 = ⟨tv.a, kk, tv.cap⟩ := ⟨_, rfl⟩
      obtain ⟨tr1, htr1⟩ : ∃ tr1 : Sl, tr1 = ⟨tr.a, kk, tr.cap⟩ := ⟨_, rfl⟩
      have eT2 : Trail.mk ⟨tv.a, kk, tv.cap⟩ ⟨tr.a, kk, tr.cap⟩ T.begunView T.begunRoot T.begunKnown = trE (t.cut kk) tv1 tr1 := by rw [HTE.out, htv1, htr1]; rfl
      have h9 := h7.putk (C' := (Trail.mk ⟨tv.a, kk, tv.cap⟩ ⟨tr.a, kk, tr.cap⟩ T.begunView T.begunRoot T.begunKnown).enc) hnb hlt5
      have q5 := h7.rwp (C' := (Trail.mk ⟨tv.a, kk, tv.cap⟩ ⟨tr.a, kk, tr.cap⟩ T.begunView T.begunRoot T.begunKnown).enc) hnb (by simp [vs4]) (by simp [vs4]) HRW.out.1
      have q6 := h7.rwp (C' := (Trail.mk ⟨tv.a, kk, tv.cap⟩ ⟨tr.a, kk, tr.cap⟩ T.begunView T.begunRoot T.begunKnown).enc) hnb (by simp [vs4]) (by simp [vs4]) HRW.out.2.1
      have HR9 : Hid (∃ N1, (LI (n + (X.length + 1)) N1 ∧ CI N1) ∧ Tr9 V0' bp bh bz c1 c2 pl2.enc N1 rs.2.2 (put V5 bh (Trail.mk ⟨tv.a, kk, tv.cap⟩ ⟨tr.a, kk, tr.cap⟩ T.begunView T.begunRoot T.begunKnown).enc)) := by
        refine ⟨rs.2.1, HH.out.1, Tr9.fin (t := t.cut kk) (s := s) (tv := tv1) (tr := tr1) (sv := sv) (sr := sr) h9 (by simp) (by rw [← eT2]; simp) (by rw [← HSE.out]; simp) (fun u hu k hk => ?_) ⟨?_, ?_⟩ q6 ?_ ?_ q1 (by rw [q2]; exact HTR.out.2)⟩
        · rw [htv1, htr1] at hu
          simp only [vs4, List.mem_cons, List.not_mem_nil, or_false] at hu
          rcases hu with rfl | rfl | rfl | rfl
          · exact ⟨.slice tv.a tv.len tv.cap, by simp [vs4], by rw [sl_own tv.a tv.len kk tv.cap tv.cap]; exact hk⟩
          · exact ⟨.slice tr.a tr.len tr.cap, by simp [vs4], by rw [sl_own tr.a tr.len kk tr.cap tr.cap]; exact hk⟩
          · exact ⟨_, by simp [vs4], hk⟩
          · exact ⟨_, by simp [vs4], hk⟩
        · rw [htv1]; exact row_sh View.length_enc q5.1 hle1
        · rw [htr1]; exact row_sh encD_len q5.2 hle2
        · rw [htv1]; exact HRW.out.2.2.1.cut _ _
        · rw [htr1]; exact HRW.out.2.2.2.cut _ _
      obtain ⟨C2, hC2⟩ : ∃ C2, C2 = (Trail.mk ⟨tv.a, kk, tv.cap⟩ ⟨tr.a, kk, tr.cap⟩ T.begunView T.begunRoot T.begunKnown).enc := ⟨_, rfl⟩
      have sp : splice (splice T.enc 0 [.slice tv.a kk tv.cap]) 1 [.slice tr.a kk tr.cap] = C2 := by rw [hC2, Trail.views_sl, Trail.roots_sl]
      have nsp : nth (splice T.enc 0 [.slice tv.a kk tv.cap]) 1 = some (.slice tr.a tr.len tr.cap) := by rw [Trail.views_sl, Trail.roots_get]; show some (Sl.val T.roots) = _; rw [hTr]; rfl
      have lsp : (splice T.enc 0 [.slice tv.a kk tv.cap]).length = 378 := by rw [Trail.views_sl]; exact Trail.length_enc _
      rw [← hC2] at HR9
      clear hC2
      clear H7 HRW h7 h9 q5 q6 hnb hlt5 hk q0 q1 q2 eT2 htv1 htr1 evl erl hle1 hle2 l1 l2 hTv hTr hsq hxs
      generalize T.enc = E at *
      go_wp2_with fail
      refine ⟨rfl, rfl, ?_⟩
      rw [HI42.out]
      exact ⟨⟨rfl, rfl, rfl, rfl, rfl, rfl, rfl, rfl, rfl⟩, HR9⟩
    by_cases n27 : x.kind = 27
    · have hk := n27
      have hk1 : (x.kind == 1) = false := by simp [hk]
      have hk7 : (x.kind == 7) = false := by simp [hk]
      have hk8 : (x.kind == 8) = false := by simp [hk]
      have hk23 : (x.kind == 23) = false := by simp [hk]
      have hk9 : (x.kind == 9) = false := by simp [hk]
      have hk24 : (x.kind == 24) = false := by simp [hk]
      have hk27 : (x.kind == 27) = true := by rw [hk]; rfl
      have h7 := H7.out
      have hlt5 := HRW.out.1.lt HRW.out.2.1
      have hnb : ∀ p ∈ [(bp, pl2.enc), (bz, S.enc), (bd, arr u8v D), (bw, v.enc), (bo, x.enc)], p.1 ≠ bh := fun p hp => by
        have := HORD.out
        have := HNE.out
        simp only [List.mem_cons, List.not_mem_nil, or_false] at hp
        rcases hp with rfl | rfl | rfl | rfl | rfl <;> (dsimp only; omega)
      have kh := (h7.at (b := bh) (C := T.enc) (by simp)).1
      have fh := (h7.at (b := bh) (C := T.enc) (by simp)).2
      have ko := (h7.at (b := bo) (C := x.enc) (by simp)).1
      have lT : T.enc.length = 378 := Trail.length_enc _
      have hTv : T.views = tv := by rw [HTE.out]; rfl
      have hTr : T.roots = tr := by rw [HTE.out]; rfl
      have nT0 : nth T.enc 0 = some (.slice tv.a tv.len tv.cap) := by rw [Trail.views_get, hTv]; rfl
      have nT1 : nth T.enc 1 = some (.slice tr.a tr.len tr.cap) := by rw [Trail.roots_get, hTr]; rfl
      have l1 : tv.len = t.vs.length := row_len View.length_enc HRW.out.1.1
      have l2 : tr.len = t.rs.length := row_len encD_len HRW.out.1.2
      have nbo : ¬ bo = bh := by have := HORD.out; omega
      obtain ⟨q1, q2, q3, q4, q5⟩ := tri_ab HM1.out.1 HM1.out.2.1 (by rw [← HRS.out]; exact HH.out.1.2) hk HC0.out
      rw [← HRS.out] at q2 q3 q4 q5
      obtain ⟨vw, hvw⟩ : ∃ vw, vw = viewF rs.2.1 := ⟨_, rfl⟩
      obtain ⟨D0, hD0⟩ : ∃ D0, D0 = rootD rs.2.1.st := ⟨_, rfl⟩
      have hb4 : nth T.enc 377 = some (.bool true) := by rw [Trail.begunKnown_get, HTE.out]; show some (Value.bool t.bk) = _; rw [q1]
      have hb2 : seg T.enc 2 343 = vw.enc := by rw [Trail.begunView_get, HTE.out, hvw, ← q2]; rfl
      have hb3 : seg T.enc 345 32 = arr u8v D0 := by rw [Trail.begunRoot_get, HTE.out, hD0, ← q3]; rfl
      have hokv : okView vw := by rw [hvw]; exact viewF_ok _ HH.out.1.1.dep
      have hVV : ∀ w X Y, (cmpNe 61 X Y (.agg vw.enc.toArray) (.agg vw.enc.toArray)).run Tryz.prog w = .ok (.value (.bool false)) w := fun w X Y => by rw [neq61 w X Y vw vw hokv hokv, eqA_self]; rfl
      have hDD : ∀ w X Y, (cmpNe 47 X Y (.agg (arr u8v D0).toArray) (.agg (arr u8v D0).toArray)).run Tryz.prog w = .ok (.value (.bool false)) w := fun w X Y => by rw [neq47, eqA_self]; rfl
      have HQ4 : Hid (TrI ptz rs.2.1 ∧ rs.2.2 = L2) := ⟨q4, q5⟩
      have h7d := h7.ext (extends_drewN (ext_Ext (Ext.refl V5)) 1)
      have hph : nth pl2.enc 0 = some (.pointer (some ⟨c1, 0, none⟩)) := by rw [HPL2.out]; exact Player.hand_get _
      have lpl : pl2.enc.length = 2 := Player.length_enc _
      have kpd := (h7d.at (b := bp) (C := pl2.enc) (by simp)).1
      have khd := (h7d.at (b := bh) (C := T.enc) (by simp)).1
      have hv1 := h7d.view
      rw [← hvw] at hv1
      have HD0 := hid_of hD0
      clear q1 q2 q3 q4 q5 hvw hD0 hokv h7 hlt5 hk nT0 nT1 hTv hTr l1 l2 hnb kh fh ko
      go_upto_region 35 with fail
      repeat go_step
      refine wp_region_F 18 (fun W' => blk W' bp = some pl2.enc ∧ blk W' bh = some T.enc) (by kernel_rfl) ⟨kpd, khd⟩ (fun hHeld => ?_)
      refine wpAnyF_take (i := 0) (oi := ⟨_, _, _, _, _, _⟩) (v := ?_) rfl (by kernel_rfl) (by kernel_rfl) (by kernel_rfl) (by kernel_rfl) (by kernel_rfl) (fun _ _ _ h => h) (Or.inl ⟨by rfl, ?_⟩) (by assumption) ?_
      rotate_left 1
      · intro W' hSw
        obtain ⟨hS1, hS2⟩ := hSw
        go_simp
        try with_reducible rfl
      try simp only [Act.put, List.setIfInBounds_toArray, List.set_cons_zero, List.set_cons_succ]
      refine wpAnyF_take (i := 1) (oi := ⟨_, _, _, _, _, _⟩) (v := ?_) rfl (by kernel_rfl) (by kernel_rfl) (by kernel_rfl) (by kernel_rfl) (by kernel_rfl) (fun _ _ _ h => h) (Or.inl ⟨by rfl, ?_⟩) (by assumption) ?_
      rotate_left 1
      · intro W' hSw
        obtain ⟨hS1, hS2⟩ := hSw
        go_simp
        try with_reducible rfl
      try simp only [Act.put, List.setIfInBounds_toArray, List.set_cons_zero, List.set_cons_succ]
      refine wpAnyF_take (i := 2) (oi := ⟨_, _, _, _, _, _⟩) (v := ?_) rfl (by kernel_rfl) (by kernel_rfl) (by kernel_rfl) (by kernel_rfl) (by kernel_rfl) (fun _ _ _ h => h) (Or.inl ⟨by rfl, ?_⟩) (by assumption) ?_
      rotate_left 1
      · intro W' hSw
        obtain ⟨hS1, hS2⟩ := hSw
        go_simp
        try with_reducible rfl
      try simp only [Act.put, List.setIfInBounds_toArray, List.set_cons_zero, List.set_cons_succ]
      refine wpAnyF_take (i := 3) (oi := ⟨_, _, _, _, _, _⟩) (v := ?_) rfl (by kernel_rfl) (by kernel_rfl) (by kernel_rfl) (by kernel_rfl) (by kernel_rfl) (fun _ _ _ h => h) (Or.inl ⟨by rfl, ?_⟩) (by assumption) ?_
      rotate_left 1
      · intro W' hSw
        obtain ⟨hS1, hS2⟩ := hSw
        go_simp
        try with_reducible rfl
      try simp only [Act.put, List.setIfInBounds_toArray, List.set_cons_zero, List.set_cons_succ]
      refine wpAnyF_take (i := 4) (oi := ⟨_, _, _, _, _, _⟩) (v := ?_) rfl (by kernel_rfl) (by kernel_rfl) (by kernel_rfl) (by kernel_rfl) (by kernel_rfl) (fun _ _ _ h => h) (Or.inl ⟨by rfl, ?_⟩) (by assumption) ?_
      rotate_left 1
      · intro W' hSw
        obtain ⟨hS1, hS2⟩ := hSw
        go_simp
        try with_reducible rfl
      try simp only [Act.put, List.setIfInBounds_toArray, List.set_cons_zero, List.set_cons_succ]
      refine wpAnyF_take (i := 5) (oi := ⟨_, _, _, _, _, _⟩) (v := ?_) rfl (by kernel_rfl) (by kernel_rfl) (by kernel_rfl) (by kernel_rfl) (by kernel_rfl) (fun _ _ _ h => h) (Or.inl ⟨by rfl, ?_⟩) (by assumption) ?_
      rotate_left 1
      · intro W' hSw
        obtain ⟨hS1, hS2⟩ := hSw
        go_simp
        try with_reducible rfl
      try simp only [Act.put, List.setIfInBounds_toArray, List.set_cons_zero, List.set_cons_succ]
      refine wpAnyF_take (i := 7) (oi := ⟨_, _, _, _, _, _⟩) (v := ?_) rfl (by kernel_rfl) (by kernel_rfl) (by kernel_rfl) (by kernel_rfl) (by kernel_rfl) (fun _ _ _ h => h) (Or.inl ⟨by rfl, ?_⟩) (by assumption) ?_
      rotate_left 1
      · intro W' hSw
        obtain ⟨hS1, hS2⟩ := hSw
        go_simp
        try with_reducible rfl
      try simp only [Act.put, List.setIfInBounds_toArray, List.set_cons_zero, List.set_cons_succ]
      refine wpAnyF_take (i := 8) (oi := ⟨_, _, _, _, _, _⟩) (v := ?_) rfl (by kernel_rfl) (by kernel_rfl) (by kernel_rfl) (by kernel_rfl) (by kernel_rfl) (fun _ _ _ h => h) (Or.inl ⟨by rfl, ?_⟩) (by assumption) ?_
      rotate_left 1
      · intro W' hSw
        obtain ⟨hS1, hS2⟩ := hSw
        go_simp
        try with_reducible rfl
      try simp only [Act.put, List.setIfInBounds_toArray, List.set_cons_zero, List.set_cons_succ]
      refine wpAnyF_one (o := ⟨_, _, _, _, _, _⟩) (i := 6) (by kernel_rfl) rfl rfl (fun K' hK => ?_)
      go_simp
      refine hv1.mono ?_
      clear hv1
      rintro e V6 ⟨rfl, hx6⟩
      dsimp only
      have h8 := h7d.ext hx6
      clear hx6
      have kp8 := (h8.at (b := bp) (C := pl2.enc) (by simp)).1
      have kh8 := (h8.at (b := bh) (C := T.enc) (by simp)).1
      refine hK.out _ _ ⟨kp8, kh8⟩ (fun hHeld => ?_)
      clear hK K'
      try simp only [Act.put, List.setIfInBounds_toArray, List.set_cons_zero, List.set_cons_succ]
      have hrt := h8.root
      rw [← HD0.out] at hrt
      refine wpAnyF_take (i := 9) (oi := ⟨_, _, _, _, _, _⟩) (v := ?_) rfl (by kernel_rfl) (by kernel_rfl) (by kernel_rfl) (by kernel_rfl) (by kernel_rfl) (fun _ _ _ h => h) (Or.inl ⟨by rfl, ?_⟩) (by assumption) ?_
      rotate_left 1
      · intro W' hSw
        obtain ⟨hS1, hS2⟩ := hSw
        go_simp
        try with_reducible rfl
      try simp only [Act.put, List.setIfInBounds_toArray, List.set_cons_zero, List.set_cons_succ]
      refine wpAnyF_take (i := 10) (oi := ⟨_, _, _, _, _, _⟩) (v := ?_) rfl (by kernel_rfl) (by kernel_rfl) (by kernel_rfl) (by kernel_rfl) (by kernel_rfl) (fun _ _ _ h => h) (Or.inl ⟨by rfl, ?_⟩) (by assumption) ?_
      rotate_left 1
      · intro W' hSw
        obtain ⟨hS1, hS2⟩ := hSw
        go_simp
        try with_reducible rfl
      try simp only [Act.put, List.setIfInBounds_toArray, List.set_cons_zero, List.set_cons_succ]
      refine wpAnyF_take (i := 11) (oi := ⟨_, _, _, _, _, _⟩) (v := ?_) rfl (by kernel_rfl) (by kernel_rfl) (by kernel_rfl) (by kernel_rfl) (by kernel_rfl) (fun _ _ _ h => h) (Or.inl ⟨by rfl, ?_⟩) (by assumption) ?_
      rotate_left 1
      · intro W' hSw
        obtain ⟨hS1, hS2⟩ := hSw
        go_simp
        try with_reducible rfl
      try simp only [Act.put, List.setIfInBounds_toArray, List.set_cons_zero, List.set_cons_succ]
      refine wpAnyF_take (i := 12) (oi := ⟨_, _, _, _, _, _⟩) (v := ?_) rfl (by kernel_rfl) (by kernel_rfl) (by kernel_rfl) (by kernel_rfl) (by kernel_rfl) (fun _ _ _ h => h) (Or.inl ⟨by rfl, ?_⟩) (by assumption) ?_
      rotate_left 1
      · intro W' hSw
        obtain ⟨hS1, hS2⟩ := hSw
        go_simp
        try with_reducible rfl
      try simp only [Act.put, List.setIfInBounds_toArray, List.set_cons_zero, List.set_cons_succ]
      refine wpAnyF_take (i := 13) (oi := ⟨_, _, _, _, _, _⟩) (v := ?_) rfl (by kernel_rfl) (by kernel_rfl) (by kernel_rfl) (by kernel_rfl) (by kernel_rfl) (fun _ _ _ h => h) (Or.inl ⟨by rfl, ?_⟩) (by assumption) ?_
      rotate_left 1
      · intro W' hSw
        obtain ⟨hS1, hS2⟩ := hSw
        go_simp
        try with_reducible rfl
      try simp only [Act.put, List.setIfInBounds_toArray, List.set_cons_zero, List.set_cons_succ]
      refine wpAnyF_take (i := 15) (oi := ⟨_, _, _, _, _, _⟩) (v := ?_) rfl (by kernel_rfl) (by kernel_rfl) (by kernel_rfl) (by kernel_rfl) (by kernel_rfl) (fun _ _ _ h => h) (Or.inl ⟨by rfl, ?_⟩) (by assumption) ?_
      rotate_left 1
      · intro W' hSw
        obtain ⟨hS1, hS2⟩ := hSw
        go_simp
        try with_reducible rfl
      try simp only [Act.put, List.setIfInBounds_toArray, List.set_cons_zero, List.set_cons_succ]
      refine wpAnyF_take (i := 16) (oi := ⟨_, _, _, _, _, _⟩) (v := ?_) rfl (by kernel_rfl) (by kernel_rfl) (by kernel_rfl) (by kernel_rfl) (by kernel_rfl) (fun _ _ _ h => h) (Or.inl ⟨by rfl, ?_⟩) (by assumption) ?_
      rotate_left 1
      · intro W' hSw
        obtain ⟨hS1, hS2⟩ := hSw
        go_simp
        try with_reducible rfl
      try simp only [Act.put, List.setIfInBounds_toArray, List.set_cons_zero, List.set_cons_succ]
      refine wpAnyF_one (o := ⟨_, _, _, _, _, _⟩) (i := 14) (by kernel_rfl) rfl rfl (fun K' hK => ?_)
      go_simp
      refine hrt.mono ?_
      clear hrt
      rintro e V7 ⟨rfl, h9⟩
      dsimp only
      have kp9 := (h9.at (b := bp) (C := pl2.enc) (by simp)).1
      have kh9 := (h9.at (b := bh) (C := T.enc) (by simp)).1
      refine hK.out _ _ ⟨kp9, kh9⟩ (fun hHeld => ?_)
      clear hK K'
      try simp only [Act.put, List.setIfInBounds_toArray, List.set_cons_zero, List.set_cons_succ]
      refine wpAnyF_take (i := 17) (oi := ⟨_, _, _, _, _, _⟩) (v := ?_) rfl (by kernel_rfl) (by kernel_rfl) (by kernel_rfl) (by kernel_rfl) (by kernel_rfl) (fun _ _ _ h => h) (Or.inl ⟨by rfl, ?_⟩) (by assumption) ?_
      rotate_left 1
      · intro W' hSw
        obtain ⟨hS1, hS2⟩ := hSw
        go_simp
        try with_reducible rfl
      try simp only [Act.put, List.setIfInBounds_toArray, List.set_cons_zero, List.set_cons_succ]
      refine wpAnyF_last (o := ⟨_, _, _, _, _, _⟩) (by kernel_rfl) rfl (fun K' hK => ?_)
      go_simp
      refine hK.out _ _ ?_
      clear hK K'
      try simp only [Act.put, List.setIfInBounds_toArray, List.set_cons_zero, List.set_cons_succ]
      refine wpAnyF_done (by kernel_rfl) ?_ _
      clear hHeld h7d kpd khd h8 kp8 kh8 hVV hDD hb2 hb3 hb4
      have fh9 := (h9.at (b := bh) (C := T.enc) (by simp)).2
      have hnb : ∀ p ∈ [(bp, pl2.enc), (bz, S.enc), (bd, arr u8v D), (bw, v.enc), (bo, x.enc)], p.1 ≠ bh := fun p hp => by
        have := HORD.out
        have := HNE.out
        simp only [List.mem_cons, List.not_mem_nil, or_false] at hp
        rcases hp with rfl | rfl | rfl | rfl | rfl <;> (dsimp only; omega)
      have hlt5 := HRW.out.1.lt HRW.out.2.1
      have w1 := h9.rwt (by simp [vs4]) (by simp [vs4]) HRW.out.1
      have w2 := h9.rwt (by simp [vs4]) (by simp [vs4]) HRW.out.2.1
      have h10 := (h9.reb hlt5).putk (C' := Trail.zero.enc) hnb (w1.lt w2)
      have q4 := (h9.reb hlt5).rwp (C' := Trail.zero.enc) hnb (by simp [vs4]) (by simp [vs4]) w2
      have lz : Trail.zero.enc.length = 378 := Trail.length_enc _
      have HR9 : Hid (∃ N1, (LI (n + (X.length + 1)) N1 ∧ CI N1) ∧ Tr9 V0' bp bh bz c1 c2 pl2.enc N1 rs.2.2 (put V7 bh Trail.zero.enc)) := by
        have hl := LI.rot HH.out.1 (by have := HN.out.2; omega)
        exact ⟨rotL rs.2.1, hl, Tr9.fin (t := ptz) (s := s) (tv := ⟨none, 0, 0⟩) (tr := ⟨none, 0, 0⟩) (sv := sv) (sr := sr) h10 (by simp) (by rw [trz]; simp) (by rw [← HSE.out]; simp) (fun u hu k hk => by
          simp only [vs4, List.mem_cons, List.not_mem_nil, or_false] at hu
          rcases hu with rfl | rfl | rfl | rfl
          · cases hk
          · cases hk
          · exact ⟨_, by simp [vs4], hk⟩
          · exact ⟨_, by simp [vs4], hk⟩) (RwT.nil _ _) q4 (Dj.nil _) (Dj.nil _) HQ4.out.1.rot (by rw [HQ4.out.2]; exact HTR.out.2)⟩
      clear H7 HRW h9 h10 q4 w1 w2 hnb hlt5 kp9
      go_wp2_with fail
      refine ⟨rfl, rfl, ?_⟩
      rw [HI42.out]
      exact ⟨⟨rfl, rfl, rfl, rfl, rfl, rfl, rfl, rfl, rfl⟩, HR9⟩
    by_cases n15 : x.kind = 15
    · have hk := n15
      have hk1 : (x.kind == 1) = false := by simp [hk]
      have hk7 : (x.kind == 7) = false := by simp [hk]
      have hk8 : (x.kind == 8) = false := by simp [hk]
      have hk23 : (x.kind == 23) = false := by simp [hk]
      have hk9 : (x.kind == 9) = false := by simp [hk]
      have hk24 : (x.kind == 24) = false := by simp [hk]
      have hk27 : (x.kind == 27) = false := by simp [hk]
      have hk15 : (x.kind == 15) = true := by rw [hk]; rfl
      have h7 := H7.out
      have hlt5 := HRW.out.1.lt HRW.out.2.1
      have hnb : ∀ p ∈ [(bp, pl2.enc), (bz, S.enc), (bd, arr u8v D), (bw, v.enc), (bo, x.enc)], p.1 ≠ bh := fun p hp => by
        have := HORD.out
        have := HNE.out
        simp only [List.mem_cons, List.not_mem_nil, or_false] at hp
        rcases hp with rfl | rfl | rfl | rfl | rfl <;> (dsimp only; omega)
      have kh := (h7.at (b := bh) (C := T.enc) (by simp)).1
      have fh := (h7.at (b := bh) (C := T.enc) (by simp)).2
      have ko := (h7.at (b := bo) (C := x.enc) (by simp)).1
      have lT : T.enc.length = 378 := Trail.length_enc _
      have hTv : T.views = tv := by rw [HTE.out]; rfl
      have hTr : T.roots = tr := by rw [HTE.out]; rfl
      have nT0 : nth T.enc 0 = some (.slice tv.a tv.len tv.cap) := by rw [Trail.views_get, hTv]; rfl
      have nT1 : nth T.enc 1 = some (.slice tr.a tr.len tr.cap) := by rw [Trail.roots_get, hTr]; rfl
      have l1 : tv.len = t.vs.length := row_len View.length_enc HRW.out.1.1
      have l2 : tr.len = t.rs.length := row_len encD_len HRW.out.1.2
      have nbo : ¬ bo = bh := by have := HORD.out; omega
      have hcp := trailCopy_any V5 bh T t.vs t.rs kh (by rw [hTv]; exact (rw_own View.length_enc HRW.out.1.1).1) (by rw [hTr]; exact (rw_own encD_len HRW.out.1.2).1) (by have h1 := HM1.out.1.vl; have h2 := HM1.out.1.rl; have h3 := HM1.out.2.1.1.dep; omega)
      have e : stpF M1 L2 x X = (pz, M1, cloL M1) := by unfold stpF; rw [if_pos hk]
      have e1 : rs.2.1 = M1 := by rw [HRS.out, e]
      have e2 : rs.2.2 = cloL M1 := by rw [HRS.out, e]
      have HI : Hid (TrI t rs.2.1 ∧ TrI t rs.2.2) := by
        rw [e1, e2]
        exact ⟨HM1.out.1, HM1.out.1.same rfl rfl rfl rfl rfl rfl⟩
      clear e e1 e2
      have kz := (h7.at (b := bz) (C := S.enc) (by simp)).1
      go_wp2_with fail
      refine hcp.mono ?_
      clear hcp
      rintro e V6 ⟨a6, n6, c6, a7, n7', c7, rfl, hov, hor⟩
      dsimp only
      obtain ⟨T2, hT2⟩ : ∃ T2 : Trail, T2 = { T with views := ⟨a6, n6, c6⟩, roots := ⟨a7, n7', c7⟩ } := ⟨_, rfl⟩
      have eT2 : T2 = trE t ⟨a6, n6, c6⟩ ⟨a7, n7', c7⟩ := by rw [hT2, HTE.out]; rfl
      have h8 := h7.reb2 hov.2.1 (vs' := vs4 tv tr ⟨a6, n6, c6⟩ ⟨a7, n7', c7⟩) (fun u hu k hk => by
        simp only [vs4, List.mem_cons, List.not_mem_nil, or_false] at hu
        rcases hu with rfl | rfl | rfl | rfl
        · exact .inl ⟨_, by simp [vs4], hk⟩
        · exact .inl ⟨_, by simp [vs4], hk⟩
        · exact .inr (row_at hov.1 k hk).1
        · exact .inr (row_at hor.1 k hk).1)
      have hx6 := hov.2.1
      have w1 : RwT V0' V6 t tv tr := ⟨row_keep HRW.out.1.1 (fun k hk => hx6.block k (row_at HRW.out.1.1 k hk).2.1), row_keep HRW.out.1.2 (fun k hk => hx6.block k (row_at HRW.out.1.2 k hk).2.1)⟩
      have w2 : RwT V0' V6 t ⟨a6, n6, c6⟩ ⟨a7, n7', c7⟩ := ⟨row_base hov.1 h7.we.size, row_base hor.1 h7.we.size⟩
      have d1 : Dj tv ⟨a6, n6, c6⟩ := fun k hk q => by
        have g1 := (row_at HRW.out.1.1 k hk).2.1
        have g2 := (row_at hov.1 k q).1
        omega
      have d2 : Dj tr ⟨a7, n7', c7⟩ := fun k hk q => by
        have g1 := (row_at HRW.out.1.2 k hk).2.1
        have g2 := (row_at hor.1 k q).1
        omega
      have h9 := h8.sub (bx' := [(bz, S.enc), (bh, T.enc), (bp, pl2.enc)]) (fun p hp => by simp only [List.mem_cons, List.not_mem_nil, or_false] at hp ⊢; rcases hp with rfl | rfl | rfl <;> simp)
      have hnb2 : ∀ p ∈ [(bh, T.enc), (bp, pl2.enc)], p.1 ≠ bz := fun p hp => by
        have := HNE.out
        simp only [List.mem_cons, List.not_mem_nil, or_false] at hp
        rcases hp with rfl | rfl <;> (dsimp only; omega)
      have kz6 := (h9.at (b := bz) (C := S.enc) (by simp)).1
      have fz6 := (h9.at (b := bz) (C := S.enc) (by simp)).2
      have lS : S.enc.length = 378 := Trail.length_enc _
      have lT2 : T2.enc.length = 378 := Trail.length_enc _
      have h10 := h9.putk (C' := T2.enc) hnb2 (w1.lt w2)
      have q3 := h9.rwp (C' := T2.enc) hnb2 (by simp [vs4]) (by simp [vs4]) w1
      have q4 := h9.rwp (C' := T2.enc) hnb2 (by simp [vs4]) (by simp [vs4]) w2
      rw [← hT2]
      have HR9 : Hid (∃ N1, (LI (n + (X.length + 1)) N1 ∧ CI N1) ∧ Tr9 V0' bp bh bz c1 c2 pl2.enc N1 rs.2.2 (put V6 bz T2.enc)) := by
        exact ⟨rs.2.1, HH.out.1, Tr9.fin (t := t) (s := t) (tv := tv) (tr := tr) (sv := ⟨a6, n6, c6⟩) (sr := ⟨a7, n7', c7⟩) h10 (by simp) (by rw [← HTE.out]; simp) (by rw [← eT2]; simp) (fun u hu k hk => ⟨u, hu, hk⟩) q3 q4 d1 d2 HI.out.1 HI.out.2⟩
      clear H7 HRW h7 h8 h9 h10 q3 q4 hnb hnb2 hlt5 w1 w2 d1 d2 hov hor hx6 hT2 eT2 nT0 nT1 hTv hTr l1 l2 kh fh ko kz
      go_wp2_with fail
      refine ⟨rfl, rfl, ?_⟩
      rw [HI42.out]
      exact ⟨⟨rfl, rfl, rfl, rfl, rfl, rfl, rfl, rfl, rfl⟩, HR9⟩
    by_cases n16 : x.kind = 16
    · have hk := n16
      have hk1 : (x.kind == 1) = false := by simp [hk]
      have hk7 : (x.kind == 7) = false := by simp [hk]
      have hk8 : (x.kind == 8) = false := by simp [hk]
      have hk23 : (x.kind == 23) = false := by simp [hk]
      have hk9 : (x.kind == 9) = false := by simp [hk]
      have hk24 : (x.kind == 24) = false := by simp [hk]
      have hk27 : (x.kind == 27) = false := by simp [hk]
      have hk15 : (x.kind == 15) = false := by simp [hk]
      have hk16 : (x.kind == 16) = true := by rw [hk]; rfl
      have h7 := H7.out
      have hlt5 := HRW.out.1.lt HRW.out.2.1
      have hnb : ∀ p ∈ [(bp, pl2.enc), (bz, S.enc), (bd, arr u8v D), (bw, v.enc), (bo, x.enc)], p.1 ≠ bh := fun p hp => by
        have := HORD.out
        have := HNE.out
        simp only [List.mem_cons, List.not_mem_nil, or_false] at hp
        rcases hp with rfl | rfl | rfl | rfl | rfl <;> (dsimp only; omega)
      have kh := (h7.at (b := bh) (C := T.enc) (by simp)).1
      have fh := (h7.at (b := bh) (C := T.enc) (by simp)).2
      have ko := (h7.at (b := bo) (C := x.enc) (by simp)).1
      have lT : T.enc.length = 378 := Trail.length_enc _
      have hTv : T.views = tv := by rw [HTE.out]; rfl
      have hTr : T.roots = tr := by rw [HTE.out]; rfl
      have nT0 : nth T.enc 0 = some (.slice tv.a tv.len tv.cap) := by rw [Trail.views_get, hTv]; rfl
      have nT1 : nth T.enc 1 = some (.slice tr.a tr.len tr.cap) := by rw [Trail.roots_get, hTr]; rfl
      have l1 : tv.len = t.vs.length := row_len View.length_enc HRW.out.1.1
      have l2 : tr.len = t.rs.length := row_len encD_len HRW.out.1.2
      have nbo : ¬ bo = bh := by have := HORD.out; omega
      have kz := (h7.at (b := bz) (C := S.enc) (by simp)).1
      have fz := (h7.at (b := bz) (C := S.enc) (by simp)).2
      have lS : S.enc.length = 378 := Trail.length_enc _
      have nhz : ¬ bh = bz := HNE.out.2.2
      have nzh : ¬ bz = bh := fun e => HNE.out.2.2 e.symm
      have h8 := h7.putk (C' := S.enc) hnb hlt5
      have q1 := h7.rwp (C' := S.enc) hnb (by simp [vs4]) (by simp [vs4]) HRW.out.1
      have q2 := h7.rwp (C' := S.enc) hnb (by simp [vs4]) (by simp [vs4]) HRW.out.2.1
      have h9 := h8.sub (bx' := [(bz, S.enc), (bh, S.enc), (bp, pl2.enc)]) (fun p hp => by simp only [List.mem_cons, List.not_mem_nil, or_false] at hp ⊢; rcases hp with rfl | rfl | rfl <;> simp)
      have hnb2 : ∀ p ∈ [(bh, S.enc), (bp, pl2.enc)], p.1 ≠ bz := fun p hp => by
        have := HNE.out
        simp only [List.mem_cons, List.not_mem_nil, or_false] at hp
        rcases hp with rfl | rfl <;> (dsimp only; omega)
      have h10 := h9.putk (C' := T.enc) hnb2 (q1.lt q2)
      have q3 := h9.rwp (C' := T.enc) hnb2 (by simp [vs4]) (by simp [vs4]) q1
      have q4 := h9.rwp (C' := T.enc) hnb2 (by simp [vs4]) (by simp [vs4]) q2
      have HR9 : Hid (∃ N1, (LI (n + (X.length + 1)) N1 ∧ CI N1) ∧ Tr9 V0' bp bh bz c1 c2 pl2.enc N1 rs.2.2 (put (put V5 bh S.enc) bz T.enc)) := by
        have e : stpF M1 L2 x X = (pz, L2, M1) := by unfold stpF; rw [if_neg (by omega), if_pos hk]
        have e1 : rs.2.1 = L2 := by rw [HRS.out, e]
        have e2 : rs.2.2 = M1 := by rw [HRS.out, e]
        exact ⟨rs.2.1, HH.out.1, Tr9.fin (t := s) (s := t) (tv := sv) (tr := sr) (sv := tv) (sr := tr) h10 (by simp) (by rw [← HSE.out]; simp) (by rw [← HTE.out]; simp) (fun u hu k hk => ⟨u, by simp only [vs4, List.mem_cons, List.not_mem_nil, or_false] at hu ⊢; rcases hu with rfl | rfl | rfl | rfl <;> simp, hk⟩) q4 q3 HRW.out.2.2.1.symm HRW.out.2.2.2.symm (by rw [e1]; exact HTR.out.2) (by rw [e2]; exact HM1.out.1)⟩
      clear H7 HRW h7 h8 h9 h10 q1 q2 q3 q4 hnb hnb2 hlt5 hk nT0 nT1 hTv hTr l1 l2
      go_wp2_with fail
      refine ⟨rfl, rfl, ?_⟩
      rw [HI42.out]
      exact ⟨⟨rfl, rfl, rfl, rfl, rfl, rfl, rfl, rfl, rfl⟩, HR9⟩
    have hk1 : (x.kind == 1) = false := by simp [n1]
    have hk7 : (x.kind == 7) = false := by simp [n7]
    have hk8 : (x.kind == 8) = false := by simp [n8]
    have hk23 : (x.kind == 23) = false := by simp [n23]
    have hk9 : (x.kind == 9) = false := by simp [n9]
    have hk24 : (x.kind == 24) = false := by simp [n24]
    have hk27 : (x.kind == 27) = false := by simp [n27]
    have hk15 : (x.kind == 15) = false := by simp [n15]
    have hk16 : (x.kind == 16) = false := by simp [n16]
    have HR9 : Hid (∃ N1, (LI (n + (X.length + 1)) N1 ∧ CI N1) ∧ Tr9 V0' bp bh bz c1 c2 pl2.enc N1 rs.2.2 V5) := by
      obtain ⟨q1, q2⟩ := tri_oth HM1.out.1 HM1.out.2.1 (by have := HN.out.2; omega) ⟨n1, n7, n8, n23, n9, n24, n27, n15, n16⟩ HC0.out
      rw [← HRS.out] at q1 q2
      exact ⟨rs.2.1, HH.out.1, Tr9.fin H7.out (by simp) (by rw [← HTE.out]; simp) (by rw [← HSE.out]; simp) HSF.out HRW.out.1 HRW.out.2.1 HRW.out.2.2.1 HRW.out.2.2.2 q1 (by rw [q2]; exact HTR.out.2)⟩
    clear H7 HRW n1 n7 n8 n23 n9 n24 n27 n15 n16
    go_wp2_with fail
    refine ⟨rfl, rfl, ?_⟩
    rw [HI42.out]
    exact ⟨⟨rfl, rfl, rfl, rfl, rfl, rfl, rfl, rfl, rfl⟩, HR9⟩
  clear H7 HRW
  intro F42 V42 hrel
  rw [HI42.out] at hrel
  obtain ⟨⟨f3, f4, f5, f7, f8, f9, f17, f18, f19⟩, HTR9⟩ := hrel
  rw [frame183L, f3, f4, f5, f7, f8, f9, f17, f18, f19]
  clear f3 f4 f5 f7 f8 f9 f17 f18 f19 HI42
  as_aux_lemma =>
    obtain ⟨N1, hN1, t', s', tv', tr', sv', sr', h8, r1, r2, d1, d2, i1, i2⟩ := HTR9.out
    obtain ⟨T', hT'⟩ : ∃ T', T' = trE t' tv' tr' := ⟨_, rfl⟩
    rw [← hT'] at h8
    have h9 := h8.ext (extends_drewN (ext_Ext (Ext.refl V42)) 1)
    have kp9 := (h9.at (b := bp) (C := pl2.enc) (by simp)).1
    have kh9 := (h9.at (b := bh) (C := T'.enc) (by simp)).1
    have hph : nth pl2.enc 0 = some (.pointer (some ⟨c1, 0, none⟩)) := by rw [HPL2.out]; exact Player.hand_get _
    have lpl : pl2.enc.length = 2 := Player.length_enc _
    have hlen : tv'.len = N1.st.saved.length := (row_len View.length_enc r1.1).trans i1.vl
    have nt0 : nth T'.enc 0 = some (.slice tv'.a N1.st.saved.length tv'.cap) := by rw [Trail.views_get, hT', ← hlen]; rfl
    have lT' : T'.enc.length = 378 := Trail.length_enc _
    have hdp := h9.dep
    have HJ : Hid (Lp9 V0' g bp bh bz (i + 1) (V42.drewN 1)) := by
      refine ⟨c1, c2, N1, rs.2.2, n + (X.length + 1), ?_, hN1, HH.out.2, by have := HN.out.2; omega⟩
      rw [← HPL2.out]
      have hlt := r1.lt r2
      have q1 := h9.rwt (by simp [vs4]) (by simp [vs4]) r1
      have q2 := h9.rwt (by simp [vs4]) (by simp [vs4]) r2
      refine Tr9.fin (h9.reb hlt) (by simp) (by rw [← hT']; simp) (by simp) (fun u hu k hk => ⟨u, hu, hk⟩) q1 q2 d1 d2 i1 i2
    have hi9 := HI9.out
    generalize N1.st.saved.length = sl at hdp nt0
    clear h8 h9 r1 r2 d1 d2 i1 i2 hT' hlen hN1
    go_upto_region 42 with fail
    repeat go_step
    refine wp_region_F 6 (fun W' => blk W' bp = some pl2.enc ∧ blk W' bh = some T'.enc) (by kernel_rfl) ⟨kp9, kh9⟩ (fun hHeld => ?_)
    refine wpAnyF_take (i := 0) (oi := ⟨_, _, _, _, _, _⟩) (v := ?_) rfl (by kernel_rfl) (by kernel_rfl) (by kernel_rfl) (by kernel_rfl) (by kernel_rfl) (fun _ _ _ h => h) (Or.inl ⟨by rfl, ?_⟩) (by assumption) ?_
    rotate_left 1
    · intro W' hSw
      obtain ⟨hS1, hS2⟩ := hSw
      go_simp
      try with_reducible rfl
    try simp only [Act.put, List.setIfInBounds_toArray, List.set_cons_zero, List.set_cons_succ]
    refine wpAnyF_take (i := 1) (oi := ⟨_, _, _, _, _, _⟩) (v := ?_) rfl (by kernel_rfl) (by kernel_rfl) (by kernel_rfl) (by kernel_rfl) (by kernel_rfl) (fun _ _ _ h => h) (Or.inl ⟨by rfl, ?_⟩) (by assumption) ?_
    rotate_left 1
    · intro W' hSw
      obtain ⟨hS1, hS2⟩ := hSw
      go_simp
      try with_reducible rfl
    try simp only [Act.put, List.setIfInBounds_toArray, List.set_cons_zero, List.set_cons_succ]
    refine wpAnyF_take (i := 3) (oi := ⟨_, _, _, _, _, _⟩) (v := ?_) rfl (by kernel_rfl) (by kernel_rfl) (by kernel_rfl) (by kernel_rfl) (by kernel_rfl) (fun _ _ _ h => h) (Or.inl ⟨by rfl, ?_⟩) (by assumption) ?_
    rotate_left 1
    · intro W' hSw
      obtain ⟨hS1, hS2⟩ := hSw
      go_simp
      try with_reducible rfl
    try simp only [Act.put, List.setIfInBounds_toArray, List.set_cons_zero, List.set_cons_succ]
    refine wpAnyF_take (i := 4) (oi := ⟨_, _, _, _, _, _⟩) (v := ?_) rfl (by kernel_rfl) (by kernel_rfl) (by kernel_rfl) (by kernel_rfl) (by kernel_rfl) (fun _ _ _ h => h) (Or.inl ⟨by rfl, ?_⟩) (by assumption) ?_
    rotate_left 1
    · intro W' hSw
      obtain ⟨hS1, hS2⟩ := hSw
      go_simp
      try with_reducible rfl
    try simp only [Act.put, List.setIfInBounds_toArray, List.set_cons_zero, List.set_cons_succ]
    refine wpAnyF_take (i := 5) (oi := ⟨_, _, _, _, _, _⟩) (v := ?_) rfl (by kernel_rfl) (by kernel_rfl) (by kernel_rfl) (by kernel_rfl) (by kernel_rfl) (fun _ _ _ h => h) (Or.inl ⟨by rfl, ?_⟩) (by assumption) ?_
    rotate_left 1
    · intro W' hSw
      obtain ⟨hS1, hS2⟩ := hSw
      go_simp
      try with_reducible rfl
    try simp only [Act.put, List.setIfInBounds_toArray, List.set_cons_zero, List.set_cons_succ]
    refine wpAnyF_one (o := ⟨_, _, _, _, _, _⟩) (i := 2) (by kernel_rfl) rfl rfl (fun K' hK => ?_)
    go_simp
    refine hdp.mono ?_
    clear hdp
    rintro e V43 ⟨rfl, hv43⟩
    obtain rfl := hv43.symm
    dsimp only
    refine hK.out _ _ ⟨kp9, kh9⟩ (fun hHeld => ?_)
    clear hK K'
    try simp only [Act.put, List.setIfInBounds_toArray, List.set_cons_zero, List.set_cons_succ]
    refine wpAnyF_last (o := ⟨_, _, _, _, _, _⟩) (by kernel_rfl) rfl (fun K' hK => ?_)
    go_simp
    refine hK.out _ _ ?_
    clear hK K'
    try simp only [Act.put, List.setIfInBounds_toArray, List.set_cons_zero, List.set_cons_succ]
    refine wpAnyF_done (by kernel_rfl) ?_ _
    clear hHeld
    go_wp2_with fail
    refine ⟨rfl, rfl, ⟨rfl, rfl, rfl, rfl, rfl, i + 1, HN.out.1, ?_, HJ⟩, ?_⟩
    · show Value.int .i64 _ = _
      go_num
    · show len - (intOf (Value.int .i64 _)).toNat < len - (intOf (F 19)).toNat
      rw [H19.out]
      have := HN.out.1
      simp [intOf]; omega
end Go.Proofs.Qxb6500786aGreat
