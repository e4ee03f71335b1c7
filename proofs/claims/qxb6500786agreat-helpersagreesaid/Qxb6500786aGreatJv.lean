import Derived.DeepKeys2
import Derived.Test.Qxb6500786aGreatJu
import Derived.Test.Qxb6500786aGreatJg
import Derived.Test.Qxb6500786aGreatEc

import Derived.StillTailTactics
import Derived.Deep.QuietTactic
import Derived.BigQuiet
import Derived.Deep.RegionHeld
import Derived.Deep.CutRange
import Derived.Laws.ResultCell
import Derived.Laws.Rows
import Derived.DeepKeys
import Derived.DataBytes
import Derived.Laws.StructEq
import Derived.Laws.AppendOwn
import Derived.Laws.MakeOwn
import Derived.Lib.AppendStr
set_option linter.unusedSimpArgs false
set_option linter.unusedVariables false
namespace Go.Proofs.Qxb6500786aGreat
open Go.RowKit Go.Blk
attribute [local go_sem ↓] execOp_load execOp_store execOp_alloc
attribute [local go_sem] Tryz.ld24 Tryz.st24 Tryz.ld36 Tryz.st36 Tryz.ld28 Tryz.st28 Tryz.ld32 Tryz.st32 Tryz.ld33 Tryz.st33 Tryz.ld34 Tryz.st34 Tryz.ld5 Tryz.st5 Tryz.ld31 Tryz.st31 Tryz.ld30 Tryz.st30 Tryz.ld41 Tryz.st41 Tryz.ld44 Tryz.st44 Tryz.ld4 Tryz.st4 Tryz.ld173 Tryz.st173 Tryz.ld174 Tryz.st174 Tryz.ld95 Tryz.st95 Tryz.ld45 Tryz.st45 Tryz.ld207 Tryz.st207 Tryz.ld3 Tryz.st3 Tryz.ld189 Tryz.st189 Tryz.ld2 Tryz.st2 Tryz.ld9 Tryz.st9 Tryz.ld12 Tryz.st12 Tryz.ld21 Tryz.st21 Tryz.ld22 Tryz.st22 Tryz.ld46 Tryz.st46 Tryz.ld92 Tryz.st92 Tryz.ld94 Tryz.st94 Tryz.ld96 Tryz.st96 Tryz.ld97 Tryz.st97 Tryz.ld105 Tryz.st105 Tryz.ld117 Tryz.st117 Tryz.ld122 Tryz.st122 Tryz.ld123 Tryz.st123 Tryz.ld133 Tryz.st133 Tryz.ld155 Tryz.st155 Tryz.ld163 Tryz.st163 Tryz.ld190 Tryz.st190 Tryz.ld197 Tryz.st197 Tryz.ld201 Tryz.st201 Tryz.ld202 Tryz.st202 Tryz.ld209 Tryz.st209 Tryz.ld216 Tryz.st216 Tryz.ld230 Tryz.st230 Tryz.ld238 Tryz.st238 Tryz.ld242 Tryz.st242 Tryz.ld251 Tryz.st251 Tryz.ld260 Tryz.st260 Tryz.ld286 Tryz.st286 Tryz.ld292 Tryz.st292 Tryz.ld298 Tryz.st298 Tryz.ld309 Tryz.st309 Tryz.ld35 Tryz.st35 Tryz.ld48 Tryz.st48 Tryz.ld47 Tryz.st47 Tryz.ld79 Tryz.st79 Tryz.ld177 Tryz.st177 Tryz.ld180 Tryz.st180 Tryz.ld231 Tryz.st231 Tryz.ld232 Tryz.st232 Tryz.ld26 Tryz.st26 Tryz.ld38 Tryz.st38 Tryz.ld40 Tryz.st40 Tryz.ld43 Tryz.st43 Tryz.ld50 Tryz.st50 Tryz.ld52 Tryz.st52 Tryz.ld54 Tryz.st54 Tryz.ld81 Tryz.st81 Tryz.ld112 Tryz.st112 Tryz.ld120 Tryz.st120 Tryz.ld176 Tryz.st176 Tryz.ld179 Tryz.st179 Tryz.ld182 Tryz.st182 Tryz.ld184 Tryz.st184 Tryz.ld234 Tryz.st234 Tryz.ld236 Tryz.st236 Tryz.ld240 Tryz.st240 Tryz.ld246 Tryz.st246 Tryz.ld249 Tryz.st249 Tryz.al35 Tryz.al48 Tryz.al47 Tryz.al79 Tryz.al177 Tryz.al180 Tryz.al231 Tryz.al232 Tryz.al26 Tryz.al38 Tryz.al40 Tryz.al43 Tryz.al50 Tryz.al52 Tryz.al54 Tryz.al81 Tryz.al112 Tryz.al120 Tryz.al176 Tryz.al179 Tryz.al182 Tryz.al184 Tryz.al234 Tryz.al236 Tryz.al240 Tryz.al246 Tryz.al249
attribute [local go_sem] Player.length_enc Player.ok_enc Player.all_get Player.all_set Player.hand_get Player.hand_set Player.aside_get Player.aside_set Message.length_enc Message.ok_enc Message.all_get Message.all_set Message.kind_get Message.kind_set Message.from__get Message.from__set Message.to__get Message.to__set Message.sender_get Message.sender_set Message.receiver_get Message.receiver_set Message.seq_get Message.seq_set Message.token_get Message.token_set Message.amount_get Message.amount_set Message.size_get Message.size_set Message.payload_get Message.payload_set Tx.length_enc Tx.ok_enc Tx.all_get Tx.all_set Tx.kind_get Tx.kind_set Tx.chain_get Tx.chain_set Tx.from__get Tx.from__set Tx.nonce_get Tx.nonce_set Tx.fee_get Tx.fee_set Tx.to__get Tx.to__set Tx.dest_get Tx.dest_set Tx.token_get Tx.token_set Tx.amount_get Tx.amount_set Tx.size_get Tx.size_set Tx.payload_get Tx.payload_set Tx.msg_get Tx.msg_set Tx.msg_kind_get Tx.msg_kind_set Tx.msg_from__get Tx.msg_from__set Tx.msg_to__get Tx.msg_to__set Tx.msg_sender_get Tx.msg_sender_set Tx.msg_receiver_get Tx.msg_receiver_set Tx.msg_seq_get Tx.msg_seq_set Tx.msg_token_get Tx.msg_token_set Tx.msg_amount_get Tx.msg_amount_set Tx.msg_size_get Tx.msg_size_set Tx.msg_payload_get Tx.msg_payload_set GOp.length_enc GOp.ok_enc GOp.all_get GOp.all_set GOp.kind_get GOp.kind_set GOp.tx_get GOp.tx_set GOp.txs_get GOp.txs_set GOp.gas_get GOp.gas_set GOp.acct_get GOp.acct_set GOp.token_get GOp.token_set GOp.chain_get GOp.chain_set GOp.seq_get GOp.seq_set GOp.tx_kind_get GOp.tx_kind_set GOp.tx_chain_get GOp.tx_chain_set GOp.tx_from__get GOp.tx_from__set GOp.tx_nonce_get GOp.tx_nonce_set GOp.tx_fee_get GOp.tx_fee_set GOp.tx_to__get GOp.tx_to__set GOp.tx_dest_get GOp.tx_dest_set GOp.tx_token_get GOp.tx_token_set GOp.tx_amount_get GOp.tx_amount_set GOp.tx_size_get GOp.tx_size_set GOp.tx_payload_get GOp.tx_payload_set GOp.tx_msg_get GOp.tx_msg_set GOp.tx_msg_kind_get GOp.tx_msg_kind_set GOp.tx_msg_from__get GOp.tx_msg_from__set GOp.tx_msg_to__get GOp.tx_msg_to__set GOp.tx_msg_sender_get GOp.tx_msg_sender_set GOp.tx_msg_receiver_get GOp.tx_msg_receiver_set GOp.tx_msg_seq_get GOp.tx_msg_seq_set GOp.tx_msg_token_get GOp.tx_msg_token_set GOp.tx_msg_amount_get GOp.tx_msg_amount_set GOp.tx_msg_size_get GOp.tx_msg_size_set GOp.tx_msg_payload_get GOp.tx_msg_payload_set Summary.length_enc Summary.ok_enc Summary.all_get Summary.all_set Summary.height_get Summary.height_set Summary.txs_get Summary.txs_set Summary.gas_get Summary.gas_set Summary.fees_get Summary.fees_set Summary.sent_get Summary.sent_set Summary.took_get Summary.took_set Summary.minted_get Summary.minted_set Summary.burned_get Summary.burned_set Summary.root_get Summary.root_set Detail.length_enc Detail.ok_enc Detail.all_get Detail.all_set Detail.code_get Detail.code_set Detail.have__get Detail.have__set Detail.need_get Detail.need_set Slot.length_enc Slot.ok_enc Slot.all_get Slot.all_set Slot.nonce_get Slot.nonce_set Slot.balances_get Slot.balances_set Tree.length_enc Tree.ok_enc Tree.all_get Tree.all_set Tree.leaves_get Tree.leaves_set Mark.length_enc Mark.ok_enc Mark.all_get Mark.all_set Mark.from__get Mark.from__set Mark.seq_get Mark.seq_set Receipt.length_enc Receipt.ok_enc Receipt.all_get Receipt.all_set Receipt.code_get Receipt.code_set Receipt.hash_get Receipt.hash_set Receipt.index_get Receipt.index_set Receipt.gas_get Receipt.gas_set Receipt.fee_get Receipt.fee_set Receipt.hasSent_get Receipt.hasSent_set Receipt.sent_get Receipt.sent_set Receipt.hasTook_get Receipt.hasTook_set Receipt.took_get Receipt.took_set Receipt.sent_kind_get Receipt.sent_kind_set Receipt.sent_from__get Receipt.sent_from__set Receipt.sent_to__get Receipt.sent_to__set Receipt.sent_sender_get Receipt.sent_sender_set Receipt.sent_receiver_get Receipt.sent_receiver_set Receipt.sent_seq_get Receipt.sent_seq_set Receipt.sent_token_get Receipt.sent_token_set Receipt.sent_amount_get Receipt.sent_amount_set Receipt.sent_size_get Receipt.sent_size_set Receipt.sent_payload_get Receipt.sent_payload_set Receipt.took_kind_get Receipt.took_kind_set Receipt.took_from__get Receipt.took_from__set Receipt.took_to__get Receipt.took_to__set Receipt.took_sender_get Receipt.took_sender_set Receipt.took_receiver_get Receipt.took_receiver_set Receipt.took_seq_get Receipt.took_seq_set Receipt.took_token_get Receipt.took_token_set Receipt.took_amount_get Receipt.took_amount_set Receipt.took_size_get Receipt.took_size_set Receipt.took_payload_get Receipt.took_payload_set Store.length_enc Store.ok_enc Store.all_get Store.all_set Store.now_get Store.now_set Store.saved_get Store.saved_set GState.length_enc GState.ok_enc GState.all_get GState.all_set GState.kv_get GState.kv_set GState.tree_get GState.tree_set GState.stale_get GState.stale_set GState.touched_get GState.touched_set GState.kv_now_get GState.kv_now_set GState.kv_saved_get GState.kv_saved_set GState.tree_leaves_get GState.tree_leaves_set History.length_enc History.ok_enc History.all_get History.all_set History.ring_get History.ring_set History.closed_get History.closed_set Ledger.length_enc Ledger.ok_enc Ledger.all_get Ledger.all_set Ledger.chain_get Ledger.chain_set Ledger.st_get Ledger.st_set Ledger.height_get Ledger.height_set Ledger.open__get Ledger.open__set Ledger.gasLimit_get Ledger.gasLimit_set Ledger.past_get Ledger.past_set Ledger.begun_get Ledger.begun_set Ledger.sent_get Ledger.sent_set Ledger.took_get Ledger.took_set Ledger.receipts_get Ledger.receipts_set Ledger.st_kv_get Ledger.st_kv_set Ledger.st_tree_get Ledger.st_tree_set Ledger.st_stale_get Ledger.st_stale_set Ledger.st_touched_get Ledger.st_touched_set Ledger.st_kv_now_get Ledger.st_kv_now_set Ledger.st_kv_saved_get Ledger.st_kv_saved_set Ledger.st_tree_leaves_get Ledger.st_tree_leaves_set Ledger.past_ring_get Ledger.past_ring_set Ledger.past_closed_get Ledger.past_closed_set Ledger.begun_kv_get Ledger.begun_kv_set Ledger.begun_tree_get Ledger.begun_tree_set Ledger.begun_stale_get Ledger.begun_stale_set Ledger.begun_touched_get Ledger.begun_touched_set Ledger.begun_kv_now_get Ledger.begun_kv_now_set Ledger.begun_kv_saved_get Ledger.begun_kv_saved_set Ledger.begun_tree_leaves_get Ledger.begun_tree_leaves_set Purse.length_enc Purse.ok_enc Purse.all_get Purse.all_set Purse.st_get Purse.st_set Purse.n_get Purse.n_set Purse.account_get Purse.account_set Purse.token_get Purse.token_set Purse.amount_get Purse.amount_set Plan.length_enc Plan.ok_enc Plan.all_get Plan.all_set Plan.purse_get Plan.purse_set Plan.nonce_get Plan.nonce_set Plan.gasUsed_get Plan.gasUsed_set Plan.fees_get Plan.fees_set Plan.hasSupply_get Plan.hasSupply_set Plan.token_get Plan.token_set Plan.supply_get Plan.supply_set Plan.flowAt_get Plan.flowAt_set Plan.flow_get Plan.flow_set Plan.receipt_get Plan.receipt_set Plan.purse_st_get Plan.purse_st_set Plan.purse_n_get Plan.purse_n_set Plan.purse_account_get Plan.purse_account_set Plan.purse_token_get Plan.purse_token_set Plan.purse_amount_get Plan.purse_amount_set Plan.receipt_code_get Plan.receipt_code_set Plan.receipt_hash_get Plan.receipt_hash_set Plan.receipt_index_get Plan.receipt_index_set Plan.receipt_gas_get Plan.receipt_gas_set Plan.receipt_fee_get Plan.receipt_fee_set Plan.receipt_hasSent_get Plan.receipt_hasSent_set Plan.receipt_sent_get Plan.receipt_sent_set Plan.receipt_hasTook_get Plan.receipt_hasTook_set Plan.receipt_took_get Plan.receipt_took_set Plan.receipt_sent_kind_get Plan.receipt_sent_kind_set Plan.receipt_sent_from__get Plan.receipt_sent_from__set Plan.receipt_sent_to__get Plan.receipt_sent_to__set Plan.receipt_sent_sender_get Plan.receipt_sent_sender_set Plan.receipt_sent_receiver_get Plan.receipt_sent_receiver_set Plan.receipt_sent_seq_get Plan.receipt_sent_seq_set Plan.receipt_sent_token_get Plan.receipt_sent_token_set Plan.receipt_sent_amount_get Plan.receipt_sent_amount_set Plan.receipt_sent_size_get Plan.receipt_sent_size_set Plan.receipt_sent_payload_get Plan.receipt_sent_payload_set Plan.receipt_took_kind_get Plan.receipt_took_kind_set Plan.receipt_took_from__get Plan.receipt_took_from__set Plan.receipt_took_to__get Plan.receipt_took_to__set Plan.receipt_took_sender_get Plan.receipt_took_sender_set Plan.receipt_took_receiver_get Plan.receipt_took_receiver_set Plan.receipt_took_seq_get Plan.receipt_took_seq_set Plan.receipt_took_token_get Plan.receipt_took_token_set Plan.receipt_took_amount_get Plan.receipt_took_amount_set Plan.receipt_took_size_get Plan.receipt_took_size_set Plan.receipt_took_payload_get Plan.receipt_took_payload_set Move.length_enc Move.ok_enc Move.all_get Move.all_set Move.account_get Move.account_set Move.token_get Move.token_set Move.down_get Move.down_set Move.amount_get Move.amount_set Books.length_enc Books.ok_enc Books.all_get Books.all_set Books.sums_get Books.sums_set Books.stored_get Books.stored_set Books.marks_get Books.marks_set Pair.length_enc Pair.ok_enc Pair.all_get Pair.all_set Pair.key_get Pair.key_set Pair.value_get Pair.value_set
attribute [local go_sem] size_put size_ext blk_put free_put blk_alloc free_alloc blk_drew free_drew blk_ext free_ext lookOr_some putOr_some segAt_some cellAt_some storeIn_some put_put put_alloc_new length_arr ok_arr_u8 ok_arr_u32 ok_arr_u64 ok_arr_i64 ok_arr_sl cellsV_agg cellsV_int cellsV_bool cellsV_string cellsV_pointer cellsV_slice cellsV_sl ok_int ok_bool ok_string ok_pointer ok_slice ok_sl toList_arr seg_arr set_arr nth_splice nth_splice0 seg_splice seg_splice0 splice_splice splice_splice0 length_splice_if
attribute [local go_sem ↓] execOp_box
attribute [local go_sem] box_run nth_arr_u8 put_arr_u8 blk_drewN free_drewN put_drewN blk_raw free_raw
attribute [local go_sem] Tryz.ld56 Tryz.st56 Tryz.ld91 Tryz.st91 Tryz.al56 Tryz.al91 Answer.length_enc Answer.ok_enc Answer.all_get Answer.all_set Answer.code_get Answer.code_set Answer.receipts_get Answer.receipts_set Answer.moves_get Answer.moves_set Answer.failed_get Answer.failed_set Answer.value_get Answer.value_set Answer.yes_get Answer.yes_set Answer.root_get Answer.root_set Answer.summary_get Answer.summary_set Answer.detail_get Answer.detail_set Answer.slot_get Answer.slot_set Answer.summary_height_get Answer.summary_height_set Answer.summary_txs_get Answer.summary_txs_set Answer.summary_gas_get Answer.summary_gas_set Answer.summary_fees_get Answer.summary_fees_set Answer.summary_sent_get Answer.summary_sent_set Answer.summary_took_get Answer.summary_took_set Answer.summary_minted_get Answer.summary_minted_set Answer.summary_burned_get Answer.summary_burned_set Answer.summary_root_get Answer.summary_root_set Answer.detail_code_get Answer.detail_code_set Answer.detail_have__get Answer.detail_have__set Answer.detail_need_get Answer.detail_need_set Answer.slot_nonce_get Answer.slot_nonce_set Answer.slot_balances_get Answer.slot_balances_set Block.length_enc Block.ok_enc Block.all_get Block.all_set Block.gasLimit_get Block.gasLimit_set Block.txs_get Block.txs_set
attribute [local go_sem] Tryz.ld61 Tryz.st61 Tryz.ld125 Tryz.st125 Tryz.ld148 Tryz.st148 Tryz.al61 Tryz.al125 Tryz.al148 View.length_enc View.ok_enc View.all_get View.all_set View.chain_get View.chain_set View.balances_get View.balances_set View.nonces_get View.nonces_set View.supply_get View.supply_set View.marks_get View.marks_set View.height_get View.height_set View.open__get View.open__set View.gasLimit_get View.gasLimit_set View.gasUsed_get View.gasUsed_set View.fees_get View.fees_set View.txs_get View.txs_set View.sent_get View.sent_set View.took_get View.took_set View.minted_get View.minted_set View.burned_get View.burned_set View.depth_get View.depth_set Trail.length_enc Trail.ok_enc Trail.all_get Trail.all_set Trail.views_get Trail.views_set Trail.roots_get Trail.roots_set Trail.begunView_get Trail.begunView_set Trail.begunRoot_get Trail.begunRoot_set Trail.begunKnown_get Trail.begunKnown_set Trail.begunView_chain_get Trail.begunView_chain_set Trail.begunView_balances_get Trail.begunView_balances_set Trail.begunView_nonces_get Trail.begunView_nonces_set Trail.begunView_supply_get Trail.begunView_supply_set Trail.begunView_marks_get Trail.begunView_marks_set Trail.begunView_height_get Trail.begunView_height_set Trail.begunView_open__get Trail.begunView_open__set Trail.begunView_gasLimit_get Trail.begunView_gasLimit_set Trail.begunView_gasUsed_get Trail.begunView_gasUsed_set Trail.begunView_fees_get Trail.begunView_fees_set Trail.begunView_txs_get Trail.begunView_txs_set Trail.begunView_sent_get Trail.begunView_sent_set Trail.begunView_took_get Trail.begunView_took_set Trail.begunView_minted_get Trail.begunView_minted_set Trail.begunView_burned_get Trail.begunView_burned_set Trail.begunView_depth_get Trail.begunView_depth_set Dump.length_enc Dump.ok_enc Dump.all_get Dump.all_set Dump.chain_get Dump.chain_set Dump.height_get Dump.height_set Dump.balances_get Dump.balances_set Dump.nonces_get Dump.nonces_set Dump.marks_get Dump.marks_set Dump.history_get Dump.history_set
attribute [local go_sem ↓] execOp_neq48 execOp_neq50 execOp_eql47
attribute [local go_sem] neq50 eql47
set_option maxRecDepth 100000 in
theorem frame233L (f : Nat → Value) : frameN 233 f = List.toArray (f 0 :: f 1 :: f 2 :: f 3 :: f 4 :: f 5 :: f 6 :: f 7 :: f 8 :: f 9 :: f 10 :: f 11 :: f 12 :: f 13 :: f 14 :: f 15 :: f 16 :: f 17 :: f 18 :: f 19 :: f 20 :: f 21 :: f 22 :: f 23 :: f 24 :: f 25 :: f 26 :: f 27 :: f 28 :: f 29 :: f 30 :: f 31 :: f 32 :: f 33 :: f 34 :: f 35 :: f 36 :: f 37 :: f 38 :: f 39 :: f 40 :: f 41 :: f 42 :: f 43 :: f 44 :: f 45 :: f 46 :: f 47 :: f 48 :: f 49 :: f 50 :: f 51 :: f 52 :: f 53 :: f 54 :: f 55 :: f 56 :: f 57 :: f 58 :: f 59 :: f 60 :: f 61 :: f 62 :: f 63 :: f 64 :: f 65 :: f 66 :: f 67 :: f 68 :: f 69 :: f 70 :: f 71 :: f 72 :: f 73 :: f 74 :: f 75 :: f 76 :: f 77 :: f 78 :: f 79 :: f 80 :: f 81 :: f 82 :: f 83 :: f 84 :: f 85 :: f 86 :: f 87 :: f 88 :: f 89 :: f 90 :: f 91 :: f 92 :: f 93 :: f 94 :: f 95 :: f 96 :: f 97 :: f 98 :: f 99 :: f 100 :: f 101 :: f 102 :: f 103 :: f 104 :: f 105 :: f 106 :: f 107 :: f 108 :: f 109 :: f 110 :: f 111 :: f 112 :: f 113 :: f 114 :: f 115 :: f 116 :: f 117 :: f 118 :: f 119 :: f 120 :: f 121 :: f 122 :: f 123 :: f 124 :: f 125 :: f 126 :: f 127 :: f 128 :: f 129 :: f 130 :: f 131 :: f 132 :: f 133 :: f 134 :: f 135 :: f 136 :: f 137 :: f 138 :: f 139 :: f 140 :: f 141 :: f 142 :: f 143 :: f 144 :: f 145 :: f 146 :: f 147 :: f 148 :: f 149 :: f 150 :: f 151 :: f 152 :: f 153 :: f 154 :: f 155 :: f 156 :: f 157 :: f 158 :: f 159 :: f 160 :: f 161 :: f 162 :: f 163 :: f 164 :: f 165 :: f 166 :: f 167 :: f 168 :: f 169 :: f 170 :: f 171 :: f 172 :: f 173 :: f 174 :: f 175 :: f 176 :: f 177 :: f 178 :: f 179 :: f 180 :: f 181 :: f 182 :: f 183 :: f 184 :: f 185 :: f 186 :: f 187 :: f 188 :: f 189 :: f 190 :: f 191 :: f 192 :: f 193 :: f 194 :: f 195 :: f 196 :: f 197 :: f 198 :: f 199 :: f 200 :: f 201 :: f 202 :: f 203 :: f 204 :: f 205 :: f 206 :: f 207 :: f 208 :: f 209 :: f 210 :: f 211 :: f 212 :: f 213 :: f 214 :: f 215 :: f 216 :: f 217 :: f 218 :: f 219 :: f 220 :: f 221 :: f 222 :: f 223 :: f 224 :: f 225 :: f 226 :: f 227 :: f 228 :: f 229 :: f 230 :: f 231 :: f 232 :: []) := by kernel_rfl
theorem wp_cut_g {P : Program} {c : Code} {K : Act → World → Prop} {Q : Exit → Act → World → Prop} {a : Act} {w : World} (N : Nat) (I : (Nat → Value) → World → Prop) (hp : ∀ c (a : Act) (d : Tmp) (v : Value) w, Q (.panic c) (a.put (some d) v) w → Q (.panic c) a w) (first : ∀ Q' : Exit → Act → World → Prop, (∀ c (a : Act) (d : Tmp) (v : Value) w, Q' (.panic c) (a.put (some d) v) w → Q' (.panic c) a w) → c.wp P (Exit.then (CutEnd N I) Q') a w) (rest : ∀ f w', I f w' → K { tmps := frameN N f, defers := [] } w') : c.wp P (Exit.then K Q) a w := wp_cut_f N I (first Q hp) rest
section
open Go
variable {P : Program} {md : Region.Mode} {ops : Array Oper} {Q : Exit → Act → World → Prop} {S : World → Prop} {F : Nat}
/-- An edge of a region. -/
def edgeB (md : Region.Mode) (ops : Array Oper) (j k : Nat) : Bool := ((ops[j]?).map (·.after.any fun e => Region.binds md e && e.on == k)).getD false
/-- A path of edges from j to i. -/
def pathB (md : Region.Mode) (ops : Array Oper) (i : Nat) : List Nat → Nat → Bool
  | [], j => edgeB md ops j i
  | k :: p, j => edgeB md ops j k && pathB md ops i p k
theorem pathB_wait {i : Nat} : ∀ (p : List Nat) (j : Nat), pathB md ops i p j = true → waitB md ops i (p.length + 1) j = true
  | [], j, h => by
    have h' : ((ops[j]?).map (·.after.any fun e => Region.binds md e && e.on == i)).getD false = true := h
    show ((ops[j]?).map (·.after.any fun e => Region.binds md e && (e.on == i || waitB md ops i 0 e.on))).getD false = true
    cases ho : ops[j]? with
    | none => rw [ho] at h'; cases h'
    | some o =>
      rw [ho] at h'
      simp only [Option.map_some, Option.getD_some, Array.any_eq_true', Bool.and_eq_true, Bool.or_eq_true, beq_iff_eq] at h' ⊢
      obtain ⟨e, he, hb, h2⟩ := h'
      exact ⟨e, he, hb, .inl h2⟩
  | k :: p, j, h => by
    have h0 : (edgeB md ops j k && pathB md ops i p k) = true := h
    rw [Bool.and_eq_true] at h0
    have ih := pathB_wait p k h0.2
    have h' : ((ops[j]?).map (·.after.any fun e => Region.binds md e && e.on == k)).getD false = true := h0.1
    show ((ops[j]?).map (·.after.any fun e => Region.binds md e && (e.on == i || waitB md ops i (p.length + 1) e.on))).getD false = true
    cases ho : ops[j]? with
    | none => rw [ho] at h'; cases h'
    | some o =>
      rw [ho] at h'
      simp only [Option.map_some, Option.getD_some, Array.any_eq_true', Bool.and_eq_true, Bool.or_eq_true, beq_iff_eq] at h' ⊢
      obtain ⟨e, he, hb, h2⟩ := h'
      exact ⟨e, he, hb, .inr (by rw [h2]; exact ih)⟩
/-- As wpAnyF_take, the waiting shown by a path. -/
theorem wpAnyF_take2 {i : Nat} (p : List Nat) {oi : Oper} {v : Value} {fuel : Nat} {listed : Array Bool} {a : Act} {w : World} (hi : ops[i]? = some oi)
    (hs : Region.noSelect ops = true) (hf : Region.free md ops listed i = true) (hr : (Region.ready md ops listed).contains i = true)
    (hw : pathB md ops i p F = true) (hc : closedB md ops listed = true)
    (hQ : ∀ c a w, Q (.panic c) (a.put oi.dst v) w → Q (.panic c) a w) (hy : YieldsIf P ops S oi v a) (hS : S w)
    (h : wpAnyF P md ops Q S F fuel (listed.setIfInBounds i true) (a.put oi.dst v) w) : wpAnyF P md ops Q S F (fuel + 1) listed a w :=
  wpAnyF_first hi (Region.noSelect_spec hs) hQ (pathB_wait p F hw) fuel listed a w (Region.free_spec hi hf) (by simpa using hr) (closedB_spec hc) hy hS h
end
set_option maxRecDepth 20000 in
theorem slotLeaf_bad2 (W : World) (bl : Nat) : Calls Tryz.prog 38 #[.pointer (some ⟨bl, 0, none⟩), .int .u8 64] W fun e V => e = .returned (.tuple #[.agg zD32.toArray, .int .i64 38]) ∧ W.Extends V := by
  have h1 := (BxI.start W).box zD32 47
  obtain ⟨V1, hV1⟩ : ∃ V1, V1 = W.alloc (.cells zD32.toArray 47) := ⟨_, rfl⟩
  obtain ⟨br, hbr⟩ : ∃ br, br = W.heap.size := ⟨_, rfl⟩
  rw [← hV1, ← hbr] at h1
  have k4 := (h1.at (b := br) (C := zD32) (by simp)).1
  have f4 := (h1.at (b := br) (C := zD32) (by simp)).2
  have HX : Hid (W.Extends (put V1 br zD32)) := by
    show W.Extends _
    rw [hbr]
    exact extends_put h1.1 (Nat.le_refl _) _
  have lz : zD32.length = 32 := length_arr _ _
  have oz : okCells 32 zD32 = true := ok_arr_u8 _
  have spz : splice zD32 0 zD32 = zD32 := splice_all _ _ rfl
  have HV1 := hid_of hV1
  have HBR := hid_of hbr
  clear hV1 hbr h1
  go_enter Tryz.func38, Tryz.ntmps38
  go_upto_region 1 with fail
  rw [← HV1.out, ← HBR.out]
  clear HV1 HBR
  go_wp2_with fail
  refine ret_cell_tmp (C := zD32) rfl rfl rfl (by rw [blk_put, if_pos rfl, k4]; rfl) (by kernel_rfl) (by rw [lz]; kernel_rfl) rfl ?_
  exact ⟨rfl, HX.out⟩
attribute [local irreducible] leafF updL topD
theorem TwI.wb {W V V' : World} {b1 b2 b : Nat} {bx : List (Nat × List Value)} {L1 L2 : PLg} {C C' : List Value} (h : TwI W b1 b2 ((b, C) :: bx) L1 L2 V) (hn : ∀ p ∈ bx, p.1 ≠ b) (hw : Wb b V V') (hb : blk V' b = some C') (hf : free V' b = true) : TwI W b1 b2 ((b, C') :: bx) L1 L2 V' := by
  obtain ⟨h0, O, h1, h2, h3, h4, h5⟩ := h
  obtain ⟨q1, q2, q3, q4⟩ := h5 _ (List.mem_cons_self ..)
  have hlg := hw.lg O q3
  refine ⟨h0, lab O V.heap.size .no, ?_, fun k hk => (lab_lt (Nat.lt_of_lt_of_le hk h1.size)).trans (h2 k hk), h3.lg8 hlg (fun j _ _ e => by cases e), h4.lg8 hlg (fun j _ _ e => by cases e), fun p hp => ?_⟩
  · have hbk : ∀ i, i < W.heap.size → V'.heap[i]? = W.heap[i]? := fun i hi => (hw.block i (Nat.lt_of_lt_of_le hi h1.size) (by have q4' : W.heap.size ≤ b := q4; omega)).trans (h1.block i hi)
    exact ⟨hw.os.trans h1.os, hw.tape.trans h1.tape, hw.output.trans h1.output, Nat.le_trans h1.size hw.size, fun a ha => World.cell?_of_block (hbk _ ha), fun a ha => World.frozen?_of_block (hbk _ ha), hbk⟩
  · rcases List.mem_cons.1 hp with rfl | hp
    · exact ⟨hb, hf, (lab_lt (blk_lt q1)).trans q3, q4⟩
    · obtain ⟨g1, g2, g3, g4⟩ := h5 p (List.mem_cons_of_mem _ hp)
      exact ⟨hw.blk g1 (hn p hp), hw.free g1 g2 (hn p hp), (lab_lt (blk_lt g1)).trans g3, g4⟩
/-- The leaves set so far. -/
def lvN (now : List Pair) (i : Nat) : Vector Dig 64 := Vector.ofFn fun j : Fin 64 => if j.val < i then leafF now j.val else empL
theorem lvN_set (now : List Pair) (i : Nat) (hi : i < 64) : setL (lvN now i) i (leafF now i) = lvN now (i + 1) := by
  unfold setL
  rw [dif_pos hi]
  apply Vector.ext
  intro j hj
  rw [Vector.getElem_set]
  unfold lvN
  rw [Vector.getElem_ofFn, Vector.getElem_ofFn]
  dsimp only
  by_cases e : i = j
  · subst e
    rw [if_pos rfl, if_pos (by omega)]
  · rw [if_neg e]
    by_cases q : j < i
    · rw [if_pos q, if_pos (by omega)]
    · rw [if_neg q, if_neg (by omega)]
theorem lvN_zero (now : List Pair) : (Tree.mk (lvN now 0)) = newT := by
  unfold newT
  refine congrArg Tree.mk ?_
  apply Vector.ext
  intro j hj
  unfold lvN
  rw [Vector.getElem_ofFn, Vector.getElem_replicate, if_neg (by omega)]
theorem lvN_all (now : List Pair) : lvN now 64 = Vector.ofFn fun i : Fin 64 => leafF now i.val := by
  apply Vector.ext
  intro j hj
  unfold lvN
  rw [Vector.getElem_ofFn, Vector.getElem_ofFn]
  dsimp only
  rw [if_pos hj]
theorem tree_enc (L : Vector Dig 64) : (Tree.mk L).enc = arrS encD L := by
  have h1 := Tree.leaves_get (Tree.mk L)
  rw [seg_all _ _ (Tree.length_enc _)] at h1
  exact h1
theorem tree_put (L : Vector Dig 64) (i : Nat) (hi : i < 64) (x : Dig) : splice (Tree.mk L).enc (0 + i * 32) (arr u8v x) = (Tree.mk (setL L i x)).enc := by
  rw [tree_enc, tree_enc, Nat.zero_add]
  exact leaves_put L i hi x
def lw3 (W : World) (a : Option Addr) (len cap : Nat) (g : Nat → GOp) (c : UInt8) (bp : Nat) (F : Nat → Value) (V : World) : Prop := F 3 = .pointer (some ⟨bp, 0, none⟩) ∧ F 28 = .slice a len cap ∧ F 29 = .int .i64 (len : Nat) ∧ ∃ i : Nat, i ≤ len ∧ F 30 = .int .i64 (i : Nat) ∧ Hid (LwS W g c (fun _ => True) bp i V)
/-- What is kept behind each piece of the round. -/
def cu3 (W : World) (a : Option Addr) (len cap i bp bo bv c1 c2 : Nat) (bx : List (Nat × List Value)) (L1 L2 : PLg) (t : Nat) (u : Value) (F : Nat → Value) (V : World) : Prop := F 3 = .pointer (some ⟨bp, 0, none⟩) ∧ F 5 = .pointer (some ⟨bo, 0, none⟩) ∧ F 6 = .pointer (some ⟨c1, 0, none⟩) ∧ F 7 = .pointer (some ⟨bv, 0, none⟩) ∧ F 28 = .slice a len cap ∧ F 29 = .int .i64 (len : Nat) ∧ F 30 = .int .i64 (i : Nat) ∧ F t = u ∧ Hid (TwI W c1 c2 bx L1 L2 V)
def lw3b (W : World) (bp bt c1 c2 : Nat) (pl : List Value) (L1 L2 : PLg) (F : Nat → Value) (V : World) : Prop := F 3 = .pointer (some ⟨bp, 0, none⟩) ∧ F 16 = .pointer (some ⟨bt, 0, none⟩) ∧ ∃ j : Nat, j ≤ 64 ∧ F 17 = .int .i64 (j : Nat) ∧ Hid (TwI W c1 c2 [(bt, (Tree.mk (lvN L1.st.now j)).enc), (bp, pl)] L1 L2 V)
set_option maxRecDepth 200000 in
set_option maxHeartbeats 4000000 in
theorem helpers_walk (W : World) (a : Option Addr) (len cap : Nat) (g : Nat → GOp) (dt : Nat → List Tx) (hS : ScriptAt W a len cap g dt) : Calls Tryz.prog 3 #[.slice a len cap] W fun e V => e = .returned (.bool true) ∧ W.Extends V := by
  obtain ⟨Q, hQ⟩ : ∃ Q : Ending → World → Prop, Q = fun e V => e = .returned (.bool true) ∧ W.Extends V := ⟨_, rfl⟩
  rw [← hQ]
  have HQ := hid_of hQ
  have HS := hid_of hS
  have hsm := small2_any W a len cap g dt hS
  have hch := chainOf2_any W a len cap g dt hS
  clear hQ hS
  go_enter Tryz.func3, Tryz.ntmps3
  go_wp2_with fail
  refine hsm.mono ?_
  clear hsm
  rintro e V0 ⟨⟨r, rfl, hr⟩, rfl⟩
  dsimp only
  cases r with
  | false =>
    have HP : Hid (Q (.returned (.bool true)) V0) := by
      show Q _ _
      rw [HQ.out]
      exact ⟨rfl, ext_Ext (Ext.refl _)⟩
    clear hch hr HS HQ
    go_wp2_with fail
    try (first | go_ret | go_ret2 | go_ret3 | go_end0)
    exact HP.out
  | true =>
  have HR := hid_of (hr rfl)
  clear hr
  go_wp2_with fail
  refine hch.mono ?_
  clear hch
  rintro e V0' ⟨c, hc, rfl, rfl⟩
  dsimp only
  have hnp := player_any V0' c hc
  have HC := hid_of hc
  clear hc
  go_wp2_with fail
  refine hnp.mono ?_
  clear hnp
  rintro e V1 ⟨b1, b2, rfl, h1⟩
  dsimp only
  obtain ⟨pl, hpl⟩ : ∃ pl, pl = Player.mk (some ⟨b1, 0, none⟩) (some ⟨b2, 0, none⟩) := ⟨_, rfl⟩
  rw [← hpl]
  have h2 := h1.box pl.enc 26
  obtain ⟨W2, hW2⟩ : ∃ W2 : World, W2 = V1.alloc (.cells pl.enc.toArray 26) := ⟨_, rfl⟩
  obtain ⟨bp, hbp⟩ : ∃ bp, bp = V1.heap.size := ⟨_, rfl⟩
  rw [← hW2, ← hbp] at h2
  have HI0 : Hid (LwS V0' g c (fun _ => True) bp 0 W2) := LwS.mk h2 (by rw [hpl]; simp) ⟨newL_li c HC.out, newL_ci c⟩ ⟨newL_li c HC.out, newL_ci c⟩ (Nat.zero_le _) (Nat.zero_le _) (newL_rci c _) (newL_rci c _)
  have HW2 := hid_of hW2
  have HBP := hid_of hbp
  clear hW2 hbp h1 h2 hpl
  go_upto_region 4 with fail
  rw [← HW2.out, ← HBP.out]
  clear HW2 HBP
  go_wp2_with fail
  refine wp_loop_f 233 (lw3 V0' a len cap g c bp) (fun f _ => len - (intOf (f 30)).toNat) rfl ⟨rfl, rfl, rfl, 0, Nat.zero_le _, rfl, HI0⟩ ?_
  clear HI0
  intro F V hrel
  obtain ⟨f3, f28, f29, i, hi, f30, HI⟩ := hrel
  have H30 := hid_of f30
  rw [frame233L, f3, f28, f29, f30]
  clear f3 f28 f29 f30
  obtain ⟨b1, b2, L1, L2, n, h0, hI1, hI2, hn, hR1, hR2⟩ := HI.out
  clear HI
  by_cases hin : i < len
  rotate_left 1
  · as_aux_lemma =>
    have hin' : ¬ (i : Int) < (len : Int) := by omega
    obtain ⟨pl1, hpl⟩ : ∃ pl1, pl1 = Player.mk (some ⟨b1, 0, none⟩) (some ⟨b2, 0, none⟩) := ⟨_, rfl⟩
    have h0' : TwI V0' b1 b2 [(bp, pl1.enc)] L1 L2 V := by rw [hpl]; exact h0
    have hph : nth pl1.enc 0 = some (.pointer (some ⟨b1, 0, none⟩)) := by rw [hpl]; exact Player.hand_get _
    have lpl : pl1.enc.length = 2 := Player.length_enc _
    have HCI := hid_of hI1.2
    have hnt := newTree_any V
    clear hin hi hI1 hI2 hn hR1 hR2 HS HR h0 hpl
    go_wp2_with fail
    refine hnt.mono ?_
    clear hnt
    rintro e V1 ⟨rfl, hx1⟩
    dsimp only
    have h1 := (h0'.ext hx1).box newT.enc 81
    obtain ⟨V2, hV2⟩ : ∃ V2 : World, V2 = V1.alloc (.cells newT.enc.toArray 81) := ⟨_, rfl⟩
    obtain ⟨bt, hbt⟩ : ∃ bt, bt = V1.heap.size := ⟨_, rfl⟩
    have hbn : bp ≠ bt := by
      have := (h0'.ext hx1).lt (p := (bp, pl1.enc)) (by simp)
      have : bp < V1.heap.size := this
      omega
    rw [← hV2, ← hbt, ← lvN_zero L1.st.now] at h1
    have HI0 := hid_of h1
    have HBN := hid_of hbn
    have HV2 := hid_of hV2
    have HBT := hid_of hbt
    clear hV2 hbt h1 h0' hx1 hbn
    go_upto_region 28 with fail
    rw [← HV2.out, ← HBT.out]
    clear HV2 HBT
    go_wp2_with fail
    refine wp_loop_f 233 (lw3b V0' bp bt b1 b2 pl1.enc L1 L2) (fun f _ => 64 - (intOf (f 17)).toNat) rfl ⟨rfl, rfl, 0, Nat.zero_le _, rfl, HI0⟩ ?_
    clear HI0
    intro F2 U hrel
    obtain ⟨f3, f16, j, hj, f17, HU⟩ := hrel
    have H17 := hid_of f17
    rw [frame233L, f3, f16, f17]
    clear f3 f16 f17
    have kp := (HU.out.at (b := bp) (C := pl1.enc) (by simp)).1
    by_cases hjn : j < 64
    rotate_left 1
    · have ej : j = 64 := by omega
      subst ej
      have hbd := slotLeaf_bad2 U b1
      have lz : zD32.length = 32 := length_arr _ _
      have oz : okCells 32 zD32 = true := ok_arr_u8 _
      have spz : splice zD32 0 zD32 = zD32 := splice_all _ _ rfl
      have spz2 : splice (arr u8v (Vector.replicate 32 0)) 0 zD32 = zD32 := splice_all _ _ (by rw [lz])
      clear hj hjn H17
      go_wp2_with fail
      refine hbd.mono ?_
      clear hbd
      rintro e U1 ⟨rfl, hx1⟩
      dsimp only
      have h2 := (HU.out.ext hx1).box zD32 47
      obtain ⟨U2, hU2⟩ : ∃ U2 : World, U2 = U1.alloc (.cells zD32.toArray 47) := ⟨_, rfl⟩
      obtain ⟨bd, hbd⟩ : ∃ bd, bd = U1.heap.size := ⟨_, rfl⟩
      rw [← hU2, ← hbd] at h2
      have h3 := h2.ext (extends_drewN (ext_Ext (Ext.refl U2)) 1)
      have kp3 := (h3.at (b := bp) (C := pl1.enc) (by simp)).1
      have kt3 := (h3.at (b := bt) (C := (Tree.mk (lvN L1.st.now 64)).enc) (by simp)).1
      have hmr := mroot_any (U2.drewN 1) bt 0 _ kt3 (lvN L1.st.now 64) (by rw [seg_all _ _ (Tree.length_enc _)]; exact tree_enc _) (by rw [Tree.length_enc]; omega)
      have hrt : topD (lvN L1.st.now 64) = rootD L1.st := by
        rw [HCI.out.coh.root, lvN_all]
        rfl
      rw [hrt] at hmr
      have HU2 := hid_of hU2
      have HBD := hid_of hbd
      clear hx1 hU2 hbd h2 HU kp hrt kt3
      go_upto_region 36 with fail
      rw [← HU2.out, ← HBD.out]
      clear HU2 HBD
      repeat go_step
      refine wp_region_F 9 (fun W' => blk W' bp = some pl1.enc) (by kernel_rfl) kp3 (fun hHeld => ?_)
      refine wpAnyF_take (i := 0) (oi := ⟨_, _, _, _, _, _⟩) (v := ?_) rfl (by kernel_rfl) (by kernel_rfl) (by kernel_rfl) (by kernel_rfl) (by kernel_rfl) (fun _ _ _ h => h) (Or.inl ⟨by rfl, ?_⟩) (by assumption) ?_
      rotate_left 1
      · intro W' hSw
        go_simp
        try with_reducible rfl
      try (simp only [Act.put, List.setIfInBounds_toArray]; dsimp only [List.set_cons_zero, List.set_cons_succ])
      refine wpAnyF_take (i := 1) (oi := ⟨_, _, _, _, _, _⟩) (v := ?_) rfl (by kernel_rfl) (by kernel_rfl) (by kernel_rfl) (by kernel_rfl) (by kernel_rfl) (fun _ _ _ h => h) (Or.inl ⟨by rfl, ?_⟩) (by assumption) ?_
      rotate_left 1
      · intro W' hSw
        go_simp
        try with_reducible rfl
      try (simp only [Act.put, List.setIfInBounds_toArray]; dsimp only [List.set_cons_zero, List.set_cons_succ])
      refine wpAnyF_take (i := 2) (oi := ⟨_, _, _, _, _, _⟩) (v := ?_) rfl (by kernel_rfl) (by kernel_rfl) (by kernel_rfl) (by kernel_rfl) (by kernel_rfl) (fun _ _ _ h => h) (Or.inl ⟨by rfl, ?_⟩) (by assumption) ?_
      rotate_left 1
      · intro W' hSw
        go_simp
        try with_reducible rfl
      try (simp only [Act.put, List.setIfInBounds_toArray]; dsimp only [List.set_cons_zero, List.set_cons_succ])
      refine wpAnyF_take (i := 4) (oi := ⟨_, _, _, _, _, _⟩) (v := ?_) rfl (by kernel_rfl) (by kernel_rfl) (by kernel_rfl) (by kernel_rfl) (by kernel_rfl) (fun _ _ _ h => h) (Or.inl ⟨by rfl, ?_⟩) (by assumption) ?_
      rotate_left 1
      · intro W' hSw
        go_simp
        try with_reducible rfl
      try (simp only [Act.put, List.setIfInBounds_toArray]; dsimp only [List.set_cons_zero, List.set_cons_succ])
      refine wpAnyF_take (i := 5) (oi := ⟨_, _, _, _, _, _⟩) (v := ?_) rfl (by kernel_rfl) (by kernel_rfl) (by kernel_rfl) (by kernel_rfl) (by kernel_rfl) (fun _ _ _ h => h) (Or.inl ⟨by rfl, ?_⟩) (by assumption) ?_
      rotate_left 1
      · intro W' hSw
        go_simp
        try with_reducible rfl
      try (simp only [Act.put, List.setIfInBounds_toArray]; dsimp only [List.set_cons_zero, List.set_cons_succ])
      refine wpAnyF_one (o := ⟨_, _, _, _, _, _⟩) (i := 3) (by kernel_rfl) rfl rfl (fun K' hK => ?_)
      go_simp
      refine hmr.mono ?_
      clear hmr
      rintro e U3 ⟨rfl, hx3⟩
      dsimp only
      have h4 := h3.ext hx3
      clear hx3
      have kp4 := (h4.at (b := bp) (C := pl1.enc) (by simp)).1
      refine hK.out _ _ kp4 (fun hHeld => ?_)
      clear hK K'
      try (simp only [Act.put, List.setIfInBounds_toArray]; dsimp only [List.set_cons_zero, List.set_cons_succ])
      have hr := h4.root
      obtain ⟨D0, hD0⟩ : ∃ D0, D0 = rootD L1.st := ⟨_, rfl⟩
      rw [← hD0] at hr ⊢
      have hDD : ∀ w X Y, (cmpEq 47 X Y (.agg (arr u8v D0).toArray) (.agg (arr u8v D0).toArray)).run Tryz.prog w = .ok (.value (.bool true)) w := fun w X Y => by rw [eql47, eqA_self]
      clear hD0 h3 kp3
      refine wpAnyF_one (o := ⟨_, _, _, _, _, _⟩) (i := 6) (by kernel_rfl) rfl rfl (fun K' hK => ?_)
      go_simp
      refine hr.mono ?_
      clear hr
      rintro e U4 ⟨rfl, h5⟩
      dsimp only
      have kp5 := (h5.at (b := bp) (C := pl1.enc) (by simp)).1
      refine hK.out _ _ kp5 (fun hHeld => ?_)
      clear hK K'
      try (simp only [Act.put, List.setIfInBounds_toArray]; dsimp only [List.set_cons_zero, List.set_cons_succ])
      refine wpAnyF_take (i := 7) (oi := ⟨_, _, _, _, _, _⟩) (v := ?_) rfl (by kernel_rfl) (by kernel_rfl) (by kernel_rfl) (by kernel_rfl) (by kernel_rfl) (fun _ _ _ h => h) (Or.inl ⟨by rfl, ?_⟩) (by assumption) ?_
      rotate_left 1
      · intro W' hSw
        go_simp
        try with_reducible rfl
      try (simp only [Act.put, List.setIfInBounds_toArray]; dsimp only [List.set_cons_zero, List.set_cons_succ])
      refine wpAnyF_take (i := 8) (oi := ⟨_, _, _, _, _, _⟩) (v := ?_) rfl (by kernel_rfl) (by kernel_rfl) (by kernel_rfl) (by kernel_rfl) (by kernel_rfl) (fun _ _ _ h => h) (Or.inl ⟨by rfl, ?_⟩) (by assumption) ?_
      rotate_left 1
      · intro W' hSw
        go_simp
        try with_reducible rfl
      try (simp only [Act.put, List.setIfInBounds_toArray]; dsimp only [List.set_cons_zero, List.set_cons_succ])
      refine wpAnyF_last (o := ⟨_, _, _, _, _, _⟩) (by kernel_rfl) rfl (fun K' hK => ?_)
      go_simp
      refine hK.out _ _ ?_
      clear hK K'
      try (simp only [Act.put, List.setIfInBounds_toArray]; dsimp only [List.set_cons_zero, List.set_cons_succ])
      refine wpAnyF_done (by kernel_rfl) ?_ _
      clear hHeld
      have HP : Hid (Q (.returned (.bool true)) U4) := by
        show Q _ _
        rw [HQ.out]
        exact ⟨rfl, h5.we⟩
      clear h4 h5 kp4 kp5 hph lpl HQ hDD
      try go_wp2_with fail
      try (first | go_ret | go_ret2 | go_ret3 | go_end0)
      exact HP.out
    have hjn' : (j : Int) < 64 := by omega
    have hcv : IntKind.u8.wrap (j : Int) = ((j : Nat) : Int) := by
      rw [IntKind.wrap_u8]
      omega
    have hsl := HU.out.q38 j hjn
    have hj9 : (j : Int) + 1 ≤ 65 := by omega
    have HJN := hid_of hjn
    obtain ⟨D, hD⟩ : ∃ D, D = leafF L1.st.now j := ⟨_, rfl⟩
    rw [← hD] at hsl
    have HD := hid_of hD
    clear hj hD hjn
    go_wp2_with fail
    refine hsl.mono ?_
    clear hsl
    rintro e U1 ⟨rfl, hx1⟩
    dsimp only
    have h2 := (HU.out.ext hx1).box (arr u8v D) 47
    obtain ⟨U2, hU2⟩ : ∃ U2 : World, U2 = U1.alloc (.cells (arr u8v D).toArray 47) := ⟨_, rfl⟩
    obtain ⟨bd, hbd⟩ : ∃ bd, bd = U1.heap.size := ⟨_, rfl⟩
    rw [← hU2, ← hbd] at h2
    have kt := h2.at (b := bt) (C := (Tree.mk (lvN L1.st.now j)).enc) (by simp)
    have kd := (h2.at (b := bd) (C := arr u8v D) (by simp)).1
    have ld : (arr u8v D).length = 32 := length_arr _ _
    have hset := set_any U2 bt 0 _ kt.1 kt.2 j HJN.out (by rw [Tree.length_enc]; omega) D
    rw [tree_put _ _ HJN.out, HD.out, lvN_set _ _ HJN.out, ← HD.out] at hset
    have H2 := hid_of h2
    have HU2 := hid_of hU2
    have HBD := hid_of hbd
    clear hx1 hU2 hbd h2 HU kt kp
    go_upto_region 32 with fail
    rw [← HU2.out, ← HBD.out]
    clear HU2 HBD
    go_wp2_with fail
    refine hset.mono ?_
    clear hset kd
    rintro e U3 ⟨rfl, k3, q3, hw⟩
    dsimp only
    have HJ3 : Hid (TwI V0' b1 b2 [(bt, (Tree.mk (lvN L1.st.now (j + 1))).enc), (bp, pl1.enc)] L1 L2 U3) := TwI.wb (H2.out.sub (bx' := [(bt, (Tree.mk (lvN L1.st.now j)).enc), (bp, pl1.enc)]) (fun p hp => by simp only [List.mem_cons, List.not_mem_nil, or_false] at hp ⊢; rcases hp with rfl | rfl <;> simp)) (fun p hp => by rw [List.mem_singleton.1 hp]; exact HBN.out) hw k3 q3
    clear hw k3 q3 H2 ld
    go_wp2_with fail
    refine ⟨rfl, rfl, ⟨rfl, rfl, j + 1, HJN.out, ?_, HJ3⟩, ?_⟩
    · show Value.int .i64 _ = _
      go_num
    · show 64 - (intOf (Value.int .i64 _)).toNat < 64 - (intOf (F2 17)).toNat
      rw [H17.out]
      have := HJN.out
      simp [intOf]; omega
  have hin' : (i : Int) < (len : Int) := by omega
  have p0 : (0 : Int) ≤ (i : Int) := by omega
  have p2 : ((i : Int)).toNat = i := by omega
  obtain ⟨b, o, C, ha, kb0, hlen, hseg⟩ := HS.out.2.2.2 (by omega)
  have hsg := hseg i hin
  have kb : blk V b = some C := ((TwI.we h0).blk (blk_lt kb0)).trans kb0
  obtain ⟨hft, hT, -⟩ := HS.out.2.2.1 i hin
  have g90 : o + i * 90 + 90 ≤ C.length := by omega
  have hsum : len + sumT g len ≤ 65536 := HR.out
  have hsm := sumT_mono g (show i + 1 ≤ len from hin)
  have hsi : sumT g (i + 1) = sumT g i + (g i).txs.len := rfl
  have hXl : (dt i).length = (g i).txs.len := hT.1
  obtain ⟨x, hx⟩ : ∃ x, x = g i := ⟨_, rfl⟩
  rw [← hx] at hsg hft hT hsi hXl
  obtain ⟨X, hX⟩ : ∃ X, X = dt i := ⟨_, rfl⟩
  rw [← hX] at hT hXl
  have h1 := TwI.box h0 x.enc 43
  obtain ⟨V1', hV1⟩ : ∃ V1', V1' = V.alloc (.cells x.enc.toArray 43) := ⟨_, rfl⟩
  obtain ⟨bo, hbo⟩ : ∃ bo, bo = V.heap.size := ⟨_, rfl⟩
  obtain ⟨pl1, hpl⟩ : ∃ pl1, pl1 = Player.mk (some ⟨b1, 0, none⟩) (some ⟨b2, 0, none⟩) := ⟨_, rfl⟩
  have hob : bo ≠ bp := by
    have := TwI.lt h0 (List.mem_cons_self ..)
    have : bp < V.heap.size := this
    omega
  rw [← hV1, ← hbo, ← hpl] at h1
  have hph : nth pl1.enc 0 = some (.pointer (some ⟨b1, 0, none⟩)) := by rw [hpl]; exact Player.hand_get _
  have lpl : pl1.enc.length = 2 := Player.length_enc _
  have hi9 : (i : Int) + 1 ≤ 65537 := by omega
  have HV1 := hid_of hV1
  have HBO := hid_of hbo
  have HPL := hid_of hpl
  have HOB := hid_of hob
  have HN : Hid (i < len ∧ n + X.length + 1 ≤ (i + 1) + sumT g (i + 1) ∧ (i + 1) + sumT g (i + 1) ≤ 65536) := ⟨hin, by omega, by omega⟩
  have HT := hid_of hT
  have HI1 := hid_of hI1
  have HI2 := hid_of hI2
  have HR1 := hid_of hR1
  have HR2 := hid_of hR2
  have ko := (h1.at (b := bo) (C := x.enc) (by simp)).1
  have kp := (h1.at (b := bp) (C := pl1.enc) (by simp)).1
  subst ha
  clear hin hi hseg kb0 hft hsum hsm hsi hXl hV1 hbo hx hX h0 hn hpl hob hT hI1 hI2 hR1 hR2
  go_upto_region 7 with fail
  rw [← HV1.out, ← HBO.out]
  clear HV1 HBO kb hsg g90 hlen
  have HH : Hid (((LI (n + (X.length + 1)) (stpF L1 L2 x X).2.1 ∧ CI (stpF L1 L2 x X).2.1) ∧ (LI (n + (X.length + 1)) (stpF L1 L2 x X).2.2 ∧ CI (stpF L1 L2 x X).2.2)) ∧ (RcI c (fun _ => True) (stpF L1 L2 x X).2.1 ∧ RcI c (fun _ => True) (stpF L1 L2 x X).2.2)) := ⟨stpF_sound HI1.out HI2.out (by have := HN.out.2; omega), RcI.stp (fun _ _ _ _ => trivial) HR1.out HR2.out HI1.out.1.dep⟩
  have hst := step_any V0' V1' b1 b2 bp [(bo, x.enc)] L1 L2 x X (by
    show TwI _ _ _ _ _ _ _
    rw [← HPL.out]
    exact h1.sub (fun p hp => by simp only [List.mem_cons, List.not_mem_nil, or_false] at hp ⊢; rcases hp with rfl | rfl <;> simp)) (fun p hp => by
    simp only [List.mem_cons, List.not_mem_nil, or_false] at hp
    rcases hp with rfl
    exact HOB.out) (HI1.out.1.sti x.gas X (by have := HN.out.2; omega)) HT.out
  obtain ⟨sr, hsr⟩ : ∃ sr, sr = stpF L1 L2 x X := ⟨_, rfl⟩
  rw [← hsr] at hst HH
  have HI9 := hid_of hi9
  clear hsr h1 hi9 hph lpl kp
  go_wp2_with fail
  refine hst.mono ?_
  clear hst ko
  rintro e V5 ⟨rc, mv, c1, c2, bx', rfl, h5, -, -, -⟩
  dsimp only
  obtain ⟨pl2, hpl2⟩ : ∃ pl2, pl2 = Player.mk (some ⟨c1, 0, none⟩) (some ⟨c2, 0, none⟩) := ⟨_, rfl⟩
  have h5' : TwI V0' c1 c2 ((bp, (Player.mk (some ⟨c1, 0, none⟩) (some ⟨c2, 0, none⟩)).enc) :: (bx' ++ [(bo, x.enc)])) sr.2.1 sr.2.2 V5 := h5
  rw [← hpl2] at h5'
  have h6 : TwI V0' c1 c2 [(bo, x.enc), (bp, pl2.enc)] sr.2.1 sr.2.2 V5 := h5'.sub (fun p hp => by
    simp only [List.mem_cons, List.mem_append, List.not_mem_nil, or_false] at hp ⊢
    rcases hp with rfl | rfl <;> simp)
  have hph : nth pl2.enc 0 = some (.pointer (some ⟨c1, 0, none⟩)) := by rw [hpl2]; exact Player.hand_get _
  have lpl : pl2.enc.length = 2 := Player.length_enc _
  have kp := (h6.at (b := bp) (C := pl2.enc) (by simp)).1
  have hvw := TwI.view h6
  obtain ⟨v, hv⟩ : ∃ v, v = viewF sr.2.1 := ⟨_, rfl⟩
  rw [← hv] at hvw
  have HVV := hid_of hv
  have HPL2 := hid_of hpl2
  have H6 := hid_of h6
  clear h5 h5' h6 hpl2 hv
  go_wp2_with fail
  refine hvw.mono ?_
  clear hvw
  rintro e V7 ⟨rfl, hx7⟩
  dsimp only
  have h8 := (H6.out.ext hx7).box v.enc 61
  obtain ⟨V8, hV8⟩ : ∃ V8, V8 = V7.alloc (.cells v.enc.toArray 61) := ⟨_, rfl⟩
  obtain ⟨bv, hbv⟩ : ∃ bv, bv = V7.heap.size := ⟨_, rfl⟩
  rw [← hV8, ← hbv] at h8
  obtain ⟨bx, hbx⟩ : ∃ bx, bx = [(bv, v.enc), (bo, x.enc), (bp, pl2.enc)] := ⟨_, rfl⟩
  have HM : Hid ((bv, v.enc) ∈ bx ∧ (bo, x.enc) ∈ bx ∧ (bp, pl2.enc) ∈ bx) := by rw [hbx]; exact ⟨by simp, by simp, by simp⟩
  rw [← hbx] at h8
  obtain ⟨M1, hM1⟩ : ∃ M1, M1 = sr.2.1 := ⟨_, rfl⟩
  obtain ⟨M2, hM2⟩ : ∃ M2, M2 = sr.2.2 := ⟨_, rfl⟩
  rw [← hM1, ← hM2] at h8 HH
  rw [← hM1] at HVV
  obtain ⟨sq, hsq0⟩ : ∃ sq, sq = x.seq % 5 := ⟨_, rfl⟩
  have hm5 : Int.tmod (w64 x.seq) 5 = w64 sq := by
    have e1 : (x.seq % 5).toNat = x.seq.toNat % 5 := by rw [UInt64.toNat_mod]; rfl
    show Int.tmod (x.seq.toNat : Int) 5 = ((sq.toNat : Nat) : Int)
    rw [hsq0, e1, Int.tmod_eq_emod_of_nonneg (by omega)]
    omega
  have HM5 := hid_of hm5
  have hD := h8.ext (extends_drewN (ext_Ext (Ext.refl V8)) 1)
  have HV8 := hid_of hV8
  have HBV := hid_of hbv
  clear hx7 h8 hV8 hbv H6 kp hph lpl hbx hM1 hM2 hsq0 hm5
  go_upto_region 10 with fail
  rw [← HV8.out, ← HBV.out]
  clear HV8 HBV
  obtain ⟨I10, hI10⟩ : ∃ I : (Nat → Value) → World → Prop, I = cu3 V0' (some ⟨b, o, none⟩) len cap i bp bo bv c1 c2 bx M1 M2 65 (.bool false) := ⟨_, rfl⟩
  have HI10 := hid_of hI10
  clear hI10
  refine wp_cut_g 233 I10 (fun _ _ _ _ _ h => h) ?_ ?_
  · intro Q9 hQ9
    as_aux_lemma =>
      repeat go_step
      refine wp_region_F 25 (fun W' => blk W' bv = some v.enc ∧ blk W' bo = some x.enc) (by kernel_rfl) ⟨(hD.at (b := bv) (C := v.enc) HM.out.1).1, (hD.at (b := bo) (C := x.enc) HM.out.2.1).1⟩ (fun hHeld => ?_)
      refine wpAnyF_take2 [19, 18, 12, 11, 5, 1] (i := 0) (oi := ⟨_, _, _, _, _, _⟩) (v := ?_) rfl (by kernel_rfl) (by kernel_rfl) (by kernel_rfl) (by kernel_rfl) (by kernel_rfl) (fun c9 a9 w9 h9 => hQ9 c9 a9 _ _ w9 h9) (Or.inl ⟨by rfl, ?_⟩) (by assumption) ?_
      rotate_left 1
      · intro W' hSw
        obtain ⟨hS1, hS2⟩ := hSw
        go_simp
        try with_reducible rfl
      try (simp only [Act.put, List.setIfInBounds_toArray]; dsimp only [List.set_cons_zero, List.set_cons_succ])
      refine wpAnyF_take2 [19, 18, 12, 11, 5, 4, 3] (i := 2) (oi := ⟨_, _, _, _, _, _⟩) (v := ?_) rfl (by kernel_rfl) (by kernel_rfl) (by kernel_rfl) (by kernel_rfl) (by kernel_rfl) (fun c9 a9 w9 h9 => hQ9 c9 a9 _ _ w9 h9) (Or.inl ⟨by rfl, ?_⟩) (by assumption) ?_
      rotate_left 1
      · intro W' hSw
        obtain ⟨hS1, hS2⟩ := hSw
        go_simp
        try with_reducible rfl
      try (simp only [Act.put, List.setIfInBounds_toArray]; dsimp only [List.set_cons_zero, List.set_cons_succ])
      refine wpAnyF_take2 [19, 18, 12, 11, 5, 4] (i := 3) (oi := ⟨_, _, _, _, _, _⟩) (v := ?_) rfl (by kernel_rfl) (by kernel_rfl) (by kernel_rfl) (by kernel_rfl) (by kernel_rfl) (fun c9 a9 w9 h9 => hQ9 c9 a9 _ _ w9 h9) (Or.inl ⟨by rfl, ?_⟩) (by assumption) ?_
      rotate_left 1
      · intro W' hSw
        obtain ⟨hS1, hS2⟩ := hSw
        go_simp
        try with_reducible rfl
      try (simp only [Act.put, List.setIfInBounds_toArray]; dsimp only [List.set_cons_zero, List.set_cons_succ])
      refine wpAnyF_one (o := ⟨_, _, _, _, _, _⟩) (i := 1) (by kernel_rfl) rfl rfl (fun K' hK => ?_)
      go_simp
      have hq1 := hD.q20
      try rw [← HVV.out] at hq1
      refine hq1.mono ?_
      clear hq1
      rintro e VD1 ⟨rfl, hx1⟩
      dsimp only
      have hD1 := hD.ext hx1
      clear hx1
      refine hK.out _ _ ⟨(hD1.at (b := bv) (C := v.enc) HM.out.1).1, (hD1.at (b := bo) (C := x.enc) HM.out.2.1).1⟩ (fun hHeld => ?_)
      clear hK K'
      try (simp only [Act.put, List.setIfInBounds_toArray]; dsimp only [List.set_cons_zero, List.set_cons_succ])
      refine wpAnyF_take2 [19, 18, 12, 11, 5] (i := 4) (oi := ⟨_, _, _, _, _, _⟩) (v := ?_) rfl (by kernel_rfl) (by kernel_rfl) (by kernel_rfl) (by kernel_rfl) (by kernel_rfl) (fun c9 a9 w9 h9 => hQ9 c9 a9 _ _ w9 h9) (Or.inl ⟨by rfl, ?_⟩) (by assumption) ?_
      rotate_left 1
      · intro W' hSw
        obtain ⟨hS1, hS2⟩ := hSw
        go_simp
        try with_reducible rfl
      try (simp only [Act.put, List.setIfInBounds_toArray]; dsimp only [List.set_cons_zero, List.set_cons_succ])
      refine wpAnyF_take2 [19, 18, 12, 11] (i := 5) (oi := ⟨_, _, _, _, _, _⟩) (v := ?_) rfl (by kernel_rfl) (by kernel_rfl) (by kernel_rfl) (by kernel_rfl) (by kernel_rfl) (fun c9 a9 w9 h9 => hQ9 c9 a9 _ _ w9 h9) (Or.inl ⟨by rfl, ?_⟩) (by assumption) ?_
      rotate_left 1
      · intro W' hSw
        obtain ⟨hS1, hS2⟩ := hSw
        go_simp
        try with_reducible rfl
      try (simp only [Act.put, List.setIfInBounds_toArray]; dsimp only [List.set_cons_zero, List.set_cons_succ])
      refine wpAnyF_take2 [19, 18, 12, 7] (i := 6) (oi := ⟨_, _, _, _, _, _⟩) (v := ?_) rfl (by kernel_rfl) (by kernel_rfl) (by kernel_rfl) (by kernel_rfl) (by kernel_rfl) (fun c9 a9 w9 h9 => hQ9 c9 a9 _ _ w9 h9) (Or.inl ⟨by rfl, ?_⟩) (by assumption) ?_
      rotate_left 1
      · intro W' hSw
        obtain ⟨hS1, hS2⟩ := hSw
        go_simp
        try with_reducible rfl
      try (simp only [Act.put, List.setIfInBounds_toArray]; dsimp only [List.set_cons_zero, List.set_cons_succ])
      refine wpAnyF_take2 [19, 18, 12, 11, 10, 9] (i := 8) (oi := ⟨_, _, _, _, _, _⟩) (v := ?_) rfl (by kernel_rfl) (by kernel_rfl) (by kernel_rfl) (by kernel_rfl) (by kernel_rfl) (fun c9 a9 w9 h9 => hQ9 c9 a9 _ _ w9 h9) (Or.inl ⟨by rfl, ?_⟩) (by assumption) ?_
      rotate_left 1
      · intro W' hSw
        obtain ⟨hS1, hS2⟩ := hSw
        go_simp
        try with_reducible rfl
      try (simp only [Act.put, List.setIfInBounds_toArray]; dsimp only [List.set_cons_zero, List.set_cons_succ])
      refine wpAnyF_take2 [19, 18, 12, 11, 10] (i := 9) (oi := ⟨_, _, _, _, _, _⟩) (v := ?_) rfl (by kernel_rfl) (by kernel_rfl) (by kernel_rfl) (by kernel_rfl) (by kernel_rfl) (fun c9 a9 w9 h9 => hQ9 c9 a9 _ _ w9 h9) (Or.inl ⟨by rfl, ?_⟩) (by assumption) ?_
      rotate_left 1
      · intro W' hSw
        obtain ⟨hS1, hS2⟩ := hSw
        go_simp
        try with_reducible rfl
      try (simp only [Act.put, List.setIfInBounds_toArray]; dsimp only [List.set_cons_zero, List.set_cons_succ])
      refine wpAnyF_one (o := ⟨_, _, _, _, _, _⟩) (i := 7) (by kernel_rfl) rfl rfl (fun K' hK => ?_)
      go_simp
      have hq2 := hD1.q21
      try rw [← HVV.out] at hq2
      refine hq2.mono ?_
      clear hq2
      rintro e VD2 ⟨rfl, hx2⟩
      dsimp only
      have hD2 := hD1.ext hx2
      clear hx2
      refine hK.out _ _ ⟨(hD2.at (b := bv) (C := v.enc) HM.out.1).1, (hD2.at (b := bo) (C := x.enc) HM.out.2.1).1⟩ (fun hHeld => ?_)
      clear hK K'
      try (simp only [Act.put, List.setIfInBounds_toArray]; dsimp only [List.set_cons_zero, List.set_cons_succ])
      refine wpAnyF_take2 [19, 18, 12, 11] (i := 10) (oi := ⟨_, _, _, _, _, _⟩) (v := ?_) rfl (by kernel_rfl) (by kernel_rfl) (by kernel_rfl) (by kernel_rfl) (by kernel_rfl) (fun c9 a9 w9 h9 => hQ9 c9 a9 _ _ w9 h9) (Or.inl ⟨by rfl, ?_⟩) (by assumption) ?_
      rotate_left 1
      · intro W' hSw
        obtain ⟨hS1, hS2⟩ := hSw
        go_simp
        try with_reducible rfl
      try (simp only [Act.put, List.setIfInBounds_toArray]; dsimp only [List.set_cons_zero, List.set_cons_succ])
      refine wpAnyF_take2 [19, 18, 12] (i := 11) (oi := ⟨_, _, _, _, _, _⟩) (v := ?_) rfl (by kernel_rfl) (by kernel_rfl) (by kernel_rfl) (by kernel_rfl) (by kernel_rfl) (fun c9 a9 w9 h9 => hQ9 c9 a9 _ _ w9 h9) (Or.inl ⟨by rfl, ?_⟩) (by assumption) ?_
      rotate_left 1
      · intro W' hSw
        obtain ⟨hS1, hS2⟩ := hSw
        go_simp
        try with_reducible rfl
      try (simp only [Act.put, List.setIfInBounds_toArray]; dsimp only [List.set_cons_zero, List.set_cons_succ])
      refine wpAnyF_take2 [19, 18] (i := 12) (oi := ⟨_, _, _, _, _, _⟩) (v := ?_) rfl (by kernel_rfl) (by kernel_rfl) (by kernel_rfl) (by kernel_rfl) (by kernel_rfl) (fun c9 a9 w9 h9 => hQ9 c9 a9 _ _ w9 h9) (Or.inl ⟨by rfl, ?_⟩) (by assumption) ?_
      rotate_left 1
      · intro W' hSw
        obtain ⟨hS1, hS2⟩ := hSw
        go_simp
        try with_reducible rfl
      try (simp only [Act.put, List.setIfInBounds_toArray]; dsimp only [List.set_cons_zero, List.set_cons_succ])
      refine wpAnyF_take2 [19, 14] (i := 13) (oi := ⟨_, _, _, _, _, _⟩) (v := ?_) rfl (by kernel_rfl) (by kernel_rfl) (by kernel_rfl) (by kernel_rfl) (by kernel_rfl) (fun c9 a9 w9 h9 => hQ9 c9 a9 _ _ w9 h9) (Or.inl ⟨by rfl, ?_⟩) (by assumption) ?_
      rotate_left 1
      · intro W' hSw
        obtain ⟨hS1, hS2⟩ := hSw
        go_simp
        try with_reducible rfl
      try (simp only [Act.put, List.setIfInBounds_toArray]; dsimp only [List.set_cons_zero, List.set_cons_succ])
      refine wpAnyF_take2 [19, 18, 17, 16] (i := 15) (oi := ⟨_, _, _, _, _, _⟩) (v := ?_) rfl (by kernel_rfl) (by kernel_rfl) (by kernel_rfl) (by kernel_rfl) (by kernel_rfl) (fun c9 a9 w9 h9 => hQ9 c9 a9 _ _ w9 h9) (Or.inl ⟨by rfl, ?_⟩) (by assumption) ?_
      rotate_left 1
      · intro W' hSw
        obtain ⟨hS1, hS2⟩ := hSw
        go_simp
        try with_reducible rfl
      try (simp only [Act.put, List.setIfInBounds_toArray]; dsimp only [List.set_cons_zero, List.set_cons_succ])
      refine wpAnyF_take2 [19, 18, 17] (i := 16) (oi := ⟨_, _, _, _, _, _⟩) (v := ?_) rfl (by kernel_rfl) (by kernel_rfl) (by kernel_rfl) (by kernel_rfl) (by kernel_rfl) (fun c9 a9 w9 h9 => hQ9 c9 a9 _ _ w9 h9) (Or.inl ⟨by rfl, ?_⟩) (by assumption) ?_
      rotate_left 1
      · intro W' hSw
        obtain ⟨hS1, hS2⟩ := hSw
        go_simp
        try with_reducible rfl
      try (simp only [Act.put, List.setIfInBounds_toArray]; dsimp only [List.set_cons_zero, List.set_cons_succ])
      refine wpAnyF_one (o := ⟨_, _, _, _, _, _⟩) (i := 14) (by kernel_rfl) rfl rfl (fun K' hK => ?_)
      go_simp
      have hq3 := hD2.q22
      try rw [← HVV.out] at hq3
      refine hq3.mono ?_
      clear hq3
      rintro e VD3 ⟨rfl, hx3⟩
      dsimp only
      have hD3 := hD2.ext hx3
      clear hx3
      refine hK.out _ _ ⟨(hD3.at (b := bv) (C := v.enc) HM.out.1).1, (hD3.at (b := bo) (C := x.enc) HM.out.2.1).1⟩ (fun hHeld => ?_)
      clear hK K'
      try (simp only [Act.put, List.setIfInBounds_toArray]; dsimp only [List.set_cons_zero, List.set_cons_succ])
      refine wpAnyF_take2 [19, 18] (i := 17) (oi := ⟨_, _, _, _, _, _⟩) (v := ?_) rfl (by kernel_rfl) (by kernel_rfl) (by kernel_rfl) (by kernel_rfl) (by kernel_rfl) (fun c9 a9 w9 h9 => hQ9 c9 a9 _ _ w9 h9) (Or.inl ⟨by rfl, ?_⟩) (by assumption) ?_
      rotate_left 1
      · intro W' hSw
        obtain ⟨hS1, hS2⟩ := hSw
        go_simp
        try with_reducible rfl
      try (simp only [Act.put, List.setIfInBounds_toArray]; dsimp only [List.set_cons_zero, List.set_cons_succ])
      refine wpAnyF_take2 [19] (i := 18) (oi := ⟨_, _, _, _, _, _⟩) (v := ?_) rfl (by kernel_rfl) (by kernel_rfl) (by kernel_rfl) (by kernel_rfl) (by kernel_rfl) (fun c9 a9 w9 h9 => hQ9 c9 a9 _ _ w9 h9) (Or.inl ⟨by rfl, ?_⟩) (by assumption) ?_
      rotate_left 1
      · intro W' hSw
        obtain ⟨hS1, hS2⟩ := hSw
        go_simp
        try with_reducible rfl
      try (simp only [Act.put, List.setIfInBounds_toArray]; dsimp only [List.set_cons_zero, List.set_cons_succ])
      refine wpAnyF_take2 [] (i := 19) (oi := ⟨_, _, _, _, _, _⟩) (v := ?_) rfl (by kernel_rfl) (by kernel_rfl) (by kernel_rfl) (by kernel_rfl) (by kernel_rfl) (fun c9 a9 w9 h9 => hQ9 c9 a9 _ _ w9 h9) (Or.inl ⟨by rfl, ?_⟩) (by assumption) ?_
      rotate_left 1
      · intro W' hSw
        obtain ⟨hS1, hS2⟩ := hSw
        go_simp
        try with_reducible rfl
      try (simp only [Act.put, List.setIfInBounds_toArray]; dsimp only [List.set_cons_zero, List.set_cons_succ])
      refine wpAnyF_take2 [24, 21] (i := 20) (oi := ⟨_, _, _, _, _, _⟩) (v := ?_) rfl (by kernel_rfl) (by kernel_rfl) (by kernel_rfl) (by kernel_rfl) (by kernel_rfl) (fun c9 a9 w9 h9 => hQ9 c9 a9 _ _ w9 h9) (Or.inl ⟨by rfl, ?_⟩) (by assumption) ?_
      rotate_left 1
      · intro W' hSw
        obtain ⟨hS1, hS2⟩ := hSw
        go_simp
        try with_reducible rfl
      try (simp only [Act.put, List.setIfInBounds_toArray]; dsimp only [List.set_cons_zero, List.set_cons_succ])
      refine wpAnyF_take2 [24, 23] (i := 22) (oi := ⟨_, _, _, _, _, _⟩) (v := ?_) rfl (by kernel_rfl) (by kernel_rfl) (by kernel_rfl) (by kernel_rfl) (by kernel_rfl) (fun c9 a9 w9 h9 => hQ9 c9 a9 _ _ w9 h9) (Or.inl ⟨by rfl, ?_⟩) (by assumption) ?_
      rotate_left 1
      · intro W' hSw
        obtain ⟨hS1, hS2⟩ := hSw
        go_simp
        try with_reducible rfl
      try (simp only [Act.put, List.setIfInBounds_toArray]; dsimp only [List.set_cons_zero, List.set_cons_succ])
      refine wpAnyF_take2 [24] (i := 23) (oi := ⟨_, _, _, _, _, _⟩) (v := ?_) rfl (by kernel_rfl) (by kernel_rfl) (by kernel_rfl) (by kernel_rfl) (by kernel_rfl) (fun c9 a9 w9 h9 => hQ9 c9 a9 _ _ w9 h9) (Or.inl ⟨by rfl, ?_⟩) (by assumption) ?_
      rotate_left 1
      · intro W' hSw
        obtain ⟨hS1, hS2⟩ := hSw
        go_simp
        try with_reducible rfl
      try (simp only [Act.put, List.setIfInBounds_toArray]; dsimp only [List.set_cons_zero, List.set_cons_succ])
      refine wpAnyF_one (o := ⟨_, _, _, _, _, _⟩) (i := 21) (by kernel_rfl) rfl rfl (fun K' hK => ?_)
      go_simp
      have hq4 := hD3.q23
      try rw [← HVV.out] at hq4
      refine hq4.mono ?_
      clear hq4
      rintro e VD4 ⟨rfl, hx4⟩
      dsimp only
      have hD4 := hD3.ext hx4
      clear hx4
      refine hK.out _ _ ⟨(hD4.at (b := bv) (C := v.enc) HM.out.1).1, (hD4.at (b := bo) (C := x.enc) HM.out.2.1).1⟩ (fun hHeld => ?_)
      clear hK K'
      try (simp only [Act.put, List.setIfInBounds_toArray]; dsimp only [List.set_cons_zero, List.set_cons_succ])
      refine wpAnyF_take2 [] (i := 24) (oi := ⟨_, _, _, _, _, _⟩) (v := ?_) rfl (by kernel_rfl) (by kernel_rfl) (by kernel_rfl) (by kernel_rfl) (by kernel_rfl) (fun c9 a9 w9 h9 => hQ9 c9 a9 _ _ w9 h9) (Or.inl ⟨by rfl, ?_⟩) (by assumption) ?_
      rotate_left 1
      · intro W' hSw
        obtain ⟨hS1, hS2⟩ := hSw
        go_simp
        try with_reducible rfl
      try (simp only [Act.put, List.setIfInBounds_toArray]; dsimp only [List.set_cons_zero, List.set_cons_succ])
      refine wpAnyF_last (o := ⟨_, _, _, _, _, _⟩) (by kernel_rfl) rfl (fun K' hK => ?_)
      go_simp
      refine hK.out _ _ ?_
      clear hK K'
      try (simp only [Act.put, List.setIfInBounds_toArray]; dsimp only [List.set_cons_zero, List.set_cons_succ])
      refine wpAnyF_done (by kernel_rfl) ?_ _
      refine ⟨rfl, rfl, ?_⟩
      rw [HI10.out]
      exact ⟨rfl, rfl, rfl, rfl, rfl, rfl, rfl, rfl, hD4⟩
  clear hD
  intro F10 V10 hrel
  rw [HI10.out] at hrel
  obtain ⟨f3, f5, f6, f7, f28, f29, f30, ft, HT10⟩ := hrel
  rw [frame233L, f3, f5, f6, f7, f28, f29, f30, ft]
  clear f3 f5 f6 f7 f28 f29 f30 ft HI10
  have hE := HT10.out.ext (extends_drewN (ext_Ext (Ext.refl V10)) 1)
  have hsb : IntKind.u64.wrap (w64 v.gasLimit - w64 v.gasUsed) = w64 (v.gasLimit - v.gasUsed) := x64_sub _ _
  clear HT10
  go_upto_region 12 with fail
  obtain ⟨I12, hI12⟩ : ∃ I : (Nat → Value) → World → Prop, I = cu3 V0' (some ⟨b, o, none⟩) len cap i bp bo bv c1 c2 bx M1 M2 87 (.bool false) := ⟨_, rfl⟩
  have HI12 := hid_of hI12
  clear hI12
  refine wp_cut_g 233 I12 (fun _ _ _ _ _ h => h) ?_ ?_
  · intro Q9 hQ9
    as_aux_lemma =>
      repeat go_step
      refine wp_region_F 21 (fun W' => blk W' bv = some v.enc ∧ blk W' bo = some x.enc) (by kernel_rfl) ⟨(hE.at (b := bv) (C := v.enc) HM.out.1).1, (hE.at (b := bo) (C := x.enc) HM.out.2.1).1⟩ (fun hHeld => ?_)
      refine wpAnyF_take2 [12, 11, 5, 1] (i := 0) (oi := ⟨_, _, _, _, _, _⟩) (v := ?_) rfl (by kernel_rfl) (by kernel_rfl) (by kernel_rfl) (by kernel_rfl) (by kernel_rfl) (fun c9 a9 w9 h9 => hQ9 c9 a9 _ _ w9 h9) (Or.inl ⟨by rfl, ?_⟩) (by assumption) ?_
      rotate_left 1
      · intro W' hSw
        obtain ⟨hS1, hS2⟩ := hSw
        go_simp
        try with_reducible rfl
      try (simp only [Act.put, List.setIfInBounds_toArray]; dsimp only [List.set_cons_zero, List.set_cons_succ])
      refine wpAnyF_take2 [12, 11, 5, 4, 3] (i := 2) (oi := ⟨_, _, _, _, _, _⟩) (v := ?_) rfl (by kernel_rfl) (by kernel_rfl) (by kernel_rfl) (by kernel_rfl) (by kernel_rfl) (fun c9 a9 w9 h9 => hQ9 c9 a9 _ _ w9 h9) (Or.inl ⟨by rfl, ?_⟩) (by assumption) ?_
      rotate_left 1
      · intro W' hSw
        obtain ⟨hS1, hS2⟩ := hSw
        go_simp
        try with_reducible rfl
      try (simp only [Act.put, List.setIfInBounds_toArray]; dsimp only [List.set_cons_zero, List.set_cons_succ])
      refine wpAnyF_take2 [12, 11, 5, 4] (i := 3) (oi := ⟨_, _, _, _, _, _⟩) (v := ?_) rfl (by kernel_rfl) (by kernel_rfl) (by kernel_rfl) (by kernel_rfl) (by kernel_rfl) (fun c9 a9 w9 h9 => hQ9 c9 a9 _ _ w9 h9) (Or.inl ⟨by rfl, ?_⟩) (by assumption) ?_
      rotate_left 1
      · intro W' hSw
        obtain ⟨hS1, hS2⟩ := hSw
        go_simp
        try with_reducible rfl
      try (simp only [Act.put, List.setIfInBounds_toArray]; dsimp only [List.set_cons_zero, List.set_cons_succ])
      refine wpAnyF_one (o := ⟨_, _, _, _, _, _⟩) (i := 1) (by kernel_rfl) rfl rfl (fun K' hK => ?_)
      go_simp
      have hq5 := hE.q24
      try rw [← HVV.out] at hq5
      refine hq5.mono ?_
      clear hq5
      rintro e VD5 ⟨rfl, hx5⟩
      dsimp only
      have hD5 := hE.ext hx5
      clear hx5
      refine hK.out _ _ ⟨(hD5.at (b := bv) (C := v.enc) HM.out.1).1, (hD5.at (b := bo) (C := x.enc) HM.out.2.1).1⟩ (fun hHeld => ?_)
      clear hK K'
      try (simp only [Act.put, List.setIfInBounds_toArray]; dsimp only [List.set_cons_zero, List.set_cons_succ])
      refine wpAnyF_take2 [12, 11, 5] (i := 4) (oi := ⟨_, _, _, _, _, _⟩) (v := ?_) rfl (by kernel_rfl) (by kernel_rfl) (by kernel_rfl) (by kernel_rfl) (by kernel_rfl) (fun c9 a9 w9 h9 => hQ9 c9 a9 _ _ w9 h9) (Or.inl ⟨by rfl, ?_⟩) (by assumption) ?_
      rotate_left 1
      · intro W' hSw
        obtain ⟨hS1, hS2⟩ := hSw
        go_simp
        try with_reducible rfl
      try (simp only [Act.put, List.setIfInBounds_toArray]; dsimp only [List.set_cons_zero, List.set_cons_succ])
      refine wpAnyF_take2 [12, 11] (i := 5) (oi := ⟨_, _, _, _, _, _⟩) (v := ?_) rfl (by kernel_rfl) (by kernel_rfl) (by kernel_rfl) (by kernel_rfl) (by kernel_rfl) (fun c9 a9 w9 h9 => hQ9 c9 a9 _ _ w9 h9) (Or.inl ⟨by rfl, ?_⟩) (by assumption) ?_
      rotate_left 1
      · intro W' hSw
        obtain ⟨hS1, hS2⟩ := hSw
        go_simp
        try with_reducible rfl
      try (simp only [Act.put, List.setIfInBounds_toArray]; dsimp only [List.set_cons_zero, List.set_cons_succ])
      refine wpAnyF_take2 [12, 7] (i := 6) (oi := ⟨_, _, _, _, _, _⟩) (v := ?_) rfl (by kernel_rfl) (by kernel_rfl) (by kernel_rfl) (by kernel_rfl) (by kernel_rfl) (fun c9 a9 w9 h9 => hQ9 c9 a9 _ _ w9 h9) (Or.inl ⟨by rfl, ?_⟩) (by assumption) ?_
      rotate_left 1
      · intro W' hSw
        obtain ⟨hS1, hS2⟩ := hSw
        go_simp
        try with_reducible rfl
      try (simp only [Act.put, List.setIfInBounds_toArray]; dsimp only [List.set_cons_zero, List.set_cons_succ])
      refine wpAnyF_take2 [12, 11, 10, 9] (i := 8) (oi := ⟨_, _, _, _, _, _⟩) (v := ?_) rfl (by kernel_rfl) (by kernel_rfl) (by kernel_rfl) (by kernel_rfl) (by kernel_rfl) (fun c9 a9 w9 h9 => hQ9 c9 a9 _ _ w9 h9) (Or.inl ⟨by rfl, ?_⟩) (by assumption) ?_
      rotate_left 1
      · intro W' hSw
        obtain ⟨hS1, hS2⟩ := hSw
        go_simp
        try with_reducible rfl
      try (simp only [Act.put, List.setIfInBounds_toArray]; dsimp only [List.set_cons_zero, List.set_cons_succ])
      refine wpAnyF_take2 [12, 11, 10] (i := 9) (oi := ⟨_, _, _, _, _, _⟩) (v := ?_) rfl (by kernel_rfl) (by kernel_rfl) (by kernel_rfl) (by kernel_rfl) (by kernel_rfl) (fun c9 a9 w9 h9 => hQ9 c9 a9 _ _ w9 h9) (Or.inl ⟨by rfl, ?_⟩) (by assumption) ?_
      rotate_left 1
      · intro W' hSw
        obtain ⟨hS1, hS2⟩ := hSw
        go_simp
        try with_reducible rfl
      try (simp only [Act.put, List.setIfInBounds_toArray]; dsimp only [List.set_cons_zero, List.set_cons_succ])
      refine wpAnyF_one (o := ⟨_, _, _, _, _, _⟩) (i := 7) (by kernel_rfl) rfl rfl (fun K' hK => ?_)
      go_simp
      have hq6 := hD5.q25
      try rw [← HVV.out] at hq6
      refine hq6.mono ?_
      clear hq6
      rintro e VD6 ⟨rfl, hx6⟩
      dsimp only
      have hD6 := hD5.ext hx6
      clear hx6
      refine hK.out _ _ ⟨(hD6.at (b := bv) (C := v.enc) HM.out.1).1, (hD6.at (b := bo) (C := x.enc) HM.out.2.1).1⟩ (fun hHeld => ?_)
      clear hK K'
      try (simp only [Act.put, List.setIfInBounds_toArray]; dsimp only [List.set_cons_zero, List.set_cons_succ])
      refine wpAnyF_take2 [12, 11] (i := 10) (oi := ⟨_, _, _, _, _, _⟩) (v := ?_) rfl (by kernel_rfl) (by kernel_rfl) (by kernel_rfl) (by kernel_rfl) (by kernel_rfl) (fun c9 a9 w9 h9 => hQ9 c9 a9 _ _ w9 h9) (Or.inl ⟨by rfl, ?_⟩) (by assumption) ?_
      rotate_left 1
      · intro W' hSw
        obtain ⟨hS1, hS2⟩ := hSw
        go_simp
        try with_reducible rfl
      try (simp only [Act.put, List.setIfInBounds_toArray]; dsimp only [List.set_cons_zero, List.set_cons_succ])
      refine wpAnyF_take2 [12] (i := 11) (oi := ⟨_, _, _, _, _, _⟩) (v := ?_) rfl (by kernel_rfl) (by kernel_rfl) (by kernel_rfl) (by kernel_rfl) (by kernel_rfl) (fun c9 a9 w9 h9 => hQ9 c9 a9 _ _ w9 h9) (Or.inl ⟨by rfl, ?_⟩) (by assumption) ?_
      rotate_left 1
      · intro W' hSw
        obtain ⟨hS1, hS2⟩ := hSw
        go_simp
        try with_reducible rfl
      try (simp only [Act.put, List.setIfInBounds_toArray]; dsimp only [List.set_cons_zero, List.set_cons_succ])
      refine wpAnyF_take2 [] (i := 12) (oi := ⟨_, _, _, _, _, _⟩) (v := ?_) rfl (by kernel_rfl) (by kernel_rfl) (by kernel_rfl) (by kernel_rfl) (by kernel_rfl) (fun c9 a9 w9 h9 => hQ9 c9 a9 _ _ w9 h9) (Or.inl ⟨by rfl, ?_⟩) (by assumption) ?_
      rotate_left 1
      · intro W' hSw
        obtain ⟨hS1, hS2⟩ := hSw
        go_simp
        try with_reducible rfl
      try (simp only [Act.put, List.setIfInBounds_toArray]; dsimp only [List.set_cons_zero, List.set_cons_succ])
      refine wpAnyF_take2 [20, 14] (i := 13) (oi := ⟨_, _, _, _, _, _⟩) (v := ?_) rfl (by kernel_rfl) (by kernel_rfl) (by kernel_rfl) (by kernel_rfl) (by kernel_rfl) (fun c9 a9 w9 h9 => hQ9 c9 a9 _ _ w9 h9) (Or.inl ⟨by rfl, ?_⟩) (by assumption) ?_
      rotate_left 1
      · intro W' hSw
        obtain ⟨hS1, hS2⟩ := hSw
        go_simp
        try with_reducible rfl
      try (simp only [Act.put, List.setIfInBounds_toArray]; dsimp only [List.set_cons_zero, List.set_cons_succ])
      refine wpAnyF_take2 [20, 19, 16] (i := 15) (oi := ⟨_, _, _, _, _, _⟩) (v := ?_) rfl (by kernel_rfl) (by kernel_rfl) (by kernel_rfl) (by kernel_rfl) (by kernel_rfl) (fun c9 a9 w9 h9 => hQ9 c9 a9 _ _ w9 h9) (Or.inl ⟨by rfl, ?_⟩) (by assumption) ?_
      rotate_left 1
      · intro W' hSw
        obtain ⟨hS1, hS2⟩ := hSw
        go_simp
        try with_reducible rfl
      try (simp only [Act.put, List.setIfInBounds_toArray]; dsimp only [List.set_cons_zero, List.set_cons_succ])
      refine wpAnyF_take2 [20, 19] (i := 16) (oi := ⟨_, _, _, _, _, _⟩) (v := ?_) rfl (by kernel_rfl) (by kernel_rfl) (by kernel_rfl) (by kernel_rfl) (by kernel_rfl) (fun c9 a9 w9 h9 => hQ9 c9 a9 _ _ w9 h9) (Or.inl ⟨by rfl, ?_⟩) (by assumption) ?_
      rotate_left 1
      · intro W' hSw
        obtain ⟨hS1, hS2⟩ := hSw
        go_simp
        try with_reducible rfl
      try (simp only [Act.put, List.setIfInBounds_toArray]; dsimp only [List.set_cons_zero, List.set_cons_succ])
      refine wpAnyF_take2 [20, 19, 18] (i := 17) (oi := ⟨_, _, _, _, _, _⟩) (v := ?_) rfl (by kernel_rfl) (by kernel_rfl) (by kernel_rfl) (by kernel_rfl) (by kernel_rfl) (fun c9 a9 w9 h9 => hQ9 c9 a9 _ _ w9 h9) (Or.inl ⟨by rfl, ?_⟩) (by assumption) ?_
      rotate_left 1
      · intro W' hSw
        obtain ⟨hS1, hS2⟩ := hSw
        go_simp
        try with_reducible rfl
      try (simp only [Act.put, List.setIfInBounds_toArray]; dsimp only [List.set_cons_zero, List.set_cons_succ])
      refine wpAnyF_take2 [20, 19] (i := 18) (oi := ⟨_, _, _, _, _, _⟩) (v := ?_) rfl (by kernel_rfl) (by kernel_rfl) (by kernel_rfl) (by kernel_rfl) (by kernel_rfl) (fun c9 a9 w9 h9 => hQ9 c9 a9 _ _ w9 h9) (Or.inl ⟨by rfl, ?_⟩) (by assumption) ?_
      rotate_left 1
      · intro W' hSw
        obtain ⟨hS1, hS2⟩ := hSw
        go_simp
        try with_reducible rfl
      try (simp only [Act.put, List.setIfInBounds_toArray]; dsimp only [List.set_cons_zero, List.set_cons_succ])
      refine wpAnyF_take2 [20] (i := 19) (oi := ⟨_, _, _, _, _, _⟩) (v := ?_) rfl (by kernel_rfl) (by kernel_rfl) (by kernel_rfl) (by kernel_rfl) (by kernel_rfl) (fun c9 a9 w9 h9 => hQ9 c9 a9 _ _ w9 h9) (Or.inl ⟨by rfl, ?_⟩) (by assumption) ?_
      rotate_left 1
      · intro W' hSw
        obtain ⟨hS1, hS2⟩ := hSw
        go_simp
        try with_reducible rfl
      try (simp only [Act.put, List.setIfInBounds_toArray]; dsimp only [List.set_cons_zero, List.set_cons_succ])
      refine wpAnyF_one (o := ⟨_, _, _, _, _, _⟩) (i := 14) (by kernel_rfl) rfl rfl (fun K' hK => ?_)
      go_simp
      have hq7 := hD6.q26
      try rw [← HVV.out] at hq7
      refine hq7.mono ?_
      clear hq7
      rintro e VD7 ⟨rfl, hx7⟩
      dsimp only
      have hD7 := hD6.ext hx7
      clear hx7
      refine hK.out _ _ ⟨(hD7.at (b := bv) (C := v.enc) HM.out.1).1, (hD7.at (b := bo) (C := x.enc) HM.out.2.1).1⟩ (fun hHeld => ?_)
      clear hK K'
      try (simp only [Act.put, List.setIfInBounds_toArray]; dsimp only [List.set_cons_zero, List.set_cons_succ])
      refine wpAnyF_take2 [] (i := 20) (oi := ⟨_, _, _, _, _, _⟩) (v := ?_) rfl (by kernel_rfl) (by kernel_rfl) (by kernel_rfl) (by kernel_rfl) (by kernel_rfl) (fun c9 a9 w9 h9 => hQ9 c9 a9 _ _ w9 h9) (Or.inl ⟨by rfl, ?_⟩) (by assumption) ?_
      rotate_left 1
      · intro W' hSw
        obtain ⟨hS1, hS2⟩ := hSw
        go_simp
        try with_reducible rfl
      try (simp only [Act.put, List.setIfInBounds_toArray]; dsimp only [List.set_cons_zero, List.set_cons_succ])
      refine wpAnyF_last (o := ⟨_, _, _, _, _, _⟩) (by kernel_rfl) rfl (fun K' hK => ?_)
      go_simp
      refine hK.out _ _ ?_
      clear hK K'
      try (simp only [Act.put, List.setIfInBounds_toArray]; dsimp only [List.set_cons_zero, List.set_cons_succ])
      refine wpAnyF_done (by kernel_rfl) ?_ _
      refine ⟨rfl, rfl, ?_⟩
      rw [HI12.out]
      exact ⟨rfl, rfl, rfl, rfl, rfl, rfl, rfl, rfl, hD7⟩
  clear hE hsb
  intro F12 V12 hrel
  rw [HI12.out] at hrel
  obtain ⟨f3, f5, f6, f7, f28, f29, f30, ft, HT12⟩ := hrel
  rw [frame233L, f3, f5, f6, f7, f28, f29, f30, ft]
  clear f3 f5 f6 f7 f28 f29 f30 ft HI12
  have hF := HT12.out.ext (extends_drewN (ext_Ext (Ext.refl V12)) 1)
  have hne : ∀ w' X Y, (cmpNe 48 X Y (.agg (arr u64v v.supply).toArray) (.agg (arr u64v v.supply).toArray)).run Tryz.prog w' = .ok (.value (.bool false)) w' := fun w' X Y => by
    have q := el_eq48.neq w' X Y v.supply v.supply trivial trivial
    rw [eqA_self] at q
    exact q
  have hm5 := HM5.out
  clear HT12 HM5
  go_upto_region 14 with fail
  obtain ⟨I14, hI14⟩ : ∃ I : (Nat → Value) → World → Prop, I = cu3 V0' (some ⟨b, o, none⟩) len cap i bp bo bv c1 c2 bx M1 M2 134 (.bool false) := ⟨_, rfl⟩
  have HI14 := hid_of hI14
  clear hI14
  refine wp_cut_g 233 I14 (fun _ _ _ _ _ h => h) ?_ ?_
  · intro Q9 hQ9
    as_aux_lemma =>
      repeat go_step
      refine wp_region_F 46 (fun W' => blk W' bv = some v.enc ∧ blk W' bo = some x.enc) (by kernel_rfl) ⟨(hF.at (b := bv) (C := v.enc) HM.out.1).1, (hF.at (b := bo) (C := x.enc) HM.out.2.1).1⟩ (fun hHeld => ?_)
      refine wpAnyF_take2 [39, 38, 24, 23, 11, 10, 5, 1] (i := 0) (oi := ⟨_, _, _, _, _, _⟩) (v := ?_) rfl (by kernel_rfl) (by kernel_rfl) (by kernel_rfl) (by kernel_rfl) (by kernel_rfl) (fun c9 a9 w9 h9 => hQ9 c9 a9 _ _ w9 h9) (Or.inl ⟨by rfl, ?_⟩) (by assumption) ?_
      rotate_left 1
      · intro W' hSw
        obtain ⟨hS1, hS2⟩ := hSw
        go_simp
        try with_reducible rfl
      try (simp only [Act.put, List.setIfInBounds_toArray]; dsimp only [List.set_cons_zero, List.set_cons_succ])
      refine wpAnyF_take2 [39, 38, 24, 23, 11, 10, 5, 4, 3] (i := 2) (oi := ⟨_, _, _, _, _, _⟩) (v := ?_) rfl (by kernel_rfl) (by kernel_rfl) (by kernel_rfl) (by kernel_rfl) (by kernel_rfl) (fun c9 a9 w9 h9 => hQ9 c9 a9 _ _ w9 h9) (Or.inl ⟨by rfl, ?_⟩) (by assumption) ?_
      rotate_left 1
      · intro W' hSw
        obtain ⟨hS1, hS2⟩ := hSw
        go_simp
        try with_reducible rfl
      try (simp only [Act.put, List.setIfInBounds_toArray]; dsimp only [List.set_cons_zero, List.set_cons_succ])
      refine wpAnyF_take2 [39, 38, 24, 23, 11, 10, 5, 4] (i := 3) (oi := ⟨_, _, _, _, _, _⟩) (v := ?_) rfl (by kernel_rfl) (by kernel_rfl) (by kernel_rfl) (by kernel_rfl) (by kernel_rfl) (fun c9 a9 w9 h9 => hQ9 c9 a9 _ _ w9 h9) (Or.inl ⟨by rfl, ?_⟩) (by assumption) ?_
      rotate_left 1
      · intro W' hSw
        obtain ⟨hS1, hS2⟩ := hSw
        go_simp
        try with_reducible rfl
      try (simp only [Act.put, List.setIfInBounds_toArray]; dsimp only [List.set_cons_zero, List.set_cons_succ])
      refine wpAnyF_one (o := ⟨_, _, _, _, _, _⟩) (i := 1) (by kernel_rfl) rfl rfl (fun K' hK => ?_)
      go_simp
      have hq8 := hF.q27
      try rw [← HVV.out] at hq8
      refine hq8.mono ?_
      clear hq8
      rintro e VD8 ⟨rfl, hx8⟩
      dsimp only
      have hD8 := hF.ext hx8
      clear hx8
      refine hK.out _ _ ⟨(hD8.at (b := bv) (C := v.enc) HM.out.1).1, (hD8.at (b := bo) (C := x.enc) HM.out.2.1).1⟩ (fun hHeld => ?_)
      clear hK K'
      try (simp only [Act.put, List.setIfInBounds_toArray]; dsimp only [List.set_cons_zero, List.set_cons_succ])
      refine wpAnyF_take2 [39, 38, 24, 23, 11, 10, 5] (i := 4) (oi := ⟨_, _, _, _, _, _⟩) (v := ?_) rfl (by kernel_rfl) (by kernel_rfl) (by kernel_rfl) (by kernel_rfl) (by kernel_rfl) (fun c9 a9 w9 h9 => hQ9 c9 a9 _ _ w9 h9) (Or.inl ⟨by rfl, ?_⟩) (by assumption) ?_
      rotate_left 1
      · intro W' hSw
        obtain ⟨hS1, hS2⟩ := hSw
        go_simp
        try with_reducible rfl
      try (simp only [Act.put, List.setIfInBounds_toArray]; dsimp only [List.set_cons_zero, List.set_cons_succ])
      refine wpAnyF_take2 [39, 38, 24, 23, 11, 10] (i := 5) (oi := ⟨_, _, _, _, _, _⟩) (v := ?_) rfl (by kernel_rfl) (by kernel_rfl) (by kernel_rfl) (by kernel_rfl) (by kernel_rfl) (fun c9 a9 w9 h9 => hQ9 c9 a9 _ _ w9 h9) (Or.inl ⟨by rfl, ?_⟩) (by assumption) ?_
      rotate_left 1
      · intro W' hSw
        obtain ⟨hS1, hS2⟩ := hSw
        go_simp
        try with_reducible rfl
      try (simp only [Act.put, List.setIfInBounds_toArray]; dsimp only [List.set_cons_zero, List.set_cons_succ])
      refine wpAnyF_take2 [39, 38, 24, 23, 11, 8] (i := 6) (oi := ⟨_, _, _, _, _, _⟩) (v := ?_) rfl (by kernel_rfl) (by kernel_rfl) (by kernel_rfl) (by kernel_rfl) (by kernel_rfl) (fun c9 a9 w9 h9 => hQ9 c9 a9 _ _ w9 h9) (Or.inl ⟨by rfl, ?_⟩) (by assumption) ?_
      rotate_left 1
      · intro W' hSw
        obtain ⟨hS1, hS2⟩ := hSw
        go_simp
        try with_reducible rfl
      try (simp only [Act.put, List.setIfInBounds_toArray]; dsimp only [List.set_cons_zero, List.set_cons_succ])
      refine wpAnyF_take2 [39, 38, 24, 23, 11, 8] (i := 7) (oi := ⟨_, _, _, _, _, _⟩) (v := ?_) rfl (by kernel_rfl) (by kernel_rfl) (by kernel_rfl) (by kernel_rfl) (by kernel_rfl) (fun c9 a9 w9 h9 => hQ9 c9 a9 _ _ w9 h9) (Or.inl ⟨by rfl, ?_⟩) (by assumption) ?_
      rotate_left 1
      · intro W' hSw
        obtain ⟨hS1, hS2⟩ := hSw
        go_simp
        try with_reducible rfl
      try (simp only [Act.put, List.setIfInBounds_toArray]; dsimp only [List.set_cons_zero, List.set_cons_succ])
      refine wpAnyF_one (o := ⟨_, _, _, _, _, _⟩) (i := 8) (by kernel_rfl) rfl rfl (fun K' hK => ?_)
      go_simp
      have hq9 := hD8.q28
      try rw [← HVV.out] at hq9
      refine hq9.mono ?_
      clear hq9
      rintro e VD9 ⟨rfl, hx9⟩
      dsimp only
      have hD9 := hD8.ext hx9
      clear hx9
      refine hK.out _ _ ⟨(hD9.at (b := bv) (C := v.enc) HM.out.1).1, (hD9.at (b := bo) (C := x.enc) HM.out.2.1).1⟩ (fun hHeld => ?_)
      clear hK K'
      try (simp only [Act.put, List.setIfInBounds_toArray]; dsimp only [List.set_cons_zero, List.set_cons_succ])
      refine wpAnyF_take2 [39, 38, 24, 23, 11, 10] (i := 9) (oi := ⟨_, _, _, _, _, _⟩) (v := ?_) rfl (by kernel_rfl) (by kernel_rfl) (by kernel_rfl) (by kernel_rfl) (by kernel_rfl) (fun c9 a9 w9 h9 => hQ9 c9 a9 _ _ w9 h9) (Or.inl ⟨by rfl, ?_⟩) (by assumption) ?_
      rotate_left 1
      · intro W' hSw
        obtain ⟨hS1, hS2⟩ := hSw
        go_simp
        try with_reducible rfl
      try (simp only [Act.put, List.setIfInBounds_toArray]; dsimp only [List.set_cons_zero, List.set_cons_succ])
      refine wpAnyF_take2 [39, 38, 24, 23, 11] (i := 10) (oi := ⟨_, _, _, _, _, _⟩) (v := ?_) rfl (by kernel_rfl) (by kernel_rfl) (by kernel_rfl) (by kernel_rfl) (by kernel_rfl) (fun c9 a9 w9 h9 => hQ9 c9 a9 _ _ w9 h9) (Or.inl ⟨by rfl, ?_⟩) (by assumption) ?_
      rotate_left 1
      · intro W' hSw
        obtain ⟨hS1, hS2⟩ := hSw
        go_simp
        try with_reducible rfl
      try (simp only [Act.put, List.setIfInBounds_toArray]; dsimp only [List.set_cons_zero, List.set_cons_succ])
      refine wpAnyF_take2 [39, 38, 24, 23] (i := 11) (oi := ⟨_, _, _, _, _, _⟩) (v := ?_) rfl (by kernel_rfl) (by kernel_rfl) (by kernel_rfl) (by kernel_rfl) (by kernel_rfl) (fun c9 a9 w9 h9 => hQ9 c9 a9 _ _ w9 h9) (Or.inl ⟨by rfl, ?_⟩) (by assumption) ?_
      rotate_left 1
      · intro W' hSw
        obtain ⟨hS1, hS2⟩ := hSw
        go_simp
        try with_reducible rfl
      try (simp only [Act.put, List.setIfInBounds_toArray]; dsimp only [List.set_cons_zero, List.set_cons_succ])
      refine wpAnyF_take2 [39, 38, 24, 21] (i := 12) (oi := ⟨_, _, _, _, _, _⟩) (v := ?_) rfl (by kernel_rfl) (by kernel_rfl) (by kernel_rfl) (by kernel_rfl) (by kernel_rfl) (fun c9 a9 w9 h9 => hQ9 c9 a9 _ _ w9 h9) (Or.inl ⟨by rfl, ?_⟩) (by assumption) ?_
      rotate_left 1
      · intro W' hSw
        obtain ⟨hS1, hS2⟩ := hSw
        go_simp
        try with_reducible rfl
      try (simp only [Act.put, List.setIfInBounds_toArray]; dsimp only [List.set_cons_zero, List.set_cons_succ])
      refine wpAnyF_take2 [39, 38, 24, 21] (i := 13) (oi := ⟨_, _, _, _, _, _⟩) (v := ?_) rfl (by kernel_rfl) (by kernel_rfl) (by kernel_rfl) (by kernel_rfl) (by kernel_rfl) (fun c9 a9 w9 h9 => hQ9 c9 a9 _ _ w9 h9) (Or.inl ⟨by rfl, ?_⟩) (by assumption) ?_
      rotate_left 1
      · intro W' hSw
        obtain ⟨hS1, hS2⟩ := hSw
        go_simp
        try with_reducible rfl
      try (simp only [Act.put, List.setIfInBounds_toArray]; dsimp only [List.set_cons_zero, List.set_cons_succ])
      refine wpAnyF_take2 [39, 38, 24, 21, 15] (i := 14) (oi := ⟨_, _, _, _, _, _⟩) (v := ?_) rfl (by kernel_rfl) (by kernel_rfl) (by kernel_rfl) (by kernel_rfl) (by kernel_rfl) (fun c9 a9 w9 h9 => hQ9 c9 a9 _ _ w9 h9) (Or.inl ⟨by rfl, ?_⟩) (by assumption) ?_
      rotate_left 1
      · intro W' hSw
        obtain ⟨hS1, hS2⟩ := hSw
        go_simp
        try with_reducible rfl
      try (simp only [Act.put, List.setIfInBounds_toArray]; dsimp only [List.set_cons_zero, List.set_cons_succ])
      refine wpAnyF_take2 [39, 38, 24, 21] (i := 15) (oi := ⟨_, _, _, _, _, _⟩) (v := ?_) rfl (by kernel_rfl) (by kernel_rfl) (by kernel_rfl) (by kernel_rfl) (by kernel_rfl) (fun c9 a9 w9 h9 => hQ9 c9 a9 _ _ w9 h9) (Or.inl ⟨by rfl, ?_⟩) (by assumption) ?_
      rotate_left 1
      · intro W' hSw
        obtain ⟨hS1, hS2⟩ := hSw
        go_simp
        try with_reducible rfl
      try (simp only [Act.put, List.setIfInBounds_toArray]; dsimp only [List.set_cons_zero, List.set_cons_succ])
      refine wpAnyF_take2 [39, 38, 24, 21, 17] (i := 16) (oi := ⟨_, _, _, _, _, _⟩) (v := ?_) rfl (by kernel_rfl) (by kernel_rfl) (by kernel_rfl) (by kernel_rfl) (by kernel_rfl) (fun c9 a9 w9 h9 => hQ9 c9 a9 _ _ w9 h9) (Or.inl ⟨by rfl, ?_⟩) (by assumption) ?_
      rotate_left 1
      · intro W' hSw
        obtain ⟨hS1, hS2⟩ := hSw
        go_simp
        try with_reducible rfl
      try (simp only [Act.put, List.setIfInBounds_toArray]; dsimp only [List.set_cons_zero, List.set_cons_succ])
      refine wpAnyF_take2 [39, 38, 24, 21] (i := 17) (oi := ⟨_, _, _, _, _, _⟩) (v := ?_) rfl (by kernel_rfl) (by kernel_rfl) (by kernel_rfl) (by kernel_rfl) (by kernel_rfl) (fun c9 a9 w9 h9 => hQ9 c9 a9 _ _ w9 h9) (Or.inl ⟨by rfl, ?_⟩) (by assumption) ?_
      rotate_left 1
      · intro W' hSw
        obtain ⟨hS1, hS2⟩ := hSw
        go_simp
        try with_reducible rfl
      try (simp only [Act.put, List.setIfInBounds_toArray]; dsimp only [List.set_cons_zero, List.set_cons_succ])
      refine wpAnyF_take2 [39, 38, 24, 21, 20, 19] (i := 18) (oi := ⟨_, _, _, _, _, _⟩) (v := ?_) rfl (by kernel_rfl) (by kernel_rfl) (by kernel_rfl) (by kernel_rfl) (by kernel_rfl) (fun c9 a9 w9 h9 => hQ9 c9 a9 _ _ w9 h9) (Or.inl ⟨by rfl, ?_⟩) (by assumption) ?_
      rotate_left 1
      · intro W' hSw
        obtain ⟨hS1, hS2⟩ := hSw
        go_simp
        try with_reducible rfl
      try (simp only [Act.put, List.setIfInBounds_toArray]; dsimp only [List.set_cons_zero, List.set_cons_succ])
      refine wpAnyF_take2 [39, 38, 24, 21, 20] (i := 19) (oi := ⟨_, _, _, _, _, _⟩) (v := ?_) rfl (by kernel_rfl) (by kernel_rfl) (by kernel_rfl) (by kernel_rfl) (by kernel_rfl) (fun c9 a9 w9 h9 => hQ9 c9 a9 _ _ w9 h9) (Or.inl ⟨by rfl, ?_⟩) (by assumption) ?_
      rotate_left 1
      · intro W' hSw
        obtain ⟨hS1, hS2⟩ := hSw
        go_simp
        try with_reducible rfl
      try (simp only [Act.put, List.setIfInBounds_toArray]; dsimp only [List.set_cons_zero, List.set_cons_succ])
      refine wpAnyF_take2 [39, 38, 24, 21] (i := 20) (oi := ⟨_, _, _, _, _, _⟩) (v := ?_) rfl (by kernel_rfl) (by kernel_rfl) (by kernel_rfl) (by kernel_rfl) (by kernel_rfl) (fun c9 a9 w9 h9 => hQ9 c9 a9 _ _ w9 h9) (Or.inl ⟨by rfl, ?_⟩) (by assumption) ?_
      rotate_left 1
      · intro W' hSw
        obtain ⟨hS1, hS2⟩ := hSw
        go_simp
        try with_reducible rfl
      try (simp only [Act.put, List.setIfInBounds_toArray]; dsimp only [List.set_cons_zero, List.set_cons_succ])
      refine wpAnyF_one (o := ⟨_, _, _, _, _, _⟩) (i := 21) (by kernel_rfl) rfl rfl (fun K' hK => ?_)
      go_simp
      have hq10 := hD9.q29 HH.out.1.1.1 x.acct x.token x.tx.fee
      try rw [← HVV.out] at hq10
      refine hq10.mono ?_
      clear hq10
      rintro e VD10 ⟨rfl, hx10⟩
      dsimp only
      have hD10 := hD9.ext hx10
      clear hx10
      refine hK.out _ _ ⟨(hD10.at (b := bv) (C := v.enc) HM.out.1).1, (hD10.at (b := bo) (C := x.enc) HM.out.2.1).1⟩ (fun hHeld => ?_)
      clear hK K'
      try (simp only [Act.put, List.setIfInBounds_toArray]; dsimp only [List.set_cons_zero, List.set_cons_succ])
      refine wpAnyF_take2 [39, 38, 24, 23] (i := 22) (oi := ⟨_, _, _, _, _, _⟩) (v := ?_) rfl (by kernel_rfl) (by kernel_rfl) (by kernel_rfl) (by kernel_rfl) (by kernel_rfl) (fun c9 a9 w9 h9 => hQ9 c9 a9 _ _ w9 h9) (Or.inl ⟨by rfl, ?_⟩) (by assumption) ?_
      rotate_left 1
      · intro W' hSw
        obtain ⟨hS1, hS2⟩ := hSw
        go_simp
        try with_reducible rfl
      try (simp only [Act.put, List.setIfInBounds_toArray]; dsimp only [List.set_cons_zero, List.set_cons_succ])
      refine wpAnyF_take2 [39, 38, 24] (i := 23) (oi := ⟨_, _, _, _, _, _⟩) (v := ?_) rfl (by kernel_rfl) (by kernel_rfl) (by kernel_rfl) (by kernel_rfl) (by kernel_rfl) (fun c9 a9 w9 h9 => hQ9 c9 a9 _ _ w9 h9) (Or.inl ⟨by rfl, ?_⟩) (by assumption) ?_
      rotate_left 1
      · intro W' hSw
        obtain ⟨hS1, hS2⟩ := hSw
        go_simp
        try with_reducible rfl
      try (simp only [Act.put, List.setIfInBounds_toArray]; dsimp only [List.set_cons_zero, List.set_cons_succ])
      refine wpAnyF_take2 [39, 38] (i := 24) (oi := ⟨_, _, _, _, _, _⟩) (v := ?_) rfl (by kernel_rfl) (by kernel_rfl) (by kernel_rfl) (by kernel_rfl) (by kernel_rfl) (fun c9 a9 w9 h9 => hQ9 c9 a9 _ _ w9 h9) (Or.inl ⟨by rfl, ?_⟩) (by assumption) ?_
      rotate_left 1
      · intro W' hSw
        obtain ⟨hS1, hS2⟩ := hSw
        go_simp
        try with_reducible rfl
      try (simp only [Act.put, List.setIfInBounds_toArray]; dsimp only [List.set_cons_zero, List.set_cons_succ])
      refine wpAnyF_take2 [39, 36] (i := 25) (oi := ⟨_, _, _, _, _, _⟩) (v := ?_) rfl (by kernel_rfl) (by kernel_rfl) (by kernel_rfl) (by kernel_rfl) (by kernel_rfl) (fun c9 a9 w9 h9 => hQ9 c9 a9 _ _ w9 h9) (Or.inl ⟨by rfl, ?_⟩) (by assumption) ?_
      rotate_left 1
      · intro W' hSw
        obtain ⟨hS1, hS2⟩ := hSw
        go_simp
        try with_reducible rfl
      try (simp only [Act.put, List.setIfInBounds_toArray]; dsimp only [List.set_cons_zero, List.set_cons_succ])
      refine wpAnyF_take2 [39, 36] (i := 26) (oi := ⟨_, _, _, _, _, _⟩) (v := ?_) rfl (by kernel_rfl) (by kernel_rfl) (by kernel_rfl) (by kernel_rfl) (by kernel_rfl) (fun c9 a9 w9 h9 => hQ9 c9 a9 _ _ w9 h9) (Or.inl ⟨by rfl, ?_⟩) (by assumption) ?_
      rotate_left 1
      · intro W' hSw
        obtain ⟨hS1, hS2⟩ := hSw
        go_simp
        try with_reducible rfl
      try (simp only [Act.put, List.setIfInBounds_toArray]; dsimp only [List.set_cons_zero, List.set_cons_succ])
      refine wpAnyF_take2 [39, 36, 29, 28] (i := 27) (oi := ⟨_, _, _, _, _, _⟩) (v := ?_) rfl (by kernel_rfl) (by kernel_rfl) (by kernel_rfl) (by kernel_rfl) (by kernel_rfl) (fun c9 a9 w9 h9 => hQ9 c9 a9 _ _ w9 h9) (Or.inl ⟨by rfl, ?_⟩) (by assumption) ?_
      rotate_left 1
      · intro W' hSw
        obtain ⟨hS1, hS2⟩ := hSw
        go_simp
        try with_reducible rfl
      try (simp only [Act.put, List.setIfInBounds_toArray]; dsimp only [List.set_cons_zero, List.set_cons_succ])
      refine wpAnyF_take2 [39, 36, 29] (i := 28) (oi := ⟨_, _, _, _, _, _⟩) (v := ?_) rfl (by kernel_rfl) (by kernel_rfl) (by kernel_rfl) (by kernel_rfl) (by kernel_rfl) (fun c9 a9 w9 h9 => hQ9 c9 a9 _ _ w9 h9) (Or.inl ⟨by rfl, ?_⟩) (by assumption) ?_
      rotate_left 1
      · intro W' hSw
        obtain ⟨hS1, hS2⟩ := hSw
        go_simp
        try with_reducible rfl
      try (simp only [Act.put, List.setIfInBounds_toArray]; dsimp only [List.set_cons_zero, List.set_cons_succ])
      refine wpAnyF_take2 [39, 36] (i := 29) (oi := ⟨_, _, _, _, _, _⟩) (v := ?_) rfl (by kernel_rfl) (by kernel_rfl) (by kernel_rfl) (by kernel_rfl) (by kernel_rfl) (fun c9 a9 w9 h9 => hQ9 c9 a9 _ _ w9 h9) (Or.inl ⟨by rfl, ?_⟩) (by assumption) ?_
      rotate_left 1
      · intro W' hSw
        obtain ⟨hS1, hS2⟩ := hSw
        go_simp
        try with_reducible rfl
      try (simp only [Act.put, List.setIfInBounds_toArray]; dsimp only [List.set_cons_zero, List.set_cons_succ])
      refine wpAnyF_take2 [39, 36, 32, 31] (i := 30) (oi := ⟨_, _, _, _, _, _⟩) (v := ?_) rfl (by kernel_rfl) (by kernel_rfl) (by kernel_rfl) (by kernel_rfl) (by kernel_rfl) (fun c9 a9 w9 h9 => hQ9 c9 a9 _ _ w9 h9) (Or.inl ⟨by rfl, ?_⟩) (by assumption) ?_
      rotate_left 1
      · intro W' hSw
        obtain ⟨hS1, hS2⟩ := hSw
        go_simp
        try with_reducible rfl
      try (simp only [Act.put, List.setIfInBounds_toArray]; dsimp only [List.set_cons_zero, List.set_cons_succ])
      refine wpAnyF_take2 [39, 36, 32] (i := 31) (oi := ⟨_, _, _, _, _, _⟩) (v := ?_) rfl (by kernel_rfl) (by kernel_rfl) (by kernel_rfl) (by kernel_rfl) (by kernel_rfl) (fun c9 a9 w9 h9 => hQ9 c9 a9 _ _ w9 h9) (Or.inl ⟨by rfl, ?_⟩) (by assumption) ?_
      rotate_left 1
      · intro W' hSw
        obtain ⟨hS1, hS2⟩ := hSw
        go_simp
        try with_reducible rfl
      try (simp only [Act.put, List.setIfInBounds_toArray]; dsimp only [List.set_cons_zero, List.set_cons_succ])
      refine wpAnyF_take2 [39, 36] (i := 32) (oi := ⟨_, _, _, _, _, _⟩) (v := ?_) rfl (by kernel_rfl) (by kernel_rfl) (by kernel_rfl) (by kernel_rfl) (by kernel_rfl) (fun c9 a9 w9 h9 => hQ9 c9 a9 _ _ w9 h9) (Or.inl ⟨by rfl, ?_⟩) (by assumption) ?_
      rotate_left 1
      · intro W' hSw
        obtain ⟨hS1, hS2⟩ := hSw
        go_simp
        try with_reducible rfl
      try (simp only [Act.put, List.setIfInBounds_toArray]; dsimp only [List.set_cons_zero, List.set_cons_succ])
      refine wpAnyF_take2 [39, 36, 35, 34] (i := 33) (oi := ⟨_, _, _, _, _, _⟩) (v := ?_) rfl (by kernel_rfl) (by kernel_rfl) (by kernel_rfl) (by kernel_rfl) (by kernel_rfl) (fun c9 a9 w9 h9 => hQ9 c9 a9 _ _ w9 h9) (Or.inl ⟨by rfl, ?_⟩) (by assumption) ?_
      rotate_left 1
      · intro W' hSw
        obtain ⟨hS1, hS2⟩ := hSw
        go_simp
        try with_reducible rfl
      try (simp only [Act.put, List.setIfInBounds_toArray]; dsimp only [List.set_cons_zero, List.set_cons_succ])
      refine wpAnyF_take2 [39, 36, 35] (i := 34) (oi := ⟨_, _, _, _, _, _⟩) (v := ?_) rfl (by kernel_rfl) (by kernel_rfl) (by kernel_rfl) (by kernel_rfl) (by kernel_rfl) (fun c9 a9 w9 h9 => hQ9 c9 a9 _ _ w9 h9) (Or.inl ⟨by rfl, ?_⟩) (by assumption) ?_
      rotate_left 1
      · intro W' hSw
        obtain ⟨hS1, hS2⟩ := hSw
        go_simp
        try with_reducible rfl
      try (simp only [Act.put, List.setIfInBounds_toArray]; dsimp only [List.set_cons_zero, List.set_cons_succ])
      refine wpAnyF_take2 [39, 36] (i := 35) (oi := ⟨_, _, _, _, _, _⟩) (v := ?_) rfl (by kernel_rfl) (by kernel_rfl) (by kernel_rfl) (by kernel_rfl) (by kernel_rfl) (fun c9 a9 w9 h9 => hQ9 c9 a9 _ _ w9 h9) (Or.inl ⟨by rfl, ?_⟩) (by assumption) ?_
      rotate_left 1
      · intro W' hSw
        obtain ⟨hS1, hS2⟩ := hSw
        go_simp
        try with_reducible rfl
      try (simp only [Act.put, List.setIfInBounds_toArray]; dsimp only [List.set_cons_zero, List.set_cons_succ])
      refine wpAnyF_one (o := ⟨_, _, _, _, _, _⟩) (i := 36) (by kernel_rfl) rfl rfl (fun K' hK => ?_)
      go_simp
      have hq11 := hD10.q29 HH.out.1.1.1 x.tx.from_ x.tx.token x.tx.fee
      try rw [← HVV.out] at hq11
      refine hq11.mono ?_
      clear hq11
      rintro e VD11 ⟨rfl, hx11⟩
      dsimp only
      have hD11 := hD10.ext hx11
      clear hx11
      refine hK.out _ _ ⟨(hD11.at (b := bv) (C := v.enc) HM.out.1).1, (hD11.at (b := bo) (C := x.enc) HM.out.2.1).1⟩ (fun hHeld => ?_)
      clear hK K'
      try (simp only [Act.put, List.setIfInBounds_toArray]; dsimp only [List.set_cons_zero, List.set_cons_succ])
      refine wpAnyF_take2 [39, 38] (i := 37) (oi := ⟨_, _, _, _, _, _⟩) (v := ?_) rfl (by kernel_rfl) (by kernel_rfl) (by kernel_rfl) (by kernel_rfl) (by kernel_rfl) (fun c9 a9 w9 h9 => hQ9 c9 a9 _ _ w9 h9) (Or.inl ⟨by rfl, ?_⟩) (by assumption) ?_
      rotate_left 1
      · intro W' hSw
        obtain ⟨hS1, hS2⟩ := hSw
        go_simp
        try with_reducible rfl
      try (simp only [Act.put, List.setIfInBounds_toArray]; dsimp only [List.set_cons_zero, List.set_cons_succ])
      refine wpAnyF_take2 [39] (i := 38) (oi := ⟨_, _, _, _, _, _⟩) (v := ?_) rfl (by kernel_rfl) (by kernel_rfl) (by kernel_rfl) (by kernel_rfl) (by kernel_rfl) (fun c9 a9 w9 h9 => hQ9 c9 a9 _ _ w9 h9) (Or.inl ⟨by rfl, ?_⟩) (by assumption) ?_
      rotate_left 1
      · intro W' hSw
        obtain ⟨hS1, hS2⟩ := hSw
        go_simp
        try with_reducible rfl
      try (simp only [Act.put, List.setIfInBounds_toArray]; dsimp only [List.set_cons_zero, List.set_cons_succ])
      refine wpAnyF_take2 [] (i := 39) (oi := ⟨_, _, _, _, _, _⟩) (v := ?_) rfl (by kernel_rfl) (by kernel_rfl) (by kernel_rfl) (by kernel_rfl) (by kernel_rfl) (fun c9 a9 w9 h9 => hQ9 c9 a9 _ _ w9 h9) (Or.inl ⟨by rfl, ?_⟩) (by assumption) ?_
      rotate_left 1
      · intro W' hSw
        obtain ⟨hS1, hS2⟩ := hSw
        go_simp
        try with_reducible rfl
      try (simp only [Act.put, List.setIfInBounds_toArray]; dsimp only [List.set_cons_zero, List.set_cons_succ])
      refine wpAnyF_take2 [45, 44] (i := 40) (oi := ⟨_, _, _, _, _, _⟩) (v := ?_) rfl (by kernel_rfl) (by kernel_rfl) (by kernel_rfl) (by kernel_rfl) (by kernel_rfl) (fun c9 a9 w9 h9 => hQ9 c9 a9 _ _ w9 h9) (Or.inl ⟨by rfl, ?_⟩) (by assumption) ?_
      rotate_left 1
      · intro W' hSw
        obtain ⟨hS1, hS2⟩ := hSw
        go_simp
        try with_reducible rfl
      try (simp only [Act.put, List.setIfInBounds_toArray]; dsimp only [List.set_cons_zero, List.set_cons_succ])
      refine wpAnyF_take2 [45, 44, 43, 42] (i := 41) (oi := ⟨_, _, _, _, _, _⟩) (v := ?_) rfl (by kernel_rfl) (by kernel_rfl) (by kernel_rfl) (by kernel_rfl) (by kernel_rfl) (fun c9 a9 w9 h9 => hQ9 c9 a9 _ _ w9 h9) (Or.inl ⟨by rfl, ?_⟩) (by assumption) ?_
      rotate_left 1
      · intro W' hSw
        obtain ⟨hS1, hS2⟩ := hSw
        go_simp
        try with_reducible rfl
      try (simp only [Act.put, List.setIfInBounds_toArray]; dsimp only [List.set_cons_zero, List.set_cons_succ])
      refine wpAnyF_take2 [45, 44, 43] (i := 42) (oi := ⟨_, _, _, _, _, _⟩) (v := ?_) rfl (by kernel_rfl) (by kernel_rfl) (by kernel_rfl) (by kernel_rfl) (by kernel_rfl) (fun c9 a9 w9 h9 => hQ9 c9 a9 _ _ w9 h9) (Or.inl ⟨by rfl, ?_⟩) (by assumption) ?_
      rotate_left 1
      · intro W' hSw
        obtain ⟨hS1, hS2⟩ := hSw
        go_simp
        try with_reducible rfl
      try (simp only [Act.put, List.setIfInBounds_toArray]; dsimp only [List.set_cons_zero, List.set_cons_succ])
      refine wpAnyF_take2 [45, 44] (i := 43) (oi := ⟨_, _, _, _, _, _⟩) (v := ?_) rfl (by kernel_rfl) (by kernel_rfl) (by kernel_rfl) (by kernel_rfl) (by kernel_rfl) (fun c9 a9 w9 h9 => hQ9 c9 a9 _ _ w9 h9) (Or.inl ⟨by rfl, ?_⟩) (by assumption) ?_
      rotate_left 1
      · intro W' hSw
        obtain ⟨hS1, hS2⟩ := hSw
        go_simp
        try with_reducible rfl
      try (simp only [Act.put, List.setIfInBounds_toArray]; dsimp only [List.set_cons_zero, List.set_cons_succ])
      refine wpAnyF_one (o := ⟨_, _, _, _, _, _⟩) (i := 44) (by kernel_rfl) rfl rfl (fun K' hK => ?_)
      go_simp
      have hq12 := hD11.q30 HH.out.1.1.1 (by have := HN.out.2; omega) sq
      try rw [← HVV.out] at hq12
      refine hq12.mono ?_
      clear hq12
      rintro e VD12 ⟨rfl, hx12⟩
      dsimp only
      have hD12 := hD11.ext hx12
      clear hx12
      refine hK.out _ _ ⟨(hD12.at (b := bv) (C := v.enc) HM.out.1).1, (hD12.at (b := bo) (C := x.enc) HM.out.2.1).1⟩ (fun hHeld => ?_)
      clear hK K'
      try (simp only [Act.put, List.setIfInBounds_toArray]; dsimp only [List.set_cons_zero, List.set_cons_succ])
      refine wpAnyF_take2 [] (i := 45) (oi := ⟨_, _, _, _, _, _⟩) (v := ?_) rfl (by kernel_rfl) (by kernel_rfl) (by kernel_rfl) (by kernel_rfl) (by kernel_rfl) (fun c9 a9 w9 h9 => hQ9 c9 a9 _ _ w9 h9) (Or.inl ⟨by rfl, ?_⟩) (by assumption) ?_
      rotate_left 1
      · intro W' hSw
        obtain ⟨hS1, hS2⟩ := hSw
        go_simp
        try with_reducible rfl
      try (simp only [Act.put, List.setIfInBounds_toArray]; dsimp only [List.set_cons_zero, List.set_cons_succ])
      refine wpAnyF_last (o := ⟨_, _, _, _, _, _⟩) (by kernel_rfl) rfl (fun K' hK => ?_)
      go_simp
      refine hK.out _ _ ?_
      clear hK K'
      try (simp only [Act.put, List.setIfInBounds_toArray]; dsimp only [List.set_cons_zero, List.set_cons_succ])
      refine wpAnyF_done (by kernel_rfl) ?_ _
      refine ⟨rfl, rfl, ?_⟩
      rw [HI14.out]
      exact ⟨rfl, rfl, rfl, rfl, rfl, rfl, rfl, rfl, hD12⟩
  clear hF hne hm5
  intro F14 V14 hrel
  rw [HI14.out] at hrel
  obtain ⟨f3, f5, f6, f7, f28, f29, f30, ft, HT14⟩ := hrel
  rw [frame233L, f3, f5, f6, f7, f28, f29, f30, ft]
  clear f3 f5 f6 f7 f28 f29 f30 ft HI14
  have kv := (HT14.out.at (b := bv) (C := v.enc) HM.out.1).1
  go_upto_if 138 with fail
  obtain ⟨I18, hI18⟩ : ∃ I : (Nat → Value) → World → Prop, I = cu3 V0' (some ⟨b, o, none⟩) len cap i bp bo bv c1 c2 bx M1 M2 8 (.int .u64 (w64 (clsV v))) := ⟨_, rfl⟩
  have HI18 := hid_of hI18
  clear hI18
  refine wp_cut_f 233 I18 ?_ ?_
  · as_aux_lemma =>
    have ho : v.open_ = true ∨ v.open_ = false := by cases v.open_ <;> simp
    have hs1 : IntKind.u64.wrap (w64 v.height - 1) = w64 (v.height - 1) := x64_sub v.height 1
    rcases ho with ho | ho
    · have hc : clsV v = v.height - 1 := by unfold clsV; rw [if_pos ho]
      rw [hc] at HI18
      clear hc
      try rw [ho]
      go_wp2_with fail
      refine ⟨rfl, rfl, ?_⟩
      rw [HI18.out]
      exact ⟨rfl, rfl, rfl, rfl, rfl, rfl, rfl, rfl, HT14⟩
    · have hc : clsV v = v.height := by unfold clsV; rw [if_neg (by simp [ho])]
      rw [hc] at HI18
      clear hc
      try rw [ho]
      go_wp2_with fail
      refine ⟨rfl, rfl, ?_⟩
      rw [HI18.out]
      exact ⟨rfl, rfl, rfl, rfl, rfl, rfl, rfl, rfl, HT14⟩
  clear HT14 kv
  intro F18 V18 hrel
  rw [HI18.out] at hrel
  obtain ⟨f3, f5, f6, f7, f28, f29, f30, f8, HT18⟩ := hrel
  rw [frame233L, f3, f5, f6, f7, f28, f29, f30, f8]
  clear f3 f5 f6 f7 f28 f29 f30 f8 HI18
  as_aux_lemma =>
    have hls := HT18.out.q31 HH.out.1.1.1
    rw [← HVV.out] at hls
    have hcl : M1.past.closed = clsV v := by rw [HVV.out]; exact cls_past HH.out.1.1.1
    have hsc := sum_cls M1.past
    rw [hcl] at hsc
    obtain ⟨S, hS⟩ : ∃ S, S = sumF M1.past (clsV v) := ⟨_, rfl⟩
    rw [← hS] at hls hsc
    have HSS := hid_of hS
    have hne : ∀ w' X Y, (cmpNe 50 X Y (.agg S.1.enc.toArray) (.agg S.1.enc.toArray)).run Tryz.prog w' = .ok (.value (.bool false)) w' := fun w' X Y => by rw [neq50, eqA_self]; rfl
    have hgt : decide (0 < w64 (clsV v)) = (S.2 == 0) := hsc.symm
    clear hcl hS
    go_wp2_with fail
    refine hls.mono ?_
    clear hls
    rintro e V19 ⟨rfl, hx19⟩
    dsimp only
    have h20 := (HT18.out.ext hx19).box S.1.enc 50
    obtain ⟨V20, hV20⟩ : ∃ V20, V20 = V19.alloc (.cells S.1.enc.toArray 50) := ⟨_, rfl⟩
    obtain ⟨bs1, hbs1⟩ : ∃ bs1, bs1 = V19.heap.size := ⟨_, rfl⟩
    rw [← hV20, ← hbs1] at h20
    have hsa := h20.q32 (clsV v)
    rw [← HSS.out] at hsa
    have H20 := hid_of h20
    have HV20 := hid_of hV20
    have HBS1 := hid_of hbs1
    clear hx19 hV20 hbs1 h20 HT18
    go_upto_region 20 with fail
    rw [← HV20.out, ← HBS1.out]
    clear HV20 HBS1
    go_wp2_with fail
    refine hsa.mono ?_
    clear hsa
    rintro e V21 ⟨rfl, hx21⟩
    dsimp only
    have h22 := (H20.out.ext hx21).box S.1.enc 50
    obtain ⟨V22, hV22⟩ : ∃ V22, V22 = V21.alloc (.cells S.1.enc.toArray 50) := ⟨_, rfl⟩
    obtain ⟨bs2, hbs2⟩ : ∃ bs2, bs2 = V21.heap.size := ⟨_, rfl⟩
    rw [← hV22, ← hbs2] at h22
    have k1 := (h22.at (b := bs1) (C := S.1.enc) (by simp)).1
    have k2 := (h22.at (b := bs2) (C := S.1.enc) (by simp)).1
    have ls : S.1.enc.length = 46 := Summary.length_enc _
    have h23 : TwI V0' c1 c2 bx M1 M2 V22 := h22.sub (fun p hp => List.mem_cons_of_mem _ (List.mem_cons_of_mem _ hp))
    have ko := (h23.at (b := bo) (C := x.enc) HM.out.2.1).1
    have hqu := quote_any V22 x.txs X (HT.out.ext h23.we)
    obtain ⟨qg, hqg⟩ : ∃ q, q = quoG X := ⟨_, rfl⟩
    obtain ⟨qf, hqf⟩ : ∃ q, q = quoF X := ⟨_, rfl⟩
    obtain ⟨qb, hqb⟩ : ∃ q, q = quoB X := ⟨_, rfl⟩
    rw [← hqg, ← hqf, ← hqb] at hqu
    have HQU : Hid (qg = quoG X ∧ qf = quoF X ∧ qb = quoB X) := ⟨hqg, hqf, hqb⟩
    have H23 := hid_of h23
    have HV22 := hid_of hV22
    have HBS2 := hid_of hbs2
    clear hx21 hV22 hbs2 h22 h23 H20 hqg hqf hqb HSS
    go_upto_region 21 with fail
    rw [← HV22.out, ← HBS2.out]
    clear HV22 HBS2
    obtain ⟨I21, hI21⟩ : ∃ I : (Nat → Value) → World → Prop, I = fun F W' => cu3 V0' (some ⟨b, o, none⟩) len cap i bp bo bv c1 c2 bx M1 M2 167 (.bool false) F W' ∧ W' = V22 := ⟨_, rfl⟩
    have HI21 := hid_of hI21
    clear hI21
    refine wp_cut_f 233 I21 ?_ ?_
    · as_aux_lemma =>
      clear hqu ko
      obtain ⟨S1, sc⟩ := S
      dsimp only at hne hgt ls k1 k2 ⊢
      by_cases hz : sc = 0
      · subst hz
        have hp : (0 : Int) < w64 (clsV v) := by simpa using hgt
        clear hgt hsc
        go_wp2_with fail
        refine ⟨rfl, rfl, ?_⟩
        rw [HI21.out]
        exact ⟨⟨rfl, rfl, rfl, rfl, rfl, rfl, rfl, rfl, H23⟩, rfl⟩
      · have hz' : (sc == 0) = false := by simp [hz]
        have hp : ¬ (0 : Int) < w64 (clsV v) := by
          rw [hz'] at hgt
          simpa using hgt
        clear hgt hsc hz
        go_wp2_with fail
        refine ⟨rfl, rfl, ?_⟩
        rw [HI21.out]
        exact ⟨⟨rfl, rfl, rfl, rfl, rfl, rfl, rfl, rfl, H23⟩, rfl⟩
    intro F21 V21' hrel
    rw [HI21.out] at hrel
    obtain ⟨⟨f3, f5, f6, f7, f28, f29, f30, ft, -⟩, rfl⟩ := hrel
    rw [frame233L, f3, f5, f6, f7, f28, f29, f30, ft]
    clear f3 f5 f6 f7 f28 f29 f30 ft HI21
    go_wp2_with fail
    refine hqu.mono ?_
    clear hqu
    rintro e V23 ⟨rfl, hx23⟩
    dsimp only
    have hD24 := (H23.out.ext hx23).ext (extends_drewN (ext_Ext (Ext.refl V23)) 1)
    clear hx23 H23 k1 k2 ls ko hne hgt hsc
    go_upto_region 24 with fail
    obtain ⟨I24, hI24⟩ : ∃ I : (Nat → Value) → World → Prop, I = cu3 V0' (some ⟨b, o, none⟩) len cap i bp bo bv c1 c2 bx M1 M2 198 (.bool false) := ⟨_, rfl⟩
    have HI24 := hid_of hI24
    clear hI24
    refine wp_cut_f 233 I24 ?_ ?_
    · as_aux_lemma =>
      have ho : v.open_ = true ∨ v.open_ = false := by cases v.open_ <;> simp
      rcases ho with ho | ho
      · repeat go_step
        refine wp_region_F 23 (fun W' => blk W' bv = some v.enc ∧ blk W' bo = some x.enc) (by kernel_rfl) ⟨(hD24.at (b := bv) (C := v.enc) HM.out.1).1, (hD24.at (b := bo) (C := x.enc) HM.out.2.1).1⟩ (fun hHeld => ?_)
        refine wpAnyF_take2 [7, 5, 1] (i := 0) (oi := ⟨_, _, _, _, _, _⟩) (v := ?_) rfl (by kernel_rfl) (by kernel_rfl) (by kernel_rfl) (by kernel_rfl) (by kernel_rfl) (fun _ _ _ h => h) (Or.inl ⟨by rfl, ?_⟩) (by assumption) ?_
        rotate_left 1
        · intro W' hSw
          obtain ⟨hS1, hS2⟩ := hSw
          go_simp
          try with_reducible rfl
        try (simp only [Act.put, List.setIfInBounds_toArray]; dsimp only [List.set_cons_zero, List.set_cons_succ])
        refine wpAnyF_take2 [7, 5] (i := 1) (oi := ⟨_, _, _, _, _, _⟩) (v := ?_) rfl (by kernel_rfl) (by kernel_rfl) (by kernel_rfl) (by kernel_rfl) (by kernel_rfl) (fun _ _ _ h => h) (Or.inl ⟨by rfl, ?_⟩) (by assumption) ?_
        rotate_left 1
        · intro W' hSw
          obtain ⟨hS1, hS2⟩ := hSw
          go_simp
          try with_reducible rfl
        try (simp only [Act.put, List.setIfInBounds_toArray]; dsimp only [List.set_cons_zero, List.set_cons_succ])
        refine wpAnyF_take2 [7, 5] (i := 2) (oi := ⟨_, _, _, _, _, _⟩) (v := ?_) rfl (by kernel_rfl) (by kernel_rfl) (by kernel_rfl) (by kernel_rfl) (by kernel_rfl) (fun _ _ _ h => h) (Or.inl ⟨by rfl, ?_⟩) (by assumption) ?_
        rotate_left 1
        · intro W' hSw
          obtain ⟨hS1, hS2⟩ := hSw
          go_simp
          try with_reducible rfl
        try (simp only [Act.put, List.setIfInBounds_toArray]; dsimp only [List.set_cons_zero, List.set_cons_succ])
        refine wpAnyF_take2 [7, 5] (i := 3) (oi := ⟨_, _, _, _, _, _⟩) (v := ?_) rfl (by kernel_rfl) (by kernel_rfl) (by kernel_rfl) (by kernel_rfl) (by kernel_rfl) (fun _ _ _ h => h) (Or.inl ⟨by rfl, ?_⟩) (by assumption) ?_
        rotate_left 1
        · intro W' hSw
          obtain ⟨hS1, hS2⟩ := hSw
          go_simp
          try with_reducible rfl
        try (simp only [Act.put, List.setIfInBounds_toArray]; dsimp only [List.set_cons_zero, List.set_cons_succ])
        refine wpAnyF_take2 [7, 5] (i := 4) (oi := ⟨_, _, _, _, _, _⟩) (v := ?_) rfl (by kernel_rfl) (by kernel_rfl) (by kernel_rfl) (by kernel_rfl) (by kernel_rfl) (fun _ _ _ h => h) (Or.inl ⟨by rfl, ?_⟩) (by assumption) ?_
        rotate_left 1
        · intro W' hSw
          obtain ⟨hS1, hS2⟩ := hSw
          go_simp
          try with_reducible rfl
        try (simp only [Act.put, List.setIfInBounds_toArray]; dsimp only [List.set_cons_zero, List.set_cons_succ])
        refine wpAnyF_one (o := ⟨_, _, _, _, _, _⟩) (i := 5) (by kernel_rfl) rfl rfl (fun K' hK => ?_)
        go_simp
        have hq1 := quoteAgrees_any _ x.txs X (HT.out.ext hD24.we)
        rw [← HQU.out.1, ← HQU.out.2.1, ← HQU.out.2.2] at hq1
        refine hq1.mono ?_
        clear hq1
        rintro e VG1 ⟨rfl, hx1⟩
        dsimp only
        have hG1 := hD24.ext hx1
        clear hx1
        refine hK.out _ _ ⟨(hG1.at (b := bv) (C := v.enc) HM.out.1).1, (hG1.at (b := bo) (C := x.enc) HM.out.2.1).1⟩ (fun hHeld => ?_)
        clear hK K'
        try (simp only [Act.put, List.setIfInBounds_toArray]; dsimp only [List.set_cons_zero, List.set_cons_succ])
        refine wpAnyF_take2 [7] (i := 6) (oi := ⟨_, _, _, _, _, _⟩) (v := ?_) rfl (by kernel_rfl) (by kernel_rfl) (by kernel_rfl) (by kernel_rfl) (by kernel_rfl) (fun _ _ _ h => h) (Or.inl ⟨by rfl, ?_⟩) (by assumption) ?_
        rotate_left 1
        · intro W' hSw
          obtain ⟨hS1, hS2⟩ := hSw
          go_simp
          try with_reducible rfl
        try (simp only [Act.put, List.setIfInBounds_toArray]; dsimp only [List.set_cons_zero, List.set_cons_succ])
        refine wpAnyF_take2 [] (i := 7) (oi := ⟨_, _, _, _, _, _⟩) (v := ?_) rfl (by kernel_rfl) (by kernel_rfl) (by kernel_rfl) (by kernel_rfl) (by kernel_rfl) (fun _ _ _ h => h) (Or.inl ⟨by rfl, ?_⟩) (by assumption) ?_
        rotate_left 1
        · intro W' hSw
          obtain ⟨hS1, hS2⟩ := hSw
          go_simp
          try with_reducible rfl
        try (simp only [Act.put, List.setIfInBounds_toArray]; dsimp only [List.set_cons_zero, List.set_cons_succ])
        refine wpAnyF_take2 [22, 11] (i := 8) (oi := ⟨_, _, _, _, _, _⟩) (v := ?_) rfl (by kernel_rfl) (by kernel_rfl) (by kernel_rfl) (by kernel_rfl) (by kernel_rfl) (fun _ _ _ h => h) (Or.inl ⟨by rfl, ?_⟩) (by assumption) ?_
        rotate_left 1
        · intro W' hSw
          obtain ⟨hS1, hS2⟩ := hSw
          go_simp
          try with_reducible rfl
        try (simp only [Act.put, List.setIfInBounds_toArray]; dsimp only [List.set_cons_zero, List.set_cons_succ])
        refine wpAnyF_take2 [22, 11, 10] (i := 9) (oi := ⟨_, _, _, _, _, _⟩) (v := ?_) rfl (by kernel_rfl) (by kernel_rfl) (by kernel_rfl) (by kernel_rfl) (by kernel_rfl) (fun _ _ _ h => h) (Or.inl ⟨by rfl, ?_⟩) (by assumption) ?_
        rotate_left 1
        · intro W' hSw
          obtain ⟨hS1, hS2⟩ := hSw
          go_simp
          try with_reducible rfl
        try (simp only [Act.put, List.setIfInBounds_toArray]; dsimp only [List.set_cons_zero, List.set_cons_succ])
        refine wpAnyF_take2 [22, 11] (i := 10) (oi := ⟨_, _, _, _, _, _⟩) (v := ?_) rfl (by kernel_rfl) (by kernel_rfl) (by kernel_rfl) (by kernel_rfl) (by kernel_rfl) (fun _ _ _ h => h) (Or.inl ⟨by rfl, ?_⟩) (by assumption) ?_
        rotate_left 1
        · intro W' hSw
          obtain ⟨hS1, hS2⟩ := hSw
          go_simp
          try with_reducible rfl
        try (simp only [Act.put, List.setIfInBounds_toArray]; dsimp only [List.set_cons_zero, List.set_cons_succ])
        refine wpAnyF_take2 [22, 21, 14, 13] (i := 12) (oi := ⟨_, _, _, _, _, _⟩) (v := ?_) rfl (by kernel_rfl) (by kernel_rfl) (by kernel_rfl) (by kernel_rfl) (by kernel_rfl) (fun _ _ _ h => h) (Or.inl ⟨by rfl, ?_⟩) (by assumption) ?_
        rotate_left 1
        · intro W' hSw
          obtain ⟨hS1, hS2⟩ := hSw
          go_simp
          try with_reducible rfl
        try (simp only [Act.put, List.setIfInBounds_toArray]; dsimp only [List.set_cons_zero, List.set_cons_succ])
        refine wpAnyF_take2 [22, 21, 14] (i := 13) (oi := ⟨_, _, _, _, _, _⟩) (v := ?_) rfl (by kernel_rfl) (by kernel_rfl) (by kernel_rfl) (by kernel_rfl) (by kernel_rfl) (fun _ _ _ h => h) (Or.inl ⟨by rfl, ?_⟩) (by assumption) ?_
        rotate_left 1
        · intro W' hSw
          obtain ⟨hS1, hS2⟩ := hSw
          go_simp
          try with_reducible rfl
        try (simp only [Act.put, List.setIfInBounds_toArray]; dsimp only [List.set_cons_zero, List.set_cons_succ])
        refine wpAnyF_one (o := ⟨_, _, _, _, _, _⟩) (i := 11) (by kernel_rfl) rfl rfl (fun K' hK => ?_)
        go_simp
        have hq2 := hG1.q35 x.txs X (HT.out.ext hG1.we)
        rw [← HVV.out, ho, Bool.true_and] at hq2
        refine hq2.mono ?_
        clear hq2
        rintro e VG2 ⟨rfl, hx2⟩
        dsimp only
        have hG2 := hG1.ext hx2
        clear hx2
        refine hK.out _ _ ⟨(hG2.at (b := bv) (C := v.enc) HM.out.1).1, (hG2.at (b := bo) (C := x.enc) HM.out.2.1).1⟩ (fun hHeld => ?_)
        clear hK K'
        try (simp only [Act.put, List.setIfInBounds_toArray]; dsimp only [List.set_cons_zero, List.set_cons_succ])
        refine wpAnyF_take2 [22, 21] (i := 14) (oi := ⟨_, _, _, _, _, _⟩) (v := ?_) rfl (by kernel_rfl) (by kernel_rfl) (by kernel_rfl) (by kernel_rfl) (by kernel_rfl) (fun _ _ _ h => h) (Or.inl ⟨by rfl, ?_⟩) (by assumption) ?_
        rotate_left 1
        · intro W' hSw
          obtain ⟨hS1, hS2⟩ := hSw
          go_simp
          try with_reducible rfl
        try (simp only [Act.put, List.setIfInBounds_toArray]; dsimp only [List.set_cons_zero, List.set_cons_succ])
        refine wpAnyF_take2 [22, 21, 20, 17, 16] (i := 15) (oi := ⟨_, _, _, _, _, _⟩) (v := ?_) rfl (by kernel_rfl) (by kernel_rfl) (by kernel_rfl) (by kernel_rfl) (by kernel_rfl) (fun _ _ _ h => h) (Or.inl ⟨by rfl, ?_⟩) (by assumption) ?_
        rotate_left 1
        · intro W' hSw
          obtain ⟨hS1, hS2⟩ := hSw
          go_simp
          try with_reducible rfl
        try (simp only [Act.put, List.setIfInBounds_toArray]; dsimp only [List.set_cons_zero, List.set_cons_succ])
        refine wpAnyF_take2 [22, 21, 20, 17] (i := 16) (oi := ⟨_, _, _, _, _, _⟩) (v := ?_) rfl (by kernel_rfl) (by kernel_rfl) (by kernel_rfl) (by kernel_rfl) (by kernel_rfl) (fun _ _ _ h => h) (Or.inl ⟨by rfl, ?_⟩) (by assumption) ?_
        rotate_left 1
        · intro W' hSw
          obtain ⟨hS1, hS2⟩ := hSw
          go_simp
          try with_reducible rfl
        try (simp only [Act.put, List.setIfInBounds_toArray]; dsimp only [List.set_cons_zero, List.set_cons_succ])
        refine wpAnyF_take2 [22, 21, 20, 19] (i := 18) (oi := ⟨_, _, _, _, _, _⟩) (v := ?_) rfl (by kernel_rfl) (by kernel_rfl) (by kernel_rfl) (by kernel_rfl) (by kernel_rfl) (fun _ _ _ h => h) (Or.inl ⟨by rfl, ?_⟩) (by assumption) ?_
        rotate_left 1
        · intro W' hSw
          obtain ⟨hS1, hS2⟩ := hSw
          go_simp
          try with_reducible rfl
        try (simp only [Act.put, List.setIfInBounds_toArray]; dsimp only [List.set_cons_zero, List.set_cons_succ])
        refine wpAnyF_one (o := ⟨_, _, _, _, _, _⟩) (i := 17) (by kernel_rfl) rfl rfl (fun K' hK => ?_)
        go_simp
        have hq3 := gasOfAll_any _ x.txs X (HT.out.ext hG2.we)
        refine hq3.mono ?_
        clear hq3
        rintro e VG3 ⟨rfl, hx3⟩
        dsimp only
        have hG3 := hG2.ext hx3
        clear hx3
        refine hK.out _ _ ⟨(hG3.at (b := bv) (C := v.enc) HM.out.1).1, (hG3.at (b := bo) (C := x.enc) HM.out.2.1).1⟩ (fun hHeld => ?_)
        clear hK K'
        try (simp only [Act.put, List.setIfInBounds_toArray]; dsimp only [List.set_cons_zero, List.set_cons_succ])
        refine wpAnyF_one (o := ⟨_, _, _, _, _, _⟩) (i := 19) (by kernel_rfl) rfl rfl (fun K' hK => ?_)
        go_simp
        have hq4 := hG3.q26
        rw [← HVV.out] at hq4
        refine hq4.mono ?_
        clear hq4
        rintro e VG4 ⟨rfl, hx4⟩
        dsimp only
        have hG4 := hG3.ext hx4
        clear hx4
        refine hK.out _ _ ⟨(hG4.at (b := bv) (C := v.enc) HM.out.1).1, (hG4.at (b := bo) (C := x.enc) HM.out.2.1).1⟩ (fun hHeld => ?_)
        clear hK K'
        try (simp only [Act.put, List.setIfInBounds_toArray]; dsimp only [List.set_cons_zero, List.set_cons_succ])
        refine wpAnyF_take2 [22, 21] (i := 20) (oi := ⟨_, _, _, _, _, _⟩) (v := ?_) rfl (by kernel_rfl) (by kernel_rfl) (by kernel_rfl) (by kernel_rfl) (by kernel_rfl) (fun _ _ _ h => h) (Or.inl ⟨by rfl, ?_⟩) (by assumption) ?_
        rotate_left 1
        · intro W' hSw
          obtain ⟨hS1, hS2⟩ := hSw
          go_simp
          try with_reducible rfl
        try (simp only [Act.put, List.setIfInBounds_toArray]; dsimp only [List.set_cons_zero, List.set_cons_succ])
        refine wpAnyF_take2 [22] (i := 21) (oi := ⟨_, _, _, _, _, _⟩) (v := ?_) rfl (by kernel_rfl) (by kernel_rfl) (by kernel_rfl) (by kernel_rfl) (by kernel_rfl) (fun _ _ _ h => h) (Or.inl ⟨by rfl, ?_⟩) (by assumption) ?_
        rotate_left 1
        · intro W' hSw
          obtain ⟨hS1, hS2⟩ := hSw
          go_simp
          try with_reducible rfl
        try (simp only [Act.put, List.setIfInBounds_toArray]; dsimp only [List.set_cons_zero, List.set_cons_succ])
        refine wpAnyF_take2 [] (i := 22) (oi := ⟨_, _, _, _, _, _⟩) (v := ?_) rfl (by kernel_rfl) (by kernel_rfl) (by kernel_rfl) (by kernel_rfl) (by kernel_rfl) (fun _ _ _ h => h) (Or.inl ⟨by rfl, ?_⟩) (by assumption) ?_
        rotate_left 1
        · intro W' hSw
          obtain ⟨hS1, hS2⟩ := hSw
          go_simp
          try with_reducible rfl
        try (simp only [Act.put, List.setIfInBounds_toArray]; dsimp only [List.set_cons_zero, List.set_cons_succ])
        refine wpAnyF_last (o := ⟨_, _, _, _, _, _⟩) (by kernel_rfl) rfl (fun K' hK => ?_)
        go_simp
        refine hK.out _ _ ?_
        clear hK K'
        try (simp only [Act.put, List.setIfInBounds_toArray]; dsimp only [List.set_cons_zero, List.set_cons_succ])
        refine wpAnyF_done (by kernel_rfl) ?_ _
        refine ⟨rfl, rfl, ?_⟩
        rw [HI24.out]
        exact ⟨rfl, rfl, rfl, rfl, rfl, rfl, rfl, by first | rfl | simp, hG4⟩
      · repeat go_step
        refine wp_region_F 23 (fun W' => blk W' bv = some v.enc ∧ blk W' bo = some x.enc) (by kernel_rfl) ⟨(hD24.at (b := bv) (C := v.enc) HM.out.1).1, (hD24.at (b := bo) (C := x.enc) HM.out.2.1).1⟩ (fun hHeld => ?_)
        refine wpAnyF_take2 [7, 5, 1] (i := 0) (oi := ⟨_, _, _, _, _, _⟩) (v := ?_) rfl (by kernel_rfl) (by kernel_rfl) (by kernel_rfl) (by kernel_rfl) (by kernel_rfl) (fun _ _ _ h => h) (Or.inl ⟨by rfl, ?_⟩) (by assumption) ?_
        rotate_left 1
        · intro W' hSw
          obtain ⟨hS1, hS2⟩ := hSw
          go_simp
          try with_reducible rfl
        try (simp only [Act.put, List.setIfInBounds_toArray]; dsimp only [List.set_cons_zero, List.set_cons_succ])
        refine wpAnyF_take2 [7, 5] (i := 1) (oi := ⟨_, _, _, _, _, _⟩) (v := ?_) rfl (by kernel_rfl) (by kernel_rfl) (by kernel_rfl) (by kernel_rfl) (by kernel_rfl) (fun _ _ _ h => h) (Or.inl ⟨by rfl, ?_⟩) (by assumption) ?_
        rotate_left 1
        · intro W' hSw
          obtain ⟨hS1, hS2⟩ := hSw
          go_simp
          try with_reducible rfl
        try (simp only [Act.put, List.setIfInBounds_toArray]; dsimp only [List.set_cons_zero, List.set_cons_succ])
        refine wpAnyF_take2 [7, 5] (i := 2) (oi := ⟨_, _, _, _, _, _⟩) (v := ?_) rfl (by kernel_rfl) (by kernel_rfl) (by kernel_rfl) (by kernel_rfl) (by kernel_rfl) (fun _ _ _ h => h) (Or.inl ⟨by rfl, ?_⟩) (by assumption) ?_
        rotate_left 1
        · intro W' hSw
          obtain ⟨hS1, hS2⟩ := hSw
          go_simp
          try with_reducible rfl
        try (simp only [Act.put, List.setIfInBounds_toArray]; dsimp only [List.set_cons_zero, List.set_cons_succ])
        refine wpAnyF_take2 [7, 5] (i := 3) (oi := ⟨_, _, _, _, _, _⟩) (v := ?_) rfl (by kernel_rfl) (by kernel_rfl) (by kernel_rfl) (by kernel_rfl) (by kernel_rfl) (fun _ _ _ h => h) (Or.inl ⟨by rfl, ?_⟩) (by assumption) ?_
        rotate_left 1
        · intro W' hSw
          obtain ⟨hS1, hS2⟩ := hSw
          go_simp
          try with_reducible rfl
        try (simp only [Act.put, List.setIfInBounds_toArray]; dsimp only [List.set_cons_zero, List.set_cons_succ])
        refine wpAnyF_take2 [7, 5] (i := 4) (oi := ⟨_, _, _, _, _, _⟩) (v := ?_) rfl (by kernel_rfl) (by kernel_rfl) (by kernel_rfl) (by kernel_rfl) (by kernel_rfl) (fun _ _ _ h => h) (Or.inl ⟨by rfl, ?_⟩) (by assumption) ?_
        rotate_left 1
        · intro W' hSw
          obtain ⟨hS1, hS2⟩ := hSw
          go_simp
          try with_reducible rfl
        try (simp only [Act.put, List.setIfInBounds_toArray]; dsimp only [List.set_cons_zero, List.set_cons_succ])
        refine wpAnyF_one (o := ⟨_, _, _, _, _, _⟩) (i := 5) (by kernel_rfl) rfl rfl (fun K' hK => ?_)
        go_simp
        have hq1 := quoteAgrees_any _ x.txs X (HT.out.ext hD24.we)
        rw [← HQU.out.1, ← HQU.out.2.1, ← HQU.out.2.2] at hq1
        refine hq1.mono ?_
        clear hq1
        rintro e VG1 ⟨rfl, hx1⟩
        dsimp only
        have hG1 := hD24.ext hx1
        clear hx1
        refine hK.out _ _ ⟨(hG1.at (b := bv) (C := v.enc) HM.out.1).1, (hG1.at (b := bo) (C := x.enc) HM.out.2.1).1⟩ (fun hHeld => ?_)
        clear hK K'
        try (simp only [Act.put, List.setIfInBounds_toArray]; dsimp only [List.set_cons_zero, List.set_cons_succ])
        refine wpAnyF_take2 [7] (i := 6) (oi := ⟨_, _, _, _, _, _⟩) (v := ?_) rfl (by kernel_rfl) (by kernel_rfl) (by kernel_rfl) (by kernel_rfl) (by kernel_rfl) (fun _ _ _ h => h) (Or.inl ⟨by rfl, ?_⟩) (by assumption) ?_
        rotate_left 1
        · intro W' hSw
          obtain ⟨hS1, hS2⟩ := hSw
          go_simp
          try with_reducible rfl
        try (simp only [Act.put, List.setIfInBounds_toArray]; dsimp only [List.set_cons_zero, List.set_cons_succ])
        refine wpAnyF_take2 [] (i := 7) (oi := ⟨_, _, _, _, _, _⟩) (v := ?_) rfl (by kernel_rfl) (by kernel_rfl) (by kernel_rfl) (by kernel_rfl) (by kernel_rfl) (fun _ _ _ h => h) (Or.inl ⟨by rfl, ?_⟩) (by assumption) ?_
        rotate_left 1
        · intro W' hSw
          obtain ⟨hS1, hS2⟩ := hSw
          go_simp
          try with_reducible rfl
        try (simp only [Act.put, List.setIfInBounds_toArray]; dsimp only [List.set_cons_zero, List.set_cons_succ])
        refine wpAnyF_take2 [22, 11] (i := 8) (oi := ⟨_, _, _, _, _, _⟩) (v := ?_) rfl (by kernel_rfl) (by kernel_rfl) (by kernel_rfl) (by kernel_rfl) (by kernel_rfl) (fun _ _ _ h => h) (Or.inl ⟨by rfl, ?_⟩) (by assumption) ?_
        rotate_left 1
        · intro W' hSw
          obtain ⟨hS1, hS2⟩ := hSw
          go_simp
          try with_reducible rfl
        try (simp only [Act.put, List.setIfInBounds_toArray]; dsimp only [List.set_cons_zero, List.set_cons_succ])
        refine wpAnyF_take2 [22, 11, 10] (i := 9) (oi := ⟨_, _, _, _, _, _⟩) (v := ?_) rfl (by kernel_rfl) (by kernel_rfl) (by kernel_rfl) (by kernel_rfl) (by kernel_rfl) (fun _ _ _ h => h) (Or.inl ⟨by rfl, ?_⟩) (by assumption) ?_
        rotate_left 1
        · intro W' hSw
          obtain ⟨hS1, hS2⟩ := hSw
          go_simp
          try with_reducible rfl
        try (simp only [Act.put, List.setIfInBounds_toArray]; dsimp only [List.set_cons_zero, List.set_cons_succ])
        refine wpAnyF_take2 [22, 11] (i := 10) (oi := ⟨_, _, _, _, _, _⟩) (v := ?_) rfl (by kernel_rfl) (by kernel_rfl) (by kernel_rfl) (by kernel_rfl) (by kernel_rfl) (fun _ _ _ h => h) (Or.inl ⟨by rfl, ?_⟩) (by assumption) ?_
        rotate_left 1
        · intro W' hSw
          obtain ⟨hS1, hS2⟩ := hSw
          go_simp
          try with_reducible rfl
        try (simp only [Act.put, List.setIfInBounds_toArray]; dsimp only [List.set_cons_zero, List.set_cons_succ])
        refine wpAnyF_take2 [22, 21, 14, 13] (i := 12) (oi := ⟨_, _, _, _, _, _⟩) (v := ?_) rfl (by kernel_rfl) (by kernel_rfl) (by kernel_rfl) (by kernel_rfl) (by kernel_rfl) (fun _ _ _ h => h) (Or.inl ⟨by rfl, ?_⟩) (by assumption) ?_
        rotate_left 1
        · intro W' hSw
          obtain ⟨hS1, hS2⟩ := hSw
          go_simp
          try with_reducible rfl
        try (simp only [Act.put, List.setIfInBounds_toArray]; dsimp only [List.set_cons_zero, List.set_cons_succ])
        refine wpAnyF_take2 [22, 21, 14] (i := 13) (oi := ⟨_, _, _, _, _, _⟩) (v := ?_) rfl (by kernel_rfl) (by kernel_rfl) (by kernel_rfl) (by kernel_rfl) (by kernel_rfl) (fun _ _ _ h => h) (Or.inl ⟨by rfl, ?_⟩) (by assumption) ?_
        rotate_left 1
        · intro W' hSw
          obtain ⟨hS1, hS2⟩ := hSw
          go_simp
          try with_reducible rfl
        try (simp only [Act.put, List.setIfInBounds_toArray]; dsimp only [List.set_cons_zero, List.set_cons_succ])
        refine wpAnyF_one (o := ⟨_, _, _, _, _, _⟩) (i := 11) (by kernel_rfl) rfl rfl (fun K' hK => ?_)
        go_simp
        have hq2 := hG1.q35 x.txs X (HT.out.ext hG1.we)
        rw [← HVV.out, ho, Bool.false_and] at hq2
        refine hq2.mono ?_
        clear hq2
        rintro e VG2 ⟨rfl, hx2⟩
        dsimp only
        have hG2 := hG1.ext hx2
        clear hx2
        refine hK.out _ _ ⟨(hG2.at (b := bv) (C := v.enc) HM.out.1).1, (hG2.at (b := bo) (C := x.enc) HM.out.2.1).1⟩ (fun hHeld => ?_)
        clear hK K'
        try (simp only [Act.put, List.setIfInBounds_toArray]; dsimp only [List.set_cons_zero, List.set_cons_succ])
        refine wpAnyF_take2 [22, 21] (i := 14) (oi := ⟨_, _, _, _, _, _⟩) (v := ?_) rfl (by kernel_rfl) (by kernel_rfl) (by kernel_rfl) (by kernel_rfl) (by kernel_rfl) (fun _ _ _ h => h) (Or.inl ⟨by rfl, ?_⟩) (by assumption) ?_
        rotate_left 1
        · intro W' hSw
          obtain ⟨hS1, hS2⟩ := hSw
          go_simp
          try with_reducible rfl
        try (simp only [Act.put, List.setIfInBounds_toArray]; dsimp only [List.set_cons_zero, List.set_cons_succ])
        refine wpAnyF_take2 [22, 21, 20, 17, 16] (i := 15) (oi := ⟨_, _, _, _, _, _⟩) (v := undef) rfl (by kernel_rfl) (by kernel_rfl) (by kernel_rfl) (by kernel_rfl) (by kernel_rfl) (fun _ _ _ h => h) (Or.inr ⟨by rfl, rfl⟩) (by assumption) ?_
        try (simp only [Act.put, List.setIfInBounds_toArray]; dsimp only [List.set_cons_zero, List.set_cons_succ])
        refine wpAnyF_take2 [22, 21, 20, 17] (i := 16) (oi := ⟨_, _, _, _, _, _⟩) (v := undef) rfl (by kernel_rfl) (by kernel_rfl) (by kernel_rfl) (by kernel_rfl) (by kernel_rfl) (fun _ _ _ h => h) (Or.inr ⟨by rfl, rfl⟩) (by assumption) ?_
        try (simp only [Act.put, List.setIfInBounds_toArray]; dsimp only [List.set_cons_zero, List.set_cons_succ])
        refine wpAnyF_take2 [22, 21, 20] (i := 17) (oi := ⟨_, _, _, _, _, _⟩) (v := undef) rfl (by kernel_rfl) (by kernel_rfl) (by kernel_rfl) (by kernel_rfl) (by kernel_rfl) (fun _ _ _ h => h) (Or.inr ⟨by rfl, rfl⟩) (by assumption) ?_
        try (simp only [Act.put, List.setIfInBounds_toArray]; dsimp only [List.set_cons_zero, List.set_cons_succ])
        refine wpAnyF_take2 [22, 21, 20, 19] (i := 18) (oi := ⟨_, _, _, _, _, _⟩) (v := undef) rfl (by kernel_rfl) (by kernel_rfl) (by kernel_rfl) (by kernel_rfl) (by kernel_rfl) (fun _ _ _ h => h) (Or.inr ⟨by rfl, rfl⟩) (by assumption) ?_
        try (simp only [Act.put, List.setIfInBounds_toArray]; dsimp only [List.set_cons_zero, List.set_cons_succ])
        refine wpAnyF_take2 [22, 21, 20] (i := 19) (oi := ⟨_, _, _, _, _, _⟩) (v := undef) rfl (by kernel_rfl) (by kernel_rfl) (by kernel_rfl) (by kernel_rfl) (by kernel_rfl) (fun _ _ _ h => h) (Or.inr ⟨by rfl, rfl⟩) (by assumption) ?_
        try (simp only [Act.put, List.setIfInBounds_toArray]; dsimp only [List.set_cons_zero, List.set_cons_succ])
        refine wpAnyF_take2 [22, 21] (i := 20) (oi := ⟨_, _, _, _, _, _⟩) (v := undef) rfl (by kernel_rfl) (by kernel_rfl) (by kernel_rfl) (by kernel_rfl) (by kernel_rfl) (fun _ _ _ h => h) (Or.inr ⟨by rfl, rfl⟩) (by assumption) ?_
        try (simp only [Act.put, List.setIfInBounds_toArray]; dsimp only [List.set_cons_zero, List.set_cons_succ])
        refine wpAnyF_take2 [22] (i := 21) (oi := ⟨_, _, _, _, _, _⟩) (v := ?_) rfl (by kernel_rfl) (by kernel_rfl) (by kernel_rfl) (by kernel_rfl) (by kernel_rfl) (fun _ _ _ h => h) (Or.inl ⟨by rfl, ?_⟩) (by assumption) ?_
        rotate_left 1
        · intro W' hSw
          obtain ⟨hS1, hS2⟩ := hSw
          go_simp
          try with_reducible rfl
        try (simp only [Act.put, List.setIfInBounds_toArray]; dsimp only [List.set_cons_zero, List.set_cons_succ])
        refine wpAnyF_take2 [] (i := 22) (oi := ⟨_, _, _, _, _, _⟩) (v := ?_) rfl (by kernel_rfl) (by kernel_rfl) (by kernel_rfl) (by kernel_rfl) (by kernel_rfl) (fun _ _ _ h => h) (Or.inl ⟨by rfl, ?_⟩) (by assumption) ?_
        rotate_left 1
        · intro W' hSw
          obtain ⟨hS1, hS2⟩ := hSw
          go_simp
          try with_reducible rfl
        try (simp only [Act.put, List.setIfInBounds_toArray]; dsimp only [List.set_cons_zero, List.set_cons_succ])
        refine wpAnyF_last (o := ⟨_, _, _, _, _, _⟩) (by kernel_rfl) rfl (fun K' hK => ?_)
        go_simp
        refine hK.out _ _ ?_
        clear hK K'
        try (simp only [Act.put, List.setIfInBounds_toArray]; dsimp only [List.set_cons_zero, List.set_cons_succ])
        refine wpAnyF_done (by kernel_rfl) ?_ _
        refine ⟨rfl, rfl, ?_⟩
        rw [HI24.out]
        exact ⟨rfl, rfl, rfl, rfl, rfl, rfl, rfl, by first | rfl | simp, hG2⟩
    clear hD24
    intro F24 V24 hrel
    rw [HI24.out] at hrel
    obtain ⟨f3, f5, f6, f7, f28, f29, f30, ft, HT24⟩ := hrel
    rw [frame233L, f3, f5, f6, f7, f28, f29, f30, ft]
    clear f3 f5 f6 f7 f28 f29 f30 ft HI24
    have HJ : Hid (LwS V0' g c (fun _ => True) bp (i + 1) V24) := LwS.mk HT24.out (by rw [← HPL2.out]; exact HM.out.2.2) HH.out.1.1 HH.out.1.2 (by have := HN.out.2; omega) (by have := HN.out.2; omega) HH.out.2.1 HH.out.2.2
    have hi9 := HI9.out
    clear HT24
    go_wp2_with fail
    refine ⟨rfl, rfl, ⟨rfl, rfl, rfl, i + 1, HN.out.1, ?_, HJ⟩, ?_⟩
    · show Value.int .i64 _ = _
      go_num
    · show len - (intOf (Value.int .i64 _)).toNat < len - (intOf (F 30)).toNat
      rw [H30.out]
      have := HN.out.1
      simp [intOf]; omega
end Go.Proofs.Qxb6500786aGreat
