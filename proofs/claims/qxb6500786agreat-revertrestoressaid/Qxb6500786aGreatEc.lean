import Derived.DeepKeys2
import Derived.Test.Qxb6500786aGreatEb

import Derived.StillTailTactics
import Derived.Deep.QuietTactic
import Derived.BigQuiet
import Derived.Deep.RegionHeld
import Derived.Deep.CutRange
import Derived.Laws.ResultCell
import Derived.Laws.Rows
import Derived.DeepKeys
import Derived.DataBytes
import Derived.Laws.StructEq
import Derived.Laws.AppendOwn
import Derived.Laws.MakeOwn
import Derived.Lib.AppendStr
set_option linter.unusedSimpArgs false
set_option linter.unusedVariables false
namespace Go.Proofs.Qxb6500786aGreat
open Go.RowKit Go.Blk
attribute [local go_sem ↓] execOp_load execOp_store execOp_alloc
attribute [local go_sem] Tryz.ld24 Tryz.st24 Tryz.ld36 Tryz.st36 Tryz.ld28 Tryz.st28 Tryz.ld32 Tryz.st32 Tryz.ld33 Tryz.st33 Tryz.ld34 Tryz.st34 Tryz.ld5 Tryz.st5 Tryz.ld31 Tryz.st31 Tryz.ld30 Tryz.st30 Tryz.ld41 Tryz.st41 Tryz.ld44 Tryz.st44 Tryz.ld4 Tryz.st4 Tryz.ld173 Tryz.st173 Tryz.ld174 Tryz.st174 Tryz.ld95 Tryz.st95 Tryz.ld45 Tryz.st45 Tryz.ld207 Tryz.st207 Tryz.ld3 Tryz.st3 Tryz.ld189 Tryz.st189 Tryz.ld2 Tryz.st2 Tryz.ld9 Tryz.st9 Tryz.ld12 Tryz.st12 Tryz.ld21 Tryz.st21 Tryz.ld22 Tryz.st22 Tryz.ld46 Tryz.st46 Tryz.ld92 Tryz.st92 Tryz.ld94 Tryz.st94 Tryz.ld96 Tryz.st96 Tryz.ld97 Tryz.st97 Tryz.ld105 Tryz.st105 Tryz.ld117 Tryz.st117 Tryz.ld122 Tryz.st122 Tryz.ld123 Tryz.st123 Tryz.ld133 Tryz.st133 Tryz.ld155 Tryz.st155 Tryz.ld163 Tryz.st163 Tryz.ld190 Tryz.st190 Tryz.ld197 Tryz.st197 Tryz.ld201 Tryz.st201 Tryz.ld202 Tryz.st202 Tryz.ld209 Tryz.st209 Tryz.ld216 Tryz.st216 Tryz.ld230 Tryz.st230 Tryz.ld238 Tryz.st238 Tryz.ld242 Tryz.st242 Tryz.ld251 Tryz.st251 Tryz.ld260 Tryz.st260 Tryz.ld286 Tryz.st286 Tryz.ld292 Tryz.st292 Tryz.ld298 Tryz.st298 Tryz.ld309 Tryz.st309 Tryz.ld35 Tryz.st35 Tryz.ld48 Tryz.st48 Tryz.ld47 Tryz.st47 Tryz.ld79 Tryz.st79 Tryz.ld177 Tryz.st177 Tryz.ld180 Tryz.st180 Tryz.ld231 Tryz.st231 Tryz.ld232 Tryz.st232 Tryz.ld26 Tryz.st26 Tryz.ld38 Tryz.st38 Tryz.ld40 Tryz.st40 Tryz.ld43 Tryz.st43 Tryz.ld50 Tryz.st50 Tryz.ld52 Tryz.st52 Tryz.ld54 Tryz.st54 Tryz.ld81 Tryz.st81 Tryz.ld112 Tryz.st112 Tryz.ld120 Tryz.st120 Tryz.ld176 Tryz.st176 Tryz.ld179 Tryz.st179 Tryz.ld182 Tryz.st182 Tryz.ld184 Tryz.st184 Tryz.ld234 Tryz.st234 Tryz.ld236 Tryz.st236 Tryz.ld240 Tryz.st240 Tryz.ld246 Tryz.st246 Tryz.ld249 Tryz.st249 Tryz.al35 Tryz.al48 Tryz.al47 Tryz.al79 Tryz.al177 Tryz.al180 Tryz.al231 Tryz.al232 Tryz.al26 Tryz.al38 Tryz.al40 Tryz.al43 Tryz.al50 Tryz.al52 Tryz.al54 Tryz.al81 Tryz.al112 Tryz.al120 Tryz.al176 Tryz.al179 Tryz.al182 Tryz.al184 Tryz.al234 Tryz.al236 Tryz.al240 Tryz.al246 Tryz.al249
attribute [local go_sem] Player.length_enc Player.ok_enc Player.all_get Player.all_set Player.hand_get Player.hand_set Player.aside_get Player.aside_set Message.length_enc Message.ok_enc Message.all_get Message.all_set Message.kind_get Message.kind_set Message.from__get Message.from__set Message.to__get Message.to__set Message.sender_get Message.sender_set Message.receiver_get Message.receiver_set Message.seq_get Message.seq_set Message.token_get Message.token_set Message.amount_get Message.amount_set Message.size_get Message.size_set Message.payload_get Message.payload_set Tx.length_enc Tx.ok_enc Tx.all_get Tx.all_set Tx.kind_get Tx.kind_set Tx.chain_get Tx.chain_set Tx.from__get Tx.from__set Tx.nonce_get Tx.nonce_set Tx.fee_get Tx.fee_set Tx.to__get Tx.to__set Tx.dest_get Tx.dest_set Tx.token_get Tx.token_set Tx.amount_get Tx.amount_set Tx.size_get Tx.size_set Tx.payload_get Tx.payload_set Tx.msg_get Tx.msg_set Tx.msg_kind_get Tx.msg_kind_set Tx.msg_from__get Tx.msg_from__set Tx.msg_to__get Tx.msg_to__set Tx.msg_sender_get Tx.msg_sender_set Tx.msg_receiver_get Tx.msg_receiver_set Tx.msg_seq_get Tx.msg_seq_set Tx.msg_token_get Tx.msg_token_set Tx.msg_amount_get Tx.msg_amount_set Tx.msg_size_get Tx.msg_size_set Tx.msg_payload_get Tx.msg_payload_set GOp.length_enc GOp.ok_enc GOp.all_get GOp.all_set GOp.kind_get GOp.kind_set GOp.tx_get GOp.tx_set GOp.txs_get GOp.txs_set GOp.gas_get GOp.gas_set GOp.acct_get GOp.acct_set GOp.token_get GOp.token_set GOp.chain_get GOp.chain_set GOp.seq_get GOp.seq_set GOp.tx_kind_get GOp.tx_kind_set GOp.tx_chain_get GOp.tx_chain_set GOp.tx_from__get GOp.tx_from__set GOp.tx_nonce_get GOp.tx_nonce_set GOp.tx_fee_get GOp.tx_fee_set GOp.tx_to__get GOp.tx_to__set GOp.tx_dest_get GOp.tx_dest_set GOp.tx_token_get GOp.tx_token_set GOp.tx_amount_get GOp.tx_amount_set GOp.tx_size_get GOp.tx_size_set GOp.tx_payload_get GOp.tx_payload_set GOp.tx_msg_get GOp.tx_msg_set GOp.tx_msg_kind_get GOp.tx_msg_kind_set GOp.tx_msg_from__get GOp.tx_msg_from__set GOp.tx_msg_to__get GOp.tx_msg_to__set GOp.tx_msg_sender_get GOp.tx_msg_sender_set GOp.tx_msg_receiver_get GOp.tx_msg_receiver_set GOp.tx_msg_seq_get GOp.tx_msg_seq_set GOp.tx_msg_token_get GOp.tx_msg_token_set GOp.tx_msg_amount_get GOp.tx_msg_amount_set GOp.tx_msg_size_get GOp.tx_msg_size_set GOp.tx_msg_payload_get GOp.tx_msg_payload_set Summary.length_enc Summary.ok_enc Summary.all_get Summary.all_set Summary.height_get Summary.height_set Summary.txs_get Summary.txs_set Summary.gas_get Summary.gas_set Summary.fees_get Summary.fees_set Summary.sent_get Summary.sent_set Summary.took_get Summary.took_set Summary.minted_get Summary.minted_set Summary.burned_get Summary.burned_set Summary.root_get Summary.root_set Detail.length_enc Detail.ok_enc Detail.all_get Detail.all_set Detail.code_get Detail.code_set Detail.have__get Detail.have__set Detail.need_get Detail.need_set Slot.length_enc Slot.ok_enc Slot.all_get Slot.all_set Slot.nonce_get Slot.nonce_set Slot.balances_get Slot.balances_set Tree.length_enc Tree.ok_enc Tree.all_get Tree.all_set Tree.leaves_get Tree.leaves_set Mark.length_enc Mark.ok_enc Mark.all_get Mark.all_set Mark.from__get Mark.from__set Mark.seq_get Mark.seq_set Receipt.length_enc Receipt.ok_enc Receipt.all_get Receipt.all_set Receipt.code_get Receipt.code_set Receipt.hash_get Receipt.hash_set Receipt.index_get Receipt.index_set Receipt.gas_get Receipt.gas_set Receipt.fee_get Receipt.fee_set Receipt.hasSent_get Receipt.hasSent_set Receipt.sent_get Receipt.sent_set Receipt.hasTook_get Receipt.hasTook_set Receipt.took_get Receipt.took_set Receipt.sent_kind_get Receipt.sent_kind_set Receipt.sent_from__get Receipt.sent_from__set Receipt.sent_to__get Receipt.sent_to__set Receipt.sent_sender_get Receipt.sent_sender_set Receipt.sent_receiver_get Receipt.sent_receiver_set Receipt.sent_seq_get Receipt.sent_seq_set Receipt.sent_token_get Receipt.sent_token_set Receipt.sent_amount_get Receipt.sent_amount_set Receipt.sent_size_get Receipt.sent_size_set Receipt.sent_payload_get Receipt.sent_payload_set Receipt.took_kind_get Receipt.took_kind_set Receipt.took_from__get Receipt.took_from__set Receipt.took_to__get Receipt.took_to__set Receipt.took_sender_get Receipt.took_sender_set Receipt.took_receiver_get Receipt.took_receiver_set Receipt.took_seq_get Receipt.took_seq_set Receipt.took_token_get Receipt.took_token_set Receipt.took_amount_get Receipt.took_amount_set Receipt.took_size_get Receipt.took_size_set Receipt.took_payload_get Receipt.took_payload_set Store.length_enc Store.ok_enc Store.all_get Store.all_set Store.now_get Store.now_set Store.saved_get Store.saved_set GState.length_enc GState.ok_enc GState.all_get GState.all_set GState.kv_get GState.kv_set GState.tree_get GState.tree_set GState.stale_get GState.stale_set GState.touched_get GState.touched_set GState.kv_now_get GState.kv_now_set GState.kv_saved_get GState.kv_saved_set GState.tree_leaves_get GState.tree_leaves_set History.length_enc History.ok_enc History.all_get History.all_set History.ring_get History.ring_set History.closed_get History.closed_set Ledger.length_enc Ledger.ok_enc Ledger.all_get Ledger.all_set Ledger.chain_get Ledger.chain_set Ledger.st_get Ledger.st_set Ledger.height_get Ledger.height_set Ledger.open__get Ledger.open__set Ledger.gasLimit_get Ledger.gasLimit_set Ledger.past_get Ledger.past_set Ledger.begun_get Ledger.begun_set Ledger.sent_get Ledger.sent_set Ledger.took_get Ledger.took_set Ledger.receipts_get Ledger.receipts_set Ledger.st_kv_get Ledger.st_kv_set Ledger.st_tree_get Ledger.st_tree_set Ledger.st_stale_get Ledger.st_stale_set Ledger.st_touched_get Ledger.st_touched_set Ledger.st_kv_now_get Ledger.st_kv_now_set Ledger.st_kv_saved_get Ledger.st_kv_saved_set Ledger.st_tree_leaves_get Ledger.st_tree_leaves_set Ledger.past_ring_get Ledger.past_ring_set Ledger.past_closed_get Ledger.past_closed_set Ledger.begun_kv_get Ledger.begun_kv_set Ledger.begun_tree_get Ledger.begun_tree_set Ledger.begun_stale_get Ledger.begun_stale_set Ledger.begun_touched_get Ledger.begun_touched_set Ledger.begun_kv_now_get Ledger.begun_kv_now_set Ledger.begun_kv_saved_get Ledger.begun_kv_saved_set Ledger.begun_tree_leaves_get Ledger.begun_tree_leaves_set Purse.length_enc Purse.ok_enc Purse.all_get Purse.all_set Purse.st_get Purse.st_set Purse.n_get Purse.n_set Purse.account_get Purse.account_set Purse.token_get Purse.token_set Purse.amount_get Purse.amount_set Plan.length_enc Plan.ok_enc Plan.all_get Plan.all_set Plan.purse_get Plan.purse_set Plan.nonce_get Plan.nonce_set Plan.gasUsed_get Plan.gasUsed_set Plan.fees_get Plan.fees_set Plan.hasSupply_get Plan.hasSupply_set Plan.token_get Plan.token_set Plan.supply_get Plan.supply_set Plan.flowAt_get Plan.flowAt_set Plan.flow_get Plan.flow_set Plan.receipt_get Plan.receipt_set Plan.purse_st_get Plan.purse_st_set Plan.purse_n_get Plan.purse_n_set Plan.purse_account_get Plan.purse_account_set Plan.purse_token_get Plan.purse_token_set Plan.purse_amount_get Plan.purse_amount_set Plan.receipt_code_get Plan.receipt_code_set Plan.receipt_hash_get Plan.receipt_hash_set Plan.receipt_index_get Plan.receipt_index_set Plan.receipt_gas_get Plan.receipt_gas_set Plan.receipt_fee_get Plan.receipt_fee_set Plan.receipt_hasSent_get Plan.receipt_hasSent_set Plan.receipt_sent_get Plan.receipt_sent_set Plan.receipt_hasTook_get Plan.receipt_hasTook_set Plan.receipt_took_get Plan.receipt_took_set Plan.receipt_sent_kind_get Plan.receipt_sent_kind_set Plan.receipt_sent_from__get Plan.receipt_sent_from__set Plan.receipt_sent_to__get Plan.receipt_sent_to__set Plan.receipt_sent_sender_get Plan.receipt_sent_sender_set Plan.receipt_sent_receiver_get Plan.receipt_sent_receiver_set Plan.receipt_sent_seq_get Plan.receipt_sent_seq_set Plan.receipt_sent_token_get Plan.receipt_sent_token_set Plan.receipt_sent_amount_get Plan.receipt_sent_amount_set Plan.receipt_sent_size_get Plan.receipt_sent_size_set Plan.receipt_sent_payload_get Plan.receipt_sent_payload_set Plan.receipt_took_kind_get Plan.receipt_took_kind_set Plan.receipt_took_from__get Plan.receipt_took_from__set Plan.receipt_took_to__get Plan.receipt_took_to__set Plan.receipt_took_sender_get Plan.receipt_took_sender_set Plan.receipt_took_receiver_get Plan.receipt_took_receiver_set Plan.receipt_took_seq_get Plan.receipt_took_seq_set Plan.receipt_took_token_get Plan.receipt_took_token_set Plan.receipt_took_amount_get Plan.receipt_took_amount_set Plan.receipt_took_size_get Plan.receipt_took_size_set Plan.receipt_took_payload_get Plan.receipt_took_payload_set Move.length_enc Move.ok_enc Move.all_get Move.all_set Move.account_get Move.account_set Move.token_get Move.token_set Move.down_get Move.down_set Move.amount_get Move.amount_set Books.length_enc Books.ok_enc Books.all_get Books.all_set Books.sums_get Books.sums_set Books.stored_get Books.stored_set Books.marks_get Books.marks_set Pair.length_enc Pair.ok_enc Pair.all_get Pair.all_set Pair.key_get Pair.key_set Pair.value_get Pair.value_set
attribute [local go_sem] size_put size_ext blk_put free_put blk_alloc free_alloc blk_drew free_drew blk_ext free_ext lookOr_some putOr_some segAt_some cellAt_some storeIn_some put_put put_alloc_new length_arr ok_arr_u8 ok_arr_u32 ok_arr_u64 ok_arr_i64 ok_arr_sl cellsV_agg cellsV_int cellsV_bool cellsV_string cellsV_pointer cellsV_slice cellsV_sl ok_int ok_bool ok_string ok_pointer ok_slice ok_sl toList_arr seg_arr set_arr nth_splice nth_splice0 seg_splice seg_splice0 splice_splice splice_splice0 length_splice_if
attribute [local go_sem ↓] execOp_box
attribute [local go_sem] box_run nth_arr_u8 put_arr_u8 blk_drewN free_drewN put_drewN blk_raw free_raw
theorem u8_of_some {x y : UInt8} (h : some (Value.int .u8 (w8 x)) = some (.int .u8 (w8 y))) : x = y := by
  injection h with h
  injection h with _ h
  exact w8_inj h
theorem u64_of_some {x y : UInt64} (h : some (Value.int .u64 (w64 x)) = some (.int .u64 (w64 y))) : x = y := by
  injection h with h
  injection h with _ h
  exact w64_inj h
theorem i64_of_some {x y : Int} (h : some (Value.int .i64 x) = some (.int .i64 y)) : x = y := by
  injection h with h
  injection h with _ h
theorem bool_of_some {x y : Bool} (h : some (Value.bool x) = some (.bool y)) : x = y := by
  injection h with h
  injection h with h
def ksMessage : List CK := [.i .u8] ++ ([.i .u8] ++ ([.i .u8] ++ ([.i .u8] ++ ([.i .u8] ++ ([.i .u64] ++ ([.i .u8] ++ ([.i .u64] ++ ([.i .u8] ++ (List.replicate 32 (.i .u8))))))))))
def okMessage (x : Message) : Prop := True
theorem Message.fits (x : Message) (h : okMessage x) : Fits ksMessage x.enc := (Fits.append (Fits.one (wf_u8 _)) (Fits.append (Fits.one (wf_u8 _)) (Fits.append (Fits.one (wf_u8 _)) (Fits.append (Fits.one (wf_u8 _)) (Fits.append (Fits.one (wf_u8 _)) (Fits.append (Fits.one (wf_u64 _)) (Fits.append (Fits.one (wf_u8 _)) (Fits.append (Fits.one (wf_u64 _)) (Fits.append (Fits.one (wf_u8 _)) (fits_u8 _))))))))))
theorem Message.enc_inj {x y : Message} (h : x.enc = y.enc) : x = y := by
  have h_kind : x.kind = y.kind := by
    have h9 := congrArg (fun L => nth L 0) h
    rw [Message.kind_get x, Message.kind_get y] at h9
    exact u8_of_some h9
  have h_from_ : x.from_ = y.from_ := by
    have h9 := congrArg (fun L => nth L 1) h
    rw [Message.from__get x, Message.from__get y] at h9
    exact u8_of_some h9
  have h_to_ : x.to_ = y.to_ := by
    have h9 := congrArg (fun L => nth L 2) h
    rw [Message.to__get x, Message.to__get y] at h9
    exact u8_of_some h9
  have h_sender : x.sender = y.sender := by
    have h9 := congrArg (fun L => nth L 3) h
    rw [Message.sender_get x, Message.sender_get y] at h9
    exact u8_of_some h9
  have h_receiver : x.receiver = y.receiver := by
    have h9 := congrArg (fun L => nth L 4) h
    rw [Message.receiver_get x, Message.receiver_get y] at h9
    exact u8_of_some h9
  have h_seq : x.seq = y.seq := by
    have h9 := congrArg (fun L => nth L 5) h
    rw [Message.seq_get x, Message.seq_get y] at h9
    exact u64_of_some h9
  have h_token : x.token = y.token := by
    have h9 := congrArg (fun L => nth L 6) h
    rw [Message.token_get x, Message.token_get y] at h9
    exact u8_of_some h9
  have h_amount : x.amount = y.amount := by
    have h9 := congrArg (fun L => nth L 7) h
    rw [Message.amount_get x, Message.amount_get y] at h9
    exact u64_of_some h9
  have h_size : x.size = y.size := by
    have h9 := congrArg (fun L => nth L 8) h
    rw [Message.size_get x, Message.size_get y] at h9
    exact u8_of_some h9
  have h_payload : x.payload = y.payload := by
    have h9 := congrArg (fun L => seg L 9 32) h
    rw [Message.payload_get x, Message.payload_get y] at h9
    exact arr_u8_inj h9
  cases x
  cases y
  simp_all
theorem el_eq38 : EqT Message.enc 38 okMessage := eqT_of (m := 6) (ks := ksMessage) (by kernel_rfl) (by kernel_rfl) (by kernel_rfl) (by omega) (by kernel_rfl) (by kernel_rfl) Message.fits (fun _ _ h => Message.enc_inj h) (by kernel_rfl)
def ksTx : List CK := [.i .u8] ++ ([.i .u8] ++ ([.i .u8] ++ ([.i .u64] ++ ([.i .u64] ++ ([.i .u8] ++ ([.i .u8] ++ ([.i .u8] ++ ([.i .u64] ++ ([.i .u8] ++ (List.replicate 32 (.i .u8) ++ (ksMessage)))))))))))
def okTx (x : Tx) : Prop := True
theorem Tx.fits (x : Tx) (h : okTx x) : Fits ksTx x.enc := (Fits.append (Fits.one (wf_u8 _)) (Fits.append (Fits.one (wf_u8 _)) (Fits.append (Fits.one (wf_u8 _)) (Fits.append (Fits.one (wf_u64 _)) (Fits.append (Fits.one (wf_u64 _)) (Fits.append (Fits.one (wf_u8 _)) (Fits.append (Fits.one (wf_u8 _)) (Fits.append (Fits.one (wf_u8 _)) (Fits.append (Fits.one (wf_u64 _)) (Fits.append (Fits.one (wf_u8 _)) (Fits.append (fits_u8 _) (Message.fits _ trivial))))))))))))
theorem Tx.enc_inj {x y : Tx} (h : x.enc = y.enc) : x = y := by
  have h_kind : x.kind = y.kind := by
    have h9 := congrArg (fun L => nth L 0) h
    rw [Tx.kind_get x, Tx.kind_get y] at h9
    exact u8_of_some h9
  have h_chain : x.chain = y.chain := by
    have h9 := congrArg (fun L => nth L 1) h
    rw [Tx.chain_get x, Tx.chain_get y] at h9
    exact u8_of_some h9
  have h_from_ : x.from_ = y.from_ := by
    have h9 := congrArg (fun L => nth L 2) h
    rw [Tx.from__get x, Tx.from__get y] at h9
    exact u8_of_some h9
  have h_nonce : x.nonce = y.nonce := by
    have h9 := congrArg (fun L => nth L 3) h
    rw [Tx.nonce_get x, Tx.nonce_get y] at h9
    exact u64_of_some h9
  have h_fee : x.fee = y.fee := by
    have h9 := congrArg (fun L => nth L 4) h
    rw [Tx.fee_get x, Tx.fee_get y] at h9
    exact u64_of_some h9
  have h_to_ : x.to_ = y.to_ := by
    have h9 := congrArg (fun L => nth L 5) h
    rw [Tx.to__get x, Tx.to__get y] at h9
    exact u8_of_some h9
  have h_dest : x.dest = y.dest := by
    have h9 := congrArg (fun L => nth L 6) h
    rw [Tx.dest_get x, Tx.dest_get y] at h9
    exact u8_of_some h9
  have h_token : x.token = y.token := by
    have h9 := congrArg (fun L => nth L 7) h
    rw [Tx.token_get x, Tx.token_get y] at h9
    exact u8_of_some h9
  have h_amount : x.amount = y.amount := by
    have h9 := congrArg (fun L => nth L 8) h
    rw [Tx.amount_get x, Tx.amount_get y] at h9
    exact u64_of_some h9
  have h_size : x.size = y.size := by
    have h9 := congrArg (fun L => nth L 9) h
    rw [Tx.size_get x, Tx.size_get y] at h9
    exact u8_of_some h9
  have h_payload : x.payload = y.payload := by
    have h9 := congrArg (fun L => seg L 10 32) h
    rw [Tx.payload_get x, Tx.payload_get y] at h9
    exact arr_u8_inj h9
  have h_msg : x.msg = y.msg := by
    have h9 := congrArg (fun L => seg L 42 41) h
    rw [Tx.msg_get x, Tx.msg_get y] at h9
    exact Message.enc_inj h9
  cases x
  cases y
  simp_all
theorem el_eq40 : EqT Tx.enc 40 okTx := eqT_of (m := 6) (ks := ksTx) (by kernel_rfl) (by kernel_rfl) (by kernel_rfl) (by omega) (by kernel_rfl) (by kernel_rfl) Tx.fits (fun _ _ h => Tx.enc_inj h) (by kernel_rfl)
def ksReceipt : List CK := [.i .i64] ++ (List.replicate 32 (.i .u8) ++ ([.i .u64] ++ ([.i .u64] ++ ([.i .u64] ++ ([.b] ++ (ksMessage ++ ([.b] ++ (ksMessage))))))))
def okReceipt (x : Receipt) : Prop := -1000000 ≤ x.code ∧ x.code ≤ 1000000
theorem Receipt.fits (x : Receipt) (h : okReceipt x) : Fits ksReceipt x.enc := (Fits.append (Fits.one (wf_i64 _ h)) (Fits.append (fits_u8 _) (Fits.append (Fits.one (wf_u64 _)) (Fits.append (Fits.one (wf_u64 _)) (Fits.append (Fits.one (wf_u64 _)) (Fits.append (Fits.one (wf_bool _)) (Fits.append (Message.fits _ trivial) (Fits.append (Fits.one (wf_bool _)) (Message.fits _ trivial)))))))))
theorem Receipt.enc_inj {x y : Receipt} (h : x.enc = y.enc) : x = y := by
  have h_code : x.code = y.code := by
    have h9 := congrArg (fun L => nth L 0) h
    rw [Receipt.code_get x, Receipt.code_get y] at h9
    exact i64_of_some h9
  have h_hash : x.hash = y.hash := by
    have h9 := congrArg (fun L => seg L 1 32) h
    rw [Receipt.hash_get x, Receipt.hash_get y] at h9
    exact arr_u8_inj h9
  have h_index : x.index = y.index := by
    have h9 := congrArg (fun L => nth L 33) h
    rw [Receipt.index_get x, Receipt.index_get y] at h9
    exact u64_of_some h9
  have h_gas : x.gas = y.gas := by
    have h9 := congrArg (fun L => nth L 34) h
    rw [Receipt.gas_get x, Receipt.gas_get y] at h9
    exact u64_of_some h9
  have h_fee : x.fee = y.fee := by
    have h9 := congrArg (fun L => nth L 35) h
    rw [Receipt.fee_get x, Receipt.fee_get y] at h9
    exact u64_of_some h9
  have h_hasSent : x.hasSent = y.hasSent := by
    have h9 := congrArg (fun L => nth L 36) h
    rw [Receipt.hasSent_get x, Receipt.hasSent_get y] at h9
    exact bool_of_some h9
  have h_sent : x.sent = y.sent := by
    have h9 := congrArg (fun L => seg L 37 41) h
    rw [Receipt.sent_get x, Receipt.sent_get y] at h9
    exact Message.enc_inj h9
  have h_hasTook : x.hasTook = y.hasTook := by
    have h9 := congrArg (fun L => nth L 78) h
    rw [Receipt.hasTook_get x, Receipt.hasTook_get y] at h9
    exact bool_of_some h9
  have h_took : x.took = y.took := by
    have h9 := congrArg (fun L => seg L 79 41) h
    rw [Receipt.took_get x, Receipt.took_get y] at h9
    exact Message.enc_inj h9
  cases x
  cases y
  simp_all
theorem el_eq120 : EqT Receipt.enc 120 okReceipt := eqT_of (m := 6) (ks := ksReceipt) (by kernel_rfl) (by kernel_rfl) (by kernel_rfl) (by omega) (by kernel_rfl) (by kernel_rfl) Receipt.fits (fun _ _ h => Receipt.enc_inj h) (by kernel_rfl)
def ksSummary : List CK := [.i .u64] ++ ([.i .u64] ++ ([.i .u64] ++ ([.i .u64] ++ ([.i .u64] ++ ([.i .u64] ++ (List.replicate 4 (.i .u64) ++ (List.replicate 4 (.i .u64) ++ (List.replicate 32 (.i .u8)))))))))
def okSummary (x : Summary) : Prop := True
theorem Summary.fits (x : Summary) (h : okSummary x) : Fits ksSummary x.enc := (Fits.append (Fits.one (wf_u64 _)) (Fits.append (Fits.one (wf_u64 _)) (Fits.append (Fits.one (wf_u64 _)) (Fits.append (Fits.one (wf_u64 _)) (Fits.append (Fits.one (wf_u64 _)) (Fits.append (Fits.one (wf_u64 _)) (Fits.append (fits_u64 _) (Fits.append (fits_u64 _) (fits_u8 _)))))))))
theorem Summary.enc_inj {x y : Summary} (h : x.enc = y.enc) : x = y := by
  have h_height : x.height = y.height := by
    have h9 := congrArg (fun L => nth L 0) h
    rw [Summary.height_get x, Summary.height_get y] at h9
    exact u64_of_some h9
  have h_txs : x.txs = y.txs := by
    have h9 := congrArg (fun L => nth L 1) h
    rw [Summary.txs_get x, Summary.txs_get y] at h9
    exact u64_of_some h9
  have h_gas : x.gas = y.gas := by
    have h9 := congrArg (fun L => nth L 2) h
    rw [Summary.gas_get x, Summary.gas_get y] at h9
    exact u64_of_some h9
  have h_fees : x.fees = y.fees := by
    have h9 := congrArg (fun L => nth L 3) h
    rw [Summary.fees_get x, Summary.fees_get y] at h9
    exact u64_of_some h9
  have h_sent : x.sent = y.sent := by
    have h9 := congrArg (fun L => nth L 4) h
    rw [Summary.sent_get x, Summary.sent_get y] at h9
    exact u64_of_some h9
  have h_took : x.took = y.took := by
    have h9 := congrArg (fun L => nth L 5) h
    rw [Summary.took_get x, Summary.took_get y] at h9
    exact u64_of_some h9
  have h_minted : x.minted = y.minted := by
    have h9 := congrArg (fun L => seg L 6 4) h
    rw [Summary.minted_get x, Summary.minted_get y] at h9
    exact arr_u64_inj h9
  have h_burned : x.burned = y.burned := by
    have h9 := congrArg (fun L => seg L 10 4) h
    rw [Summary.burned_get x, Summary.burned_get y] at h9
    exact arr_u64_inj h9
  have h_root : x.root = y.root := by
    have h9 := congrArg (fun L => seg L 14 32) h
    rw [Summary.root_get x, Summary.root_get y] at h9
    exact arr_u8_inj h9
  cases x
  cases y
  simp_all
theorem el_eq50 : EqT Summary.enc 50 okSummary := eqT_of (m := 6) (ks := ksSummary) (by kernel_rfl) (by kernel_rfl) (by kernel_rfl) (by omega) (by kernel_rfl) (by kernel_rfl) Summary.fits (fun _ _ h => Summary.enc_inj h) (by kernel_rfl)
def ksDetail : List CK := [.i .i64] ++ ([.i .u64] ++ ([.i .u64]))
def okDetail (x : Detail) : Prop := -1000000 ≤ x.code ∧ x.code ≤ 1000000
theorem Detail.fits (x : Detail) (h : okDetail x) : Fits ksDetail x.enc := (Fits.append (Fits.one (wf_i64 _ h)) (Fits.append (Fits.one (wf_u64 _)) (Fits.one (wf_u64 _))))
theorem Detail.enc_inj {x y : Detail} (h : x.enc = y.enc) : x = y := by
  have h_code : x.code = y.code := by
    have h9 := congrArg (fun L => nth L 0) h
    rw [Detail.code_get x, Detail.code_get y] at h9
    exact i64_of_some h9
  have h_have_ : x.have_ = y.have_ := by
    have h9 := congrArg (fun L => nth L 1) h
    rw [Detail.have__get x, Detail.have__get y] at h9
    exact u64_of_some h9
  have h_need : x.need = y.need := by
    have h9 := congrArg (fun L => nth L 2) h
    rw [Detail.need_get x, Detail.need_get y] at h9
    exact u64_of_some h9
  cases x
  cases y
  simp_all
theorem el_eq52 : EqT Detail.enc 52 okDetail := eqT_of (m := 6) (ks := ksDetail) (by kernel_rfl) (by kernel_rfl) (by kernel_rfl) (by omega) (by kernel_rfl) (by kernel_rfl) Detail.fits (fun _ _ h => Detail.enc_inj h) (by kernel_rfl)
def ksSlot : List CK := [.i .u64] ++ (List.replicate 4 (.i .u64))
def okSlot (x : Slot) : Prop := True
theorem Slot.fits (x : Slot) (h : okSlot x) : Fits ksSlot x.enc := (Fits.append (Fits.one (wf_u64 _)) (fits_u64 _))
theorem Slot.enc_inj {x y : Slot} (h : x.enc = y.enc) : x = y := by
  have h_nonce : x.nonce = y.nonce := by
    have h9 := congrArg (fun L => nth L 0) h
    rw [Slot.nonce_get x, Slot.nonce_get y] at h9
    exact u64_of_some h9
  have h_balances : x.balances = y.balances := by
    have h9 := congrArg (fun L => seg L 1 4) h
    rw [Slot.balances_get x, Slot.balances_get y] at h9
    exact arr_u64_inj h9
  cases x
  cases y
  simp_all
theorem el_eq54 : EqT Slot.enc 54 okSlot := eqT_of (m := 6) (ks := ksSlot) (by kernel_rfl) (by kernel_rfl) (by kernel_rfl) (by omega) (by kernel_rfl) (by kernel_rfl) Slot.fits (fun _ _ h => Slot.enc_inj h) (by kernel_rfl)
def ksMark : List CK := [.i .u8] ++ ([.i .u64])
def okMark (x : Mark) : Prop := True
theorem Mark.fits (x : Mark) (h : okMark x) : Fits ksMark x.enc := (Fits.append (Fits.one (wf_u8 _)) (Fits.one (wf_u64 _)))
theorem Mark.enc_inj {x y : Mark} (h : x.enc = y.enc) : x = y := by
  have h_from_ : x.from_ = y.from_ := by
    have h9 := congrArg (fun L => nth L 0) h
    rw [Mark.from__get x, Mark.from__get y] at h9
    exact u8_of_some h9
  have h_seq : x.seq = y.seq := by
    have h9 := congrArg (fun L => nth L 1) h
    rw [Mark.seq_get x, Mark.seq_get y] at h9
    exact u64_of_some h9
  cases x
  cases y
  simp_all
theorem el_eq112 : EqT Mark.enc 112 okMark := eqT_of (m := 6) (ks := ksMark) (by kernel_rfl) (by kernel_rfl) (by kernel_rfl) (by omega) (by kernel_rfl) (by kernel_rfl) Mark.fits (fun _ _ h => Mark.enc_inj h) (by kernel_rfl)
def ksMove : List CK := [.i .u8] ++ ([.i .u8] ++ ([.b] ++ ([.i .u64])))
def okMove (x : Move) : Prop := True
theorem Move.fits (x : Move) (h : okMove x) : Fits ksMove x.enc := (Fits.append (Fits.one (wf_u8 _)) (Fits.append (Fits.one (wf_u8 _)) (Fits.append (Fits.one (wf_bool _)) (Fits.one (wf_u64 _)))))
theorem Move.enc_inj {x y : Move} (h : x.enc = y.enc) : x = y := by
  have h_account : x.account = y.account := by
    have h9 := congrArg (fun L => nth L 0) h
    rw [Move.account_get x, Move.account_get y] at h9
    exact u8_of_some h9
  have h_token : x.token = y.token := by
    have h9 := congrArg (fun L => nth L 1) h
    rw [Move.token_get x, Move.token_get y] at h9
    exact u8_of_some h9
  have h_down : x.down = y.down := by
    have h9 := congrArg (fun L => nth L 2) h
    rw [Move.down_get x, Move.down_get y] at h9
    exact bool_of_some h9
  have h_amount : x.amount = y.amount := by
    have h9 := congrArg (fun L => nth L 3) h
    rw [Move.amount_get x, Move.amount_get y] at h9
    exact u64_of_some h9
  cases x
  cases y
  simp_all
theorem el_eq240 : EqT Move.enc 240 okMove := eqT_of (m := 6) (ks := ksMove) (by kernel_rfl) (by kernel_rfl) (by kernel_rfl) (by omega) (by kernel_rfl) (by kernel_rfl) Move.fits (fun _ _ h => Move.enc_inj h) (by kernel_rfl)
theorem execOp_eql38 (a : Act) (dst : Option Tmp) (x y : Operand) (ty : TypeId) (pos : String) (after : Array Edge) (guard : Option (Nat × Bool)) :
    execOp a.eval { dst, op := .binOp .eql 38 x y 38, type := ty, pos, after, guard } = cmpEq 38 x y (a.eval x) (a.eval y) := rfl
theorem execOp_neq38 (a : Act) (dst : Option Tmp) (x y : Operand) (ty : TypeId) (pos : String) (after : Array Edge) (guard : Option (Nat × Bool)) :
    execOp a.eval { dst, op := .binOp .neq 38 x y 38, type := ty, pos, after, guard } = cmpNe 38 x y (a.eval x) (a.eval y) := rfl
theorem execOp_eql40 (a : Act) (dst : Option Tmp) (x y : Operand) (ty : TypeId) (pos : String) (after : Array Edge) (guard : Option (Nat × Bool)) :
    execOp a.eval { dst, op := .binOp .eql 40 x y 40, type := ty, pos, after, guard } = cmpEq 40 x y (a.eval x) (a.eval y) := rfl
theorem execOp_neq40 (a : Act) (dst : Option Tmp) (x y : Operand) (ty : TypeId) (pos : String) (after : Array Edge) (guard : Option (Nat × Bool)) :
    execOp a.eval { dst, op := .binOp .neq 40 x y 40, type := ty, pos, after, guard } = cmpNe 40 x y (a.eval x) (a.eval y) := rfl
theorem execOp_eql120 (a : Act) (dst : Option Tmp) (x y : Operand) (ty : TypeId) (pos : String) (after : Array Edge) (guard : Option (Nat × Bool)) :
    execOp a.eval { dst, op := .binOp .eql 120 x y 120, type := ty, pos, after, guard } = cmpEq 120 x y (a.eval x) (a.eval y) := rfl
theorem execOp_neq120 (a : Act) (dst : Option Tmp) (x y : Operand) (ty : TypeId) (pos : String) (after : Array Edge) (guard : Option (Nat × Bool)) :
    execOp a.eval { dst, op := .binOp .neq 120 x y 120, type := ty, pos, after, guard } = cmpNe 120 x y (a.eval x) (a.eval y) := rfl
theorem execOp_eql50 (a : Act) (dst : Option Tmp) (x y : Operand) (ty : TypeId) (pos : String) (after : Array Edge) (guard : Option (Nat × Bool)) :
    execOp a.eval { dst, op := .binOp .eql 50 x y 50, type := ty, pos, after, guard } = cmpEq 50 x y (a.eval x) (a.eval y) := rfl
theorem execOp_neq50 (a : Act) (dst : Option Tmp) (x y : Operand) (ty : TypeId) (pos : String) (after : Array Edge) (guard : Option (Nat × Bool)) :
    execOp a.eval { dst, op := .binOp .neq 50 x y 50, type := ty, pos, after, guard } = cmpNe 50 x y (a.eval x) (a.eval y) := rfl
theorem execOp_eql52 (a : Act) (dst : Option Tmp) (x y : Operand) (ty : TypeId) (pos : String) (after : Array Edge) (guard : Option (Nat × Bool)) :
    execOp a.eval { dst, op := .binOp .eql 52 x y 52, type := ty, pos, after, guard } = cmpEq 52 x y (a.eval x) (a.eval y) := rfl
theorem execOp_neq52 (a : Act) (dst : Option Tmp) (x y : Operand) (ty : TypeId) (pos : String) (after : Array Edge) (guard : Option (Nat × Bool)) :
    execOp a.eval { dst, op := .binOp .neq 52 x y 52, type := ty, pos, after, guard } = cmpNe 52 x y (a.eval x) (a.eval y) := rfl
theorem execOp_eql54 (a : Act) (dst : Option Tmp) (x y : Operand) (ty : TypeId) (pos : String) (after : Array Edge) (guard : Option (Nat × Bool)) :
    execOp a.eval { dst, op := .binOp .eql 54 x y 54, type := ty, pos, after, guard } = cmpEq 54 x y (a.eval x) (a.eval y) := rfl
theorem execOp_neq54 (a : Act) (dst : Option Tmp) (x y : Operand) (ty : TypeId) (pos : String) (after : Array Edge) (guard : Option (Nat × Bool)) :
    execOp a.eval { dst, op := .binOp .neq 54 x y 54, type := ty, pos, after, guard } = cmpNe 54 x y (a.eval x) (a.eval y) := rfl
theorem execOp_eql112 (a : Act) (dst : Option Tmp) (x y : Operand) (ty : TypeId) (pos : String) (after : Array Edge) (guard : Option (Nat × Bool)) :
    execOp a.eval { dst, op := .binOp .eql 112 x y 112, type := ty, pos, after, guard } = cmpEq 112 x y (a.eval x) (a.eval y) := rfl
theorem execOp_neq112 (a : Act) (dst : Option Tmp) (x y : Operand) (ty : TypeId) (pos : String) (after : Array Edge) (guard : Option (Nat × Bool)) :
    execOp a.eval { dst, op := .binOp .neq 112 x y 112, type := ty, pos, after, guard } = cmpNe 112 x y (a.eval x) (a.eval y) := rfl
theorem execOp_eql240 (a : Act) (dst : Option Tmp) (x y : Operand) (ty : TypeId) (pos : String) (after : Array Edge) (guard : Option (Nat × Bool)) :
    execOp a.eval { dst, op := .binOp .eql 240 x y 240, type := ty, pos, after, guard } = cmpEq 240 x y (a.eval x) (a.eval y) := rfl
theorem execOp_neq240 (a : Act) (dst : Option Tmp) (x y : Operand) (ty : TypeId) (pos : String) (after : Array Edge) (guard : Option (Nat × Bool)) :
    execOp a.eval { dst, op := .binOp .neq 240 x y 240, type := ty, pos, after, guard } = cmpNe 240 x y (a.eval x) (a.eval y) := rfl
theorem execOp_eql47 (a : Act) (dst : Option Tmp) (x y : Operand) (ty : TypeId) (pos : String) (after : Array Edge) (guard : Option (Nat × Bool)) :
    execOp a.eval { dst, op := .binOp .eql 47 x y 47, type := ty, pos, after, guard } = cmpEq 47 x y (a.eval x) (a.eval y) := rfl
theorem execOp_neq47 (a : Act) (dst : Option Tmp) (x y : Operand) (ty : TypeId) (pos : String) (after : Array Edge) (guard : Option (Nat × Bool)) :
    execOp a.eval { dst, op := .binOp .neq 47 x y 47, type := ty, pos, after, guard } = cmpNe 47 x y (a.eval x) (a.eval y) := rfl
theorem eql38 (w : World) (x y : Operand) (a b : Message) : (cmpEq 38 x y (.agg a.enc.toArray) (.agg b.enc.toArray)).run Tryz.prog w = .ok (.value (.bool (eqA a b))) w := el_eq38.eql w x y a b trivial trivial
theorem neq38 (w : World) (x y : Operand) (a b : Message) : (cmpNe 38 x y (.agg a.enc.toArray) (.agg b.enc.toArray)).run Tryz.prog w = .ok (.value (.bool (!eqA a b))) w := el_eq38.neq w x y a b trivial trivial
theorem eql40 (w : World) (x y : Operand) (a b : Tx) : (cmpEq 40 x y (.agg a.enc.toArray) (.agg b.enc.toArray)).run Tryz.prog w = .ok (.value (.bool (eqA a b))) w := el_eq40.eql w x y a b trivial trivial
theorem neq40 (w : World) (x y : Operand) (a b : Tx) : (cmpNe 40 x y (.agg a.enc.toArray) (.agg b.enc.toArray)).run Tryz.prog w = .ok (.value (.bool (!eqA a b))) w := el_eq40.neq w x y a b trivial trivial
theorem eql50 (w : World) (x y : Operand) (a b : Summary) : (cmpEq 50 x y (.agg a.enc.toArray) (.agg b.enc.toArray)).run Tryz.prog w = .ok (.value (.bool (eqA a b))) w := el_eq50.eql w x y a b trivial trivial
theorem neq50 (w : World) (x y : Operand) (a b : Summary) : (cmpNe 50 x y (.agg a.enc.toArray) (.agg b.enc.toArray)).run Tryz.prog w = .ok (.value (.bool (!eqA a b))) w := el_eq50.neq w x y a b trivial trivial
theorem eql54 (w : World) (x y : Operand) (a b : Slot) : (cmpEq 54 x y (.agg a.enc.toArray) (.agg b.enc.toArray)).run Tryz.prog w = .ok (.value (.bool (eqA a b))) w := el_eq54.eql w x y a b trivial trivial
theorem neq54 (w : World) (x y : Operand) (a b : Slot) : (cmpNe 54 x y (.agg a.enc.toArray) (.agg b.enc.toArray)).run Tryz.prog w = .ok (.value (.bool (!eqA a b))) w := el_eq54.neq w x y a b trivial trivial
theorem eql112 (w : World) (x y : Operand) (a b : Mark) : (cmpEq 112 x y (.agg a.enc.toArray) (.agg b.enc.toArray)).run Tryz.prog w = .ok (.value (.bool (eqA a b))) w := el_eq112.eql w x y a b trivial trivial
theorem neq112 (w : World) (x y : Operand) (a b : Mark) : (cmpNe 112 x y (.agg a.enc.toArray) (.agg b.enc.toArray)).run Tryz.prog w = .ok (.value (.bool (!eqA a b))) w := el_eq112.neq w x y a b trivial trivial
theorem eql240 (w : World) (x y : Operand) (a b : Move) : (cmpEq 240 x y (.agg a.enc.toArray) (.agg b.enc.toArray)).run Tryz.prog w = .ok (.value (.bool (eqA a b))) w := el_eq240.eql w x y a b trivial trivial
theorem neq240 (w : World) (x y : Operand) (a b : Move) : (cmpNe 240 x y (.agg a.enc.toArray) (.agg b.enc.toArray)).run Tryz.prog w = .ok (.value (.bool (!eqA a b))) w := el_eq240.neq w x y a b trivial trivial
theorem eql47 (w : World) (x y : Operand) (a b : Dig) : (cmpEq 47 x y (.agg (arr u8v a).toArray) (.agg (arr u8v b).toArray)).run Tryz.prog w = .ok (.value (.bool (eqA a b))) w := el_eq47.eql w x y a b trivial trivial
theorem neq47 (w : World) (x y : Operand) (a b : Dig) : (cmpNe 47 x y (.agg (arr u8v a).toArray) (.agg (arr u8v b).toArray)).run Tryz.prog w = .ok (.value (.bool (!eqA a b))) w := el_eq47.neq w x y a b trivial trivial
end Go.Proofs.Qxb6500786aGreat
