import Derived.DeepKeys2
import Derived.Test.Qxb6500786aGreatSmd
import Derived.Test.Qxb6500786aGreatSmc
import Derived.Test.Qxb6500786aGreatOd
import Derived.Test.Qxb6500786aGreatUd
import Derived.Test.Qxb6500786aGreatWf
import Derived.Test.Qxb6500786aGreatYc

import Derived.StillTailTactics
import Derived.Deep.QuietTactic
import Derived.BigQuiet
import Derived.Deep.RegionHeld
import Derived.Deep.CutRange
import Derived.Laws.ResultCell
import Derived.Laws.Rows
import Derived.DeepKeys
import Derived.DataBytes
import Derived.Laws.StructEq
import Derived.Laws.AppendOwn
import Derived.Laws.MakeOwn
import Derived.Lib.AppendStr
set_option linter.unusedSimpArgs false
set_option linter.unusedVariables false
namespace Go.Proofs.Qxb6500786aGreat
open Go.RowKit Go.Blk
attribute [local go_sem ↓] execOp_load execOp_store execOp_alloc
attribute [local go_sem] Tryz.ld24 Tryz.st24 Tryz.ld36 Tryz.st36 Tryz.ld28 Tryz.st28 Tryz.ld32 Tryz.st32 Tryz.ld33 Tryz.st33 Tryz.ld34 Tryz.st34 Tryz.ld5 Tryz.st5 Tryz.ld31 Tryz.st31 Tryz.ld30 Tryz.st30 Tryz.ld41 Tryz.st41 Tryz.ld44 Tryz.st44 Tryz.ld4 Tryz.st4 Tryz.ld173 Tryz.st173 Tryz.ld174 Tryz.st174 Tryz.ld95 Tryz.st95 Tryz.ld45 Tryz.st45 Tryz.ld207 Tryz.st207 Tryz.ld3 Tryz.st3 Tryz.ld189 Tryz.st189 Tryz.ld2 Tryz.st2 Tryz.ld9 Tryz.st9 Tryz.ld12 Tryz.st12 Tryz.ld21 Tryz.st21 Tryz.ld22 Tryz.st22 Tryz.ld46 Tryz.st46 Tryz.ld92 Tryz.st92 Tryz.ld94 Tryz.st94 Tryz.ld96 Tryz.st96 Tryz.ld97 Tryz.st97 Tryz.ld105 Tryz.st105 Tryz.ld117 Tryz.st117 Tryz.ld122 Tryz.st122 Tryz.ld123 Tryz.st123 Tryz.ld133 Tryz.st133 Tryz.ld155 Tryz.st155 Tryz.ld163 Tryz.st163 Tryz.ld190 Tryz.st190 Tryz.ld197 Tryz.st197 Tryz.ld201 Tryz.st201 Tryz.ld202 Tryz.st202 Tryz.ld209 Tryz.st209 Tryz.ld216 Tryz.st216 Tryz.ld230 Tryz.st230 Tryz.ld238 Tryz.st238 Tryz.ld242 Tryz.st242 Tryz.ld251 Tryz.st251 Tryz.ld260 Tryz.st260 Tryz.ld286 Tryz.st286 Tryz.ld292 Tryz.st292 Tryz.ld298 Tryz.st298 Tryz.ld309 Tryz.st309 Tryz.ld35 Tryz.st35 Tryz.ld48 Tryz.st48 Tryz.ld47 Tryz.st47 Tryz.ld79 Tryz.st79 Tryz.ld177 Tryz.st177 Tryz.ld180 Tryz.st180 Tryz.ld231 Tryz.st231 Tryz.ld232 Tryz.st232 Tryz.ld26 Tryz.st26 Tryz.ld38 Tryz.st38 Tryz.ld40 Tryz.st40 Tryz.ld43 Tryz.st43 Tryz.ld50 Tryz.st50 Tryz.ld52 Tryz.st52 Tryz.ld54 Tryz.st54 Tryz.ld81 Tryz.st81 Tryz.ld112 Tryz.st112 Tryz.ld120 Tryz.st120 Tryz.ld176 Tryz.st176 Tryz.ld179 Tryz.st179 Tryz.ld182 Tryz.st182 Tryz.ld184 Tryz.st184 Tryz.ld234 Tryz.st234 Tryz.ld236 Tryz.st236 Tryz.ld240 Tryz.st240 Tryz.ld246 Tryz.st246 Tryz.ld249 Tryz.st249 Tryz.al35 Tryz.al48 Tryz.al47 Tryz.al79 Tryz.al177 Tryz.al180 Tryz.al231 Tryz.al232 Tryz.al26 Tryz.al38 Tryz.al40 Tryz.al43 Tryz.al50 Tryz.al52 Tryz.al54 Tryz.al81 Tryz.al112 Tryz.al120 Tryz.al176 Tryz.al179 Tryz.al182 Tryz.al184 Tryz.al234 Tryz.al236 Tryz.al240 Tryz.al246 Tryz.al249
attribute [local go_sem] Player.length_enc Player.ok_enc Player.all_get Player.all_set Player.hand_get Player.hand_set Player.aside_get Player.aside_set Message.length_enc Message.ok_enc Message.all_get Message.all_set Message.kind_get Message.kind_set Message.from__get Message.from__set Message.to__get Message.to__set Message.sender_get Message.sender_set Message.receiver_get Message.receiver_set Message.seq_get Message.seq_set Message.token_get Message.token_set Message.amount_get Message.amount_set Message.size_get Message.size_set Message.payload_get Message.payload_set Tx.length_enc Tx.ok_enc Tx.all_get Tx.all_set Tx.kind_get Tx.kind_set Tx.chain_get Tx.chain_set Tx.from__get Tx.from__set Tx.nonce_get Tx.nonce_set Tx.fee_get Tx.fee_set Tx.to__get Tx.to__set Tx.dest_get Tx.dest_set Tx.token_get Tx.token_set Tx.amount_get Tx.amount_set Tx.size_get Tx.size_set Tx.payload_get Tx.payload_set Tx.msg_get Tx.msg_set Tx.msg_kind_get Tx.msg_kind_set Tx.msg_from__get Tx.msg_from__set Tx.msg_to__get Tx.msg_to__set Tx.msg_sender_get Tx.msg_sender_set Tx.msg_receiver_get Tx.msg_receiver_set Tx.msg_seq_get Tx.msg_seq_set Tx.msg_token_get Tx.msg_token_set Tx.msg_amount_get Tx.msg_amount_set Tx.msg_size_get Tx.msg_size_set Tx.msg_payload_get Tx.msg_payload_set GOp.length_enc GOp.ok_enc GOp.all_get GOp.all_set GOp.kind_get GOp.kind_set GOp.tx_get GOp.tx_set GOp.txs_get GOp.txs_set GOp.gas_get GOp.gas_set GOp.acct_get GOp.acct_set GOp.token_get GOp.token_set GOp.chain_get GOp.chain_set GOp.seq_get GOp.seq_set GOp.tx_kind_get GOp.tx_kind_set GOp.tx_chain_get GOp.tx_chain_set GOp.tx_from__get GOp.tx_from__set GOp.tx_nonce_get GOp.tx_nonce_set GOp.tx_fee_get GOp.tx_fee_set GOp.tx_to__get GOp.tx_to__set GOp.tx_dest_get GOp.tx_dest_set GOp.tx_token_get GOp.tx_token_set GOp.tx_amount_get GOp.tx_amount_set GOp.tx_size_get GOp.tx_size_set GOp.tx_payload_get GOp.tx_payload_set GOp.tx_msg_get GOp.tx_msg_set GOp.tx_msg_kind_get GOp.tx_msg_kind_set GOp.tx_msg_from__get GOp.tx_msg_from__set GOp.tx_msg_to__get GOp.tx_msg_to__set GOp.tx_msg_sender_get GOp.tx_msg_sender_set GOp.tx_msg_receiver_get GOp.tx_msg_receiver_set GOp.tx_msg_seq_get GOp.tx_msg_seq_set GOp.tx_msg_token_get GOp.tx_msg_token_set GOp.tx_msg_amount_get GOp.tx_msg_amount_set GOp.tx_msg_size_get GOp.tx_msg_size_set GOp.tx_msg_payload_get GOp.tx_msg_payload_set Summary.length_enc Summary.ok_enc Summary.all_get Summary.all_set Summary.height_get Summary.height_set Summary.txs_get Summary.txs_set Summary.gas_get Summary.gas_set Summary.fees_get Summary.fees_set Summary.sent_get Summary.sent_set Summary.took_get Summary.took_set Summary.minted_get Summary.minted_set Summary.burned_get Summary.burned_set Summary.root_get Summary.root_set Detail.length_enc Detail.ok_enc Detail.all_get Detail.all_set Detail.code_get Detail.code_set Detail.have__get Detail.have__set Detail.need_get Detail.need_set Slot.length_enc Slot.ok_enc Slot.all_get Slot.all_set Slot.nonce_get Slot.nonce_set Slot.balances_get Slot.balances_set Tree.length_enc Tree.ok_enc Tree.all_get Tree.all_set Tree.leaves_get Tree.leaves_set Mark.length_enc Mark.ok_enc Mark.all_get Mark.all_set Mark.from__get Mark.from__set Mark.seq_get Mark.seq_set Receipt.length_enc Receipt.ok_enc Receipt.all_get Receipt.all_set Receipt.code_get Receipt.code_set Receipt.hash_get Receipt.hash_set Receipt.index_get Receipt.index_set Receipt.gas_get Receipt.gas_set Receipt.fee_get Receipt.fee_set Receipt.hasSent_get Receipt.hasSent_set Receipt.sent_get Receipt.sent_set Receipt.hasTook_get Receipt.hasTook_set Receipt.took_get Receipt.took_set Receipt.sent_kind_get Receipt.sent_kind_set Receipt.sent_from__get Receipt.sent_from__set Receipt.sent_to__get Receipt.sent_to__set Receipt.sent_sender_get Receipt.sent_sender_set Receipt.sent_receiver_get Receipt.sent_receiver_set Receipt.sent_seq_get Receipt.sent_seq_set Receipt.sent_token_get Receipt.sent_token_set Receipt.sent_amount_get Receipt.sent_amount_set Receipt.sent_size_get Receipt.sent_size_set Receipt.sent_payload_get Receipt.sent_payload_set Receipt.took_kind_get Receipt.took_kind_set Receipt.took_from__get Receipt.took_from__set Receipt.took_to__get Receipt.took_to__set Receipt.took_sender_get Receipt.took_sender_set Receipt.took_receiver_get Receipt.took_receiver_set Receipt.took_seq_get Receipt.took_seq_set Receipt.took_token_get Receipt.took_token_set Receipt.took_amount_get Receipt.took_amount_set Receipt.took_size_get Receipt.took_size_set Receipt.took_payload_get Receipt.took_payload_set Store.length_enc Store.ok_enc Store.all_get Store.all_set Store.now_get Store.now_set Store.saved_get Store.saved_set GState.length_enc GState.ok_enc GState.all_get GState.all_set GState.kv_get GState.kv_set GState.tree_get GState.tree_set GState.stale_get GState.stale_set GState.touched_get GState.touched_set GState.kv_now_get GState.kv_now_set GState.kv_saved_get GState.kv_saved_set GState.tree_leaves_get GState.tree_leaves_set History.length_enc History.ok_enc History.all_get History.all_set History.ring_get History.ring_set History.closed_get History.closed_set Ledger.length_enc Ledger.ok_enc Ledger.all_get Ledger.all_set Ledger.chain_get Ledger.chain_set Ledger.st_get Ledger.st_set Ledger.height_get Ledger.height_set Ledger.open__get Ledger.open__set Ledger.gasLimit_get Ledger.gasLimit_set Ledger.past_get Ledger.past_set Ledger.begun_get Ledger.begun_set Ledger.sent_get Ledger.sent_set Ledger.took_get Ledger.took_set Ledger.receipts_get Ledger.receipts_set Ledger.st_kv_get Ledger.st_kv_set Ledger.st_tree_get Ledger.st_tree_set Ledger.st_stale_get Ledger.st_stale_set Ledger.st_touched_get Ledger.st_touched_set Ledger.st_kv_now_get Ledger.st_kv_now_set Ledger.st_kv_saved_get Ledger.st_kv_saved_set Ledger.st_tree_leaves_get Ledger.st_tree_leaves_set Ledger.past_ring_get Ledger.past_ring_set Ledger.past_closed_get Ledger.past_closed_set Ledger.begun_kv_get Ledger.begun_kv_set Ledger.begun_tree_get Ledger.begun_tree_set Ledger.begun_stale_get Ledger.begun_stale_set Ledger.begun_touched_get Ledger.begun_touched_set Ledger.begun_kv_now_get Ledger.begun_kv_now_set Ledger.begun_kv_saved_get Ledger.begun_kv_saved_set Ledger.begun_tree_leaves_get Ledger.begun_tree_leaves_set Purse.length_enc Purse.ok_enc Purse.all_get Purse.all_set Purse.st_get Purse.st_set Purse.n_get Purse.n_set Purse.account_get Purse.account_set Purse.token_get Purse.token_set Purse.amount_get Purse.amount_set Plan.length_enc Plan.ok_enc Plan.all_get Plan.all_set Plan.purse_get Plan.purse_set Plan.nonce_get Plan.nonce_set Plan.gasUsed_get Plan.gasUsed_set Plan.fees_get Plan.fees_set Plan.hasSupply_get Plan.hasSupply_set Plan.token_get Plan.token_set Plan.supply_get Plan.supply_set Plan.flowAt_get Plan.flowAt_set Plan.flow_get Plan.flow_set Plan.receipt_get Plan.receipt_set Plan.purse_st_get Plan.purse_st_set Plan.purse_n_get Plan.purse_n_set Plan.purse_account_get Plan.purse_account_set Plan.purse_token_get Plan.purse_token_set Plan.purse_amount_get Plan.purse_amount_set Plan.receipt_code_get Plan.receipt_code_set Plan.receipt_hash_get Plan.receipt_hash_set Plan.receipt_index_get Plan.receipt_index_set Plan.receipt_gas_get Plan.receipt_gas_set Plan.receipt_fee_get Plan.receipt_fee_set Plan.receipt_hasSent_get Plan.receipt_hasSent_set Plan.receipt_sent_get Plan.receipt_sent_set Plan.receipt_hasTook_get Plan.receipt_hasTook_set Plan.receipt_took_get Plan.receipt_took_set Plan.receipt_sent_kind_get Plan.receipt_sent_kind_set Plan.receipt_sent_from__get Plan.receipt_sent_from__set Plan.receipt_sent_to__get Plan.receipt_sent_to__set Plan.receipt_sent_sender_get Plan.receipt_sent_sender_set Plan.receipt_sent_receiver_get Plan.receipt_sent_receiver_set Plan.receipt_sent_seq_get Plan.receipt_sent_seq_set Plan.receipt_sent_token_get Plan.receipt_sent_token_set Plan.receipt_sent_amount_get Plan.receipt_sent_amount_set Plan.receipt_sent_size_get Plan.receipt_sent_size_set Plan.receipt_sent_payload_get Plan.receipt_sent_payload_set Plan.receipt_took_kind_get Plan.receipt_took_kind_set Plan.receipt_took_from__get Plan.receipt_took_from__set Plan.receipt_took_to__get Plan.receipt_took_to__set Plan.receipt_took_sender_get Plan.receipt_took_sender_set Plan.receipt_took_receiver_get Plan.receipt_took_receiver_set Plan.receipt_took_seq_get Plan.receipt_took_seq_set Plan.receipt_took_token_get Plan.receipt_took_token_set Plan.receipt_took_amount_get Plan.receipt_took_amount_set Plan.receipt_took_size_get Plan.receipt_took_size_set Plan.receipt_took_payload_get Plan.receipt_took_payload_set Move.length_enc Move.ok_enc Move.all_get Move.all_set Move.account_get Move.account_set Move.token_get Move.token_set Move.down_get Move.down_set Move.amount_get Move.amount_set Books.length_enc Books.ok_enc Books.all_get Books.all_set Books.sums_get Books.sums_set Books.stored_get Books.stored_set Books.marks_get Books.marks_set Pair.length_enc Pair.ok_enc Pair.all_get Pair.all_set Pair.key_get Pair.key_set Pair.value_get Pair.value_set
attribute [local go_sem] size_put size_ext blk_put free_put blk_alloc free_alloc blk_drew free_drew blk_ext free_ext lookOr_some putOr_some segAt_some cellAt_some storeIn_some put_put put_alloc_new length_arr ok_arr_u8 ok_arr_u32 ok_arr_u64 ok_arr_i64 ok_arr_sl cellsV_agg cellsV_int cellsV_bool cellsV_string cellsV_pointer cellsV_slice cellsV_sl ok_int ok_bool ok_string ok_pointer ok_slice ok_sl toList_arr seg_arr set_arr nth_splice nth_splice0 seg_splice seg_splice0 splice_splice splice_splice0 length_splice_if
attribute [local go_sem ↓] execOp_box
attribute [local go_sem] box_run nth_arr_u8 put_arr_u8 blk_drewN free_drewN put_drewN blk_raw free_raw
attribute [local go_sem] Tryz.ld56 Tryz.st56 Tryz.ld91 Tryz.st91 Tryz.al56 Tryz.al91 Answer.length_enc Answer.ok_enc Answer.all_get Answer.all_set Answer.code_get Answer.code_set Answer.receipts_get Answer.receipts_set Answer.moves_get Answer.moves_set Answer.failed_get Answer.failed_set Answer.value_get Answer.value_set Answer.yes_get Answer.yes_set Answer.root_get Answer.root_set Answer.summary_get Answer.summary_set Answer.detail_get Answer.detail_set Answer.slot_get Answer.slot_set Answer.summary_height_get Answer.summary_height_set Answer.summary_txs_get Answer.summary_txs_set Answer.summary_gas_get Answer.summary_gas_set Answer.summary_fees_get Answer.summary_fees_set Answer.summary_sent_get Answer.summary_sent_set Answer.summary_took_get Answer.summary_took_set Answer.summary_minted_get Answer.summary_minted_set Answer.summary_burned_get Answer.summary_burned_set Answer.summary_root_get Answer.summary_root_set Answer.detail_code_get Answer.detail_code_set Answer.detail_have__get Answer.detail_have__set Answer.detail_need_get Answer.detail_need_set Answer.slot_nonce_get Answer.slot_nonce_set Answer.slot_balances_get Answer.slot_balances_set Block.length_enc Block.ok_enc Block.all_get Block.all_set Block.gasLimit_get Block.gasLimit_set Block.txs_get Block.txs_set
attribute [local go_sem] Tryz.ld61 Tryz.st61 Tryz.ld125 Tryz.st125 Tryz.ld148 Tryz.st148 Tryz.al61 Tryz.al125 Tryz.al148 View.length_enc View.ok_enc View.all_get View.all_set View.chain_get View.chain_set View.balances_get View.balances_set View.nonces_get View.nonces_set View.supply_get View.supply_set View.marks_get View.marks_set View.height_get View.height_set View.open__get View.open__set View.gasLimit_get View.gasLimit_set View.gasUsed_get View.gasUsed_set View.fees_get View.fees_set View.txs_get View.txs_set View.sent_get View.sent_set View.took_get View.took_set View.minted_get View.minted_set View.burned_get View.burned_set View.depth_get View.depth_set Trail.length_enc Trail.ok_enc Trail.all_get Trail.all_set Trail.views_get Trail.views_set Trail.roots_get Trail.roots_set Trail.begunView_get Trail.begunView_set Trail.begunRoot_get Trail.begunRoot_set Trail.begunKnown_get Trail.begunKnown_set Trail.begunView_chain_get Trail.begunView_chain_set Trail.begunView_balances_get Trail.begunView_balances_set Trail.begunView_nonces_get Trail.begunView_nonces_set Trail.begunView_supply_get Trail.begunView_supply_set Trail.begunView_marks_get Trail.begunView_marks_set Trail.begunView_height_get Trail.begunView_height_set Trail.begunView_open__get Trail.begunView_open__set Trail.begunView_gasLimit_get Trail.begunView_gasLimit_set Trail.begunView_gasUsed_get Trail.begunView_gasUsed_set Trail.begunView_fees_get Trail.begunView_fees_set Trail.begunView_txs_get Trail.begunView_txs_set Trail.begunView_sent_get Trail.begunView_sent_set Trail.begunView_took_get Trail.begunView_took_set Trail.begunView_minted_get Trail.begunView_minted_set Trail.begunView_burned_get Trail.begunView_burned_set Trail.begunView_depth_get Trail.begunView_depth_set Dump.length_enc Dump.ok_enc Dump.all_get Dump.all_set Dump.chain_get Dump.chain_set Dump.height_get Dump.height_set Dump.balances_get Dump.balances_set Dump.nonces_get Dump.nonces_set Dump.marks_get Dump.marks_set Dump.history_get Dump.history_set
attribute [local go_sem ↓] execOp_bslice execOp_eql47
attribute [local go_sem] eql47
attribute [local go_sem ↓] execOp_eql61
theorem bslice22 (w : World) (r : GOp) : (bsliceOp 22 1 #[(0, .agg r.enc.toArray)]).run Tryz.prog w = .ok (.value (.slice (some ⟨w.heap.size, 0, none⟩) 1 1)) (w.alloc (.cells r.enc.toArray 43)) := bslice_one Kp.el22 (by omega) w r
theorem bslice117 (w : World) (r : Answer) : (bsliceOp 117 1 #[(0, .agg r.enc.toArray)]).run Tryz.prog w = .ok (.value (.slice (some ⟨w.heap.size, 0, none⟩) 1 1)) (w.alloc (.cells r.enc.toArray 56)) := bslice_one Kp.el117 (by omega) w r
theorem row_ty {V : World} {B B' : Nat} {e e' : TypeId} {sz sz' n n' : Nat} {v v' : Value} {xs xs' : List Value} (h : V.ownsRow B e sz v n xs) (h' : V.ownsRow B' e' sz' v' n' xs') (hne : e ≠ e') (k : Nat) (hk : v.ownBlock = some k) : v'.ownBlock ≠ some k := fun q => by
  obtain ⟨-, -, c1, f1, e1⟩ := row_at h k hk
  obtain ⟨-, -, c2, f2, e2⟩ := row_at h' k q
  rw [e1] at e2
  injection e2 with e2
  injection e2 with e3 e4 e5
  exact hne e4
theorem Kp.TwJ.reb {W : World} {fr : List (Nat × PLg)} {V V' : World} {b1 b2 : Nat} {bx : List (Nat × List Value)} {L1 L2 : PLg} {vs : List Value} (h : Kp.TwJ ⟨W, fr, Kp.obL V vs⟩ b1 b2 bx L1 L2 V') (hl : ∀ v ∈ vs, ∀ k, v.ownBlock = some k → k < V.heap.size) : Kp.TwJ ⟨W, fr, Kp.obL V' vs⟩ b1 b2 bx L1 L2 V' := by rw [h.obe hl]; exact h
attribute [local go_sem] bslice22 bslice117
/-- The answers, and their rows among the boxes. -/
def AnsB (bx : List (Nat × List Value)) (ans : List PAns) (zs : List Answer) : Prop := zs.length = ans.length ∧ ∀ (k : Nat) (p : PAns) (z : Answer), ans[k]? = some p → zs[k]? = some z → ∃ rc mv, z = ansO p rc mv ∧ RowB bx Receipt.enc 120 rc p.rs ∧ RowB bx Move.enc 4 mv p.mv ∧ p.mv.length ≤ 1000000000
theorem AnsB.mono {bx bx' : List (Nat × List Value)} {ans : List PAns} {zs : List Answer} (h : AnsB bx ans zs) (hs : ∀ p ∈ bx, p ∈ bx') : AnsB bx' ans zs := ⟨h.1, fun k p z h1 h2 => by
  obtain ⟨rc, mv, e, r1, r2, r3⟩ := h.2 k p z h1 h2
  exact ⟨rc, mv, e, r1.mono hs, r2.mono hs, r3⟩⟩
theorem AnsB.snoc {bx : List (Nat × List Value)} {ans : List PAns} {zs : List Answer} (h : AnsB bx ans zs) {p : PAns} {rc mv : Sl} (r1 : RowB bx Receipt.enc 120 rc p.rs) (r2 : RowB bx Move.enc 4 mv p.mv) (r3 : p.mv.length ≤ 1000000000) : AnsB bx (ans ++ [p]) (zs ++ [ansO p rc mv]) := by
  refine ⟨by rw [List.length_append, List.length_append, h.1]; rfl, fun k q z h1 h2 => ?_⟩
  by_cases hk : k < ans.length
  · rw [List.getElem?_append_left hk] at h1
    rw [List.getElem?_append_left (by rw [h.1]; exact hk)] at h2
    exact h.2 k q z h1 h2
  · have hk' : k = ans.length := by
      have := (List.getElem?_eq_some_iff.1 h1).1
      rw [List.length_append] at this
      have : k < ans.length + 1 := this
      omega
    subst hk'
    rw [List.getElem?_append_right (Nat.le_refl _), Nat.sub_self] at h1
    rw [List.getElem?_append_right (by rw [h.1]; exact Nat.le_refl _), h.1, Nat.sub_self] at h2
    have e1 : p = q := Option.some.inj h1
    have e2 : ansO p rc mv = z := Option.some.inj h2
    subst e1
    exact ⟨rc, mv, e2.symm, r1, r2, r3⟩
theorem stp_mv (L1 L2 : PLg) (g : GOp) (X : List Tx) : (stpF L1 L2 g X).1.mv.length ≤ 1000000000 := by
  have hm : (movF L1 g.tx).1.length ≤ 4 := by
    unfold movF
    split
    · show (srtN mvB _ _).length ≤ 4
      rw [srtN_len mvB _ _ (Nat.le_refl _)]
      have := List.length_filterMap_le (mvOf L1.st.now) (purL L1.st.now g.tx)
      have := purL_len L1.st.now g.tx
      unfold mvL
      omega
    · exact Nat.zero_le _
  have key : (stpF L1 L2 g X).1.mv = [] ∨ (stpF L1 L2 g X).1.mv = (movF L1 g.tx).1 := by
    unfold stpF
    by_cases k15 : g.kind = 15
    · rw [if_pos k15]; exact .inl rfl
    rw [if_neg k15]
    by_cases k16 : g.kind = 16
    · rw [if_pos k16]; exact .inl rfl
    rw [if_neg k16]
    by_cases k17 : g.kind = 17
    · rw [if_pos k17]; exact .inl rfl
    rw [if_neg k17]
    show (stpH L1 g X).1.mv = [] ∨ (stpH L1 g X).1.mv = _
    unfold stpH
    by_cases k1 : g.kind = 1
    · rw [if_pos k1]; exact .inl rfl
    rw [if_neg k1]
    by_cases k2 : g.kind = 2
    · rw [if_pos k2]; exact .inl rfl
    rw [if_neg k2]
    by_cases k3 : g.kind = 3
    · rw [if_pos k3]; exact .inl rfl
    rw [if_neg k3]
    by_cases k4 : g.kind = 4
    · rw [if_pos k4]; exact .inl rfl
    rw [if_neg k4]
    by_cases k5 : g.kind = 5
    · rw [if_pos k5]; exact .inl rfl
    rw [if_neg k5]
    by_cases k6 : g.kind = 6
    · rw [if_pos k6]; exact .inl rfl
    rw [if_neg k6]
    by_cases k7 : g.kind = 7
    · rw [if_pos k7]; exact .inl rfl
    rw [if_neg k7]
    by_cases k8 : g.kind = 8
    · rw [if_pos k8]; exact .inl rfl
    rw [if_neg k8]
    by_cases k9 : g.kind = 9
    · rw [if_pos k9]; exact .inl rfl
    rw [if_neg k9]
    by_cases k10 : g.kind = 10
    · rw [if_pos k10]; exact .inl rfl
    rw [if_neg k10]
    by_cases k11 : g.kind = 11
    · rw [if_pos k11]; exact .inl rfl
    rw [if_neg k11]
    by_cases k12 : g.kind = 12
    · rw [if_pos k12]; exact .inl rfl
    rw [if_neg k12]
    by_cases k13 : g.kind = 13
    · rw [if_pos k13]; exact .inl rfl
    rw [if_neg k13]
    by_cases k14 : g.kind = 14
    · rw [if_pos k14]; exact .inl rfl
    rw [if_neg k14]
    by_cases k18 : g.kind = 18
    · rw [if_pos k18]; exact .inl rfl
    rw [if_neg k18]
    by_cases k19 : g.kind = 19
    · rw [if_pos k19]; exact .inr rfl
    rw [if_neg k19]
    by_cases k20 : g.kind = 20
    · rw [if_pos k20]; exact .inl rfl
    rw [if_neg k20]
    by_cases k21 : g.kind = 21
    · rw [if_pos k21]; exact .inl rfl
    rw [if_neg k21]
    by_cases k22 : g.kind = 22
    · rw [if_pos k22]; exact .inl rfl
    rw [if_neg k22]
    by_cases k23 : g.kind = 23
    · rw [if_pos k23]; exact .inl rfl
    rw [if_neg k23]
    by_cases k24 : g.kind = 24
    · rw [if_pos k24]; exact .inl rfl
    rw [if_neg k24]
    by_cases k25 : g.kind = 25
    · rw [if_pos k25]; exact .inl rfl
    rw [if_neg k25]
    by_cases k26 : g.kind = 26
    · rw [if_pos k26]; exact .inl rfl
    rw [if_neg k26]
    by_cases k27 : g.kind = 27
    · rw [if_pos k27]; exact .inl rfl
    rw [if_neg k27]
    exact .inl rfl
  rcases key with e | e
  · rw [e]; exact Nat.zero_le _
  · rw [e]; omega
/-- In the first pass. -/
def Lp7 (W : World) (g : Nat → GOp) (dt : Nat → List Tx) (c : UInt8) (bp i : Nat) (va vz : Value) (V : World) : Prop := ∃ (b1 b2 : Nat) (L1 L2 : PLg) (n : Nat) (acc : List Nat) (ans : List PAns) (zs : List Answer) (bx : List (Nat × List Value)), Kp.PlJ ⟨W, [], Kp.obL V [va, vz]⟩ b1 b2 bp bx L1 L2 V ∧ (∀ p ∈ bx, p.1 ≠ bp) ∧ V.ownsRow W.heap.size 43 90 va (acc.map g).length ((acc.map g).flatMap GOp.enc) ∧ V.ownsRow W.heap.size 56 92 vz zs.length (zs.flatMap Answer.enc) ∧ AnsB bx ans zs ∧ RpI g dt c i L1 L2 acc ans ∧ (LI n L1 ∧ CI L1) ∧ (LI n L2 ∧ CI L2) ∧ n ≤ i + sumT g i
theorem rows_lt {V : World} {B e e' sz sz' n n' : Nat} {va vz : Value} {xs xs' : List Value} (ha : V.ownsRow B e sz va n xs) (hz : V.ownsRow B e' sz' vz n' xs') : ∀ v ∈ [va, vz], ∀ k, v.ownBlock = some k → k < V.heap.size := fun v hv k hk => by
  simp only [List.mem_cons, List.not_mem_nil, or_false] at hv
  rcases hv with rfl | rfl
  · exact (row_at ha k hk).2.1
  · exact (row_at hz k hk).2.1
/-- The first pass and the second, together. -/
theorem Kp.TwJ.join {W : World} {ob : List (Nat × Obj)} {b1 b2 d1 d2 : Nat} {bx bx2 : List (Nat × List Value)} {L1 L2 M1 M2 : PLg} {V Vn : World} (h : Kp.TwJ ⟨W, [], ob⟩ b1 b2 bx L1 L2 V) (h' : TwI V d1 d2 bx2 M1 M2 Vn) : TwI W b1 d1 (bx ++ bx2) L1 M1 Vn := by
  obtain ⟨h0, O, h1, h2, h3, h4, h5, h6, h7⟩ := h
  obtain ⟨g0, P, g1, g2, g3, g4, g5⟩ := h'
  have e1 : LedA (fun k => if k < V.heap.size then O k else P k) Vn b1 L1 := h3.grow g1 (fun k hk => if_pos hk)
  have e2 : LedA (fun k => if k < V.heap.size then O k else P k) Vn d1 M1 := g3.relab (fun k j hk => by
    have hk2 : ¬ k < V.heap.size := fun q => by rw [g2 k q] at hk; cases hk
    try dsimp only
    rw [if_neg hk2]
    exact hk)
  have l1 := h3.blt
  have l2 : V.heap.size ≤ d1 := Nat.le_of_not_lt (fun q => by
    obtain ⟨sn, ss, bn, ms, mt, mr, a9⟩ := g3
    have := a9.hlab
    rw [g2 d1 q] at this
    cases this)
  refine ⟨by omega, _, h1.trans g1, fun k hk => ?_, e1, e2, fun p hp => ?_⟩
  · try dsimp only
    rw [if_pos (Nat.lt_of_lt_of_le hk h1.size)]
    exact h2 k hk
  · rcases List.mem_append.1 hp with hp | hp
    · obtain ⟨q1, q2, q3, q4, -⟩ := h5 p hp
      have hl := blk_lt q1
      exact ⟨(g1.blk hl).trans q1, (free_of_heap (g1.block _ hl)).trans q2, (if_pos hl).trans q3, q4⟩
    · obtain ⟨q1, q2, q3, q4⟩ := g5 p hp
      exact ⟨q1, q2, (if_neg (by have q4' : V.heap.size ≤ p.1 := q4; omega)).trans q3, Nat.le_trans h1.size q4⟩
set_option maxRecDepth 100000 in
theorem frame81L (f : Nat → Value) : frameN 81 f = #[f 0, f 1, f 2, f 3, f 4, f 5, f 6, f 7, f 8, f 9, f 10, f 11, f 12, f 13, f 14, f 15, f 16, f 17, f 18, f 19, f 20, f 21, f 22, f 23, f 24, f 25, f 26, f 27, f 28, f 29, f 30, f 31, f 32, f 33, f 34, f 35, f 36, f 37, f 38, f 39, f 40, f 41, f 42, f 43, f 44, f 45, f 46, f 47, f 48, f 49, f 50, f 51, f 52, f 53, f 54, f 55, f 56, f 57, f 58, f 59, f 60, f 61, f 62, f 63, f 64, f 65, f 66, f 67, f 68, f 69, f 70, f 71, f 72, f 73, f 74, f 75, f 76, f 77, f 78, f 79, f 80] := by kernel_rfl
def lw7 (W : World) (a : Option Addr) (len cap : Nat) (g : Nat → GOp) (dt : Nat → List Tx) (c : UInt8) (bp : Nat) (F : Nat → Value) (V : World) : Prop := F 3 = .int .u8 (w8 c) ∧ F 4 = .pointer (some ⟨bp, 0, none⟩) ∧ F 20 = .slice a len cap ∧ F 21 = .int .i64 (len : Nat) ∧ ∃ i : Nat, i ≤ len ∧ F 22 = .int .i64 (i : Nat) ∧ ∃ (a5 : Option Addr) (n5 c5 : Nat) (a6 : Option Addr) (n6 c6 : Nat), F 5 = .slice a5 n5 c5 ∧ F 6 = .slice a6 n6 c6 ∧ Hid (Lp7 W g dt c bp i (.slice a5 n5 c5) (.slice a6 n6 c6) V)
def lw7b (U : World) (a5 : Option Addr) (n5 c5 : Nat) (a6 : Option Addr) (n6 c6 : Nat) (g : Nat → GOp) (dt : Nat → List Tx) (c : UInt8) (bp bq : Nat) (acc : List Nat) (F : Nat → Value) (V : World) : Prop := F 4 = .pointer (some ⟨bp, 0, none⟩) ∧ F 6 = .slice a6 n6 c6 ∧ F 10 = .pointer (some ⟨bq, 0, none⟩) ∧ F 42 = .slice a5 n5 c5 ∧ F 43 = .int .i64 (n5 : Nat) ∧ ∃ k : Nat, k ≤ n5 ∧ F 44 = .int .i64 (k : Nat) ∧ Hid (∃ d1 d2, PlI U d1 d2 bq [] (rpl g dt c (acc.take k)).1 (rpl g dt c (acc.take k)).2 V)
set_option maxRecDepth 200000 in
set_option maxHeartbeats 4000000 in
theorem replay7_walk (W : World) (a : Option Addr) (len cap : Nat) (g : Nat → GOp) (dt : Nat → List Tx) (hS : ScriptAt W a len cap g dt) : Calls Tryz.prog 7 #[.slice a len cap] W fun e V => e = .returned (.bool true) ∧ W.Extends V := by
  obtain ⟨Q, hQ⟩ : ∃ Q : Ending → World → Prop, Q = fun e V => e = .returned (.bool true) ∧ W.Extends V := ⟨_, rfl⟩
  rw [← hQ]
  have HQ := hid_of hQ
  have HS := hid_of hS
  have hsm := small2_any W a len cap g dt hS
  have hch := chainOf2_any W a len cap g dt hS
  clear hQ hS
  go_enter Tryz.func7, Tryz.ntmps7
  go_wp2_with fail
  refine hsm.mono ?_
  clear hsm
  rintro e V0 ⟨⟨r, rfl, hr⟩, rfl⟩
  dsimp only
  cases r with
  | false =>
    have HP : Hid (Q (.returned (.bool true)) V0) := by
      show Q _ _
      rw [HQ.out]
      exact ⟨rfl, ext_Ext (Ext.refl _)⟩
    clear hch hr HS HQ
    go_wp2_with fail
    try (first | go_ret | go_ret2 | go_ret3 | go_end0)
    exact HP.out
  | true =>
  have HR := hid_of (hr rfl)
  clear hr
  go_wp2_with fail
  refine hch.mono ?_
  clear hch
  rintro e V0' ⟨c, hc, rfl, rfl⟩
  dsimp only
  have hnp := player_any V0' c hc
  have HC := hid_of hc
  clear hc
  go_wp2_with fail
  refine hnp.mono ?_
  clear hnp
  rintro e V1 ⟨b1, b2, rfl, h1⟩
  dsimp only
  obtain ⟨pl, hpl⟩ : ∃ pl, pl = Player.mk (some ⟨b1, 0, none⟩) (some ⟨b2, 0, none⟩) := ⟨_, rfl⟩
  rw [← hpl]
  have h2 := h1.box pl.enc 26
  obtain ⟨W2, hW2⟩ : ∃ W2 : World, W2 = V1.alloc (.cells pl.enc.toArray 26) := ⟨_, rfl⟩
  obtain ⟨bp, hbp⟩ : ∃ bp, bp = V1.heap.size := ⟨_, rfl⟩
  rw [← hW2, ← hbp] at h2
  have HI0 : Hid (Lp7 V0' g dt c bp 0 (.slice none 0 0) (.slice none 0 0) W2) := by
    refine ⟨b1, b2, newL c, newL c, 0, [], [], [], [], ?_, fun p hp => (by cases hp), ⟨by simp, .inl ⟨rfl, rfl⟩⟩, ⟨by simp, .inl ⟨rfl, rfl⟩⟩, ⟨rfl, fun k p z h1 => (by simp at h1)⟩, RpI.start g dt c HC.out, ⟨newL_li c HC.out, newL_ci c⟩, ⟨newL_li c HC.out, newL_ci c⟩, Nat.zero_le _⟩
    have := Kp.toJ h2
    rw [hpl] at this
    exact this
  have HW2 := hid_of hW2
  have HBP := hid_of hbp
  clear hW2 hbp h1 h2 hpl
  go_upto_region 7 with fail
  rw [← HW2.out, ← HBP.out]
  clear HW2 HBP
  go_wp2_with fail
  refine wp_loop_f 81 (lw7 V0' a len cap g dt c bp) (fun f _ => len - (intOf (f 22)).toNat) rfl ⟨rfl, rfl, rfl, rfl, 0, Nat.zero_le _, rfl, _, _, _, _, _, _, rfl, rfl, HI0⟩ ?_
  clear HI0
  intro F V hrel
  obtain ⟨f3, f4, f20, f21, i, hi, f22, a5, n5, c5, a6, n6, c6, f5, f6, HI⟩ := hrel
  have H22 := hid_of f22
  rw [frame81L, f3, f4, f20, f21, f22, f5, f6]
  clear f3 f4 f20 f21 f22 f5 f6
  obtain ⟨b1, b2, L1, L2, n, acc, ans, zs, bx, h0, hbp, hra, hrz, hAB, hRP, hI1, hI2, hn⟩ := HI.out
  clear HI
  by_cases hin : i < len
  rotate_left 1
  · have hil : i = len := by omega
    subst hil
    have hin' : ¬ (i : Int) < (i : Int) := by omega
    have hnp := player_any V c HC.out
    have HX : Hid ((LI n L1 ∧ CI L1) ∧ n ≤ i + sumT g i ∧ i + sumT g i ≤ 65536) := ⟨hI1, hn, HR.out⟩
    have e5 : n5 = acc.length := by
      have := (rw_own GOp.length_enc hra).1.1
      rw [List.length_map] at this
      exact this.symm
    have e6 : n6 = zs.length := (rw_own Answer.length_enc hrz).1.1.symm
    have HRA := hid_of (rw_own GOp.length_enc hra).1
    have HRZ := hid_of (rw_own Answer.length_enc hrz).1
    have HML : Hid (n5 ≤ 65536 ∧ n5 = acc.length ∧ n6 = zs.length) := ⟨by have := hRP.al; have := HX.out.2.2; omega, e5, e6⟩
    have H0 := hid_of h0
    have HAB := hid_of hAB
    have HRP := hid_of hRP
    clear hin hi hn hI1 hI2 hbp hra hrz hAB hRP h0 e5 e6
    go_wp2_with fail
    refine hnp.mono ?_
    clear hnp
    rintro e V1 ⟨d1, d2, rfl, h1⟩
    dsimp only
    obtain ⟨pq, hpq⟩ : ∃ pq, pq = Player.mk (some ⟨d1, 0, none⟩) (some ⟨d2, 0, none⟩) := ⟨_, rfl⟩
    rw [← hpq]
    have h2 := h1.box pq.enc 26
    obtain ⟨V2, hV2⟩ : ∃ V2 : World, V2 = V1.alloc (.cells pq.enc.toArray 26) := ⟨_, rfl⟩
    obtain ⟨bq, hbq⟩ : ∃ bq, bq = V1.heap.size := ⟨_, rfl⟩
    rw [← hV2, ← hbq, hpq] at h2
    have HI0 : Hid (∃ d1 d2, PlI V d1 d2 bq [] (rpl g dt c (acc.take 0)).1 (rpl g dt c (acc.take 0)).2 V2) := ⟨d1, d2, h2⟩
    have HV2 := hid_of hV2
    have HBQ := hid_of hbq
    clear hV2 hbq h1 h2 hpq
    go_upto_region 16 with fail
    rw [← HV2.out, ← HBQ.out]
    clear HV2 HBQ
    go_wp2_with fail
    refine wp_loop_f 81 (lw7b V a5 n5 c5 a6 n6 c6 g dt c bp bq acc) (fun f _ => n5 - (intOf (f 44)).toNat) rfl ⟨rfl, rfl, rfl, rfl, rfl, 0, Nat.zero_le _, rfl, HI0⟩ ?_
    clear HI0
    intro F2 U hrel
    obtain ⟨f4, f6, f10, f42, f43, k, hk, f44, HI⟩ := hrel
    have H44 := hid_of f44
    rw [frame81L, f4, f6, f10, f42, f43, f44]
    clear f4 f6 f10 f42 f43 f44
    obtain ⟨d1, d2, h0⟩ := HI.out
    clear HI
    obtain ⟨m, hm, hB1, hB2⟩ := HRP.out.li k (by rw [← HML.out.2.1]; exact hk)
    obtain ⟨B1, hB1e⟩ : ∃ B, B = (rpl g dt c (acc.take k)).1 := ⟨_, rfl⟩
    obtain ⟨B2, hB2e⟩ : ∃ B, B = (rpl g dt c (acc.take k)).2 := ⟨_, rfl⟩
    rw [← hB1e] at hB1 h0
    rw [← hB2e] at hB2 h0
    by_cases hkn : k < n5
    rotate_left 1
    · have hk5 : k = n5 := by omega
      have hkn' : ¬ (k : Int) < (n5 : Int) := by omega
      have hs1 := HRP.out.s1
      have eta : acc.take k = acc := by rw [hk5, HML.out.2.1]; exact List.take_length
      rw [eta] at hB1e
      rw [← hB1e] at hs1
      have hj := (Kp.TwJ.join (H0.out : Kp.TwJ _ _ _ _ _ _ _) h0).ext (extends_drewN (ext_Ext (Ext.refl U)) 1)
      obtain ⟨pl1, hpl⟩ : ∃ pl1, pl1 = Player.mk (some ⟨b1, 0, none⟩) (some ⟨b2, 0, none⟩) := ⟨_, rfl⟩
      obtain ⟨pl3, hpl3⟩ : ∃ pl3, pl3 = Player.mk (some ⟨d1, 0, none⟩) (some ⟨d2, 0, none⟩) := ⟨_, rfl⟩
      rw [← hpl, ← hpl3] at hj
      have hph : nth pl1.enc 0 = some (.pointer (some ⟨b1, 0, none⟩)) := by rw [hpl]; exact Player.hand_get _
      have lpl : pl1.enc.length = 2 := Player.length_enc _
      have hph3 : nth pl3.enc 0 = some (.pointer (some ⟨d1, 0, none⟩)) := by rw [hpl3]; exact Player.hand_get _
      have lpl3 : pl3.enc.length = 2 := Player.length_enc _
      have kp := (hj.at (b := bp) (C := pl1.enc) (by simp)).1
      have kq := (hj.at (b := bq) (C := pl3.enc) (by simp)).1
      have HSM : Hid (Sim L1 B1 ∧ (LI m B1 ∧ CI B1) ∧ m ≤ i + sumT g i) := ⟨hs1, hB1, hm⟩
      have hr1 := hj.root
      clear hk hkn h0 hB1 hB2 hB1e hB2e hs1 hm eta hk5 H44 HRA HRZ hpl hpl3 hj
      go_upto_region 22 with fail
      repeat go_step
      refine wp_region_F 23 (fun W' => blk W' bp = some pl1.enc ∧ blk W' bq = some pl3.enc) (by kernel_rfl) ⟨kp, kq⟩ (fun hHeld => ?_)
      refine wpAnyF_take (i := 0) (oi := ⟨_, _, _, _, _, _⟩) (v := ?_) rfl (by kernel_rfl) (by kernel_rfl) (by kernel_rfl) (by kernel_rfl) (by kernel_rfl) (fun _ _ _ h => h) (Or.inl ⟨by rfl, ?_⟩) (by assumption) ?_
      rotate_left 1
      · intro W' hSw
        obtain ⟨hS1, hS2⟩ := hSw
        go_simp
        try with_reducible rfl
      try simp only [Act.put, List.setIfInBounds_toArray, List.set_cons_zero, List.set_cons_succ]
      refine wpAnyF_take (i := 1) (oi := ⟨_, _, _, _, _, _⟩) (v := ?_) rfl (by kernel_rfl) (by kernel_rfl) (by kernel_rfl) (by kernel_rfl) (by kernel_rfl) (fun _ _ _ h => h) (Or.inl ⟨by rfl, ?_⟩) (by assumption) ?_
      rotate_left 1
      · intro W' hSw
        obtain ⟨hS1, hS2⟩ := hSw
        go_simp
        try with_reducible rfl
      try simp only [Act.put, List.setIfInBounds_toArray, List.set_cons_zero, List.set_cons_succ]
      refine wpAnyF_take (i := 3) (oi := ⟨_, _, _, _, _, _⟩) (v := ?_) rfl (by kernel_rfl) (by kernel_rfl) (by kernel_rfl) (by kernel_rfl) (by kernel_rfl) (fun _ _ _ h => h) (Or.inl ⟨by rfl, ?_⟩) (by assumption) ?_
      rotate_left 1
      · intro W' hSw
        obtain ⟨hS1, hS2⟩ := hSw
        go_simp
        try with_reducible rfl
      try simp only [Act.put, List.setIfInBounds_toArray, List.set_cons_zero, List.set_cons_succ]
      refine wpAnyF_take (i := 4) (oi := ⟨_, _, _, _, _, _⟩) (v := ?_) rfl (by kernel_rfl) (by kernel_rfl) (by kernel_rfl) (by kernel_rfl) (by kernel_rfl) (fun _ _ _ h => h) (Or.inl ⟨by rfl, ?_⟩) (by assumption) ?_
      rotate_left 1
      · intro W' hSw
        obtain ⟨hS1, hS2⟩ := hSw
        go_simp
        try with_reducible rfl
      try simp only [Act.put, List.setIfInBounds_toArray, List.set_cons_zero, List.set_cons_succ]
      refine wpAnyF_one (o := ⟨_, _, _, _, _, _⟩) (i := 2) (by kernel_rfl) rfl rfl (fun K' hK => ?_)
      go_simp
      refine hr1.mono ?_
      clear hr1
      rintro e U2 ⟨rfl, h2⟩
      dsimp only
      have kp2 := (h2.at (b := bp) (C := pl1.enc) (by simp)).1
      have kq2 := (h2.at (b := bq) (C := pl3.enc) (by simp)).1
      refine hK.out _ _ ⟨kp2, kq2⟩ (fun hHeld => ?_)
      clear hK K'
      try simp only [Act.put, List.setIfInBounds_toArray, List.set_cons_zero, List.set_cons_succ]
      have hr2 := h2.swap.root
      rw [HSM.out.1.root HX.out.1.2 HSM.out.2.1.2] at hr2
      obtain ⟨D0, hD0⟩ : ∃ D0, D0 = rootD L1.st := ⟨_, rfl⟩
      rw [← hD0] at hr2 ⊢
      have hDD : ∀ w X Y, (cmpEq 47 X Y (.agg (arr u8v D0).toArray) (.agg (arr u8v D0).toArray)).run Tryz.prog w = .ok (.value (.bool true)) w := fun w X Y => by rw [eql47, eqA_self]
      clear hD0 kp kq
      refine wpAnyF_one (o := ⟨_, _, _, _, _, _⟩) (i := 5) (by kernel_rfl) rfl rfl (fun K' hK => ?_)
      go_simp
      refine hr2.mono ?_
      clear hr2
      rintro e U3 ⟨rfl, h3⟩
      dsimp only
      have kp3 := (h3.at (b := bp) (C := pl1.enc) (by simp)).1
      have kq3 := (h3.at (b := bq) (C := pl3.enc) (by simp)).1
      refine hK.out _ _ ⟨kp3, kq3⟩ (fun hHeld => ?_)
      clear hK K'
      try simp only [Act.put, List.setIfInBounds_toArray, List.set_cons_zero, List.set_cons_succ]
      have hLA := LI.rot HX.out.1 (by have := HX.out.2; omega)
      have hLB := LI.rot HSM.out.2.1 (by have := HX.out.2; have := HSM.out.2.2; omega)
      have HS2 := hid_of HSM.out.1.rot
      have heq := equal_any U3 b1 d1 (rotL L1) (rotL B1) h3.swap.rd2 (hLA.1.eqi (by have := HX.out.2; omega)) (hLB.1.eqi (by have := HX.out.2; have := HSM.out.2.2; omega))
      rw [HS2.out.eql hLA.1.now.wf.nd] at heq
      have HDP := hid_of hLA.1.dep
      clear hLA hLB h2 kp2 kq2
      refine wpAnyF_take (i := 6) (oi := ⟨_, _, _, _, _, _⟩) (v := ?_) rfl (by kernel_rfl) (by kernel_rfl) (by kernel_rfl) (by kernel_rfl) (by kernel_rfl) (fun _ _ _ h => h) (Or.inl ⟨by rfl, ?_⟩) (by assumption) ?_
      rotate_left 1
      · intro W' hSw
        obtain ⟨hS1, hS2⟩ := hSw
        go_simp
        try with_reducible rfl
      try simp only [Act.put, List.setIfInBounds_toArray, List.set_cons_zero, List.set_cons_succ]
      refine wpAnyF_take (i := 7) (oi := ⟨_, _, _, _, _, _⟩) (v := ?_) rfl (by kernel_rfl) (by kernel_rfl) (by kernel_rfl) (by kernel_rfl) (by kernel_rfl) (fun _ _ _ h => h) (Or.inl ⟨by rfl, ?_⟩) (by assumption) ?_
      rotate_left 1
      · intro W' hSw
        obtain ⟨hS1, hS2⟩ := hSw
        go_simp
        try with_reducible rfl
      try simp only [Act.put, List.setIfInBounds_toArray, List.set_cons_zero, List.set_cons_succ]
      refine wpAnyF_take (i := 8) (oi := ⟨_, _, _, _, _, _⟩) (v := ?_) rfl (by kernel_rfl) (by kernel_rfl) (by kernel_rfl) (by kernel_rfl) (by kernel_rfl) (fun _ _ _ h => h) (Or.inl ⟨by rfl, ?_⟩) (by assumption) ?_
      rotate_left 1
      · intro W' hSw
        obtain ⟨hS1, hS2⟩ := hSw
        go_simp
        try with_reducible rfl
      try simp only [Act.put, List.setIfInBounds_toArray, List.set_cons_zero, List.set_cons_succ]
      refine wpAnyF_take (i := 9) (oi := ⟨_, _, _, _, _, _⟩) (v := ?_) rfl (by kernel_rfl) (by kernel_rfl) (by kernel_rfl) (by kernel_rfl) (by kernel_rfl) (fun _ _ _ h => h) (Or.inl ⟨by rfl, ?_⟩) (by assumption) ?_
      rotate_left 1
      · intro W' hSw
        obtain ⟨hS1, hS2⟩ := hSw
        go_simp
        try with_reducible rfl
      try simp only [Act.put, List.setIfInBounds_toArray, List.set_cons_zero, List.set_cons_succ]
      refine wpAnyF_take (i := 10) (oi := ⟨_, _, _, _, _, _⟩) (v := ?_) rfl (by kernel_rfl) (by kernel_rfl) (by kernel_rfl) (by kernel_rfl) (by kernel_rfl) (fun _ _ _ h => h) (Or.inl ⟨by rfl, ?_⟩) (by assumption) ?_
      rotate_left 1
      · intro W' hSw
        obtain ⟨hS1, hS2⟩ := hSw
        go_simp
        try with_reducible rfl
      try simp only [Act.put, List.setIfInBounds_toArray, List.set_cons_zero, List.set_cons_succ]
      refine wpAnyF_take (i := 11) (oi := ⟨_, _, _, _, _, _⟩) (v := ?_) rfl (by kernel_rfl) (by kernel_rfl) (by kernel_rfl) (by kernel_rfl) (by kernel_rfl) (fun _ _ _ h => h) (Or.inl ⟨by rfl, ?_⟩) (by assumption) ?_
      rotate_left 1
      · intro W' hSw
        obtain ⟨hS1, hS2⟩ := hSw
        go_simp
        try with_reducible rfl
      try simp only [Act.put, List.setIfInBounds_toArray, List.set_cons_zero, List.set_cons_succ]
      refine wpAnyF_one (o := ⟨_, _, _, _, _, _⟩) (i := 12) (by kernel_rfl) rfl rfl (fun K' hK => ?_)
      go_simp
      refine heq.mono ?_
      clear heq
      rintro e U4 ⟨rfl, hx4⟩
      dsimp only
      have h4 := h3.ext hx4
      clear hx4
      have kp4 := (h4.at (b := bp) (C := pl1.enc) (by simp)).1
      have kq4 := (h4.at (b := bq) (C := pl3.enc) (by simp)).1
      refine hK.out _ _ ⟨kp4, kq4⟩ (fun hHeld => ?_)
      clear hK K'
      try simp only [Act.put, List.setIfInBounds_toArray, List.set_cons_zero, List.set_cons_succ]
      have hv1 := h4.swap.view
      obtain ⟨vw, hvw⟩ : ∃ vw, vw = viewF (rotL L1) := ⟨_, rfl⟩
      have hokv : okView vw := by rw [hvw]; exact viewF_ok _ HDP.out
      have hVV : ∀ w X Y, (cmpEq 61 X Y (.agg vw.enc.toArray) (.agg vw.enc.toArray)).run Tryz.prog w = .ok (.value (.bool true)) w := fun w X Y => by
        have q := el_eq61.eql w X Y vw vw hokv hokv
        rw [eqA_self] at q
        exact q
      rw [← hvw] at hv1
      have HVW := hid_of hvw
      clear h3 kp3 kq3 hvw hokv
      refine wpAnyF_take (i := 13) (oi := ⟨_, _, _, _, _, _⟩) (v := ?_) rfl (by kernel_rfl) (by kernel_rfl) (by kernel_rfl) (by kernel_rfl) (by kernel_rfl) (fun _ _ _ h => h) (Or.inl ⟨by rfl, ?_⟩) (by assumption) ?_
      rotate_left 1
      · intro W' hSw
        obtain ⟨hS1, hS2⟩ := hSw
        go_simp
        try with_reducible rfl
      try simp only [Act.put, List.setIfInBounds_toArray, List.set_cons_zero, List.set_cons_succ]
      refine wpAnyF_take (i := 14) (oi := ⟨_, _, _, _, _, _⟩) (v := ?_) rfl (by kernel_rfl) (by kernel_rfl) (by kernel_rfl) (by kernel_rfl) (by kernel_rfl) (fun _ _ _ h => h) (Or.inl ⟨by rfl, ?_⟩) (by assumption) ?_
      rotate_left 1
      · intro W' hSw
        obtain ⟨hS1, hS2⟩ := hSw
        go_simp
        try with_reducible rfl
      try simp only [Act.put, List.setIfInBounds_toArray, List.set_cons_zero, List.set_cons_succ]
      refine wpAnyF_take (i := 15) (oi := ⟨_, _, _, _, _, _⟩) (v := ?_) rfl (by kernel_rfl) (by kernel_rfl) (by kernel_rfl) (by kernel_rfl) (by kernel_rfl) (fun _ _ _ h => h) (Or.inl ⟨by rfl, ?_⟩) (by assumption) ?_
      rotate_left 1
      · intro W' hSw
        obtain ⟨hS1, hS2⟩ := hSw
        go_simp
        try with_reducible rfl
      try simp only [Act.put, List.setIfInBounds_toArray, List.set_cons_zero, List.set_cons_succ]
      refine wpAnyF_take (i := 16) (oi := ⟨_, _, _, _, _, _⟩) (v := ?_) rfl (by kernel_rfl) (by kernel_rfl) (by kernel_rfl) (by kernel_rfl) (by kernel_rfl) (fun _ _ _ h => h) (Or.inl ⟨by rfl, ?_⟩) (by assumption) ?_
      rotate_left 1
      · intro W' hSw
        obtain ⟨hS1, hS2⟩ := hSw
        go_simp
        try with_reducible rfl
      try simp only [Act.put, List.setIfInBounds_toArray, List.set_cons_zero, List.set_cons_succ]
      refine wpAnyF_take (i := 18) (oi := ⟨_, _, _, _, _, _⟩) (v := ?_) rfl (by kernel_rfl) (by kernel_rfl) (by kernel_rfl) (by kernel_rfl) (by kernel_rfl) (fun _ _ _ h => h) (Or.inl ⟨by rfl, ?_⟩) (by assumption) ?_
      rotate_left 1
      · intro W' hSw
        obtain ⟨hS1, hS2⟩ := hSw
        go_simp
        try with_reducible rfl
      try simp only [Act.put, List.setIfInBounds_toArray, List.set_cons_zero, List.set_cons_succ]
      refine wpAnyF_take (i := 19) (oi := ⟨_, _, _, _, _, _⟩) (v := ?_) rfl (by kernel_rfl) (by kernel_rfl) (by kernel_rfl) (by kernel_rfl) (by kernel_rfl) (fun _ _ _ h => h) (Or.inl ⟨by rfl, ?_⟩) (by assumption) ?_
      rotate_left 1
      · intro W' hSw
        obtain ⟨hS1, hS2⟩ := hSw
        go_simp
        try with_reducible rfl
      try simp only [Act.put, List.setIfInBounds_toArray, List.set_cons_zero, List.set_cons_succ]
      refine wpAnyF_one (o := ⟨_, _, _, _, _, _⟩) (i := 17) (by kernel_rfl) rfl rfl (fun K' hK => ?_)
      go_simp
      refine hv1.mono ?_
      clear hv1
      rintro e U5 ⟨rfl, hx5⟩
      dsimp only
      have h5 := h4.ext hx5
      clear hx5
      have kp5 := (h5.at (b := bp) (C := pl1.enc) (by simp)).1
      have kq5 := (h5.at (b := bq) (C := pl3.enc) (by simp)).1
      refine hK.out _ _ ⟨kp5, kq5⟩ (fun hHeld => ?_)
      clear hK K'
      try simp only [Act.put, List.setIfInBounds_toArray, List.set_cons_zero, List.set_cons_succ]
      have hv2 := h5.view
      rw [HS2.out.view, ← HVW.out] at hv2
      clear h4 kp4 kq4
      refine wpAnyF_one (o := ⟨_, _, _, _, _, _⟩) (i := 20) (by kernel_rfl) rfl rfl (fun K' hK => ?_)
      go_simp
      refine hv2.mono ?_
      clear hv2
      rintro e U6 ⟨rfl, hx6⟩
      dsimp only
      have h6 := h5.ext hx6
      clear hx6
      have kp6 := (h6.at (b := bp) (C := pl1.enc) (by simp)).1
      have kq6 := (h6.at (b := bq) (C := pl3.enc) (by simp)).1
      refine hK.out _ _ ⟨kp6, kq6⟩ (fun hHeld => ?_)
      clear hK K'
      try simp only [Act.put, List.setIfInBounds_toArray, List.set_cons_zero, List.set_cons_succ]
      refine wpAnyF_take (i := 21) (oi := ⟨_, _, _, _, _, _⟩) (v := ?_) rfl (by kernel_rfl) (by kernel_rfl) (by kernel_rfl) (by kernel_rfl) (by kernel_rfl) (fun _ _ _ h => h) (Or.inl ⟨by rfl, ?_⟩) (by assumption) ?_
      rotate_left 1
      · intro W' hSw
        obtain ⟨hS1, hS2⟩ := hSw
        go_simp
        try with_reducible rfl
      try simp only [Act.put, List.setIfInBounds_toArray, List.set_cons_zero, List.set_cons_succ]
      refine wpAnyF_take (i := 22) (oi := ⟨_, _, _, _, _, _⟩) (v := ?_) rfl (by kernel_rfl) (by kernel_rfl) (by kernel_rfl) (by kernel_rfl) (by kernel_rfl) (fun _ _ _ h => h) (Or.inl ⟨by rfl, ?_⟩) (by assumption) ?_
      rotate_left 1
      · intro W' hSw
        obtain ⟨hS1, hS2⟩ := hSw
        go_simp
        try with_reducible rfl
      try simp only [Act.put, List.setIfInBounds_toArray, List.set_cons_zero, List.set_cons_succ]
      refine wpAnyF_last (o := ⟨_, _, _, _, _, _⟩) (by kernel_rfl) rfl (fun K' hK => ?_)
      go_simp
      refine hK.out _ _ ?_
      clear hK K'
      try simp only [Act.put, List.setIfInBounds_toArray, List.set_cons_zero, List.set_cons_succ]
      refine wpAnyF_done (by kernel_rfl) ?_ _
      clear hHeld
      have HP : Hid (Q (.returned (.bool true)) U6) := by
        show Q _ _
        rw [HQ.out]
        exact ⟨rfl, h6.we⟩
      clear h6 kp6 kq6 hph lpl hph3 lpl3 HQ
      try go_wp2_with fail
      try (first | go_ret | go_ret2 | go_ret3 | go_end0)
      exact HP.out
    have hkn' : (k : Int) < (n5 : Int) := by omega
    have p0 : (0 : Int) ≤ (k : Int) := by omega
    have p2 : ((k : Int)).toNat = k := by omega
    obtain ⟨j, hj⟩ : ∃ j, acc[k]? = some j := ⟨_, List.getElem?_eq_getElem (by rw [← HML.out.2.1]; exact hkn)⟩
    have hjl := HRP.out.lt j (List.mem_of_getElem? hj)
    obtain ⟨x0, b, C, hx0, ea5, kb0, hlC, hsg0⟩ := HRA.out.at hkn
    have hx0' : x0 = g j := by
      rw [List.getElem?_map, hj] at hx0
      exact (Option.some.inj hx0).symm
    subst hx0'
    obtain ⟨p, hp⟩ : ∃ p, ans[k]? = some p := ⟨_, List.getElem?_eq_getElem (by rw [HRP.out.len, ← HML.out.2.1]; exact hkn)⟩
    have hkz : k < n6 := by have := HAB.out.1; have := HRP.out.len; have := HML.out; omega
    obtain ⟨z, bz, CZ, hz, ea6, kz0, hlZ, hsgz0⟩ := HRZ.out.at hkz
    obtain ⟨rc, mv, ez, rb1, rb2, hmvl⟩ := HAB.out.2 k p z hp hz
    obtain ⟨ep, hrs0, hdt0⟩ := HRP.out.eq k j p hj hp
    rw [← hB1e, ← hB2e] at ep
    obtain ⟨hft, hT, -⟩ := HS.out.2.2.1 j hjl
    obtain ⟨x, hx⟩ : ∃ x, x = g j := ⟨_, rfl⟩
    obtain ⟨X, hX⟩ : ∃ X, X = dt j := ⟨_, rfl⟩
    have hXl : (dt j).length = (g j).txs.len := hT.1
    have hXb : X.length ≤ 65536 := by
      have h1 := sumT_mono g (show j + 1 ≤ i from hjl)
      have h2 : sumT g (j + 1) = sumT g j + (g j).txs.len := rfl
      have := HX.out.2.2
      rw [hX]
      omega
    have HNXT : Hid (rpl g dt c (acc.take (k + 1)) = (stpF B1 B2 x X).2) := by
      show _ = _
      rw [take_at hj, rpl_snoc, ← hB1e, ← hB2e, hx, hX]
    rw [← hx] at hsg0 hT ep hft
    rw [← hX] at hT ep
    have gC : k * 90 + 90 ≤ C.length := by
      have : (k + 1) * 90 ≤ n5 * 90 := Nat.mul_le_mul_right _ hkn
      omega
    have gZ : k * 92 + 92 ≤ CZ.length := by
      have : (k + 1) * 92 ≤ n6 * 92 := Nat.mul_le_mul_right _ hkz
      omega
    have kb : blk U b = some C := ((TwI.we h0).blk (blk_lt kb0)).trans kb0
    have h1 := TwI.box h0 x.enc 43
    obtain ⟨U1, hU1⟩ : ∃ U1, U1 = U.alloc (.cells x.enc.toArray 43) := ⟨_, rfl⟩
    obtain ⟨bo, hbo⟩ : ∃ bo, bo = U.heap.size := ⟨_, rfl⟩
    have hob : bo ≠ bq := by
      have := TwI.lt h0 (List.mem_cons_self ..)
      have : bq < U.heap.size := this
      omega
    rw [← hU1, ← hbo] at h1
    have h1d := h1.ext (extends_drewN (ext_Ext (Ext.refl U1)) 1)
    have ko := (h1d.at (b := bo) (C := x.enc) (by simp)).1
    have kz : blk (U1.drewN 1) bz = some CZ := ((TwI.we h1d).blk (blk_lt kz0)).trans kz0
    have kzm : ∀ {U' : World}, V.Extends U' → blk U' bz = some CZ := fun he => (he.blk (blk_lt kz0)).trans kz0
    have hst := step_any V (U1.drewN 1) d1 d2 bq [(bo, x.enc)] B1 B2 x X (h1d.sub (fun q hq => by simp only [List.mem_cons, List.not_mem_nil, or_false] at hq ⊢; rcases hq with rfl | rfl <;> simp)) (fun q hq => by
      simp only [List.mem_cons, List.not_mem_nil, or_false] at hq
      rcases hq with rfl
      exact hob) (hB1.1.sti x.gas X (by have := HX.out.2.2; omega)) (hT.ext (by first | exact (Kp.TwJ.we H0.out) | exact (Kp.TwJ.we (H0.out : Kp.TwJ _ _ _ _ _ _ _))))
    have hrs1 : ∀ r ∈ p.rs, okReceipt r := fun r hr => by unfold okReceipt; rw [hrs0 r hr]; omega
    have hdt1 : okDetail p.det := by unfold okDetail; rw [hdt0]; omega
    have HEP := hid_of ep
    have HRB : Hid (RowB bx Receipt.enc 120 rc p.rs ∧ RowB bx Move.enc 4 mv p.mv) := ⟨rb1, rb2⟩
    have HOKA : Hid ((∀ r ∈ p.rs, okReceipt r) ∧ okDetail p.det ∧ p.mv.length ≤ 1000000000) := ⟨hrs1, hdt1, hmvl⟩
    have HKZ : Hid (∀ U' : World, V.Extends U' → blk U' bz = some CZ) := fun U' he => kzm he
    have HK5 := hid_of hkn
    have hk9 : (k : Int) + 1 ≤ 65537 := by have := HML.out.1; omega
    have hkz' : (k : Int) < (n6 : Int) := by omega
    rw [ez] at hsgz0
    obtain ⟨A2, hA2⟩ : ∃ A2, A2 = ansO p rc mv := ⟨_, rfl⟩
    rw [← hA2] at hsgz0
    have HA2 := hid_of hA2
    have HU1 := hid_of hU1
    have HBO := hid_of hbo
    subst ea5
    subst ea6
    clear hj hp hz hx0 ez rb1 rb2 ep hrs0 hdt0 hrs1 hdt1 hmvl hT hft hx hX hXl hXb hU1 hbo hB1 hB2 hB1e hB2e hm h0 h1 hkn hk hjl hlC hlZ hkz kzm kb0 kz0 hA2 hob
    go_upto_region 19 with fail
    rw [← HU1.out, ← HBO.out]
    clear HU1 HBO kb hsg0 gC
    repeat go_step
    refine wp_region_F 7 (fun W' => blk W' bo = some x.enc ∧ blk W' bz = some CZ) (by kernel_rfl) ⟨ko, kz⟩ (fun hHeld => ?_)
    refine wpAnyF_take (i := 0) (oi := ⟨_, _, _, _, _, _⟩) (v := ?_) rfl (by kernel_rfl) (by kernel_rfl) (by kernel_rfl) (by kernel_rfl) (by kernel_rfl) (fun _ _ _ h => h) (Or.inl ⟨by rfl, ?_⟩) (by assumption) ?_
    rotate_left 1
    · intro W' hSw
      obtain ⟨hS1, hS2⟩ := hSw
      go_simp
      try with_reducible rfl
    try simp only [Act.put, List.setIfInBounds_toArray, List.set_cons_zero, List.set_cons_succ]
    refine wpAnyF_take (i := 2) (oi := ⟨_, _, _, _, _, _⟩) (v := ?_) rfl (by kernel_rfl) (by kernel_rfl) (by kernel_rfl) (by kernel_rfl) (by kernel_rfl) (fun _ _ _ h => h) (Or.inl ⟨by rfl, ?_⟩) (by assumption) ?_
    rotate_left 1
    · intro W' hSw
      obtain ⟨hS1, hS2⟩ := hSw
      go_simp
      try with_reducible rfl
    try simp only [Act.put, List.setIfInBounds_toArray, List.set_cons_zero, List.set_cons_succ]
    refine wpAnyF_take (i := 3) (oi := ⟨_, _, _, _, _, _⟩) (v := ?_) rfl (by kernel_rfl) (by kernel_rfl) (by kernel_rfl) (by kernel_rfl) (by kernel_rfl) (fun _ _ _ h => h) (Or.inl ⟨by rfl, ?_⟩) (by assumption) ?_
    rotate_left 1
    · intro W' hSw
      obtain ⟨hS1, hS2⟩ := hSw
      go_simp
      try with_reducible rfl
    try simp only [Act.put, List.setIfInBounds_toArray, List.set_cons_zero, List.set_cons_succ]
    refine wpAnyF_take (i := 4) (oi := ⟨_, _, _, _, _, _⟩) (v := ?_) rfl (by kernel_rfl) (by kernel_rfl) (by kernel_rfl) (by kernel_rfl) (by kernel_rfl) (fun _ _ _ h => h) (Or.inl ⟨by rfl, ?_⟩) (by assumption) ?_
    rotate_left 1
    · intro W' hSw
      obtain ⟨hS1, hS2⟩ := hSw
      go_simp
      try with_reducible rfl
    try simp only [Act.put, List.setIfInBounds_toArray, List.set_cons_zero, List.set_cons_succ]
    refine wpAnyF_take (i := 5) (oi := ⟨_, _, _, _, _, _⟩) (v := ?_) rfl (by kernel_rfl) (by kernel_rfl) (by kernel_rfl) (by kernel_rfl) (by kernel_rfl) (fun _ _ _ h => h) (Or.inl ⟨by rfl, ?_⟩) (by assumption) ?_
    rotate_left 1
    · intro W' hSw
      obtain ⟨hS1, hS2⟩ := hSw
      go_simp
      try with_reducible rfl
    try simp only [Act.put, List.setIfInBounds_toArray, List.set_cons_zero, List.set_cons_succ]
    refine wpAnyF_one (o := ⟨_, _, _, _, _, _⟩) (i := 1) (by kernel_rfl) rfl rfl (fun K' hK => ?_)
    go_simp
    refine hst.mono ?_
    clear hst
    rintro e U5 ⟨rc', mv', e1, e2, bx'', rfl, h5, -, hR5, hV5⟩
    dsimp only
    have h6 : TwI V e1 e2 _ _ _ U5 := h5
    have ko6 := (h6.at (b := bo) (C := x.enc) (by simp)).1
    have kz6 := HKZ.out U5 h6.we
    refine hK.out _ _ ⟨ko6, kz6⟩ (fun hHeld => ?_)
    clear hK K'
    try simp only [Act.put, List.setIfInBounds_toArray, List.set_cons_zero, List.set_cons_succ]
    have hRr := hR5.rw (V := U5) (fun q hq => (h6.at (by simp [hq])).1)
    have hVr := hV5.rw (V := U5) (fun q hq => (h6.at (by simp [hq])).1)
    rw [← HEP.out] at hR5 hV5 hRr hVr ⊢
    have hRz := HRB.out.1.rw (V := U5) (fun q hq => (h6.we.blk (blk_lt ((Kp.TwJ.at H0.out (List.mem_cons_of_mem _ hq)).1))).trans (Kp.TwJ.at H0.out (List.mem_cons_of_mem _ hq)).1)
    have hVz := HRB.out.2.rw (V := U5) (fun q hq => (h6.we.blk (blk_lt ((Kp.TwJ.at H0.out (List.mem_cons_of_mem _ hq)).1))).trans (Kp.TwJ.at H0.out (List.mem_cons_of_mem _ hq)).1)
    have el1 : rc.len = rc'.len := HRB.out.1.1.symm.trans hR5.1
    have el2 : mv.len = mv'.len := HRB.out.2.1.symm.trans hV5.1
    obtain ⟨qa, qn, qc⟩ := rc
    obtain ⟨ra, rn, rcc⟩ := rc'
    obtain ⟨ya, yn, yc⟩ := mv
    obtain ⟨va, vn, vc⟩ := mv'
    dsimp only at el1 el2 hRr hVr hRz hVz
    subst el1
    subst el2
    have hsa := sameAns_any U5 p ra va qa ya qn rcc yn vc qc yc hRr hVr hRz hVz ⟨by have := HRB.out.1.2.1; have := HRB.out.1.2.2.1; exact Nat.le_trans (by assumption) (by assumption), by have := HRB.out.2.1; have := HOKA.out.2.2; dsimp only at *; omega⟩ HOKA.out.1 HOKA.out.2.1
    rw [← HA2.out] at hsa
    clear hRr hVr hRz hVz hR5 hV5
    refine wpAnyF_one (o := ⟨_, _, _, _, _, _⟩) (i := 6) (by kernel_rfl) rfl rfl (fun K' hK => ?_)
    go_simp
    refine hsa.mono ?_
    clear hsa
    rintro e U7 ⟨rfl, hx7⟩
    dsimp only
    have h7 := h6.ext hx7
    clear hx7
    have ko7 := (h7.at (b := bo) (C := x.enc) (by simp)).1
    have kz7 := HKZ.out U7 h7.we
    refine hK.out _ _ ⟨ko7, kz7⟩ (fun hHeld => ?_)
    clear hK K'
    try simp only [Act.put, List.setIfInBounds_toArray, List.set_cons_zero, List.set_cons_succ]
    refine wpAnyF_last (o := ⟨_, _, _, _, _, _⟩) (by kernel_rfl) rfl (fun K' hK => ?_)
    go_simp
    refine hK.out _ _ ?_
    clear hK K'
    try simp only [Act.put, List.setIfInBounds_toArray, List.set_cons_zero, List.set_cons_succ]
    refine wpAnyF_done (by kernel_rfl) ?_ _
    clear hHeld
    have HJ : Hid (∃ d1 d2, PlI V d1 d2 bq [] (rpl g dt c (acc.take (k + 1))).1 (rpl g dt c (acc.take (k + 1))).2 U7) := by
      rw [HNXT.out]
      exact ⟨e1, e2, h7.sub (fun q hq => by rw [List.mem_singleton.1 hq]; simp)⟩
    clear h7 h6 h5 ko7 kz7 ko6 kz6
    go_wp2_with fail
    refine ⟨rfl, rfl, ⟨rfl, rfl, rfl, rfl, rfl, k + 1, HK5.out, ?_, HJ⟩, ?_⟩
    · show Value.int .i64 _ = _
      go_num
    · show n5 - (intOf (Value.int .i64 _)).toNat < n5 - (intOf (F2 44)).toNat
      rw [H44.out]
      have := HK5.out
      simp [intOf]; omega
  have hin' : (i : Int) < (len : Int) := by omega
  have p0 : (0 : Int) ≤ (i : Int) := by omega
  have p2 : ((i : Int)).toNat = i := by omega
  obtain ⟨b, o, C, ha, kb0, hlen, hseg⟩ := HS.out.2.2.2 (by omega)
  have hsg := hseg i hin
  have kb : blk V b = some C := ((Kp.TwJ.we h0).blk (blk_lt kb0)).trans kb0
  obtain ⟨hft, hT, -⟩ := HS.out.2.2.1 i hin
  have g90 : o + i * 90 + 90 ≤ C.length := by omega
  have hsum : len + sumT g len ≤ 65536 := HR.out
  have hsm := sumT_mono g (show i + 1 ≤ len from hin)
  have hsi : sumT g (i + 1) = sumT g i + (g i).txs.len := rfl
  have hXl : (dt i).length = (g i).txs.len := hT.1
  obtain ⟨x, hx⟩ : ∃ x, x = g i := ⟨_, rfl⟩
  rw [← hx] at hsg hft hT hsi hXl
  obtain ⟨X, hX⟩ : ∃ X, X = dt i := ⟨_, rfl⟩
  rw [← hX] at hT hXl
  have h1 := Kp.TwJ.box h0 x.enc 43
  obtain ⟨V1', hV1⟩ : ∃ V1', V1' = V.alloc (.cells x.enc.toArray 43) := ⟨_, rfl⟩
  obtain ⟨bo, hbo⟩ : ∃ bo, bo = V.heap.size := ⟨_, rfl⟩
  obtain ⟨pl1, hpl⟩ : ∃ pl1, pl1 = Player.mk (some ⟨b1, 0, none⟩) (some ⟨b2, 0, none⟩) := ⟨_, rfl⟩
  have hob : bo ≠ bp := by
    have := Kp.TwJ.lt h0 (List.mem_cons_self ..)
    have : bp < V.heap.size := this
    omega
  rw [← hV1, ← hbo, ← hpl] at h1
  have hph : nth pl1.enc 0 = some (.pointer (some ⟨b1, 0, none⟩)) := by rw [hpl]; exact Player.hand_get _
  have lpl : pl1.enc.length = 2 := Player.length_enc _
  have hi9 : (i : Int) + 1 ≤ 65537 := by omega
  have HV1 := hid_of hV1
  have HBO := hid_of hbo
  have HPL := hid_of hpl
  have HOB := hid_of hob
  have HN : Hid (i < len ∧ n + X.length + 1 ≤ (i + 1) + sumT g (i + 1) ∧ (i + 1) + sumT g (i + 1) ≤ 65536) := ⟨hin, by omega, by omega⟩
  have HT := hid_of hT
  have HI1 := hid_of hI1
  have HI2 := hid_of hI2
  have HGX : Hid (x = g i ∧ X = dt i ∧ X.length = (g i).txs.len) := ⟨hx, hX, by rw [hXl, hx]⟩
  have ko := (h1.at (b := bo) (C := x.enc) (by simp)).1
  have kp := (h1.at (b := bp) (C := pl1.enc) (by simp)).1
  subst ha
  clear hin hi hseg kb0 hft hsum hsm hsi hXl hV1 hbo hx hX h0 hn hpl hob hT hI1 hI2
  go_upto_region 10 with fail
  rw [← HV1.out, ← HBO.out]
  clear HV1 HBO kb hsg g90 hlen
  have HH : Hid ((LI (n + (X.length + 1)) (stpF L1 L2 x X).2.1 ∧ CI (stpF L1 L2 x X).2.1) ∧ (LI (n + (X.length + 1)) (stpF L1 L2 x X).2.2 ∧ CI (stpF L1 L2 x X).2.2)) := stpF_sound HI1.out HI2.out (by have := HN.out.2; omega)
  have hlv := rows_lt hra hrz
  have hst := Kp.stepJ_any ⟨V0', [], Kp.obL V [.slice a5 n5 c5, .slice a6 n6 c6]⟩ V1' b1 b2 bp ((bo, x.enc) :: bx) L1 L2 x X (by
    show Kp.TwJ _ _ _ _ _ _ _
    rw [← HPL.out]
    exact h1.sub (fun p hp => by
      simp only [List.mem_cons] at hp ⊢
      rcases hp with rfl | rfl | hp
      · simp
      · simp
      · simp [hp])) (fun p hp => by
    rcases List.mem_cons.1 hp with rfl | hp
    · exact HOB.out
    · exact hbp p hp) (HI1.out.1.sti x.gas X (by have := HN.out.2; omega)) HT.out
  have HREF : Hid ((stpF L1 L2 x X).1.code ≠ 0 → RpI g dt c (i + 1) (stpF L1 L2 x X).2.1 (stpF L1 L2 x X).2.2 acc ans) := fun hc => by
    have hr := RpI.ref (n := n) hRP HI1.out.1 (by rw [← HGX.out.2.1]; have := HN.out.2; omega)
    rw [← HGX.out.1, ← HGX.out.2.1] at hr
    exact hr hc
  have HACP : Hid ((stpF L1 L2 x X).1.code = 0 → RpI g dt c (i + 1) (stpF L1 L2 x X).2.1 (stpF L1 L2 x X).2.2 (acc ++ [i]) (ans ++ [(stpF L1 L2 x X).1])) := fun hc => by
    have hst1 : sumT g (i + 1) = sumT g i + (g i).txs.len := rfl
    have h22 := HGX.out.2.2
    have hr := RpI.acp (n := n) hRP HI1.out (by rw [← HGX.out.2.1]; have := HN.out.2; omega) (by rw [← HGX.out.2.1]; exact h22) (by rw [← HGX.out.2.1]; have := HN.out.2; omega)
    rw [← HGX.out.1, ← HGX.out.2.1] at hr
    exact hr hc
  have HMVL := hid_of (stp_mv L1 L2 x X)
  obtain ⟨sr, hsr⟩ : ∃ sr, sr = stpF L1 L2 x X := ⟨_, rfl⟩
  rw [← hsr] at hst HH HREF HACP HMVL
  have HI9 := hid_of hi9
  have HRA := hid_of hra
  have HRZ := hid_of hrz
  have HLV := hid_of hlv
  have HAB := hid_of hAB
  have HAL := hid_of hRP.al
  have hbpl : bp < V1'.heap.size := h1.lt (p := (bp, pl1.enc)) (by simp)
  have HBP : Hid ((∀ p ∈ bx, p.1 ≠ bp) ∧ bp < V1'.heap.size) := ⟨hbp, hbpl⟩
  clear hsr h1 hi9 hph lpl kp hra hrz hlv hAB hRP hbp hbpl
  go_wp2_with fail
  refine hst.mono ?_
  clear hst ko
  rintro e V5 ⟨rc, mv, d1, d2, bx', rfl, h5, hnew, hRR, hMM⟩
  dsimp only
  obtain ⟨A, hA⟩ : ∃ A, A = ansO sr.1 rc mv := ⟨_, rfl⟩
  obtain ⟨cd, hcd⟩ : ∃ cd, cd = sr.1.code := ⟨_, rfl⟩
  have na0 : nth A.enc 0 = some (.int .i64 cd) := by rw [Answer.code_get, hA, hcd]; rfl
  have la : A.enc.length = 92 := Answer.length_enc A
  rw [← hA]
  obtain ⟨pl2, hpl2⟩ : ∃ pl2, pl2 = Player.mk (some ⟨d1, 0, none⟩) (some ⟨d2, 0, none⟩) := ⟨_, rfl⟩
  have h5' : Kp.TwJ _ d1 d2 ((bp, (Player.mk (some ⟨d1, 0, none⟩) (some ⟨d2, 0, none⟩)).enc) :: (bx' ++ ((bo, x.enc) :: bx))) sr.2.1 sr.2.2 V5 := h5
  have h6 := h5'.box A.enc 56
  obtain ⟨V6, hV6⟩ : ∃ V6, V6 = V5.alloc (.cells A.enc.toArray 56) := ⟨_, rfl⟩
  obtain ⟨ba, hba⟩ : ∃ ba, ba = V5.heap.size := ⟨_, rfl⟩
  rw [← hV6, ← hba] at h6
  have hab : ba ≠ bp := by
    have : bp < V5.heap.size := h5'.lt (p := (bp, (Player.mk (some ⟨d1, 0, none⟩) (some ⟨d2, 0, none⟩)).enc)) (by simp)
    omega
  obtain ⟨bs, hbs⟩ : ∃ bs, bs = (ba, A.enc) :: (bx' ++ ((bo, x.enc) :: bx)) := ⟨_, rfl⟩
  have HM : Hid ((bo, x.enc) ∈ bs ∧ (ba, A.enc) ∈ bs ∧ (∀ p ∈ bs, p.1 ≠ bp) ∧ AnsB bs ans zs ∧ RowB bs Receipt.enc 120 rc sr.1.rs ∧ RowB bs Move.enc 4 mv sr.1.mv) := by
    rw [hbs]
    refine ⟨by simp, by simp, fun p hp => ?_, HAB.out.mono (fun p hp => by simp [hp]), hRR.mono (fun p hp => by simp [hp]), hMM.mono (fun p hp => by simp [hp])⟩
    simp only [List.mem_cons, List.mem_append] at hp
    rcases hp with rfl | hp | rfl | hp
    · exact hab
    · have := hnew p hp
      have := HBP.out.2
      omega
    · exact HOB.out
    · exact HBP.out.1 p hp
  have h7 : Kp.PlJ ⟨V0', [], Kp.obL V6 [.slice a5 n5 c5, .slice a6 n6 c6]⟩ d1 d2 bp bs sr.2.1 sr.2.2 V6 := by
    rw [hbs]
    exact Kp.TwJ.reb (h6.sub (fun p hp => by
      simp only [List.mem_cons, List.mem_append] at hp ⊢
      rcases hp with rfl | rfl | hp | rfl | hp <;> simp [*])) HLV.out
  have hra6 := h6.rowk (v := .slice a5 n5 c5) (by simp) HRA.out
  have hrz6 := h6.rowk (v := .slice a6 n6 c6) (by simp) HRZ.out
  have HV6 := hid_of hV6
  have HBA := hid_of hba
  have HCD := hid_of hcd
  have HA := hid_of hA
  have ka := (Kp.TwJ.at h7 (List.mem_cons_of_mem _ HM.out.2.1)).1
  have ko6 := (Kp.TwJ.at h7 (List.mem_cons_of_mem _ HM.out.1)).1
  have H7 := hid_of h7
  have HRA6 := hid_of hra6
  have HRZ6 := hid_of hrz6
  clear h5 h5' h6 hV6 hba hcd hA hab hbs hnew hRR hMM HRA HRZ HAB h7 hra6 hrz6 hpl2
  go_upto_region 11 with fail
  rw [← HV6.out, ← HBA.out]
  clear HV6 HBA
  by_cases hc0 : cd = 0
  · subst hc0
    have hlen5 : (acc.map g).length ≤ 1000000000 := by rw [List.length_map]; have := HAL.out; have := HN.out; omega
    obtain ⟨a5', c5', V7, hrun1, hra7, hblk7, hown7, hsz7, htw7⟩ := Kp.TwJ.app Kp.el22 H7.out (by simp) HRA6.out hlen5 x
    have h8 := htw7 [.slice a5' (n5 + 1) c5', .slice a6 n6 c6] (fun u hu => by simp only [List.mem_cons, List.not_mem_nil, or_false] at hu; rcases hu with rfl | rfl <;> simp)
    have hrz7 := row_keep HRZ6.out (fun k hk => hblk7 k (row_at HRZ6.out k hk).2.1 (row_ty HRZ6.out HRA6.out (by decide) k hk))
    have hlen6 : zs.length ≤ 1000000000 := by have h1 := HM.out.2.2.2.1.1; have h2 := (HACP.out HCD.out.symm).len; rw [List.length_append, List.length_append] at h2; have := HAL.out; have := HN.out; simp only [List.length_singleton] at h2; omega
    obtain ⟨a6', c6', V8, hrun2, hrz8, hblk8, hown8, hsz8, htw8⟩ := Kp.TwJ.app Kp.el117 h8 (by simp) hrz7 hlen6 A
    have h9 := htw8 [.slice a5' (n5 + 1) c5', .slice a6' (n6 + 1) c6'] (fun u hu => by simp only [List.mem_cons, List.not_mem_nil, or_false] at hu; rcases hu with rfl | rfl <;> simp)
    have hra8 := row_keep hra7 (fun k hk => hblk8 k (row_at hra7 k hk).2.1 (row_ty hra7 hrz7 (by decide) k hk))
    have ka7 := (h8.at (List.mem_cons_of_mem _ HM.out.2.1)).1
    have HJ : Hid (Lp7 V0' g dt c bp (i + 1) (.slice a5' (n5 + 1) c5') (.slice a6' (n6 + 1) c6') V8) := by
      refine ⟨d1, d2, sr.2.1, sr.2.2, n + (X.length + 1), acc ++ [i], ans ++ [sr.1], zs ++ [A], bs, h9, HM.out.2.2.1, ?_, hrz8, ?_, HACP.out HCD.out.symm, HH.out.1, HH.out.2, by have := HN.out.2; omega⟩
      · rw [List.map_append, List.map_singleton, ← HGX.out.1]
        exact hra8
      · rw [HA.out]
        exact HM.out.2.2.2.1.snoc HM.out.2.2.2.2.1 HM.out.2.2.2.2.2 HMVL.out
    have hi9 := HI9.out
    clear H7 HRA6 HRZ6 hra7 hblk7 hown7 hsz7 htw7 h8 hrz7 hrz8 hblk8 hown8 hsz8 htw8 h9 hra8 hlen5 hlen6
    go_wp2_with (at_builtin; first | refine wpList_append_run rfl _ _ 22 rfl _ _ _ _ rfl rfl hrun1 ?_ | refine wpList_append_run rfl _ _ 117 rfl _ _ _ _ rfl rfl hrun2 ?_)
    refine ⟨rfl, rfl, ⟨rfl, rfl, rfl, rfl, i + 1, HN.out.1, ?_, _, _, _, _, _, _, rfl, rfl, HJ⟩, ?_⟩
    · show Value.int .i64 _ = _
      go_num
    · show len - (intOf (Value.int .i64 _)).toNat < len - (intOf (F 22)).toNat
      rw [H22.out]
      have := HN.out.1
      simp [intOf]; omega
  · have hceq : (cd == 0) = false := by simp [hc0]
    have HJ : Hid (Lp7 V0' g dt c bp (i + 1) (.slice a5 n5 c5) (.slice a6 n6 c6) V6) := ⟨d1, d2, sr.2.1, sr.2.2, n + (X.length + 1), acc, ans, zs, bs, H7.out, HM.out.2.2.1, HRA6.out, HRZ6.out, HM.out.2.2.2.1, HREF.out (by rw [← HCD.out]; exact hc0), HH.out.1, HH.out.2, by have := HN.out.2; omega⟩
    have hi9 := HI9.out
    clear H7 HRA6 HRZ6 hc0
    go_wp2_with fail
    refine ⟨rfl, rfl, ⟨rfl, rfl, rfl, rfl, i + 1, HN.out.1, ?_, _, _, _, _, _, _, rfl, rfl, HJ⟩, ?_⟩
    · show Value.int .i64 _ = _
      go_num
    · show len - (intOf (Value.int .i64 _)).toNat < len - (intOf (F 22)).toNat
      rw [H22.out]
      have := HN.out.1
      simp [intOf]; omega
end Go.Proofs.Qxb6500786aGreat
