import Derived.DeepKeys2
import Derived.OwnWalk
import Derived.Test.Qxb6500786aGreatNa

import Derived.StillTailTactics
import Derived.Deep.QuietTactic
import Derived.BigQuiet
import Derived.Deep.RegionHeld
import Derived.Deep.CutRange
import Derived.Laws.ResultCell
import Derived.Laws.Rows
import Derived.DeepKeys
import Derived.DataBytes
import Derived.Laws.StructEq
import Derived.Laws.AppendOwn
import Derived.Laws.MakeOwn
import Derived.Lib.AppendStr
set_option linter.unusedSimpArgs false
set_option linter.unusedVariables false
namespace Go.Proofs.Qxb6500786aGreat
open Go.RowKit Go.Blk
attribute [local go_sem ↓] execOp_load execOp_store execOp_alloc
attribute [local go_sem] Tryz.ld24 Tryz.st24 Tryz.ld36 Tryz.st36 Tryz.ld28 Tryz.st28 Tryz.ld32 Tryz.st32 Tryz.ld33 Tryz.st33 Tryz.ld34 Tryz.st34 Tryz.ld5 Tryz.st5 Tryz.ld31 Tryz.st31 Tryz.ld30 Tryz.st30 Tryz.ld41 Tryz.st41 Tryz.ld44 Tryz.st44 Tryz.ld4 Tryz.st4 Tryz.ld173 Tryz.st173 Tryz.ld174 Tryz.st174 Tryz.ld95 Tryz.st95 Tryz.ld45 Tryz.st45 Tryz.ld207 Tryz.st207 Tryz.ld3 Tryz.st3 Tryz.ld189 Tryz.st189 Tryz.ld2 Tryz.st2 Tryz.ld9 Tryz.st9 Tryz.ld12 Tryz.st12 Tryz.ld21 Tryz.st21 Tryz.ld22 Tryz.st22 Tryz.ld46 Tryz.st46 Tryz.ld92 Tryz.st92 Tryz.ld94 Tryz.st94 Tryz.ld96 Tryz.st96 Tryz.ld97 Tryz.st97 Tryz.ld105 Tryz.st105 Tryz.ld117 Tryz.st117 Tryz.ld122 Tryz.st122 Tryz.ld123 Tryz.st123 Tryz.ld133 Tryz.st133 Tryz.ld155 Tryz.st155 Tryz.ld163 Tryz.st163 Tryz.ld190 Tryz.st190 Tryz.ld197 Tryz.st197 Tryz.ld201 Tryz.st201 Tryz.ld202 Tryz.st202 Tryz.ld209 Tryz.st209 Tryz.ld216 Tryz.st216 Tryz.ld230 Tryz.st230 Tryz.ld238 Tryz.st238 Tryz.ld242 Tryz.st242 Tryz.ld251 Tryz.st251 Tryz.ld260 Tryz.st260 Tryz.ld286 Tryz.st286 Tryz.ld292 Tryz.st292 Tryz.ld298 Tryz.st298 Tryz.ld309 Tryz.st309 Tryz.ld35 Tryz.st35 Tryz.ld48 Tryz.st48 Tryz.ld47 Tryz.st47 Tryz.ld79 Tryz.st79 Tryz.ld177 Tryz.st177 Tryz.ld180 Tryz.st180 Tryz.ld231 Tryz.st231 Tryz.ld232 Tryz.st232 Tryz.ld26 Tryz.st26 Tryz.ld38 Tryz.st38 Tryz.ld40 Tryz.st40 Tryz.ld43 Tryz.st43 Tryz.ld50 Tryz.st50 Tryz.ld52 Tryz.st52 Tryz.ld54 Tryz.st54 Tryz.ld81 Tryz.st81 Tryz.ld112 Tryz.st112 Tryz.ld120 Tryz.st120 Tryz.ld176 Tryz.st176 Tryz.ld179 Tryz.st179 Tryz.ld182 Tryz.st182 Tryz.ld184 Tryz.st184 Tryz.ld234 Tryz.st234 Tryz.ld236 Tryz.st236 Tryz.ld240 Tryz.st240 Tryz.ld246 Tryz.st246 Tryz.ld249 Tryz.st249 Tryz.al35 Tryz.al48 Tryz.al47 Tryz.al79 Tryz.al177 Tryz.al180 Tryz.al231 Tryz.al232 Tryz.al26 Tryz.al38 Tryz.al40 Tryz.al43 Tryz.al50 Tryz.al52 Tryz.al54 Tryz.al81 Tryz.al112 Tryz.al120 Tryz.al176 Tryz.al179 Tryz.al182 Tryz.al184 Tryz.al234 Tryz.al236 Tryz.al240 Tryz.al246 Tryz.al249
attribute [local go_sem] Player.length_enc Player.ok_enc Player.all_get Player.all_set Player.hand_get Player.hand_set Player.aside_get Player.aside_set Message.length_enc Message.ok_enc Message.all_get Message.all_set Message.kind_get Message.kind_set Message.from__get Message.from__set Message.to__get Message.to__set Message.sender_get Message.sender_set Message.receiver_get Message.receiver_set Message.seq_get Message.seq_set Message.token_get Message.token_set Message.amount_get Message.amount_set Message.size_get Message.size_set Message.payload_get Message.payload_set Tx.length_enc Tx.ok_enc Tx.all_get Tx.all_set Tx.kind_get Tx.kind_set Tx.chain_get Tx.chain_set Tx.from__get Tx.from__set Tx.nonce_get Tx.nonce_set Tx.fee_get Tx.fee_set Tx.to__get Tx.to__set Tx.dest_get Tx.dest_set Tx.token_get Tx.token_set Tx.amount_get Tx.amount_set Tx.size_get Tx.size_set Tx.payload_get Tx.payload_set Tx.msg_get Tx.msg_set Tx.msg_kind_get Tx.msg_kind_set Tx.msg_from__get Tx.msg_from__set Tx.msg_to__get Tx.msg_to__set Tx.msg_sender_get Tx.msg_sender_set Tx.msg_receiver_get Tx.msg_receiver_set Tx.msg_seq_get Tx.msg_seq_set Tx.msg_token_get Tx.msg_token_set Tx.msg_amount_get Tx.msg_amount_set Tx.msg_size_get Tx.msg_size_set Tx.msg_payload_get Tx.msg_payload_set GOp.length_enc GOp.ok_enc GOp.all_get GOp.all_set GOp.kind_get GOp.kind_set GOp.tx_get GOp.tx_set GOp.txs_get GOp.txs_set GOp.gas_get GOp.gas_set GOp.acct_get GOp.acct_set GOp.token_get GOp.token_set GOp.chain_get GOp.chain_set GOp.seq_get GOp.seq_set GOp.tx_kind_get GOp.tx_kind_set GOp.tx_chain_get GOp.tx_chain_set GOp.tx_from__get GOp.tx_from__set GOp.tx_nonce_get GOp.tx_nonce_set GOp.tx_fee_get GOp.tx_fee_set GOp.tx_to__get GOp.tx_to__set GOp.tx_dest_get GOp.tx_dest_set GOp.tx_token_get GOp.tx_token_set GOp.tx_amount_get GOp.tx_amount_set GOp.tx_size_get GOp.tx_size_set GOp.tx_payload_get GOp.tx_payload_set GOp.tx_msg_get GOp.tx_msg_set GOp.tx_msg_kind_get GOp.tx_msg_kind_set GOp.tx_msg_from__get GOp.tx_msg_from__set GOp.tx_msg_to__get GOp.tx_msg_to__set GOp.tx_msg_sender_get GOp.tx_msg_sender_set GOp.tx_msg_receiver_get GOp.tx_msg_receiver_set GOp.tx_msg_seq_get GOp.tx_msg_seq_set GOp.tx_msg_token_get GOp.tx_msg_token_set GOp.tx_msg_amount_get GOp.tx_msg_amount_set GOp.tx_msg_size_get GOp.tx_msg_size_set GOp.tx_msg_payload_get GOp.tx_msg_payload_set Summary.length_enc Summary.ok_enc Summary.all_get Summary.all_set Summary.height_get Summary.height_set Summary.txs_get Summary.txs_set Summary.gas_get Summary.gas_set Summary.fees_get Summary.fees_set Summary.sent_get Summary.sent_set Summary.took_get Summary.took_set Summary.minted_get Summary.minted_set Summary.burned_get Summary.burned_set Summary.root_get Summary.root_set Detail.length_enc Detail.ok_enc Detail.all_get Detail.all_set Detail.code_get Detail.code_set Detail.have__get Detail.have__set Detail.need_get Detail.need_set Slot.length_enc Slot.ok_enc Slot.all_get Slot.all_set Slot.nonce_get Slot.nonce_set Slot.balances_get Slot.balances_set Tree.length_enc Tree.ok_enc Tree.all_get Tree.all_set Tree.leaves_get Tree.leaves_set Mark.length_enc Mark.ok_enc Mark.all_get Mark.all_set Mark.from__get Mark.from__set Mark.seq_get Mark.seq_set Receipt.length_enc Receipt.ok_enc Receipt.all_get Receipt.all_set Receipt.code_get Receipt.code_set Receipt.hash_get Receipt.hash_set Receipt.index_get Receipt.index_set Receipt.gas_get Receipt.gas_set Receipt.fee_get Receipt.fee_set Receipt.hasSent_get Receipt.hasSent_set Receipt.sent_get Receipt.sent_set Receipt.hasTook_get Receipt.hasTook_set Receipt.took_get Receipt.took_set Receipt.sent_kind_get Receipt.sent_kind_set Receipt.sent_from__get Receipt.sent_from__set Receipt.sent_to__get Receipt.sent_to__set Receipt.sent_sender_get Receipt.sent_sender_set Receipt.sent_receiver_get Receipt.sent_receiver_set Receipt.sent_seq_get Receipt.sent_seq_set Receipt.sent_token_get Receipt.sent_token_set Receipt.sent_amount_get Receipt.sent_amount_set Receipt.sent_size_get Receipt.sent_size_set Receipt.sent_payload_get Receipt.sent_payload_set Receipt.took_kind_get Receipt.took_kind_set Receipt.took_from__get Receipt.took_from__set Receipt.took_to__get Receipt.took_to__set Receipt.took_sender_get Receipt.took_sender_set Receipt.took_receiver_get Receipt.took_receiver_set Receipt.took_seq_get Receipt.took_seq_set Receipt.took_token_get Receipt.took_token_set Receipt.took_amount_get Receipt.took_amount_set Receipt.took_size_get Receipt.took_size_set Receipt.took_payload_get Receipt.took_payload_set Store.length_enc Store.ok_enc Store.all_get Store.all_set Store.now_get Store.now_set Store.saved_get Store.saved_set GState.length_enc GState.ok_enc GState.all_get GState.all_set GState.kv_get GState.kv_set GState.tree_get GState.tree_set GState.stale_get GState.stale_set GState.touched_get GState.touched_set GState.kv_now_get GState.kv_now_set GState.kv_saved_get GState.kv_saved_set GState.tree_leaves_get GState.tree_leaves_set History.length_enc History.ok_enc History.all_get History.all_set History.ring_get History.ring_set History.closed_get History.closed_set Ledger.length_enc Ledger.ok_enc Ledger.all_get Ledger.all_set Ledger.chain_get Ledger.chain_set Ledger.st_get Ledger.st_set Ledger.height_get Ledger.height_set Ledger.open__get Ledger.open__set Ledger.gasLimit_get Ledger.gasLimit_set Ledger.past_get Ledger.past_set Ledger.begun_get Ledger.begun_set Ledger.sent_get Ledger.sent_set Ledger.took_get Ledger.took_set Ledger.receipts_get Ledger.receipts_set Ledger.st_kv_get Ledger.st_kv_set Ledger.st_tree_get Ledger.st_tree_set Ledger.st_stale_get Ledger.st_stale_set Ledger.st_touched_get Ledger.st_touched_set Ledger.st_kv_now_get Ledger.st_kv_now_set Ledger.st_kv_saved_get Ledger.st_kv_saved_set Ledger.st_tree_leaves_get Ledger.st_tree_leaves_set Ledger.past_ring_get Ledger.past_ring_set Ledger.past_closed_get Ledger.past_closed_set Ledger.begun_kv_get Ledger.begun_kv_set Ledger.begun_tree_get Ledger.begun_tree_set Ledger.begun_stale_get Ledger.begun_stale_set Ledger.begun_touched_get Ledger.begun_touched_set Ledger.begun_kv_now_get Ledger.begun_kv_now_set Ledger.begun_kv_saved_get Ledger.begun_kv_saved_set Ledger.begun_tree_leaves_get Ledger.begun_tree_leaves_set Purse.length_enc Purse.ok_enc Purse.all_get Purse.all_set Purse.st_get Purse.st_set Purse.n_get Purse.n_set Purse.account_get Purse.account_set Purse.token_get Purse.token_set Purse.amount_get Purse.amount_set Plan.length_enc Plan.ok_enc Plan.all_get Plan.all_set Plan.purse_get Plan.purse_set Plan.nonce_get Plan.nonce_set Plan.gasUsed_get Plan.gasUsed_set Plan.fees_get Plan.fees_set Plan.hasSupply_get Plan.hasSupply_set Plan.token_get Plan.token_set Plan.supply_get Plan.supply_set Plan.flowAt_get Plan.flowAt_set Plan.flow_get Plan.flow_set Plan.receipt_get Plan.receipt_set Plan.purse_st_get Plan.purse_st_set Plan.purse_n_get Plan.purse_n_set Plan.purse_account_get Plan.purse_account_set Plan.purse_token_get Plan.purse_token_set Plan.purse_amount_get Plan.purse_amount_set Plan.receipt_code_get Plan.receipt_code_set Plan.receipt_hash_get Plan.receipt_hash_set Plan.receipt_index_get Plan.receipt_index_set Plan.receipt_gas_get Plan.receipt_gas_set Plan.receipt_fee_get Plan.receipt_fee_set Plan.receipt_hasSent_get Plan.receipt_hasSent_set Plan.receipt_sent_get Plan.receipt_sent_set Plan.receipt_hasTook_get Plan.receipt_hasTook_set Plan.receipt_took_get Plan.receipt_took_set Plan.receipt_sent_kind_get Plan.receipt_sent_kind_set Plan.receipt_sent_from__get Plan.receipt_sent_from__set Plan.receipt_sent_to__get Plan.receipt_sent_to__set Plan.receipt_sent_sender_get Plan.receipt_sent_sender_set Plan.receipt_sent_receiver_get Plan.receipt_sent_receiver_set Plan.receipt_sent_seq_get Plan.receipt_sent_seq_set Plan.receipt_sent_token_get Plan.receipt_sent_token_set Plan.receipt_sent_amount_get Plan.receipt_sent_amount_set Plan.receipt_sent_size_get Plan.receipt_sent_size_set Plan.receipt_sent_payload_get Plan.receipt_sent_payload_set Plan.receipt_took_kind_get Plan.receipt_took_kind_set Plan.receipt_took_from__get Plan.receipt_took_from__set Plan.receipt_took_to__get Plan.receipt_took_to__set Plan.receipt_took_sender_get Plan.receipt_took_sender_set Plan.receipt_took_receiver_get Plan.receipt_took_receiver_set Plan.receipt_took_seq_get Plan.receipt_took_seq_set Plan.receipt_took_token_get Plan.receipt_took_token_set Plan.receipt_took_amount_get Plan.receipt_took_amount_set Plan.receipt_took_size_get Plan.receipt_took_size_set Plan.receipt_took_payload_get Plan.receipt_took_payload_set Move.length_enc Move.ok_enc Move.all_get Move.all_set Move.account_get Move.account_set Move.token_get Move.token_set Move.down_get Move.down_set Move.amount_get Move.amount_set Books.length_enc Books.ok_enc Books.all_get Books.all_set Books.sums_get Books.sums_set Books.stored_get Books.stored_set Books.marks_get Books.marks_set Pair.length_enc Pair.ok_enc Pair.all_get Pair.all_set Pair.key_get Pair.key_set Pair.value_get Pair.value_set
attribute [local go_sem] size_put size_ext blk_put free_put blk_alloc free_alloc blk_drew free_drew blk_ext free_ext lookOr_some putOr_some segAt_some cellAt_some storeIn_some put_put put_alloc_new length_arr ok_arr_u8 ok_arr_u32 ok_arr_u64 ok_arr_i64 ok_arr_sl cellsV_agg cellsV_int cellsV_bool cellsV_string cellsV_pointer cellsV_slice cellsV_sl ok_int ok_bool ok_string ok_pointer ok_slice ok_sl toList_arr seg_arr set_arr nth_splice nth_splice0 seg_splice seg_splice0 splice_splice splice_splice0 length_splice_if
attribute [local go_sem ↓] execOp_box
attribute [local go_sem] box_run nth_arr_u8 put_arr_u8 blk_drewN free_drewN put_drewN blk_raw free_raw
attribute [local go_sem] Tryz.ld56 Tryz.st56 Tryz.ld91 Tryz.st91 Tryz.al56 Tryz.al91 Answer.length_enc Answer.ok_enc Answer.all_get Answer.all_set Answer.code_get Answer.code_set Answer.receipts_get Answer.receipts_set Answer.moves_get Answer.moves_set Answer.failed_get Answer.failed_set Answer.value_get Answer.value_set Answer.yes_get Answer.yes_set Answer.root_get Answer.root_set Answer.summary_get Answer.summary_set Answer.detail_get Answer.detail_set Answer.slot_get Answer.slot_set Answer.summary_height_get Answer.summary_height_set Answer.summary_txs_get Answer.summary_txs_set Answer.summary_gas_get Answer.summary_gas_set Answer.summary_fees_get Answer.summary_fees_set Answer.summary_sent_get Answer.summary_sent_set Answer.summary_took_get Answer.summary_took_set Answer.summary_minted_get Answer.summary_minted_set Answer.summary_burned_get Answer.summary_burned_set Answer.summary_root_get Answer.summary_root_set Answer.detail_code_get Answer.detail_code_set Answer.detail_have__get Answer.detail_have__set Answer.detail_need_get Answer.detail_need_set Answer.slot_nonce_get Answer.slot_nonce_set Answer.slot_balances_get Answer.slot_balances_set Block.length_enc Block.ok_enc Block.all_get Block.all_set Block.gasLimit_get Block.gasLimit_set Block.txs_get Block.txs_set
/-- Two ledgers in memory made since W, and boxes beside them. -/
def TwI (W : World) (b1 b2 : Nat) (bx : List (Nat × List Value)) (L1 L2 : PLg) (V : World) : Prop := b1 ≠ b2 ∧ ∃ O : Own, W.Extends V ∧ (∀ k, k < W.heap.size → O k = .no) ∧ LedA O V b1 L1 ∧ LedA O V b2 L2 ∧ ∀ p ∈ bx, blk V p.1 = some p.2 ∧ free V p.1 = true ∧ O p.1 = .no ∧ W.heap.size ≤ p.1
section
variable {W V V' : World} {b1 b2 : Nat} {bx : List (Nat × List Value)} {L1 L2 L' : PLg}
theorem lgP_ne {a b : Nat} (h : a ≠ b) (l : Lab) (hl : lgP a l) : ¬ lgP b l := by
  rintro ⟨j, e⟩
  obtain ⟨i, e2⟩ := hl
  rw [e2] at e
  exact h (Lab.a.inj e).1
theorem TwI.ext (h : TwI W b1 b2 bx L1 L2 V) (he : V.Extends V') : TwI W b1 b2 bx L1 L2 V' := by
  obtain ⟨h0, O, h1, h2, h3, h4, h5⟩ := h
  refine ⟨h0, lab O V.heap.size .no, h1.trans he, fun k hk => (lab_lt (Nat.lt_of_lt_of_le hk h1.size)).trans (h2 k hk), h3.ext he, h4.ext he, fun p hp => ?_⟩
  obtain ⟨g1, g2, g3, g4⟩ := h5 p hp
  exact ⟨(he.blk (blk_lt g1)).trans g1, (free_of_heap (he.block _ (blk_lt g1))).trans g2, (lab_lt (blk_lt g1)).trans g3, g4⟩
theorem TwI.swap (h : TwI W b1 b2 bx L1 L2 V) : TwI W b2 b1 bx L2 L1 V := by
  obtain ⟨h0, O, h1, h2, h3, h4, h5⟩ := h
  exact ⟨h0.symm, O, h1, h2, h4, h3, h5⟩
/-- A function of the first ledger runs. -/
theorem TwI.call {f : FuncId} {args : Array Value} {R : Ending → Prop} (h : TwI W b1 b2 bx L1 L2 V) (hc : ∀ O, LedA O V b1 L1 → (∀ k, k < W.heap.size → O k = .no) → (∀ p ∈ bx, O p.1 = .no) → Calls Tryz.prog f args V (fun e V' => R e ∧ ∃ O', LedA O' V' b1 L' ∧ Lg (lgP b1) O V O' V')) : Calls Tryz.prog f args V (fun e V' => R e ∧ TwI W b1 b2 bx L' L2 V') := by
  obtain ⟨h0, O, h1, h2, h3, h4, h5⟩ := h
  refine (hc O h3 h2 (fun p hp => (h5 p hp).2.2.1)).mono ?_
  rintro e V' ⟨hr, O', g1, g2⟩
  refine ⟨hr, h0, O', g2.extends h1 (fun k hk => by rw [h2 k hk]; exact lgP_no b1), fun k hk => ?_, g1, ?_, fun p hp => ?_⟩
  · rw [(g2.keep k (Nat.lt_of_lt_of_le hk h1.size) (by rw [h2 k hk]; exact lgP_no b1)).1]; exact h2 k hk
  · obtain ⟨sn, ss, bn, ms, mt, mr, q⟩ := h4
    exact ⟨sn, ss, bn, ms, mt, mr, q.lg g2 (fun l hl => lgP_ne h0.symm l hl)⟩
  · obtain ⟨q1, q2, q3, q4⟩ := h5 p hp
    have nn : ¬ lgP b1 (O p.1) := by rw [q3]; exact lgP_no b1
    exact ⟨g2.blk q1 nn, g2.free q1 q2 nn, (g2.lab q1 nn).trans q3, q4⟩
theorem TwI.box (h : TwI W b1 b2 bx L1 L2 V) (C : List Value) (ty : TypeId) : TwI W b1 b2 ((V.heap.size, C) :: bx) L1 L2 (V.alloc (.cells C.toArray ty)) := by
  have he : V.Extends (V.alloc (.cells C.toArray ty)) := extends_alloc (ext_Ext (Ext.refl _)) _
  obtain ⟨h0, O, h1, h2, h3, h4, h5⟩ := h
  refine ⟨h0, lab O V.heap.size .no, h1.trans he, fun k hk => (lab_lt (Nat.lt_of_lt_of_le hk h1.size)).trans (h2 k hk), h3.ext he, h4.ext he, fun p hp => ?_⟩
  rcases List.mem_cons.1 hp with rfl | hp
  · exact ⟨by rw [blk_alloc, if_pos rfl], by rw [free_alloc, if_pos rfl], lab_ge (Nat.le_refl _), h1.size⟩
  · obtain ⟨g1, g2, g3, g4⟩ := h5 p hp
    exact ⟨(he.blk (blk_lt g1)).trans g1, (free_of_heap (he.block _ (blk_lt g1))).trans g2, (lab_lt (blk_lt g1)).trans g3, g4⟩
theorem TwI.at (h : TwI W b1 b2 bx L1 L2 V) {b : Nat} {C : List Value} (hp : (b, C) ∈ bx) : blk V b = some C ∧ free V b = true := by
  obtain ⟨h0, O, h1, h2, h3, h4, h5⟩ := h
  exact ⟨(h5 _ hp).1, (h5 _ hp).2.1⟩
theorem TwI.sub {bx' : List (Nat × List Value)} (h : TwI W b1 b2 bx L1 L2 V) (hs : ∀ p ∈ bx', p ∈ bx) : TwI W b1 b2 bx' L1 L2 V := by
  obtain ⟨h0, O, h1, h2, h3, h4, h5⟩ := h
  exact ⟨h0, O, h1, h2, h3, h4, fun p hp => h5 p (hs p hp)⟩
theorem TwI.we (h : TwI W b1 b2 bx L1 L2 V) : W.Extends V := by
  obtain ⟨h0, O, h1, h2, h3, h4, h5⟩ := h
  exact h1
theorem TwI.rd2 (h : TwI W b1 b2 bx L1 L2 V) : Rd2 b1 b2 L1 L2 V := by
  obtain ⟨h0, O, h1, h2, h3, h4, h5⟩ := h
  exact ⟨⟨O, h3⟩, O, h4⟩
theorem TwI.root (h : TwI W b1 b2 bx L1 L2 V) : Calls Tryz.prog 41 #[.pointer (some ⟨b1, 0, none⟩)] V (fun e V' => e = .returned (.agg (arr u8v (rootD L1.st)).toArray) ∧ TwI W b1 b2 bx (rotL L1) L2 V') := h.call (R := fun e => e = .returned (.agg (arr u8v (rootD L1.st)).toArray)) (fun O hO _ _ => (root41_any O V b1 L1 hO).mono (fun e V' q => q))
theorem TxsL.of_in {P : Lab → Prop} {O : Own} {s : Sl} {X : List Tx} (h : TxsIn W s X) (he : W.Extends V) (hO : ∀ k, k < W.heap.size → O k = .no) (hP : ¬ P .no) : TxsL P O V s X := by
  obtain ⟨t1, t2, t3, t4⟩ := h
  refine ⟨t1, t2, t3, fun hn => ?_⟩
  obtain ⟨b, o, C, g1, g2, g3, g4⟩ := t4 hn
  exact ⟨b, o, C, g1, (he.blk (blk_lt g2)).trans g2, by rw [hO b (blk_lt g2)]; exact hP, g3, g4⟩
theorem TxsL.none {P : Lab → Prop} {O : Own} : TxsL P O V ⟨Option.none, 0, 0⟩ [] := ⟨rfl, Nat.le_refl _, Nat.zero_le _, fun h => absurd rfl h⟩
/-- A step of the kind block, of two ledgers the first. -/
theorem TwI.step {bp : Nat} {pa : Option Addr} (h : TwI W b1 b2 bx L1 L2 V) (hp : (bp, (Player.mk (some ⟨b1, 0, none⟩) pa).enc) ∈ bx) (g : GOp) (X : List Tx) (hk : g.kind = 18) (hx : ExOk L1 g.gas X) (hT : TxsIn W g.txs X) : Calls Tryz.prog 18 #[.pointer (some ⟨bp, 0, none⟩), .agg g.enc.toArray] V (fun e V' => (∃ ans : Answer, e = .returned (.agg ans.enc.toArray) ∧ ans.code = (exeF L1 g.gas X).1.code) ∧ TwI W b1 b2 bx (exeF L1 g.gas X).2 L2 V') := by
  have hw := h.we
  have hb := (h.at hp).1
  refine h.call (fun O hO h2 h3 => ?_)
  refine (stepB_any O V bp b1 pa L1 g X hb (by rw [h3 _ hp]; exact lgP_no b1) hO hk hx (TxsL.of_in hT hw h2 (lgP_no b1))).mono ?_
  rintro e V' ⟨ans, q1, q2, q3⟩
  exact ⟨⟨ans, q1, q2⟩, q3⟩
/-- Replay of one block and an empty one. -/
theorem TwI.replay {bb c : Nat} (h : TwI W b1 b2 bx L1 L2 V) (g : UInt64) (s : Sl) (X : List Tx) (hb : (bb, (Block.mk g s).enc ++ (Block.mk 1 ⟨Option.none, 0, 0⟩).enc) ∈ bx) (hR : RepOk L1 [(g, s, X), (1, ⟨Option.none, 0, 0⟩, [])]) (hT : TxsIn W s X) : Calls Tryz.prog 43 #[.pointer (some ⟨b1, 0, none⟩), .slice (some ⟨bb, 0, none⟩) 2 c] V (fun e V' => e = .returned (.tuple #[.int .i64 ((repF L1 [(g, s, X), (1, ⟨Option.none, 0, 0⟩, [])] 0).1.1 : Nat), .agg (arr u8v (repF L1 [(g, s, X), (1, ⟨Option.none, 0, 0⟩, [])] 0).1.2.1).toArray, .int .i64 (repF L1 [(g, s, X), (1, ⟨Option.none, 0, 0⟩, [])] 0).1.2.2]) ∧ TwI W b1 b2 bx (repF L1 [(g, s, X), (1, ⟨Option.none, 0, 0⟩, [])] 0).2 L2 V') := by
  have hw := h.we
  have hbk := (h.at hb).1
  refine h.call (fun O hO h2 h3 => ?_)
  refine (replay_any O V b1 L1 [(g, s, X), (1, ⟨Option.none, 0, 0⟩, [])] bb c hO (by rw [hbk]; rfl) (by rw [h3 _ hb]; exact lgP_no b1) (fun x hx => ?_) hR (by simp)).mono (fun e V' q => q)
  simp only [List.mem_cons, List.not_mem_nil, or_false] at hx
  rcases hx with rfl | rfl
  · exact TxsL.of_in hT hw h2 (lgP_no b1)
  · exact TxsL.none
end
set_option maxRecDepth 100000 in
theorem build91a (w : World) (g : UInt64) (a : Option Addr) (n c : Nat) : (buildOp 91 #[(0, .int .u64 (w64 g)), (1, .slice a n c)]).run Tryz.prog w = .ok (.value (.agg (Block.mk g ⟨a, n, c⟩).enc.toArray)) w := by kernel_rfl
theorem build91s (w : World) (g : UInt64) (s : Sl) : (buildOp 91 #[(0, .int .u64 (w64 g)), (1, Sl.val s)]).run Tryz.prog w = .ok (.value (.agg (Block.mk g s).enc.toArray)) w := build91a w g s.a s.len s.cap
set_option maxRecDepth 100000 in
theorem build91b (w : World) : (buildOp 91 #[(0, .int .u64 1)]).run Tryz.prog w = .ok (.value (.agg (Block.mk 1 ⟨Option.none, 0, 0⟩).enc.toArray)) w := by kernel_rfl
set_option maxRecDepth 100000 in
theorem bslice92 (w : World) (g : UInt64) (s : Sl) : (bsliceOp 92 2 #[(0, .agg (Block.mk g s).enc.toArray), (1, .agg (Block.mk 1 ⟨Option.none, 0, 0⟩).enc.toArray)]).run Tryz.prog w = .ok (.value (.slice (some ⟨w.heap.size, 0, none⟩) 2 2)) (w.alloc (.cells ((Block.mk g s).enc ++ (Block.mk 1 ⟨Option.none, 0, 0⟩).enc).toArray 91)) := by kernel_rfl
def opB : GOp := { GOp.zero with kind := 18, gas := 1 }
set_option maxRecDepth 1000000 in
theorem build43b (w : World) : (buildOp 43 #[(0, .int .i64 18), (3, .int .u64 1)]).run Tryz.prog w = .ok (.value (.agg opB.enc.toArray)) w := by kernel_rfl
end Go.Proofs.Qxb6500786aGreat
