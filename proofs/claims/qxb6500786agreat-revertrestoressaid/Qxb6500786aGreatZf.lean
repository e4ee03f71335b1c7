import Derived.DeepKeys2
import Derived.Test.Qxb6500786aGreatZe
import Derived.Test.Qxb6500786aGreatUd
import Derived.Test.Qxb6500786aGreatWf

import Derived.StillTailTactics
import Derived.Deep.QuietTactic
import Derived.BigQuiet
import Derived.Deep.RegionHeld
import Derived.Deep.CutRange
import Derived.Laws.ResultCell
import Derived.Laws.Rows
import Derived.DeepKeys
import Derived.DataBytes
import Derived.Laws.StructEq
import Derived.Laws.AppendOwn
import Derived.Laws.MakeOwn
import Derived.Lib.AppendStr
set_option linter.unusedSimpArgs false
set_option linter.unusedVariables false
namespace Go.Proofs.Qxb6500786aGreat
open Go.RowKit Go.Blk
attribute [local go_sem ↓] execOp_load execOp_store execOp_alloc
attribute [local go_sem] Tryz.ld24 Tryz.st24 Tryz.ld36 Tryz.st36 Tryz.ld28 Tryz.st28 Tryz.ld32 Tryz.st32 Tryz.ld33 Tryz.st33 Tryz.ld34 Tryz.st34 Tryz.ld5 Tryz.st5 Tryz.ld31 Tryz.st31 Tryz.ld30 Tryz.st30 Tryz.ld41 Tryz.st41 Tryz.ld44 Tryz.st44 Tryz.ld4 Tryz.st4 Tryz.ld173 Tryz.st173 Tryz.ld174 Tryz.st174 Tryz.ld95 Tryz.st95 Tryz.ld45 Tryz.st45 Tryz.ld207 Tryz.st207 Tryz.ld3 Tryz.st3 Tryz.ld189 Tryz.st189 Tryz.ld2 Tryz.st2 Tryz.ld9 Tryz.st9 Tryz.ld12 Tryz.st12 Tryz.ld21 Tryz.st21 Tryz.ld22 Tryz.st22 Tryz.ld46 Tryz.st46 Tryz.ld92 Tryz.st92 Tryz.ld94 Tryz.st94 Tryz.ld96 Tryz.st96 Tryz.ld97 Tryz.st97 Tryz.ld105 Tryz.st105 Tryz.ld117 Tryz.st117 Tryz.ld122 Tryz.st122 Tryz.ld123 Tryz.st123 Tryz.ld133 Tryz.st133 Tryz.ld155 Tryz.st155 Tryz.ld163 Tryz.st163 Tryz.ld190 Tryz.st190 Tryz.ld197 Tryz.st197 Tryz.ld201 Tryz.st201 Tryz.ld202 Tryz.st202 Tryz.ld209 Tryz.st209 Tryz.ld216 Tryz.st216 Tryz.ld230 Tryz.st230 Tryz.ld238 Tryz.st238 Tryz.ld242 Tryz.st242 Tryz.ld251 Tryz.st251 Tryz.ld260 Tryz.st260 Tryz.ld286 Tryz.st286 Tryz.ld292 Tryz.st292 Tryz.ld298 Tryz.st298 Tryz.ld309 Tryz.st309 Tryz.ld35 Tryz.st35 Tryz.ld48 Tryz.st48 Tryz.ld47 Tryz.st47 Tryz.ld79 Tryz.st79 Tryz.ld177 Tryz.st177 Tryz.ld180 Tryz.st180 Tryz.ld231 Tryz.st231 Tryz.ld232 Tryz.st232 Tryz.ld26 Tryz.st26 Tryz.ld38 Tryz.st38 Tryz.ld40 Tryz.st40 Tryz.ld43 Tryz.st43 Tryz.ld50 Tryz.st50 Tryz.ld52 Tryz.st52 Tryz.ld54 Tryz.st54 Tryz.ld81 Tryz.st81 Tryz.ld112 Tryz.st112 Tryz.ld120 Tryz.st120 Tryz.ld176 Tryz.st176 Tryz.ld179 Tryz.st179 Tryz.ld182 Tryz.st182 Tryz.ld184 Tryz.st184 Tryz.ld234 Tryz.st234 Tryz.ld236 Tryz.st236 Tryz.ld240 Tryz.st240 Tryz.ld246 Tryz.st246 Tryz.ld249 Tryz.st249 Tryz.al35 Tryz.al48 Tryz.al47 Tryz.al79 Tryz.al177 Tryz.al180 Tryz.al231 Tryz.al232 Tryz.al26 Tryz.al38 Tryz.al40 Tryz.al43 Tryz.al50 Tryz.al52 Tryz.al54 Tryz.al81 Tryz.al112 Tryz.al120 Tryz.al176 Tryz.al179 Tryz.al182 Tryz.al184 Tryz.al234 Tryz.al236 Tryz.al240 Tryz.al246 Tryz.al249
attribute [local go_sem] Player.length_enc Player.ok_enc Player.all_get Player.all_set Player.hand_get Player.hand_set Player.aside_get Player.aside_set Message.length_enc Message.ok_enc Message.all_get Message.all_set Message.kind_get Message.kind_set Message.from__get Message.from__set Message.to__get Message.to__set Message.sender_get Message.sender_set Message.receiver_get Message.receiver_set Message.seq_get Message.seq_set Message.token_get Message.token_set Message.amount_get Message.amount_set Message.size_get Message.size_set Message.payload_get Message.payload_set Tx.length_enc Tx.ok_enc Tx.all_get Tx.all_set Tx.kind_get Tx.kind_set Tx.chain_get Tx.chain_set Tx.from__get Tx.from__set Tx.nonce_get Tx.nonce_set Tx.fee_get Tx.fee_set Tx.to__get Tx.to__set Tx.dest_get Tx.dest_set Tx.token_get Tx.token_set Tx.amount_get Tx.amount_set Tx.size_get Tx.size_set Tx.payload_get Tx.payload_set Tx.msg_get Tx.msg_set Tx.msg_kind_get Tx.msg_kind_set Tx.msg_from__get Tx.msg_from__set Tx.msg_to__get Tx.msg_to__set Tx.msg_sender_get Tx.msg_sender_set Tx.msg_receiver_get Tx.msg_receiver_set Tx.msg_seq_get Tx.msg_seq_set Tx.msg_token_get Tx.msg_token_set Tx.msg_amount_get Tx.msg_amount_set Tx.msg_size_get Tx.msg_size_set Tx.msg_payload_get Tx.msg_payload_set GOp.length_enc GOp.ok_enc GOp.all_get GOp.all_set GOp.kind_get GOp.kind_set GOp.tx_get GOp.tx_set GOp.txs_get GOp.txs_set GOp.gas_get GOp.gas_set GOp.acct_get GOp.acct_set GOp.token_get GOp.token_set GOp.chain_get GOp.chain_set GOp.seq_get GOp.seq_set GOp.tx_kind_get GOp.tx_kind_set GOp.tx_chain_get GOp.tx_chain_set GOp.tx_from__get GOp.tx_from__set GOp.tx_nonce_get GOp.tx_nonce_set GOp.tx_fee_get GOp.tx_fee_set GOp.tx_to__get GOp.tx_to__set GOp.tx_dest_get GOp.tx_dest_set GOp.tx_token_get GOp.tx_token_set GOp.tx_amount_get GOp.tx_amount_set GOp.tx_size_get GOp.tx_size_set GOp.tx_payload_get GOp.tx_payload_set GOp.tx_msg_get GOp.tx_msg_set GOp.tx_msg_kind_get GOp.tx_msg_kind_set GOp.tx_msg_from__get GOp.tx_msg_from__set GOp.tx_msg_to__get GOp.tx_msg_to__set GOp.tx_msg_sender_get GOp.tx_msg_sender_set GOp.tx_msg_receiver_get GOp.tx_msg_receiver_set GOp.tx_msg_seq_get GOp.tx_msg_seq_set GOp.tx_msg_token_get GOp.tx_msg_token_set GOp.tx_msg_amount_get GOp.tx_msg_amount_set GOp.tx_msg_size_get GOp.tx_msg_size_set GOp.tx_msg_payload_get GOp.tx_msg_payload_set Summary.length_enc Summary.ok_enc Summary.all_get Summary.all_set Summary.height_get Summary.height_set Summary.txs_get Summary.txs_set Summary.gas_get Summary.gas_set Summary.fees_get Summary.fees_set Summary.sent_get Summary.sent_set Summary.took_get Summary.took_set Summary.minted_get Summary.minted_set Summary.burned_get Summary.burned_set Summary.root_get Summary.root_set Detail.length_enc Detail.ok_enc Detail.all_get Detail.all_set Detail.code_get Detail.code_set Detail.have__get Detail.have__set Detail.need_get Detail.need_set Slot.length_enc Slot.ok_enc Slot.all_get Slot.all_set Slot.nonce_get Slot.nonce_set Slot.balances_get Slot.balances_set Tree.length_enc Tree.ok_enc Tree.all_get Tree.all_set Tree.leaves_get Tree.leaves_set Mark.length_enc Mark.ok_enc Mark.all_get Mark.all_set Mark.from__get Mark.from__set Mark.seq_get Mark.seq_set Receipt.length_enc Receipt.ok_enc Receipt.all_get Receipt.all_set Receipt.code_get Receipt.code_set Receipt.hash_get Receipt.hash_set Receipt.index_get Receipt.index_set Receipt.gas_get Receipt.gas_set Receipt.fee_get Receipt.fee_set Receipt.hasSent_get Receipt.hasSent_set Receipt.sent_get Receipt.sent_set Receipt.hasTook_get Receipt.hasTook_set Receipt.took_get Receipt.took_set Receipt.sent_kind_get Receipt.sent_kind_set Receipt.sent_from__get Receipt.sent_from__set Receipt.sent_to__get Receipt.sent_to__set Receipt.sent_sender_get Receipt.sent_sender_set Receipt.sent_receiver_get Receipt.sent_receiver_set Receipt.sent_seq_get Receipt.sent_seq_set Receipt.sent_token_get Receipt.sent_token_set Receipt.sent_amount_get Receipt.sent_amount_set Receipt.sent_size_get Receipt.sent_size_set Receipt.sent_payload_get Receipt.sent_payload_set Receipt.took_kind_get Receipt.took_kind_set Receipt.took_from__get Receipt.took_from__set Receipt.took_to__get Receipt.took_to__set Receipt.took_sender_get Receipt.took_sender_set Receipt.took_receiver_get Receipt.took_receiver_set Receipt.took_seq_get Receipt.took_seq_set Receipt.took_token_get Receipt.took_token_set Receipt.took_amount_get Receipt.took_amount_set Receipt.took_size_get Receipt.took_size_set Receipt.took_payload_get Receipt.took_payload_set Store.length_enc Store.ok_enc Store.all_get Store.all_set Store.now_get Store.now_set Store.saved_get Store.saved_set GState.length_enc GState.ok_enc GState.all_get GState.all_set GState.kv_get GState.kv_set GState.tree_get GState.tree_set GState.stale_get GState.stale_set GState.touched_get GState.touched_set GState.kv_now_get GState.kv_now_set GState.kv_saved_get GState.kv_saved_set GState.tree_leaves_get GState.tree_leaves_set History.length_enc History.ok_enc History.all_get History.all_set History.ring_get History.ring_set History.closed_get History.closed_set Ledger.length_enc Ledger.ok_enc Ledger.all_get Ledger.all_set Ledger.chain_get Ledger.chain_set Ledger.st_get Ledger.st_set Ledger.height_get Ledger.height_set Ledger.open__get Ledger.open__set Ledger.gasLimit_get Ledger.gasLimit_set Ledger.past_get Ledger.past_set Ledger.begun_get Ledger.begun_set Ledger.sent_get Ledger.sent_set Ledger.took_get Ledger.took_set Ledger.receipts_get Ledger.receipts_set Ledger.st_kv_get Ledger.st_kv_set Ledger.st_tree_get Ledger.st_tree_set Ledger.st_stale_get Ledger.st_stale_set Ledger.st_touched_get Ledger.st_touched_set Ledger.st_kv_now_get Ledger.st_kv_now_set Ledger.st_kv_saved_get Ledger.st_kv_saved_set Ledger.st_tree_leaves_get Ledger.st_tree_leaves_set Ledger.past_ring_get Ledger.past_ring_set Ledger.past_closed_get Ledger.past_closed_set Ledger.begun_kv_get Ledger.begun_kv_set Ledger.begun_tree_get Ledger.begun_tree_set Ledger.begun_stale_get Ledger.begun_stale_set Ledger.begun_touched_get Ledger.begun_touched_set Ledger.begun_kv_now_get Ledger.begun_kv_now_set Ledger.begun_kv_saved_get Ledger.begun_kv_saved_set Ledger.begun_tree_leaves_get Ledger.begun_tree_leaves_set Purse.length_enc Purse.ok_enc Purse.all_get Purse.all_set Purse.st_get Purse.st_set Purse.n_get Purse.n_set Purse.account_get Purse.account_set Purse.token_get Purse.token_set Purse.amount_get Purse.amount_set Plan.length_enc Plan.ok_enc Plan.all_get Plan.all_set Plan.purse_get Plan.purse_set Plan.nonce_get Plan.nonce_set Plan.gasUsed_get Plan.gasUsed_set Plan.fees_get Plan.fees_set Plan.hasSupply_get Plan.hasSupply_set Plan.token_get Plan.token_set Plan.supply_get Plan.supply_set Plan.flowAt_get Plan.flowAt_set Plan.flow_get Plan.flow_set Plan.receipt_get Plan.receipt_set Plan.purse_st_get Plan.purse_st_set Plan.purse_n_get Plan.purse_n_set Plan.purse_account_get Plan.purse_account_set Plan.purse_token_get Plan.purse_token_set Plan.purse_amount_get Plan.purse_amount_set Plan.receipt_code_get Plan.receipt_code_set Plan.receipt_hash_get Plan.receipt_hash_set Plan.receipt_index_get Plan.receipt_index_set Plan.receipt_gas_get Plan.receipt_gas_set Plan.receipt_fee_get Plan.receipt_fee_set Plan.receipt_hasSent_get Plan.receipt_hasSent_set Plan.receipt_sent_get Plan.receipt_sent_set Plan.receipt_hasTook_get Plan.receipt_hasTook_set Plan.receipt_took_get Plan.receipt_took_set Plan.receipt_sent_kind_get Plan.receipt_sent_kind_set Plan.receipt_sent_from__get Plan.receipt_sent_from__set Plan.receipt_sent_to__get Plan.receipt_sent_to__set Plan.receipt_sent_sender_get Plan.receipt_sent_sender_set Plan.receipt_sent_receiver_get Plan.receipt_sent_receiver_set Plan.receipt_sent_seq_get Plan.receipt_sent_seq_set Plan.receipt_sent_token_get Plan.receipt_sent_token_set Plan.receipt_sent_amount_get Plan.receipt_sent_amount_set Plan.receipt_sent_size_get Plan.receipt_sent_size_set Plan.receipt_sent_payload_get Plan.receipt_sent_payload_set Plan.receipt_took_kind_get Plan.receipt_took_kind_set Plan.receipt_took_from__get Plan.receipt_took_from__set Plan.receipt_took_to__get Plan.receipt_took_to__set Plan.receipt_took_sender_get Plan.receipt_took_sender_set Plan.receipt_took_receiver_get Plan.receipt_took_receiver_set Plan.receipt_took_seq_get Plan.receipt_took_seq_set Plan.receipt_took_token_get Plan.receipt_took_token_set Plan.receipt_took_amount_get Plan.receipt_took_amount_set Plan.receipt_took_size_get Plan.receipt_took_size_set Plan.receipt_took_payload_get Plan.receipt_took_payload_set Move.length_enc Move.ok_enc Move.all_get Move.all_set Move.account_get Move.account_set Move.token_get Move.token_set Move.down_get Move.down_set Move.amount_get Move.amount_set Books.length_enc Books.ok_enc Books.all_get Books.all_set Books.sums_get Books.sums_set Books.stored_get Books.stored_set Books.marks_get Books.marks_set Pair.length_enc Pair.ok_enc Pair.all_get Pair.all_set Pair.key_get Pair.key_set Pair.value_get Pair.value_set
attribute [local go_sem] size_put size_ext blk_put free_put blk_alloc free_alloc blk_drew free_drew blk_ext free_ext lookOr_some putOr_some segAt_some cellAt_some storeIn_some put_put put_alloc_new length_arr ok_arr_u8 ok_arr_u32 ok_arr_u64 ok_arr_i64 ok_arr_sl cellsV_agg cellsV_int cellsV_bool cellsV_string cellsV_pointer cellsV_slice cellsV_sl ok_int ok_bool ok_string ok_pointer ok_slice ok_sl toList_arr seg_arr set_arr nth_splice nth_splice0 seg_splice seg_splice0 splice_splice splice_splice0 length_splice_if
attribute [local go_sem ↓] execOp_box
attribute [local go_sem] box_run nth_arr_u8 put_arr_u8 blk_drewN free_drewN put_drewN blk_raw free_raw
attribute [local go_sem] Tryz.ld56 Tryz.st56 Tryz.ld91 Tryz.st91 Tryz.al56 Tryz.al91 Answer.length_enc Answer.ok_enc Answer.all_get Answer.all_set Answer.code_get Answer.code_set Answer.receipts_get Answer.receipts_set Answer.moves_get Answer.moves_set Answer.failed_get Answer.failed_set Answer.value_get Answer.value_set Answer.yes_get Answer.yes_set Answer.root_get Answer.root_set Answer.summary_get Answer.summary_set Answer.detail_get Answer.detail_set Answer.slot_get Answer.slot_set Answer.summary_height_get Answer.summary_height_set Answer.summary_txs_get Answer.summary_txs_set Answer.summary_gas_get Answer.summary_gas_set Answer.summary_fees_get Answer.summary_fees_set Answer.summary_sent_get Answer.summary_sent_set Answer.summary_took_get Answer.summary_took_set Answer.summary_minted_get Answer.summary_minted_set Answer.summary_burned_get Answer.summary_burned_set Answer.summary_root_get Answer.summary_root_set Answer.detail_code_get Answer.detail_code_set Answer.detail_have__get Answer.detail_have__set Answer.detail_need_get Answer.detail_need_set Answer.slot_nonce_get Answer.slot_nonce_set Answer.slot_balances_get Answer.slot_balances_set Block.length_enc Block.ok_enc Block.all_get Block.all_set Block.gasLimit_get Block.gasLimit_set Block.txs_get Block.txs_set
attribute [local go_sem] Tryz.ld61 Tryz.st61 Tryz.ld125 Tryz.st125 Tryz.ld148 Tryz.st148 Tryz.al61 Tryz.al125 Tryz.al148 View.length_enc View.ok_enc View.all_get View.all_set View.chain_get View.chain_set View.balances_get View.balances_set View.nonces_get View.nonces_set View.supply_get View.supply_set View.marks_get View.marks_set View.height_get View.height_set View.open__get View.open__set View.gasLimit_get View.gasLimit_set View.gasUsed_get View.gasUsed_set View.fees_get View.fees_set View.txs_get View.txs_set View.sent_get View.sent_set View.took_get View.took_set View.minted_get View.minted_set View.burned_get View.burned_set View.depth_get View.depth_set Trail.length_enc Trail.ok_enc Trail.all_get Trail.all_set Trail.views_get Trail.views_set Trail.roots_get Trail.roots_set Trail.begunView_get Trail.begunView_set Trail.begunRoot_get Trail.begunRoot_set Trail.begunKnown_get Trail.begunKnown_set Trail.begunView_chain_get Trail.begunView_chain_set Trail.begunView_balances_get Trail.begunView_balances_set Trail.begunView_nonces_get Trail.begunView_nonces_set Trail.begunView_supply_get Trail.begunView_supply_set Trail.begunView_marks_get Trail.begunView_marks_set Trail.begunView_height_get Trail.begunView_height_set Trail.begunView_open__get Trail.begunView_open__set Trail.begunView_gasLimit_get Trail.begunView_gasLimit_set Trail.begunView_gasUsed_get Trail.begunView_gasUsed_set Trail.begunView_fees_get Trail.begunView_fees_set Trail.begunView_txs_get Trail.begunView_txs_set Trail.begunView_sent_get Trail.begunView_sent_set Trail.begunView_took_get Trail.begunView_took_set Trail.begunView_minted_get Trail.begunView_minted_set Trail.begunView_burned_get Trail.begunView_burned_set Trail.begunView_depth_get Trail.begunView_depth_set Dump.length_enc Dump.ok_enc Dump.all_get Dump.all_set Dump.chain_get Dump.chain_set Dump.height_get Dump.height_set Dump.balances_get Dump.balances_set Dump.nonces_get Dump.nonces_set Dump.marks_get Dump.marks_set Dump.history_get Dump.history_set
/-- Between two steps of a script: the player, both ledgers sound. -/
def LwM (W : World) (g : Nat → GOp) (c : UInt8) (P : Receipt → Prop) (bp i : Nat) (V : World) : Prop := ∃ (b1 b2 : Nat) (L1 L2 : PLg) (n : Nat), PlI W b1 b2 bp [] L1 L2 V ∧ (LI n L1 ∧ CI L1) ∧ (LI n L2 ∧ CI L2) ∧ n ≤ i + sumT g i ∧ MvI L1 ∧ MvI L2
theorem LwM.mk {W V : World} {g : Nat → GOp} {c : UInt8} {P : Receipt → Prop} {bp i b1 b2 : Nat} {L1 L2 : PLg} {n m : Nat} {bx : List (Nat × List Value)} (h : TwI W b1 b2 bx L1 L2 V) (hp : (bp, (Player.mk (some ⟨b1, 0, none⟩) (some ⟨b2, 0, none⟩)).enc) ∈ bx) (h1 : LI n L1 ∧ CI L1) (h2 : LI m L2 ∧ CI L2) (hn : n ≤ i + sumT g i) (hm : m ≤ i + sumT g i) (r1 : MvI L1) (r2 : MvI L2) : LwM W g c P bp i V :=
  ⟨b1, b2, L1, L2, i + sumT g i, h.sub (fun p hq => by rw [List.mem_singleton] at hq; rw [hq]; exact hp), ⟨h1.1.mono hn, h1.2⟩, ⟨h2.1.mono hm, h2.2⟩, Nat.le_refl _, r1, r2⟩
theorem MvI.rot {L : PLg} (h : MvI L) : MvI (rotL L) := ⟨fun l hl => h.lv l (by simpa only [rotL, rootS] using hl), fun q => by simpa only [rotL] using h.bg (by simpa only [rotL] using q)⟩
/-- What the view of a sound ledger shows is in range. -/
theorem view_rng {n : Nat} {L : PLg} (h : LI n L) : (∀ (j : Nat) (hj : j < 256), ((viewF L).balances[j]).toNat ≤ 9223372036854775807) ∧ (∀ (t : Nat) (ht : t < 4), ((viewF L).supply[t]).toNat ≤ 9223372036854775807 ∧ ((viewF L).minted[t]).toNat ≤ 9223372036854775807 ∧ ((viewF L).burned[t]).toNat ≤ 9223372036854775807) ∧ (viewF L).fees.toNat ≤ 9223372036854775807 ∧ (viewF L).gasUsed.toNat ≤ (viewF L).gasLimit.toNat := by
  have hS := h.now
  refine ⟨fun j hj => ?_, fun t ht => ⟨?_, ?_, ?_⟩, hS.fee, hS.gas⟩
  · show ((vN (vwB L.st.now) 256 : Vector UInt64 256)[j]).toNat ≤ _
    rw [vN_at _ _ hj]
    unfold vwB
    have e4 : (UInt8.ofNat (j % 4)).toNat = j % 4 := (ofN4 hj).2
    have e1 : (UInt8.ofNat (j / 4)).toNat = j / 4 := (ofN4 hj).1
    have h1 := tot_ge (balB L.st.now) (UInt8.ofNat (j % 4)) (a := UInt8.ofNat (j / 4)) (by rw [e1]; omega)
    have h2 := hS.sum (UInt8.ofNat (j % 4)) (by rw [e4]; omega)
    have h3 := hS.sup (UInt8.ofNat (j % 4)) (by rw [e4]; omega)
    have h4 : (balB L.st.now (UInt8.ofNat (j / 4)) (UInt8.ofNat (j % 4))).toNat = (ldF L.st.now (keyB (UInt8.ofNat (j / 4)) (UInt8.ofNat (j % 4)))).toNat := rfl
    omega
  · show ((vN (vwS L.st.now) 4 : Vector UInt64 4)[t]).toNat ≤ _
    rw [vN_at _ _ ht]
    exact hS.sup _ (by rw [ofN_lt4 ht]; exact ht)
  · show ((vN (vwM 7 L.st.now) 4 : Vector UInt64 4)[t]).toNat ≤ _
    rw [vN_at _ _ ht]
    exact hS.mnt _ (by rw [ofN_lt4 ht]; exact ht)
  · show ((vN (vwM 11 L.st.now) 4 : Vector UInt64 4)[t]).toNat ≤ _
    rw [vN_at _ _ ht]
    exact hS.brn _ (by rw [ofN_lt4 ht]; exact ht)
theorem TwI.audit {W V : World} {b1 b2 n : Nat} {bx : List (Nat × List Value)} {L1 L2 : PLg} (h : TwI W b1 b2 bx L1 L2 V) (hLI : LI n L1) (hn : n ≤ 1000000) (hMv : MvI L1) : Calls Tryz.prog 69 #[.pointer (some ⟨b1, 0, none⟩)] V (fun e V' => e = .returned (.int .i64 0) ∧ V.Extends V') := by
  obtain ⟨h0, O, h1, h2, h3, h4, h5⟩ := h
  exact audit_ok O V b1 n L1 h3 hLI hn hMv.now
theorem TwI.auditRoot {W V : World} {b1 b2 n : Nat} {bx : List (Nat × List Value)} {L1 L2 : PLg} (h : TwI W b1 b2 bx L1 L2 V) (hLI : LI n L1 ∧ CI L1) (hn : n ≤ 1000000) : Calls Tryz.prog 70 #[.pointer (some ⟨b1, 0, none⟩)] V (fun e V' => e = .returned (.int .i64 0) ∧ TwI W b1 b2 bx (rotL L1) L2 V') :=
  h.call (R := fun e => e = .returned (.int .i64 0)) (fun O hO _ _ => auditRoot_ok O V b1 L1 hO hLI.2 (hLI.1.savl (by omega)))
set_option maxRecDepth 100000 in
theorem frame90L (f : Nat → Value) : frameN 90 f = #[f 0, f 1, f 2, f 3, f 4, f 5, f 6, f 7, f 8, f 9, f 10, f 11, f 12, f 13, f 14, f 15, f 16, f 17, f 18, f 19, f 20, f 21, f 22, f 23, f 24, f 25, f 26, f 27, f 28, f 29, f 30, f 31, f 32, f 33, f 34, f 35, f 36, f 37, f 38, f 39, f 40, f 41, f 42, f 43, f 44, f 45, f 46, f 47, f 48, f 49, f 50, f 51, f 52, f 53, f 54, f 55, f 56, f 57, f 58, f 59, f 60, f 61, f 62, f 63, f 64, f 65, f 66, f 67, f 68, f 69, f 70, f 71, f 72, f 73, f 74, f 75, f 76, f 77, f 78, f 79, f 80, f 81, f 82, f 83, f 84, f 85, f 86, f 87, f 88, f 89] := by kernel_rfl
def lw11 (W : World) (a : Option Addr) (len cap : Nat) (g : Nat → GOp) (c : UInt8) (bp : Nat) (F : Nat → Value) (V : World) : Prop := F 3 = .pointer (some ⟨bp, 0, none⟩) ∧ F 16 = .slice a len cap ∧ F 17 = .int .i64 (len : Nat) ∧ ∃ i : Nat, i ≤ len ∧ F 18 = .int .i64 (i : Nat) ∧ Hid (LwM W g c (fun _ => True) bp i V)
def lw11b (a : Option Addr) (len cap bp bv i : Nat) (U : World) (F : Nat → Value) (V : World) : Prop := F 3 = .pointer (some ⟨bp, 0, none⟩) ∧ F 7 = .pointer (some ⟨bv, 0, none⟩) ∧ F 16 = .slice a len cap ∧ F 17 = .int .i64 (len : Nat) ∧ F 18 = .int .i64 (i : Nat) ∧ ∃ j : Nat, j ≤ 256 ∧ F 47 = .int .i64 (j : Nat) ∧ V = U
def lw11c (a : Option Addr) (len cap bp bv i : Nat) (U : World) (F : Nat → Value) (V : World) : Prop := F 3 = .pointer (some ⟨bp, 0, none⟩) ∧ F 7 = .pointer (some ⟨bv, 0, none⟩) ∧ F 16 = .slice a len cap ∧ F 17 = .int .i64 (len : Nat) ∧ F 18 = .int .i64 (i : Nat) ∧ ∃ t : Nat, t ≤ 4 ∧ F 9 = .int .i64 (t : Nat) ∧ V = U
set_option maxRecDepth 1000000 in
set_option maxHeartbeats 4000000 in
theorem audit_walk (W : World) (a : Option Addr) (len cap : Nat) (g : Nat → GOp) (dt : Nat → List Tx) (hS : ScriptAt W a len cap g dt) : Calls Tryz.prog 11 #[.slice a len cap] W fun e V => e = .returned (.bool true) ∧ W.Extends V := by
  obtain ⟨Q, hQ⟩ : ∃ Q : Ending → World → Prop, Q = fun e V => e = .returned (.bool true) ∧ W.Extends V := ⟨_, rfl⟩
  rw [← hQ]
  have HQ := hid_of hQ
  have HS := hid_of hS
  have hsm := small2_any W a len cap g dt hS
  have hch := chainOf2_any W a len cap g dt hS
  clear hQ hS
  go_enter Tryz.func11, Tryz.ntmps11
  go_wp2_with fail
  refine hsm.mono ?_
  clear hsm
  rintro e V0 ⟨⟨r, rfl, hr⟩, rfl⟩
  dsimp only
  cases r with
  | false =>
    have HP : Hid (Q (.returned (.bool true)) V0) := by
      show Q _ _
      rw [HQ.out]
      exact ⟨rfl, ext_Ext (Ext.refl _)⟩
    clear hch hr HS HQ
    go_wp2_with fail
    try (first | go_ret | go_ret2 | go_ret3 | go_end0)
    exact HP.out
  | true =>
  have HR := hid_of (hr rfl)
  clear hr
  go_wp2_with fail
  refine hch.mono ?_
  clear hch
  rintro e V0' ⟨c, hc, rfl, rfl⟩
  dsimp only
  have hnp := player_any V0' c hc
  have HC := hid_of hc
  clear hc
  go_wp2_with fail
  refine hnp.mono ?_
  clear hnp
  rintro e V1 ⟨b1, b2, rfl, h1⟩
  dsimp only
  obtain ⟨pl, hpl⟩ : ∃ pl, pl = Player.mk (some ⟨b1, 0, none⟩) (some ⟨b2, 0, none⟩) := ⟨_, rfl⟩
  rw [← hpl]
  have h2 := h1.box pl.enc 26
  obtain ⟨W2, hW2⟩ : ∃ W2 : World, W2 = V1.alloc (.cells pl.enc.toArray 26) := ⟨_, rfl⟩
  obtain ⟨bp, hbp⟩ : ∃ bp, bp = V1.heap.size := ⟨_, rfl⟩
  rw [← hW2, ← hbp] at h2
  have HI0 : Hid (LwM V0' g c (fun _ => True) bp 0 W2) := LwM.mk h2 (by rw [hpl]; simp) ⟨newL_li c HC.out, newL_ci c⟩ ⟨newL_li c HC.out, newL_ci c⟩ (Nat.zero_le _) (Nat.zero_le _) (newL_mvi c) (newL_mvi c)
  have HW2 := hid_of hW2
  have HBP := hid_of hbp
  clear hW2 hbp h1 h2 hpl
  go_upto_region 4 with fail
  rw [← HW2.out, ← HBP.out]
  clear HW2 HBP
  go_wp2_with fail
  refine wp_loop_f 90 (lw11 V0' a len cap g c bp) (fun f _ => len - (intOf (f 18)).toNat) rfl ⟨rfl, rfl, rfl, 0, Nat.zero_le _, rfl, HI0⟩ ?_
  clear HI0
  intro F V hrel
  obtain ⟨f3, f16, f17, i, hi, f18, HI⟩ := hrel
  have H18 := hid_of f18
  rw [frame90L, f3, f16, f17, f18]
  clear f3 f16 f17 f18
  obtain ⟨b1, b2, L1, L2, n, h0, hI1, hI2, hn, hR1, hR2⟩ := HI.out
  clear HI
  by_cases hin : i < len
  rotate_left 1
  · have HP : Hid (Q (.returned (.bool true)) V) := by
      show Q _ _
      rw [HQ.out]
      exact ⟨rfl, TwI.we h0⟩
    have hin' : ¬ (i : Int) < (len : Int) := by omega
    clear hin hi h0 hI1 hI2 hn hR1 hR2 HQ HS HR
    go_wp2_with fail
    try (first | go_ret | go_ret2 | go_ret3 | go_end0)
    exact HP.out
  have hin' : (i : Int) < (len : Int) := by omega
  have p0 : (0 : Int) ≤ (i : Int) := by omega
  have p2 : ((i : Int)).toNat = i := by omega
  obtain ⟨b, o, C, ha, kb0, hlen, hseg⟩ := HS.out.2.2.2 (by omega)
  have hsg := hseg i hin
  have kb : blk V b = some C := ((TwI.we h0).blk (blk_lt kb0)).trans kb0
  obtain ⟨hft, hT, -⟩ := HS.out.2.2.1 i hin
  have g90 : o + i * 90 + 90 ≤ C.length := by omega
  have hsum : len + sumT g len ≤ 65536 := HR.out
  have hsm := sumT_mono g (show i + 1 ≤ len from hin)
  have hsi : sumT g (i + 1) = sumT g i + (g i).txs.len := rfl
  have hXl : (dt i).length = (g i).txs.len := hT.1
  obtain ⟨x, hx⟩ : ∃ x, x = g i := ⟨_, rfl⟩
  rw [← hx] at hsg hft hT hsi hXl
  obtain ⟨X, hX⟩ : ∃ X, X = dt i := ⟨_, rfl⟩
  rw [← hX] at hT hXl
  have h1 := TwI.box h0 x.enc 43
  obtain ⟨V1', hV1⟩ : ∃ V1', V1' = V.alloc (.cells x.enc.toArray 43) := ⟨_, rfl⟩
  obtain ⟨bo, hbo⟩ : ∃ bo, bo = V.heap.size := ⟨_, rfl⟩
  obtain ⟨pl1, hpl⟩ : ∃ pl1, pl1 = Player.mk (some ⟨b1, 0, none⟩) (some ⟨b2, 0, none⟩) := ⟨_, rfl⟩
  have hob : bo ≠ bp := by
    have := TwI.lt h0 (List.mem_cons_self ..)
    have : bp < V.heap.size := this
    omega
  rw [← hV1, ← hbo, ← hpl] at h1
  have hph : nth pl1.enc 0 = some (.pointer (some ⟨b1, 0, none⟩)) := by rw [hpl]; exact Player.hand_get _
  have lpl : pl1.enc.length = 2 := Player.length_enc _
  have hi9 : (i : Int) + 1 ≤ 65537 := by omega
  have HV1 := hid_of hV1
  have HBO := hid_of hbo
  have HPL := hid_of hpl
  have HOB := hid_of hob
  have HN : Hid (i < len ∧ n + X.length + 1 ≤ (i + 1) + sumT g (i + 1) ∧ (i + 1) + sumT g (i + 1) ≤ 65536) := ⟨hin, by omega, by omega⟩
  have HT := hid_of hT
  have HI1 := hid_of hI1
  have HI2 := hid_of hI2
  have HR1 := hid_of hR1
  have HR2 := hid_of hR2
  have ko := (h1.at (b := bo) (C := x.enc) (by simp)).1
  have kp := (h1.at (b := bp) (C := pl1.enc) (by simp)).1
  subst ha
  clear hin hi hseg kb0 hft hsum hsm hsi hXl hV1 hbo hx hX h0 hn hpl hob hT hI1 hI2 hR1 hR2
  go_upto_region 7 with fail
  rw [← HV1.out, ← HBO.out]
  clear HV1 HBO kb hsg g90 hlen
  have HH : Hid (((LI (n + (X.length + 1)) (stpF L1 L2 x X).2.1 ∧ CI (stpF L1 L2 x X).2.1) ∧ (LI (n + (X.length + 1)) (stpF L1 L2 x X).2.2 ∧ CI (stpF L1 L2 x X).2.2)) ∧ (MvI (stpF L1 L2 x X).2.1 ∧ MvI (stpF L1 L2 x X).2.2) ∧ okC (stpF L1 L2 x X).1.code) := ⟨stpF_sound HI1.out HI2.out (by have := HN.out.2; omega), MvI.stp HI1.out.1 HR1.out HR2.out (by have := HN.out.2; omega), stp_okC HI1.out.1 (by have := HN.out.2; omega)⟩
  have hst := step_any V0' V1' b1 b2 bp [(bo, x.enc)] L1 L2 x X (by
    show TwI _ _ _ _ _ _ _
    rw [← HPL.out]
    exact h1.sub (fun p hp => by simp only [List.mem_cons, List.not_mem_nil, or_false] at hp ⊢; rcases hp with rfl | rfl <;> simp)) (fun p hp => by
    simp only [List.mem_cons, List.not_mem_nil, or_false] at hp
    rcases hp with rfl
    exact HOB.out) (HI1.out.1.sti x.gas X (by have := HN.out.2; omega)) HT.out
  obtain ⟨sr, hsr⟩ : ∃ sr, sr = stpF L1 L2 x X := ⟨_, rfl⟩
  rw [← hsr] at hst HH
  have HI9 := hid_of hi9
  clear hsr h1 hi9 hph lpl kp
  go_wp2_with fail
  refine hst.mono ?_
  clear hst ko
  rintro e V5 ⟨rc, mv, c1, c2, bx', rfl, h5, -, -, -⟩
  dsimp only
  obtain ⟨A, hA⟩ : ∃ A, A = ansO sr.1 rc mv := ⟨_, rfl⟩
  obtain ⟨cd, hcd⟩ : ∃ cd, cd = sr.1.code := ⟨_, rfl⟩
  have na0 : nth A.enc 0 = some (.int .i64 cd) := by rw [Answer.code_get, hA, hcd]; rfl
  have la : A.enc.length = 92 := Answer.length_enc A
  rw [← hA]
  have h6 := TwI.box h5 A.enc 56
  obtain ⟨V6, hV6⟩ : ∃ V6, V6 = V5.alloc (.cells A.enc.toArray 56) := ⟨_, rfl⟩
  obtain ⟨ba, hba⟩ : ∃ ba, ba = V5.heap.size := ⟨_, rfl⟩
  obtain ⟨pl2, hpl2⟩ : ∃ pl2, pl2 = Player.mk (some ⟨c1, 0, none⟩) (some ⟨c2, 0, none⟩) := ⟨_, rfl⟩
  rw [← hV6, ← hba, ← hpl2] at h6
  have h7 : TwI V0' c1 c2 [(ba, A.enc), (bp, pl2.enc)] sr.2.1 sr.2.2 V6 := h6.sub (fun p hp => by
    simp only [List.mem_cons, List.mem_append, List.not_mem_nil, or_false] at hp ⊢
    rcases hp with rfl | rfl <;> simp)
  have hph : nth pl2.enc 0 = some (.pointer (some ⟨c1, 0, none⟩)) := by rw [hpl2]; exact Player.hand_get _
  have lpl : pl2.enc.length = 2 := Player.length_enc _
  have ka := (h7.at (b := ba) (C := A.enc) (by simp)).1
  have kp := (h7.at (b := bp) (C := pl2.enc) (by simp)).1
  have hcl := class_any cd V6
  have HOK : Hid (classOf cd ≠ 5 ∧ classOf cd ≠ 6) := by
    rw [hcd]
    exact okC_cls HH.out.2.2
  obtain ⟨kl, hkl⟩ : ∃ kl, kl = classOf cd := ⟨_, rfl⟩
  rw [← hkl] at hcl HOK
  have hk5 : (kl == 5) = false := by simp [HOK.out.1]
  have hk6 : (kl == 6) = false := by simp [HOK.out.2]
  have HV6 := hid_of hV6
  have HBA := hid_of hba
  have HPL2 := hid_of hpl2
  have HNA := hid_of na0
  have H7 := hid_of h7
  have hcl2 := hcl
  clear h5 h6 hV6 hba hpl2 hA hcd na0 h7 hkl
  go_upto_region 8 with fail
  rw [← HV6.out, ← HBA.out]
  clear HV6 HBA
  have na0 := HNA.out
  clear HNA
  generalize A.enc = AE at na0 la ka H7 ⊢
  go_wp2_with fail
  refine hcl.mono ?_
  clear hcl
  rintro e V8 ⟨rfl, hv8⟩
  obtain rfl := hv8.symm
  dsimp only
  go_wp2_with fail
  refine hcl2.mono ?_
  clear hcl2
  rintro e V8 ⟨rfl, hv8⟩
  obtain rfl := hv8.symm
  dsimp only
  have hau := H7.out.audit HH.out.1.1.1 (by have := HN.out.2; omega) HH.out.2.1.1
  go_wp2_with fail
  refine hau.mono ?_
  clear hau
  rintro e V9 ⟨rfl, hx9⟩
  dsimp only
  have h9 := H7.out.ext hx9
  have kp9 := (h9.at (b := bp) (C := pl2.enc) (by simp)).1
  have hrt := h9.auditRoot HH.out.1.1 (by have := HN.out.2; omega)
  clear hx9 h9 ka kp na0 la H7
  go_wp2_with fail
  refine hrt.mono ?_
  clear hrt
  rintro e V10 ⟨rfl, h10⟩
  dsimp only
  have kp10 := (h10.at (b := bp) (C := pl2.enc) (by simp)).1
  have hvw := TwI.view h10
  obtain ⟨vw, hv⟩ : ∃ vw, vw = viewF (rotL sr.2.1) := ⟨_, rfl⟩
  rw [← hv] at hvw
  have HVR : Hid ((∀ (j : Nat) (hj : j < 256), (vw.balances[j]).toNat ≤ 9223372036854775807) ∧ (∀ (t : Nat) (ht : t < 4), (vw.supply[t]).toNat ≤ 9223372036854775807 ∧ (vw.minted[t]).toNat ≤ 9223372036854775807 ∧ (vw.burned[t]).toNat ≤ 9223372036854775807) ∧ vw.fees.toNat ≤ 9223372036854775807 ∧ vw.gasUsed.toNat ≤ vw.gasLimit.toNat) := by
    rw [hv]
    exact view_rng (LI.rot HH.out.1.1 (by have := HN.out.2; omega)).1
  have H10 := hid_of h10
  clear hv h10 kp9
  go_wp2_with fail
  refine hvw.mono ?_
  clear hvw
  rintro e V11 ⟨rfl, hx11⟩
  dsimp only
  have h12 := (H10.out.ext hx11).box vw.enc 61
  obtain ⟨V12, hV12⟩ : ∃ V12, V12 = V11.alloc (.cells vw.enc.toArray 61) := ⟨_, rfl⟩
  obtain ⟨bv, hbv⟩ : ∃ bv, bv = V11.heap.size := ⟨_, rfl⟩
  rw [← hV12, ← hbv] at h12
  have kv := (h12.at (b := bv) (C := vw.enc) (by simp)).1
  have HJ : Hid (LwM V0' g c (fun _ => True) bp (i + 1) V12) := LwM.mk h12 (by rw [HPL2.out]; simp) (LI.rot HH.out.1.1 (by have := HN.out.2; omega)) HH.out.1.2 (by have := HN.out.2; omega) (by have := HN.out.2; omega) HH.out.2.1.1.rot HH.out.2.1.2
  have HV12 := hid_of hV12
  have HBV := hid_of hbv
  clear hx11 h12 hV12 hbv H10 kp10
  go_upto_region 13 with fail
  rw [← HV12.out, ← HBV.out]
  clear HV12 HBV
  have lvw : vw.enc.length = 343 := View.length_enc vw
  have HB1 : Hid (∀ (j : Nat) (hj : j < 256), nth vw.enc (1 + j) = some (.int .u64 (w64 vw.balances[j]))) := fun j hj => View.balances_at vw j hj
  have HB2 : Hid (∀ (t : Nat) (ht : t < 4), nth vw.enc (321 + t) = some (.int .u64 (w64 vw.supply[t])) ∧ nth vw.enc (334 + t) = some (.int .u64 (w64 vw.minted[t])) ∧ nth vw.enc (338 + t) = some (.int .u64 (w64 vw.burned[t]))) := fun t ht => ⟨View.supply_at vw t ht, View.minted_at vw t ht, View.burned_at vw t ht⟩
  have n330 : nth vw.enc 330 = some (.int .u64 (w64 vw.fees)) := View.fees_get vw
  have n329 : nth vw.enc 329 = some (.int .u64 (w64 vw.gasUsed)) := View.gasUsed_get vw
  have n328 : nth vw.enc 328 = some (.int .u64 (w64 vw.gasLimit)) := View.gasLimit_get vw
  have hfe : ¬ 9223372036854775807 < w64 vw.fees := by have := HVR.out.2.2.1; unfold w64; omega
  have hga : ¬ w64 vw.gasLimit < w64 vw.gasUsed := by have := HVR.out.2.2.2; unfold w64; omega
  generalize vw.fees = vfe at n330 hfe
  generalize vw.gasUsed = vgu at n329 hga
  generalize vw.gasLimit = vgl at n328 hga
  generalize vw.enc = vE at kv lvw HB1 HB2 n330 n329 n328
  have HFG : Hid ((nth vE 330 = some (.int .u64 (w64 vfe)) ∧ nth vE 329 = some (.int .u64 (w64 vgu)) ∧ nth vE 328 = some (.int .u64 (w64 vgl))) ∧ ¬ 9223372036854775807 < w64 vfe ∧ ¬ w64 vgl < w64 vgu) := ⟨⟨n330, n329, n328⟩, hfe, hga⟩
  clear n330 n329 n328 hfe hga hk5 hk6
  go_wp2_with fail
  refine wp_loop_f 90 (lw11b (some ⟨b, o, none⟩) len cap bp bv i V12) (fun f _ => 256 - (intOf (f 47)).toNat) rfl ⟨rfl, rfl, rfl, rfl, rfl, 0, by omega, rfl, rfl⟩ ?_
  intro G V hrel
  obtain ⟨f3, f7, f16, f17, f18, j, hj, f47, hV⟩ := hrel
  have H47 := hid_of f47
  rw [frame90L, f3, f7, f16, f17, f18, f47]
  clear f3 f7 f16 f17 f18 f47
  obtain rfl := hV.symm
  clear hV
  by_cases hjn : j < 256
  · have hjn' : (j : Int) < 256 := by omega
    have q0 : (0 : Int) ≤ (j : Int) := by omega
    have q2 : ((j : Int)).toNat = j := by omega
    have nb := HB1.out j hjn
    have hbl : ¬ 9223372036854775807 < w64 vw.balances[j] := by have := HVR.out.1 j hjn; unfold w64; omega
    generalize vw.balances[j] = bj at nb hbl
    have HJN := hid_of hjn
    have hj9 : (j : Int) + 1 ≤ 1000 := by omega
    have q343 : 1 + j + 1 ≤ 343 := by omega
    clear hj hjn
    go_wp2_with fail
    refine ⟨rfl, rfl, ⟨rfl, rfl, rfl, rfl, rfl, j + 1, HJN.out, ?_, rfl⟩, ?_⟩
    · show Value.int .i64 _ = _
      go_num
    · show 256 - (intOf (Value.int .i64 _)).toNat < 256 - (intOf (G 47)).toNat
      rw [H47.out]
      have := HJN.out
      simp [intOf]; omega
  have hjn' : ¬ (j : Int) < 256 := by omega
  clear hj hjn
  go_wp2_with fail
  refine wp_loop_f 90 (lw11c (some ⟨b, o, none⟩) len cap bp bv i V12) (fun f _ => 4 - (intOf (f 9)).toNat) rfl ⟨rfl, rfl, rfl, rfl, rfl, 0, by omega, rfl, rfl⟩ ?_
  intro G2 V' hrel
  obtain ⟨f3, f7, f16, f17, f18, t, ht, f9, hV⟩ := hrel
  have H9 := hid_of f9
  rw [frame90L, f3, f7, f16, f17, f18, f9]
  clear f3 f7 f16 f17 f18 f9
  obtain rfl := hV.symm
  clear hV
  by_cases htn : t < 4
  · have htn' : (t : Int) < 4 := by omega
    have q0 : (0 : Int) ≤ (t : Int) := by omega
    have q2 : ((t : Int)).toNat = t := by omega
    obtain ⟨n1, n2, n3⟩ := HB2.out t htn
    obtain ⟨r1, r2, r3⟩ := HVR.out.2.1 t htn
    have b1' : ¬ 9223372036854775807 < w64 vw.supply[t] := by unfold w64; omega
    have b2' : ¬ 9223372036854775807 < w64 vw.minted[t] := by unfold w64; omega
    have b3' : ¬ 9223372036854775807 < w64 vw.burned[t] := by unfold w64; omega
    generalize vw.supply[t] = sj at n1 b1' r1
    generalize vw.minted[t] = mj at n2 b2' r2
    generalize vw.burned[t] = uj at n3 b3' r3
    have HTN := hid_of htn
    have hj9 : (t : Int) + 1 ≤ 1000 := by omega
    clear ht htn r1 r2 r3
    go_wp2_with fail
    refine ⟨rfl, rfl, ⟨rfl, rfl, rfl, rfl, rfl, t + 1, HTN.out, ?_, rfl⟩, ?_⟩
    · show Value.int .i64 _ = _
      go_num
    · show 4 - (intOf (Value.int .i64 _)).toNat < 4 - (intOf (G2 9)).toNat
      rw [H9.out]
      have := HTN.out
      simp [intOf]; omega
  have htn' : ¬ (t : Int) < 4 := by omega
  have hi9 := HI9.out
  obtain ⟨⟨n330, n329, n328⟩, hfe, hga⟩ := HFG.out
  clear ht htn HFG
  go_wp2_with fail
  refine ⟨rfl, rfl, ⟨rfl, rfl, rfl, i + 1, HN.out.1, ?_, HJ⟩, ?_⟩
  · show Value.int .i64 _ = _
    go_num
  · show len - (intOf (Value.int .i64 _)).toNat < len - (intOf (F 18)).toNat
    rw [H18.out]
    have := HN.out.1
    simp [intOf]; omega
end Go.Proofs.Qxb6500786aGreat
