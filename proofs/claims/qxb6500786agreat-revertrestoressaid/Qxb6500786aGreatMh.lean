import Derived.DeepKeys2
import Derived.OwnWalk
import Derived.Laws.CopyRow
import Derived.Test.Qxb6500786aGreatMg
import Derived.Test.Qxb6500786aGreatKl

import Derived.StillTailTactics
import Derived.Deep.QuietTactic
import Derived.BigQuiet
import Derived.Deep.RegionHeld
import Derived.Deep.CutRange
import Derived.Laws.ResultCell
import Derived.Laws.Rows
import Derived.DeepKeys
import Derived.DataBytes
import Derived.Laws.StructEq
import Derived.Laws.AppendOwn
import Derived.Laws.MakeOwn
import Derived.Lib.AppendStr
set_option linter.unusedSimpArgs false
set_option linter.unusedVariables false
namespace Go.Proofs.Qxb6500786aGreat
open Go.RowKit Go.Blk
attribute [local go_sem ↓] execOp_load execOp_store execOp_alloc
attribute [local go_sem] Tryz.ld24 Tryz.st24 Tryz.ld36 Tryz.st36 Tryz.ld28 Tryz.st28 Tryz.ld32 Tryz.st32 Tryz.ld33 Tryz.st33 Tryz.ld34 Tryz.st34 Tryz.ld5 Tryz.st5 Tryz.ld31 Tryz.st31 Tryz.ld30 Tryz.st30 Tryz.ld41 Tryz.st41 Tryz.ld44 Tryz.st44 Tryz.ld4 Tryz.st4 Tryz.ld173 Tryz.st173 Tryz.ld174 Tryz.st174 Tryz.ld95 Tryz.st95 Tryz.ld45 Tryz.st45 Tryz.ld207 Tryz.st207 Tryz.ld3 Tryz.st3 Tryz.ld189 Tryz.st189 Tryz.ld2 Tryz.st2 Tryz.ld9 Tryz.st9 Tryz.ld12 Tryz.st12 Tryz.ld21 Tryz.st21 Tryz.ld22 Tryz.st22 Tryz.ld46 Tryz.st46 Tryz.ld92 Tryz.st92 Tryz.ld94 Tryz.st94 Tryz.ld96 Tryz.st96 Tryz.ld97 Tryz.st97 Tryz.ld105 Tryz.st105 Tryz.ld117 Tryz.st117 Tryz.ld122 Tryz.st122 Tryz.ld123 Tryz.st123 Tryz.ld133 Tryz.st133 Tryz.ld155 Tryz.st155 Tryz.ld163 Tryz.st163 Tryz.ld190 Tryz.st190 Tryz.ld197 Tryz.st197 Tryz.ld201 Tryz.st201 Tryz.ld202 Tryz.st202 Tryz.ld209 Tryz.st209 Tryz.ld216 Tryz.st216 Tryz.ld230 Tryz.st230 Tryz.ld238 Tryz.st238 Tryz.ld242 Tryz.st242 Tryz.ld251 Tryz.st251 Tryz.ld260 Tryz.st260 Tryz.ld286 Tryz.st286 Tryz.ld292 Tryz.st292 Tryz.ld298 Tryz.st298 Tryz.ld309 Tryz.st309 Tryz.ld35 Tryz.st35 Tryz.ld48 Tryz.st48 Tryz.ld47 Tryz.st47 Tryz.ld79 Tryz.st79 Tryz.ld177 Tryz.st177 Tryz.ld180 Tryz.st180 Tryz.ld231 Tryz.st231 Tryz.ld232 Tryz.st232 Tryz.ld26 Tryz.st26 Tryz.ld38 Tryz.st38 Tryz.ld40 Tryz.st40 Tryz.ld43 Tryz.st43 Tryz.ld50 Tryz.st50 Tryz.ld52 Tryz.st52 Tryz.ld54 Tryz.st54 Tryz.ld81 Tryz.st81 Tryz.ld112 Tryz.st112 Tryz.ld120 Tryz.st120 Tryz.ld176 Tryz.st176 Tryz.ld179 Tryz.st179 Tryz.ld182 Tryz.st182 Tryz.ld184 Tryz.st184 Tryz.ld234 Tryz.st234 Tryz.ld236 Tryz.st236 Tryz.ld240 Tryz.st240 Tryz.ld246 Tryz.st246 Tryz.ld249 Tryz.st249 Tryz.al35 Tryz.al48 Tryz.al47 Tryz.al79 Tryz.al177 Tryz.al180 Tryz.al231 Tryz.al232 Tryz.al26 Tryz.al38 Tryz.al40 Tryz.al43 Tryz.al50 Tryz.al52 Tryz.al54 Tryz.al81 Tryz.al112 Tryz.al120 Tryz.al176 Tryz.al179 Tryz.al182 Tryz.al184 Tryz.al234 Tryz.al236 Tryz.al240 Tryz.al246 Tryz.al249
attribute [local go_sem] Player.length_enc Player.ok_enc Player.all_get Player.all_set Player.hand_get Player.hand_set Player.aside_get Player.aside_set Message.length_enc Message.ok_enc Message.all_get Message.all_set Message.kind_get Message.kind_set Message.from__get Message.from__set Message.to__get Message.to__set Message.sender_get Message.sender_set Message.receiver_get Message.receiver_set Message.seq_get Message.seq_set Message.token_get Message.token_set Message.amount_get Message.amount_set Message.size_get Message.size_set Message.payload_get Message.payload_set Tx.length_enc Tx.ok_enc Tx.all_get Tx.all_set Tx.kind_get Tx.kind_set Tx.chain_get Tx.chain_set Tx.from__get Tx.from__set Tx.nonce_get Tx.nonce_set Tx.fee_get Tx.fee_set Tx.to__get Tx.to__set Tx.dest_get Tx.dest_set Tx.token_get Tx.token_set Tx.amount_get Tx.amount_set Tx.size_get Tx.size_set Tx.payload_get Tx.payload_set Tx.msg_get Tx.msg_set Tx.msg_kind_get Tx.msg_kind_set Tx.msg_from__get Tx.msg_from__set Tx.msg_to__get Tx.msg_to__set Tx.msg_sender_get Tx.msg_sender_set Tx.msg_receiver_get Tx.msg_receiver_set Tx.msg_seq_get Tx.msg_seq_set Tx.msg_token_get Tx.msg_token_set Tx.msg_amount_get Tx.msg_amount_set Tx.msg_size_get Tx.msg_size_set Tx.msg_payload_get Tx.msg_payload_set GOp.length_enc GOp.ok_enc GOp.all_get GOp.all_set GOp.kind_get GOp.kind_set GOp.tx_get GOp.tx_set GOp.txs_get GOp.txs_set GOp.gas_get GOp.gas_set GOp.acct_get GOp.acct_set GOp.token_get GOp.token_set GOp.chain_get GOp.chain_set GOp.seq_get GOp.seq_set GOp.tx_kind_get GOp.tx_kind_set GOp.tx_chain_get GOp.tx_chain_set GOp.tx_from__get GOp.tx_from__set GOp.tx_nonce_get GOp.tx_nonce_set GOp.tx_fee_get GOp.tx_fee_set GOp.tx_to__get GOp.tx_to__set GOp.tx_dest_get GOp.tx_dest_set GOp.tx_token_get GOp.tx_token_set GOp.tx_amount_get GOp.tx_amount_set GOp.tx_size_get GOp.tx_size_set GOp.tx_payload_get GOp.tx_payload_set GOp.tx_msg_get GOp.tx_msg_set GOp.tx_msg_kind_get GOp.tx_msg_kind_set GOp.tx_msg_from__get GOp.tx_msg_from__set GOp.tx_msg_to__get GOp.tx_msg_to__set GOp.tx_msg_sender_get GOp.tx_msg_sender_set GOp.tx_msg_receiver_get GOp.tx_msg_receiver_set GOp.tx_msg_seq_get GOp.tx_msg_seq_set GOp.tx_msg_token_get GOp.tx_msg_token_set GOp.tx_msg_amount_get GOp.tx_msg_amount_set GOp.tx_msg_size_get GOp.tx_msg_size_set GOp.tx_msg_payload_get GOp.tx_msg_payload_set Summary.length_enc Summary.ok_enc Summary.all_get Summary.all_set Summary.height_get Summary.height_set Summary.txs_get Summary.txs_set Summary.gas_get Summary.gas_set Summary.fees_get Summary.fees_set Summary.sent_get Summary.sent_set Summary.took_get Summary.took_set Summary.minted_get Summary.minted_set Summary.burned_get Summary.burned_set Summary.root_get Summary.root_set Detail.length_enc Detail.ok_enc Detail.all_get Detail.all_set Detail.code_get Detail.code_set Detail.have__get Detail.have__set Detail.need_get Detail.need_set Slot.length_enc Slot.ok_enc Slot.all_get Slot.all_set Slot.nonce_get Slot.nonce_set Slot.balances_get Slot.balances_set Tree.length_enc Tree.ok_enc Tree.all_get Tree.all_set Tree.leaves_get Tree.leaves_set Mark.length_enc Mark.ok_enc Mark.all_get Mark.all_set Mark.from__get Mark.from__set Mark.seq_get Mark.seq_set Receipt.length_enc Receipt.ok_enc Receipt.all_get Receipt.all_set Receipt.code_get Receipt.code_set Receipt.hash_get Receipt.hash_set Receipt.index_get Receipt.index_set Receipt.gas_get Receipt.gas_set Receipt.fee_get Receipt.fee_set Receipt.hasSent_get Receipt.hasSent_set Receipt.sent_get Receipt.sent_set Receipt.hasTook_get Receipt.hasTook_set Receipt.took_get Receipt.took_set Receipt.sent_kind_get Receipt.sent_kind_set Receipt.sent_from__get Receipt.sent_from__set Receipt.sent_to__get Receipt.sent_to__set Receipt.sent_sender_get Receipt.sent_sender_set Receipt.sent_receiver_get Receipt.sent_receiver_set Receipt.sent_seq_get Receipt.sent_seq_set Receipt.sent_token_get Receipt.sent_token_set Receipt.sent_amount_get Receipt.sent_amount_set Receipt.sent_size_get Receipt.sent_size_set Receipt.sent_payload_get Receipt.sent_payload_set Receipt.took_kind_get Receipt.took_kind_set Receipt.took_from__get Receipt.took_from__set Receipt.took_to__get Receipt.took_to__set Receipt.took_sender_get Receipt.took_sender_set Receipt.took_receiver_get Receipt.took_receiver_set Receipt.took_seq_get Receipt.took_seq_set Receipt.took_token_get Receipt.took_token_set Receipt.took_amount_get Receipt.took_amount_set Receipt.took_size_get Receipt.took_size_set Receipt.took_payload_get Receipt.took_payload_set Store.length_enc Store.ok_enc Store.all_get Store.all_set Store.now_get Store.now_set Store.saved_get Store.saved_set GState.length_enc GState.ok_enc GState.all_get GState.all_set GState.kv_get GState.kv_set GState.tree_get GState.tree_set GState.stale_get GState.stale_set GState.touched_get GState.touched_set GState.kv_now_get GState.kv_now_set GState.kv_saved_get GState.kv_saved_set GState.tree_leaves_get GState.tree_leaves_set History.length_enc History.ok_enc History.all_get History.all_set History.ring_get History.ring_set History.closed_get History.closed_set Ledger.length_enc Ledger.ok_enc Ledger.all_get Ledger.all_set Ledger.chain_get Ledger.chain_set Ledger.st_get Ledger.st_set Ledger.height_get Ledger.height_set Ledger.open__get Ledger.open__set Ledger.gasLimit_get Ledger.gasLimit_set Ledger.past_get Ledger.past_set Ledger.begun_get Ledger.begun_set Ledger.sent_get Ledger.sent_set Ledger.took_get Ledger.took_set Ledger.receipts_get Ledger.receipts_set Ledger.st_kv_get Ledger.st_kv_set Ledger.st_tree_get Ledger.st_tree_set Ledger.st_stale_get Ledger.st_stale_set Ledger.st_touched_get Ledger.st_touched_set Ledger.st_kv_now_get Ledger.st_kv_now_set Ledger.st_kv_saved_get Ledger.st_kv_saved_set Ledger.st_tree_leaves_get Ledger.st_tree_leaves_set Ledger.past_ring_get Ledger.past_ring_set Ledger.past_closed_get Ledger.past_closed_set Ledger.begun_kv_get Ledger.begun_kv_set Ledger.begun_tree_get Ledger.begun_tree_set Ledger.begun_stale_get Ledger.begun_stale_set Ledger.begun_touched_get Ledger.begun_touched_set Ledger.begun_kv_now_get Ledger.begun_kv_now_set Ledger.begun_kv_saved_get Ledger.begun_kv_saved_set Ledger.begun_tree_leaves_get Ledger.begun_tree_leaves_set Purse.length_enc Purse.ok_enc Purse.all_get Purse.all_set Purse.st_get Purse.st_set Purse.n_get Purse.n_set Purse.account_get Purse.account_set Purse.token_get Purse.token_set Purse.amount_get Purse.amount_set Plan.length_enc Plan.ok_enc Plan.all_get Plan.all_set Plan.purse_get Plan.purse_set Plan.nonce_get Plan.nonce_set Plan.gasUsed_get Plan.gasUsed_set Plan.fees_get Plan.fees_set Plan.hasSupply_get Plan.hasSupply_set Plan.token_get Plan.token_set Plan.supply_get Plan.supply_set Plan.flowAt_get Plan.flowAt_set Plan.flow_get Plan.flow_set Plan.receipt_get Plan.receipt_set Plan.purse_st_get Plan.purse_st_set Plan.purse_n_get Plan.purse_n_set Plan.purse_account_get Plan.purse_account_set Plan.purse_token_get Plan.purse_token_set Plan.purse_amount_get Plan.purse_amount_set Plan.receipt_code_get Plan.receipt_code_set Plan.receipt_hash_get Plan.receipt_hash_set Plan.receipt_index_get Plan.receipt_index_set Plan.receipt_gas_get Plan.receipt_gas_set Plan.receipt_fee_get Plan.receipt_fee_set Plan.receipt_hasSent_get Plan.receipt_hasSent_set Plan.receipt_sent_get Plan.receipt_sent_set Plan.receipt_hasTook_get Plan.receipt_hasTook_set Plan.receipt_took_get Plan.receipt_took_set Plan.receipt_sent_kind_get Plan.receipt_sent_kind_set Plan.receipt_sent_from__get Plan.receipt_sent_from__set Plan.receipt_sent_to__get Plan.receipt_sent_to__set Plan.receipt_sent_sender_get Plan.receipt_sent_sender_set Plan.receipt_sent_receiver_get Plan.receipt_sent_receiver_set Plan.receipt_sent_seq_get Plan.receipt_sent_seq_set Plan.receipt_sent_token_get Plan.receipt_sent_token_set Plan.receipt_sent_amount_get Plan.receipt_sent_amount_set Plan.receipt_sent_size_get Plan.receipt_sent_size_set Plan.receipt_sent_payload_get Plan.receipt_sent_payload_set Plan.receipt_took_kind_get Plan.receipt_took_kind_set Plan.receipt_took_from__get Plan.receipt_took_from__set Plan.receipt_took_to__get Plan.receipt_took_to__set Plan.receipt_took_sender_get Plan.receipt_took_sender_set Plan.receipt_took_receiver_get Plan.receipt_took_receiver_set Plan.receipt_took_seq_get Plan.receipt_took_seq_set Plan.receipt_took_token_get Plan.receipt_took_token_set Plan.receipt_took_amount_get Plan.receipt_took_amount_set Plan.receipt_took_size_get Plan.receipt_took_size_set Plan.receipt_took_payload_get Plan.receipt_took_payload_set Move.length_enc Move.ok_enc Move.all_get Move.all_set Move.account_get Move.account_set Move.token_get Move.token_set Move.down_get Move.down_set Move.amount_get Move.amount_set Books.length_enc Books.ok_enc Books.all_get Books.all_set Books.sums_get Books.sums_set Books.stored_get Books.stored_set Books.marks_get Books.marks_set Pair.length_enc Pair.ok_enc Pair.all_get Pair.all_set Pair.key_get Pair.key_set Pair.value_get Pair.value_set
attribute [local go_sem] size_put size_ext blk_put free_put blk_alloc free_alloc blk_drew free_drew blk_ext free_ext lookOr_some putOr_some segAt_some cellAt_some storeIn_some put_put put_alloc_new length_arr ok_arr_u8 ok_arr_u32 ok_arr_u64 ok_arr_i64 ok_arr_sl cellsV_agg cellsV_int cellsV_bool cellsV_string cellsV_pointer cellsV_slice cellsV_sl ok_int ok_bool ok_string ok_pointer ok_slice ok_sl toList_arr seg_arr set_arr nth_splice nth_splice0 seg_splice seg_splice0 splice_splice splice_splice0 length_splice_if
attribute [local go_sem ↓] execOp_box
attribute [local go_sem] box_run nth_arr_u8 put_arr_u8 blk_drewN free_drewN put_drewN blk_raw free_raw
/-- A ledger that is being made in new memory. -/
def CoI (O : Own) (W : World) (bc : Nat) (L : PLg) (V : World) : Prop := W.Extends V ∧ W.heap.size ≤ bc ∧ ∃ O', (∀ k, k < W.heap.size → O' k = O k) ∧ LedA O' V bc L
section
variable {O : Own} {V V' W : World} {bc : Nat} {L : PLg}
theorem CoI.ext (h : CoI O W bc L V) (he : V.Extends V') : CoI O W bc L V' := by
  obtain ⟨h1, h2, O', h3, h4⟩ := h
  exact ⟨h1.trans he, h2, _, fun k hk => (lab_lt (Nat.lt_of_lt_of_le hk h1.size)).trans (h3 k hk), h4.ext he⟩
theorem CoI.st (h : CoI O W bc L V) (he : V.Extends V') {S : PSt} {sn' ss' : Sl} (hN : NewRows V V' sn' ss' S.now S.saved) (hm : S.now.length ≤ 1000000000) (hd : S.saved.length ≤ 8) : ∃ R : Ledger, blk V' bc = some R.enc ∧ free V' bc = true ∧ CoI O W bc { L with st := S } (Blk.put V' bc ({ R with st := gOf S sn' ss' } : Ledger).enc) := by
  obtain ⟨h1, h2, O', h3, sn, ss, bn, ms, mt, mr, h4⟩ := h
  obtain ⟨O1, hO1, hr, hs⟩ := hN.take he O' bc
  have g := h4.grow he hO1
  have hpk : Lg (fun l => l = .a bc 0) O1 V' O1 (Blk.put V' bc ({ lgOf L sn ss bn ms mt mr with st := gOf S sn' ss' } : Ledger).enc) := Lg.put (P := fun l => l = .a bc 0) (Lg.refl _ _ _) g.hlab _
  have nz : ∀ i, i ≠ 0 → ¬ (Lab.a bc i = .a bc 0) := fun i hi e => hi (Lab.a.inj e).2
  refine ⟨_, g.hblk, g.hfree, extends_put (h1.trans he) h2 _, h2, O1, fun k hk => (hO1 k (Nat.lt_of_lt_of_le hk h1.size)).trans (h3 k hk), sn', ss', bn, ms, mt, mr, ?_, by rw [free_put]; exact g.hfree, g.hlab, RowL.lg hr hpk (nz _ (by omega)), hs.lg hpk (nz _ (by omega)) (fun i => nz _ (by omega)), RowL.lg g.bgn hpk (nz _ (by omega)), g.bgs, RowL.lg g.msn hpk (nz _ (by omega)), RowL.lg g.mtk hpk (nz _ (by omega)), RowL.lg g.mrc hpk (nz _ (by omega)), hm, hd⟩
  rw [blk_put, if_pos rfl, g.hblk]
  rfl
theorem CoI.beg (h : CoI O W bc L V) (he : V.Extends V') {S : PSt} {sn' : Sl} (hN : NewRows V V' sn' nilT S.now []) (hs0 : S.saved = []) : ∃ R : Ledger, blk V' bc = some R.enc ∧ free V' bc = true ∧ CoI O W bc { L with begun := S } (Blk.put V' bc ({ R with begun := gOf S sn' nilT } : Ledger).enc) := by
  obtain ⟨h1, h2, O', h3, sn, ss, bn, ms, mt, mr, h4⟩ := h
  obtain ⟨O1, hO1, hr⟩ := hN.takeNow O' (.a bc 6)
  have g := h4.grow he hO1
  have hpk : Lg (fun l => l = .a bc 0) O1 V' O1 (Blk.put V' bc ({ lgOf L sn ss bn ms mt mr with begun := gOf S sn' nilT } : Ledger).enc) := Lg.put (P := fun l => l = .a bc 0) (Lg.refl _ _ _) g.hlab _
  have nz : ∀ i, i ≠ 0 → ¬ (Lab.a bc i = .a bc 0) := fun i hi e => hi (Lab.a.inj e).2
  refine ⟨_, g.hblk, g.hfree, extends_put (h1.trans he) h2 _, h2, O1, fun k hk => (hO1 k (Nat.lt_of_lt_of_le hk h1.size)).trans (h3 k hk), sn, ss, sn', ms, mt, mr, ?_, by rw [free_put]; exact g.hfree, g.hlab, RowL.lg g.now hpk (nz _ (by omega)), g.sav.lg hpk (nz _ (by omega)) (fun i => nz _ (by omega)), RowL.lg hr hpk (nz _ (by omega)), hs0, RowL.lg g.msn hpk (nz _ (by omega)), RowL.lg g.mtk hpk (nz _ (by omega)), RowL.lg g.mrc hpk (nz _ (by omega)), g.sml, g.dep⟩
  rw [blk_put, if_pos rfl, g.hblk]
  rfl
theorem CoI.sent (h : CoI O W bc L V) {a : Option Addr} {n c : Nat} {K : List Message} (hG : OutG Message.enc 41 38 V V' a n c K) : ∃ R : Ledger, blk V' bc = some R.enc ∧ free V' bc = true ∧ CoI O W bc { L with sent := K } (Blk.put V' bc ({ R with sent := ⟨a, n, c⟩ } : Ledger).enc) := by
  have row_new : OutG Message.enc 41 38 V V' a n c K → ∀ {O' : Own}, RowL 0 (lab O' V.heap.size (.a bc 3)) (.a bc 3) V' 38 41 (.slice a n c) K.length (K.flatMap Message.enc) := fun hG _ => ⟨row_base hG.1 (Nat.zero_le _), fun k hk => lab_ge (row_at hG.1 k hk).1⟩
  obtain ⟨h1, h2, O', h3, sn, ss, bn, ms, mt, mr, h4⟩ := h
  have he := hG.2.1
  have g := h4.grow (O' := lab O' V.heap.size (.a bc 3)) he (fun k hk => lab_lt hk)
  have hpk : Lg (fun l => l = .a bc 0) (lab O' V.heap.size (.a bc 3)) V' (lab O' V.heap.size (.a bc 3)) (Blk.put V' bc ({ lgOf L sn ss bn ms mt mr with sent := ⟨a, n, c⟩ } : Ledger).enc) := Lg.put (P := fun l => l = .a bc 0) (Lg.refl _ _ _) g.hlab _
  have nz : ∀ i, i ≠ 0 → ¬ (Lab.a bc i = .a bc 0) := fun i hi e => hi (Lab.a.inj e).2
  refine ⟨_, g.hblk, g.hfree, extends_put (h1.trans he) h2 _, h2, _, fun k hk => (lab_lt (Nat.lt_of_lt_of_le hk h1.size)).trans (h3 k hk), sn, ss, bn, ⟨a, n, c⟩, mt, mr, ?_, by rw [free_put]; exact g.hfree, g.hlab, RowL.lg g.now hpk (nz _ (by omega)), g.sav.lg hpk (nz _ (by omega)) (fun i => nz _ (by omega)), RowL.lg g.bgn hpk (nz _ (by omega)), g.bgs, RowL.lg (row_new hG) hpk (nz _ (by omega)), RowL.lg g.mtk hpk (nz _ (by omega)), RowL.lg g.mrc hpk (nz _ (by omega)), g.sml, g.dep⟩
  rw [blk_put, if_pos rfl, g.hblk]
  rfl
theorem CoI.took (h : CoI O W bc L V) {a : Option Addr} {n c : Nat} {K : List Message} (hG : OutG Message.enc 41 38 V V' a n c K) : ∃ R : Ledger, blk V' bc = some R.enc ∧ free V' bc = true ∧ CoI O W bc { L with took := K } (Blk.put V' bc ({ R with took := ⟨a, n, c⟩ } : Ledger).enc) := by
  have row_new : OutG Message.enc 41 38 V V' a n c K → ∀ {O' : Own}, RowL 0 (lab O' V.heap.size (.a bc 4)) (.a bc 4) V' 38 41 (.slice a n c) K.length (K.flatMap Message.enc) := fun hG _ => ⟨row_base hG.1 (Nat.zero_le _), fun k hk => lab_ge (row_at hG.1 k hk).1⟩
  obtain ⟨h1, h2, O', h3, sn, ss, bn, ms, mt, mr, h4⟩ := h
  have he := hG.2.1
  have g := h4.grow (O' := lab O' V.heap.size (.a bc 4)) he (fun k hk => lab_lt hk)
  have hpk : Lg (fun l => l = .a bc 0) (lab O' V.heap.size (.a bc 4)) V' (lab O' V.heap.size (.a bc 4)) (Blk.put V' bc ({ lgOf L sn ss bn ms mt mr with took := ⟨a, n, c⟩ } : Ledger).enc) := Lg.put (P := fun l => l = .a bc 0) (Lg.refl _ _ _) g.hlab _
  have nz : ∀ i, i ≠ 0 → ¬ (Lab.a bc i = .a bc 0) := fun i hi e => hi (Lab.a.inj e).2
  refine ⟨_, g.hblk, g.hfree, extends_put (h1.trans he) h2 _, h2, _, fun k hk => (lab_lt (Nat.lt_of_lt_of_le hk h1.size)).trans (h3 k hk), sn, ss, bn, ms, ⟨a, n, c⟩, mr, ?_, by rw [free_put]; exact g.hfree, g.hlab, RowL.lg g.now hpk (nz _ (by omega)), g.sav.lg hpk (nz _ (by omega)) (fun i => nz _ (by omega)), RowL.lg g.bgn hpk (nz _ (by omega)), g.bgs, RowL.lg g.msn hpk (nz _ (by omega)), RowL.lg (row_new hG) hpk (nz _ (by omega)), RowL.lg g.mrc hpk (nz _ (by omega)), g.sml, g.dep⟩
  rw [blk_put, if_pos rfl, g.hblk]
  rfl
theorem CoI.receipts (h : CoI O W bc L V) {a : Option Addr} {n c : Nat} {K : List Receipt} (hG : OutG Receipt.enc 120 120 V V' a n c K) : ∃ R : Ledger, blk V' bc = some R.enc ∧ free V' bc = true ∧ CoI O W bc { L with receipts := K } (Blk.put V' bc ({ R with receipts := ⟨a, n, c⟩ } : Ledger).enc) := by
  have row_new : OutG Receipt.enc 120 120 V V' a n c K → ∀ {O' : Own}, RowL 0 (lab O' V.heap.size (.a bc 5)) (.a bc 5) V' 120 120 (.slice a n c) K.length (K.flatMap Receipt.enc) := fun hG _ => ⟨row_base hG.1 (Nat.zero_le _), fun k hk => lab_ge (row_at hG.1 k hk).1⟩
  obtain ⟨h1, h2, O', h3, sn, ss, bn, ms, mt, mr, h4⟩ := h
  have he := hG.2.1
  have g := h4.grow (O' := lab O' V.heap.size (.a bc 5)) he (fun k hk => lab_lt hk)
  have hpk : Lg (fun l => l = .a bc 0) (lab O' V.heap.size (.a bc 5)) V' (lab O' V.heap.size (.a bc 5)) (Blk.put V' bc ({ lgOf L sn ss bn ms mt mr with receipts := ⟨a, n, c⟩ } : Ledger).enc) := Lg.put (P := fun l => l = .a bc 0) (Lg.refl _ _ _) g.hlab _
  have nz : ∀ i, i ≠ 0 → ¬ (Lab.a bc i = .a bc 0) := fun i hi e => hi (Lab.a.inj e).2
  refine ⟨_, g.hblk, g.hfree, extends_put (h1.trans he) h2 _, h2, _, fun k hk => (lab_lt (Nat.lt_of_lt_of_le hk h1.size)).trans (h3 k hk), sn, ss, bn, ms, mt, ⟨a, n, c⟩, ?_, by rw [free_put]; exact g.hfree, g.hlab, RowL.lg g.now hpk (nz _ (by omega)), g.sav.lg hpk (nz _ (by omega)) (fun i => nz _ (by omega)), RowL.lg g.bgn hpk (nz _ (by omega)), g.bgs, RowL.lg g.msn hpk (nz _ (by omega)), RowL.lg g.mtk hpk (nz _ (by omega)), RowL.lg (row_new hG) hpk (nz _ (by omega)), g.sml, g.dep⟩
  rw [blk_put, if_pos rfl, g.hblk]
  rfl
end
/-- Clone, plainly. -/
def cloL (L : PLg) : PLg := { L with sent := L.sent.take (ldF L.st.now (keyC 4)).toNat, took := L.took.take (ldF L.st.now (keyC 5)).toNat, receipts := L.receipts.take (ldF L.st.now (keyC 3)).toNat }
/-- What Clone needs. -/
structure ClI (L : PLg) : Prop where
  api : ApI L
  ms : ∀ l ∈ L.st.saved, l.length ≤ 1000000000
  mb : L.begun.now.length ≤ 1000000000
def cl0 (L : PLg) : PLg := { L with st := zS, begun := zS, sent := [], took := [], receipts := [] }
theorem cl0_gOf (L : PLg) : ({ Ledger.zero with chain := L.chain, height := L.height, open_ := L.open_, gasLimit := L.gasLimit, past := L.past } : Ledger) = lgOf (cl0 L) nilS nilS nilS nilS nilS nilS := rfl
theorem CoI.start {O : Own} {W : World} (L : PLg) : CoI O W W.heap.size (cl0 L) (W.alloc (.cells (lgOf (cl0 L) nilS nilS nilS nilS nilS nilS).enc.toArray 184)) := by
  have he : W.Extends (W.alloc (.cells (lgOf (cl0 L) nilS nilS nilS nilS nilS nilS).enc.toArray 184)) := extends_alloc (ext_Ext (Ext.refl _)) _
  exact ⟨he, Nat.le_refl _, lab O W.heap.size (.a W.heap.size 0), fun k hk => lab_lt hk, nilS, nilS, nilS, nilS, nilS, nilS, by rw [blk_alloc, if_pos rfl], by rw [free_alloc, if_pos rfl], lab_ge (Nat.le_refl _), RowL.nil _ _ _ _ _ _, ⟨[], RowL.nil _ _ _ _ _ _, rfl, fun i k l e1 => by simp at e1⟩, RowL.nil _ _ _ _ _ _, rfl, RowL.nil _ _ _ _ _ _, RowL.nil _ _ _ _ _ _, RowL.nil _ _ _ _ _ _, Nat.zero_le _, Nat.zero_le _⟩
theorem CoI.old {O : Own} {W V : World} {bc bl : Nat} {L L0 : PLg} (h : CoI O W bc L V) (h0 : LedA O W bl L0) : ∃ O', LedA O' V bl L0 := by
  obtain ⟨h1, h2, O', h3, h4⟩ := h
  exact ⟨O', h0.grow h1 h3⟩
theorem ext_of_drew {W V : World} (h : W.drew.Extends V) : W.Extends V := (extends_drewN (ext_Ext (Ext.refl W)) 1).trans h
attribute [local go_sem ↓] execOp_build execOp_bslice execOp_slice execOp_make
attribute [local go_sem] build184c sent_sl took_sl rcpt_sl
set_option maxRecDepth 20000 in
set_option maxHeartbeats 1000000 in
theorem clone42_any (O : Own) (W : World) (bl : Nat) (L : PLg) (hL : LedA O W bl L) (hI : ClI L) : Calls Tryz.prog 42 #[.pointer (some ⟨bl, 0, none⟩)] W fun e V => ∃ bc, e = .returned (.pointer (some ⟨bc, 0, none⟩)) ∧ CoI O W bc (cloL L) V := by
  obtain ⟨Q, hQ⟩ : ∃ Q : Ending → World → Prop, Q = fun e V => ∃ bc, e = .returned (.pointer (some ⟨bc, 0, none⟩)) ∧ CoI O W bc (cloL L) V := ⟨_, rfl⟩
  rw [← hQ]
  have HQ := hid_of hQ
  have HL := hid_of hL
  have HI := hid_of hI
  obtain ⟨sn, ss, bn, ms, mt, mr, h⟩ := hL
  obtain ⟨R, hR⟩ : ∃ R, R = lgOf L sn ss bn ms mt mr := ⟨_, rfl⟩
  have kl : blk W bl = some R.enc := by rw [hR]; exact h.hblk
  have r1 : R.chain = L.chain := by rw [hR]; rfl
  have r2 : R.height = L.height := by rw [hR]; rfl
  have r3 : R.open_ = L.open_ := by rw [hR]; rfl
  have r4 : R.gasLimit = L.gasLimit := by rw [hR]; rfl
  have r5 : R.past = L.past := by rw [hR]; rfl
  obtain ⟨W1, hW1⟩ : ∃ W1 : World, W1 = W.drew.alloc (.cells (lgOf (cl0 L) nilS nilS nilS nilS nilS nilS).enc.toArray 184) := ⟨_, rfl⟩
  have hC1 : CoI O W.drew W.heap.size (cl0 L) W1 := by rw [hW1]; exact CoI.start L
  have hb1 := cl0_gOf L
  have HW1 := hid_of hW1
  have HB1 := hid_of hb1
  have HH := hid_of h
  have HR := hid_of hR
  clear hI hQ hW1 hb1 h hR
  go_enter Tryz.func42, Tryz.ntmps42
  go_upto_region 1 with fail
  repeat go_step
  refine wp_region_F 22 (fun W' => blk W' bl = some R.enc) (by kernel_rfl) kl (fun hHeld => ?_)
  refine wpAnyF_take (i := 0) (oi := ⟨_, _, _, _, _, _⟩) (v := ?_) rfl (by kernel_rfl) (by kernel_rfl) (by kernel_rfl) (by kernel_rfl) (by kernel_rfl) (fun _ _ _ h => h) (Or.inl ⟨by rfl, ?_⟩) (by assumption) ?_
  rotate_left 1
  · intro W' hSw
    go_simp
    try with_reducible rfl
  try simp only [Act.put, List.setIfInBounds_toArray, List.set_cons_zero, List.set_cons_succ]
  refine wpAnyF_take (i := 1) (oi := ⟨_, _, _, _, _, _⟩) (v := ?_) rfl (by kernel_rfl) (by kernel_rfl) (by kernel_rfl) (by kernel_rfl) (by kernel_rfl) (fun _ _ _ h => h) (Or.inl ⟨by rfl, ?_⟩) (by assumption) ?_
  rotate_left 1
  · intro W' hSw
    go_simp
    try with_reducible rfl
  try simp only [Act.put, List.setIfInBounds_toArray, List.set_cons_zero, List.set_cons_succ]
  refine wpAnyF_take (i := 2) (oi := ⟨_, _, _, _, _, _⟩) (v := ?_) rfl (by kernel_rfl) (by kernel_rfl) (by kernel_rfl) (by kernel_rfl) (by kernel_rfl) (fun _ _ _ h => h) (Or.inl ⟨by rfl, ?_⟩) (by assumption) ?_
  rotate_left 1
  · intro W' hSw
    go_simp
    try with_reducible rfl
  try simp only [Act.put, List.setIfInBounds_toArray, List.set_cons_zero, List.set_cons_succ]
  refine wpAnyF_take (i := 3) (oi := ⟨_, _, _, _, _, _⟩) (v := ?_) rfl (by kernel_rfl) (by kernel_rfl) (by kernel_rfl) (by kernel_rfl) (by kernel_rfl) (fun _ _ _ h => h) (Or.inl ⟨by rfl, ?_⟩) (by assumption) ?_
  rotate_left 1
  · intro W' hSw
    go_simp
    try with_reducible rfl
  try simp only [Act.put, List.setIfInBounds_toArray, List.set_cons_zero, List.set_cons_succ]
  refine wpAnyF_take (i := 4) (oi := ⟨_, _, _, _, _, _⟩) (v := ?_) rfl (by kernel_rfl) (by kernel_rfl) (by kernel_rfl) (by kernel_rfl) (by kernel_rfl) (fun _ _ _ h => h) (Or.inl ⟨by rfl, ?_⟩) (by assumption) ?_
  rotate_left 1
  · intro W' hSw
    go_simp
    try with_reducible rfl
  try simp only [Act.put, List.setIfInBounds_toArray, List.set_cons_zero, List.set_cons_succ]
  refine wpAnyF_take (i := 5) (oi := ⟨_, _, _, _, _, _⟩) (v := ?_) rfl (by kernel_rfl) (by kernel_rfl) (by kernel_rfl) (by kernel_rfl) (by kernel_rfl) (fun _ _ _ h => h) (Or.inl ⟨by rfl, ?_⟩) (by assumption) ?_
  rotate_left 1
  · intro W' hSw
    go_simp
    try with_reducible rfl
  try simp only [Act.put, List.setIfInBounds_toArray, List.set_cons_zero, List.set_cons_succ]
  refine wpAnyF_take (i := 6) (oi := ⟨_, _, _, _, _, _⟩) (v := ?_) rfl (by kernel_rfl) (by kernel_rfl) (by kernel_rfl) (by kernel_rfl) (by kernel_rfl) (fun _ _ _ h => h) (Or.inl ⟨by rfl, ?_⟩) (by assumption) ?_
  rotate_left 1
  · intro W' hSw
    go_simp
    try with_reducible rfl
  try simp only [Act.put, List.setIfInBounds_toArray, List.set_cons_zero, List.set_cons_succ]
  refine wpAnyF_take (i := 7) (oi := ⟨_, _, _, _, _, _⟩) (v := ?_) rfl (by kernel_rfl) (by kernel_rfl) (by kernel_rfl) (by kernel_rfl) (by kernel_rfl) (fun _ _ _ h => h) (Or.inl ⟨by rfl, ?_⟩) (by assumption) ?_
  rotate_left 1
  · intro W' hSw
    go_simp
    try with_reducible rfl
  try simp only [Act.put, List.setIfInBounds_toArray, List.set_cons_zero, List.set_cons_succ]
  refine wpAnyF_take (i := 8) (oi := ⟨_, _, _, _, _, _⟩) (v := ?_) rfl (by kernel_rfl) (by kernel_rfl) (by kernel_rfl) (by kernel_rfl) (by kernel_rfl) (fun _ _ _ h => h) (Or.inl ⟨by rfl, ?_⟩) (by assumption) ?_
  rotate_left 1
  · intro W' hSw
    go_simp
    try with_reducible rfl
  try simp only [Act.put, List.setIfInBounds_toArray, List.set_cons_zero, List.set_cons_succ]
  refine wpAnyF_take (i := 9) (oi := ⟨_, _, _, _, _, _⟩) (v := ?_) rfl (by kernel_rfl) (by kernel_rfl) (by kernel_rfl) (by kernel_rfl) (by kernel_rfl) (fun _ _ _ h => h) (Or.inl ⟨by rfl, ?_⟩) (by assumption) ?_
  rotate_left 1
  · intro W' hSw
    go_simp
    try with_reducible rfl
  try simp only [Act.put, List.setIfInBounds_toArray, List.set_cons_zero, List.set_cons_succ]
  refine wpAnyF_take (i := 10) (oi := ⟨_, _, _, _, _, _⟩) (v := ?_) rfl (by kernel_rfl) (by kernel_rfl) (by kernel_rfl) (by kernel_rfl) (by kernel_rfl) (fun _ _ _ h => h) (Or.inl ⟨by rfl, ?_⟩) (by assumption) ?_
  rotate_left 1
  · intro W' hSw
    go_simp
    try with_reducible rfl
  try simp only [Act.put, List.setIfInBounds_toArray, List.set_cons_zero, List.set_cons_succ]
  refine wpAnyF_take (i := 11) (oi := ⟨_, _, _, _, _, _⟩) (v := ?_) rfl (by kernel_rfl) (by kernel_rfl) (by kernel_rfl) (by kernel_rfl) (by kernel_rfl) (fun _ _ _ h => h) (Or.inl ⟨by rfl, ?_⟩) (by assumption) ?_
  rotate_left 1
  · intro W' hSw
    go_simp
    try with_reducible rfl
  try simp only [Act.put, List.setIfInBounds_toArray, List.set_cons_zero, List.set_cons_succ]
  refine wpAnyF_take (i := 12) (oi := ⟨_, _, _, _, _, _⟩) (v := ?_) rfl (by kernel_rfl) (by kernel_rfl) (by kernel_rfl) (by kernel_rfl) (by kernel_rfl) (fun _ _ _ h => h) (Or.inl ⟨by rfl, ?_⟩) (by assumption) ?_
  rotate_left 1
  · intro W' hSw
    go_simp
    try with_reducible rfl
  try simp only [Act.put, List.setIfInBounds_toArray, List.set_cons_zero, List.set_cons_succ]
  refine wpAnyF_take (i := 13) (oi := ⟨_, _, _, _, _, _⟩) (v := ?_) rfl (by kernel_rfl) (by kernel_rfl) (by kernel_rfl) (by kernel_rfl) (by kernel_rfl) (fun _ _ _ h => h) (Or.inl ⟨by rfl, ?_⟩) (by assumption) ?_
  rotate_left 1
  · intro W' hSw
    go_simp
    try with_reducible rfl
  try simp only [Act.put, List.setIfInBounds_toArray, List.set_cons_zero, List.set_cons_succ]
  refine wpAnyF_take (i := 14) (oi := ⟨_, _, _, _, _, _⟩) (v := ?_) rfl (by kernel_rfl) (by kernel_rfl) (by kernel_rfl) (by kernel_rfl) (by kernel_rfl) (fun _ _ _ h => h) (Or.inl ⟨by rfl, ?_⟩) (by assumption) ?_
  rotate_left 1
  · intro W' hSw
    go_simp
    try with_reducible rfl
  try simp only [Act.put, List.setIfInBounds_toArray, List.set_cons_zero, List.set_cons_succ]
  refine wpAnyF_take (i := 15) (oi := ⟨_, _, _, _, _, _⟩) (v := ?_) rfl (by kernel_rfl) (by kernel_rfl) (by kernel_rfl) (by kernel_rfl) (by kernel_rfl) (fun _ _ _ h => h) (Or.inl ⟨by rfl, ?_⟩) (by assumption) ?_
  rotate_left 1
  · intro W' hSw
    go_simp
    try with_reducible rfl
  try simp only [Act.put, List.setIfInBounds_toArray, List.set_cons_zero, List.set_cons_succ]
  refine wpAnyF_take (i := 16) (oi := ⟨_, _, _, _, _, _⟩) (v := ?_) rfl (by kernel_rfl) (by kernel_rfl) (by kernel_rfl) (by kernel_rfl) (by kernel_rfl) (fun _ _ _ h => h) (Or.inl ⟨by rfl, ?_⟩) (by assumption) ?_
  rotate_left 1
  · intro W' hSw
    go_simp
    try with_reducible rfl
  try simp only [Act.put, List.setIfInBounds_toArray, List.set_cons_zero, List.set_cons_succ]
  refine wpAnyF_take (i := 17) (oi := ⟨_, _, _, _, _, _⟩) (v := ?_) rfl (by kernel_rfl) (by kernel_rfl) (by kernel_rfl) (by kernel_rfl) (by kernel_rfl) (fun _ _ _ h => h) (Or.inl ⟨by rfl, ?_⟩) (by assumption) ?_
  rotate_left 1
  · intro W' hSw
    go_simp
    try with_reducible rfl
  try simp only [Act.put, List.setIfInBounds_toArray, List.set_cons_zero, List.set_cons_succ]
  refine wpAnyF_take (i := 18) (oi := ⟨_, _, _, _, _, _⟩) (v := ?_) rfl (by kernel_rfl) (by kernel_rfl) (by kernel_rfl) (by kernel_rfl) (by kernel_rfl) (fun _ _ _ h => h) (Or.inl ⟨by rfl, ?_⟩) (by assumption) ?_
  rotate_left 1
  · intro W' hSw
    go_simp
    try with_reducible rfl
  try simp only [Act.put, List.setIfInBounds_toArray, List.set_cons_zero, List.set_cons_succ]
  refine wpAnyF_take (i := 19) (oi := ⟨_, _, _, _, _, _⟩) (v := ?_) rfl (by kernel_rfl) (by kernel_rfl) (by kernel_rfl) (by kernel_rfl) (by kernel_rfl) (fun _ _ _ h => h) (Or.inl ⟨by rfl, ?_⟩) (by assumption) ?_
  rotate_left 1
  · intro W' hSw
    go_simp
    try with_reducible rfl
  try simp only [Act.put, List.setIfInBounds_toArray, List.set_cons_zero, List.set_cons_succ]
  refine wpAnyF_take (i := 20) (oi := ⟨_, _, _, _, _, _⟩) (v := ?_) rfl (by kernel_rfl) (by kernel_rfl) (by kernel_rfl) (by kernel_rfl) (by kernel_rfl) (fun _ _ _ h => h) (Or.inl ⟨by rfl, ?_⟩) (by assumption) ?_
  rotate_left 1
  · intro W' hSw
    go_simp
    try with_reducible rfl
  try simp only [Act.put, List.setIfInBounds_toArray, List.set_cons_zero, List.set_cons_succ]
  refine wpAnyF_one (o := ⟨_, _, _, _, _, _⟩) (i := 21) (by kernel_rfl) rfl rfl (fun K' hK => ?_)
  go_simp
  rw [HB1.out]
  rw [show (W.alloc (.cells (lgOf (cl0 L) nilS nilS nilS nilS nilS nilS).enc.toArray 184)).drew = W1 from HW1.out.symm]
  have kl1 : blk W1 bl = some R.enc := (hC1.1.blk (blk_lt kl)).trans kl
  refine hK.out _ _ kl1 (fun hHeld => ?_)
  clear hK K'
  try simp only [Act.put, List.setIfInBounds_toArray, List.set_cons_zero, List.set_cons_succ]
  refine wpAnyF_last (o := ⟨_, _, _, _, _, _⟩) (by kernel_rfl) rfl (fun K' hK => ?_)
  go_simp
  refine hK.out _ _ ?_
  clear hK K'
  try simp only [Act.put, List.setIfInBounds_toArray, List.set_cons_zero, List.set_cons_succ]
  refine wpAnyF_done (by kernel_rfl) ?_ _
  clear hHeld HB1 HW1
  obtain ⟨bc, hbc⟩ : ∃ bc, bc = W.heap.size := ⟨_, rfl⟩
  rw [← hbc] at hC1 ⊢
  clear hbc kl
  have HD := hid_of (HL.out.drew)
  have hcl := clone_any W1 bl 1 R.enc L.st sn ss kl1 (by rw [Ledger.st_get, HR.out]; rfl) (by rw [Ledger.length_enc]; omega) (((RowL.rw Pair.length_enc HH.out.now).1).grow (ext_of_drew hC1.1)) (HH.out.sav.rd.ext (ext_of_drew hC1.1)) HH.out.sml HI.out.ms HH.out.dep
  go_wp2_with fail
  refine hcl.mono ?_
  clear hcl
  rintro e V2 ⟨sn', ss', rfl, hx2, hN2⟩
  dsimp only
  obtain ⟨R2, k2, q2, hC2⟩ := hC1.st (S := L.st) hx2 hN2 HH.out.sml HH.out.dep
  clear hN2 hx2 hC1 kl1
  go_upto_region 3 with fail
  generalize hW2 : Blk.put V2 bc ({ R2 with st := gOf L.st sn' ss' } : Ledger).enc = W2 at hC2 ⊢
  clear hW2 k2 q2
  have kl2 : blk W2 bl = some R.enc := ((ext_of_drew hC2.1).blk (blk_lt HH.out.hblk)).trans (by rw [HR.out]; exact HH.out.hblk)
  have hcl := clone0_any W2 bl 2433 R.enc L.begun bn nilS kl2 (by rw [Ledger.begun_get, HR.out]; rfl) (by rw [Ledger.length_enc]; omega) (((RowL.rw Pair.length_enc HH.out.bgn).1).grow (ext_of_drew hC2.1)) rfl HH.out.bgs HI.out.mb
  go_wp2_with fail
  refine hcl.mono ?_
  clear hcl
  rintro e V3 ⟨bn', rfl, hx3, hN3⟩
  dsimp only
  obtain ⟨R3, k3, q3, hC3⟩ := hC2.beg (S := L.begun) hx3 hN3 HH.out.bgs
  clear hN3 hx3 hC2 kl2
  go_upto_region 4 with fail
  generalize hW3 : Blk.put V3 bc ({ R3 with begun := gOf L.begun bn' nilT } : Ledger).enc = W3 at hC3 ⊢
  clear hW3 k3 q3
  obtain ⟨O3, hL3⟩ := hC3.old HD.out
  have hcl := sent_any O3 W3 bl L hL3 HI.out.api.c4 HI.out.api.l4
  clear hL3
  go_wp2_with fail
  refine hcl.mono ?_
  clear hcl
  rintro e V4 ⟨a4, c4, rfl, hG4⟩
  dsimp only
  obtain ⟨R4, k4, q4, hC4⟩ := hC3.sent hG4
  clear hG4 hC3
  generalize hn4 : (ldF L.st.now (keyC 4)).toNat = n4 at hC4 ⊢
  have HN4 := hid_of hn4
  clear hn4
  go_upto_region 5 with fail
  generalize hW4 : Blk.put V4 bc ({ R4 with sent := ⟨a4, n4, c4⟩ } : Ledger).enc = W4 at hC4 ⊢
  clear hW4 k4 q4
  obtain ⟨O4, hL4⟩ := hC4.old HD.out
  have hcl := took_any O4 W4 bl L hL4 HI.out.api.c5 HI.out.api.l5
  clear hL4
  go_wp2_with fail
  refine hcl.mono ?_
  clear hcl
  rintro e V5 ⟨a5, c5, rfl, hG5⟩
  dsimp only
  obtain ⟨R5, k5, q5, hC5⟩ := hC4.took hG5
  clear hG5 hC4
  generalize hn5 : (ldF L.st.now (keyC 5)).toNat = n5 at hC5 ⊢
  have HN5 := hid_of hn5
  clear hn5
  go_upto_region 6 with fail
  generalize hW5 : Blk.put V5 bc ({ R5 with took := ⟨a5, n5, c5⟩ } : Ledger).enc = W5 at hC5 ⊢
  clear hW5 k5 q5
  obtain ⟨O5, hL5⟩ := hC5.old HD.out
  have hcl := receipts_any O5 W5 bl L hL5 HI.out.api.c3 HI.out.api.l3
  clear hL5
  go_wp2_with fail
  refine hcl.mono ?_
  clear hcl
  rintro e V6 ⟨a6, c6, rfl, hG6⟩
  dsimp only
  obtain ⟨R6, k6, q6, hC6⟩ := hC5.receipts hG6
  clear hG6 hC5
  generalize hn6 : (ldF L.st.now (keyC 3)).toNat = n6 at hC6 ⊢
  have HN6 := hid_of hn6
  clear hn6
  have HP : Hid (Q (.returned (.pointer (some ⟨bc, 0, none⟩))) (Blk.put V6 bc ({ R6 with receipts := ⟨a6, n6, c6⟩ } : Ledger).enc)) := by
    show Q _ _
    rw [HQ.out]
    refine ⟨bc, rfl, ?_⟩
    unfold cloL
    rw [HN4.out, HN5.out, HN6.out]
    obtain ⟨q1, q2, O', q3, q4⟩ := hC6
    exact ⟨ext_of_drew q1, q2, O', q3, q4⟩
  clear hC6 HQ HL HI HH HR HD HN4 HN5 HN6
  go_wp2_with fail
  try (first | go_ret | go_ret2 | go_ret3 | go_end0)
  exact HP.out
end Go.Proofs.Qxb6500786aGreat
