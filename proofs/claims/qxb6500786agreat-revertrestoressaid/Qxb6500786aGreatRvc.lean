import Derived.DeepKeys2
import Derived.Test.Qxb6500786aGreatRvb
import Derived.Test.Qxb6500786aGreatRva
import Derived.Test.Qxb6500786aGreatNj

import Derived.StillTailTactics
import Derived.Deep.QuietTactic
import Derived.BigQuiet
import Derived.Deep.RegionHeld
import Derived.Deep.CutRange
import Derived.Laws.ResultCell
import Derived.Laws.Rows
import Derived.DeepKeys
import Derived.DataBytes
import Derived.Laws.StructEq
import Derived.Laws.AppendOwn
import Derived.Laws.MakeOwn
import Derived.Lib.AppendStr
set_option linter.unusedSimpArgs false
set_option linter.unusedVariables false
namespace Go.Proofs.Qxb6500786aGreat
open Go.RowKit Go.Blk
attribute [local go_sem ↓] execOp_load execOp_store execOp_alloc
attribute [local go_sem] Tryz.ld24 Tryz.st24 Tryz.ld36 Tryz.st36 Tryz.ld28 Tryz.st28 Tryz.ld32 Tryz.st32 Tryz.ld33 Tryz.st33 Tryz.ld34 Tryz.st34 Tryz.ld5 Tryz.st5 Tryz.ld31 Tryz.st31 Tryz.ld30 Tryz.st30 Tryz.ld41 Tryz.st41 Tryz.ld44 Tryz.st44 Tryz.ld4 Tryz.st4 Tryz.ld173 Tryz.st173 Tryz.ld174 Tryz.st174 Tryz.ld95 Tryz.st95 Tryz.ld45 Tryz.st45 Tryz.ld207 Tryz.st207 Tryz.ld3 Tryz.st3 Tryz.ld189 Tryz.st189 Tryz.ld2 Tryz.st2 Tryz.ld9 Tryz.st9 Tryz.ld12 Tryz.st12 Tryz.ld21 Tryz.st21 Tryz.ld22 Tryz.st22 Tryz.ld46 Tryz.st46 Tryz.ld92 Tryz.st92 Tryz.ld94 Tryz.st94 Tryz.ld96 Tryz.st96 Tryz.ld97 Tryz.st97 Tryz.ld105 Tryz.st105 Tryz.ld117 Tryz.st117 Tryz.ld122 Tryz.st122 Tryz.ld123 Tryz.st123 Tryz.ld133 Tryz.st133 Tryz.ld155 Tryz.st155 Tryz.ld163 Tryz.st163 Tryz.ld190 Tryz.st190 Tryz.ld197 Tryz.st197 Tryz.ld201 Tryz.st201 Tryz.ld202 Tryz.st202 Tryz.ld209 Tryz.st209 Tryz.ld216 Tryz.st216 Tryz.ld230 Tryz.st230 Tryz.ld238 Tryz.st238 Tryz.ld242 Tryz.st242 Tryz.ld251 Tryz.st251 Tryz.ld260 Tryz.st260 Tryz.ld286 Tryz.st286 Tryz.ld292 Tryz.st292 Tryz.ld298 Tryz.st298 Tryz.ld309 Tryz.st309 Tryz.ld35 Tryz.st35 Tryz.ld48 Tryz.st48 Tryz.ld47 Tryz.st47 Tryz.ld79 Tryz.st79 Tryz.ld177 Tryz.st177 Tryz.ld180 Tryz.st180 Tryz.ld231 Tryz.st231 Tryz.ld232 Tryz.st232 Tryz.ld26 Tryz.st26 Tryz.ld38 Tryz.st38 Tryz.ld40 Tryz.st40 Tryz.ld43 Tryz.st43 Tryz.ld50 Tryz.st50 Tryz.ld52 Tryz.st52 Tryz.ld54 Tryz.st54 Tryz.ld81 Tryz.st81 Tryz.ld112 Tryz.st112 Tryz.ld120 Tryz.st120 Tryz.ld176 Tryz.st176 Tryz.ld179 Tryz.st179 Tryz.ld182 Tryz.st182 Tryz.ld184 Tryz.st184 Tryz.ld234 Tryz.st234 Tryz.ld236 Tryz.st236 Tryz.ld240 Tryz.st240 Tryz.ld246 Tryz.st246 Tryz.ld249 Tryz.st249 Tryz.al35 Tryz.al48 Tryz.al47 Tryz.al79 Tryz.al177 Tryz.al180 Tryz.al231 Tryz.al232 Tryz.al26 Tryz.al38 Tryz.al40 Tryz.al43 Tryz.al50 Tryz.al52 Tryz.al54 Tryz.al81 Tryz.al112 Tryz.al120 Tryz.al176 Tryz.al179 Tryz.al182 Tryz.al184 Tryz.al234 Tryz.al236 Tryz.al240 Tryz.al246 Tryz.al249
attribute [local go_sem] Player.length_enc Player.ok_enc Player.all_get Player.all_set Player.hand_get Player.hand_set Player.aside_get Player.aside_set Message.length_enc Message.ok_enc Message.all_get Message.all_set Message.kind_get Message.kind_set Message.from__get Message.from__set Message.to__get Message.to__set Message.sender_get Message.sender_set Message.receiver_get Message.receiver_set Message.seq_get Message.seq_set Message.token_get Message.token_set Message.amount_get Message.amount_set Message.size_get Message.size_set Message.payload_get Message.payload_set Tx.length_enc Tx.ok_enc Tx.all_get Tx.all_set Tx.kind_get Tx.kind_set Tx.chain_get Tx.chain_set Tx.from__get Tx.from__set Tx.nonce_get Tx.nonce_set Tx.fee_get Tx.fee_set Tx.to__get Tx.to__set Tx.dest_get Tx.dest_set Tx.token_get Tx.token_set Tx.amount_get Tx.amount_set Tx.size_get Tx.size_set Tx.payload_get Tx.payload_set Tx.msg_get Tx.msg_set Tx.msg_kind_get Tx.msg_kind_set Tx.msg_from__get Tx.msg_from__set Tx.msg_to__get Tx.msg_to__set Tx.msg_sender_get Tx.msg_sender_set Tx.msg_receiver_get Tx.msg_receiver_set Tx.msg_seq_get Tx.msg_seq_set Tx.msg_token_get Tx.msg_token_set Tx.msg_amount_get Tx.msg_amount_set Tx.msg_size_get Tx.msg_size_set Tx.msg_payload_get Tx.msg_payload_set GOp.length_enc GOp.ok_enc GOp.all_get GOp.all_set GOp.kind_get GOp.kind_set GOp.tx_get GOp.tx_set GOp.txs_get GOp.txs_set GOp.gas_get GOp.gas_set GOp.acct_get GOp.acct_set GOp.token_get GOp.token_set GOp.chain_get GOp.chain_set GOp.seq_get GOp.seq_set GOp.tx_kind_get GOp.tx_kind_set GOp.tx_chain_get GOp.tx_chain_set GOp.tx_from__get GOp.tx_from__set GOp.tx_nonce_get GOp.tx_nonce_set GOp.tx_fee_get GOp.tx_fee_set GOp.tx_to__get GOp.tx_to__set GOp.tx_dest_get GOp.tx_dest_set GOp.tx_token_get GOp.tx_token_set GOp.tx_amount_get GOp.tx_amount_set GOp.tx_size_get GOp.tx_size_set GOp.tx_payload_get GOp.tx_payload_set GOp.tx_msg_get GOp.tx_msg_set GOp.tx_msg_kind_get GOp.tx_msg_kind_set GOp.tx_msg_from__get GOp.tx_msg_from__set GOp.tx_msg_to__get GOp.tx_msg_to__set GOp.tx_msg_sender_get GOp.tx_msg_sender_set GOp.tx_msg_receiver_get GOp.tx_msg_receiver_set GOp.tx_msg_seq_get GOp.tx_msg_seq_set GOp.tx_msg_token_get GOp.tx_msg_token_set GOp.tx_msg_amount_get GOp.tx_msg_amount_set GOp.tx_msg_size_get GOp.tx_msg_size_set GOp.tx_msg_payload_get GOp.tx_msg_payload_set Summary.length_enc Summary.ok_enc Summary.all_get Summary.all_set Summary.height_get Summary.height_set Summary.txs_get Summary.txs_set Summary.gas_get Summary.gas_set Summary.fees_get Summary.fees_set Summary.sent_get Summary.sent_set Summary.took_get Summary.took_set Summary.minted_get Summary.minted_set Summary.burned_get Summary.burned_set Summary.root_get Summary.root_set Detail.length_enc Detail.ok_enc Detail.all_get Detail.all_set Detail.code_get Detail.code_set Detail.have__get Detail.have__set Detail.need_get Detail.need_set Slot.length_enc Slot.ok_enc Slot.all_get Slot.all_set Slot.nonce_get Slot.nonce_set Slot.balances_get Slot.balances_set Tree.length_enc Tree.ok_enc Tree.all_get Tree.all_set Tree.leaves_get Tree.leaves_set Mark.length_enc Mark.ok_enc Mark.all_get Mark.all_set Mark.from__get Mark.from__set Mark.seq_get Mark.seq_set Receipt.length_enc Receipt.ok_enc Receipt.all_get Receipt.all_set Receipt.code_get Receipt.code_set Receipt.hash_get Receipt.hash_set Receipt.index_get Receipt.index_set Receipt.gas_get Receipt.gas_set Receipt.fee_get Receipt.fee_set Receipt.hasSent_get Receipt.hasSent_set Receipt.sent_get Receipt.sent_set Receipt.hasTook_get Receipt.hasTook_set Receipt.took_get Receipt.took_set Receipt.sent_kind_get Receipt.sent_kind_set Receipt.sent_from__get Receipt.sent_from__set Receipt.sent_to__get Receipt.sent_to__set Receipt.sent_sender_get Receipt.sent_sender_set Receipt.sent_receiver_get Receipt.sent_receiver_set Receipt.sent_seq_get Receipt.sent_seq_set Receipt.sent_token_get Receipt.sent_token_set Receipt.sent_amount_get Receipt.sent_amount_set Receipt.sent_size_get Receipt.sent_size_set Receipt.sent_payload_get Receipt.sent_payload_set Receipt.took_kind_get Receipt.took_kind_set Receipt.took_from__get Receipt.took_from__set Receipt.took_to__get Receipt.took_to__set Receipt.took_sender_get Receipt.took_sender_set Receipt.took_receiver_get Receipt.took_receiver_set Receipt.took_seq_get Receipt.took_seq_set Receipt.took_token_get Receipt.took_token_set Receipt.took_amount_get Receipt.took_amount_set Receipt.took_size_get Receipt.took_size_set Receipt.took_payload_get Receipt.took_payload_set Store.length_enc Store.ok_enc Store.all_get Store.all_set Store.now_get Store.now_set Store.saved_get Store.saved_set GState.length_enc GState.ok_enc GState.all_get GState.all_set GState.kv_get GState.kv_set GState.tree_get GState.tree_set GState.stale_get GState.stale_set GState.touched_get GState.touched_set GState.kv_now_get GState.kv_now_set GState.kv_saved_get GState.kv_saved_set GState.tree_leaves_get GState.tree_leaves_set History.length_enc History.ok_enc History.all_get History.all_set History.ring_get History.ring_set History.closed_get History.closed_set Ledger.length_enc Ledger.ok_enc Ledger.all_get Ledger.all_set Ledger.chain_get Ledger.chain_set Ledger.st_get Ledger.st_set Ledger.height_get Ledger.height_set Ledger.open__get Ledger.open__set Ledger.gasLimit_get Ledger.gasLimit_set Ledger.past_get Ledger.past_set Ledger.begun_get Ledger.begun_set Ledger.sent_get Ledger.sent_set Ledger.took_get Ledger.took_set Ledger.receipts_get Ledger.receipts_set Ledger.st_kv_get Ledger.st_kv_set Ledger.st_tree_get Ledger.st_tree_set Ledger.st_stale_get Ledger.st_stale_set Ledger.st_touched_get Ledger.st_touched_set Ledger.st_kv_now_get Ledger.st_kv_now_set Ledger.st_kv_saved_get Ledger.st_kv_saved_set Ledger.st_tree_leaves_get Ledger.st_tree_leaves_set Ledger.past_ring_get Ledger.past_ring_set Ledger.past_closed_get Ledger.past_closed_set Ledger.begun_kv_get Ledger.begun_kv_set Ledger.begun_tree_get Ledger.begun_tree_set Ledger.begun_stale_get Ledger.begun_stale_set Ledger.begun_touched_get Ledger.begun_touched_set Ledger.begun_kv_now_get Ledger.begun_kv_now_set Ledger.begun_kv_saved_get Ledger.begun_kv_saved_set Ledger.begun_tree_leaves_get Ledger.begun_tree_leaves_set Purse.length_enc Purse.ok_enc Purse.all_get Purse.all_set Purse.st_get Purse.st_set Purse.n_get Purse.n_set Purse.account_get Purse.account_set Purse.token_get Purse.token_set Purse.amount_get Purse.amount_set Plan.length_enc Plan.ok_enc Plan.all_get Plan.all_set Plan.purse_get Plan.purse_set Plan.nonce_get Plan.nonce_set Plan.gasUsed_get Plan.gasUsed_set Plan.fees_get Plan.fees_set Plan.hasSupply_get Plan.hasSupply_set Plan.token_get Plan.token_set Plan.supply_get Plan.supply_set Plan.flowAt_get Plan.flowAt_set Plan.flow_get Plan.flow_set Plan.receipt_get Plan.receipt_set Plan.purse_st_get Plan.purse_st_set Plan.purse_n_get Plan.purse_n_set Plan.purse_account_get Plan.purse_account_set Plan.purse_token_get Plan.purse_token_set Plan.purse_amount_get Plan.purse_amount_set Plan.receipt_code_get Plan.receipt_code_set Plan.receipt_hash_get Plan.receipt_hash_set Plan.receipt_index_get Plan.receipt_index_set Plan.receipt_gas_get Plan.receipt_gas_set Plan.receipt_fee_get Plan.receipt_fee_set Plan.receipt_hasSent_get Plan.receipt_hasSent_set Plan.receipt_sent_get Plan.receipt_sent_set Plan.receipt_hasTook_get Plan.receipt_hasTook_set Plan.receipt_took_get Plan.receipt_took_set Plan.receipt_sent_kind_get Plan.receipt_sent_kind_set Plan.receipt_sent_from__get Plan.receipt_sent_from__set Plan.receipt_sent_to__get Plan.receipt_sent_to__set Plan.receipt_sent_sender_get Plan.receipt_sent_sender_set Plan.receipt_sent_receiver_get Plan.receipt_sent_receiver_set Plan.receipt_sent_seq_get Plan.receipt_sent_seq_set Plan.receipt_sent_token_get Plan.receipt_sent_token_set Plan.receipt_sent_amount_get Plan.receipt_sent_amount_set Plan.receipt_sent_size_get Plan.receipt_sent_size_set Plan.receipt_sent_payload_get Plan.receipt_sent_payload_set Plan.receipt_took_kind_get Plan.receipt_took_kind_set Plan.receipt_took_from__get Plan.receipt_took_from__set Plan.receipt_took_to__get Plan.receipt_took_to__set Plan.receipt_took_sender_get Plan.receipt_took_sender_set Plan.receipt_took_receiver_get Plan.receipt_took_receiver_set Plan.receipt_took_seq_get Plan.receipt_took_seq_set Plan.receipt_took_token_get Plan.receipt_took_token_set Plan.receipt_took_amount_get Plan.receipt_took_amount_set Plan.receipt_took_size_get Plan.receipt_took_size_set Plan.receipt_took_payload_get Plan.receipt_took_payload_set Move.length_enc Move.ok_enc Move.all_get Move.all_set Move.account_get Move.account_set Move.token_get Move.token_set Move.down_get Move.down_set Move.amount_get Move.amount_set Books.length_enc Books.ok_enc Books.all_get Books.all_set Books.sums_get Books.sums_set Books.stored_get Books.stored_set Books.marks_get Books.marks_set Pair.length_enc Pair.ok_enc Pair.all_get Pair.all_set Pair.key_get Pair.key_set Pair.value_get Pair.value_set
attribute [local go_sem] size_put size_ext blk_put free_put blk_alloc free_alloc blk_drew free_drew blk_ext free_ext lookOr_some putOr_some segAt_some cellAt_some storeIn_some put_put put_alloc_new length_arr ok_arr_u8 ok_arr_u32 ok_arr_u64 ok_arr_i64 ok_arr_sl cellsV_agg cellsV_int cellsV_bool cellsV_string cellsV_pointer cellsV_slice cellsV_sl ok_int ok_bool ok_string ok_pointer ok_slice ok_sl toList_arr seg_arr set_arr nth_splice nth_splice0 seg_splice seg_splice0 splice_splice splice_splice0 length_splice_if
attribute [local go_sem ↓] execOp_box
attribute [local go_sem] box_run nth_arr_u8 put_arr_u8 blk_drewN free_drewN put_drewN blk_raw free_raw
attribute [local go_sem] Tryz.ld61 Tryz.st61 Tryz.ld125 Tryz.st125 Tryz.ld148 Tryz.st148 Tryz.al61 Tryz.al125 Tryz.al148 View.length_enc View.ok_enc View.all_get View.all_set View.chain_get View.chain_set View.balances_get View.balances_set View.nonces_get View.nonces_set View.supply_get View.supply_set View.marks_get View.marks_set View.height_get View.height_set View.open__get View.open__set View.gasLimit_get View.gasLimit_set View.gasUsed_get View.gasUsed_set View.fees_get View.fees_set View.txs_get View.txs_set View.sent_get View.sent_set View.took_get View.took_set View.minted_get View.minted_set View.burned_get View.burned_set View.depth_get View.depth_set Trail.length_enc Trail.ok_enc Trail.all_get Trail.all_set Trail.views_get Trail.views_set Trail.roots_get Trail.roots_set Trail.begunView_get Trail.begunView_set Trail.begunRoot_get Trail.begunRoot_set Trail.begunKnown_get Trail.begunKnown_set Trail.begunView_chain_get Trail.begunView_chain_set Trail.begunView_balances_get Trail.begunView_balances_set Trail.begunView_nonces_get Trail.begunView_nonces_set Trail.begunView_supply_get Trail.begunView_supply_set Trail.begunView_marks_get Trail.begunView_marks_set Trail.begunView_height_get Trail.begunView_height_set Trail.begunView_open__get Trail.begunView_open__set Trail.begunView_gasLimit_get Trail.begunView_gasLimit_set Trail.begunView_gasUsed_get Trail.begunView_gasUsed_set Trail.begunView_fees_get Trail.begunView_fees_set Trail.begunView_txs_get Trail.begunView_txs_set Trail.begunView_sent_get Trail.begunView_sent_set Trail.begunView_took_get Trail.begunView_took_set Trail.begunView_minted_get Trail.begunView_minted_set Trail.begunView_burned_get Trail.begunView_burned_set Trail.begunView_depth_get Trail.begunView_depth_set Dump.length_enc Dump.ok_enc Dump.all_get Dump.all_set Dump.chain_get Dump.chain_set Dump.height_get Dump.height_set Dump.balances_get Dump.balances_set Dump.nonces_get Dump.nonces_set Dump.marks_get Dump.marks_set Dump.history_get Dump.history_set
/-- A trail in memory. -/
def trE (t : PTr) (v r : Sl) : Trail := ⟨v, r, t.bv, t.br, t.bk⟩
theorem Trail.views_sl (x : Trail) (a : Option Addr) (n c : Nat) : splice x.enc 0 [.slice a n c] = ({ x with views := ⟨a, n, c⟩ } : Trail).enc := Trail.views_set x ⟨a, n, c⟩
theorem Trail.roots_sl (x : Trail) (a : Option Addr) (n c : Nat) : splice x.enc 1 [.slice a n c] = ({ x with roots := ⟨a, n, c⟩ } : Trail).enc := Trail.roots_set x ⟨a, n, c⟩
theorem grown_none {W V : World} (h : W.grownBy V none) : W.Extends V := grown_ext (ext_Ext (Ext.refl W)) h (fun k hk => by cases hk)
set_option maxRecDepth 20000 in
set_option maxHeartbeats 1000000 in
theorem trailCopy_any (W : World) (bt : Nat) (T : Trail) (VS : List View) (RS : List Dig) (hb : blk W bt = some T.enc) (hv : Rw View.enc 343 W T.views.a T.views.len VS) (hr : Rw encD 32 W T.roots.a T.roots.len RS) (hs : VS.length ≤ 1000 ∧ RS.length ≤ 1000) : Calls Tryz.prog 60 #[.pointer (some ⟨bt, 0, none⟩)] W fun e V => ∃ a n c a' n' c', e = .returned (.agg ({ T with views := ⟨a, n, c⟩, roots := ⟨a', n', c'⟩ } : Trail).enc.toArray) ∧ OutG View.enc 343 61 W V a n c VS ∧ OutG encD 32 47 W V a' n' c' RS := by
  obtain ⟨Q, hQ⟩ : ∃ Q : Ending → World → Prop, Q = fun e V => ∃ a n c a' n' c', e = .returned (.agg ({ T with views := ⟨a, n, c⟩, roots := ⟨a', n', c'⟩ } : Trail).enc.toArray) ∧ OutG View.enc 343 61 W V a n c VS ∧ OutG encD 32 47 W V a' n' c' RS := ⟨_, rfl⟩
  rw [← hQ]
  have HQ := hid_of hQ
  have HV := hid_of hv
  have HR := hid_of hr
  have nT0 : nth T.enc 0 = some (.slice T.views.a T.views.len T.views.cap) := Trail.views_get T
  have nT1 : nth T.enc 1 = some (.slice T.roots.a T.roots.len T.roots.cap) := Trail.roots_get T
  have lT : T.enc.length = 378 := Trail.length_enc T
  have hltb := blk_lt hb
  have hB0 := ((BxI.start W).box Trail.zero.enc 125).box Trail.zero.enc 125
  rw [World.size_alloc] at hB0
  have hB := hB0.put (C' := T.enc) (fun p hp => by rw [List.mem_singleton.1 hp]; show W.heap.size ≠ W.heap.size + 1; omega)
  obtain ⟨V1, hV1⟩ : ∃ V1 : World, V1 = put ((W.alloc (.cells Trail.zero.enc.toArray 125)).alloc (.cells Trail.zero.enc.toArray 125)) (W.heap.size + 1) T.enc := ⟨_, rfl⟩
  obtain ⟨br, hbr⟩ : ∃ br, br = W.heap.size := ⟨_, rfl⟩
  obtain ⟨bc, hbc⟩ : ∃ bc, bc = W.heap.size + 1 := ⟨_, rfl⟩
  rw [← hV1, ← hbc, ← hbr] at hB
  obtain ⟨T1, hT1⟩ : ∃ T1 : Trail, T1 = { T with views := ⟨none, 0, 0⟩ } := ⟨_, rfl⟩
  have sp1 : splice T.enc 0 [.slice none 0 0] = T1.enc := by rw [hT1]; exact Trail.views_sl T none 0 0
  have hB1 := hB.put (C' := T1.enc) (fun p hp => by rw [List.mem_singleton.1 hp]; show br ≠ bc; omega)
  obtain ⟨V2, hV2⟩ : ∃ V2 : World, V2 = put V1 bc T1.enc := ⟨_, rfl⟩
  rw [← hV2] at hB1
  have kt : blk V1 bt = some T.enc := (hB.1.blk hltb).trans hb
  have kc := (hB.at (b := bc) (C := T.enc) (by simp))
  have HBN : Hid (br ≠ bc ∧ bt ≠ bc ∧ bt ≠ br) := ⟨by omega, by omega, by omega⟩
  have HV1 := hid_of hV1
  have HV2 := hid_of hV2
  have HB : Hid (br = W.heap.size ∧ bc = W.heap.size + 1) := ⟨hbr, hbc⟩
  have HT1 := hid_of hT1
  have HB1 := hid_of hB1
  have HLT : Hid (∀ {U : World}, W.Extends U → blk U bt = some T.enc) := fun he => (he.blk hltb).trans hb
  have n1 : ¬ bt = W.heap.size := by omega
  have n2 : ¬ bt = W.heap.size + 1 := by omega
  clear hQ hv hr hV1 hbr hbc hB hB0 hT1 hltb hB1 hV2
  have nbt : ¬ bt = bc := HBN.out.2.1
  go_enter Tryz.func60, Tryz.ntmps60
  go_upto_region 2 with fail
  rw [← HV1.out, ← HB.out.2, ← HB.out.1]
  clear HV1 HB hb n1 n2
  obtain ⟨fc, qc⟩ : ∃ q : free V1 bc = true, True := ⟨kc.2, trivial⟩
  have kc1 := kc.1
  clear kc
  go_upto_region 3 with fail
  rw [← HV2.out]
  clear HV2 kt kc1 fc qc sp1 nT0 nT1
  have nT0 : nth T.enc 0 = some (.slice T.views.a T.views.len T.views.cap) := Trail.views_get T
  have h3 := HB1.out.drewN 1
  have kc3 := (h3.at (b := bc) (C := T1.enc) (by simp)).1
  have fc3 := (h3.at (b := bc) (C := T1.enc) (by simp)).2
  have kt3 := HLT.out h3.1
  have n10 : nth T1.enc 0 = some (.slice none 0 0) := by rw [Trail.views_get, HT1.out]; rfl
  have l1 : T1.enc.length = 378 := Trail.length_enc _
  obtain ⟨a, c, V4, hrun, hrow, hg, hown⟩ := appV elv122 W.heap.size (V2.drewN 1) (a := none) (n := 0) (c := 0) [] VS T.views.a T.views.cap ⟨by simp, .inl ⟨rfl, rfl⟩⟩ (by have := HV.out.grow h3.1; rw [← this.1] at this; exact this) h3.1.size (by have := hs.1; simp; omega)
  rw [HV.out.1, Nat.zero_add] at hrun hrow hown
  have HOW : Hid (∀ k, (Value.slice a T.views.len c).ownBlock = some k → k ≠ bc) := fun k hk e => by
    subst e
    rcases hown k hk with q | q
    · simp [Value.ownBlock] at q
    · have := blk_lt kc3
      omega
  have HOW2 : Hid (∀ k, (Value.slice a T.views.len c).ownBlock = some k → k ≠ br) := fun k hk e => by
    subst e
    rcases hown k hk with q | q
    · simp [Value.ownBlock] at q
    · have hlt := blk_lt (h3.at (b := k) (C := Trail.zero.enc) (by simp)).1
      omega
  have hx4 := grown_none hg
  have h4 := h3.ext hx4
  have kc4 := (h4.at (b := bc) (C := T1.enc) (by simp)).1
  have fc4 := (h4.at (b := bc) (C := T1.enc) (by simp)).2
  have kt4 := HLT.out h4.1
  obtain ⟨T2, hT2⟩ : ∃ T2 : Trail, T2 = { T1 with views := ⟨a, T.views.len, c⟩ } := ⟨_, rfl⟩
  have sp2 : splice T1.enc 0 [.slice a T.views.len c] = T2.enc := by rw [hT2]; exact Trail.views_sl T1 _ _ _
  have h5 := h4.put (C' := T2.enc) (fun p hp => by rw [List.mem_singleton.1 hp]; exact HBN.out.1)
  obtain ⟨V5, hV5⟩ : ∃ V5 : World, V5 = put V4 bc T2.enc := ⟨_, rfl⟩
  rw [← hV5] at h5
  have hrow5 : OutG View.enc 343 61 W V5 a T.views.len c VS := ⟨by
    rw [List.nil_append] at hrow
    rw [hV5]
    refine row_keep hrow (fun k hk => ?_)
    rw [heap_put, if_neg (fun e => ?_)]
    subst e
    rcases hown k hk with q | q
    · simp [Value.ownBlock] at q
    · have := blk_lt kc3
      omega, h5.1, HV.out.1.symm⟩
  have HR5 := hid_of hrow5
  have HT2 := hid_of hT2
  have HV5 := hid_of hV5
  have H5 := hid_of h5
  repeat go_step
  refine wp_region_F 8 (fun W' => blk W' bc = some T1.enc ∧ blk W' bt = some T.enc) (by kernel_rfl) ⟨kc3, kt3⟩ (fun hHeld => ?_)
  refine wpAnyF_take (i := 0) (oi := ⟨_, _, _, _, _, _⟩) (v := ?_) rfl (by kernel_rfl) (by kernel_rfl) (by kernel_rfl) (by kernel_rfl) (by kernel_rfl) (fun _ _ _ h => h) (Or.inl ⟨by rfl, ?_⟩) (by assumption) ?_
  rotate_left 1
  · intro W' hSw
    obtain ⟨hS1, hS2⟩ := hSw
    go_simp
    try with_reducible rfl
  try simp only [Act.put, List.setIfInBounds_toArray, List.set_cons_zero, List.set_cons_succ]
  refine wpAnyF_take (i := 1) (oi := ⟨_, _, _, _, _, _⟩) (v := ?_) rfl (by kernel_rfl) (by kernel_rfl) (by kernel_rfl) (by kernel_rfl) (by kernel_rfl) (fun _ _ _ h => h) (Or.inl ⟨by rfl, ?_⟩) (by assumption) ?_
  rotate_left 1
  · intro W' hSw
    obtain ⟨hS1, hS2⟩ := hSw
    go_simp
    try with_reducible rfl
  try simp only [Act.put, List.setIfInBounds_toArray, List.set_cons_zero, List.set_cons_succ]
  refine wpAnyF_take (i := 2) (oi := ⟨_, _, _, _, _, _⟩) (v := ?_) rfl (by kernel_rfl) (by kernel_rfl) (by kernel_rfl) (by kernel_rfl) (by kernel_rfl) (fun _ _ _ h => h) (Or.inl ⟨by rfl, ?_⟩) (by assumption) ?_
  rotate_left 1
  · intro W' hSw
    obtain ⟨hS1, hS2⟩ := hSw
    go_simp
    try with_reducible rfl
  try simp only [Act.put, List.setIfInBounds_toArray, List.set_cons_zero, List.set_cons_succ]
  refine wpAnyF_take (i := 3) (oi := ⟨_, _, _, _, _, _⟩) (v := ?_) rfl (by kernel_rfl) (by kernel_rfl) (by kernel_rfl) (by kernel_rfl) (by kernel_rfl) (fun _ _ _ h => h) (Or.inl ⟨by rfl, ?_⟩) (by assumption) ?_
  rotate_left 1
  · intro W' hSw
    obtain ⟨hS1, hS2⟩ := hSw
    go_simp
    try with_reducible rfl
  try simp only [Act.put, List.setIfInBounds_toArray, List.set_cons_zero, List.set_cons_succ]
  refine wpAnyF_take (i := 4) (oi := ⟨_, _, _, _, _, _⟩) (v := ?_) rfl (by kernel_rfl) (by kernel_rfl) (by kernel_rfl) (by kernel_rfl) (by kernel_rfl) (fun _ _ _ h => h) (Or.inl ⟨by rfl, ?_⟩) (by assumption) ?_
  rotate_left 1
  · intro W' hSw
    obtain ⟨hS1, hS2⟩ := hSw
    go_simp
    try with_reducible rfl
  try simp only [Act.put, List.setIfInBounds_toArray, List.set_cons_zero, List.set_cons_succ]
  refine wpAnyF_take (i := 5) (oi := ⟨_, _, _, _, _, _⟩) (v := ?_) rfl (by kernel_rfl) (by kernel_rfl) (by kernel_rfl) (by kernel_rfl) (by kernel_rfl) (fun _ _ _ h => h) (Or.inl ⟨by rfl, ?_⟩) (by assumption) ?_
  rotate_left 1
  · intro W' hSw
    obtain ⟨hS1, hS2⟩ := hSw
    go_simp
    try with_reducible rfl
  try simp only [Act.put, List.setIfInBounds_toArray, List.set_cons_zero, List.set_cons_succ]
  refine wpAnyF_one (o := ⟨_, _, _, _, _, _⟩) (i := 6) (by kernel_rfl) rfl rfl (fun K' hK => ?_)
  refine wp_append_run _ _ 122 rfl _ _ _ _ rfl rfl hrun ?_
  refine hK.out _ _ ⟨kc4, kt4⟩ (fun hHeld => ?_)
  clear hK K'
  try simp only [Act.put, List.setIfInBounds_toArray, List.set_cons_zero, List.set_cons_succ]
  refine wpAnyF_take (i := 7) (oi := ⟨_, _, _, _, _, _⟩) (v := ?_) rfl (by kernel_rfl) (by kernel_rfl) (by kernel_rfl) (by kernel_rfl) (by kernel_rfl) (fun _ _ _ h => h) (Or.inl ⟨by rfl, ?_⟩) (by assumption) ?_
  rotate_left 1
  · intro W' hSw
    obtain ⟨hS1, hS2⟩ := hSw
    go_simp
    try with_reducible rfl
  try simp only [Act.put, List.setIfInBounds_toArray, List.set_cons_zero, List.set_cons_succ]
  refine wpAnyF_last (o := ⟨_, _, _, _, _, _⟩) (by kernel_rfl) rfl (fun K' hK => ?_)
  go_simp
  refine hK.out _ _ ?_
  clear hK K'
  try simp only [Act.put, List.setIfInBounds_toArray, List.set_cons_zero, List.set_cons_succ]
  refine wpAnyF_done (by kernel_rfl) ?_ _
  first | rw [← HV5.out] | rw [← HT2.out, ← HV5.out]
  clear HV5
  clear hHeld hrow hrow5 hT2 hV5 h5 h4 h3 hx4 hg hown hrun kc3 fc3 kt3 kc4 fc4 kt4 sp2 n10 l1 nT0 HB1
  obtain ⟨T3, hT3⟩ : ∃ T3 : Trail, T3 = { T2 with roots := ⟨none, 0, 0⟩ } := ⟨_, rfl⟩
  have sp3 : splice T2.enc 1 [.slice none 0 0] = T3.enc := by rw [hT3]; exact Trail.roots_sl T2 none 0 0
  have l2 : T2.enc.length = 378 := Trail.length_enc _
  have kc5 := (H5.out.at (b := bc) (C := T2.enc) (by simp)).1
  have fc5 := (H5.out.at (b := bc) (C := T2.enc) (by simp)).2
  have h6 := H5.out.put (C' := T3.enc) (fun p hp => by rw [List.mem_singleton.1 hp]; exact HBN.out.1)
  obtain ⟨V6, hV6⟩ : ∃ V6 : World, V6 = put V5 bc T3.enc := ⟨_, rfl⟩
  rw [← hV6] at h6
  have hrow6 : OutG View.enc 343 61 W V6 a T.views.len c VS := ⟨by
    rw [hV6]
    refine row_keep HR5.out.1 (fun k hk => ?_)
    rw [heap_put, if_neg (HOW.out k hk)], h6.1, HR5.out.2.2⟩
  have HV6 := hid_of hV6
  have H6 := hid_of h6
  have HR6 := hid_of hrow6
  have HT3 := hid_of hT3
  clear hV6 h6 hrow6 hT3 HR5 H5
  go_upto_region 5 with fail
  first | rw [← HV6.out] | rw [← HT3.out, ← HV6.out]
  clear HV6 kc5 fc5 sp3 l2
  have nT1 : nth T.enc 1 = some (.slice T.roots.a T.roots.len T.roots.cap) := Trail.roots_get T
  have h7 := H6.out.drewN 1
  have kc7 := (h7.at (b := bc) (C := T3.enc) (by simp)).1
  have kt7 := HLT.out h7.1
  have n31 : nth T3.enc 1 = some (.slice none 0 0) := by rw [Trail.roots_get, HT3.out]; rfl
  have l3 : T3.enc.length = 378 := Trail.length_enc _
  obtain ⟨a2, c2, V8, hrun, hrow, hg, hown⟩ := appV elv123 W.heap.size (V6.drewN 1) (a := none) (n := 0) (c := 0) [] RS T.roots.a T.roots.cap ⟨by simp, .inl ⟨rfl, rfl⟩⟩ (by have := HR.out.grow h7.1; rw [← this.1] at this; exact this) h7.1.size (by have := hs.2; simp; omega)
  rw [HR.out.1, Nat.zero_add] at hrun hrow hown
  have hx8 := grown_none hg
  have h8 := h7.ext hx8
  have kc8 := (h8.at (b := bc) (C := T3.enc) (by simp)).1
  have fc8 := (h8.at (b := bc) (C := T3.enc) (by simp)).2
  have kt8 := HLT.out h8.1
  obtain ⟨T4, hT4⟩ : ∃ T4 : Trail, T4 = { T3 with roots := ⟨a2, T.roots.len, c2⟩ } := ⟨_, rfl⟩
  have sp4 : splice T3.enc 1 [.slice a2 T.roots.len c2] = T4.enc := by rw [hT4]; exact Trail.roots_sl T3 _ _ _
  have h9 := h8.put (C' := T4.enc) (fun p hp => by rw [List.mem_singleton.1 hp]; exact HBN.out.1)
  obtain ⟨V9, hV9⟩ : ∃ V9 : World, V9 = put V8 bc T4.enc := ⟨_, rfl⟩
  rw [← hV9] at h9
  have hrow9 : OutG encD 32 47 W V9 a2 T.roots.len c2 RS := ⟨by
    rw [List.nil_append] at hrow
    rw [hV9]
    refine row_keep hrow (fun k hk => ?_)
    rw [heap_put, if_neg (fun e => ?_)]
    subst e
    rcases hown k hk with q | q
    · simp [Value.ownBlock] at q
    · have := blk_lt kc7
      omega, h9.1, HR.out.1.symm⟩
  have hrv9 : OutG View.enc 343 61 W V9 a T.views.len c VS := ⟨by
    rw [hV9]
    refine row_keep HR6.out.1 (fun k hk => ?_)
    rw [heap_put, if_neg (HOW.out k hk)]
    exact (hx8.block k (row_at HR6.out.1 k hk).2.1), h9.1, HR6.out.2.2⟩
  have HB2 : Hid (br ≠ bc ∧ ∀ k, (Value.slice a2 T.roots.len c2).ownBlock = some k → k ≠ br) := ⟨HBN.out.1, fun k hk e => by
    subst e
    rcases hown k hk with q | q
    · simp [Value.ownBlock] at q
    · have hlt := blk_lt (h7.at (b := k) (C := Trail.zero.enc) (by simp)).1
      omega⟩
  have H9 := hid_of h9
  have HR9 := hid_of hrow9
  have HW9 := hid_of hrv9
  have HV9 := hid_of hV9
  have HT4 := hid_of hT4
  repeat go_step
  refine wp_region_F 8 (fun W' => blk W' bc = some T3.enc ∧ blk W' bt = some T.enc) (by kernel_rfl) ⟨kc7, kt7⟩ (fun hHeld => ?_)
  refine wpAnyF_take (i := 0) (oi := ⟨_, _, _, _, _, _⟩) (v := ?_) rfl (by kernel_rfl) (by kernel_rfl) (by kernel_rfl) (by kernel_rfl) (by kernel_rfl) (fun _ _ _ h => h) (Or.inl ⟨by rfl, ?_⟩) (by assumption) ?_
  rotate_left 1
  · intro W' hSw
    obtain ⟨hS1, hS2⟩ := hSw
    go_simp
    try with_reducible rfl
  try simp only [Act.put, List.setIfInBounds_toArray, List.set_cons_zero, List.set_cons_succ]
  refine wpAnyF_take (i := 1) (oi := ⟨_, _, _, _, _, _⟩) (v := ?_) rfl (by kernel_rfl) (by kernel_rfl) (by kernel_rfl) (by kernel_rfl) (by kernel_rfl) (fun _ _ _ h => h) (Or.inl ⟨by rfl, ?_⟩) (by assumption) ?_
  rotate_left 1
  · intro W' hSw
    obtain ⟨hS1, hS2⟩ := hSw
    go_simp
    try with_reducible rfl
  try simp only [Act.put, List.setIfInBounds_toArray, List.set_cons_zero, List.set_cons_succ]
  refine wpAnyF_take (i := 2) (oi := ⟨_, _, _, _, _, _⟩) (v := ?_) rfl (by kernel_rfl) (by kernel_rfl) (by kernel_rfl) (by kernel_rfl) (by kernel_rfl) (fun _ _ _ h => h) (Or.inl ⟨by rfl, ?_⟩) (by assumption) ?_
  rotate_left 1
  · intro W' hSw
    obtain ⟨hS1, hS2⟩ := hSw
    go_simp
    try with_reducible rfl
  try simp only [Act.put, List.setIfInBounds_toArray, List.set_cons_zero, List.set_cons_succ]
  refine wpAnyF_take (i := 3) (oi := ⟨_, _, _, _, _, _⟩) (v := ?_) rfl (by kernel_rfl) (by kernel_rfl) (by kernel_rfl) (by kernel_rfl) (by kernel_rfl) (fun _ _ _ h => h) (Or.inl ⟨by rfl, ?_⟩) (by assumption) ?_
  rotate_left 1
  · intro W' hSw
    obtain ⟨hS1, hS2⟩ := hSw
    go_simp
    try with_reducible rfl
  try simp only [Act.put, List.setIfInBounds_toArray, List.set_cons_zero, List.set_cons_succ]
  refine wpAnyF_take (i := 4) (oi := ⟨_, _, _, _, _, _⟩) (v := ?_) rfl (by kernel_rfl) (by kernel_rfl) (by kernel_rfl) (by kernel_rfl) (by kernel_rfl) (fun _ _ _ h => h) (Or.inl ⟨by rfl, ?_⟩) (by assumption) ?_
  rotate_left 1
  · intro W' hSw
    obtain ⟨hS1, hS2⟩ := hSw
    go_simp
    try with_reducible rfl
  try simp only [Act.put, List.setIfInBounds_toArray, List.set_cons_zero, List.set_cons_succ]
  refine wpAnyF_take (i := 5) (oi := ⟨_, _, _, _, _, _⟩) (v := ?_) rfl (by kernel_rfl) (by kernel_rfl) (by kernel_rfl) (by kernel_rfl) (by kernel_rfl) (fun _ _ _ h => h) (Or.inl ⟨by rfl, ?_⟩) (by assumption) ?_
  rotate_left 1
  · intro W' hSw
    obtain ⟨hS1, hS2⟩ := hSw
    go_simp
    try with_reducible rfl
  try simp only [Act.put, List.setIfInBounds_toArray, List.set_cons_zero, List.set_cons_succ]
  refine wpAnyF_one (o := ⟨_, _, _, _, _, _⟩) (i := 6) (by kernel_rfl) rfl rfl (fun K' hK => ?_)
  refine wp_append_run _ _ 123 rfl _ _ _ _ rfl rfl hrun ?_
  refine hK.out _ _ ⟨kc8, kt8⟩ (fun hHeld => ?_)
  clear hK K'
  try simp only [Act.put, List.setIfInBounds_toArray, List.set_cons_zero, List.set_cons_succ]
  refine wpAnyF_take (i := 7) (oi := ⟨_, _, _, _, _, _⟩) (v := ?_) rfl (by kernel_rfl) (by kernel_rfl) (by kernel_rfl) (by kernel_rfl) (by kernel_rfl) (fun _ _ _ h => h) (Or.inl ⟨by rfl, ?_⟩) (by assumption) ?_
  rotate_left 1
  · intro W' hSw
    obtain ⟨hS1, hS2⟩ := hSw
    go_simp
    try with_reducible rfl
  try simp only [Act.put, List.setIfInBounds_toArray, List.set_cons_zero, List.set_cons_succ]
  refine wpAnyF_last (o := ⟨_, _, _, _, _, _⟩) (by kernel_rfl) rfl (fun K' hK => ?_)
  go_simp
  refine hK.out _ _ ?_
  clear hK K'
  try simp only [Act.put, List.setIfInBounds_toArray, List.set_cons_zero, List.set_cons_succ]
  refine wpAnyF_done (by kernel_rfl) ?_ _
  first | rw [← HV9.out] | rw [← HT4.out, ← HV9.out]
  clear HV9
  clear hHeld hrow hrow9 hrv9 hT4 hV9 h9 h8 h7 hx8 hg hown hrun kc7 kt7 kc8 fc8 kt8 sp4 n31 l3 nT1 HR6 H6
  have kc9 := (H9.out.at (b := bc) (C := T4.enc) (by simp)).1
  have kr9 := (H9.out.at (b := br) (C := Trail.zero.enc) (by simp)).1
  have fr9 := (H9.out.at (b := br) (C := Trail.zero.enc) (by simp)).2
  have l4 : T4.enc.length = 378 := Trail.length_enc _
  have lz : Trail.zero.enc.length = 378 := Trail.length_enc _
  have hcr : ¬ bc = br := fun e => HBN.out.1 e.symm
  have HP : Hid (Q (.returned (.agg T4.enc.toArray)) (put V9 br T4.enc)) := by
    show Q _ _
    rw [HQ.out]
    have eT : T4 = { T with views := ⟨a, T.views.len, c⟩, roots := ⟨a2, T.roots.len, c2⟩ } := by rw [HT4.out, HT3.out, HT2.out, HT1.out]
    have hx : W.Extends (put V9 br T4.enc) := (H9.out.sub (bs' := [(br, Trail.zero.enc)]) (fun p hp => by simp at hp; simp [hp]) |>.put (C' := T4.enc) (fun p hp => by cases hp)).1
    refine ⟨a, T.views.len, c, a2, T.roots.len, c2, by rw [eT], ⟨row_keep HW9.out.1 (fun k hk => ?_), hx, HW9.out.2.2⟩, ⟨row_keep HR9.out.1 (fun k hk => ?_), hx, HR9.out.2.2⟩⟩
    · rw [heap_put, if_neg (HOW2.out k hk)]
    · rw [heap_put, if_neg (HB2.out.2 k hk)]
  have spz : splice Trail.zero.enc 0 T4.enc = T4.enc := splice_all _ _ (by rw [l4, lz])
  generalize Trail.zero.enc = ZE at kr9 lz spz
  clear H9 HR9 HW9 HT4 HQ
  go_wp2_with fail
  refine ret_cell (C := T4.enc) rfl rfl (by rw [blk_put, if_pos rfl, kr9]; rfl) (by kernel_rfl) (by rw [l4]; kernel_rfl) rfl ?_
  exact HP.out
end Go.Proofs.Qxb6500786aGreat
