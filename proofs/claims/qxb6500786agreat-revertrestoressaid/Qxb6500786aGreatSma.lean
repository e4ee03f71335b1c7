import Derived.DeepKeys2
import Derived.Test.Qxb6500786aGreatUb

import Derived.StillTailTactics
import Derived.Deep.QuietTactic
import Derived.BigQuiet
import Derived.Deep.RegionHeld
import Derived.Deep.CutRange
import Derived.Laws.ResultCell
import Derived.Laws.Rows
import Derived.DeepKeys
import Derived.DataBytes
import Derived.Laws.StructEq
import Derived.Laws.AppendOwn
import Derived.Laws.MakeOwn
import Derived.Lib.AppendStr
set_option linter.unusedSimpArgs false
set_option linter.unusedVariables false
namespace Go.Proofs.Qxb6500786aGreat
open Go.RowKit Go.Blk
attribute [local go_sem ↓] execOp_load execOp_store execOp_alloc
attribute [local go_sem] Tryz.ld24 Tryz.st24 Tryz.ld36 Tryz.st36 Tryz.ld28 Tryz.st28 Tryz.ld32 Tryz.st32 Tryz.ld33 Tryz.st33 Tryz.ld34 Tryz.st34 Tryz.ld5 Tryz.st5 Tryz.ld31 Tryz.st31 Tryz.ld30 Tryz.st30 Tryz.ld41 Tryz.st41 Tryz.ld44 Tryz.st44 Tryz.ld4 Tryz.st4 Tryz.ld173 Tryz.st173 Tryz.ld174 Tryz.st174 Tryz.ld95 Tryz.st95 Tryz.ld45 Tryz.st45 Tryz.ld207 Tryz.st207 Tryz.ld3 Tryz.st3 Tryz.ld189 Tryz.st189 Tryz.ld2 Tryz.st2 Tryz.ld9 Tryz.st9 Tryz.ld12 Tryz.st12 Tryz.ld21 Tryz.st21 Tryz.ld22 Tryz.st22 Tryz.ld46 Tryz.st46 Tryz.ld92 Tryz.st92 Tryz.ld94 Tryz.st94 Tryz.ld96 Tryz.st96 Tryz.ld97 Tryz.st97 Tryz.ld105 Tryz.st105 Tryz.ld117 Tryz.st117 Tryz.ld122 Tryz.st122 Tryz.ld123 Tryz.st123 Tryz.ld133 Tryz.st133 Tryz.ld155 Tryz.st155 Tryz.ld163 Tryz.st163 Tryz.ld190 Tryz.st190 Tryz.ld197 Tryz.st197 Tryz.ld201 Tryz.st201 Tryz.ld202 Tryz.st202 Tryz.ld209 Tryz.st209 Tryz.ld216 Tryz.st216 Tryz.ld230 Tryz.st230 Tryz.ld238 Tryz.st238 Tryz.ld242 Tryz.st242 Tryz.ld251 Tryz.st251 Tryz.ld260 Tryz.st260 Tryz.ld286 Tryz.st286 Tryz.ld292 Tryz.st292 Tryz.ld298 Tryz.st298 Tryz.ld309 Tryz.st309 Tryz.ld35 Tryz.st35 Tryz.ld48 Tryz.st48 Tryz.ld47 Tryz.st47 Tryz.ld79 Tryz.st79 Tryz.ld177 Tryz.st177 Tryz.ld180 Tryz.st180 Tryz.ld231 Tryz.st231 Tryz.ld232 Tryz.st232 Tryz.ld26 Tryz.st26 Tryz.ld38 Tryz.st38 Tryz.ld40 Tryz.st40 Tryz.ld43 Tryz.st43 Tryz.ld50 Tryz.st50 Tryz.ld52 Tryz.st52 Tryz.ld54 Tryz.st54 Tryz.ld81 Tryz.st81 Tryz.ld112 Tryz.st112 Tryz.ld120 Tryz.st120 Tryz.ld176 Tryz.st176 Tryz.ld179 Tryz.st179 Tryz.ld182 Tryz.st182 Tryz.ld184 Tryz.st184 Tryz.ld234 Tryz.st234 Tryz.ld236 Tryz.st236 Tryz.ld240 Tryz.st240 Tryz.ld246 Tryz.st246 Tryz.ld249 Tryz.st249 Tryz.al35 Tryz.al48 Tryz.al47 Tryz.al79 Tryz.al177 Tryz.al180 Tryz.al231 Tryz.al232 Tryz.al26 Tryz.al38 Tryz.al40 Tryz.al43 Tryz.al50 Tryz.al52 Tryz.al54 Tryz.al81 Tryz.al112 Tryz.al120 Tryz.al176 Tryz.al179 Tryz.al182 Tryz.al184 Tryz.al234 Tryz.al236 Tryz.al240 Tryz.al246 Tryz.al249
attribute [local go_sem] Player.length_enc Player.ok_enc Player.all_get Player.all_set Player.hand_get Player.hand_set Player.aside_get Player.aside_set Message.length_enc Message.ok_enc Message.all_get Message.all_set Message.kind_get Message.kind_set Message.from__get Message.from__set Message.to__get Message.to__set Message.sender_get Message.sender_set Message.receiver_get Message.receiver_set Message.seq_get Message.seq_set Message.token_get Message.token_set Message.amount_get Message.amount_set Message.size_get Message.size_set Message.payload_get Message.payload_set Tx.length_enc Tx.ok_enc Tx.all_get Tx.all_set Tx.kind_get Tx.kind_set Tx.chain_get Tx.chain_set Tx.from__get Tx.from__set Tx.nonce_get Tx.nonce_set Tx.fee_get Tx.fee_set Tx.to__get Tx.to__set Tx.dest_get Tx.dest_set Tx.token_get Tx.token_set Tx.amount_get Tx.amount_set Tx.size_get Tx.size_set Tx.payload_get Tx.payload_set Tx.msg_get Tx.msg_set Tx.msg_kind_get Tx.msg_kind_set Tx.msg_from__get Tx.msg_from__set Tx.msg_to__get Tx.msg_to__set Tx.msg_sender_get Tx.msg_sender_set Tx.msg_receiver_get Tx.msg_receiver_set Tx.msg_seq_get Tx.msg_seq_set Tx.msg_token_get Tx.msg_token_set Tx.msg_amount_get Tx.msg_amount_set Tx.msg_size_get Tx.msg_size_set Tx.msg_payload_get Tx.msg_payload_set GOp.length_enc GOp.ok_enc GOp.all_get GOp.all_set GOp.kind_get GOp.kind_set GOp.tx_get GOp.tx_set GOp.txs_get GOp.txs_set GOp.gas_get GOp.gas_set GOp.acct_get GOp.acct_set GOp.token_get GOp.token_set GOp.chain_get GOp.chain_set GOp.seq_get GOp.seq_set GOp.tx_kind_get GOp.tx_kind_set GOp.tx_chain_get GOp.tx_chain_set GOp.tx_from__get GOp.tx_from__set GOp.tx_nonce_get GOp.tx_nonce_set GOp.tx_fee_get GOp.tx_fee_set GOp.tx_to__get GOp.tx_to__set GOp.tx_dest_get GOp.tx_dest_set GOp.tx_token_get GOp.tx_token_set GOp.tx_amount_get GOp.tx_amount_set GOp.tx_size_get GOp.tx_size_set GOp.tx_payload_get GOp.tx_payload_set GOp.tx_msg_get GOp.tx_msg_set GOp.tx_msg_kind_get GOp.tx_msg_kind_set GOp.tx_msg_from__get GOp.tx_msg_from__set GOp.tx_msg_to__get GOp.tx_msg_to__set GOp.tx_msg_sender_get GOp.tx_msg_sender_set GOp.tx_msg_receiver_get GOp.tx_msg_receiver_set GOp.tx_msg_seq_get GOp.tx_msg_seq_set GOp.tx_msg_token_get GOp.tx_msg_token_set GOp.tx_msg_amount_get GOp.tx_msg_amount_set GOp.tx_msg_size_get GOp.tx_msg_size_set GOp.tx_msg_payload_get GOp.tx_msg_payload_set Summary.length_enc Summary.ok_enc Summary.all_get Summary.all_set Summary.height_get Summary.height_set Summary.txs_get Summary.txs_set Summary.gas_get Summary.gas_set Summary.fees_get Summary.fees_set Summary.sent_get Summary.sent_set Summary.took_get Summary.took_set Summary.minted_get Summary.minted_set Summary.burned_get Summary.burned_set Summary.root_get Summary.root_set Detail.length_enc Detail.ok_enc Detail.all_get Detail.all_set Detail.code_get Detail.code_set Detail.have__get Detail.have__set Detail.need_get Detail.need_set Slot.length_enc Slot.ok_enc Slot.all_get Slot.all_set Slot.nonce_get Slot.nonce_set Slot.balances_get Slot.balances_set Tree.length_enc Tree.ok_enc Tree.all_get Tree.all_set Tree.leaves_get Tree.leaves_set Mark.length_enc Mark.ok_enc Mark.all_get Mark.all_set Mark.from__get Mark.from__set Mark.seq_get Mark.seq_set Receipt.length_enc Receipt.ok_enc Receipt.all_get Receipt.all_set Receipt.code_get Receipt.code_set Receipt.hash_get Receipt.hash_set Receipt.index_get Receipt.index_set Receipt.gas_get Receipt.gas_set Receipt.fee_get Receipt.fee_set Receipt.hasSent_get Receipt.hasSent_set Receipt.sent_get Receipt.sent_set Receipt.hasTook_get Receipt.hasTook_set Receipt.took_get Receipt.took_set Receipt.sent_kind_get Receipt.sent_kind_set Receipt.sent_from__get Receipt.sent_from__set Receipt.sent_to__get Receipt.sent_to__set Receipt.sent_sender_get Receipt.sent_sender_set Receipt.sent_receiver_get Receipt.sent_receiver_set Receipt.sent_seq_get Receipt.sent_seq_set Receipt.sent_token_get Receipt.sent_token_set Receipt.sent_amount_get Receipt.sent_amount_set Receipt.sent_size_get Receipt.sent_size_set Receipt.sent_payload_get Receipt.sent_payload_set Receipt.took_kind_get Receipt.took_kind_set Receipt.took_from__get Receipt.took_from__set Receipt.took_to__get Receipt.took_to__set Receipt.took_sender_get Receipt.took_sender_set Receipt.took_receiver_get Receipt.took_receiver_set Receipt.took_seq_get Receipt.took_seq_set Receipt.took_token_get Receipt.took_token_set Receipt.took_amount_get Receipt.took_amount_set Receipt.took_size_get Receipt.took_size_set Receipt.took_payload_get Receipt.took_payload_set Store.length_enc Store.ok_enc Store.all_get Store.all_set Store.now_get Store.now_set Store.saved_get Store.saved_set GState.length_enc GState.ok_enc GState.all_get GState.all_set GState.kv_get GState.kv_set GState.tree_get GState.tree_set GState.stale_get GState.stale_set GState.touched_get GState.touched_set GState.kv_now_get GState.kv_now_set GState.kv_saved_get GState.kv_saved_set GState.tree_leaves_get GState.tree_leaves_set History.length_enc History.ok_enc History.all_get History.all_set History.ring_get History.ring_set History.closed_get History.closed_set Ledger.length_enc Ledger.ok_enc Ledger.all_get Ledger.all_set Ledger.chain_get Ledger.chain_set Ledger.st_get Ledger.st_set Ledger.height_get Ledger.height_set Ledger.open__get Ledger.open__set Ledger.gasLimit_get Ledger.gasLimit_set Ledger.past_get Ledger.past_set Ledger.begun_get Ledger.begun_set Ledger.sent_get Ledger.sent_set Ledger.took_get Ledger.took_set Ledger.receipts_get Ledger.receipts_set Ledger.st_kv_get Ledger.st_kv_set Ledger.st_tree_get Ledger.st_tree_set Ledger.st_stale_get Ledger.st_stale_set Ledger.st_touched_get Ledger.st_touched_set Ledger.st_kv_now_get Ledger.st_kv_now_set Ledger.st_kv_saved_get Ledger.st_kv_saved_set Ledger.st_tree_leaves_get Ledger.st_tree_leaves_set Ledger.past_ring_get Ledger.past_ring_set Ledger.past_closed_get Ledger.past_closed_set Ledger.begun_kv_get Ledger.begun_kv_set Ledger.begun_tree_get Ledger.begun_tree_set Ledger.begun_stale_get Ledger.begun_stale_set Ledger.begun_touched_get Ledger.begun_touched_set Ledger.begun_kv_now_get Ledger.begun_kv_now_set Ledger.begun_kv_saved_get Ledger.begun_kv_saved_set Ledger.begun_tree_leaves_get Ledger.begun_tree_leaves_set Purse.length_enc Purse.ok_enc Purse.all_get Purse.all_set Purse.st_get Purse.st_set Purse.n_get Purse.n_set Purse.account_get Purse.account_set Purse.token_get Purse.token_set Purse.amount_get Purse.amount_set Plan.length_enc Plan.ok_enc Plan.all_get Plan.all_set Plan.purse_get Plan.purse_set Plan.nonce_get Plan.nonce_set Plan.gasUsed_get Plan.gasUsed_set Plan.fees_get Plan.fees_set Plan.hasSupply_get Plan.hasSupply_set Plan.token_get Plan.token_set Plan.supply_get Plan.supply_set Plan.flowAt_get Plan.flowAt_set Plan.flow_get Plan.flow_set Plan.receipt_get Plan.receipt_set Plan.purse_st_get Plan.purse_st_set Plan.purse_n_get Plan.purse_n_set Plan.purse_account_get Plan.purse_account_set Plan.purse_token_get Plan.purse_token_set Plan.purse_amount_get Plan.purse_amount_set Plan.receipt_code_get Plan.receipt_code_set Plan.receipt_hash_get Plan.receipt_hash_set Plan.receipt_index_get Plan.receipt_index_set Plan.receipt_gas_get Plan.receipt_gas_set Plan.receipt_fee_get Plan.receipt_fee_set Plan.receipt_hasSent_get Plan.receipt_hasSent_set Plan.receipt_sent_get Plan.receipt_sent_set Plan.receipt_hasTook_get Plan.receipt_hasTook_set Plan.receipt_took_get Plan.receipt_took_set Plan.receipt_sent_kind_get Plan.receipt_sent_kind_set Plan.receipt_sent_from__get Plan.receipt_sent_from__set Plan.receipt_sent_to__get Plan.receipt_sent_to__set Plan.receipt_sent_sender_get Plan.receipt_sent_sender_set Plan.receipt_sent_receiver_get Plan.receipt_sent_receiver_set Plan.receipt_sent_seq_get Plan.receipt_sent_seq_set Plan.receipt_sent_token_get Plan.receipt_sent_token_set Plan.receipt_sent_amount_get Plan.receipt_sent_amount_set Plan.receipt_sent_size_get Plan.receipt_sent_size_set Plan.receipt_sent_payload_get Plan.receipt_sent_payload_set Plan.receipt_took_kind_get Plan.receipt_took_kind_set Plan.receipt_took_from__get Plan.receipt_took_from__set Plan.receipt_took_to__get Plan.receipt_took_to__set Plan.receipt_took_sender_get Plan.receipt_took_sender_set Plan.receipt_took_receiver_get Plan.receipt_took_receiver_set Plan.receipt_took_seq_get Plan.receipt_took_seq_set Plan.receipt_took_token_get Plan.receipt_took_token_set Plan.receipt_took_amount_get Plan.receipt_took_amount_set Plan.receipt_took_size_get Plan.receipt_took_size_set Plan.receipt_took_payload_get Plan.receipt_took_payload_set Move.length_enc Move.ok_enc Move.all_get Move.all_set Move.account_get Move.account_set Move.token_get Move.token_set Move.down_get Move.down_set Move.amount_get Move.amount_set Books.length_enc Books.ok_enc Books.all_get Books.all_set Books.sums_get Books.sums_set Books.stored_get Books.stored_set Books.marks_get Books.marks_set Pair.length_enc Pair.ok_enc Pair.all_get Pair.all_set Pair.key_get Pair.key_set Pair.value_get Pair.value_set
attribute [local go_sem] size_put size_ext blk_put free_put blk_alloc free_alloc blk_drew free_drew blk_ext free_ext lookOr_some putOr_some segAt_some cellAt_some storeIn_some put_put put_alloc_new length_arr ok_arr_u8 ok_arr_u32 ok_arr_u64 ok_arr_i64 ok_arr_sl cellsV_agg cellsV_int cellsV_bool cellsV_string cellsV_pointer cellsV_slice cellsV_sl ok_int ok_bool ok_string ok_pointer ok_slice ok_sl toList_arr seg_arr set_arr nth_splice nth_splice0 seg_splice seg_splice0 splice_splice splice_splice0 length_splice_if
attribute [local go_sem ↓] execOp_box
attribute [local go_sem] box_run nth_arr_u8 put_arr_u8 blk_drewN free_drewN put_drewN blk_raw free_raw
/-- Two ledgers that no question tells apart. -/
structure Sim (A B : PLg) : Prop where
  ch : B.chain = A.chain
  now : B.st.now = A.st.now
  sv : B.st.saved = A.st.saved
  ht : B.height = A.height
  op : B.open_ = A.open_
  gl : B.gasLimit = A.gasLimit
  ps : B.past = A.past
  bn : B.begun.now = A.begun.now
  bs : B.begun.saved = A.begun.saved
  r : B.receipts.take (ldF A.st.now (keyC 3)).toNat = A.receipts.take (ldF A.st.now (keyC 3)).toNat
  s : B.sent.take (ldF A.st.now (keyC 4)).toNat = A.sent.take (ldF A.st.now (keyC 4)).toNat
  t : B.took.take (ldF A.st.now (keyC 5)).toNat = A.took.take (ldF A.st.now (keyC 5)).toNat
theorem Sim.refl (A : PLg) : Sim A A := ⟨rfl, rfl, rfl, rfl, rfl, rfl, rfl, rfl, rfl, rfl, rfl, rfl⟩
theorem Sim.symm {A B : PLg} (h : Sim A B) : Sim B A := ⟨h.ch.symm, h.now.symm, h.sv.symm, h.ht.symm, h.op.symm, h.gl.symm, h.ps.symm, h.bn.symm, h.bs.symm, by rw [h.now]; exact h.r.symm, by rw [h.now]; exact h.s.symm, by rw [h.now]; exact h.t.symm⟩
theorem Sim.trans {A B C : PLg} (h : Sim A B) (g : Sim B C) : Sim A C := ⟨g.ch.trans h.ch, g.now.trans h.now, g.sv.trans h.sv, g.ht.trans h.ht, g.op.trans h.op, g.gl.trans h.gl, g.ps.trans h.ps, g.bn.trans h.bn, g.bs.trans h.bs, by have := g.r; rw [h.now] at this; exact this.trans h.r, by have := g.s; rw [h.now] at this; exact this.trans h.s, by have := g.t; rw [h.now] at this; exact this.trans h.t⟩
section
variable {A B : PLg}
theorem Sim.jud (h : Sim A B) (n : Nat) (x : Tx) : judR B n x = judR A n x := by
  unfold judR sndR admF
  rw [h.ch, h.now, h.op, h.gl]
theorem Sim.rcp (h : Sim A B) (x : Tx) : rcpF B x = rcpF A x := by
  unfold rcpF rcp0
  rw [h.ch, h.now]
theorem flF_now (l : List PE) : ∀ (S S' : PSt), S.now = S'.now → (flF S l).now = (flF S' l).now := by
  induction l with
  | nil => intro S S' h; exact h
  | cons e l ih =>
    intro S S' h
    show (flF _ l).now = (flF _ l).now
    exact ih _ _ (by dsimp only; rw [h])
theorem Sim.accn (h : Sim A B) (x : Tx) : accN B x = accN A x := by
  have e0 : accN0 B x = accN0 A x := by
    unfold accN0
    rw [h.now, flF_now (purL A.st.now x) B.st A.st h.now]
  have e1 : accN1 B x = accN1 A x := by
    unfold accN1
    rw [e0, h.now]
  have e2 : accN2 B x = accN2 A x := by
    unfold accN2
    rw [e1, h.now]
  unfold accN
  rw [e2, h.now]
theorem acc_sent (L : PLg) (x : Tx) : (accL L x).sent = if (rcpF L x).hasSent = true then L.sent.take (ldF L.st.now (keyC 4)).toNat ++ [(rcpF L x).sent] else L.sent := by
  have e4 : ldF (enS L.st x (plnH L 0 x) (purL L.st.now x)).now (keyC 4) = ldF L.st.now (keyC 4) := by rw [enS_now]; exact rd_N2_C 4 (by decide)
  show (enactF L x (plnH L 0 x) (purL L.st.now x)).sent = _
  have e1 : (plnH L 0 x).receipt.hasSent = (rcpF L x).hasSent := rfl
  have e2 : (plnH L 0 x).receipt.sent = (rcpF L x).sent := rfl
  unfold enactF
  rw [e1, e4]
  by_cases h1 : (rcpF L x).hasSent = true
  · rw [if_pos h1, if_pos h1, ← e2]
  · rw [if_neg h1, if_neg h1]
    split <;> rfl
theorem acc_took (L : PLg) (x : Tx) : (accL L x).took = if (rcpF L x).hasSent = true then L.took else if (rcpF L x).hasTook = true then L.took.take (ldF L.st.now (keyC 5)).toNat ++ [(rcpF L x).took] else L.took := by
  have e5 : ldF (enS L.st x (plnH L 0 x) (purL L.st.now x)).now (keyC 5) = ldF L.st.now (keyC 5) := by rw [enS_now]; exact rd_N2_C 5 (by decide)
  show (enactF L x (plnH L 0 x) (purL L.st.now x)).took = _
  have e1 : (plnH L 0 x).receipt.hasSent = (rcpF L x).hasSent := rfl
  have e2 : (plnH L 0 x).receipt.hasTook = (rcpF L x).hasTook := rfl
  have e3 : (plnH L 0 x).receipt.took = (rcpF L x).took := rfl
  unfold enactF
  rw [e1, e2, e5]
  by_cases h1 : (rcpF L x).hasSent = true
  · rw [if_pos h1, if_pos h1]
  · rw [if_neg h1, if_neg h1]
    by_cases h2 : (rcpF L x).hasTook = true
    · rw [if_pos h2, if_pos h2, ← e3]
    · rw [if_neg h2, if_neg h2]
theorem rcpF_T2 {L : PLg} {x : Tx} (h : JOk L x) (hS : ¬ (rcpF L x).hasSent = true) : (rcpF L x).hasTook = true ↔ isT x := by
  have hk := shp_kind h.shp
  have hS' : ¬ isS x := fun q => hS (rcpF_S.2 q)
  unfold isS at hS'
  unfold rcpF isT
  rcases hk with k | k | k | k | k
  · rw [if_pos k, k]
    constructor
    · intro q; cases q
    · intro q; omega
  · exact absurd (.inl k) hS'
  · exact absurd (.inr k) hS'
  · rw [if_neg (by omega), if_neg (by omega), if_neg (by omega)]
    exact ⟨fun _ => .inl k, fun _ => rfl⟩
  · rw [if_neg (by omega), if_neg (by omega), if_neg (by omega)]
    exact ⟨fun _ => .inr k, fun _ => rfl⟩
theorem acc_same (L : PLg) (x : Tx) : (accL L x).chain = L.chain ∧ (accL L x).begun = L.begun ∧ (accL L x).open_ = L.open_ ∧ (accL L x).gasLimit = L.gasLimit ∧ (accL L x).height = L.height ∧ (accL L x).past = L.past ∧ (accL L x).st.saved = L.st.saved := by
  obtain ⟨s1, s2, s3, s4, s5, s6, -, -⟩ := enactF_same L x (plnH L 0 x) (purL L.st.now x)
  refine ⟨s1, s2, s3, s4, s5, s6, ?_⟩
  exact enactF_sv L x _ _
theorem Sim.acc (h : Sim A B) {x : Tx} (hj : JOk A x) (hj' : JOk B x) : Sim (accL A x) (accL B x) := by
  obtain ⟨a1, a2, a3, a4, a5, a6, a7⟩ := acc_same A x
  obtain ⟨b1, b2, b3, b4, b5, b6, b7⟩ := acc_same B x
  obtain ⟨c4, c5, -⟩ := acc_mid hj
  have hr := h.rcp x
  refine ⟨by rw [a1, b1, h.ch], by rw [acc_now hj, acc_now hj', h.accn], by rw [a7, b7, h.sv], by rw [a5, b5, h.ht], by rw [a3, b3, h.op], by rw [a4, b4, h.gl], by rw [a6, b6, h.ps], by rw [a2, b2, h.bn], by rw [a2, b2, h.bs], ?_, ?_, ?_⟩
  · have e : (accL B x).receipts = (accL A x).receipts := by
      show B.receipts.take (ldF B.st.now (keyC 3)).toNat ++ [appR B x] = A.receipts.take (ldF A.st.now (keyC 3)).toNat ++ [appR A x]
      unfold appR
      rw [h.now, h.r, hr]
    rw [e]
  · rw [acc_sent, acc_sent, hr, h.now]
    by_cases q : (rcpF A x).hasSent = true
    · rw [if_pos q, if_pos q, h.s]
    · rw [if_neg q, if_neg q, c4, if_neg (fun i => q (rcpF_S.2 i))]
      exact h.s
  · rw [acc_took, acc_took, hr, h.now]
    by_cases q : (rcpF A x).hasSent = true
    · rw [if_pos q, if_pos q, c5, if_neg (fun i => by have := rcpF_S.1 q; unfold isS at this; unfold isT at i; omega)]
      exact h.t
    · rw [if_neg q, if_neg q]
      by_cases q2 : (rcpF A x).hasTook = true
      · rw [if_pos q2, if_pos q2, h.t]
      · rw [if_neg q2, if_neg q2, c5, if_neg (fun i => q2 ((rcpF_T2 hj q).2 i))]
        exact h.t
theorem Sim.app (h : Sim A B) (x : Tx) : (appF B x).2 = (appF A x).2 ∧ Sim (appF A x).1 (appF B x).1 := by
  by_cases j : (judR A 0 x).1 = 0
  · have j' : (judR B 0 x).1 = 0 := by rw [h.jud]; exact j
    rw [appF_acc j, appF_acc j']
    refine ⟨?_, h.acc (judR_ok j).1 (judR_ok j').1⟩
    show appR B x = appR A x
    unfold appR
    rw [h.rcp]
  · unfold appF
    rw [h.jud, if_neg j, if_neg j]
    exact ⟨rfl, h⟩
end
theorem Sim.run : ∀ (X : List Tx) {A B : PLg} (h : Sim A B) (i : Nat) (rs : List Receipt), (runF B X i rs).1 = (runF A X i rs).1 ∧ Sim (runF A X i rs).2 (runF B X i rs).2
  | [], A, B, h, i, rs => ⟨rfl, h⟩
  | x :: xs, A, B, h, i, rs => by
    obtain ⟨e, h2⟩ := h.app x
    unfold runF
    rw [e]
    by_cases q : (appF A x).2.code = 0
    · rw [if_pos q, if_pos q]
      exact Sim.run xs h2 _ _
    · rw [if_neg q, if_neg q]
      exact ⟨rfl, h2⟩
section
variable {A B : PLg}
theorem Sim.stc (h : Sim A B) {S S' : PSt} (h1 : S'.now = S.now) (h2 : S'.saved = S.saved) (h3 : CLe S.now A.st.now) : Sim { A with st := S } { B with st := S' } := by
  have tk : ∀ {α : Type} {l l' : List α} {n m : Nat}, l.take m = l'.take m → n ≤ m → l.take n = l'.take n := fun {α l l' n m} e q => by
    have := congrArg (List.take n) e
    rwa [List.take_take, List.take_take, Nat.min_eq_left q] at this
  exact ⟨h.ch, h1, h2, h.ht, h.op, h.gl, h.ps, h.bn, h.bs, tk h.r h3.1, tk h.s h3.2.1, tk h.t h3.2.2⟩
theorem Sim.ckS (h : Sim A B) : (ckF B.st).1 = (ckF A.st).1 ∧ Sim { A with st := (ckF A.st).2 } { B with st := (ckF B.st).2 } := by
  unfold ckF
  by_cases q : A.st.saved.length < 8
  · have q' : B.st.saved.length < 8 := by rw [h.sv]; exact q
    rw [dif_pos q, dif_pos q']
    exact ⟨rfl, h.stc h.now (by dsimp only; rw [h.sv, h.now]) (CLe.refl _)⟩
  · have q' : ¬ B.st.saved.length < 8 := by rw [h.sv]; exact q
    rw [dif_neg q, dif_neg q']
    exact ⟨rfl, h.stc h.now h.sv (CLe.refl _)⟩
theorem LI.last {n : Nat} {L : PLg} (h : LI n L) (h0 : 0 < L.st.saved.length) : CLe ((L.st.saved.getLast?).getD []) L.st.now := by
  have hm := h.mon
  have := (List.pairwise_append.1 hm).2.2
  cases hl : L.st.saved.getLast? with
  | none => rw [List.getLast?_eq_none_iff] at hl; rw [hl] at h0; cases h0
  | some l => exact this l (List.mem_of_getLast? hl) _ (List.mem_singleton.2 rfl)
theorem Sim.rvS {n : Nat} (h : Sim A B) (hA : LI n A) : (rvF B.st).1 = (rvF A.st).1 ∧ Sim { A with st := (rvF A.st).2 } { B with st := (rvF B.st).2 } := by
  unfold rvF
  by_cases q : 0 < A.st.saved.length ∧ A.st.saved.length < 9
  · have q' : 0 < B.st.saved.length ∧ B.st.saved.length < 9 := by rw [h.sv]; exact q
    rw [dif_pos q, dif_pos q']
    exact ⟨rfl, h.stc (by dsimp only; rw [h.sv]) (by dsimp only; rw [h.sv]) (hA.last q.1)⟩
  · have q' : ¬ (0 < B.st.saved.length ∧ B.st.saved.length < 9) := by rw [h.sv]; exact q
    rw [dif_neg q, dif_neg q']
    exact ⟨rfl, h.stc h.now h.sv (CLe.refl _)⟩
theorem Sim.cmS (h : Sim A B) : (cmF B.st).1 = (cmF A.st).1 ∧ Sim { A with st := (cmF A.st).2 } { B with st := (cmF B.st).2 } := by
  unfold cmF
  by_cases q : 0 < A.st.saved.length ∧ A.st.saved.length < 9
  · have q' : 0 < B.st.saved.length ∧ B.st.saved.length < 9 := by rw [h.sv]; exact q
    rw [dif_pos q, dif_pos q']
    exact ⟨rfl, h.stc h.now (by dsimp only; rw [h.sv]) (CLe.refl _)⟩
  · have q' : ¬ (0 < B.st.saved.length ∧ B.st.saved.length < 9) := by rw [h.sv]; exact q
    rw [dif_neg q, dif_neg q']
    exact ⟨rfl, h.stc h.now h.sv (CLe.refl _)⟩
theorem Sim.bat {n : Nat} (cm : Bool) (h : Sim A B) (hA : LI n A) (X : List Tx) (hn : n + X.length < 10000000) : (batF cm B X).1 = (batF cm A X).1 ∧ Sim (batF cm A X).2 (batF cm B X).2 := by
  have hcb : cbF B X.length = cbF A X.length := by unfold cbF; rw [h.op, h.sv]
  unfold batF
  rw [hcb]
  by_cases q : cbF A X.length = 0
  · rw [if_pos q, if_pos q]
    obtain ⟨-, ho, h8, -⟩ := ckF_ok q
    have he : Evs A { A with st := (ckF A.st).2 } 0 := by
      have := evs_ck A
      unfold ckL at this
      rw [if_pos ho] at this
      exact this
    obtain ⟨m, hm, hr⟩ := evs_run (X := X) (L := { A with st := (ckF A.st).2 }) (i := 0) (rs := [])
    have hM := hA.evs (he.trans hr) (by omega)
    obtain ⟨e, hs⟩ := Sim.run X h.ckS.2 0 []
    obtain ⟨RA, hRA⟩ : ∃ R, R = runF { A with st := (ckF A.st).2 } X 0 [] := ⟨_, rfl⟩
    obtain ⟨RB, hRB⟩ : ∃ R, R = runF { B with st := (ckF B.st).2 } X 0 [] := ⟨_, rfl⟩
    rw [← hRA, ← hRB] at e hs
    rw [← hRA] at hM
    rw [← hRA, ← hRB, e]
    by_cases q2 : RA.1.2 = 0
    · rw [if_pos q2, if_pos q2]
      refine ⟨rfl, ?_⟩
      cases cm with
      | true => exact hs.cmS.2
      | false => exact (hs.rvS hM).2
    · rw [if_neg q2, if_neg q2]
      exact ⟨rfl, (hs.rvS hM).2⟩
  · rw [if_neg q, if_neg q]
    exact ⟨rfl, h⟩
theorem Sim.beg (h : Sim A B) (g : UInt64) : (begF B g).1 = (begF A g).1 ∧ Sim (begF A g).2 (begF B g).2 := by
  unfold begF
  rw [h.op]
  split
  · exact ⟨rfl, h⟩
  · split
    · exact ⟨rfl, h⟩
    · refine ⟨rfl, ⟨h.ch, h.now, h.sv, ?_, rfl, rfl, h.ps, h.now, h.sv, rfl, rfl, rfl⟩⟩
      show B.height + 1 = A.height + 1
      rw [h.ht]
attribute [local irreducible] leafF updL topD
theorem Sim.root (h : Sim A B) (hA : CI A) (hB : CI B) : rootD B.st = rootD A.st := by rw [hA.coh.root, hB.coh.root, h.now]
theorem Sim.smt (h : Sim A B) (hA : CI A) (hB : CI B) : smT B 4 = smT A 4 := by
  unfold smT
  rw [h.ht, h.now, h.root hA hB]
theorem Sim.en (h : Sim A B) (hA : CI A) (hB : CI B) : (endF B).1 = (endF A).1 ∧ Sim (endF A).2 (endF B).2 := by
  unfold endF
  rw [h.op, h.sv]
  split
  · split
    · exact ⟨rfl, h⟩
    · refine ⟨by rw [h.smt hA hB], ⟨h.ch, ?_, h.sv, h.ht, rfl, rfl, ?_, rfl, rfl, rfl, rfl, rfl⟩⟩
      · show clrA B.st.now = clrA A.st.now
        rw [h.now]
      · show pushF B.past (smT B 4) = pushF A.past (smT A 4)
        rw [h.smt hA hB, h.ps]
  · exact ⟨rfl, h⟩
theorem Sim.ab {n : Nat} (h : Sim A B) (hA : LI n A) : (abF B).1 = (abF A).1 ∧ Sim (abF A).2 (abF B).2 := by
  unfold abF
  rw [h.op]
  split
  · refine ⟨rfl, ⟨h.ch, h.bn, h.bs, ?_, rfl, rfl, h.ps, rfl, rfl, rfl, rfl, rfl⟩⟩
    show B.height - 1 = A.height - 1
    rw [h.ht]
  · exact ⟨rfl, h⟩
theorem Sim.exe {n m : Nat} (h : Sim A B) (hA : LI n A ∧ CI A) (hB : LI m B ∧ CI B) (g : UInt64) (X : List Tx) (hn : n + X.length + 1 < 10000000) (hm : m + X.length + 1 < 10000000) : (exeF B g X).1 = (exeF A g X).1 ∧ Sim (exeF A g X).2 (exeF B g X).2 := by
  obtain ⟨e1, s1⟩ := h.beg g
  obtain ⟨e2, s2⟩ := Sim.run X s1 0 []
  obtain ⟨k1, k2, v1⟩ := evs_beg A g
  obtain ⟨k1', k2', v1'⟩ := evs_beg B g
  obtain ⟨l1, l2, v2⟩ := evs_run (X := X) (L := (begF A g).2) (i := 0) (rs := [])
  obtain ⟨l1', l2', v2'⟩ := evs_run (X := X) (L := (begF B g).2) (i := 0) (rs := [])
  have hLA := hA.1.evs (v1.trans v2) (by omega)
  have hCA := hA.2.evs hA.1 (v1.trans v2) (by omega)
  have hCB := hB.2.evs hB.1 (v1'.trans v2') (by omega)
  obtain ⟨e3, s3⟩ := s2.en hCA hCB
  obtain ⟨e4, s4⟩ := s2.ab hLA
  unfold exeF
  rw [e1, e2, e3]
  split
  · split
    · exact ⟨rfl, s3⟩
    · exact ⟨rfl, s4⟩
  · exact ⟨rfl, s1⟩
theorem Sim.rvN : ∀ (k : Nat) {n : Nat} {A B : PLg}, Sim A B → LI n A → k ≤ A.st.saved.length → n < 10000000 → Sim { A with st := rvN A.st k } { B with st := rvN B.st k }
  | 0, n, A, B, h, _, _, _ => h
  | k + 1, n, A, B, h, hA, hk, hn => by
    have h1 := (h.rvS hA).2
    have h8 := hA.dep
    have he := Evt.rv A (by omega) h8
    have hL := hA.evt he (by omega)
    have hp := rvF_pos (S := A.st) (k := A.st.saved.length - 1) (by omega) h8
    exact Sim.rvN k h1 hL (by show k ≤ (rvF A.st).2.saved.length; rw [hp.2.1]; omega) (by omega)
theorem Sim.cmN : ∀ (k : Nat) {A B : PLg}, Sim A B → Sim { A with st := cmN A.st k } { B with st := cmN B.st k }
  | 0, A, B, h => h
  | k + 1, A, B, h => Sim.cmN k (h.cmS).2
theorem Sim.rvTo {n : Nat} (h : Sim A B) (hA : LI n A) (hn : n < 10000000) (d : Int) : (rvTo B d).1 = (rvTo A d).1 ∧ Sim (rvTo A d).2 (rvTo B d).2 := by
  unfold Qxb6500786aGreat.rvTo
  rw [h.sv]
  split
  · exact ⟨rfl, h⟩
  · exact ⟨rfl, Sim.rvN _ h hA (by omega) hn⟩
theorem Sim.cmTo (h : Sim A B) (d : Int) : (cmTo B d).1 = (cmTo A d).1 ∧ Sim (cmTo A d).2 (cmTo B d).2 := by
  unfold Qxb6500786aGreat.cmTo
  rw [h.sv]
  split
  · exact ⟨rfl, h⟩
  · exact ⟨rfl, Sim.cmN _ h⟩
theorem Sim.dmp (h : Sim A B) : dmpD B = dmpD A := by
  unfold dmpD dmpN
  rw [h.ch, h.ht, h.now, h.ps]
theorem Sim.rld (h : Sim A B) (k : Nat) : (rldF B k).1 = (rldF A k).1 ∧ Sim (rldF A k).2 (rldF B k).2 := by
  unfold rldF
  rw [h.op, h.dmp]
  split
  · exact ⟨rfl, h⟩
  · split
    · split
      · exact ⟨rfl, Sim.refl _⟩
      · exact ⟨rfl, h⟩
    · exact ⟨rfl, h⟩
theorem Sim.clo (h : Sim A B) : Sim (cloL A) (cloL B) := by
  refine ⟨h.ch, h.now, h.sv, h.ht, h.op, h.gl, h.ps, h.bn, h.bs, ?_, ?_, ?_⟩
  · show (B.receipts.take (ldF B.st.now (keyC 3)).toNat).take (ldF A.st.now (keyC 3)).toNat = (A.receipts.take (ldF A.st.now (keyC 3)).toNat).take (ldF A.st.now (keyC 3)).toNat
    rw [h.now, h.r]
  · show (B.sent.take (ldF B.st.now (keyC 4)).toNat).take (ldF A.st.now (keyC 4)).toNat = (A.sent.take (ldF A.st.now (keyC 4)).toNat).take (ldF A.st.now (keyC 4)).toNat
    rw [h.now, h.s]
  · show (B.took.take (ldF B.st.now (keyC 5)).toNat).take (ldF A.st.now (keyC 5)).toNat = (A.took.take (ldF A.st.now (keyC 5)).toNat).take (ldF A.st.now (keyC 5)).toNat
    rw [h.now, h.t]
theorem Sim.rot (h : Sim A B) : Sim (rotL A) (rotL B) := by
  refine ⟨h.ch, ?_, ?_, h.ht, h.op, h.gl, h.ps, h.bn, h.bs, ?_, ?_, ?_⟩
  all_goals simp only [rotL, rootS]
  · exact h.now
  · exact h.sv
  · exact h.r
  · exact h.s
  · exact h.t
theorem Sim.rcA {n : Nat} (h : Sim A B) (i : UInt64) : rcAF B i = rcAF A i := by
  unfold rcAF
  rw [h.op, h.now]
  split
  · split
    · rfl
    · rename_i q
      have e : (B.receipts.take (ldF A.st.now (keyC 3)).toNat)[i.toNat]? = (A.receipts.take (ldF A.st.now (keyC 3)).toNat)[i.toNat]? := by rw [h.r]
      rw [List.getElem?_take, List.getElem?_take, if_pos (by omega), if_pos (by omega)] at e
      rw [e]
  · rfl
theorem Sim.rcF (h : Sim A B) (d : Dig) : rcFF B d = rcFF A d := by
  unfold rcFF
  rw [h.op, h.now, h.r]
theorem Sim.why (h : Sim A B) (x : Tx) : whyF B x = whyF A x := by
  unfold whyF whyC wtF
  rw [h.jud, h.now, h.gl]
theorem Sim.mov (h : Sim A B) (x : Tx) : movF B x = movF A x := by
  unfold movF
  rw [h.jud, h.now]
theorem Sim.csm (h : Sim A B) (c : UInt8) (s : UInt64) : csmF B c s = csmF A c s := by
  unfold csmF peerB
  rw [h.ch, h.now]
theorem Sim.stpH {n m : Nat} (h : Sim A B) (hA : LI n A ∧ CI A) (hB : LI m B ∧ CI B) (g : GOp) (X : List Tx) (hn : n + X.length + 1 < 10000000) (hm : m + X.length + 1 < 10000000) : (stpH B g X).1 = (stpH A g X).1 ∧ Sim (stpH A g X).2 (stpH B g X).2 := by
  unfold Qxb6500786aGreat.stpH
  have e1 := h.beg g.gas
  have e2 := h.en hA.2 hB.2
  have e3 := h.app g.tx
  have e5 := h.bat true hA.1 X (by omega)
  have e6 := h.bat false hA.1 X (by omega)
  have e7 : (ckL B).1 = (ckL A).1 ∧ Sim (ckL A).2 (ckL B).2 := by
    unfold ckL
    by_cases q : A.open_ = true
    · rw [if_pos q, if_pos (by rw [h.op]; exact q)]; exact h.ckS
    · rw [if_neg q, if_neg (by rw [h.op]; exact q)]; exact ⟨rfl, h⟩
  have e8 : (rvL B).1 = (rvL A).1 ∧ Sim (rvL A).2 (rvL B).2 := h.rvS hA.1
  have e9 : (cmL B).1 = (cmL A).1 ∧ Sim (cmL A).2 (cmL B).2 := h.cmS
  have e18 := h.exe hA hB g.gas X hn hm
  have e23 := h.rvTo hA.1 (by omega) (sqI g.seq)
  have e24 := h.cmTo (sqI g.seq)
  have e27 := h.ab hA.1
  by_cases k1 : g.kind = 1
  · rw [if_pos k1, if_pos k1]; exact ⟨by rw [e1.1], e1.2⟩
  rw [if_neg k1, if_neg k1]
  by_cases k2 : g.kind = 2
  · rw [if_pos k2, if_pos k2]; exact ⟨by rw [e2.1], e2.2⟩
  rw [if_neg k2, if_neg k2]
  by_cases k3 : g.kind = 3
  · rw [if_pos k3, if_pos k3]; exact ⟨by rw [e3.1], e3.2⟩
  rw [if_neg k3, if_neg k3]
  by_cases k4 : g.kind = 4
  · rw [if_pos k4, if_pos k4]; exact ⟨by rw [h.jud], h⟩
  rw [if_neg k4, if_neg k4]
  by_cases k5 : g.kind = 5
  · rw [if_pos k5, if_pos k5]; exact ⟨by rw [e5.1], e5.2⟩
  rw [if_neg k5, if_neg k5]
  by_cases k6 : g.kind = 6
  · rw [if_pos k6, if_pos k6]; exact ⟨by rw [e6.1], e6.2⟩
  rw [if_neg k6, if_neg k6]
  by_cases k7 : g.kind = 7
  · rw [if_pos k7, if_pos k7]; exact ⟨by rw [e7.1], e7.2⟩
  rw [if_neg k7, if_neg k7]
  by_cases k8 : g.kind = 8
  · rw [if_pos k8, if_pos k8]; exact ⟨by rw [e8.1], e8.2⟩
  rw [if_neg k8, if_neg k8]
  by_cases k9 : g.kind = 9
  · rw [if_pos k9, if_pos k9]; exact ⟨by rw [e9.1], e9.2⟩
  rw [if_neg k9, if_neg k9]
  by_cases k10 : g.kind = 10
  · rw [if_pos k10, if_pos k10]; exact ⟨by rw [h.root hA.2 hB.2], h.rot⟩
  rw [if_neg k10, if_neg k10]
  by_cases k11 : g.kind = 11
  · rw [if_pos k11, if_pos k11]; exact ⟨by rw [h.now], h⟩
  rw [if_neg k11, if_neg k11]
  by_cases k12 : g.kind = 12
  · rw [if_pos k12, if_pos k12]; exact ⟨by rw [h.now], h⟩
  rw [if_neg k12, if_neg k12]
  by_cases k13 : g.kind = 13
  · rw [if_pos k13, if_pos k13]; exact ⟨by rw [h.now], h⟩
  rw [if_neg k13, if_neg k13]
  by_cases k14 : g.kind = 14
  · rw [if_pos k14, if_pos k14]; exact ⟨by rw [h.csm], h⟩
  rw [if_neg k14, if_neg k14]
  by_cases k18 : g.kind = 18
  · rw [if_pos k18, if_pos k18]; exact ⟨by rw [e18.1], e18.2⟩
  rw [if_neg k18, if_neg k18]
  by_cases k19 : g.kind = 19
  · rw [if_pos k19, if_pos k19]; exact ⟨by rw [h.mov], h⟩
  rw [if_neg k19, if_neg k19]
  by_cases k20 : g.kind = 20
  · rw [if_pos k20, if_pos k20]; exact ⟨by rw [h.rcA (n := 0)], h⟩
  rw [if_neg k20, if_neg k20]
  by_cases k21 : g.kind = 21
  · rw [if_pos k21, if_pos k21]; exact ⟨by rw [h.rcF], h⟩
  rw [if_neg k21, if_neg k21]
  by_cases k22 : g.kind = 22
  · rw [if_pos k22, if_pos k22]; exact ⟨by rw [h.ps], h⟩
  rw [if_neg k22, if_neg k22]
  by_cases k23 : g.kind = 23
  · rw [if_pos k23, if_pos k23]; exact ⟨by rw [e23.1], e23.2⟩
  rw [if_neg k23, if_neg k23]
  by_cases k24 : g.kind = 24
  · rw [if_pos k24, if_pos k24]; exact ⟨by rw [e24.1], e24.2⟩
  rw [if_neg k24, if_neg k24]
  by_cases k25 : g.kind = 25
  · rw [if_pos k25, if_pos k25]; exact ⟨by rw [h.why], h⟩
  rw [if_neg k25, if_neg k25]
  by_cases k26 : g.kind = 26
  · rw [if_pos k26, if_pos k26]; exact ⟨by rw [h.now], h⟩
  rw [if_neg k26, if_neg k26]
  by_cases k27 : g.kind = 27
  · rw [if_pos k27, if_pos k27]; exact ⟨by rw [e27.1], e27.2⟩
  rw [if_neg k27, if_neg k27]
  exact ⟨rfl, h⟩
end
/-- The same step on two pairs that cannot be told apart. -/
theorem Sim.stp {n m : Nat} {A1 A2 B1 B2 : PLg} (h1 : Sim A1 B1) (h2 : Sim A2 B2) (hA : LI n A1 ∧ CI A1) (hB : LI m B1 ∧ CI B1) (g : GOp) (X : List Tx) (hn : n + X.length + 1 < 10000000) (hm : m + X.length + 1 < 10000000) : (stpF B1 B2 g X).1 = (stpF A1 A2 g X).1 ∧ Sim (stpF A1 A2 g X).2.1 (stpF B1 B2 g X).2.1 ∧ Sim (stpF A1 A2 g X).2.2 (stpF B1 B2 g X).2.2 := by
  unfold stpF
  by_cases k15 : g.kind = 15
  · rw [if_pos k15, if_pos k15]
    exact ⟨rfl, h1, h1.clo⟩
  rw [if_neg k15, if_neg k15]
  by_cases k16 : g.kind = 16
  · rw [if_pos k16, if_pos k16]
    exact ⟨rfl, h2, h1⟩
  rw [if_neg k16, if_neg k16]
  by_cases k17 : g.kind = 17
  · rw [if_pos k17, if_pos k17]
    have := h1.rld (g.seq.toNat % 10)
    exact ⟨by rw [this.1], this.2, h2⟩
  rw [if_neg k17, if_neg k17]
  have := h1.stpH hA hB g X hn hm
  exact ⟨this.1, this.2, h2⟩
end Go.Proofs.Qxb6500786aGreat
