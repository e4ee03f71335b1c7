import Derived.DeepKeys2
import Derived.Test.Qxb6500786aGreatPe

import Derived.StillTailTactics
import Derived.Deep.QuietTactic
import Derived.BigQuiet
import Derived.Deep.RegionHeld
import Derived.Deep.CutRange
import Derived.Laws.ResultCell
import Derived.Laws.Rows
import Derived.DeepKeys
import Derived.DataBytes
import Derived.Laws.StructEq
import Derived.Laws.AppendOwn
import Derived.Laws.MakeOwn
import Derived.Lib.AppendStr
set_option linter.unusedSimpArgs false
set_option linter.unusedVariables false
namespace Go.Proofs.Qxb6500786aGreat
open Go.RowKit Go.Blk
attribute [local go_sem ↓] execOp_load execOp_store execOp_alloc
attribute [local go_sem] Tryz.ld24 Tryz.st24 Tryz.ld36 Tryz.st36 Tryz.ld28 Tryz.st28 Tryz.ld32 Tryz.st32 Tryz.ld33 Tryz.st33 Tryz.ld34 Tryz.st34 Tryz.ld5 Tryz.st5 Tryz.ld31 Tryz.st31 Tryz.ld30 Tryz.st30 Tryz.ld41 Tryz.st41 Tryz.ld44 Tryz.st44 Tryz.ld4 Tryz.st4 Tryz.ld173 Tryz.st173 Tryz.ld174 Tryz.st174 Tryz.ld95 Tryz.st95 Tryz.ld45 Tryz.st45 Tryz.ld207 Tryz.st207 Tryz.ld3 Tryz.st3 Tryz.ld189 Tryz.st189 Tryz.ld2 Tryz.st2 Tryz.ld9 Tryz.st9 Tryz.ld12 Tryz.st12 Tryz.ld21 Tryz.st21 Tryz.ld22 Tryz.st22 Tryz.ld46 Tryz.st46 Tryz.ld92 Tryz.st92 Tryz.ld94 Tryz.st94 Tryz.ld96 Tryz.st96 Tryz.ld97 Tryz.st97 Tryz.ld105 Tryz.st105 Tryz.ld117 Tryz.st117 Tryz.ld122 Tryz.st122 Tryz.ld123 Tryz.st123 Tryz.ld133 Tryz.st133 Tryz.ld155 Tryz.st155 Tryz.ld163 Tryz.st163 Tryz.ld190 Tryz.st190 Tryz.ld197 Tryz.st197 Tryz.ld201 Tryz.st201 Tryz.ld202 Tryz.st202 Tryz.ld209 Tryz.st209 Tryz.ld216 Tryz.st216 Tryz.ld230 Tryz.st230 Tryz.ld238 Tryz.st238 Tryz.ld242 Tryz.st242 Tryz.ld251 Tryz.st251 Tryz.ld260 Tryz.st260 Tryz.ld286 Tryz.st286 Tryz.ld292 Tryz.st292 Tryz.ld298 Tryz.st298 Tryz.ld309 Tryz.st309 Tryz.ld35 Tryz.st35 Tryz.ld48 Tryz.st48 Tryz.ld47 Tryz.st47 Tryz.ld79 Tryz.st79 Tryz.ld177 Tryz.st177 Tryz.ld180 Tryz.st180 Tryz.ld231 Tryz.st231 Tryz.ld232 Tryz.st232 Tryz.ld26 Tryz.st26 Tryz.ld38 Tryz.st38 Tryz.ld40 Tryz.st40 Tryz.ld43 Tryz.st43 Tryz.ld50 Tryz.st50 Tryz.ld52 Tryz.st52 Tryz.ld54 Tryz.st54 Tryz.ld81 Tryz.st81 Tryz.ld112 Tryz.st112 Tryz.ld120 Tryz.st120 Tryz.ld176 Tryz.st176 Tryz.ld179 Tryz.st179 Tryz.ld182 Tryz.st182 Tryz.ld184 Tryz.st184 Tryz.ld234 Tryz.st234 Tryz.ld236 Tryz.st236 Tryz.ld240 Tryz.st240 Tryz.ld246 Tryz.st246 Tryz.ld249 Tryz.st249 Tryz.al35 Tryz.al48 Tryz.al47 Tryz.al79 Tryz.al177 Tryz.al180 Tryz.al231 Tryz.al232 Tryz.al26 Tryz.al38 Tryz.al40 Tryz.al43 Tryz.al50 Tryz.al52 Tryz.al54 Tryz.al81 Tryz.al112 Tryz.al120 Tryz.al176 Tryz.al179 Tryz.al182 Tryz.al184 Tryz.al234 Tryz.al236 Tryz.al240 Tryz.al246 Tryz.al249
attribute [local go_sem] Player.length_enc Player.ok_enc Player.all_get Player.all_set Player.hand_get Player.hand_set Player.aside_get Player.aside_set Message.length_enc Message.ok_enc Message.all_get Message.all_set Message.kind_get Message.kind_set Message.from__get Message.from__set Message.to__get Message.to__set Message.sender_get Message.sender_set Message.receiver_get Message.receiver_set Message.seq_get Message.seq_set Message.token_get Message.token_set Message.amount_get Message.amount_set Message.size_get Message.size_set Message.payload_get Message.payload_set Tx.length_enc Tx.ok_enc Tx.all_get Tx.all_set Tx.kind_get Tx.kind_set Tx.chain_get Tx.chain_set Tx.from__get Tx.from__set Tx.nonce_get Tx.nonce_set Tx.fee_get Tx.fee_set Tx.to__get Tx.to__set Tx.dest_get Tx.dest_set Tx.token_get Tx.token_set Tx.amount_get Tx.amount_set Tx.size_get Tx.size_set Tx.payload_get Tx.payload_set Tx.msg_get Tx.msg_set Tx.msg_kind_get Tx.msg_kind_set Tx.msg_from__get Tx.msg_from__set Tx.msg_to__get Tx.msg_to__set Tx.msg_sender_get Tx.msg_sender_set Tx.msg_receiver_get Tx.msg_receiver_set Tx.msg_seq_get Tx.msg_seq_set Tx.msg_token_get Tx.msg_token_set Tx.msg_amount_get Tx.msg_amount_set Tx.msg_size_get Tx.msg_size_set Tx.msg_payload_get Tx.msg_payload_set GOp.length_enc GOp.ok_enc GOp.all_get GOp.all_set GOp.kind_get GOp.kind_set GOp.tx_get GOp.tx_set GOp.txs_get GOp.txs_set GOp.gas_get GOp.gas_set GOp.acct_get GOp.acct_set GOp.token_get GOp.token_set GOp.chain_get GOp.chain_set GOp.seq_get GOp.seq_set GOp.tx_kind_get GOp.tx_kind_set GOp.tx_chain_get GOp.tx_chain_set GOp.tx_from__get GOp.tx_from__set GOp.tx_nonce_get GOp.tx_nonce_set GOp.tx_fee_get GOp.tx_fee_set GOp.tx_to__get GOp.tx_to__set GOp.tx_dest_get GOp.tx_dest_set GOp.tx_token_get GOp.tx_token_set GOp.tx_amount_get GOp.tx_amount_set GOp.tx_size_get GOp.tx_size_set GOp.tx_payload_get GOp.tx_payload_set GOp.tx_msg_get GOp.tx_msg_set GOp.tx_msg_kind_get GOp.tx_msg_kind_set GOp.tx_msg_from__get GOp.tx_msg_from__set GOp.tx_msg_to__get GOp.tx_msg_to__set GOp.tx_msg_sender_get GOp.tx_msg_sender_set GOp.tx_msg_receiver_get GOp.tx_msg_receiver_set GOp.tx_msg_seq_get GOp.tx_msg_seq_set GOp.tx_msg_token_get GOp.tx_msg_token_set GOp.tx_msg_amount_get GOp.tx_msg_amount_set GOp.tx_msg_size_get GOp.tx_msg_size_set GOp.tx_msg_payload_get GOp.tx_msg_payload_set Summary.length_enc Summary.ok_enc Summary.all_get Summary.all_set Summary.height_get Summary.height_set Summary.txs_get Summary.txs_set Summary.gas_get Summary.gas_set Summary.fees_get Summary.fees_set Summary.sent_get Summary.sent_set Summary.took_get Summary.took_set Summary.minted_get Summary.minted_set Summary.burned_get Summary.burned_set Summary.root_get Summary.root_set Detail.length_enc Detail.ok_enc Detail.all_get Detail.all_set Detail.code_get Detail.code_set Detail.have__get Detail.have__set Detail.need_get Detail.need_set Slot.length_enc Slot.ok_enc Slot.all_get Slot.all_set Slot.nonce_get Slot.nonce_set Slot.balances_get Slot.balances_set Tree.length_enc Tree.ok_enc Tree.all_get Tree.all_set Tree.leaves_get Tree.leaves_set Mark.length_enc Mark.ok_enc Mark.all_get Mark.all_set Mark.from__get Mark.from__set Mark.seq_get Mark.seq_set Receipt.length_enc Receipt.ok_enc Receipt.all_get Receipt.all_set Receipt.code_get Receipt.code_set Receipt.hash_get Receipt.hash_set Receipt.index_get Receipt.index_set Receipt.gas_get Receipt.gas_set Receipt.fee_get Receipt.fee_set Receipt.hasSent_get Receipt.hasSent_set Receipt.sent_get Receipt.sent_set Receipt.hasTook_get Receipt.hasTook_set Receipt.took_get Receipt.took_set Receipt.sent_kind_get Receipt.sent_kind_set Receipt.sent_from__get Receipt.sent_from__set Receipt.sent_to__get Receipt.sent_to__set Receipt.sent_sender_get Receipt.sent_sender_set Receipt.sent_receiver_get Receipt.sent_receiver_set Receipt.sent_seq_get Receipt.sent_seq_set Receipt.sent_token_get Receipt.sent_token_set Receipt.sent_amount_get Receipt.sent_amount_set Receipt.sent_size_get Receipt.sent_size_set Receipt.sent_payload_get Receipt.sent_payload_set Receipt.took_kind_get Receipt.took_kind_set Receipt.took_from__get Receipt.took_from__set Receipt.took_to__get Receipt.took_to__set Receipt.took_sender_get Receipt.took_sender_set Receipt.took_receiver_get Receipt.took_receiver_set Receipt.took_seq_get Receipt.took_seq_set Receipt.took_token_get Receipt.took_token_set Receipt.took_amount_get Receipt.took_amount_set Receipt.took_size_get Receipt.took_size_set Receipt.took_payload_get Receipt.took_payload_set Store.length_enc Store.ok_enc Store.all_get Store.all_set Store.now_get Store.now_set Store.saved_get Store.saved_set GState.length_enc GState.ok_enc GState.all_get GState.all_set GState.kv_get GState.kv_set GState.tree_get GState.tree_set GState.stale_get GState.stale_set GState.touched_get GState.touched_set GState.kv_now_get GState.kv_now_set GState.kv_saved_get GState.kv_saved_set GState.tree_leaves_get GState.tree_leaves_set History.length_enc History.ok_enc History.all_get History.all_set History.ring_get History.ring_set History.closed_get History.closed_set Ledger.length_enc Ledger.ok_enc Ledger.all_get Ledger.all_set Ledger.chain_get Ledger.chain_set Ledger.st_get Ledger.st_set Ledger.height_get Ledger.height_set Ledger.open__get Ledger.open__set Ledger.gasLimit_get Ledger.gasLimit_set Ledger.past_get Ledger.past_set Ledger.begun_get Ledger.begun_set Ledger.sent_get Ledger.sent_set Ledger.took_get Ledger.took_set Ledger.receipts_get Ledger.receipts_set Ledger.st_kv_get Ledger.st_kv_set Ledger.st_tree_get Ledger.st_tree_set Ledger.st_stale_get Ledger.st_stale_set Ledger.st_touched_get Ledger.st_touched_set Ledger.st_kv_now_get Ledger.st_kv_now_set Ledger.st_kv_saved_get Ledger.st_kv_saved_set Ledger.st_tree_leaves_get Ledger.st_tree_leaves_set Ledger.past_ring_get Ledger.past_ring_set Ledger.past_closed_get Ledger.past_closed_set Ledger.begun_kv_get Ledger.begun_kv_set Ledger.begun_tree_get Ledger.begun_tree_set Ledger.begun_stale_get Ledger.begun_stale_set Ledger.begun_touched_get Ledger.begun_touched_set Ledger.begun_kv_now_get Ledger.begun_kv_now_set Ledger.begun_kv_saved_get Ledger.begun_kv_saved_set Ledger.begun_tree_leaves_get Ledger.begun_tree_leaves_set Purse.length_enc Purse.ok_enc Purse.all_get Purse.all_set Purse.st_get Purse.st_set Purse.n_get Purse.n_set Purse.account_get Purse.account_set Purse.token_get Purse.token_set Purse.amount_get Purse.amount_set Plan.length_enc Plan.ok_enc Plan.all_get Plan.all_set Plan.purse_get Plan.purse_set Plan.nonce_get Plan.nonce_set Plan.gasUsed_get Plan.gasUsed_set Plan.fees_get Plan.fees_set Plan.hasSupply_get Plan.hasSupply_set Plan.token_get Plan.token_set Plan.supply_get Plan.supply_set Plan.flowAt_get Plan.flowAt_set Plan.flow_get Plan.flow_set Plan.receipt_get Plan.receipt_set Plan.purse_st_get Plan.purse_st_set Plan.purse_n_get Plan.purse_n_set Plan.purse_account_get Plan.purse_account_set Plan.purse_token_get Plan.purse_token_set Plan.purse_amount_get Plan.purse_amount_set Plan.receipt_code_get Plan.receipt_code_set Plan.receipt_hash_get Plan.receipt_hash_set Plan.receipt_index_get Plan.receipt_index_set Plan.receipt_gas_get Plan.receipt_gas_set Plan.receipt_fee_get Plan.receipt_fee_set Plan.receipt_hasSent_get Plan.receipt_hasSent_set Plan.receipt_sent_get Plan.receipt_sent_set Plan.receipt_hasTook_get Plan.receipt_hasTook_set Plan.receipt_took_get Plan.receipt_took_set Plan.receipt_sent_kind_get Plan.receipt_sent_kind_set Plan.receipt_sent_from__get Plan.receipt_sent_from__set Plan.receipt_sent_to__get Plan.receipt_sent_to__set Plan.receipt_sent_sender_get Plan.receipt_sent_sender_set Plan.receipt_sent_receiver_get Plan.receipt_sent_receiver_set Plan.receipt_sent_seq_get Plan.receipt_sent_seq_set Plan.receipt_sent_token_get Plan.receipt_sent_token_set Plan.receipt_sent_amount_get Plan.receipt_sent_amount_set Plan.receipt_sent_size_get Plan.receipt_sent_size_set Plan.receipt_sent_payload_get Plan.receipt_sent_payload_set Plan.receipt_took_kind_get Plan.receipt_took_kind_set Plan.receipt_took_from__get Plan.receipt_took_from__set Plan.receipt_took_to__get Plan.receipt_took_to__set Plan.receipt_took_sender_get Plan.receipt_took_sender_set Plan.receipt_took_receiver_get Plan.receipt_took_receiver_set Plan.receipt_took_seq_get Plan.receipt_took_seq_set Plan.receipt_took_token_get Plan.receipt_took_token_set Plan.receipt_took_amount_get Plan.receipt_took_amount_set Plan.receipt_took_size_get Plan.receipt_took_size_set Plan.receipt_took_payload_get Plan.receipt_took_payload_set Move.length_enc Move.ok_enc Move.all_get Move.all_set Move.account_get Move.account_set Move.token_get Move.token_set Move.down_get Move.down_set Move.amount_get Move.amount_set Books.length_enc Books.ok_enc Books.all_get Books.all_set Books.sums_get Books.sums_set Books.stored_get Books.stored_set Books.marks_get Books.marks_set Pair.length_enc Pair.ok_enc Pair.all_get Pair.all_set Pair.key_get Pair.key_set Pair.value_get Pair.value_set
attribute [local go_sem] size_put size_ext blk_put free_put blk_alloc free_alloc blk_drew free_drew blk_ext free_ext lookOr_some putOr_some segAt_some cellAt_some storeIn_some put_put put_alloc_new length_arr ok_arr_u8 ok_arr_u32 ok_arr_u64 ok_arr_i64 ok_arr_sl cellsV_agg cellsV_int cellsV_bool cellsV_string cellsV_pointer cellsV_slice cellsV_sl ok_int ok_bool ok_string ok_pointer ok_slice ok_sl toList_arr seg_arr set_arr nth_splice nth_splice0 seg_splice seg_splice0 splice_splice splice_splice0 length_splice_if
attribute [local go_sem ↓] execOp_box
attribute [local go_sem] box_run nth_arr_u8 put_arr_u8 blk_drewN free_drewN put_drewN blk_raw free_raw
/-- What a purse shows of a balance. -/
def pvL : List PE → UInt8 → UInt8 → Option UInt64
  | [], _, _ => none
  | e :: l, a, t => if e.a = a ∧ e.t = t then some e.v else pvL l a t
def pvF (now : List Pair) (l : List PE) (a t : UInt8) : UInt64 := (pvL l a t).getD (ldF now (keyB a t))
theorem fndP_cons (e : PE) (l : List PE) (a t : UInt8) : fndP (e :: l) a t = if e.a = a ∧ e.t = t then 0 else fndP l a t + 1 := by
  unfold fndP
  rw [List.findIdx_cons]
  by_cases h : e.a = a ∧ e.t = t
  · simp [h]
  · simp [h]
theorem slotL_cons (now : List Pair) (e : PE) (l : List PE) (a t : UInt8) : slotL now (e :: l) a t = if e.a = a ∧ e.t = t then e :: l else e :: slotL now l a t := by
  unfold slotL
  rw [fndP_cons]
  by_cases h : e.a = a ∧ e.t = t
  · rw [if_pos h, if_pos h, if_pos (by simp)]
  · rw [if_neg h, if_neg h]
    by_cases h2 : fndP l a t < l.length
    · rw [if_pos h2, if_pos (by simp only [List.length_cons]; omega)]
    · rw [if_neg h2, if_neg (by simp only [List.length_cons]; omega)]
      rfl
theorem setV_cons0 (e : PE) (l : List PE) (v : UInt64) : setV (e :: l) 0 v = ⟨e.a, e.t, v⟩ :: l := rfl
theorem setV_consS (e : PE) (l : List PE) (i : Nat) (v : UInt64) : setV (e :: l) (i + 1) v = e :: setV l i v := by
  unfold setV
  rw [List.getElem?_cons_succ]
  cases l[i]? <;> rfl
theorem atP_slot (now : List Pair) (l : List PE) (a t : UInt8) : atP (slotL now l a t) (fndP l a t) = pvF now l a t := by
  induction l with
  | nil => rfl
  | cons e l ih =>
    rw [slotL_cons, fndP_cons]
    unfold pvF pvL
    by_cases h : e.a = a ∧ e.t = t
    · rw [if_pos h, if_pos h, if_pos h]; rfl
    · rw [if_neg h, if_neg h, if_neg h]
      exact ih
theorem pvL_set (now : List Pair) (l : List PE) (a t : UInt8) (v : UInt64) (a' t' : UInt8) : pvL (setV (slotL now l a t) (fndP l a t) v) a' t' = if a = a' ∧ t = t' then some v else pvL l a' t' := by
  induction l with
  | nil =>
    show pvL [⟨a, t, v⟩] a' t' = _
    rfl
  | cons e l ih =>
    rw [slotL_cons, fndP_cons]
    by_cases h : e.a = a ∧ e.t = t
    · rw [if_pos h, if_pos h, setV_cons0]
      obtain ⟨h1, h2⟩ := h
      show (if e.a = a' ∧ e.t = t' then some v else pvL l a' t') = if a = a' ∧ t = t' then some v else (if e.a = a' ∧ e.t = t' then some e.v else pvL l a' t')
      rw [h1, h2]
      by_cases g : a = a' ∧ t = t'
      · rw [if_pos g, if_pos g]
      · rw [if_neg g, if_neg g, if_neg g]
    · rw [if_neg h, if_neg h, setV_consS]
      show (if e.a = a' ∧ e.t = t' then some e.v else pvL (setV (slotL now l a t) (fndP l a t) v) a' t') = if a = a' ∧ t = t' then some v else (if e.a = a' ∧ e.t = t' then some e.v else pvL l a' t')
      rw [ih]
      by_cases g : e.a = a' ∧ e.t = t'
      · rw [if_pos g]
        have : ¬ (a = a' ∧ t = t') := fun q => h ⟨g.1.trans q.1.symm, g.2.trans q.2.symm⟩
        rw [if_neg this, if_pos g]
      · rw [if_neg g, if_neg g]
/-- Balances with one changed. -/
def updB (B : UInt8 → UInt8 → UInt64) (a t : UInt8) (v : UInt64) : UInt8 → UInt8 → UInt64 := fun a' t' => if a = a' ∧ t = t' then v else B a' t'
theorem debR_iff (now : List Pair) (l : List PE) (a t : UInt8) (x : UInt64) : (debR now l a t x).1 = true ↔ ((pvF now l a t).toNat ≤ 9223372036854775807 ∧ x.toNat ≤ (pvF now l a t).toNat) := by
  unfold debR subO
  rw [atP_slot]
  by_cases h : (pvF now l a t).toNat ≤ 9223372036854775807 ∧ x.toNat ≤ (pvF now l a t).toNat
  · rw [if_pos h]; simp [h]
  · rw [if_neg h]; simp [h]
theorem crdR_iff (now : List Pair) (l : List PE) (a t : UInt8) (x : UInt64) : (crdR now l a t x).1 = true ↔ ((pvF now l a t).toNat + x.toNat ≤ 9223372036854775807) := by
  unfold crdR addO
  rw [atP_slot]
  by_cases h : (pvF now l a t).toNat + x.toNat ≤ 9223372036854775807
  · rw [if_pos h]; simp [h]
  · rw [if_neg h]; simp [h]
theorem debR_pv {now : List Pair} {l : List PE} {a t : UInt8} {x : UInt64} (h : (debR now l a t x).1 = true) : pvF now (debR now l a t x).2 = updB (pvF now l) a t (pvF now l a t - x) := by
  funext a' t'
  have h1 := (debR_iff now l a t x).1 h
  unfold debR subO
  rw [atP_slot, if_pos h1]
  dsimp only
  unfold pvF updB
  rw [pvL_set]
  by_cases g : a = a' ∧ t = t'
  · rw [if_pos g, if_pos g]; rfl
  · rw [if_neg g, if_neg g]
theorem crdR_pv {now : List Pair} {l : List PE} {a t : UInt8} {x : UInt64} (h : (crdR now l a t x).1 = true) : pvF now (crdR now l a t x).2 = updB (pvF now l) a t (pvF now l a t + x) := by
  funext a' t'
  have h1 := (crdR_iff now l a t x).1 h
  unfold crdR addO
  rw [atP_slot, if_pos h1]
  dsimp only
  unfold pvF updB
  rw [pvL_set]
  by_cases g : a = a' ∧ t = t'
  · rw [if_pos g, if_pos g]; rfl
  · rw [if_neg g, if_neg g]
/-- No balance twice in a purse. -/
def DistP : List PE → Prop
  | [] => True
  | e :: l => pvL l e.a e.t = none ∧ DistP l
theorem DistP.slot {now : List Pair} {l : List PE} (h : DistP l) (a t : UInt8) : DistP (slotL now l a t) ∧ ∀ a' t', ¬ (a = a' ∧ t = t') → pvL (slotL now l a t) a' t' = pvL l a' t' := by
  induction l with
  | nil =>
    refine ⟨⟨rfl, trivial⟩, fun a' t' hn => ?_⟩
    show (if a = a' ∧ t = t' then _ else none) = none
    rw [if_neg hn]
  | cons e l ih =>
    rw [slotL_cons]
    by_cases g : e.a = a ∧ e.t = t
    · rw [if_pos g]
      exact ⟨h, fun _ _ _ => rfl⟩
    · rw [if_neg g]
      obtain ⟨i1, i2⟩ := ih h.2
      refine ⟨⟨?_, i1⟩, fun a' t' hn => ?_⟩
      · rw [i2 _ _ (fun q => g ⟨q.1.symm, q.2.symm⟩)]
        exact h.1
      · show (if e.a = a' ∧ e.t = t' then some e.v else pvL (slotL now l a t) a' t') = if e.a = a' ∧ e.t = t' then some e.v else pvL l a' t'
        rw [i2 _ _ hn]
theorem pvL_setV (l : List PE) : ∀ (i : Nat) (v : UInt64) (a t : UInt8), (pvL (setV l i v) a t = none ↔ pvL l a t = none) := by
  induction l with
  | nil => intro i v a t; exact Iff.rfl
  | cons e l ih =>
    intro i v a t
    cases i with
    | zero =>
      show (if e.a = a ∧ e.t = t then some v else pvL l a t) = none ↔ (if e.a = a ∧ e.t = t then some e.v else pvL l a t) = none
      by_cases g : e.a = a ∧ e.t = t
      · rw [if_pos g, if_pos g]; simp
      · rw [if_neg g, if_neg g]
    | succ i =>
      rw [setV_consS]
      show (if e.a = a ∧ e.t = t then some e.v else pvL (setV l i v) a t) = none ↔ (if e.a = a ∧ e.t = t then some e.v else pvL l a t) = none
      by_cases g : e.a = a ∧ e.t = t
      · rw [if_pos g, if_pos g]
      · rw [if_neg g, if_neg g]; exact ih i v a t
theorem DistP.setV : ∀ {l : List PE}, DistP l → ∀ (i : Nat) (v : UInt64), DistP (setV l i v)
  | [], _, _, _ => trivial
  | e :: l, h, 0, v => ⟨h.1, h.2⟩
  | e :: l, h, i + 1, v => by
    rw [setV_consS]
    exact ⟨(pvL_setV l i v _ _).2 h.1, DistP.setV h.2 i v⟩
theorem DistP.deb {now : List Pair} {l : List PE} (h : DistP l) (a t : UInt8) (x : UInt64) : DistP (debR now l a t x).2 := by
  unfold debR
  cases subO (atP (slotL now l a t) (fndP l a t)) x with
  | none => exact (h.slot a t).1
  | some v => exact (h.slot a t).1.setV _ _
theorem DistP.crd {now : List Pair} {l : List PE} (h : DistP l) (a t : UInt8) (x : UInt64) : DistP (crdR now l a t x).2 := by
  unfold crdR
  cases addO (atP (slotL now l a t) (fndP l a t)) x with
  | none => exact (h.slot a t).1
  | some v => exact (h.slot a t).1.setV _ _
theorem DistP.fee (now : List Pair) (x : Tx) : DistP (feeL now x) := DistP.deb (l := []) trivial _ _ _
theorem DistP.knd {now : List Pair} {l : List PE} (h : DistP l) (x : Tx) : DistP (kndL now l x) := by
  unfold kndL
  split
  · exact (h.deb _ _ _).crd _ _ _
  · split
    · exact h.deb _ _ _
    · split
      · exact h
      · split
        · exact h.crd _ _ _
        · exact h
theorem DistP.pur (now : List Pair) (x : Tx) : DistP (purL now x) := ((DistP.fee now x).knd x).crd _ _ _
theorem ldF_save (l : List Pair) (k v k' : UInt64) : ldF (saveF l k v) k' = if k' = k then v else ldF l k' := by
  by_cases h : k' = k
  · rw [if_pos h, h, ldF_same]
  · rw [if_neg h, ldF_ne _ _ _ h]
/-- A purse written to the state shows in the balances. -/
theorem ldF_flB : ∀ (l : List PE) (S : PSt), DistP l → ∀ a t, ldF (flF S l).now (keyB a t) = pvF S.now l a t
  | [], _, _, _, _ => rfl
  | e :: l, S, h, a, t => by
    show ldF (flF { touchF S e.a with now := saveF S.now (keyB e.a e.t) e.v } l).now (keyB a t) = _
    rw [ldF_flB l _ h.2 a t]
    unfold pvF
    dsimp only
    show (pvL l a t).getD _ = (if e.a = a ∧ e.t = t then some e.v else pvL l a t).getD _
    by_cases g : e.a = a ∧ e.t = t
    · rw [if_pos g]
      obtain ⟨g1, g2⟩ := g
      subst g1
      subst g2
      rw [h.1, ldF_same]; rfl
    · rw [if_neg g]
      cases hp : pvL l a t with
      | some v => rfl
      | none =>
        show ldF _ _ = ldF _ _
        rw [ldF_ne]
        intro q
        exact g ⟨(keyB_inj q).1.symm, (keyB_inj q).2.symm⟩
/-- The balances behind an accepted transaction. -/
def balB (now : List Pair) : UInt8 → UInt8 → UInt64 := fun a t => ldF now (keyB a t)
def feeB (B : UInt8 → UInt8 → UInt64) (x : Tx) : UInt8 → UInt8 → UInt64 := updB B x.from_ 0 (B x.from_ 0 - x.fee)
def debB (B : UInt8 → UInt8 → UInt64) (a t : UInt8) (v : UInt64) : UInt8 → UInt8 → UInt64 := updB B a t (B a t - v)
def crdB (B : UInt8 → UInt8 → UInt64) (a t : UInt8) (v : UInt64) : UInt8 → UInt8 → UInt64 := updB B a t (B a t + v)
def kndB (B : UInt8 → UInt8 → UInt64) (x : Tx) : UInt8 → UInt8 → UInt64 := if w8 x.kind = 1 then crdB (debB B x.from_ x.token x.amount) x.to_ x.token x.amount else if w8 x.kind = 2 then debB B x.from_ x.token x.amount else if w8 x.kind = 4 then B else if w8 x.kind = 3 then crdB B x.msg.receiver x.msg.token x.msg.amount else B
def finB (B : UInt8 → UInt8 → UInt64) (x : Tx) : UInt8 → UInt8 → UInt64 := crdB (kndB (debB B x.from_ 0 x.fee) x) 0 0 x.fee
theorem pv_fee {L : PLg} {x : Tx} (h : JOk L x) : pvF L.st.now (feeL L.st.now x) = debB (balB L.st.now) x.from_ 0 x.fee := debR_pv (l := []) h.dfee
theorem pv_knd {L : PLg} {x : Tx} (h : JOk L x) : pvF L.st.now (kndL L.st.now (feeL L.st.now x) x) = kndB (debB (balB L.st.now) x.from_ 0 x.fee) x := by
  rw [← pv_fee h]
  unfold kndL kndB
  rcases h.knd with ⟨k, h1, h2⟩ | ⟨k, h1, h2⟩ | k | ⟨k, h1, h2, h3, h4⟩ | ⟨k, h1⟩
  · rw [if_pos k, if_pos k, crdR_pv h2, debR_pv h1]; rfl
  · rw [if_neg (by omega), if_pos k, if_neg (by omega), if_pos k, debR_pv h1]; rfl
  · rw [if_neg (by omega), if_neg (by omega), if_pos k, if_neg (by omega), if_neg (by omega), if_pos k]
  · rw [if_neg (by omega), if_neg (by omega), if_neg (by omega), if_pos k, if_neg (by omega), if_neg (by omega), if_neg (by omega), if_pos k, crdR_pv h4]; rfl
  · rw [if_neg (by omega), if_neg (by omega), if_neg (by omega), if_neg (by omega), if_neg (by omega), if_neg (by omega), if_neg (by omega), if_neg (by omega)]
theorem pv_pur {L : PLg} {x : Tx} (h : JOk L x) : pvF L.st.now (purL L.st.now x) = finB (balB L.st.now) x := by
  unfold purL finB
  rw [crdR_pv h.dseq, pv_knd h]; rfl
end Go.Proofs.Qxb6500786aGreat
