import Derived.DeepKeys2
import Derived.Test.Qxb6500786aGreatLa

import Derived.StillTailTactics
import Derived.Deep.QuietTactic
import Derived.BigQuiet
import Derived.Deep.RegionHeld
import Derived.Deep.CutRange
import Derived.Laws.ResultCell
import Derived.Laws.Rows
import Derived.DeepKeys
import Derived.DataBytes
import Derived.Laws.StructEq
import Derived.Laws.AppendOwn
import Derived.Laws.MakeOwn
import Derived.Lib.AppendStr
set_option linter.unusedSimpArgs false
set_option linter.unusedVariables false
namespace Go.Proofs.Qxb6500786aGreat
open Go.RowKit Go.Blk
attribute [local go_sem ↓] execOp_load execOp_store execOp_alloc
attribute [local go_sem] Tryz.ld24 Tryz.st24 Tryz.ld36 Tryz.st36 Tryz.ld28 Tryz.st28 Tryz.ld32 Tryz.st32 Tryz.ld33 Tryz.st33 Tryz.ld34 Tryz.st34 Tryz.ld5 Tryz.st5 Tryz.ld31 Tryz.st31 Tryz.ld30 Tryz.st30 Tryz.ld41 Tryz.st41 Tryz.ld44 Tryz.st44 Tryz.ld4 Tryz.st4 Tryz.ld173 Tryz.st173 Tryz.ld174 Tryz.st174 Tryz.ld95 Tryz.st95 Tryz.ld45 Tryz.st45 Tryz.ld207 Tryz.st207 Tryz.ld3 Tryz.st3 Tryz.ld189 Tryz.st189 Tryz.ld2 Tryz.st2 Tryz.ld9 Tryz.st9 Tryz.ld12 Tryz.st12 Tryz.ld21 Tryz.st21 Tryz.ld22 Tryz.st22 Tryz.ld46 Tryz.st46 Tryz.ld92 Tryz.st92 Tryz.ld94 Tryz.st94 Tryz.ld96 Tryz.st96 Tryz.ld97 Tryz.st97 Tryz.ld105 Tryz.st105 Tryz.ld117 Tryz.st117 Tryz.ld122 Tryz.st122 Tryz.ld123 Tryz.st123 Tryz.ld133 Tryz.st133 Tryz.ld155 Tryz.st155 Tryz.ld163 Tryz.st163 Tryz.ld190 Tryz.st190 Tryz.ld197 Tryz.st197 Tryz.ld201 Tryz.st201 Tryz.ld202 Tryz.st202 Tryz.ld209 Tryz.st209 Tryz.ld216 Tryz.st216 Tryz.ld230 Tryz.st230 Tryz.ld238 Tryz.st238 Tryz.ld242 Tryz.st242 Tryz.ld251 Tryz.st251 Tryz.ld260 Tryz.st260 Tryz.ld286 Tryz.st286 Tryz.ld292 Tryz.st292 Tryz.ld298 Tryz.st298 Tryz.ld309 Tryz.st309 Tryz.ld35 Tryz.st35 Tryz.ld48 Tryz.st48 Tryz.ld47 Tryz.st47 Tryz.ld79 Tryz.st79 Tryz.ld177 Tryz.st177 Tryz.ld180 Tryz.st180 Tryz.ld231 Tryz.st231 Tryz.ld232 Tryz.st232 Tryz.ld26 Tryz.st26 Tryz.ld38 Tryz.st38 Tryz.ld40 Tryz.st40 Tryz.ld43 Tryz.st43 Tryz.ld50 Tryz.st50 Tryz.ld52 Tryz.st52 Tryz.ld54 Tryz.st54 Tryz.ld81 Tryz.st81 Tryz.ld112 Tryz.st112 Tryz.ld120 Tryz.st120 Tryz.ld176 Tryz.st176 Tryz.ld179 Tryz.st179 Tryz.ld182 Tryz.st182 Tryz.ld184 Tryz.st184 Tryz.ld234 Tryz.st234 Tryz.ld236 Tryz.st236 Tryz.ld240 Tryz.st240 Tryz.ld246 Tryz.st246 Tryz.ld249 Tryz.st249 Tryz.al35 Tryz.al48 Tryz.al47 Tryz.al79 Tryz.al177 Tryz.al180 Tryz.al231 Tryz.al232 Tryz.al26 Tryz.al38 Tryz.al40 Tryz.al43 Tryz.al50 Tryz.al52 Tryz.al54 Tryz.al81 Tryz.al112 Tryz.al120 Tryz.al176 Tryz.al179 Tryz.al182 Tryz.al184 Tryz.al234 Tryz.al236 Tryz.al240 Tryz.al246 Tryz.al249
attribute [local go_sem] Player.length_enc Player.ok_enc Player.all_get Player.all_set Player.hand_get Player.hand_set Player.aside_get Player.aside_set Message.length_enc Message.ok_enc Message.all_get Message.all_set Message.kind_get Message.kind_set Message.from__get Message.from__set Message.to__get Message.to__set Message.sender_get Message.sender_set Message.receiver_get Message.receiver_set Message.seq_get Message.seq_set Message.token_get Message.token_set Message.amount_get Message.amount_set Message.size_get Message.size_set Message.payload_get Message.payload_set Tx.length_enc Tx.ok_enc Tx.all_get Tx.all_set Tx.kind_get Tx.kind_set Tx.chain_get Tx.chain_set Tx.from__get Tx.from__set Tx.nonce_get Tx.nonce_set Tx.fee_get Tx.fee_set Tx.to__get Tx.to__set Tx.dest_get Tx.dest_set Tx.token_get Tx.token_set Tx.amount_get Tx.amount_set Tx.size_get Tx.size_set Tx.payload_get Tx.payload_set Tx.msg_get Tx.msg_set Tx.msg_kind_get Tx.msg_kind_set Tx.msg_from__get Tx.msg_from__set Tx.msg_to__get Tx.msg_to__set Tx.msg_sender_get Tx.msg_sender_set Tx.msg_receiver_get Tx.msg_receiver_set Tx.msg_seq_get Tx.msg_seq_set Tx.msg_token_get Tx.msg_token_set Tx.msg_amount_get Tx.msg_amount_set Tx.msg_size_get Tx.msg_size_set Tx.msg_payload_get Tx.msg_payload_set GOp.length_enc GOp.ok_enc GOp.all_get GOp.all_set GOp.kind_get GOp.kind_set GOp.tx_get GOp.tx_set GOp.txs_get GOp.txs_set GOp.gas_get GOp.gas_set GOp.acct_get GOp.acct_set GOp.token_get GOp.token_set GOp.chain_get GOp.chain_set GOp.seq_get GOp.seq_set GOp.tx_kind_get GOp.tx_kind_set GOp.tx_chain_get GOp.tx_chain_set GOp.tx_from__get GOp.tx_from__set GOp.tx_nonce_get GOp.tx_nonce_set GOp.tx_fee_get GOp.tx_fee_set GOp.tx_to__get GOp.tx_to__set GOp.tx_dest_get GOp.tx_dest_set GOp.tx_token_get GOp.tx_token_set GOp.tx_amount_get GOp.tx_amount_set GOp.tx_size_get GOp.tx_size_set GOp.tx_payload_get GOp.tx_payload_set GOp.tx_msg_get GOp.tx_msg_set GOp.tx_msg_kind_get GOp.tx_msg_kind_set GOp.tx_msg_from__get GOp.tx_msg_from__set GOp.tx_msg_to__get GOp.tx_msg_to__set GOp.tx_msg_sender_get GOp.tx_msg_sender_set GOp.tx_msg_receiver_get GOp.tx_msg_receiver_set GOp.tx_msg_seq_get GOp.tx_msg_seq_set GOp.tx_msg_token_get GOp.tx_msg_token_set GOp.tx_msg_amount_get GOp.tx_msg_amount_set GOp.tx_msg_size_get GOp.tx_msg_size_set GOp.tx_msg_payload_get GOp.tx_msg_payload_set Summary.length_enc Summary.ok_enc Summary.all_get Summary.all_set Summary.height_get Summary.height_set Summary.txs_get Summary.txs_set Summary.gas_get Summary.gas_set Summary.fees_get Summary.fees_set Summary.sent_get Summary.sent_set Summary.took_get Summary.took_set Summary.minted_get Summary.minted_set Summary.burned_get Summary.burned_set Summary.root_get Summary.root_set Detail.length_enc Detail.ok_enc Detail.all_get Detail.all_set Detail.code_get Detail.code_set Detail.have__get Detail.have__set Detail.need_get Detail.need_set Slot.length_enc Slot.ok_enc Slot.all_get Slot.all_set Slot.nonce_get Slot.nonce_set Slot.balances_get Slot.balances_set Tree.length_enc Tree.ok_enc Tree.all_get Tree.all_set Tree.leaves_get Tree.leaves_set Mark.length_enc Mark.ok_enc Mark.all_get Mark.all_set Mark.from__get Mark.from__set Mark.seq_get Mark.seq_set Receipt.length_enc Receipt.ok_enc Receipt.all_get Receipt.all_set Receipt.code_get Receipt.code_set Receipt.hash_get Receipt.hash_set Receipt.index_get Receipt.index_set Receipt.gas_get Receipt.gas_set Receipt.fee_get Receipt.fee_set Receipt.hasSent_get Receipt.hasSent_set Receipt.sent_get Receipt.sent_set Receipt.hasTook_get Receipt.hasTook_set Receipt.took_get Receipt.took_set Receipt.sent_kind_get Receipt.sent_kind_set Receipt.sent_from__get Receipt.sent_from__set Receipt.sent_to__get Receipt.sent_to__set Receipt.sent_sender_get Receipt.sent_sender_set Receipt.sent_receiver_get Receipt.sent_receiver_set Receipt.sent_seq_get Receipt.sent_seq_set Receipt.sent_token_get Receipt.sent_token_set Receipt.sent_amount_get Receipt.sent_amount_set Receipt.sent_size_get Receipt.sent_size_set Receipt.sent_payload_get Receipt.sent_payload_set Receipt.took_kind_get Receipt.took_kind_set Receipt.took_from__get Receipt.took_from__set Receipt.took_to__get Receipt.took_to__set Receipt.took_sender_get Receipt.took_sender_set Receipt.took_receiver_get Receipt.took_receiver_set Receipt.took_seq_get Receipt.took_seq_set Receipt.took_token_get Receipt.took_token_set Receipt.took_amount_get Receipt.took_amount_set Receipt.took_size_get Receipt.took_size_set Receipt.took_payload_get Receipt.took_payload_set Store.length_enc Store.ok_enc Store.all_get Store.all_set Store.now_get Store.now_set Store.saved_get Store.saved_set GState.length_enc GState.ok_enc GState.all_get GState.all_set GState.kv_get GState.kv_set GState.tree_get GState.tree_set GState.stale_get GState.stale_set GState.touched_get GState.touched_set GState.kv_now_get GState.kv_now_set GState.kv_saved_get GState.kv_saved_set GState.tree_leaves_get GState.tree_leaves_set History.length_enc History.ok_enc History.all_get History.all_set History.ring_get History.ring_set History.closed_get History.closed_set Ledger.length_enc Ledger.ok_enc Ledger.all_get Ledger.all_set Ledger.chain_get Ledger.chain_set Ledger.st_get Ledger.st_set Ledger.height_get Ledger.height_set Ledger.open__get Ledger.open__set Ledger.gasLimit_get Ledger.gasLimit_set Ledger.past_get Ledger.past_set Ledger.begun_get Ledger.begun_set Ledger.sent_get Ledger.sent_set Ledger.took_get Ledger.took_set Ledger.receipts_get Ledger.receipts_set Ledger.st_kv_get Ledger.st_kv_set Ledger.st_tree_get Ledger.st_tree_set Ledger.st_stale_get Ledger.st_stale_set Ledger.st_touched_get Ledger.st_touched_set Ledger.st_kv_now_get Ledger.st_kv_now_set Ledger.st_kv_saved_get Ledger.st_kv_saved_set Ledger.st_tree_leaves_get Ledger.st_tree_leaves_set Ledger.past_ring_get Ledger.past_ring_set Ledger.past_closed_get Ledger.past_closed_set Ledger.begun_kv_get Ledger.begun_kv_set Ledger.begun_tree_get Ledger.begun_tree_set Ledger.begun_stale_get Ledger.begun_stale_set Ledger.begun_touched_get Ledger.begun_touched_set Ledger.begun_kv_now_get Ledger.begun_kv_now_set Ledger.begun_kv_saved_get Ledger.begun_kv_saved_set Ledger.begun_tree_leaves_get Ledger.begun_tree_leaves_set Purse.length_enc Purse.ok_enc Purse.all_get Purse.all_set Purse.st_get Purse.st_set Purse.n_get Purse.n_set Purse.account_get Purse.account_set Purse.token_get Purse.token_set Purse.amount_get Purse.amount_set Plan.length_enc Plan.ok_enc Plan.all_get Plan.all_set Plan.purse_get Plan.purse_set Plan.nonce_get Plan.nonce_set Plan.gasUsed_get Plan.gasUsed_set Plan.fees_get Plan.fees_set Plan.hasSupply_get Plan.hasSupply_set Plan.token_get Plan.token_set Plan.supply_get Plan.supply_set Plan.flowAt_get Plan.flowAt_set Plan.flow_get Plan.flow_set Plan.receipt_get Plan.receipt_set Plan.purse_st_get Plan.purse_st_set Plan.purse_n_get Plan.purse_n_set Plan.purse_account_get Plan.purse_account_set Plan.purse_token_get Plan.purse_token_set Plan.purse_amount_get Plan.purse_amount_set Plan.receipt_code_get Plan.receipt_code_set Plan.receipt_hash_get Plan.receipt_hash_set Plan.receipt_index_get Plan.receipt_index_set Plan.receipt_gas_get Plan.receipt_gas_set Plan.receipt_fee_get Plan.receipt_fee_set Plan.receipt_hasSent_get Plan.receipt_hasSent_set Plan.receipt_sent_get Plan.receipt_sent_set Plan.receipt_hasTook_get Plan.receipt_hasTook_set Plan.receipt_took_get Plan.receipt_took_set Plan.receipt_sent_kind_get Plan.receipt_sent_kind_set Plan.receipt_sent_from__get Plan.receipt_sent_from__set Plan.receipt_sent_to__get Plan.receipt_sent_to__set Plan.receipt_sent_sender_get Plan.receipt_sent_sender_set Plan.receipt_sent_receiver_get Plan.receipt_sent_receiver_set Plan.receipt_sent_seq_get Plan.receipt_sent_seq_set Plan.receipt_sent_token_get Plan.receipt_sent_token_set Plan.receipt_sent_amount_get Plan.receipt_sent_amount_set Plan.receipt_sent_size_get Plan.receipt_sent_size_set Plan.receipt_sent_payload_get Plan.receipt_sent_payload_set Plan.receipt_took_kind_get Plan.receipt_took_kind_set Plan.receipt_took_from__get Plan.receipt_took_from__set Plan.receipt_took_to__get Plan.receipt_took_to__set Plan.receipt_took_sender_get Plan.receipt_took_sender_set Plan.receipt_took_receiver_get Plan.receipt_took_receiver_set Plan.receipt_took_seq_get Plan.receipt_took_seq_set Plan.receipt_took_token_get Plan.receipt_took_token_set Plan.receipt_took_amount_get Plan.receipt_took_amount_set Plan.receipt_took_size_get Plan.receipt_took_size_set Plan.receipt_took_payload_get Plan.receipt_took_payload_set Move.length_enc Move.ok_enc Move.all_get Move.all_set Move.account_get Move.account_set Move.token_get Move.token_set Move.down_get Move.down_set Move.amount_get Move.amount_set Books.length_enc Books.ok_enc Books.all_get Books.all_set Books.sums_get Books.sums_set Books.stored_get Books.stored_set Books.marks_get Books.marks_set Pair.length_enc Pair.ok_enc Pair.all_get Pair.all_set Pair.key_get Pair.key_set Pair.value_get Pair.value_set
attribute [local go_sem] size_put size_ext blk_put free_put blk_alloc free_alloc blk_drew free_drew blk_ext free_ext lookOr_some putOr_some segAt_some cellAt_some storeIn_some put_put put_alloc_new length_arr ok_arr_u8 ok_arr_u32 ok_arr_u64 ok_arr_i64 ok_arr_sl cellsV_agg cellsV_int cellsV_bool cellsV_string cellsV_pointer cellsV_slice cellsV_sl ok_int ok_bool ok_string ok_pointer ok_slice ok_sl toList_arr seg_arr set_arr nth_splice nth_splice0 seg_splice seg_splice0 splice_splice splice_splice0 length_splice_if
attribute [local go_sem ↓] execOp_box
attribute [local go_sem] box_run nth_arr_u8 put_arr_u8 blk_drewN free_drewN put_drewN blk_raw free_raw
/-- An entry of a purse. -/
structure PE where
  a : UInt8
  t : UInt8
  v : UInt64
def veA (l : List PE) : Vector UInt8 4 := Vector.ofFn fun i : Fin 4 => ((l[i.val]?).map (·.a)).getD 0
def veT (l : List PE) : Vector UInt8 4 := Vector.ofFn fun i : Fin 4 => ((l[i.val]?).map (·.t)).getD 0
def veV (l : List PE) : Vector UInt64 4 := Vector.ofFn fun i : Fin 4 => ((l[i.val]?).map (·.v)).getD 0
def pOf (p : Option Addr) (l : List PE) : Purse := ⟨p, (l.length : Int), veA l, veT l, veV l⟩
theorem veA_at {l : List PE} {i : Nat} {e : PE} (h : l[i]? = some e) (hi : i < 4) : (veA l)[i] = e.a := by unfold veA; rw [Vector.getElem_ofFn]; simp [h]
theorem veT_at {l : List PE} {i : Nat} {e : PE} (h : l[i]? = some e) (hi : i < 4) : (veT l)[i] = e.t := by unfold veT; rw [Vector.getElem_ofFn]; simp [h]
theorem veV_at {l : List PE} {i : Nat} {e : PE} (h : l[i]? = some e) (hi : i < 4) : (veV l)[i] = e.v := by unfold veV; rw [Vector.getElem_ofFn]; simp [h]
theorem veA_app {l : List PE} (h : l.length < 4) (e : PE) : (veA l).set l.length e.a h = veA (l ++ [e]) := by
  apply Vector.ext
  intro i hi
  rw [Vector.getElem_set]
  unfold veA
  rw [Vector.getElem_ofFn, Vector.getElem_ofFn]
  dsimp only
  by_cases hil : l.length = i
  · subst hil; simp
  · rw [if_neg hil]
    by_cases h1 : i < l.length
    · rw [List.getElem?_append_left h1]
    · rw [List.getElem?_append_right (by omega), List.getElem?_eq_none (l := [e]) (i := i - l.length) (by rw [List.length_singleton]; omega), List.getElem?_eq_none (l := l) (i := i) (by omega)]
theorem veT_app {l : List PE} (h : l.length < 4) (e : PE) : (veT l).set l.length e.t h = veT (l ++ [e]) := by
  apply Vector.ext
  intro i hi
  rw [Vector.getElem_set]
  unfold veT
  rw [Vector.getElem_ofFn, Vector.getElem_ofFn]
  dsimp only
  by_cases hil : l.length = i
  · subst hil; simp
  · rw [if_neg hil]
    by_cases h1 : i < l.length
    · rw [List.getElem?_append_left h1]
    · rw [List.getElem?_append_right (by omega), List.getElem?_eq_none (l := [e]) (i := i - l.length) (by rw [List.length_singleton]; omega), List.getElem?_eq_none (l := l) (i := i) (by omega)]
theorem veV_app {l : List PE} (h : l.length < 4) (e : PE) : (veV l).set l.length e.v h = veV (l ++ [e]) := by
  apply Vector.ext
  intro i hi
  rw [Vector.getElem_set]
  unfold veV
  rw [Vector.getElem_ofFn, Vector.getElem_ofFn]
  dsimp only
  by_cases hil : l.length = i
  · subst hil; simp
  · rw [if_neg hil]
    by_cases h1 : i < l.length
    · rw [List.getElem?_append_left h1]
    · rw [List.getElem?_append_right (by omega), List.getElem?_eq_none (l := [e]) (i := i - l.length) (by rw [List.length_singleton]; omega), List.getElem?_eq_none (l := l) (i := i) (by omega)]
def setV (l : List PE) (i : Nat) (v : UInt64) : List PE := match l[i]? with
  | some e => l.set i ⟨e.a, e.t, v⟩
  | none => l
theorem setV_len (l : List PE) (i : Nat) (v : UInt64) : (setV l i v).length = l.length := by unfold setV; split <;> simp
theorem setV_at {l : List PE} {i : Nat} {e : PE} (h : l[i]? = some e) (v : UInt64) : setV l i v = l.set i ⟨e.a, e.t, v⟩ := by unfold setV; rw [h]
theorem pOf_setV (p : Option Addr) {l : List PE} {i : Nat} {e : PE} (h : l[i]? = some e) (hi : i < 4) (v : UInt64) : ({ pOf p l with amount := (veV l).set i v hi } : Purse) = pOf p (setV l i v) := by
  have hil : i < l.length := (List.getElem?_eq_some_iff.1 h).1
  rw [setV_at h]
  have eA : veA (l.set i ⟨e.a, e.t, v⟩) = veA l := by
    apply Vector.ext
    intro j hj
    unfold veA
    rw [Vector.getElem_ofFn, Vector.getElem_ofFn]
    dsimp only
    rw [List.getElem?_set]
    by_cases hij : i = j
    · subst hij; rw [if_pos rfl, if_pos hil, h]; rfl
    · rw [if_neg hij]
  have eT : veT (l.set i ⟨e.a, e.t, v⟩) = veT l := by
    apply Vector.ext
    intro j hj
    unfold veT
    rw [Vector.getElem_ofFn, Vector.getElem_ofFn]
    dsimp only
    rw [List.getElem?_set]
    by_cases hij : i = j
    · subst hij; rw [if_pos rfl, if_pos hil, h]; rfl
    · rw [if_neg hij]
  have eV : veV (l.set i ⟨e.a, e.t, v⟩) = (veV l).set i v hi := by
    apply Vector.ext
    intro j hj
    rw [Vector.getElem_set]
    unfold veV
    rw [Vector.getElem_ofFn, Vector.getElem_ofFn]
    dsimp only
    rw [List.getElem?_set]
    by_cases hij : i = j
    · subst hij; rw [if_pos rfl, if_pos rfl, if_pos hil]; rfl
    · rw [if_neg hij, if_neg hij]
  unfold pOf
  rw [eA, eT, eV, List.length_set]
/-- The place of a balance in a purse. -/
def fndP (l : List PE) (a t : UInt8) : Nat := l.findIdx (fun e => e.a = a ∧ e.t = t)
def slotL (now : List Pair) (l : List PE) (a t : UInt8) : List PE := if fndP l a t < l.length then l else l ++ [⟨a, t, ldF now (keyB a t)⟩]
theorem fndP_le (l : List PE) (a t : UInt8) : fndP l a t ≤ l.length := List.findIdx_le_length
theorem slotL_at (now : List Pair) (l : List PE) (a t : UInt8) : ∃ e, (slotL now l a t)[fndP l a t]? = some e ∧ e.a = a ∧ e.t = t := by
  unfold slotL
  by_cases h : fndP l a t < l.length
  · rw [if_pos h]
    refine ⟨l[fndP l a t], List.getElem?_eq_getElem h, ?_⟩
    have := List.findIdx_getElem (xs := l) (p := fun e : PE => decide (e.a = a ∧ e.t = t)) (w := h)
    exact of_decide_eq_true this
  · rw [if_neg h]
    have := fndP_le l a t
    have e : fndP l a t = l.length := by omega
    rw [e]
    exact ⟨_, by rw [List.getElem?_append_right (by omega), Nat.sub_self]; rfl, rfl, rfl⟩
theorem slotL_len (now : List Pair) (l : List PE) (a t : UInt8) : (slotL now l a t).length ≤ l.length + 1 := by unfold slotL; split <;> simp
section
variable {D : List Value} (hD : 14 ≤ D.length) (P : Purse)
include hD
theorem p_fit : 0 + P.enc.length ≤ D.length := by rw [Purse.length_enc]; omega
theorem p_len : (splice D 0 P.enc).length = D.length := length_splice _ _ _ (p_fit hD P)
theorem p_nth (k : Nat) (hk : k < 14) : nth (splice D 0 P.enc) k = nth P.enc k := by
  have := nth_splice (p_fit hD P) (j := k) (by rw [Purse.length_enc]; exact hk)
  rw [Nat.zero_add] at this
  exact this
theorem p_splice (k : Nat) (vs : List Value) (hk : k + vs.length ≤ 14) : splice (splice D 0 P.enc) k vs = splice D 0 (splice P.enc k vs) := by
  have := splice_splice (p_fit hD P) (j := k) (vs := vs) (by rw [Purse.length_enc]; exact hk)
  rw [Nat.zero_add] at this
  exact this
end
set_option maxRecDepth 100000 in
theorem frame72 (f : Nat → Value) : frameN 72 f = #[f 0, f 1, f 2, f 3, f 4, f 5, f 6, f 7, f 8, f 9, f 10, f 11, f 12, f 13, f 14, f 15, f 16, f 17, f 18, f 19, f 20, f 21, f 22, f 23, f 24, f 25, f 26, f 27, f 28, f 29, f 30, f 31, f 32, f 33, f 34, f 35, f 36, f 37, f 38, f 39, f 40, f 41, f 42, f 43, f 44, f 45, f 46, f 47, f 48, f 49, f 50, f 51, f 52, f 53, f 54, f 55, f 56, f 57, f 58, f 59, f 60, f 61, f 62, f 63, f 64, f 65, f 66, f 67, f 68, f 69, f 70, f 71] := by kernel_rfl
/-- After a function of the purse: block bp holds the purse, and only that block is written. -/
def PuPost (W : World) (bp : Nat) (D : List Value) (p : Option Addr) (l : List PE) (v : Value) (e : Ending) (V : World) : Prop := e = .returned v ∧ blk V bp = some (splice D 0 (pOf p l).enc) ∧ free V bp = true ∧ Wb bp W V
def slI (W : World) (bp : Nat) (a t : UInt8) (l : List PE) (F : Nat → Value) (V : World) : Prop := F 0 = .pointer (some ⟨bp, 0, none⟩) ∧ F 1 = .int .u8 (w8 a) ∧ F 2 = .int .u8 (w8 t) ∧ ∃ i : Nat, i ≤ l.length ∧ F 7 = .int .i64 (i : Nat) ∧ Hid (V = W ∧ ∀ (j : Nat) (e : PE), j < i → l[j]? = some e → ¬ (e.a = a ∧ e.t = t))
theorem fndP_is {l : List PE} {a t : UInt8} {i : Nat} (hi : i ≤ l.length) (h1 : ∀ (j : Nat) (e : PE), j < i → l[j]? = some e → ¬ (e.a = a ∧ e.t = t)) (h2 : ∀ e, l[i]? = some e → e.a = a ∧ e.t = t) : fndP l a t = i := by
  unfold fndP
  by_cases hl : i < l.length
  · refine List.findIdx_eq hl |>.2 ⟨decide_eq_true (h2 _ (List.getElem?_eq_getElem hl)), fun j hj => decide_eq_false (h1 j _ hj (List.getElem?_eq_getElem (by omega)))⟩
  · have e : i = l.length := by omega
    rw [e]
    refine List.findIdx_eq_length.2 fun x hx => ?_
    obtain ⟨j, hj, rfl⟩ := List.mem_iff_getElem.1 hx
    exact decide_eq_false (h1 j _ (by omega) (List.getElem?_eq_getElem hj))
set_option maxRecDepth 20000 in
set_option maxHeartbeats 3000000 in
theorem slot_any (W : World) (bp bl : Nat) (D : List Value) (now : List Pair) (l : List PE) (hb : blk W bp = some (splice D 0 (pOf (some ⟨bl, 1, none⟩) l).enc)) (hf : free W bp = true) (hD : 14 ≤ D.length) (hl : l.length < 4) (hR : ∀ V, Wb bp W V → KvRd V bl 1 now) (a t : UInt8) : Calls Tryz.prog 232 #[.pointer (some ⟨bp, 0, none⟩), .int .u8 (w8 a), .int .u8 (w8 t)] W (PuPost W bp D (some ⟨bl, 1, none⟩) (slotL now l a t) (.int .i64 ((fndP l a t : Nat) : Int))) := by
  have HD := hid_of hD
  have HR := hid_of hR
  have n1 : nth (splice D 0 (pOf (some ⟨bl, 1, none⟩) l).enc) 1 = some (.int .i64 (l.length : Nat)) := by rw [p_nth hD _ 1 (by omega), Purse.n_get]; rfl
  obtain ⟨E0, hE0⟩ : ∃ E0, E0 = splice D 0 (pOf (some ⟨bl, 1, none⟩) l).enc := ⟨_, rfl⟩
  have HE0 := hid_of hE0
  obtain ⟨Q, hQ⟩ : ∃ Q : Ending → World → Prop, Q = PuPost W bp D (some ⟨bl, 1, none⟩) (slotL now l a t) (.int .i64 ((fndP l a t : Nat) : Int)) := ⟨_, rfl⟩
  rw [← hQ]
  have HQ := hid_of hQ
  have hEl : E0.length = D.length := by rw [hE0]; exact p_len hD _
  rw [← hE0] at hb n1
  clear hQ hR hE0
  go_enter Tryz.func232, Tryz.ntmps232
  go_wp2_with fail
  refine wp_loop_f 72 (slI W bp a t l) (fun f _ => l.length - (intOf (f 7)).toNat) rfl ⟨rfl, rfl, rfl, 0, by omega, rfl, ⟨rfl, fun j e h => by omega⟩⟩ ?_
  intro F V hrel
  obtain ⟨f0, f1, f2, i, hi, f7, HI⟩ := hrel
  have H7 := hid_of f7
  obtain rfl : V = W := HI.out.1
  rw [frame72, f0, f1, f2, f7]
  clear f0 f1 f2 f7
  by_cases hin : i < l.length
  rotate_left 1
  · obtain ⟨n, hn⟩ : ∃ n, n = l.length := ⟨_, rfl⟩
    obtain rfl : i = n := by omega
    have hfi : fndP l a t = i := fndP_is (by omega) HI.out.2 (fun e he => by rw [List.getElem?_eq_none (by omega)] at he; cases he)
    have hsl : slotL now l a t = l ++ [⟨a, t, ldF now (keyB a t)⟩] := by unfold slotL; rw [if_neg (by omega)]
    obtain ⟨x, hx⟩ : ∃ x, x = ldF now (keyB a t) := ⟨_, rfl⟩
    rw [← hx] at hsl
    have hi4 : i < 4 := by omega
    have l1 : i = l.length := hn
    have s1 : splice E0 (2 + i) [.int .u8 (w8 a)] = splice D 0 ({ pOf (some ⟨bl, 1, none⟩) l with account := (veA l).set i a hi4 } : Purse).enc := by
      rw [HE0.out, p_splice HD.out _ _ _ (by simp; omega), Purse.account_put _ _ _ hi4]; rfl
    have s2 : splice (splice D 0 ({ pOf (some ⟨bl, 1, none⟩) l with account := (veA l).set i a hi4 } : Purse).enc) (6 + i) [.int .u8 (w8 t)] = splice D 0 ({ pOf (some ⟨bl, 1, none⟩) l with account := (veA l).set i a hi4, token := (veT l).set i t hi4 } : Purse).enc := by
      rw [p_splice HD.out _ _ _ (by simp; omega), Purse.token_put _ _ _ hi4]; rfl
    have s3 : splice (splice D 0 ({ pOf (some ⟨bl, 1, none⟩) l with account := (veA l).set i a hi4, token := (veT l).set i t hi4 } : Purse).enc) (10 + i) [.int .u64 (w64 x)] = splice D 0 ({ pOf (some ⟨bl, 1, none⟩) l with account := (veA l).set i a hi4, token := (veT l).set i t hi4, amount := (veV l).set i x hi4 } : Purse).enc := by
      rw [p_splice HD.out _ _ _ (by simp; omega), Purse.amount_put _ _ _ hi4]; rfl
    have s4 : splice (splice D 0 ({ pOf (some ⟨bl, 1, none⟩) l with account := (veA l).set i a hi4, token := (veT l).set i t hi4, amount := (veV l).set i x hi4 } : Purse).enc) 1 [.int .i64 ((i : Int) + 1)] = splice D 0 (pOf (some ⟨bl, 1, none⟩) (l ++ [⟨a, t, x⟩])).enc := by
      rw [p_splice HD.out _ _ _ (by simp), Purse.n_set]
      congr 2
      unfold pOf
      subst l1
      rw [← veA_app hl ⟨a, t, x⟩, ← veT_app hl ⟨a, t, x⟩, ← veV_app hl ⟨a, t, x⟩, List.length_append, List.length_singleton]
      congr 1
    have m0 : nth (splice D 0 ({ pOf (some ⟨bl, 1, none⟩) l with account := (veA l).set i a hi4, token := (veT l).set i t hi4 } : Purse).enc) 0 = some (.pointer (some ⟨bl, 1, none⟩)) := by rw [p_nth HD.out _ 0 (by omega), Purse.st_get]; rfl
    have m1 : nth (splice D 0 ({ pOf (some ⟨bl, 1, none⟩) l with account := (veA l).set i a hi4, token := (veT l).set i t hi4, amount := (veV l).set i x hi4 } : Purse).enc) 1 = some (.int .i64 (i : Nat)) := by rw [p_nth HD.out _ 1 (by omega), Purse.n_get]; show some (Value.int .i64 ((l.length : Nat) : Int)) = _; rw [← l1]
    have k1 := p_len HD.out ({ pOf (some ⟨bl, 1, none⟩) l with account := (veA l).set i a hi4 } : Purse)
    have k2 := p_len HD.out ({ pOf (some ⟨bl, 1, none⟩) l with account := (veA l).set i a hi4, token := (veT l).set i t hi4 } : Purse)
    have k3 := p_len HD.out ({ pOf (some ⟨bl, 1, none⟩) l with account := (veA l).set i a hi4, token := (veT l).set i t hi4, amount := (veV l).set i x hi4 } : Purse)
    generalize splice D 0 ({ pOf (some ⟨bl, 1, none⟩) l with account := (veA l).set i a hi4 } : Purse).enc = E1 at s1 s2 k1
    generalize splice D 0 ({ pOf (some ⟨bl, 1, none⟩) l with account := (veA l).set i a hi4, token := (veT l).set i t hi4 } : Purse).enc = E2 at s2 s3 m0 k2
    generalize splice D 0 ({ pOf (some ⟨bl, 1, none⟩) l with account := (veA l).set i a hi4, token := (veT l).set i t hi4, amount := (veV l).set i x hi4 } : Purse).enc = E3 at s3 s4 m1 k3
    have HQ4 : Hid (splice E3 1 [.int .i64 ((i : Int) + 1)] = splice D 0 (pOf (some ⟨bl, 1, none⟩) (l ++ [⟨a, t, x⟩])).enc) := s4
    have HFI := hid_of hfi
    have HSL := hid_of hsl
    have HXX := hid_of hx
    have HL1 := hid_of l1
    have g1 : 2 + i + 1 ≤ E0.length := by omega
    have g2 : 6 + i + 1 ≤ E1.length := by omega
    have g3 : 10 + i + 1 ≤ E2.length := by omega
    have g4 : 1 + 1 ≤ E3.length := by omega
    have p0 : (0 : Int) ≤ (i : Int) := by omega
    have p1 : (i : Int) < 4 := by omega
    have p2 : ((i : Int)).toNat = i := by omega
    have hin' : ¬ (i : Int) < (i : Int) := by omega
    have wi : IntKind.i64.wrap ((i : Int) + 1) = (i : Int) + 1 := wraps_i64 _ (by omega) (by omega)
    have hbal := fun V' (hw : Wb bp V V') => balance_any V' bl 1 now (HR.out V' hw) a t
    rw [← hx] at hbal
    rw [← hn] at n1
    clear hfi hsl hx l1 hn hin hi hl s4 HI k1 k2 k3 hEl
    go_upto_region 9 with fail
    repeat go_step
    have hS0 : cellAt (blk (put V bp E2).drew bp) 0 = some (.pointer (some ⟨bl, 1, none⟩)) := by
      rw [blk_drew, blk_put, if_pos rfl, hb]; exact m0
    refine wp_region_held_drew (S := fun W' => cellAt (blk W' bp) 0 = some (.pointer (some ⟨bl, 1, none⟩))) (by kernel_rfl) hS0 (fun hHeld => ?_)
    refine wpAnyH_take (i := 0) (oi := ⟨_, _, _, _, _, _⟩) (v := ?_) rfl (by kernel_rfl) (by kernel_rfl) (by kernel_rfl) (fun _ _ _ h => h) (Or.inl ⟨by rfl, ?_⟩) (by assumption) ?_
    rotate_left 1
    · intro W' hSw
      go_simp
      try with_reducible rfl
    try simp only [Act.put, List.setIfInBounds_toArray, List.set_cons_zero, List.set_cons_succ]
    refine wpAnyH_take (i := 1) (oi := ⟨_, _, _, _, _, _⟩) (v := ?_) rfl (by kernel_rfl) (by kernel_rfl) (by kernel_rfl) (fun _ _ _ h => h) (Or.inl ⟨by rfl, ?_⟩) (by assumption) ?_
    rotate_left 1
    · intro W' hSw
      go_simp
      try with_reducible rfl
    try simp only [Act.put, List.setIfInBounds_toArray, List.set_cons_zero, List.set_cons_succ]
    refine wpAnyH_take (i := 2) (oi := ⟨_, _, _, _, _, _⟩) (v := ?_) rfl (by kernel_rfl) (by kernel_rfl) (by kernel_rfl) (fun _ _ _ h => h) (Or.inl ⟨by rfl, ?_⟩) (by assumption) ?_
    rotate_left 1
    · intro W' hSw
      go_simp
      try with_reducible rfl
    try simp only [Act.put, List.setIfInBounds_toArray, List.set_cons_zero, List.set_cons_succ]
    refine wpAnyH_take (i := 3) (oi := ⟨_, _, _, _, _, _⟩) (v := ?_) rfl (by kernel_rfl) (by kernel_rfl) (by kernel_rfl) (fun _ _ _ h => h) (Or.inl ⟨by rfl, ?_⟩) (by assumption) ?_
    rotate_left 1
    · intro W' hSw
      go_simp
      try with_reducible rfl
    try simp only [Act.put, List.setIfInBounds_toArray, List.set_cons_zero, List.set_cons_succ]
    refine wpAnyH_take (i := 4) (oi := ⟨_, _, _, _, _, _⟩) (v := ?_) rfl (by kernel_rfl) (by kernel_rfl) (by kernel_rfl) (fun _ _ _ h => h) (Or.inl ⟨by rfl, ?_⟩) (by assumption) ?_
    rotate_left 1
    · intro W' hSw
      go_simp
      try with_reducible rfl
    try simp only [Act.put, List.setIfInBounds_toArray, List.set_cons_zero, List.set_cons_succ]
    refine wpAnyH_take (i := 5) (oi := ⟨_, _, _, _, _, _⟩) (v := ?_) rfl (by kernel_rfl) (by kernel_rfl) (by kernel_rfl) (fun _ _ _ h => h) (Or.inl ⟨by rfl, ?_⟩) (by assumption) ?_
    rotate_left 1
    · intro W' hSw
      go_simp
      try with_reducible rfl
    try simp only [Act.put, List.setIfInBounds_toArray, List.set_cons_zero, List.set_cons_succ]
    refine wpAnyH_take (i := 6) (oi := ⟨_, _, _, _, _, _⟩) (v := ?_) rfl (by kernel_rfl) (by kernel_rfl) (by kernel_rfl) (fun _ _ _ h => h) (Or.inl ⟨by rfl, ?_⟩) (by assumption) ?_
    rotate_left 1
    · intro W' hSw
      go_simp
      try with_reducible rfl
    try simp only [Act.put, List.setIfInBounds_toArray, List.set_cons_zero, List.set_cons_succ]
    refine wpAnyH_take (i := 7) (oi := ⟨_, _, _, _, _, _⟩) (v := ?_) rfl (by kernel_rfl) (by kernel_rfl) (by kernel_rfl) (fun _ _ _ h => h) (Or.inl ⟨by rfl, ?_⟩) (by assumption) ?_
    rotate_left 1
    · intro W' hSw
      go_simp
      try with_reducible rfl
    try simp only [Act.put, List.setIfInBounds_toArray, List.set_cons_zero, List.set_cons_succ]
    refine wpAnyH_take (i := 9) (oi := ⟨_, _, _, _, _, _⟩) (v := ?_) rfl (by kernel_rfl) (by kernel_rfl) (by kernel_rfl) (fun _ _ _ h => h) (Or.inl ⟨by rfl, ?_⟩) (by assumption) ?_
    rotate_left 1
    · intro W' hSw
      go_simp
      try with_reducible rfl
    try simp only [Act.put, List.setIfInBounds_toArray, List.set_cons_zero, List.set_cons_succ]
    refine wpAnyH_take (i := 10) (oi := ⟨_, _, _, _, _, _⟩) (v := ?_) rfl (by kernel_rfl) (by kernel_rfl) (by kernel_rfl) (fun _ _ _ h => h) (Or.inl ⟨by rfl, ?_⟩) (by assumption) ?_
    rotate_left 1
    · intro W' hSw
      go_simp
      try with_reducible rfl
    try simp only [Act.put, List.setIfInBounds_toArray, List.set_cons_zero, List.set_cons_succ]
    refine wpAnyH_ready (rs := [8]) (by kernel_rfl) (by simp) ?_
    refine AllReadyH.cons (o := ⟨_, _, _, _, _, _⟩) rfl (fun K' hK => ?_) AllReadyH.nil
    go_simp
    refine (hbal (put V bp E2).drew ((Wb.put (Wb.refl bp V) E2).drewN 1)).mono ?_
    rintro e V6 ⟨rfl, hx6⟩
    dsimp only
    have hb6 : blk V6 bp = some E2 := (hx6.blk (by have := blk_lt hb; show bp < (put V bp E2).heap.size; rw [size_put]; exact this)).trans (by rw [blk_drew, blk_put, if_pos rfl, hb]; rfl)
    have hf6 : free V6 bp = true := (free_of_heap (hx6.block bp (by have := blk_lt hb; show bp < (put V bp E2).heap.size; rw [size_put]; exact this))).trans (by rw [free_drew, free_put]; exact hf)
    have hS6 : cellAt (blk V6 bp) 0 = some (.pointer (some ⟨bl, 1, none⟩)) := by rw [hb6]; exact m0
    have hS7 : cellAt (blk (put V6 bp E3) bp) 0 = some (.pointer (some ⟨bl, 1, none⟩)) := by rw [blk_put, if_pos rfl, hb6]; simp only [Option.map_some, cellAt_some]; rw [← s3, splice_nth (by omega), if_neg (by omega)]; exact m0
    have HP : Hid (Q (.returned (.int .i64 (i : Nat))) (put V6 bp (splice E3 1 [.int .i64 ((i : Int) + 1)]))) := by
      show Q _ _
      rw [HQ.out]
      refine ⟨by rw [HFI.out], ?_, by rw [free_put]; exact hf6, Wb.put (((Wb.put (Wb.refl bp V) E2).drewN 1).trans (Wb.of hx6)) _⟩
      rw [blk_put, if_pos rfl, hb6, HSL.out, HQ4.out]; rfl
    clear hx6 hbal
    refine hK.out _ _ hS6 (fun hHeld => ?_)
    clear hK K'
    try simp only [Act.put, List.setIfInBounds_toArray, List.set_cons_zero, List.set_cons_succ]
    refine wpAnyH_take (i := 11) (oi := ⟨_, _, _, _, _, _⟩) (v := ?_) rfl (by kernel_rfl) (by kernel_rfl) (by kernel_rfl) (fun _ _ _ h => h) (Or.inl ⟨by rfl, ?_⟩) (by assumption) ?_
    rotate_left 1
    · intro W' hSw
      go_simp
      try with_reducible rfl
    try simp only [Act.put, List.setIfInBounds_toArray, List.set_cons_zero, List.set_cons_succ]
    refine wpAnyH_ready (rs := [12]) (by kernel_rfl) (by simp) ?_
    refine AllReadyH.cons (o := ⟨_, _, _, _, _, _⟩) rfl (fun K' hK => ?_) AllReadyH.nil
    go_simp
    refine hK.out _ _ hS7 (fun hHeld => ?_)
    clear hK K'
    try simp only [Act.put, List.setIfInBounds_toArray, List.set_cons_zero, List.set_cons_succ]
    refine wpAnyH_done (by kernel_rfl) ?_ _
    clear hHeld
    go_wp2_with fail
    try (first | go_ret | go_ret2 | go_end0)
    exact HP.out
  obtain ⟨e, he⟩ : ∃ e, l[i]? = some e := ⟨_, List.getElem?_eq_getElem hin⟩
  have hi4 : i < 4 := by omega
  have a1 : nth E0 (2 + i) = some (.int .u8 (w8 e.a)) := by
    rw [HE0.out, p_nth HD.out _ _ (by omega), Purse.account_at _ _ hi4]
    show some (Value.int .u8 (w8 (veA l)[i])) = _
    rw [veA_at he]
  have a2 : nth E0 (6 + i) = some (.int .u8 (w8 e.t)) := by
    rw [HE0.out, p_nth HD.out _ _ (by omega), Purse.token_at _ _ hi4]
    show some (Value.int .u8 (w8 (veT l)[i])) = _
    rw [veT_at he]
  have g1 : 2 + i + 1 ≤ E0.length := by omega
  have g2 : 6 + i + 1 ≤ E0.length := by omega
  have p0 : (0 : Int) ≤ (i : Int) := by omega
  have p1 : (i : Int) < 4 := by omega
  have p2 : ((i : Int)).toNat = i := by omega
  obtain ⟨n, hn⟩ : ∃ n, n = l.length := ⟨_, rfl⟩
  rw [← hn] at n1 hin hi
  have hin' : (i : Int) < (n : Int) := by omega
  have HN := hid_of hn
  clear hn
  by_cases hm : e.a = a ∧ e.t = t
  · obtain ⟨q1, q2⟩ := hm
    have hfi : fndP l a t = i := fndP_is (by have := HN.out; omega) HI.out.2 (fun e' he' => by rw [he] at he'; rw [← Option.some.inj he']; exact ⟨q1, q2⟩)
    have r1 : w8 e.a = w8 a := by rw [q1]
    have r2 : w8 e.t = w8 t := by rw [q2]
    rw [r1] at a1
    rw [r2] at a2
    have HP : Hid (Q (.returned (.int .i64 (i : Nat))) V) := by
      show Q _ _
      rw [HQ.out]
      refine ⟨by rw [hfi], ?_, hf, Wb.refl _ _⟩
      rw [hb, HE0.out]
      unfold slotL
      rw [if_pos (by have := HN.out; omega)]
    clear HI hfi q1 q2 r1 r2 he
    go_wp2_with fail
    try (first | go_ret | go_ret2 | go_end0)
    exact HP.out
  · have HJ : Hid (∀ (j : Nat) (e : PE), j < i + 1 → l[j]? = some e → ¬ (e.a = a ∧ e.t = t)) := fun j e' hj he' => by
      by_cases hji : j = i
      · subst hji
        rw [he] at he'
        rw [← Option.some.inj he']
        exact hm
      · exact HI.out.2 j e' (by omega) he'
    have hil : i + 1 ≤ l.length := by have := HN.out; omega
    by_cases ha : e.a = a
    · have ht : ¬ e.t = t := fun h => hm ⟨ha, h⟩
      have r1 : w8 e.a = w8 a := by rw [ha]
      have r2 : ¬ w8 e.t = w8 t := fun h => ht (w8_inj h)
      have r3 : (w8 e.t == w8 t) = false := by simp [r2]
      rw [r1] at a1
      clear HI hm ha ht r1 he
      go_wp2_with fail
      refine ⟨rfl, rfl, ⟨rfl, rfl, rfl, i + 1, hil, ?_, ⟨rfl, HJ.out⟩⟩, ?_⟩
      · show Value.int .i64 _ = _
        go_num
      · show l.length - (intOf (Value.int .i64 _)).toNat < l.length - (intOf (F 7)).toNat
        rw [H7.out]
        have := HN.out
        simp [intOf]; omega
    · have r2 : ¬ w8 e.a = w8 a := fun h => ha (w8_inj h)
      have r3 : (w8 e.a == w8 a) = false := by simp [r2]
      clear HI hm ha he
      go_wp2_with fail
      refine ⟨rfl, rfl, ⟨rfl, rfl, rfl, i + 1, hil, ?_, ⟨rfl, HJ.out⟩⟩, ?_⟩
      · show Value.int .i64 _ = _
        go_num
      · show l.length - (intOf (Value.int .i64 _)).toNat < l.length - (intOf (F 7)).toNat
        rw [H7.out]
        have := HN.out
        simp [intOf]; omega
end Go.Proofs.Qxb6500786aGreat
