import Derived.DeepKeys2
import Derived.Test.Qxb6500786aGreatSmb
import Derived.Test.Qxb6500786aGreatDa

import Derived.StillTailTactics
import Derived.Deep.QuietTactic
import Derived.BigQuiet
import Derived.Deep.RegionHeld
import Derived.Deep.CutRange
import Derived.Laws.ResultCell
import Derived.Laws.Rows
import Derived.DeepKeys
import Derived.DataBytes
import Derived.Laws.StructEq
import Derived.Laws.AppendOwn
import Derived.Laws.MakeOwn
import Derived.Lib.AppendStr
set_option linter.unusedSimpArgs false
set_option linter.unusedVariables false
namespace Go.Proofs.Qxb6500786aGreat
open Go.RowKit Go.Blk
attribute [local go_sem ↓] execOp_load execOp_store execOp_alloc
attribute [local go_sem] Tryz.ld24 Tryz.st24 Tryz.ld36 Tryz.st36 Tryz.ld28 Tryz.st28 Tryz.ld32 Tryz.st32 Tryz.ld33 Tryz.st33 Tryz.ld34 Tryz.st34 Tryz.ld5 Tryz.st5 Tryz.ld31 Tryz.st31 Tryz.ld30 Tryz.st30 Tryz.ld41 Tryz.st41 Tryz.ld44 Tryz.st44 Tryz.ld4 Tryz.st4 Tryz.ld173 Tryz.st173 Tryz.ld174 Tryz.st174 Tryz.ld95 Tryz.st95 Tryz.ld45 Tryz.st45 Tryz.ld207 Tryz.st207 Tryz.ld3 Tryz.st3 Tryz.ld189 Tryz.st189 Tryz.ld2 Tryz.st2 Tryz.ld9 Tryz.st9 Tryz.ld12 Tryz.st12 Tryz.ld21 Tryz.st21 Tryz.ld22 Tryz.st22 Tryz.ld46 Tryz.st46 Tryz.ld92 Tryz.st92 Tryz.ld94 Tryz.st94 Tryz.ld96 Tryz.st96 Tryz.ld97 Tryz.st97 Tryz.ld105 Tryz.st105 Tryz.ld117 Tryz.st117 Tryz.ld122 Tryz.st122 Tryz.ld123 Tryz.st123 Tryz.ld133 Tryz.st133 Tryz.ld155 Tryz.st155 Tryz.ld163 Tryz.st163 Tryz.ld190 Tryz.st190 Tryz.ld197 Tryz.st197 Tryz.ld201 Tryz.st201 Tryz.ld202 Tryz.st202 Tryz.ld209 Tryz.st209 Tryz.ld216 Tryz.st216 Tryz.ld230 Tryz.st230 Tryz.ld238 Tryz.st238 Tryz.ld242 Tryz.st242 Tryz.ld251 Tryz.st251 Tryz.ld260 Tryz.st260 Tryz.ld286 Tryz.st286 Tryz.ld292 Tryz.st292 Tryz.ld298 Tryz.st298 Tryz.ld309 Tryz.st309 Tryz.ld35 Tryz.st35 Tryz.ld48 Tryz.st48 Tryz.ld47 Tryz.st47 Tryz.ld79 Tryz.st79 Tryz.ld177 Tryz.st177 Tryz.ld180 Tryz.st180 Tryz.ld231 Tryz.st231 Tryz.ld232 Tryz.st232 Tryz.ld26 Tryz.st26 Tryz.ld38 Tryz.st38 Tryz.ld40 Tryz.st40 Tryz.ld43 Tryz.st43 Tryz.ld50 Tryz.st50 Tryz.ld52 Tryz.st52 Tryz.ld54 Tryz.st54 Tryz.ld81 Tryz.st81 Tryz.ld112 Tryz.st112 Tryz.ld120 Tryz.st120 Tryz.ld176 Tryz.st176 Tryz.ld179 Tryz.st179 Tryz.ld182 Tryz.st182 Tryz.ld184 Tryz.st184 Tryz.ld234 Tryz.st234 Tryz.ld236 Tryz.st236 Tryz.ld240 Tryz.st240 Tryz.ld246 Tryz.st246 Tryz.ld249 Tryz.st249 Tryz.al35 Tryz.al48 Tryz.al47 Tryz.al79 Tryz.al177 Tryz.al180 Tryz.al231 Tryz.al232 Tryz.al26 Tryz.al38 Tryz.al40 Tryz.al43 Tryz.al50 Tryz.al52 Tryz.al54 Tryz.al81 Tryz.al112 Tryz.al120 Tryz.al176 Tryz.al179 Tryz.al182 Tryz.al184 Tryz.al234 Tryz.al236 Tryz.al240 Tryz.al246 Tryz.al249
attribute [local go_sem] Player.length_enc Player.ok_enc Player.all_get Player.all_set Player.hand_get Player.hand_set Player.aside_get Player.aside_set Message.length_enc Message.ok_enc Message.all_get Message.all_set Message.kind_get Message.kind_set Message.from__get Message.from__set Message.to__get Message.to__set Message.sender_get Message.sender_set Message.receiver_get Message.receiver_set Message.seq_get Message.seq_set Message.token_get Message.token_set Message.amount_get Message.amount_set Message.size_get Message.size_set Message.payload_get Message.payload_set Tx.length_enc Tx.ok_enc Tx.all_get Tx.all_set Tx.kind_get Tx.kind_set Tx.chain_get Tx.chain_set Tx.from__get Tx.from__set Tx.nonce_get Tx.nonce_set Tx.fee_get Tx.fee_set Tx.to__get Tx.to__set Tx.dest_get Tx.dest_set Tx.token_get Tx.token_set Tx.amount_get Tx.amount_set Tx.size_get Tx.size_set Tx.payload_get Tx.payload_set Tx.msg_get Tx.msg_set Tx.msg_kind_get Tx.msg_kind_set Tx.msg_from__get Tx.msg_from__set Tx.msg_to__get Tx.msg_to__set Tx.msg_sender_get Tx.msg_sender_set Tx.msg_receiver_get Tx.msg_receiver_set Tx.msg_seq_get Tx.msg_seq_set Tx.msg_token_get Tx.msg_token_set Tx.msg_amount_get Tx.msg_amount_set Tx.msg_size_get Tx.msg_size_set Tx.msg_payload_get Tx.msg_payload_set GOp.length_enc GOp.ok_enc GOp.all_get GOp.all_set GOp.kind_get GOp.kind_set GOp.tx_get GOp.tx_set GOp.txs_get GOp.txs_set GOp.gas_get GOp.gas_set GOp.acct_get GOp.acct_set GOp.token_get GOp.token_set GOp.chain_get GOp.chain_set GOp.seq_get GOp.seq_set GOp.tx_kind_get GOp.tx_kind_set GOp.tx_chain_get GOp.tx_chain_set GOp.tx_from__get GOp.tx_from__set GOp.tx_nonce_get GOp.tx_nonce_set GOp.tx_fee_get GOp.tx_fee_set GOp.tx_to__get GOp.tx_to__set GOp.tx_dest_get GOp.tx_dest_set GOp.tx_token_get GOp.tx_token_set GOp.tx_amount_get GOp.tx_amount_set GOp.tx_size_get GOp.tx_size_set GOp.tx_payload_get GOp.tx_payload_set GOp.tx_msg_get GOp.tx_msg_set GOp.tx_msg_kind_get GOp.tx_msg_kind_set GOp.tx_msg_from__get GOp.tx_msg_from__set GOp.tx_msg_to__get GOp.tx_msg_to__set GOp.tx_msg_sender_get GOp.tx_msg_sender_set GOp.tx_msg_receiver_get GOp.tx_msg_receiver_set GOp.tx_msg_seq_get GOp.tx_msg_seq_set GOp.tx_msg_token_get GOp.tx_msg_token_set GOp.tx_msg_amount_get GOp.tx_msg_amount_set GOp.tx_msg_size_get GOp.tx_msg_size_set GOp.tx_msg_payload_get GOp.tx_msg_payload_set Summary.length_enc Summary.ok_enc Summary.all_get Summary.all_set Summary.height_get Summary.height_set Summary.txs_get Summary.txs_set Summary.gas_get Summary.gas_set Summary.fees_get Summary.fees_set Summary.sent_get Summary.sent_set Summary.took_get Summary.took_set Summary.minted_get Summary.minted_set Summary.burned_get Summary.burned_set Summary.root_get Summary.root_set Detail.length_enc Detail.ok_enc Detail.all_get Detail.all_set Detail.code_get Detail.code_set Detail.have__get Detail.have__set Detail.need_get Detail.need_set Slot.length_enc Slot.ok_enc Slot.all_get Slot.all_set Slot.nonce_get Slot.nonce_set Slot.balances_get Slot.balances_set Tree.length_enc Tree.ok_enc Tree.all_get Tree.all_set Tree.leaves_get Tree.leaves_set Mark.length_enc Mark.ok_enc Mark.all_get Mark.all_set Mark.from__get Mark.from__set Mark.seq_get Mark.seq_set Receipt.length_enc Receipt.ok_enc Receipt.all_get Receipt.all_set Receipt.code_get Receipt.code_set Receipt.hash_get Receipt.hash_set Receipt.index_get Receipt.index_set Receipt.gas_get Receipt.gas_set Receipt.fee_get Receipt.fee_set Receipt.hasSent_get Receipt.hasSent_set Receipt.sent_get Receipt.sent_set Receipt.hasTook_get Receipt.hasTook_set Receipt.took_get Receipt.took_set Receipt.sent_kind_get Receipt.sent_kind_set Receipt.sent_from__get Receipt.sent_from__set Receipt.sent_to__get Receipt.sent_to__set Receipt.sent_sender_get Receipt.sent_sender_set Receipt.sent_receiver_get Receipt.sent_receiver_set Receipt.sent_seq_get Receipt.sent_seq_set Receipt.sent_token_get Receipt.sent_token_set Receipt.sent_amount_get Receipt.sent_amount_set Receipt.sent_size_get Receipt.sent_size_set Receipt.sent_payload_get Receipt.sent_payload_set Receipt.took_kind_get Receipt.took_kind_set Receipt.took_from__get Receipt.took_from__set Receipt.took_to__get Receipt.took_to__set Receipt.took_sender_get Receipt.took_sender_set Receipt.took_receiver_get Receipt.took_receiver_set Receipt.took_seq_get Receipt.took_seq_set Receipt.took_token_get Receipt.took_token_set Receipt.took_amount_get Receipt.took_amount_set Receipt.took_size_get Receipt.took_size_set Receipt.took_payload_get Receipt.took_payload_set Store.length_enc Store.ok_enc Store.all_get Store.all_set Store.now_get Store.now_set Store.saved_get Store.saved_set GState.length_enc GState.ok_enc GState.all_get GState.all_set GState.kv_get GState.kv_set GState.tree_get GState.tree_set GState.stale_get GState.stale_set GState.touched_get GState.touched_set GState.kv_now_get GState.kv_now_set GState.kv_saved_get GState.kv_saved_set GState.tree_leaves_get GState.tree_leaves_set History.length_enc History.ok_enc History.all_get History.all_set History.ring_get History.ring_set History.closed_get History.closed_set Ledger.length_enc Ledger.ok_enc Ledger.all_get Ledger.all_set Ledger.chain_get Ledger.chain_set Ledger.st_get Ledger.st_set Ledger.height_get Ledger.height_set Ledger.open__get Ledger.open__set Ledger.gasLimit_get Ledger.gasLimit_set Ledger.past_get Ledger.past_set Ledger.begun_get Ledger.begun_set Ledger.sent_get Ledger.sent_set Ledger.took_get Ledger.took_set Ledger.receipts_get Ledger.receipts_set Ledger.st_kv_get Ledger.st_kv_set Ledger.st_tree_get Ledger.st_tree_set Ledger.st_stale_get Ledger.st_stale_set Ledger.st_touched_get Ledger.st_touched_set Ledger.st_kv_now_get Ledger.st_kv_now_set Ledger.st_kv_saved_get Ledger.st_kv_saved_set Ledger.st_tree_leaves_get Ledger.st_tree_leaves_set Ledger.past_ring_get Ledger.past_ring_set Ledger.past_closed_get Ledger.past_closed_set Ledger.begun_kv_get Ledger.begun_kv_set Ledger.begun_tree_get Ledger.begun_tree_set Ledger.begun_stale_get Ledger.begun_stale_set Ledger.begun_touched_get Ledger.begun_touched_set Ledger.begun_kv_now_get Ledger.begun_kv_now_set Ledger.begun_kv_saved_get Ledger.begun_kv_saved_set Ledger.begun_tree_leaves_get Ledger.begun_tree_leaves_set Purse.length_enc Purse.ok_enc Purse.all_get Purse.all_set Purse.st_get Purse.st_set Purse.n_get Purse.n_set Purse.account_get Purse.account_set Purse.token_get Purse.token_set Purse.amount_get Purse.amount_set Plan.length_enc Plan.ok_enc Plan.all_get Plan.all_set Plan.purse_get Plan.purse_set Plan.nonce_get Plan.nonce_set Plan.gasUsed_get Plan.gasUsed_set Plan.fees_get Plan.fees_set Plan.hasSupply_get Plan.hasSupply_set Plan.token_get Plan.token_set Plan.supply_get Plan.supply_set Plan.flowAt_get Plan.flowAt_set Plan.flow_get Plan.flow_set Plan.receipt_get Plan.receipt_set Plan.purse_st_get Plan.purse_st_set Plan.purse_n_get Plan.purse_n_set Plan.purse_account_get Plan.purse_account_set Plan.purse_token_get Plan.purse_token_set Plan.purse_amount_get Plan.purse_amount_set Plan.receipt_code_get Plan.receipt_code_set Plan.receipt_hash_get Plan.receipt_hash_set Plan.receipt_index_get Plan.receipt_index_set Plan.receipt_gas_get Plan.receipt_gas_set Plan.receipt_fee_get Plan.receipt_fee_set Plan.receipt_hasSent_get Plan.receipt_hasSent_set Plan.receipt_sent_get Plan.receipt_sent_set Plan.receipt_hasTook_get Plan.receipt_hasTook_set Plan.receipt_took_get Plan.receipt_took_set Plan.receipt_sent_kind_get Plan.receipt_sent_kind_set Plan.receipt_sent_from__get Plan.receipt_sent_from__set Plan.receipt_sent_to__get Plan.receipt_sent_to__set Plan.receipt_sent_sender_get Plan.receipt_sent_sender_set Plan.receipt_sent_receiver_get Plan.receipt_sent_receiver_set Plan.receipt_sent_seq_get Plan.receipt_sent_seq_set Plan.receipt_sent_token_get Plan.receipt_sent_token_set Plan.receipt_sent_amount_get Plan.receipt_sent_amount_set Plan.receipt_sent_size_get Plan.receipt_sent_size_set Plan.receipt_sent_payload_get Plan.receipt_sent_payload_set Plan.receipt_took_kind_get Plan.receipt_took_kind_set Plan.receipt_took_from__get Plan.receipt_took_from__set Plan.receipt_took_to__get Plan.receipt_took_to__set Plan.receipt_took_sender_get Plan.receipt_took_sender_set Plan.receipt_took_receiver_get Plan.receipt_took_receiver_set Plan.receipt_took_seq_get Plan.receipt_took_seq_set Plan.receipt_took_token_get Plan.receipt_took_token_set Plan.receipt_took_amount_get Plan.receipt_took_amount_set Plan.receipt_took_size_get Plan.receipt_took_size_set Plan.receipt_took_payload_get Plan.receipt_took_payload_set Move.length_enc Move.ok_enc Move.all_get Move.all_set Move.account_get Move.account_set Move.token_get Move.token_set Move.down_get Move.down_set Move.amount_get Move.amount_set Books.length_enc Books.ok_enc Books.all_get Books.all_set Books.sums_get Books.sums_set Books.stored_get Books.stored_set Books.marks_get Books.marks_set Pair.length_enc Pair.ok_enc Pair.all_get Pair.all_set Pair.key_get Pair.key_set Pair.value_get Pair.value_set
attribute [local go_sem] size_put size_ext blk_put free_put blk_alloc free_alloc blk_drew free_drew blk_ext free_ext lookOr_some putOr_some segAt_some cellAt_some storeIn_some put_put put_alloc_new length_arr ok_arr_u8 ok_arr_u32 ok_arr_u64 ok_arr_i64 ok_arr_sl cellsV_agg cellsV_int cellsV_bool cellsV_string cellsV_pointer cellsV_slice cellsV_sl ok_int ok_bool ok_string ok_pointer ok_slice ok_sl toList_arr seg_arr set_arr nth_splice nth_splice0 seg_splice seg_splice0 splice_splice splice_splice0 length_splice_if
attribute [local go_sem ↓] execOp_box
attribute [local go_sem] box_run nth_arr_u8 put_arr_u8 blk_drewN free_drewN put_drewN blk_raw free_raw
attribute [local irreducible] leafF updL topD
/-- A view, field by field. -/
def viewG (c : UInt8) (now : List Pair) (d : Nat) (h : UInt64) (op : Bool) (gl : UInt64) : View := ⟨c, vN (vwB now) 256, vN (vwN now) 64, vN (vwS now) 4, ldF now (keyC 6), h, op, gl, ldF now (keyC 1), ldF now (keyC 2), ldF now (keyC 3), ldF now (keyC 4), ldF now (keyC 5), vN (vwM 7 now) 4, vN (vwM 11 now) 4, (d : Int)⟩
theorem viewF_G (L : PLg) : viewF L = viewG L.chain L.st.now L.st.saved.length L.height L.open_ L.gasLimit := rfl
/-- A trail, plainly. -/
structure PTr where
  vs : List View
  rs : List Dig
  bv : View
  br : Dig
  bk : Bool
def ptz : PTr := ⟨[], [], View.zero, Vector.replicate 32 0, false⟩
/-- What a trail remembers of a ledger. -/
structure TrI (t : PTr) (L : PLg) : Prop where
  vl : t.vs.length = L.st.saved.length
  rl : t.rs.length = L.st.saved.length
  at_ : ∀ k l, L.st.saved[k]? = some l → t.vs[k]? = some (viewG L.chain l k L.height L.open_ L.gasLimit) ∧ t.rs[k]? = some (rtN l)
  bg : L.open_ = true → t.bk = true ∧ t.bv = viewG L.chain L.begun.now 0 (L.height - 1) false 0 ∧ t.br = rtN L.begun.now
section
variable {t : PTr} {L L' : PLg}
theorem TrI.same (h : TrI t L) (h1 : L'.st.saved = L.st.saved) (h2 : L'.chain = L.chain) (h3 : L'.height = L.height) (h4 : L'.open_ = L.open_) (h5 : L'.gasLimit = L.gasLimit) (h6 : L'.begun.now = L.begun.now) : TrI t L' := by
  refine ⟨by rw [h1]; exact h.vl, by rw [h1]; exact h.rl, fun k l hk => ?_, fun ho => ?_⟩
  · rw [h1] at hk
    rw [h2, h3, h4, h5]
    exact h.at_ k l hk
  · rw [h4] at ho
    rw [h2, h3, h6]
    exact h.bg ho
theorem TrI.sim (h : TrI t L) (s : Sim L L') : TrI t L' := h.same s.sv s.ch s.ht s.op s.gl s.bn
theorem TrI.clo (h : TrI t L) (hc : L.st.saved = []) (h1 : L'.st.saved = []) (h2 : L'.open_ = false) : TrI t L' := by
  have e1 := h.vl
  have e2 := h.rl
  rw [hc] at e1 e2
  refine ⟨by rw [h1]; exact e1, by rw [h1]; exact e2, fun k l hk => ?_, fun ho => ?_⟩
  · rw [h1] at hk; simp at hk
  · rw [h2] at ho; cases ho
theorem newL_tri (c : UInt8) : TrI ptz (newL c) := ⟨rfl, rfl, fun k l hk => by
  have hk' : ([] : List (List Pair))[k]? = some l := hk
  simp at hk', fun ho => by cases ho⟩
/-- A trail cut short. -/
def PTr.cut (t : PTr) (k : Nat) : PTr := { t with vs := t.vs.take k, rs := t.rs.take k }
theorem TrI.cut (h : TrI t L) {k : Nat} (hk : k ≤ L.st.saved.length) (h1 : L'.st.saved = L.st.saved.take k) (h2 : L'.chain = L.chain) (h3 : L'.height = L.height) (h4 : L'.open_ = L.open_) (h5 : L'.gasLimit = L.gasLimit) (h6 : L'.begun.now = L.begun.now) : TrI (t.cut k) L' := by
  have e1 := h.vl
  have e2 := h.rl
  refine ⟨?_, ?_, fun j l hj => ?_, fun ho => ?_⟩
  · show (t.vs.take k).length = _
    rw [h1, List.length_take, List.length_take, e1]
  · show (t.rs.take k).length = _
    rw [h1, List.length_take, List.length_take, e2]
  · rw [h1] at hj
    have hjk : j < k := by
      have := (List.getElem?_eq_some_iff.1 hj).1
      rw [List.length_take] at this
      omega
    rw [List.getElem?_take, if_pos hjk] at hj
    rw [h2, h3, h4, h5]
    show (t.vs.take k)[j]? = _ ∧ (t.rs.take k)[j]? = _
    rw [List.getElem?_take, List.getElem?_take, if_pos hjk, if_pos hjk]
    exact h.at_ j l hj
  · rw [h4] at ho
    rw [h2, h3, h6]
    exact h.bg ho
/-- What stands at a level that is brought back. -/
theorem TrI.back (h : TrI t L) {k : Nat} {l : List Pair} (hl : L.st.saved[k]? = some l) (hn : L'.st.now = l) (hd : L'.st.saved.length = k) (h2 : L'.chain = L.chain) (h3 : L'.height = L.height) (h4 : L'.open_ = L.open_) (h5 : L'.gasLimit = L.gasLimit) (hc : CI L') : t.vs[k]? = some (viewF L') ∧ t.rs[k]? = some (rootD L'.st) := by
  obtain ⟨e1, e2⟩ := h.at_ k l hl
  rw [viewF_G, hc.coh.root, hn, hd, h2, h3, h4, h5]
  exact ⟨e1, e2⟩
theorem rvN_sv : ∀ (k : Nat) (S : PSt), S.saved.length ≤ 8 → k ≤ S.saved.length → (rvN S k).saved = S.saved.take (S.saved.length - k) ∧ (k ≠ 0 → S.saved[S.saved.length - k]? = some (rvN S k).now)
  | 0, S, _, _ => ⟨by show S.saved = _; rw [Nat.sub_zero, List.take_length], fun h => absurd rfl h⟩
  | k + 1, S, h8, hk => by
    have h0 : 0 < S.saved.length := by omega
    have e1 : (rvF S).2.saved = S.saved.take (S.saved.length - 1) := by unfold rvF; rw [dif_pos ⟨h0, by omega⟩]
    have e2 : (rvF S).2.now = (S.saved.getLast?).getD [] := by unfold rvF; rw [dif_pos ⟨h0, by omega⟩]
    have el : (rvF S).2.saved.length = S.saved.length - 1 := by rw [e1, List.length_take]; omega
    obtain ⟨i1, i2⟩ := rvN_sv k (rvF S).2 (by omega) (by omega)
    show (rvN (rvF S).2 k).saved = _ ∧ (_ → S.saved[S.saved.length - (k + 1)]? = some (rvN (rvF S).2 k).now)
    refine ⟨?_, fun _ => ?_⟩
    · rw [i1, el, e1, List.take_take]
      congr 1
      omega
    · by_cases hk0 : k = 0
      · subst hk0
        show S.saved[S.saved.length - 1]? = some (rvF S).2.now
        rw [e2, List.getLast?_eq_getElem?]
        rw [List.getElem?_eq_getElem (by omega)]
        rfl
      · have := i2 hk0
        rw [← this, e1, List.getElem?_take, List.length_take, if_pos (by omega)]
        congr 1
        omega
theorem cmN_sv : ∀ (k : Nat) (S : PSt), S.saved.length ≤ 8 → k ≤ S.saved.length → (cmN S k).saved = S.saved.take (S.saved.length - k)
  | 0, S, _, _ => by show S.saved = _; rw [Nat.sub_zero, List.take_length]
  | k + 1, S, h8, hk => by
    have h0 : 0 < S.saved.length := by omega
    have e1 : (cmF S).2.saved = S.saved.take (S.saved.length - 1) := by unfold cmF; rw [dif_pos ⟨h0, by omega⟩]
    have el : (cmF S).2.saved.length = S.saved.length - 1 := by rw [e1, List.length_take]; omega
    have i1 := cmN_sv k (cmF S).2 (by omega) (by omega)
    show (cmN (cmF S).2 k).saved = _
    rw [i1, el, e1, List.take_take]
    congr 1
    omega
end
section
variable {n : Nat} {t : PTr} {L L2 : PLg} {g : GOp} {X : List Tx}
theorem stp_H (k15 : g.kind ≠ 15) (k16 : g.kind ≠ 16) (k17 : g.kind ≠ 17) : stpF L L2 g X = ((stpH L g X).1, (stpH L g X).2, L2) := by
  unfold stpF
  rw [if_neg k15, if_neg k16, if_neg k17]
/-- KBegin. -/
theorem tri_beg (h : TrI t L) (hL : LI n L ∧ CI L) (hk : g.kind = 1) (hc : (stpF L L2 g X).1.code = 0) : TrI { t with bv := viewF L, br := rootD L.st, bk := true } (stpF L L2 g X).2.1 ∧ (stpF L L2 g X).2.2 = L2 := by
  rw [stp_H (by omega) (by omega) (by omega)] at hc ⊢
  unfold stpH at hc ⊢
  rw [if_pos hk] at hc ⊢
  have hc' : (begF L g.gas).1 = 0 := hc
  refine ⟨?_, rfl⟩
  show TrI _ (begF L g.gas).2
  unfold begF at hc' ⊢
  by_cases ho : L.open_ = true
  · rw [if_pos ho] at hc'; exact absurd hc' (by simp)
  · rw [if_neg ho] at hc' ⊢
    have ho' : L.open_ = false := by cases hh : L.open_ <;> simp_all
    obtain ⟨-, sv, gl, -⟩ := hL.1.cl ho'
    by_cases hg : g.gas = 0 ∨ 10000 < w64 g.gas
    · rw [if_pos hg] at hc'; exact absurd hc' (by simp)
    · rw [if_neg hg]
      refine ⟨h.vl, h.rl, fun k l hk => ?_, fun _ => ⟨rfl, ?_, hL.2.coh.root⟩⟩
      · have hk' : L.st.saved[k]? = some l := hk
        rw [sv] at hk'; simp at hk'
      · show viewF L = viewG L.chain L.st.now 0 (L.height + 1 - 1) false 0
        rw [viewF_G, sv, ho', gl, UInt64.add_sub_cancel]
        rfl
/-- KCheckpoint. -/
theorem tri_ck (h : TrI t L) (hL : LI n L ∧ CI L) (hk : g.kind = 7) (hc : (stpF L L2 g X).1.code = 0) : TrI { t with vs := t.vs ++ [viewF L], rs := t.rs ++ [rootD L.st] } (stpF L L2 g X).2.1 ∧ (stpF L L2 g X).2.2 = L2 := by
  rw [stp_H (by omega) (by omega) (by omega)] at hc ⊢
  unfold stpH at hc ⊢
  rw [if_neg (by omega), if_neg (by omega), if_neg (by omega), if_neg (by omega), if_neg (by omega), if_neg (by omega), if_pos hk] at hc ⊢
  have hc' : (ckL L).1 = 0 := hc
  refine ⟨?_, rfl⟩
  show TrI _ (ckL L).2
  unfold ckL at hc' ⊢
  by_cases ho : L.open_ = true
  · rw [if_pos ho] at hc' ⊢
    have hc2 : (ckF L.st).1 = 0 := hc'
    have h9 : L.st.saved.length < 8 := by
      unfold ckF at hc2
      by_cases q : L.st.saved.length < 8
      · exact q
      · rw [dif_neg q] at hc2; exact absurd hc2 (by simp)
    have e : (ckF L.st).2.saved = L.st.saved ++ [L.st.now] := by unfold ckF; rw [dif_pos h9]
    refine ⟨?_, ?_, fun k l hk => ?_, h.bg⟩
    · show (t.vs ++ [viewF L]).length = (ckF L.st).2.saved.length
      rw [e, List.length_append, List.length_append, h.vl]; rfl
    · show (t.rs ++ [rootD L.st]).length = (ckF L.st).2.saved.length
      rw [e, List.length_append, List.length_append, h.rl]; rfl
    · have hk' : (L.st.saved ++ [L.st.now])[k]? = some l := by rw [← e]; exact hk
      show (t.vs ++ [viewF L])[k]? = some (viewG L.chain l k L.height L.open_ L.gasLimit) ∧ (t.rs ++ [rootD L.st])[k]? = some (rtN l)
      rcases get_snoc hk' with ⟨g1, g2⟩ | ⟨g1, g2⟩
      · rw [List.getElem?_append_left (by rw [h.vl]; exact g1), List.getElem?_append_left (by rw [h.rl]; exact g1)]
        exact h.at_ k l g2
      · subst g1
        rw [List.getElem?_append_right (by rw [h.vl]; exact Nat.le_refl _), h.vl, List.getElem?_append_right (by rw [h.rl]; exact Nat.le_refl _), h.rl, Nat.sub_self, g2, viewF_G, hL.2.coh.root]
        exact ⟨rfl, rfl⟩
  · rw [if_neg ho] at hc'; exact absurd hc' (by simp)
/-- KRevertTo. -/
theorem tri_rvTo (h : TrI t L) (hL : LI n L ∧ CI L) (hC : CI (stpF L L2 g X).2.1) (hk : g.kind = 23) (hc : (stpF L L2 g X).1.code = 0) : ∃ k : Nat, sqI g.seq = (k : Int) ∧ k ≤ L.st.saved.length ∧ TrI (t.cut k) (stpF L L2 g X).2.1 ∧ (stpF L L2 g X).2.2 = L2 ∧ (k < L.st.saved.length → t.vs[k]? = some (viewF (stpF L L2 g X).2.1) ∧ t.rs[k]? = some (rootD (stpF L L2 g X).2.1.st)) := by
  rw [stp_H (by omega) (by omega) (by omega)] at hc hC ⊢
  have e : stpH L g X = ({ pz with code := (rvTo L (sqI g.seq)).1 }, (rvTo L (sqI g.seq)).2) := by
    unfold stpH
    iterate 19 rw [if_neg (by omega)]
    rw [if_pos hk]
  rw [e] at hc hC ⊢
  dsimp only at hc hC ⊢
  unfold rvTo at hc hC ⊢
  by_cases q : sqI g.seq < 0 ∨ (L.st.saved.length : Int) < sqI g.seq
  · rw [if_pos q] at hc; exact absurd hc (by simp)
  · rw [if_neg q] at hC ⊢
    dsimp only at hC ⊢
    have h8 := hL.1.dep
    obtain ⟨k, hk2⟩ : ∃ k : Nat, sqI g.seq = (k : Int) := ⟨(sqI g.seq).toNat, by omega⟩
    rw [hk2] at q hC ⊢
    rw [Int.toNat_natCast] at hC ⊢
    have hkl : k ≤ L.st.saved.length := by omega
    obtain ⟨s1, s2⟩ := rvN_sv (L.st.saved.length - k) L.st h8 (by omega)
    have e3 : L.st.saved.length - (L.st.saved.length - k) = k := by omega
    rw [e3] at s1 s2
    refine ⟨k, rfl, hkl, h.cut hkl s1 rfl rfl rfl rfl rfl, rfl, fun hlt => ?_⟩
    refine h.back (s2 (by omega)) rfl ?_ rfl rfl rfl rfl hC
    show (rvN L.st (L.st.saved.length - k)).saved.length = k
    rw [s1, List.length_take]
    omega
/-- KRevert. -/
theorem tri_rv (h : TrI t L) (hL : LI n L ∧ CI L) (hC : CI (stpF L L2 g X).2.1) (hk : g.kind = 8) (hc : (stpF L L2 g X).1.code = 0) : 0 < L.st.saved.length ∧ TrI (t.cut (L.st.saved.length - 1)) (stpF L L2 g X).2.1 ∧ (stpF L L2 g X).2.2 = L2 ∧ t.vs[L.st.saved.length - 1]? = some (viewF (stpF L L2 g X).2.1) ∧ t.rs[L.st.saved.length - 1]? = some (rootD (stpF L L2 g X).2.1.st) := by
  rw [stp_H (by omega) (by omega) (by omega)] at hc hC ⊢
  have e : stpH L g X = ({ pz with code := (rvL L).1 }, (rvL L).2) := by
    unfold stpH
    iterate 7 rw [if_neg (by omega)]
    rw [if_pos hk]
  rw [e] at hc hC ⊢
  dsimp only at hc hC ⊢
  have h8 := hL.1.dep
  have hc2 : (rvF L.st).1 = 0 := hc
  have h0 : 0 < L.st.saved.length := by
    unfold rvF at hc2
    by_cases q : 0 < L.st.saved.length ∧ L.st.saved.length < 9
    · exact q.1
    · rw [dif_neg q] at hc2; exact absurd hc2 (by simp)
  obtain ⟨s1, s2⟩ := rvN_sv 1 L.st h8 (by omega)
  have e1 : rvN L.st 1 = (rvF L.st).2 := rfl
  rw [e1] at s1 s2
  refine ⟨h0, h.cut (by omega) s1 rfl rfl rfl rfl rfl, rfl, ?_⟩
  refine h.back (s2 (by decide)) rfl ?_ rfl rfl rfl rfl hC
  show (rvF L.st).2.saved.length = _
  rw [s1, List.length_take]
  omega
/-- KCommit. -/
theorem tri_cm (h : TrI t L) (hL : LI n L ∧ CI L) (hk : g.kind = 9) (hc : (stpF L L2 g X).1.code = 0) : 0 < L.st.saved.length ∧ TrI (t.cut (L.st.saved.length - 1)) (stpF L L2 g X).2.1 ∧ (stpF L L2 g X).2.2 = L2 := by
  rw [stp_H (by omega) (by omega) (by omega)] at hc ⊢
  have e : stpH L g X = ({ pz with code := (cmL L).1 }, (cmL L).2) := by
    unfold stpH
    iterate 8 rw [if_neg (by omega)]
    rw [if_pos hk]
  rw [e] at hc ⊢
  dsimp only at hc ⊢
  have h8 := hL.1.dep
  have hc2 : (cmF L.st).1 = 0 := hc
  have h0 : 0 < L.st.saved.length := by
    unfold cmF at hc2
    by_cases q : 0 < L.st.saved.length ∧ L.st.saved.length < 9
    · exact q.1
    · rw [dif_neg q] at hc2; exact absurd hc2 (by simp)
  have s1 := cmN_sv 1 L.st h8 (by omega)
  have e1 : cmN L.st 1 = (cmF L.st).2 := rfl
  rw [e1] at s1
  exact ⟨h0, h.cut (by omega) s1 rfl rfl rfl rfl rfl, rfl⟩
/-- KCommitTo. -/
theorem tri_cmTo (h : TrI t L) (hL : LI n L ∧ CI L) (hk : g.kind = 24) (hc : (stpF L L2 g X).1.code = 0) : ∃ k : Nat, sqI g.seq = (k : Int) ∧ k ≤ L.st.saved.length ∧ TrI (t.cut k) (stpF L L2 g X).2.1 ∧ (stpF L L2 g X).2.2 = L2 := by
  rw [stp_H (by omega) (by omega) (by omega)] at hc ⊢
  have e : stpH L g X = ({ pz with code := (cmTo L (sqI g.seq)).1 }, (cmTo L (sqI g.seq)).2) := by
    unfold stpH
    iterate 20 rw [if_neg (by omega)]
    rw [if_pos hk]
  rw [e] at hc ⊢
  dsimp only at hc ⊢
  unfold cmTo at hc ⊢
  by_cases q : sqI g.seq < 0 ∨ (L.st.saved.length : Int) < sqI g.seq
  · rw [if_pos q] at hc; exact absurd hc (by simp)
  · rw [if_neg q]
    dsimp only
    have h8 := hL.1.dep
    obtain ⟨k, hk2⟩ : ∃ k : Nat, sqI g.seq = (k : Int) := ⟨(sqI g.seq).toNat, by omega⟩
    rw [hk2] at q ⊢
    rw [Int.toNat_natCast]
    have hkl : k ≤ L.st.saved.length := by omega
    have s1 := cmN_sv (L.st.saved.length - k) L.st h8 (by omega)
    have e3 : L.st.saved.length - (L.st.saved.length - k) = k := by omega
    rw [e3] at s1
    exact ⟨k, rfl, hkl, h.cut hkl s1 rfl rfl rfl rfl rfl, rfl⟩
/-- KAbort. -/
theorem tri_ab (h : TrI t L) (hL : LI n L ∧ CI L) (hC : CI (stpF L L2 g X).2.1) (hk : g.kind = 27) (hc : (stpF L L2 g X).1.code = 0) : t.bk = true ∧ t.bv = viewF (stpF L L2 g X).2.1 ∧ t.br = rootD (stpF L L2 g X).2.1.st ∧ TrI ptz (stpF L L2 g X).2.1 ∧ (stpF L L2 g X).2.2 = L2 := by
  rw [stp_H (by omega) (by omega) (by omega)] at hc hC ⊢
  have e : stpH L g X = ({ pz with code := (abF L).1 }, (abF L).2) := by
    unfold stpH
    iterate 23 rw [if_neg (by omega)]
    rw [if_pos hk]
  rw [e] at hc hC ⊢
  dsimp only at hc hC ⊢
  unfold abF at hc hC ⊢
  by_cases ho : L.open_ = true
  · rw [if_pos ho] at hC ⊢
    dsimp only at hC ⊢
    obtain ⟨b1, b2, b3⟩ := h.bg ho
    have hsv := (hL.1.op ho).2.2.2.2
    refine ⟨b1, ?_, ?_, ⟨?_, ?_, fun k l hk => ?_, fun q => ?_⟩, rfl⟩
    · rw [b2, viewF_G]
      show _ = viewG L.chain L.begun.now L.begun.saved.length (L.height - 1) false 0
      rw [hsv]
      rfl
    · rw [b3, hC.coh.root]
      rfl
    · show 0 = L.begun.saved.length
      rw [hsv]; rfl
    · show 0 = L.begun.saved.length
      rw [hsv]; rfl
    · have hk' : L.begun.saved[k]? = some l := hk
      rw [hsv] at hk'; simp at hk'
    · cases q
  · rw [if_neg ho] at hc; exact absurd hc (by simp)
/-- The kinds that the trail does not know. -/
theorem tri_oth (h : TrI t L) (hL : LI n L ∧ CI L) (hn : n + X.length < 10000000) (hk : g.kind ≠ 1 ∧ g.kind ≠ 7 ∧ g.kind ≠ 8 ∧ g.kind ≠ 23 ∧ g.kind ≠ 9 ∧ g.kind ≠ 24 ∧ g.kind ≠ 27 ∧ g.kind ≠ 15 ∧ g.kind ≠ 16) (hc : (stpF L L2 g X).1.code = 0) : TrI t (stpF L L2 g X).2.1 ∧ (stpF L L2 g X).2.2 = L2 := by
  obtain ⟨k1, k7, k8, k23, k9, k24, k27, k15, k16⟩ := hk
  by_cases k17 : g.kind = 17
  · unfold stpF at hc ⊢
    rw [if_neg k15, if_neg k16, if_pos k17] at hc ⊢
    refine ⟨?_, rfl⟩
    have hc' : (rldF L (g.seq.toNat % 10)).1 = 0 := hc
    show TrI t (rldF L (g.seq.toNat % 10)).2
    by_cases ho : L.open_ = true
    · rw [rldF_open ho] at hc'; exact absurd hc' (by simp)
    · have ho' : L.open_ = false := by cases hh : L.open_ <;> simp_all
      by_cases hv : ∃ v, LdOk (splF (dmpD L) (g.seq.toNat % 10)) v
      · obtain ⟨v, hv⟩ := hv
        have hD := ldL_ld (splF (dmpD L) (g.seq.toNat % 10)) v
        have hop : (rldF L (g.seq.toNat % 10)).2.open_ = false := by
          rw [rldF_ok ho' hv]
          show (lhL (ldL (splF (dmpD L) (g.seq.toNat % 10)) v) (splF (dmpD L) (g.seq.toNat % 10)).hist).open_ = false
          rw [(lhL_now _ _).2, hD.1]
          rfl
        have hli := rld_li hL (by omega) (g.seq.toNat % 10)
        exact h.clo (hL.1.cl ho').2.1 (hli.1.cl hop).2.1 hop
      · rw [rldF_bad ho' (fun v hq => hv ⟨v, hq⟩)]
        exact h
  · rw [stp_H k15 k16 k17] at hc ⊢
    refine ⟨?_, rfl⟩
    dsimp only at hc ⊢
    by_cases ha : asF g.kind = true
    · exact h.sim (Sim.ofKept (stpH_kept hL.1 hn (.inr ha)) (stpH_bg hL.1 hn (.inr ha)))
    · unfold stpH at hc ⊢
      rw [if_neg k1] at hc ⊢
      by_cases k2 : g.kind = 2
      · rw [if_pos k2] at hc ⊢
        have hc' : (endF L).1.2 = 0 := hc
        show TrI t (endF L).2
        unfold endF at hc' ⊢
        by_cases ho : L.open_ = true
        · rw [if_pos ho] at hc' ⊢
          by_cases hs : 0 < L.st.saved.length
          · rw [if_pos hs] at hc'; exact absurd hc' (by simp)
          · rw [if_neg hs]
            have h0 : L.st.saved = [] := List.length_eq_zero_iff.1 (by omega)
            exact h.clo h0 h0 rfl
        · rw [if_neg ho] at hc'; exact absurd hc' (by simp)
      rw [if_neg k2] at hc ⊢
      by_cases k3 : g.kind = 3
      · rw [if_pos k3] at hc ⊢
        have hc' : (appF L g.tx).2.code = 0 := hc
        show TrI t (appF L g.tx).1
        by_cases hj : (judR L 0 g.tx).1 = 0
        · rw [appF_acc hj]
          obtain ⟨a1, a2, a3, a4, a5, a6, a7⟩ := acc_same L g.tx
          exact h.same a7 a1 a5 a3 a4 (by rw [a2])
        · unfold appF
          rw [if_neg hj]
          exact h
      rw [if_neg k3] at hc ⊢
      by_cases k4 : g.kind = 4
      · exact absurd (by rw [k4]; rfl) ha
      rw [if_neg k4] at hc ⊢
      by_cases k5 : g.kind = 5
      · rw [if_pos k5] at hc ⊢
        have hc' : (batF true L X).1.2 = 0 := hc
        show TrI t (batF true L X).2
        obtain ⟨r1, r2, r3, r4, r5, r6⟩ := runF_same (X := X) (L := { L with st := (ckF L.st).2 }) (i := 0) (rs := [])
        have r7 := runF_sv (X := X) (L := { L with st := (ckF L.st).2 }) (i := 0) (rs := [])
        unfold batF at hc' ⊢
        by_cases q : cbF L X.length = 0
        · rw [if_pos q] at hc' ⊢
          obtain ⟨-, -, h9, -⟩ := ckF_ok q
          have e : (ckF L.st).2.saved = L.st.saved ++ [L.st.now] := by unfold ckF; rw [dif_pos h9]
          have r7' : (runF { L with st := (ckF L.st).2 } X 0 []).2.st.saved = L.st.saved ++ [L.st.now] := r7.trans e
          obtain ⟨M, hM⟩ : ∃ M, M = (runF { L with st := (ckF L.st).2 } X 0 []).2 := ⟨_, rfl⟩
          have key : ∀ S : PSt, S.saved = M.st.saved.take (M.st.saved.length - 1) → TrI t { M with st := S } := fun S hS => by
            refine h.same ?_ (by rw [hM]; exact r3) (by rw [hM]; exact r4) (by rw [hM]; exact r2) (by rw [hM]; exact r5) (by show M.begun.now = _; rw [hM]; exact congrArg PSt.now r1)
            show S.saved = _
            rw [hS, hM, r7', List.length_append]
            show (L.st.saved ++ [L.st.now]).take (L.st.saved.length + 1 - 1) = _
            rw [Nat.add_sub_cancel, List.take_left']
            rfl
          have hl : 0 < M.st.saved.length ∧ M.st.saved.length < 9 := by
            rw [hM, r7', List.length_append]
            show 0 < L.st.saved.length + 1 ∧ L.st.saved.length + 1 < 9
            omega
          rw [← hM]
          split
          · refine key _ ?_
            show (cmF M.st).2.saved = _
            unfold cmF
            rw [dif_pos hl]
          · refine key _ ?_
            show (rvF M.st).2.saved = _
            unfold rvF
            rw [dif_pos hl]
        · rw [if_neg q]
          exact h
      rw [if_neg k5] at hc ⊢
      by_cases k6 : g.kind = 6
      · exact absurd (by rw [k6]; rfl) ha
      rw [if_neg k6, if_neg k7, if_neg k8, if_neg k9] at hc ⊢
      by_cases k10 : g.kind = 10
      · exact absurd (by rw [k10]; rfl) ha
      rw [if_neg k10] at hc ⊢
      by_cases k11 : g.kind = 11
      · exact absurd (by rw [k11]; rfl) ha
      rw [if_neg k11] at hc ⊢
      by_cases k12 : g.kind = 12
      · exact absurd (by rw [k12]; rfl) ha
      rw [if_neg k12] at hc ⊢
      by_cases k13 : g.kind = 13
      · exact absurd (by rw [k13]; rfl) ha
      rw [if_neg k13] at hc ⊢
      by_cases k14 : g.kind = 14
      · exact absurd (by rw [k14]; rfl) ha
      rw [if_neg k14] at hc ⊢
      by_cases k18 : g.kind = 18
      · rw [if_pos k18] at hc ⊢
        have hc' : (exeF L g.gas X).1.code = 0 := hc
        show TrI t (exeF L g.gas X).2
        unfold exeF at hc' ⊢
        by_cases ho : L.open_ = true
        · have e : begF L g.gas = (31, L) := by unfold begF; rw [if_pos ho]
          rw [e, if_neg (by simp)]
          exact h
        · have ho' : L.open_ = false := by cases hh : L.open_ <;> simp_all
          by_cases hg : g.gas = 0 ∨ 10000 < w64 g.gas
          · have e : begF L g.gas = (32, L) := by unfold begF; rw [if_neg ho, if_pos hg]
            rw [e, if_neg (by simp)]
            exact h
          · have e : begF L g.gas = (0, begL L g.gas) := by unfold begF; rw [if_neg ho, if_neg hg]
            rw [e, if_pos rfl]
            dsimp only
            obtain ⟨z, sv, gl, bz⟩ := hL.1.cl ho'
            obtain ⟨r1, r2, r3, r4, r5, r6⟩ := runF_same (X := X) (L := begL L g.gas) (i := 0) (rs := [])
            have hsv : (runF (begL L g.gas) X 0 []).2.st.saved = [] := by rw [runF_sv]; exact sv
            split
            · refine h.clo sv ?_ ?_
              · unfold endF
                rw [if_pos (by rw [r2]; rfl), if_neg (by rw [hsv]; simp)]
                exact hsv
              · unfold endF
                rw [if_pos (by rw [r2]; rfl), if_neg (by rw [hsv]; simp)]
                rfl
            · refine h.clo sv ?_ ?_
              · unfold abF
                rw [if_pos (by rw [r2]; rfl)]
                show (runF (begL L g.gas) X 0 []).2.begun.saved = []
                rw [r1]
                exact sv
              · unfold abF
                rw [if_pos (by rw [r2]; rfl)]
                rfl
      rw [if_neg k18] at hc ⊢
      by_cases k19 : g.kind = 19
      · exact absurd (by rw [k19]; rfl) ha
      rw [if_neg k19] at hc ⊢
      by_cases k20 : g.kind = 20
      · exact absurd (by rw [k20]; rfl) ha
      rw [if_neg k20] at hc ⊢
      by_cases k21 : g.kind = 21
      · exact absurd (by rw [k21]; rfl) ha
      rw [if_neg k21] at hc ⊢
      by_cases k22 : g.kind = 22
      · exact absurd (by rw [k22]; rfl) ha
      rw [if_neg k22, if_neg k23, if_neg k24] at hc ⊢
      by_cases k25 : g.kind = 25
      · exact absurd (by rw [k25]; rfl) ha
      rw [if_neg k25] at hc ⊢
      by_cases k26 : g.kind = 26
      · exact absurd (by rw [k26]; rfl) ha
      rw [if_neg k26, if_neg k27]
      exact h
end
end Go.Proofs.Qxb6500786aGreat
