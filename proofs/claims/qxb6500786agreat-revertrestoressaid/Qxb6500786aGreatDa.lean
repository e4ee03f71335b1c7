import Derived.DeepKeys2
import Derived.Test.Qxb6500786aGreatQo

import Derived.StillTailTactics
import Derived.Deep.QuietTactic
import Derived.BigQuiet
import Derived.Deep.RegionHeld
import Derived.Deep.CutRange
import Derived.Laws.ResultCell
import Derived.Laws.Rows
import Derived.DeepKeys
import Derived.DataBytes
import Derived.Laws.StructEq
import Derived.Laws.AppendOwn
import Derived.Laws.MakeOwn
import Derived.Lib.AppendStr
set_option linter.unusedSimpArgs false
set_option linter.unusedVariables false
namespace Go.Proofs.Qxb6500786aGreat
open Go.RowKit Go.Blk
attribute [local go_sem ↓] execOp_load execOp_store execOp_alloc
attribute [local go_sem] Tryz.ld24 Tryz.st24 Tryz.ld36 Tryz.st36 Tryz.ld28 Tryz.st28 Tryz.ld32 Tryz.st32 Tryz.ld33 Tryz.st33 Tryz.ld34 Tryz.st34 Tryz.ld5 Tryz.st5 Tryz.ld31 Tryz.st31 Tryz.ld30 Tryz.st30 Tryz.ld41 Tryz.st41 Tryz.ld44 Tryz.st44 Tryz.ld4 Tryz.st4 Tryz.ld173 Tryz.st173 Tryz.ld174 Tryz.st174 Tryz.ld95 Tryz.st95 Tryz.ld45 Tryz.st45 Tryz.ld207 Tryz.st207 Tryz.ld3 Tryz.st3 Tryz.ld189 Tryz.st189 Tryz.ld2 Tryz.st2 Tryz.ld9 Tryz.st9 Tryz.ld12 Tryz.st12 Tryz.ld21 Tryz.st21 Tryz.ld22 Tryz.st22 Tryz.ld46 Tryz.st46 Tryz.ld92 Tryz.st92 Tryz.ld94 Tryz.st94 Tryz.ld96 Tryz.st96 Tryz.ld97 Tryz.st97 Tryz.ld105 Tryz.st105 Tryz.ld117 Tryz.st117 Tryz.ld122 Tryz.st122 Tryz.ld123 Tryz.st123 Tryz.ld133 Tryz.st133 Tryz.ld155 Tryz.st155 Tryz.ld163 Tryz.st163 Tryz.ld190 Tryz.st190 Tryz.ld197 Tryz.st197 Tryz.ld201 Tryz.st201 Tryz.ld202 Tryz.st202 Tryz.ld209 Tryz.st209 Tryz.ld216 Tryz.st216 Tryz.ld230 Tryz.st230 Tryz.ld238 Tryz.st238 Tryz.ld242 Tryz.st242 Tryz.ld251 Tryz.st251 Tryz.ld260 Tryz.st260 Tryz.ld286 Tryz.st286 Tryz.ld292 Tryz.st292 Tryz.ld298 Tryz.st298 Tryz.ld309 Tryz.st309 Tryz.ld35 Tryz.st35 Tryz.ld48 Tryz.st48 Tryz.ld47 Tryz.st47 Tryz.ld79 Tryz.st79 Tryz.ld177 Tryz.st177 Tryz.ld180 Tryz.st180 Tryz.ld231 Tryz.st231 Tryz.ld232 Tryz.st232 Tryz.ld26 Tryz.st26 Tryz.ld38 Tryz.st38 Tryz.ld40 Tryz.st40 Tryz.ld43 Tryz.st43 Tryz.ld50 Tryz.st50 Tryz.ld52 Tryz.st52 Tryz.ld54 Tryz.st54 Tryz.ld81 Tryz.st81 Tryz.ld112 Tryz.st112 Tryz.ld120 Tryz.st120 Tryz.ld176 Tryz.st176 Tryz.ld179 Tryz.st179 Tryz.ld182 Tryz.st182 Tryz.ld184 Tryz.st184 Tryz.ld234 Tryz.st234 Tryz.ld236 Tryz.st236 Tryz.ld240 Tryz.st240 Tryz.ld246 Tryz.st246 Tryz.ld249 Tryz.st249 Tryz.al35 Tryz.al48 Tryz.al47 Tryz.al79 Tryz.al177 Tryz.al180 Tryz.al231 Tryz.al232 Tryz.al26 Tryz.al38 Tryz.al40 Tryz.al43 Tryz.al50 Tryz.al52 Tryz.al54 Tryz.al81 Tryz.al112 Tryz.al120 Tryz.al176 Tryz.al179 Tryz.al182 Tryz.al184 Tryz.al234 Tryz.al236 Tryz.al240 Tryz.al246 Tryz.al249
attribute [local go_sem] Player.length_enc Player.ok_enc Player.all_get Player.all_set Player.hand_get Player.hand_set Player.aside_get Player.aside_set Message.length_enc Message.ok_enc Message.all_get Message.all_set Message.kind_get Message.kind_set Message.from__get Message.from__set Message.to__get Message.to__set Message.sender_get Message.sender_set Message.receiver_get Message.receiver_set Message.seq_get Message.seq_set Message.token_get Message.token_set Message.amount_get Message.amount_set Message.size_get Message.size_set Message.payload_get Message.payload_set Tx.length_enc Tx.ok_enc Tx.all_get Tx.all_set Tx.kind_get Tx.kind_set Tx.chain_get Tx.chain_set Tx.from__get Tx.from__set Tx.nonce_get Tx.nonce_set Tx.fee_get Tx.fee_set Tx.to__get Tx.to__set Tx.dest_get Tx.dest_set Tx.token_get Tx.token_set Tx.amount_get Tx.amount_set Tx.size_get Tx.size_set Tx.payload_get Tx.payload_set Tx.msg_get Tx.msg_set Tx.msg_kind_get Tx.msg_kind_set Tx.msg_from__get Tx.msg_from__set Tx.msg_to__get Tx.msg_to__set Tx.msg_sender_get Tx.msg_sender_set Tx.msg_receiver_get Tx.msg_receiver_set Tx.msg_seq_get Tx.msg_seq_set Tx.msg_token_get Tx.msg_token_set Tx.msg_amount_get Tx.msg_amount_set Tx.msg_size_get Tx.msg_size_set Tx.msg_payload_get Tx.msg_payload_set GOp.length_enc GOp.ok_enc GOp.all_get GOp.all_set GOp.kind_get GOp.kind_set GOp.tx_get GOp.tx_set GOp.txs_get GOp.txs_set GOp.gas_get GOp.gas_set GOp.acct_get GOp.acct_set GOp.token_get GOp.token_set GOp.chain_get GOp.chain_set GOp.seq_get GOp.seq_set GOp.tx_kind_get GOp.tx_kind_set GOp.tx_chain_get GOp.tx_chain_set GOp.tx_from__get GOp.tx_from__set GOp.tx_nonce_get GOp.tx_nonce_set GOp.tx_fee_get GOp.tx_fee_set GOp.tx_to__get GOp.tx_to__set GOp.tx_dest_get GOp.tx_dest_set GOp.tx_token_get GOp.tx_token_set GOp.tx_amount_get GOp.tx_amount_set GOp.tx_size_get GOp.tx_size_set GOp.tx_payload_get GOp.tx_payload_set GOp.tx_msg_get GOp.tx_msg_set GOp.tx_msg_kind_get GOp.tx_msg_kind_set GOp.tx_msg_from__get GOp.tx_msg_from__set GOp.tx_msg_to__get GOp.tx_msg_to__set GOp.tx_msg_sender_get GOp.tx_msg_sender_set GOp.tx_msg_receiver_get GOp.tx_msg_receiver_set GOp.tx_msg_seq_get GOp.tx_msg_seq_set GOp.tx_msg_token_get GOp.tx_msg_token_set GOp.tx_msg_amount_get GOp.tx_msg_amount_set GOp.tx_msg_size_get GOp.tx_msg_size_set GOp.tx_msg_payload_get GOp.tx_msg_payload_set Summary.length_enc Summary.ok_enc Summary.all_get Summary.all_set Summary.height_get Summary.height_set Summary.txs_get Summary.txs_set Summary.gas_get Summary.gas_set Summary.fees_get Summary.fees_set Summary.sent_get Summary.sent_set Summary.took_get Summary.took_set Summary.minted_get Summary.minted_set Summary.burned_get Summary.burned_set Summary.root_get Summary.root_set Detail.length_enc Detail.ok_enc Detail.all_get Detail.all_set Detail.code_get Detail.code_set Detail.have__get Detail.have__set Detail.need_get Detail.need_set Slot.length_enc Slot.ok_enc Slot.all_get Slot.all_set Slot.nonce_get Slot.nonce_set Slot.balances_get Slot.balances_set Tree.length_enc Tree.ok_enc Tree.all_get Tree.all_set Tree.leaves_get Tree.leaves_set Mark.length_enc Mark.ok_enc Mark.all_get Mark.all_set Mark.from__get Mark.from__set Mark.seq_get Mark.seq_set Receipt.length_enc Receipt.ok_enc Receipt.all_get Receipt.all_set Receipt.code_get Receipt.code_set Receipt.hash_get Receipt.hash_set Receipt.index_get Receipt.index_set Receipt.gas_get Receipt.gas_set Receipt.fee_get Receipt.fee_set Receipt.hasSent_get Receipt.hasSent_set Receipt.sent_get Receipt.sent_set Receipt.hasTook_get Receipt.hasTook_set Receipt.took_get Receipt.took_set Receipt.sent_kind_get Receipt.sent_kind_set Receipt.sent_from__get Receipt.sent_from__set Receipt.sent_to__get Receipt.sent_to__set Receipt.sent_sender_get Receipt.sent_sender_set Receipt.sent_receiver_get Receipt.sent_receiver_set Receipt.sent_seq_get Receipt.sent_seq_set Receipt.sent_token_get Receipt.sent_token_set Receipt.sent_amount_get Receipt.sent_amount_set Receipt.sent_size_get Receipt.sent_size_set Receipt.sent_payload_get Receipt.sent_payload_set Receipt.took_kind_get Receipt.took_kind_set Receipt.took_from__get Receipt.took_from__set Receipt.took_to__get Receipt.took_to__set Receipt.took_sender_get Receipt.took_sender_set Receipt.took_receiver_get Receipt.took_receiver_set Receipt.took_seq_get Receipt.took_seq_set Receipt.took_token_get Receipt.took_token_set Receipt.took_amount_get Receipt.took_amount_set Receipt.took_size_get Receipt.took_size_set Receipt.took_payload_get Receipt.took_payload_set Store.length_enc Store.ok_enc Store.all_get Store.all_set Store.now_get Store.now_set Store.saved_get Store.saved_set GState.length_enc GState.ok_enc GState.all_get GState.all_set GState.kv_get GState.kv_set GState.tree_get GState.tree_set GState.stale_get GState.stale_set GState.touched_get GState.touched_set GState.kv_now_get GState.kv_now_set GState.kv_saved_get GState.kv_saved_set GState.tree_leaves_get GState.tree_leaves_set History.length_enc History.ok_enc History.all_get History.all_set History.ring_get History.ring_set History.closed_get History.closed_set Ledger.length_enc Ledger.ok_enc Ledger.all_get Ledger.all_set Ledger.chain_get Ledger.chain_set Ledger.st_get Ledger.st_set Ledger.height_get Ledger.height_set Ledger.open__get Ledger.open__set Ledger.gasLimit_get Ledger.gasLimit_set Ledger.past_get Ledger.past_set Ledger.begun_get Ledger.begun_set Ledger.sent_get Ledger.sent_set Ledger.took_get Ledger.took_set Ledger.receipts_get Ledger.receipts_set Ledger.st_kv_get Ledger.st_kv_set Ledger.st_tree_get Ledger.st_tree_set Ledger.st_stale_get Ledger.st_stale_set Ledger.st_touched_get Ledger.st_touched_set Ledger.st_kv_now_get Ledger.st_kv_now_set Ledger.st_kv_saved_get Ledger.st_kv_saved_set Ledger.st_tree_leaves_get Ledger.st_tree_leaves_set Ledger.past_ring_get Ledger.past_ring_set Ledger.past_closed_get Ledger.past_closed_set Ledger.begun_kv_get Ledger.begun_kv_set Ledger.begun_tree_get Ledger.begun_tree_set Ledger.begun_stale_get Ledger.begun_stale_set Ledger.begun_touched_get Ledger.begun_touched_set Ledger.begun_kv_now_get Ledger.begun_kv_now_set Ledger.begun_kv_saved_get Ledger.begun_kv_saved_set Ledger.begun_tree_leaves_get Ledger.begun_tree_leaves_set Purse.length_enc Purse.ok_enc Purse.all_get Purse.all_set Purse.st_get Purse.st_set Purse.n_get Purse.n_set Purse.account_get Purse.account_set Purse.token_get Purse.token_set Purse.amount_get Purse.amount_set Plan.length_enc Plan.ok_enc Plan.all_get Plan.all_set Plan.purse_get Plan.purse_set Plan.nonce_get Plan.nonce_set Plan.gasUsed_get Plan.gasUsed_set Plan.fees_get Plan.fees_set Plan.hasSupply_get Plan.hasSupply_set Plan.token_get Plan.token_set Plan.supply_get Plan.supply_set Plan.flowAt_get Plan.flowAt_set Plan.flow_get Plan.flow_set Plan.receipt_get Plan.receipt_set Plan.purse_st_get Plan.purse_st_set Plan.purse_n_get Plan.purse_n_set Plan.purse_account_get Plan.purse_account_set Plan.purse_token_get Plan.purse_token_set Plan.purse_amount_get Plan.purse_amount_set Plan.receipt_code_get Plan.receipt_code_set Plan.receipt_hash_get Plan.receipt_hash_set Plan.receipt_index_get Plan.receipt_index_set Plan.receipt_gas_get Plan.receipt_gas_set Plan.receipt_fee_get Plan.receipt_fee_set Plan.receipt_hasSent_get Plan.receipt_hasSent_set Plan.receipt_sent_get Plan.receipt_sent_set Plan.receipt_hasTook_get Plan.receipt_hasTook_set Plan.receipt_took_get Plan.receipt_took_set Plan.receipt_sent_kind_get Plan.receipt_sent_kind_set Plan.receipt_sent_from__get Plan.receipt_sent_from__set Plan.receipt_sent_to__get Plan.receipt_sent_to__set Plan.receipt_sent_sender_get Plan.receipt_sent_sender_set Plan.receipt_sent_receiver_get Plan.receipt_sent_receiver_set Plan.receipt_sent_seq_get Plan.receipt_sent_seq_set Plan.receipt_sent_token_get Plan.receipt_sent_token_set Plan.receipt_sent_amount_get Plan.receipt_sent_amount_set Plan.receipt_sent_size_get Plan.receipt_sent_size_set Plan.receipt_sent_payload_get Plan.receipt_sent_payload_set Plan.receipt_took_kind_get Plan.receipt_took_kind_set Plan.receipt_took_from__get Plan.receipt_took_from__set Plan.receipt_took_to__get Plan.receipt_took_to__set Plan.receipt_took_sender_get Plan.receipt_took_sender_set Plan.receipt_took_receiver_get Plan.receipt_took_receiver_set Plan.receipt_took_seq_get Plan.receipt_took_seq_set Plan.receipt_took_token_get Plan.receipt_took_token_set Plan.receipt_took_amount_get Plan.receipt_took_amount_set Plan.receipt_took_size_get Plan.receipt_took_size_set Plan.receipt_took_payload_get Plan.receipt_took_payload_set Move.length_enc Move.ok_enc Move.all_get Move.all_set Move.account_get Move.account_set Move.token_get Move.token_set Move.down_get Move.down_set Move.amount_get Move.amount_set Books.length_enc Books.ok_enc Books.all_get Books.all_set Books.sums_get Books.sums_set Books.stored_get Books.stored_set Books.marks_get Books.marks_set Pair.length_enc Pair.ok_enc Pair.all_get Pair.all_set Pair.key_get Pair.key_set Pair.value_get Pair.value_set
attribute [local go_sem] size_put size_ext blk_put free_put blk_alloc free_alloc blk_drew free_drew blk_ext free_ext lookOr_some putOr_some segAt_some cellAt_some storeIn_some put_put put_alloc_new length_arr ok_arr_u8 ok_arr_u32 ok_arr_u64 ok_arr_i64 ok_arr_sl cellsV_agg cellsV_int cellsV_bool cellsV_string cellsV_pointer cellsV_slice cellsV_sl ok_int ok_bool ok_string ok_pointer ok_slice ok_sl toList_arr seg_arr set_arr nth_splice nth_splice0 seg_splice seg_splice0 splice_splice splice_splice0 length_splice_if
attribute [local go_sem ↓] execOp_box
attribute [local go_sem] box_run nth_arr_u8 put_arr_u8 blk_drewN free_drewN put_drewN blk_raw free_raw
/-- What a ledger's ring of summaries holds. -/
def HsR (P : History) : Prop := ∀ h : Nat, 1 ≤ h → h ≤ P.closed.toNat → P.closed.toNat < h + 8 → (P.ring[h % 8]'(Nat.mod_lt _ (by decide))).height.toNat = h ∧ smOk (P.ring[h % 8]'(Nat.mod_lt _ (by decide)))
/-- The invariant of a ledger's history: the summaries, and the last root. -/
structure HsI (L : PLg) : Prop where
  ring : HsR L.past
  root : L.past.closed.toNat ≠ 0 → (L.past.ring[L.past.closed.toNat % 8]'(Nat.mod_lt _ (by decide))).root = rtN (if L.open_ = true then L.begun.now else L.st.now)
theorem HsR.push {P : History} {s : Summary} (h : HsR P) (hs : smOk s) (hh : s.height.toNat = P.closed.toNat + 1) : HsR (pushF P s) := by
  intro k k1 k2 k3
  have e : (pushF P s).closed = s.height := rfl
  rw [e, hh] at k2 k3
  have er : (pushF P s).ring[k % 8]'(Nat.mod_lt _ (by decide)) = if s.height.toNat % 8 = k % 8 then s else P.ring[k % 8]'(Nat.mod_lt _ (by decide)) := by
    unfold pushF
    dsimp only
    rw [Vector.getElem_set]
  rw [er]
  by_cases q : k = P.closed.toNat + 1
  · rw [if_pos (by rw [hh, q])]
    exact ⟨by rw [hh, q], hs⟩
  · rw [if_neg (by rw [hh]; omega)]
    exact h k k1 (by omega) (by omega)
theorem push_last (P : History) (s : Summary) : ((pushF P s).ring[(pushF P s).closed.toNat % 8]'(Nat.mod_lt _ (by decide))) = s := by
  unfold pushF
  dsimp only
  rw [Vector.getElem_set, if_pos rfl]
theorem clrN_lo (l : List Pair) (k : UInt64) : ∀ t, t ≤ 4 → (∀ j : Nat, j < t → k ≠ keyC (7 + UInt64.ofNat j) ∧ k ≠ keyC (11 + UInt64.ofNat j)) → ldF (clrN l t) k = ldF l k
  | 0, _, _ => rfl
  | t + 1, ht, h => by
    have h1 := h t (Nat.lt_succ_self _)
    show ldF (saveF (saveF (clrN l t) (keyC (7 + UInt64.ofNat t)) 0) (keyC (11 + UInt64.ofNat t)) 0) k = _
    rw [ldF_save, if_neg h1.2, ldF_save, if_neg h1.1]
    exact clrN_lo l k t (by omega) (fun j hj => h j (by omega))
theorem c7_nat (t : Nat) (h : t < 4) : (7 + UInt64.ofNat t).toNat = 7 + t ∧ (11 + UInt64.ofNat t).toNat = 11 + t := by
  have e : (UInt64.ofNat t).toNat = t := by rw [UInt64.toNat_ofNat']; omega
  rw [UInt64.toNat_add, UInt64.toNat_add, e]
  show (7 + t) % _ = _ ∧ (11 + t) % _ = _
  omega
theorem clrN_at (l : List Pair) (t : Nat) (ht : t < 4) : ldF (clrN l t) (keyC (7 + UInt64.ofNat t)) = ldF l (keyC (7 + UInt64.ofNat t)) ∧ ldF (clrN l t) (keyC (11 + UInt64.ofNat t)) = ldF l (keyC (11 + UInt64.ofNat t)) := by
  have ht' := c7_nat t ht
  refine ⟨clrN_lo l _ t (by omega) (fun j hj => ?_), clrN_lo l _ t (by omega) (fun j hj => ?_)⟩
  · have hj' := c7_nat j (by omega)
    rw [Ne, Ne, kCC (by omega) (by omega), kCC (by omega) (by omega)]
    exact ⟨fun e => by have := congrArg UInt64.toNat e; omega, fun e => by have := congrArg UInt64.toNat e; omega⟩
  · have hj' := c7_nat j (by omega)
    rw [Ne, Ne, kCC (by omega) (by omega), kCC (by omega) (by omega)]
    exact ⟨fun e => by have := congrArg UInt64.toNat e; omega, fun e => by have := congrArg UInt64.toNat e; omega⟩
theorem c7_fU (t : Nat) (ht : t < 4) : 7 + UInt64.ofNat t = fU 7 (UInt8.ofNat t) ∧ 11 + UInt64.ofNat t = fU 11 (UInt8.ofNat t) := by
  unfold fU
  rw [fU_w8 0 t ht]
  exact ⟨rfl, rfl⟩
/-- The summary that EndBlock writes is sound. -/
theorem sm_ok {n : Nat} {L : PLg} (h : LI n L) (ho : L.open_ = true) : smOk (smT L 4) := by
  have hs := h.lv L.st.now (by simp)
  have hg := (h.op ho).2.2.2.1
  have h1 := hs.gas
  have h2 := hs.fee
  have h3 := hs.txs
  have h4 := hs.gtx
  refine ⟨?_, h2, fun t ht => ?_, ?_, ?_, ?_, ?_⟩
  · show (ldF L.st.now (keyC 1)).toNat ≤ 10000
    omega
  · have u8 : (UInt8.ofNat t).toNat = t := by rw [UInt8.toNat_ofNat']; omega
    have c1 := clrN_at L.st.now t ht
    have c2 := c7_fU t ht
    have m1 := hs.mnt (UInt8.ofNat t) (by omega)
    have m2 := hs.brn (UInt8.ofNat t) (by omega)
    have e1 : (smT L 4).minted[t] = ldF (clrN L.st.now t) (keyC (7 + UInt64.ofNat t)) := by
      show (smV _ 4)[t] = _
      unfold smV
      rw [Vector.getElem_ofFn]
      exact if_pos ht
    have e2 : (smT L 4).burned[t] = ldF (clrN L.st.now t) (keyC (11 + UInt64.ofNat t)) := by
      show (smV _ 4)[t] = _
      unfold smV
      rw [Vector.getElem_ofFn]
      exact if_pos ht
    rw [e1, e2, c1.1, c1.2, c2.1, c2.2]
    exact ⟨m1, m2⟩
  · show (ldF L.st.now (keyC 3)).toNat ≤ 10000
    omega
  · show (ldF L.st.now (keyC 4)).toNat ≤ (ldF L.st.now (keyC 3)).toNat
    omega
  · show (ldF L.st.now (keyC 5)).toNat ≤ (ldF L.st.now (keyC 3)).toNat
    omega
  · show (ldF L.st.now (keyC 4) + ldF L.st.now (keyC 5)).toNat ≤ (ldF L.st.now (keyC 3)).toNat
    rw [UInt64.toNat_add]
    have := Nat.mod_le ((ldF L.st.now (keyC 4)).toNat + (ldF L.st.now (keyC 5)).toNat) (2 ^ 64)
    omega
attribute [local irreducible] leafF updL topD
theorem HsI.evt {n k : Nat} {L L' : PLg} (h : HsI L) (hL : LI n L) (hc : CI L) (he : Evt L L' k) : HsI L' := by
  have op : 0 < L.st.saved.length → L.open_ = true := fun h0 => by
    cases ho : L.open_ with
    | true => rfl
    | false =>
      have := (hL.cl ho).2.1
      rw [this] at h0
      cases h0
  cases he with
  | app x hj h0 =>
    obtain ⟨s1, s2, s3, s4, s5, s6, s7, s8⟩ := enactF_same L x (plnH L 0 x) (purL L.st.now x)
    have e1 : (accL L x).past = L.past := s6
    have e2 : (accL L x).begun = L.begun := s2
    have e3 : (accL L x).open_ = L.open_ := s3
    refine ⟨by rw [e1]; exact h.ring, ?_⟩
    intro q
    rw [e3, hj.opn, if_pos rfl, e2]
    have := h.root (by rw [← e1]; exact q)
    rw [hj.opn, if_pos rfl] at this
    rw [← this]
    congr 1
    simp only [e1]
  | beg g ho hg hg2 =>
    refine ⟨h.ring, fun q => ?_⟩
    have := h.root q
    rw [ho, if_neg (by simp)] at this
    exact this
  | en ho hs =>
    have hp := hL.pst
    rw [ho, if_pos rfl] at hp
    refine ⟨HsR.push h.ring (sm_ok hL ho) (by show L.height.toNat = _; omega), fun q => ?_⟩
    have e := push_last L.past (smT L 4)
    show ((pushF L.past (smT L 4)).ring[(pushF L.past (smT L 4)).closed.toNat % 8]'(Nat.mod_lt _ (by decide))).root = rtN (clrA L.st.now)
    rw [e]
    show rootD L.st = _
    rw [hc.coh.root]
    exact rtN_congr (fun i _ => (leaf_clr _ i).symm)
  | ck ho h9 =>
    refine ⟨h.ring, fun q => ?_⟩
    have := h.root q
    rw [ho, if_pos rfl] at this
    show _ = rtN (if L.open_ = true then L.begun.now else _)
    rw [ho, if_pos rfl]
    exact this
  | rv h0 h8 =>
    have ho := op h0
    refine ⟨h.ring, fun q => ?_⟩
    have := h.root q
    rw [ho, if_pos rfl] at this
    show _ = rtN (if L.open_ = true then L.begun.now else _)
    rw [ho, if_pos rfl]
    exact this
  | cm h0 h8 =>
    have ho := op h0
    refine ⟨h.ring, fun q => ?_⟩
    have := h.root q
    rw [ho, if_pos rfl] at this
    show _ = rtN (if L.open_ = true then L.begun.now else _)
    rw [ho, if_pos rfl]
    exact this
  | ab ho =>
    refine ⟨h.ring, fun q => ?_⟩
    have := h.root q
    rw [ho, if_pos rfl] at this
    exact this
  | rot =>
    refine ⟨h.ring, fun q => ?_⟩
    have := h.root q
    simp only [rotL, rootS]
    exact this
  | clo =>
    refine ⟨h.ring, fun q => ?_⟩
    exact h.root q
theorem HsI.evs {n k : Nat} {L L' : PLg} (hL : LI n L) (hc : CI L) (h : HsI L) (he : Evs L L' k) (hn : n + k < 10000000) : HsI L' := by
  induction he with
  | nil => exact h
  | @snoc L1 L2 a b e1 e2 ih =>
    have h1 := hL.evs e1 (by omega)
    exact (ih (by omega)).evt h1 (hc.evs hL e1 (by omega)) e2
theorem newL_hs (c : UInt8) : HsI (newL c) := by
  refine ⟨fun h h1 h2 _ => ?_, fun q => absurd rfl q⟩
  have : h ≤ 0 := h2
  omega
/-- What the pushes of a loaded history leave in the ring. -/
theorem lhN_ring {L : PLg} {K : List Summary} (B : Nat) (hB : K.length ≤ 8) (hh : ∀ i s, K[i]? = some s → s.height.toNat = B + 1 + i) : ∀ i, i ≤ K.length → ∀ j s, j < i → K[j]? = some s → ((lhN L K i).past.ring[(B + 1 + j) % 8]'(Nat.mod_lt _ (by decide))) = s
  | 0, _, j, s, hj, _ => by omega
  | i + 1, hi, j, s, hj, hs => by
    have hi' : K[i]? = some (K[i]'(by omega)) := List.getElem?_eq_getElem (by omega)
    have e := lhN_succ (L := L) hi'
    have ih := lhN_ring (L := L) B hB hh i (by omega)
    have hki := hh i _ hi'
    have e2 : (lhN L K (i + 1)).past = pushF (lhN L K i).past (K[i]'(by omega)) := by rw [e]
    simp only [e2]
    unfold pushF
    dsimp only
    rw [Vector.getElem_set]
    by_cases q : j = i
    · subst q
      rw [if_pos (by rw [hki])]
      exact Option.some.inj (hi'.symm.trans hs)
    · rw [if_neg (by rw [hki]; omega)]
      exact ih j s (by omega) hs
theorem lh_h {L : PLg} {K : List Summary} (h : lhOk L K) : K.length = (if 8 < L.height.toNat then 8 else L.height.toNat) ∧ ∀ i s, K[i]? = some s → s.height.toNat = (L.height.toNat - K.length) + 1 + i := by
  obtain ⟨h1, h2, -⟩ := h
  have hw := wantU_nat L.height
  refine ⟨h1.trans hw, fun i s hs => ?_⟩
  have hi : i < K.length := (List.getElem?_eq_some_iff.1 hs).1
  have e1 : (1 : UInt64).toNat = 1 := rfl
  have hlt := L.height.toNat_lt
  have hle : (wantU L.height).toNat ≤ L.height.toNat := by rw [hw]; split <;> omega
  have h8 : (wantU L.height).toNat ≤ 8 := by rw [hw]; split <;> omega
  have e2 : (L.height - wantU L.height).toNat = L.height.toNat - (wantU L.height).toNat := by rw [UInt64.toNat_sub]; omega
  have e3 : (UInt64.ofNat i).toNat = i := by rw [UInt64.toNat_ofNat']; omega
  rw [(h2 i s hs).1, UInt64.toNat_add, UInt64.toNat_add, e1, e2, e3]
  omega
theorem lhL_past (L : PLg) (K : List Summary) : (lhL L K).past = (lhN L K K.length).past := by
  unfold lhL
  split
  · rename_i h
    rw [h]; rfl
  · simp only [rotL]
theorem lhL_at {L : PLg} {K : List Summary} (h : lhOk L K) (j : Nat) (s : Summary) (hs : K[j]? = some s) : ((lhL L K).past.ring[(L.height.toNat - K.length + 1 + j) % 8]'(Nat.mod_lt _ (by decide))) = s := by
  have hh := lh_h h
  have hl : K.length ≤ 8 := by rw [hh.1]; split <;> omega
  simp only [lhL_past]
  exact lhN_ring _ hl hh.2 K.length (Nat.le_refl _) j s (List.getElem?_eq_some_iff.1 hs).1 hs
theorem lhL_now (L : PLg) (K : List Summary) : (lhL L K).st.now = L.st.now ∧ (lhL L K).open_ = L.open_ := by
  unfold lhL
  split
  · exact ⟨rfl, rfl⟩
  · rw [lhN_past]
    simp only [rotL, rootS]
    exact ⟨trivial, trivial⟩
theorem hs_lh {L : PLg} {K : List Summary} (h : lhOk L K) (h0 : L.past.closed = 0) (hc : CohS L.st) (ho : L.open_ = false) : HsI (lhL L K) := by
  have hh := lh_h h
  have hcl := lh_closed h h0
  have hl : K.length ≤ L.height.toNat := by rw [hh.1]; split <;> omega
  have key : ∀ k, 1 ≤ k → k ≤ L.height.toNat → L.height.toNat < k + 8 → ∃ s, K[k - 1 - (L.height.toNat - K.length)]? = some s ∧ ((lhL L K).past.ring[k % 8]'(Nat.mod_lt _ (by decide))) = s ∧ s.height.toNat = k := by
    intro k k1 k2 k3
    have hlt : k - 1 - (L.height.toNat - K.length) < K.length := by
      have := hh.1
      split at this <;> omega
    have hle : L.height.toNat - K.length ≤ k - 1 := by
      have := hh.1
      split at this <;> omega
    have hs : K[k - 1 - (L.height.toNat - K.length)]? = some (K[k - 1 - (L.height.toNat - K.length)]'hlt) := List.getElem?_eq_getElem hlt
    have e : L.height.toNat - K.length + 1 + (k - 1 - (L.height.toNat - K.length)) = k := by omega
    refine ⟨_, hs, ?_, ?_⟩
    · have := lhL_at h _ _ hs
      simp only [e] at this
      exact this
    · have := hh.2 _ _ hs
      rw [e] at this
      exact this
  refine ⟨fun k k1 k2 k3 => ?_, fun q => ?_⟩
  · rw [hcl] at k2 k3
    obtain ⟨s, s1, s2, s3⟩ := key k k1 k2 k3
    rw [s2]
    exact ⟨s3, (h.2.1 _ _ s1).2⟩
  · simp only [hcl] at q ⊢
    obtain ⟨s, s1, s2, s3⟩ := key L.height.toNat (by omega) (Nat.le_refl _) (by omega)
    rw [s2, (lhL_now L K).2, ho, if_neg (by simp), (lhL_now L K).1]
    have e : L.height.toNat - 1 - (L.height.toNat - K.length) = K.length - 1 := by
      have := hh.1
      split at this <;> omega
    rw [e] at s1
    rw [h.2.2 s s1, hc.root]
theorem hs_load {d : PDump} {v : Vector UInt64 4} (h : LdOk d v) : HsI (lhL (ldL d v) d.hist) := by
  obtain ⟨h1, h2, h3, h4, h5⟩ := h
  have hD := ldL_ld d v
  exact hs_lh h5 (by rw [hD.1]; rfl) ((newL_ci d.chain).coh.ch hD.2) (by rw [hD.1]; rfl)
theorem rld_hs {L : PLg} (h : HsI L) (k : Nat) : HsI (rldF L k).2 := by
  unfold rldF
  split
  · exact h
  · split
    · split
      · rename_i q
        exact hs_load q
      · exact h
    · exact h
theorem stpF_hs {n : Nat} {L1 L2 : PLg} {g : GOp} {X : List Tx} (h1 : LI n L1 ∧ CI L1) (s1 : HsI L1) (s2 : HsI L2) (hn : n + X.length + 1 < 10000000) : HsI (stpF L1 L2 g X).2.1 ∧ HsI (stpF L1 L2 g X).2.2 := by
  unfold stpF
  by_cases k15 : g.kind = 15
  · rw [if_pos k15]
    have e : Evs L1 (cloL L1) 0 := Evs.one (Evt.clo L1)
    exact ⟨s1, HsI.evs h1.1 h1.2 s1 e (by omega)⟩
  rw [if_neg k15]
  by_cases k16 : g.kind = 16
  · rw [if_pos k16]
    exact ⟨s2, s1⟩
  rw [if_neg k16]
  by_cases k17 : g.kind = 17
  · rw [if_pos k17]
    exact ⟨rld_hs s1 _, s2⟩
  rw [if_neg k17]
  obtain ⟨m, hm, he⟩ := evs_stpH L1 g X h1.1.dep
  exact ⟨HsI.evs h1.1 h1.2 s1 he (by omega), s2⟩
end Go.Proofs.Qxb6500786aGreat
