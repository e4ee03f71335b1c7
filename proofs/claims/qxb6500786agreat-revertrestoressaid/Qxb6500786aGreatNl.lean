import Derived.DeepKeys2
import Derived.Test.Qxb6500786aGreatNj
import Derived.Test.Qxb6500786aGreatNh

import Derived.StillTailTactics
import Derived.Deep.QuietTactic
import Derived.BigQuiet
import Derived.Deep.RegionHeld
import Derived.Deep.CutRange
import Derived.Laws.ResultCell
import Derived.Laws.Rows
import Derived.DeepKeys
import Derived.DataBytes
import Derived.Laws.StructEq
import Derived.Laws.AppendOwn
import Derived.Laws.MakeOwn
import Derived.Lib.AppendStr
set_option linter.unusedSimpArgs false
set_option linter.unusedVariables false
namespace Go.Proofs.Qxb6500786aGreat
open Go.RowKit Go.Blk
attribute [local go_sem ↓] execOp_load execOp_store execOp_alloc
attribute [local go_sem] Tryz.ld24 Tryz.st24 Tryz.ld36 Tryz.st36 Tryz.ld28 Tryz.st28 Tryz.ld32 Tryz.st32 Tryz.ld33 Tryz.st33 Tryz.ld34 Tryz.st34 Tryz.ld5 Tryz.st5 Tryz.ld31 Tryz.st31 Tryz.ld30 Tryz.st30 Tryz.ld41 Tryz.st41 Tryz.ld44 Tryz.st44 Tryz.ld4 Tryz.st4 Tryz.ld173 Tryz.st173 Tryz.ld174 Tryz.st174 Tryz.ld95 Tryz.st95 Tryz.ld45 Tryz.st45 Tryz.ld207 Tryz.st207 Tryz.ld3 Tryz.st3 Tryz.ld189 Tryz.st189 Tryz.ld2 Tryz.st2 Tryz.ld9 Tryz.st9 Tryz.ld12 Tryz.st12 Tryz.ld21 Tryz.st21 Tryz.ld22 Tryz.st22 Tryz.ld46 Tryz.st46 Tryz.ld92 Tryz.st92 Tryz.ld94 Tryz.st94 Tryz.ld96 Tryz.st96 Tryz.ld97 Tryz.st97 Tryz.ld105 Tryz.st105 Tryz.ld117 Tryz.st117 Tryz.ld122 Tryz.st122 Tryz.ld123 Tryz.st123 Tryz.ld133 Tryz.st133 Tryz.ld155 Tryz.st155 Tryz.ld163 Tryz.st163 Tryz.ld190 Tryz.st190 Tryz.ld197 Tryz.st197 Tryz.ld201 Tryz.st201 Tryz.ld202 Tryz.st202 Tryz.ld209 Tryz.st209 Tryz.ld216 Tryz.st216 Tryz.ld230 Tryz.st230 Tryz.ld238 Tryz.st238 Tryz.ld242 Tryz.st242 Tryz.ld251 Tryz.st251 Tryz.ld260 Tryz.st260 Tryz.ld286 Tryz.st286 Tryz.ld292 Tryz.st292 Tryz.ld298 Tryz.st298 Tryz.ld309 Tryz.st309 Tryz.ld35 Tryz.st35 Tryz.ld48 Tryz.st48 Tryz.ld47 Tryz.st47 Tryz.ld79 Tryz.st79 Tryz.ld177 Tryz.st177 Tryz.ld180 Tryz.st180 Tryz.ld231 Tryz.st231 Tryz.ld232 Tryz.st232 Tryz.ld26 Tryz.st26 Tryz.ld38 Tryz.st38 Tryz.ld40 Tryz.st40 Tryz.ld43 Tryz.st43 Tryz.ld50 Tryz.st50 Tryz.ld52 Tryz.st52 Tryz.ld54 Tryz.st54 Tryz.ld81 Tryz.st81 Tryz.ld112 Tryz.st112 Tryz.ld120 Tryz.st120 Tryz.ld176 Tryz.st176 Tryz.ld179 Tryz.st179 Tryz.ld182 Tryz.st182 Tryz.ld184 Tryz.st184 Tryz.ld234 Tryz.st234 Tryz.ld236 Tryz.st236 Tryz.ld240 Tryz.st240 Tryz.ld246 Tryz.st246 Tryz.ld249 Tryz.st249 Tryz.al35 Tryz.al48 Tryz.al47 Tryz.al79 Tryz.al177 Tryz.al180 Tryz.al231 Tryz.al232 Tryz.al26 Tryz.al38 Tryz.al40 Tryz.al43 Tryz.al50 Tryz.al52 Tryz.al54 Tryz.al81 Tryz.al112 Tryz.al120 Tryz.al176 Tryz.al179 Tryz.al182 Tryz.al184 Tryz.al234 Tryz.al236 Tryz.al240 Tryz.al246 Tryz.al249
attribute [local go_sem] Player.length_enc Player.ok_enc Player.all_get Player.all_set Player.hand_get Player.hand_set Player.aside_get Player.aside_set Message.length_enc Message.ok_enc Message.all_get Message.all_set Message.kind_get Message.kind_set Message.from__get Message.from__set Message.to__get Message.to__set Message.sender_get Message.sender_set Message.receiver_get Message.receiver_set Message.seq_get Message.seq_set Message.token_get Message.token_set Message.amount_get Message.amount_set Message.size_get Message.size_set Message.payload_get Message.payload_set Tx.length_enc Tx.ok_enc Tx.all_get Tx.all_set Tx.kind_get Tx.kind_set Tx.chain_get Tx.chain_set Tx.from__get Tx.from__set Tx.nonce_get Tx.nonce_set Tx.fee_get Tx.fee_set Tx.to__get Tx.to__set Tx.dest_get Tx.dest_set Tx.token_get Tx.token_set Tx.amount_get Tx.amount_set Tx.size_get Tx.size_set Tx.payload_get Tx.payload_set Tx.msg_get Tx.msg_set Tx.msg_kind_get Tx.msg_kind_set Tx.msg_from__get Tx.msg_from__set Tx.msg_to__get Tx.msg_to__set Tx.msg_sender_get Tx.msg_sender_set Tx.msg_receiver_get Tx.msg_receiver_set Tx.msg_seq_get Tx.msg_seq_set Tx.msg_token_get Tx.msg_token_set Tx.msg_amount_get Tx.msg_amount_set Tx.msg_size_get Tx.msg_size_set Tx.msg_payload_get Tx.msg_payload_set GOp.length_enc GOp.ok_enc GOp.all_get GOp.all_set GOp.kind_get GOp.kind_set GOp.tx_get GOp.tx_set GOp.txs_get GOp.txs_set GOp.gas_get GOp.gas_set GOp.acct_get GOp.acct_set GOp.token_get GOp.token_set GOp.chain_get GOp.chain_set GOp.seq_get GOp.seq_set GOp.tx_kind_get GOp.tx_kind_set GOp.tx_chain_get GOp.tx_chain_set GOp.tx_from__get GOp.tx_from__set GOp.tx_nonce_get GOp.tx_nonce_set GOp.tx_fee_get GOp.tx_fee_set GOp.tx_to__get GOp.tx_to__set GOp.tx_dest_get GOp.tx_dest_set GOp.tx_token_get GOp.tx_token_set GOp.tx_amount_get GOp.tx_amount_set GOp.tx_size_get GOp.tx_size_set GOp.tx_payload_get GOp.tx_payload_set GOp.tx_msg_get GOp.tx_msg_set GOp.tx_msg_kind_get GOp.tx_msg_kind_set GOp.tx_msg_from__get GOp.tx_msg_from__set GOp.tx_msg_to__get GOp.tx_msg_to__set GOp.tx_msg_sender_get GOp.tx_msg_sender_set GOp.tx_msg_receiver_get GOp.tx_msg_receiver_set GOp.tx_msg_seq_get GOp.tx_msg_seq_set GOp.tx_msg_token_get GOp.tx_msg_token_set GOp.tx_msg_amount_get GOp.tx_msg_amount_set GOp.tx_msg_size_get GOp.tx_msg_size_set GOp.tx_msg_payload_get GOp.tx_msg_payload_set Summary.length_enc Summary.ok_enc Summary.all_get Summary.all_set Summary.height_get Summary.height_set Summary.txs_get Summary.txs_set Summary.gas_get Summary.gas_set Summary.fees_get Summary.fees_set Summary.sent_get Summary.sent_set Summary.took_get Summary.took_set Summary.minted_get Summary.minted_set Summary.burned_get Summary.burned_set Summary.root_get Summary.root_set Detail.length_enc Detail.ok_enc Detail.all_get Detail.all_set Detail.code_get Detail.code_set Detail.have__get Detail.have__set Detail.need_get Detail.need_set Slot.length_enc Slot.ok_enc Slot.all_get Slot.all_set Slot.nonce_get Slot.nonce_set Slot.balances_get Slot.balances_set Tree.length_enc Tree.ok_enc Tree.all_get Tree.all_set Tree.leaves_get Tree.leaves_set Mark.length_enc Mark.ok_enc Mark.all_get Mark.all_set Mark.from__get Mark.from__set Mark.seq_get Mark.seq_set Receipt.length_enc Receipt.ok_enc Receipt.all_get Receipt.all_set Receipt.code_get Receipt.code_set Receipt.hash_get Receipt.hash_set Receipt.index_get Receipt.index_set Receipt.gas_get Receipt.gas_set Receipt.fee_get Receipt.fee_set Receipt.hasSent_get Receipt.hasSent_set Receipt.sent_get Receipt.sent_set Receipt.hasTook_get Receipt.hasTook_set Receipt.took_get Receipt.took_set Receipt.sent_kind_get Receipt.sent_kind_set Receipt.sent_from__get Receipt.sent_from__set Receipt.sent_to__get Receipt.sent_to__set Receipt.sent_sender_get Receipt.sent_sender_set Receipt.sent_receiver_get Receipt.sent_receiver_set Receipt.sent_seq_get Receipt.sent_seq_set Receipt.sent_token_get Receipt.sent_token_set Receipt.sent_amount_get Receipt.sent_amount_set Receipt.sent_size_get Receipt.sent_size_set Receipt.sent_payload_get Receipt.sent_payload_set Receipt.took_kind_get Receipt.took_kind_set Receipt.took_from__get Receipt.took_from__set Receipt.took_to__get Receipt.took_to__set Receipt.took_sender_get Receipt.took_sender_set Receipt.took_receiver_get Receipt.took_receiver_set Receipt.took_seq_get Receipt.took_seq_set Receipt.took_token_get Receipt.took_token_set Receipt.took_amount_get Receipt.took_amount_set Receipt.took_size_get Receipt.took_size_set Receipt.took_payload_get Receipt.took_payload_set Store.length_enc Store.ok_enc Store.all_get Store.all_set Store.now_get Store.now_set Store.saved_get Store.saved_set GState.length_enc GState.ok_enc GState.all_get GState.all_set GState.kv_get GState.kv_set GState.tree_get GState.tree_set GState.stale_get GState.stale_set GState.touched_get GState.touched_set GState.kv_now_get GState.kv_now_set GState.kv_saved_get GState.kv_saved_set GState.tree_leaves_get GState.tree_leaves_set History.length_enc History.ok_enc History.all_get History.all_set History.ring_get History.ring_set History.closed_get History.closed_set Ledger.length_enc Ledger.ok_enc Ledger.all_get Ledger.all_set Ledger.chain_get Ledger.chain_set Ledger.st_get Ledger.st_set Ledger.height_get Ledger.height_set Ledger.open__get Ledger.open__set Ledger.gasLimit_get Ledger.gasLimit_set Ledger.past_get Ledger.past_set Ledger.begun_get Ledger.begun_set Ledger.sent_get Ledger.sent_set Ledger.took_get Ledger.took_set Ledger.receipts_get Ledger.receipts_set Ledger.st_kv_get Ledger.st_kv_set Ledger.st_tree_get Ledger.st_tree_set Ledger.st_stale_get Ledger.st_stale_set Ledger.st_touched_get Ledger.st_touched_set Ledger.st_kv_now_get Ledger.st_kv_now_set Ledger.st_kv_saved_get Ledger.st_kv_saved_set Ledger.st_tree_leaves_get Ledger.st_tree_leaves_set Ledger.past_ring_get Ledger.past_ring_set Ledger.past_closed_get Ledger.past_closed_set Ledger.begun_kv_get Ledger.begun_kv_set Ledger.begun_tree_get Ledger.begun_tree_set Ledger.begun_stale_get Ledger.begun_stale_set Ledger.begun_touched_get Ledger.begun_touched_set Ledger.begun_kv_now_get Ledger.begun_kv_now_set Ledger.begun_kv_saved_get Ledger.begun_kv_saved_set Ledger.begun_tree_leaves_get Ledger.begun_tree_leaves_set Purse.length_enc Purse.ok_enc Purse.all_get Purse.all_set Purse.st_get Purse.st_set Purse.n_get Purse.n_set Purse.account_get Purse.account_set Purse.token_get Purse.token_set Purse.amount_get Purse.amount_set Plan.length_enc Plan.ok_enc Plan.all_get Plan.all_set Plan.purse_get Plan.purse_set Plan.nonce_get Plan.nonce_set Plan.gasUsed_get Plan.gasUsed_set Plan.fees_get Plan.fees_set Plan.hasSupply_get Plan.hasSupply_set Plan.token_get Plan.token_set Plan.supply_get Plan.supply_set Plan.flowAt_get Plan.flowAt_set Plan.flow_get Plan.flow_set Plan.receipt_get Plan.receipt_set Plan.purse_st_get Plan.purse_st_set Plan.purse_n_get Plan.purse_n_set Plan.purse_account_get Plan.purse_account_set Plan.purse_token_get Plan.purse_token_set Plan.purse_amount_get Plan.purse_amount_set Plan.receipt_code_get Plan.receipt_code_set Plan.receipt_hash_get Plan.receipt_hash_set Plan.receipt_index_get Plan.receipt_index_set Plan.receipt_gas_get Plan.receipt_gas_set Plan.receipt_fee_get Plan.receipt_fee_set Plan.receipt_hasSent_get Plan.receipt_hasSent_set Plan.receipt_sent_get Plan.receipt_sent_set Plan.receipt_hasTook_get Plan.receipt_hasTook_set Plan.receipt_took_get Plan.receipt_took_set Plan.receipt_sent_kind_get Plan.receipt_sent_kind_set Plan.receipt_sent_from__get Plan.receipt_sent_from__set Plan.receipt_sent_to__get Plan.receipt_sent_to__set Plan.receipt_sent_sender_get Plan.receipt_sent_sender_set Plan.receipt_sent_receiver_get Plan.receipt_sent_receiver_set Plan.receipt_sent_seq_get Plan.receipt_sent_seq_set Plan.receipt_sent_token_get Plan.receipt_sent_token_set Plan.receipt_sent_amount_get Plan.receipt_sent_amount_set Plan.receipt_sent_size_get Plan.receipt_sent_size_set Plan.receipt_sent_payload_get Plan.receipt_sent_payload_set Plan.receipt_took_kind_get Plan.receipt_took_kind_set Plan.receipt_took_from__get Plan.receipt_took_from__set Plan.receipt_took_to__get Plan.receipt_took_to__set Plan.receipt_took_sender_get Plan.receipt_took_sender_set Plan.receipt_took_receiver_get Plan.receipt_took_receiver_set Plan.receipt_took_seq_get Plan.receipt_took_seq_set Plan.receipt_took_token_get Plan.receipt_took_token_set Plan.receipt_took_amount_get Plan.receipt_took_amount_set Plan.receipt_took_size_get Plan.receipt_took_size_set Plan.receipt_took_payload_get Plan.receipt_took_payload_set Move.length_enc Move.ok_enc Move.all_get Move.all_set Move.account_get Move.account_set Move.token_get Move.token_set Move.down_get Move.down_set Move.amount_get Move.amount_set Books.length_enc Books.ok_enc Books.all_get Books.all_set Books.sums_get Books.sums_set Books.stored_get Books.stored_set Books.marks_get Books.marks_set Pair.length_enc Pair.ok_enc Pair.all_get Pair.all_set Pair.key_get Pair.key_set Pair.value_get Pair.value_set
attribute [local go_sem] size_put size_ext blk_put free_put blk_alloc free_alloc blk_drew free_drew blk_ext free_ext lookOr_some putOr_some segAt_some cellAt_some storeIn_some put_put put_alloc_new length_arr ok_arr_u8 ok_arr_u32 ok_arr_u64 ok_arr_i64 ok_arr_sl cellsV_agg cellsV_int cellsV_bool cellsV_string cellsV_pointer cellsV_slice cellsV_sl ok_int ok_bool ok_string ok_pointer ok_slice ok_sl toList_arr seg_arr set_arr nth_splice nth_splice0 seg_splice seg_splice0 splice_splice splice_splice0 length_splice_if
attribute [local go_sem ↓] execOp_box
attribute [local go_sem] box_run nth_arr_u8 put_arr_u8 blk_drewN free_drewN put_drewN blk_raw free_raw
/-- Insertion sort, plainly. -/
def insAt {α : Type} (bef : α → α → Bool) (m : α) (S : List α) : Nat → Nat
  | 0 => 0
  | n + 1 => match S[n]? with
    | some e => if bef m e = true then insAt bef m S n else n + 1
    | none => n + 1
def insS {α : Type} (bef : α → α → Bool) (m : α) (S : List α) : List α := S.take (insAt bef m S S.length) ++ m :: S.drop (insAt bef m S S.length)
def srtN {α : Type} (bef : α → α → Bool) (K : List α) : Nat → List α
  | 0 => []
  | n + 1 => match K[n]? with
    | some m => insS bef m (srtN bef K n)
    | none => srtN bef K n
def srtF {α : Type} (bef : α → α → Bool) (K : List α) : List α := srtN bef K K.length
theorem insAt_le {α : Type} (bef : α → α → Bool) (m : α) (S : List α) : ∀ n, insAt bef m S n ≤ n
  | 0 => Nat.le_refl _
  | n + 1 => by
    unfold insAt
    cases S[n]? with
    | none => exact Nat.le_refl _
    | some e =>
      dsimp only
      split
      · exact Nat.le_succ_of_le (insAt_le bef m S n)
      · exact Nat.le_refl _
theorem insS_len {α : Type} (bef : α → α → Bool) (m : α) (S : List α) : (insS bef m S).length = S.length + 1 := by
  unfold insS
  rw [List.length_append, List.length_cons, List.length_take, List.length_drop]
  have := insAt_le bef m S S.length
  omega
theorem srtN_len {α : Type} (bef : α → α → Bool) (K : List α) : ∀ n, n ≤ K.length → (srtN bef K n).length = n
  | 0, _ => rfl
  | n + 1, h => by
    unfold srtN
    rw [List.getElem?_eq_getElem (by omega)]
    dsimp only
    rw [insS_len, srtN_len bef K n (by omega)]
theorem srtN_succ {α : Type} {bef : α → α → Bool} {K : List α} {n : Nat} {m : α} (h : K[n]? = some m) : srtN bef K (n + 1) = insS bef m (srtN bef K n) := by
  show (match K[n]? with | some m => insS bef m (srtN bef K n) | none => srtN bef K n) = _
  rw [h]
theorem insAt_step {α : Type} {bef : α → α → Bool} {m : α} {S : List α} {n : Nat} {e : α} (h : S[n]? = some e) : insAt bef m S (n + 1) = if bef m e = true then insAt bef m S n else n + 1 := by
  show (match S[n]? with | some e => if bef m e = true then insAt bef m S n else n + 1 | none => n + 1) = _
  rw [h]
/-- The hole goes one to the left. -/
theorem hole_step {α : Type} {S R : List α} {j : Nat} {e y : α} (h : S[j]? = some e) : (S.take (j + 1) ++ y :: (S.drop (j + 1) ++ R)).set (j + 1) e = S.take j ++ e :: (S.drop j ++ R) := by
  obtain ⟨h1, h2⟩ := List.getElem?_eq_some_iff.1 h
  have e1 : S.take (j + 1) = S.take j ++ [e] := by rw [← List.take_append_getElem h1, h2]
  have e2 : S.drop j = e :: S.drop (j + 1) := by rw [List.drop_eq_getElem_cons h1, h2]
  have l1 : (S.take (j + 1)).length = j + 1 := by rw [List.length_take]; omega
  rw [List.set_append_right _ _ (by omega), l1, Nat.sub_self, List.set_cons_zero, e1, e2]
  simp
theorem hole_end {α : Type} {S R : List α} {j : Nat} {m y : α} (h : j ≤ S.length) : (S.take j ++ y :: (S.drop j ++ R)).set j m = (S.take j ++ m :: S.drop j) ++ R := by
  have l1 : (S.take j).length = j := by rw [List.length_take]; omega
  rw [List.set_append_right _ _ (by omega), l1, Nat.sub_self, List.set_cons_zero]
  simp
theorem hole_at {α : Type} {S R : List α} {j : Nat} {y : α} (h : j + 1 ≤ S.length) : (S.take (j + 1) ++ y :: (S.drop (j + 1) ++ R))[j]? = S[j]? := by
  rw [List.getElem?_append_left (by rw [List.length_take]; omega), List.getElem?_take_of_lt (by omega)]
theorem take_splice {C v : List Value} {o N : Nat} (h1 : o + v.length ≤ N) (h2 : N ≤ C.length) : (splice C o v).take N = splice (C.take N) o v := by
  unfold splice
  rw [List.take_append, List.take_append, List.take_take, List.take_take, Nat.min_eq_left (by omega : o ≤ N), Nat.min_comm N o, Nat.min_eq_left (by omega : o ≤ N), List.drop_take]
  have l1 : (C.take o).length = o := by rw [List.length_take]; omega
  rw [List.length_append, l1, List.take_of_length_le (by omega : v.length ≤ N - o)]
section
variable {α : Type} {en : α → List Value} {sz bytes : Nat} {t e : TypeId} {W V V' : World} {c g n : Nat} {K : List α}
/-- An element of one's own row is written. -/
theorem OutG.set {g n : Nat} (hln : ∀ x, (en x).length = sz) (h : OutG en sz e W V (some ⟨g, 0, none⟩) n c K) {C : List Value} (hC : blk V g = some C) {i : Nat} (hi : i < K.length) (x : α) : OutG en sz e W (put V g (splice C (i * sz) (en x))) (some ⟨g, 0, none⟩) n c (K.set i x) := by
  obtain ⟨⟨h1, h2⟩, he, hn⟩ := h
  rcases h2 with ⟨e1, -⟩ | ⟨g', cap, cur, e1, hb, hh, hc, hm, hs, hx⟩
  · cases e1
  · injection e1 with e2 e3 e4
    injection e2 with e2
    injection e2 with e2
    subst e2
    subst e4
    have hC2 : C = cur.toList := by
      have : blk V g = some cur.toList := by
        unfold blk
        rw [hh]
      rw [this] at hC
      exact (Option.some.inj hC).symm
    have hlx : (en x).length = sz := hln x
    have hle : i * sz + sz ≤ K.length * sz := by rw [← Nat.succ_mul]; exact Nat.mul_le_mul_right _ hi
    have hKc : K.length * sz ≤ c * sz := Nat.mul_le_mul_right _ (by omega)
    have hCl : C.length = c * sz := by rw [hC2, Array.length_toList, hs]
    have hsl : (splice C (i * sz) (en x)).length = C.length := length_splice _ _ _ (by omega)
    refine ⟨⟨?_, .inr ⟨g, c, (splice C (i * sz) (en x)).toArray, ?_, hb, ?_, by rw [List.length_set]; omega, hm, ?_, ?_⟩⟩, extends_put he hb _, by rw [List.length_set]; exact hn⟩
    · rw [flat_len hln]
    · rw [List.length_set, ← hn]
    · rw [heap_put, if_pos rfl, hh]
      rfl
    · rw [List.size_toArray, hsl, hCl]
    · rw [List.toList_toArray, List.length_set, ← flat_put hln K i hi x, ← hx, ← hC2]
      exact take_splice (by omega) (by omega)
theorem OutG.own (h : OutG en sz e W V (some ⟨g, 0, none⟩) n c K) : W.heap.size ≤ g ∧ free V g = true ∧ n ≤ c := by
  obtain ⟨⟨h1, h2⟩, he, hn⟩ := h
  rcases h2 with ⟨e1, -⟩ | ⟨g', cap, cur, e1, hb, hh, hc, hm, hs, hx⟩
  · cases e1
  · injection e1 with e2 e3 e4
    injection e2 with e2
    injection e2 with e2
    subst e2
    subst e4
    refine ⟨hb, ?_, by omega⟩
    unfold free
    rw [hh]
    rfl
end
theorem blk_lt_free {V : World} {g : Nat} (h : free V g = true) : g < V.heap.size := by
  unfold free at h
  by_cases e : g < V.heap.size
  · exact e
  · rw [Array.getElem?_eq_none (by omega)] at h
    cases h
theorem info240x : ∃ i z, Tryz.prog.info? 240 = some i ∧ i.zero = some z ∧ i.size = 4 ∧ i.bytes = 16 ∧ z.cells.size = 4 := by
  have hq : (Tryz.prog.info? 240).map (fun i => (i.zero, i.size, i.bytes)) = some (some (.agg Move.zero.enc.toArray), 4, 16) := by kernel_rfl
  cases hx : Tryz.prog.info? 240 with
  | none => rw [hx] at hq; simp at hq
  | some i =>
    rw [hx] at hq
    simp only [Option.map_some, Option.some.injEq, Prod.mk.injEq] at hq
    exact ⟨i, _, rfl, hq.1, hq.2.1, hq.2.2, by show Move.zero.enc.toArray.size = 4; rw [List.size_toArray]; exact Move.length_enc _⟩
theorem und46x : Tryz.prog.underlying 46 = some (.slice 240) := by kernel_rfl
theorem elMove : ElT Move.enc 4 16 46 240 := ⟨und46x, info240x, Move.length_enc, Move.one_enc, by omega, by omega⟩
theorem info112x : ∃ i z, Tryz.prog.info? 112 = some i ∧ i.zero = some z ∧ i.size = 2 ∧ i.bytes = 16 ∧ z.cells.size = 2 := by
  have hq : (Tryz.prog.info? 112).map (fun i => (i.zero, i.size, i.bytes)) = some (some (.agg Mark.zero.enc.toArray), 2, 16) := by kernel_rfl
  cases hx : Tryz.prog.info? 112 with
  | none => rw [hx] at hq; simp at hq
  | some i =>
    rw [hx] at hq
    simp only [Option.map_some, Option.some.injEq, Prod.mk.injEq] at hq
    exact ⟨i, _, rfl, hq.1, hq.2.1, hq.2.2, by show Mark.zero.enc.toArray.size = 2; rw [List.size_toArray]; exact Mark.length_enc _⟩
theorem und94x : Tryz.prog.underlying 94 = some (.slice 112) := by kernel_rfl
theorem elMark : ElT Mark.enc 2 16 94 112 := ⟨und94x, info112x, Mark.length_enc, Mark.one_enc, by omega, by omega⟩
theorem info50x : ∃ i z, Tryz.prog.info? 50 = some i ∧ i.zero = some z ∧ i.size = 46 ∧ i.bytes = 144 ∧ z.cells.size = 46 := by
  have hq : (Tryz.prog.info? 50).map (fun i => (i.zero, i.size, i.bytes)) = some (some (.agg Summary.zero.enc.toArray), 46, 144) := by kernel_rfl
  cases hx : Tryz.prog.info? 50 with
  | none => rw [hx] at hq; simp at hq
  | some i =>
    rw [hx] at hq
    simp only [Option.map_some, Option.some.injEq, Prod.mk.injEq] at hq
    exact ⟨i, _, rfl, hq.1, hq.2.1, hq.2.2, by show Summary.zero.enc.toArray.size = 46; rw [List.size_toArray]; exact Summary.length_enc _⟩
theorem und96x : Tryz.prog.underlying 96 = some (.slice 50) := by kernel_rfl
theorem elSummary : ElT Summary.enc 46 144 96 50 := ⟨und96x, info50x, Summary.length_enc, Summary.one_enc, by omega, by omega⟩
set_option maxRecDepth 100000 in
theorem frame41q (f : Nat → Value) : frameN 41 f = #[f 0, f 1, f 2, f 3, f 4, f 5, f 6, f 7, f 8, f 9, f 10, f 11, f 12, f 13, f 14, f 15, f 16, f 17, f 18, f 19, f 20, f 21, f 22, f 23, f 24, f 25, f 26, f 27, f 28, f 29, f 30, f 31, f 32, f 33, f 34, f 35, f 36, f 37, f 38, f 39, f 40] := by kernel_rfl
/-- The order of Moves. -/
def mvB (x y : Move) : Bool := if w8 x.account = w8 y.account then decide (w8 x.token < w8 y.token) else decide (w8 x.account < w8 y.account)
set_option maxRecDepth 20000 in
theorem mv_any (W : World) (x y : Move) : Calls Tryz.prog 215 #[.agg x.enc.toArray, .agg y.enc.toArray] W fun e V => e = .returned (.bool (mvB x y)) ∧ W.Extends V := by
  have HX : Hid (W.Extends ((W.alloc (.cells x.enc.toArray 240)).alloc (.cells y.enc.toArray 240))) := extends_alloc (extends_alloc (ext_Ext (Ext.refl _)) _) _
  by_cases h1 : w8 x.account = w8 y.account
  · by_cases h2 : w8 x.token < w8 y.token
    · rw [show mvB x y = true by unfold mvB; rw [if_pos h1]; exact decide_eq_true h2]
      have h1b : (w8 x.account != w8 y.account) = false := by simp [h1]
      go_enter Tryz.func215, Tryz.ntmps215
      go_wp2_with fail
      try (first | go_ret | go_ret2 | go_ret3 | go_end0)
      exact ⟨rfl, HX.out⟩
    · rw [show mvB x y = false by unfold mvB; rw [if_pos h1]; exact decide_eq_false h2]
      have h1b : (w8 x.account != w8 y.account) = false := by simp [h1]
      go_enter Tryz.func215, Tryz.ntmps215
      go_wp2_with fail
      try (first | go_ret | go_ret2 | go_ret3 | go_end0)
      exact ⟨rfl, HX.out⟩
  · have h1b : (w8 x.account != w8 y.account) = true := by simp [h1]
    by_cases h2 : w8 x.account < w8 y.account
    · rw [show mvB x y = true by unfold mvB; rw [if_neg h1]; exact decide_eq_true h2]
      go_enter Tryz.func215, Tryz.ntmps215
      go_wp2_with fail
      try (first | go_ret | go_ret2 | go_ret3 | go_end0)
      exact ⟨rfl, HX.out⟩
    · rw [show mvB x y = false by unfold mvB; rw [if_neg h1]; exact decide_eq_false h2]
      go_enter Tryz.func215, Tryz.ntmps215
      go_wp2_with fail
      try (first | go_ret | go_ret2 | go_ret3 | go_end0)
      exact ⟨rfl, HX.out⟩
/-- What sorting may touch. -/
def Somv (W V : World) (g n c : Nat) (K : List Move) (V' : World) : Prop := OutG Move.enc 4 240 W V' (some ⟨g, 0, none⟩) n c K ∧ Wb g V V'
def omvI (W V0 : World) (g n c : Nat) (K : List Move) (F : Nat → Value) (V : World) : Prop := F 0 = .slice (some ⟨g, 0, none⟩) n c ∧ ∃ i : Nat, 1 ≤ i ∧ F 2 = .int .i64 (i : Nat) ∧ Hid (i ≤ n ∧ Somv W V0 g n c (srtN mvB K i ++ K.drop i) V)
def Nmv (W V0 : World) (g n c bm : Nat) (K : List Move) (m : Move) (i j : Nat) (V : World) : Prop := j ≤ i ∧ blk V bm = some m.enc ∧ insAt mvB m (srtN mvB K i) i = insAt mvB m (srtN mvB K i) j ∧ ∃ y, Somv W V0 g n c ((srtN mvB K i).take j ++ y :: ((srtN mvB K i).drop j ++ K.drop (i + 1))) V
def imvI (W V0 : World) (g n c bm : Nat) (K : List Move) (m : Move) (i : Nat) (F : Nat → Value) (V : World) : Prop := F 0 = .slice (some ⟨g, 0, none⟩) n c ∧ F 2 = .int .i64 (i : Nat) ∧ F 3 = .pointer (some ⟨bm, 0, none⟩) ∧ ∃ j : Nat, F 4 = .int .i64 (j : Nat) ∧ Hid (Nmv W V0 g n c bm K m i j V)
set_option maxRecDepth 20000 in
set_option maxHeartbeats 1000000 in
theorem mvSort_any (W V : World) (a : Option Addr) (n c : Nat) (K : List Move) (h : OutG Move.enc 4 240 W V a n c K) (hn : n ≤ 1000000000) : Calls Tryz.prog 145 #[.slice a n c] V fun e V' => e = .returned (.tuple #[]) ∧ OutG Move.enc 4 240 W V' a n c (srtF mvB K) ∧ ∀ k C, blk V k = some C → (Value.slice a n c).ownBlock ≠ some k → blk V' k = some C ∧ (free V k = true → free V' k = true) := by
  obtain ⟨Q, hQ⟩ : ∃ Q : Ending → World → Prop, Q = fun e V' => e = .returned (.tuple #[]) ∧ OutG Move.enc 4 240 W V' a n c (srtF mvB K) ∧ ∀ k C, blk V k = some C → (Value.slice a n c).ownBlock ≠ some k → blk V' k = some C ∧ (free V k = true → free V' k = true) := ⟨_, rfl⟩
  rw [← hQ]
  have HQ := hid_of hQ
  clear hQ
  by_cases h0 : n = 0
  · have hK : K = [] := List.length_eq_zero_iff.1 (by rw [← h.2.2]; exact h0)
    subst hK
    have HP : Hid (Q (.returned (.tuple #[])) V) := by
      show Q _ _
      rw [HQ.out]
      exact ⟨rfl, h, fun k C hk _ => ⟨hk, fun q => q⟩⟩
    subst h0
    clear h HQ
    go_enter Tryz.func145, Tryz.ntmps145
    go_wp2_with fail
    refine wp_loop_f 41 (fun F U => F 0 = .slice a 0 c ∧ F 2 = .int .i64 1 ∧ U = V) (fun f _ => 0) rfl ⟨rfl, rfl, rfl⟩ ?_
    intro F U hrel
    obtain ⟨f0, f2, rfl⟩ := hrel
    rw [frame41q, f0, f2]
    clear f0 f2
    go_wp2_with fail
    try (first | go_ret | go_ret2 | go_ret3 | go_end0)
    exact HP.out
  have hKn : K.length = n := h.2.2.symm
  obtain ⟨g, hg⟩ : ∃ g, a = some ⟨g, 0, none⟩ := by
    obtain ⟨⟨h1, h2⟩, -, -⟩ := h
    rcases h2 with ⟨e1, e2⟩ | ⟨g, cap, cur, e1, -⟩
    · omega
    · injection e1 with e2 e3 e4
      exact ⟨g, e2⟩
  subst hg
  obtain ⟨k0, hk0⟩ : ∃ k0, K[0]? = some k0 := ⟨_, List.getElem?_eq_getElem (by omega)⟩
  have HI0 : Hid (1 ≤ n ∧ Somv W V g n c (srtN mvB K 1 ++ K.drop 1) V) := by
    refine ⟨by omega, ?_, Wb.refl _ _⟩
    have e1 : srtN mvB K 1 ++ K.drop 1 = K := by
      have e2 : srtN mvB K 1 = [k0] := by
        rw [srtN_succ hk0]; rfl
      rw [e2]
      obtain ⟨g1, g2⟩ := List.getElem?_eq_some_iff.1 hk0
      rw [show [k0] ++ K.drop 1 = K.drop 0 by rw [List.drop_eq_getElem_cons g1, g2]; rfl]; rfl
    rw [e1]; exact h
  have HN : Hid (n ≠ 0 ∧ n ≤ 1000000000 ∧ K.length = n) := ⟨h0, hn, hKn⟩
  clear h h0 hn hKn hk0
  go_enter Tryz.func145, Tryz.ntmps145
  go_wp2_with fail
  refine wp_loop_f 41 (omvI W V g n c K) (fun f _ => n - (intOf (f 2)).toNat) rfl ⟨rfl, 1, Nat.le_refl _, rfl, HI0⟩ ?_
  clear HI0
  intro F U hrel
  obtain ⟨f0, i, hi1, f2, HI⟩ := hrel
  have H2 := hid_of f2
  rw [frame41q, f0, f2]
  clear f0 f2
  obtain ⟨hin, hS, hW⟩ := HI.out
  clear HI
  by_cases hlt : i < n
  rotate_left 1
  · have HP : Hid (Q (.returned (.tuple #[])) U) := by
      show Q _ _
      rw [HQ.out]
      have e1 : i = n := by omega
      subst e1
      have hk := HN.out.2.2
      rw [List.drop_of_length_le (by omega), List.append_nil] at hS
      refine ⟨rfl, by unfold srtF; rw [hk]; exact hS, fun k C hk2 hne => ?_⟩
      have hne2 : k ≠ g := fun e => hne (by rw [e]; rfl)
      exact ⟨hW.blk hk2 hne2, fun q => hW.free hk2 q hne2⟩
    have hlt' : ¬ (i : Int) < (n : Int) := by omega
    clear hS hW hin hlt H2 HQ
    go_wp2_with fail
    try (first | go_ret | go_ret2 | go_ret3 | go_end0)
    exact HP.out
  have hlt' : (i : Int) < (n : Int) := by omega
  have hi9 : (i : Int) + 1 ≤ 1000000001 := by have := HN.out.2.1; omega
  obtain ⟨m, hm⟩ : ∃ m, K[i]? = some m := ⟨_, List.getElem?_eq_getElem (by have := HN.out.2.2; omega)⟩
  have hsl : (srtN mvB K i).length = i := srtN_len _ _ _ (by have := HN.out.2.2; omega)
  have hat : (srtN mvB K i ++ K.drop i)[i]? = some m := by
    rw [List.getElem?_append_right (by omega), hsl, Nat.sub_self, List.getElem?_drop, Nat.add_zero]; exact hm
  obtain ⟨b', C, ha, kb, hbl, hsg⟩ := (hS.rw elMove).2 _ _ hat
  injection ha with ha
  injection ha with ha
  subst ha
  have p0 : (0 : Int) ≤ (i : Int) := by omega
  have p2 : ((i : Int)).toNat = i := by omega
  have g1 : i * 4 + 4 ≤ C.length := Nat.le_trans (by rw [← Nat.succ_mul]; exact Nat.mul_le_mul_right _ hlt) hbl
  obtain ⟨bm, hbm⟩ : ∃ bm, bm = U.heap.size := ⟨_, rfl⟩
  obtain ⟨U1, hU1⟩ : ∃ U1 : World, U1 = U.alloc (.cells m.enc.toArray 240) := ⟨_, rfl⟩
  have hx1 : U.Extends U1 := by rw [hU1]; exact extends_alloc (ext_Ext (Ext.refl _)) _
  have km1 : blk U1 bm = some m.enc := by rw [hU1, hbm, blk_alloc, if_pos rfl]
  have hgb : g ≠ bm := by rw [hbm]; exact Nat.ne_of_lt (blk_lt kb)
  have hdr : K.drop i = m :: K.drop (i + 1) := by
    obtain ⟨g1, g2⟩ := List.getElem?_eq_some_iff.1 hm
    rw [List.drop_eq_getElem_cons g1, g2]
  have HI1 : Hid (Nmv W V g n c bm K m i i U1) := by
    refine ⟨Nat.le_refl _, km1, rfl, m, ?_, hW.trans (Wb.of hx1)⟩
    rw [List.take_of_length_le (by omega), List.drop_of_length_le (by omega), List.nil_append, ← hdr]
    exact hS.ext hx1
  have HM : Hid (i < n ∧ K[i]? = some m ∧ (srtN mvB K i).length = i ∧ g ≠ bm ∧ W.heap.size ≤ bm) := ⟨hlt, hm, hsl, hgb, by rw [hbm]; exact hS.2.1.size⟩
  have HU1 := hid_of hU1
  have HBM := hid_of hbm
  clear hS hW hin hlt hm hsl hat hbl hx1 km1 hdr hU1 hbm
  go_upto_region 4 with fail
  rw [← HU1.out, ← HBM.out]
  clear HU1 HBM
  go_wp2_with fail
  refine wp_loop_f 41 (imvI W V g n c bm K m i) (fun f _ => (intOf (f 4)).toNat) rfl ⟨rfl, rfl, rfl, i, rfl, HI1⟩ ?_
  clear HI1 kb hsg g1 C hgb
  intro F2 U2 hrel
  obtain ⟨f0, f2, f3, j, f4, HI⟩ := hrel
  have H4 := hid_of f4
  rw [frame41q, f0, f2, f3, f4]
  clear f0 f2 f3 f4
  obtain ⟨hji, km, hins, y0, hS, hW⟩ := HI.out
  clear HI
  have hlen : ((srtN mvB K i).take j ++ y0 :: ((srtN mvB K i).drop j ++ K.drop (i + 1))).length = n := hS.2.2.symm
  have hsl := HM.out.2.2.1
  obtain ⟨yj, hyj⟩ : ∃ y, ((srtN mvB K i).take j ++ y0 :: ((srtN mvB K i).drop j ++ K.drop (i + 1)))[j]? = some y := ⟨_, List.getElem?_eq_getElem (by have := HM.out.1; omega)⟩
  obtain ⟨b', C, ha, kb, hbl, -⟩ := (hS.rw elMove).2 _ _ hyj
  injection ha with ha
  injection ha with ha
  subst ha
  have hfg := hS.own.2.1
  have hjn : j < n := by have := HM.out.1; omega
  have gj : j * 4 + 4 ≤ C.length := Nat.le_trans (by rw [← Nat.succ_mul]; exact Nat.mul_le_mul_right _ hjn) hbl
  have jn' : (j : Int) < (n : Int) := by omega
  have j0 : (0 : Int) ≤ (j : Int) := by omega
  have j2 : ((j : Int)).toNat = j := by omega
  have hgm : ¬ bm = g := fun e => HM.out.2.2.2.1 e.symm
  -- writing m and going on with the next round
  have HEND : Hid (insAt mvB m (srtN mvB K i) i = j → ∀ V9, U2.Extends V9 → i + 1 ≤ n ∧ Somv W V g n c (srtN mvB K (i + 1) ++ K.drop (i + 1)) (put V9 g (splice C (j * 4) m.enc))) := by
    intro hq V9 h9
    refine ⟨HM.out.1, ?_, (hW.trans (Wb.of h9)).put _⟩
    have e1 := (hS.ext h9).set Move.length_enc ((h9.blk (blk_lt kb)).trans kb) (i := j) (by omega) m
    rw [hole_end (by omega)] at e1
    have e2 : srtN mvB K (i + 1) = (srtN mvB K i).take j ++ m :: (srtN mvB K i).drop j := by
      rw [srtN_succ HM.out.2.1]
      unfold insS
      rw [hsl, hq]
    rw [e2]
    exact e1
  by_cases hj0 : j = 0
  · subst hj0
    have HE := hid_of (HEND.out hins)
    have q0 := km
    clear HEND hS hW hins hyj hlen hji hsl
    go_upto_region 5 with fail
    repeat go_step
    refine wp_region_F 10 (fun W' => blk W' bm = some m.enc) (by kernel_rfl) q0 (fun hHeld => ?_)
    refine wpAnyF_take (i := 0) (oi := ⟨_, _, _, _, _, _⟩) (v := ?_) rfl (by kernel_rfl) (by kernel_rfl) (by kernel_rfl) (by kernel_rfl) (by kernel_rfl) (fun _ _ _ h => h) (Or.inl ⟨by rfl, ?_⟩) (by assumption) ?_
    rotate_left 1
    · intro W' hSw
      go_simp
      try with_reducible rfl
    try simp only [Act.put, List.setIfInBounds_toArray, List.set_cons_zero, List.set_cons_succ]
    refine wpAnyF_take (i := 1) (oi := ⟨_, _, _, _, _, _⟩) (v := ?_) rfl (by kernel_rfl) (by kernel_rfl) (by kernel_rfl) (by kernel_rfl) (by kernel_rfl) (fun _ _ _ h => h) (Or.inl ⟨by rfl, ?_⟩) (by assumption) ?_
    rotate_left 1
    · intro W' hSw
      go_simp
      try with_reducible rfl
    try simp only [Act.put, List.setIfInBounds_toArray, List.set_cons_zero, List.set_cons_succ]
    refine wpAnyF_take (i := 2) (oi := ⟨_, _, _, _, _, _⟩) (v := ?_) rfl (by kernel_rfl) (by kernel_rfl) (by kernel_rfl) (by kernel_rfl) (by kernel_rfl) (fun _ _ _ h => h) (Or.inl ⟨by rfl, ?_⟩) (by assumption) ?_
    rotate_left 1
    · intro W' hSw
      go_simp
      try with_reducible rfl
    try simp only [Act.put, List.setIfInBounds_toArray, List.set_cons_zero, List.set_cons_succ]
    refine wpAnyF_take (i := 3) (oi := ⟨_, _, _, _, _, _⟩) (v := undef) rfl (by kernel_rfl) (by kernel_rfl) (by kernel_rfl) (by kernel_rfl) (by kernel_rfl) (fun _ _ _ h => h) (Or.inr ⟨by rfl, rfl⟩) (by assumption) ?_
    try simp only [Act.put, List.setIfInBounds_toArray, List.set_cons_zero, List.set_cons_succ]
    refine wpAnyF_take (i := 4) (oi := ⟨_, _, _, _, _, _⟩) (v := undef) rfl (by kernel_rfl) (by kernel_rfl) (by kernel_rfl) (by kernel_rfl) (by kernel_rfl) (fun _ _ _ h => h) (Or.inr ⟨by rfl, rfl⟩) (by assumption) ?_
    try simp only [Act.put, List.setIfInBounds_toArray, List.set_cons_zero, List.set_cons_succ]
    refine wpAnyF_take (i := 5) (oi := ⟨_, _, _, _, _, _⟩) (v := undef) rfl (by kernel_rfl) (by kernel_rfl) (by kernel_rfl) (by kernel_rfl) (by kernel_rfl) (fun _ _ _ h => h) (Or.inr ⟨by rfl, rfl⟩) (by assumption) ?_
    try simp only [Act.put, List.setIfInBounds_toArray, List.set_cons_zero, List.set_cons_succ]
    refine wpAnyF_take (i := 6) (oi := ⟨_, _, _, _, _, _⟩) (v := undef) rfl (by kernel_rfl) (by kernel_rfl) (by kernel_rfl) (by kernel_rfl) (by kernel_rfl) (fun _ _ _ h => h) (Or.inr ⟨by rfl, rfl⟩) (by assumption) ?_
    try simp only [Act.put, List.setIfInBounds_toArray, List.set_cons_zero, List.set_cons_succ]
    refine wpAnyF_take (i := 7) (oi := ⟨_, _, _, _, _, _⟩) (v := undef) rfl (by kernel_rfl) (by kernel_rfl) (by kernel_rfl) (by kernel_rfl) (by kernel_rfl) (fun _ _ _ h => h) (Or.inr ⟨by rfl, rfl⟩) (by assumption) ?_
    try simp only [Act.put, List.setIfInBounds_toArray, List.set_cons_zero, List.set_cons_succ]
    refine wpAnyF_take (i := 8) (oi := ⟨_, _, _, _, _, _⟩) (v := undef) rfl (by kernel_rfl) (by kernel_rfl) (by kernel_rfl) (by kernel_rfl) (by kernel_rfl) (fun _ _ _ h => h) (Or.inr ⟨by rfl, rfl⟩) (by assumption) ?_
    try simp only [Act.put, List.setIfInBounds_toArray, List.set_cons_zero, List.set_cons_succ]
    refine wpAnyF_take (i := 9) (oi := ⟨_, _, _, _, _, _⟩) (v := undef) rfl (by kernel_rfl) (by kernel_rfl) (by kernel_rfl) (by kernel_rfl) (by kernel_rfl) (fun _ _ _ h => h) (Or.inr ⟨by rfl, rfl⟩) (by assumption) ?_
    try simp only [Act.put, List.setIfInBounds_toArray, List.set_cons_zero, List.set_cons_succ]
    refine wpAnyF_last (o := ⟨_, _, _, _, _, _⟩) (by kernel_rfl) rfl (fun K' hK => ?_)
    go_simp
    refine hK.out _ _ ?_
    clear hK K'
    try simp only [Act.put, List.setIfInBounds_toArray, List.set_cons_zero, List.set_cons_succ]
    refine wpAnyF_done (by kernel_rfl) ?_ _

    clear hHeld
    have HE2 := hid_of (HE.out U2.drew (extends_drewN (ext_Ext (Ext.refl _)) 1))
    clear HE
    have kbd : blk U2.drew g = some C := kb
    have qm : blk U2.drew bm = some m.enc := q0
    have fgd : free U2.drew g = true := hfg
    go_wp2_with fail
    refine ⟨rfl, rfl, ⟨rfl, i + 1, by omega, ?_, HE2⟩, ?_⟩
    · rfl
    · show n - ((i : Int) + 1).toNat < n - (intOf (F 2)).toNat
      rw [H2.out]
      show n - (i + 1) < n - i
      have := HM.out.1
      omega
  obtain ⟨k, rfl⟩ : ∃ k, j = k + 1 := ⟨j - 1, by omega⟩
  obtain ⟨y, hy⟩ : ∃ y, (srtN mvB K i)[k]? = some y := ⟨_, List.getElem?_eq_getElem (by omega)⟩
  have hyk := (hole_at (S := srtN mvB K i) (R := K.drop (i + 1)) (j := k) (y := y0) (by omega)).trans hy
  obtain ⟨b', C', ha, kb', hbl', hsg⟩ := (hS.rw elMove).2 _ _ hyk
  injection ha with ha
  injection ha with ha
  subst ha
  have eC : C' = C := Option.some.inj (kb'.symm.trans kb)
  subst eC
  clear kb' hbl'
  have k0' : (0 : Int) < ((k + 1 : Nat) : Int) := by omega
  have kw : IntKind.i64.wrap (((k + 1 : Nat) : Int) - 1) = (k : Int) := by rw [IntKind.wrap_i64]; have := HN.out.2.1; omega
  have kk0 : (0 : Int) ≤ (k : Int) := by omega
  have kw2 : IntKind.i64.wrap (k : Int) = (k : Int) := by rw [IntKind.wrap_i64]; have := HN.out.2.1; omega
  have HKW := hid_of kw
  have kk1 : (k : Int) < (n : Int) := by omega
  have kk2 : ((k : Int)).toNat = k := by omega
  have gk : k * 4 + 4 ≤ C'.length := by omega
  have q0 := km
  have q3 := kb
  have HX8 : Hid (U2.Extends U2.drew) := extends_drewN (ext_Ext (Ext.refl _)) 1
  by_cases hbf : mvB m y = true
  · -- shift
    have HNX : Hid (∀ V9, U2.Extends V9 → Nmv W V g n c bm K m i k (put V9 g (splice C' ((k + 1) * 4) y.enc))) := by
      intro V9 h9
      refine ⟨by omega, by rw [blk_put, if_neg hgm]; exact (h9.blk (blk_lt km)).trans km, ?_, y, ?_, (hW.trans (Wb.of h9)).put _⟩
      · rw [hins, insAt_step hy, if_pos hbf]
      · have e1 := (hS.ext h9).set Move.length_enc ((h9.blk (blk_lt kb)).trans kb) (i := k + 1) (by omega) y
        rw [hole_step hy] at e1
        exact e1
    clear HEND hS hW hins hyj hlen hji hsl hyk hy km kb hbl
    go_upto_region 5 with fail
    repeat go_step
    refine wp_region_F 10 (fun W' => blk W' bm = some m.enc ∧ blk W' g = some C') (by kernel_rfl) ⟨q0, q3⟩ (fun hHeld => ?_)
    refine wpAnyF_take (i := 0) (oi := ⟨_, _, _, _, _, _⟩) (v := ?_) rfl (by kernel_rfl) (by kernel_rfl) (by kernel_rfl) (by kernel_rfl) (by kernel_rfl) (fun _ _ _ h => h) (Or.inl ⟨by rfl, ?_⟩) (by assumption) ?_
    rotate_left 1
    · intro W' hSw
      obtain ⟨hS1, hS2⟩ := hSw
      go_simp
      try with_reducible rfl
    try simp only [Act.put, List.setIfInBounds_toArray, List.set_cons_zero, List.set_cons_succ]
    refine wpAnyF_take (i := 1) (oi := ⟨_, _, _, _, _, _⟩) (v := ?_) rfl (by kernel_rfl) (by kernel_rfl) (by kernel_rfl) (by kernel_rfl) (by kernel_rfl) (fun _ _ _ h => h) (Or.inl ⟨by rfl, ?_⟩) (by assumption) ?_
    rotate_left 1
    · intro W' hSw
      obtain ⟨hS1, hS2⟩ := hSw
      go_simp
      try with_reducible rfl
    try simp only [Act.put, List.setIfInBounds_toArray, List.set_cons_zero, List.set_cons_succ]
    refine wpAnyF_take (i := 2) (oi := ⟨_, _, _, _, _, _⟩) (v := ?_) rfl (by kernel_rfl) (by kernel_rfl) (by kernel_rfl) (by kernel_rfl) (by kernel_rfl) (fun _ _ _ h => h) (Or.inl ⟨by rfl, ?_⟩) (by assumption) ?_
    rotate_left 1
    · intro W' hSw
      obtain ⟨hS1, hS2⟩ := hSw
      go_simp
      try with_reducible rfl
    try simp only [Act.put, List.setIfInBounds_toArray, List.set_cons_zero, List.set_cons_succ]
    refine wpAnyF_take (i := 3) (oi := ⟨_, _, _, _, _, _⟩) (v := ?_) rfl (by kernel_rfl) (by kernel_rfl) (by kernel_rfl) (by kernel_rfl) (by kernel_rfl) (fun _ _ _ h => h) (Or.inl ⟨by rfl, ?_⟩) (by assumption) ?_
    rotate_left 1
    · intro W' hSw
      obtain ⟨hS1, hS2⟩ := hSw
      go_simp
      try with_reducible rfl
    try simp only [Act.put, List.setIfInBounds_toArray, List.set_cons_zero, List.set_cons_succ]
    refine wpAnyF_take (i := 4) (oi := ⟨_, _, _, _, _, _⟩) (v := ?_) rfl (by kernel_rfl) (by kernel_rfl) (by kernel_rfl) (by kernel_rfl) (by kernel_rfl) (fun _ _ _ h => h) (Or.inl ⟨by rfl, ?_⟩) (by assumption) ?_
    rotate_left 1
    · intro W' hSw
      obtain ⟨hS1, hS2⟩ := hSw
      go_simp
      try with_reducible rfl
    try simp only [Act.put, List.setIfInBounds_toArray, List.set_cons_zero, List.set_cons_succ]
    refine wpAnyF_take (i := 5) (oi := ⟨_, _, _, _, _, _⟩) (v := ?_) rfl (by kernel_rfl) (by kernel_rfl) (by kernel_rfl) (by kernel_rfl) (by kernel_rfl) (fun _ _ _ h => h) (Or.inl ⟨by rfl, ?_⟩) (by assumption) ?_
    rotate_left 1
    · intro W' hSw
      obtain ⟨hS1, hS2⟩ := hSw
      go_simp
      try with_reducible rfl
    try simp only [Act.put, List.setIfInBounds_toArray, List.set_cons_zero, List.set_cons_succ]
    refine wpAnyF_take (i := 6) (oi := ⟨_, _, _, _, _, _⟩) (v := ?_) rfl (by kernel_rfl) (by kernel_rfl) (by kernel_rfl) (by kernel_rfl) (by kernel_rfl) (fun _ _ _ h => h) (Or.inl ⟨by rfl, ?_⟩) (by assumption) ?_
    rotate_left 1
    · intro W' hSw
      obtain ⟨hS1, hS2⟩ := hSw
      go_simp
      try with_reducible rfl
    try simp only [Act.put, List.setIfInBounds_toArray, List.set_cons_zero, List.set_cons_succ]
    refine wpAnyF_take (i := 7) (oi := ⟨_, _, _, _, _, _⟩) (v := ?_) rfl (by kernel_rfl) (by kernel_rfl) (by kernel_rfl) (by kernel_rfl) (by kernel_rfl) (fun _ _ _ h => h) (Or.inl ⟨by rfl, ?_⟩) (by assumption) ?_
    rotate_left 1
    · intro W' hSw
      obtain ⟨hS1, hS2⟩ := hSw
      go_simp
      try with_reducible rfl
    try simp only [Act.put, List.setIfInBounds_toArray, List.set_cons_zero, List.set_cons_succ]
    refine wpAnyF_take (i := 8) (oi := ⟨_, _, _, _, _, _⟩) (v := ?_) rfl (by kernel_rfl) (by kernel_rfl) (by kernel_rfl) (by kernel_rfl) (by kernel_rfl) (fun _ _ _ h => h) (Or.inl ⟨by rfl, ?_⟩) (by assumption) ?_
    rotate_left 1
    · intro W' hSw
      obtain ⟨hS1, hS2⟩ := hSw
      go_simp
      try with_reducible rfl
    try simp only [Act.put, List.setIfInBounds_toArray, List.set_cons_zero, List.set_cons_succ]
    refine wpAnyF_one (o := ⟨_, _, _, _, _, _⟩) (i := 9) (by kernel_rfl) rfl rfl (fun K' hK => ?_)
    go_simp
    refine (mv_any _ m y).mono ?_
    rintro e9 V9 ⟨rfl, he9⟩
    dsimp only
    have q1 := (he9.blk (blk_lt q0)).trans q0
    have q2 := (he9.blk (blk_lt q3)).trans q3
    have hx9 := HX8.out.trans he9
    have HX9 := hid_of hx9
    clear he9 hx9 HX8
    refine hK.out _ _ ⟨q1, q2⟩ (fun hHeld => ?_)
    clear hK K'
    try simp only [Act.put, List.setIfInBounds_toArray, List.set_cons_zero, List.set_cons_succ]
    refine wpAnyF_last (o := ⟨_, _, _, _, _, _⟩) (by kernel_rfl) rfl (fun K' hK => ?_)
    go_simp
    refine hK.out _ _ ?_
    clear hK K'
    try simp only [Act.put, List.setIfInBounds_toArray, List.set_cons_zero, List.set_cons_succ]
    refine wpAnyF_done (by kernel_rfl) ?_ _

    clear hHeld q0 q3
    have HNX2 := hid_of (HNX.out V9 HX9.out)
    have fg9 : free V9 g = true := (free_of_heap (HX9.out.block _ (blk_lt_free hfg))).trans hfg
    clear HNX HX9
    go_wp2_with fail
    refine ⟨rfl, rfl, ⟨rfl, rfl, rfl, k, ?_, HNX2⟩, ?_⟩
    · rfl
    · show ((k : Nat) : Int).toNat < (intOf (F2 4)).toNat
      rw [H4.out]
      show k < k + 1
      exact Nat.lt_succ_self _
  · have hbf' : mvB m y = false := by simpa using hbf
    have HE := hid_of (HEND.out (by rw [hins, insAt_step hy, if_neg hbf]))
    clear HEND hS hW hins hyj hlen hji hsl hyk hy km kb hbl
    go_upto_region 5 with fail
    repeat go_step
    refine wp_region_F 10 (fun W' => blk W' bm = some m.enc ∧ blk W' g = some C') (by kernel_rfl) ⟨q0, q3⟩ (fun hHeld => ?_)
    refine wpAnyF_take (i := 0) (oi := ⟨_, _, _, _, _, _⟩) (v := ?_) rfl (by kernel_rfl) (by kernel_rfl) (by kernel_rfl) (by kernel_rfl) (by kernel_rfl) (fun _ _ _ h => h) (Or.inl ⟨by rfl, ?_⟩) (by assumption) ?_
    rotate_left 1
    · intro W' hSw
      obtain ⟨hS1, hS2⟩ := hSw
      go_simp
      try with_reducible rfl
    try simp only [Act.put, List.setIfInBounds_toArray, List.set_cons_zero, List.set_cons_succ]
    refine wpAnyF_take (i := 1) (oi := ⟨_, _, _, _, _, _⟩) (v := ?_) rfl (by kernel_rfl) (by kernel_rfl) (by kernel_rfl) (by kernel_rfl) (by kernel_rfl) (fun _ _ _ h => h) (Or.inl ⟨by rfl, ?_⟩) (by assumption) ?_
    rotate_left 1
    · intro W' hSw
      obtain ⟨hS1, hS2⟩ := hSw
      go_simp
      try with_reducible rfl
    try simp only [Act.put, List.setIfInBounds_toArray, List.set_cons_zero, List.set_cons_succ]
    refine wpAnyF_take (i := 2) (oi := ⟨_, _, _, _, _, _⟩) (v := ?_) rfl (by kernel_rfl) (by kernel_rfl) (by kernel_rfl) (by kernel_rfl) (by kernel_rfl) (fun _ _ _ h => h) (Or.inl ⟨by rfl, ?_⟩) (by assumption) ?_
    rotate_left 1
    · intro W' hSw
      obtain ⟨hS1, hS2⟩ := hSw
      go_simp
      try with_reducible rfl
    try simp only [Act.put, List.setIfInBounds_toArray, List.set_cons_zero, List.set_cons_succ]
    refine wpAnyF_take (i := 3) (oi := ⟨_, _, _, _, _, _⟩) (v := ?_) rfl (by kernel_rfl) (by kernel_rfl) (by kernel_rfl) (by kernel_rfl) (by kernel_rfl) (fun _ _ _ h => h) (Or.inl ⟨by rfl, ?_⟩) (by assumption) ?_
    rotate_left 1
    · intro W' hSw
      obtain ⟨hS1, hS2⟩ := hSw
      go_simp
      try with_reducible rfl
    try simp only [Act.put, List.setIfInBounds_toArray, List.set_cons_zero, List.set_cons_succ]
    refine wpAnyF_take (i := 4) (oi := ⟨_, _, _, _, _, _⟩) (v := ?_) rfl (by kernel_rfl) (by kernel_rfl) (by kernel_rfl) (by kernel_rfl) (by kernel_rfl) (fun _ _ _ h => h) (Or.inl ⟨by rfl, ?_⟩) (by assumption) ?_
    rotate_left 1
    · intro W' hSw
      obtain ⟨hS1, hS2⟩ := hSw
      go_simp
      try with_reducible rfl
    try simp only [Act.put, List.setIfInBounds_toArray, List.set_cons_zero, List.set_cons_succ]
    refine wpAnyF_take (i := 5) (oi := ⟨_, _, _, _, _, _⟩) (v := ?_) rfl (by kernel_rfl) (by kernel_rfl) (by kernel_rfl) (by kernel_rfl) (by kernel_rfl) (fun _ _ _ h => h) (Or.inl ⟨by rfl, ?_⟩) (by assumption) ?_
    rotate_left 1
    · intro W' hSw
      obtain ⟨hS1, hS2⟩ := hSw
      go_simp
      try with_reducible rfl
    try simp only [Act.put, List.setIfInBounds_toArray, List.set_cons_zero, List.set_cons_succ]
    refine wpAnyF_take (i := 6) (oi := ⟨_, _, _, _, _, _⟩) (v := ?_) rfl (by kernel_rfl) (by kernel_rfl) (by kernel_rfl) (by kernel_rfl) (by kernel_rfl) (fun _ _ _ h => h) (Or.inl ⟨by rfl, ?_⟩) (by assumption) ?_
    rotate_left 1
    · intro W' hSw
      obtain ⟨hS1, hS2⟩ := hSw
      go_simp
      try with_reducible rfl
    try simp only [Act.put, List.setIfInBounds_toArray, List.set_cons_zero, List.set_cons_succ]
    refine wpAnyF_take (i := 7) (oi := ⟨_, _, _, _, _, _⟩) (v := ?_) rfl (by kernel_rfl) (by kernel_rfl) (by kernel_rfl) (by kernel_rfl) (by kernel_rfl) (fun _ _ _ h => h) (Or.inl ⟨by rfl, ?_⟩) (by assumption) ?_
    rotate_left 1
    · intro W' hSw
      obtain ⟨hS1, hS2⟩ := hSw
      go_simp
      try with_reducible rfl
    try simp only [Act.put, List.setIfInBounds_toArray, List.set_cons_zero, List.set_cons_succ]
    refine wpAnyF_take (i := 8) (oi := ⟨_, _, _, _, _, _⟩) (v := ?_) rfl (by kernel_rfl) (by kernel_rfl) (by kernel_rfl) (by kernel_rfl) (by kernel_rfl) (fun _ _ _ h => h) (Or.inl ⟨by rfl, ?_⟩) (by assumption) ?_
    rotate_left 1
    · intro W' hSw
      obtain ⟨hS1, hS2⟩ := hSw
      go_simp
      try with_reducible rfl
    try simp only [Act.put, List.setIfInBounds_toArray, List.set_cons_zero, List.set_cons_succ]
    refine wpAnyF_one (o := ⟨_, _, _, _, _, _⟩) (i := 9) (by kernel_rfl) rfl rfl (fun K' hK => ?_)
    go_simp
    refine (mv_any _ m y).mono ?_
    rintro e9 V9 ⟨rfl, he9⟩
    dsimp only
    have q1 := (he9.blk (blk_lt q0)).trans q0
    have q2 := (he9.blk (blk_lt q3)).trans q3
    have hx9 := HX8.out.trans he9
    have HX9 := hid_of hx9
    clear he9 hx9 HX8
    refine hK.out _ _ ⟨q1, q2⟩ (fun hHeld => ?_)
    clear hK K'
    try simp only [Act.put, List.setIfInBounds_toArray, List.set_cons_zero, List.set_cons_succ]
    refine wpAnyF_last (o := ⟨_, _, _, _, _, _⟩) (by kernel_rfl) rfl (fun K' hK => ?_)
    go_simp
    refine hK.out _ _ ?_
    clear hK K'
    try simp only [Act.put, List.setIfInBounds_toArray, List.set_cons_zero, List.set_cons_succ]
    refine wpAnyF_done (by kernel_rfl) ?_ _

    clear hHeld q0 q3
    have HE2 := hid_of (HE.out V9 HX9.out)
    have fg9 : free V9 g = true := (free_of_heap (HX9.out.block _ (blk_lt_free hfg))).trans hfg
    clear HE HX9
    go_wp2_with fail
    refine ⟨rfl, rfl, ⟨rfl, i + 1, by omega, ?_, HE2⟩, ?_⟩
    · rfl
    · show n - ((i : Int) + 1).toNat < n - (intOf (F 2)).toNat
      rw [H2.out]
      show n - (i + 1) < n - i
      have := HM.out.1
      omega
/-- The order of Marks. -/
def mkB (x y : Mark) : Bool := if w8 x.from_ = w8 y.from_ then decide (w64 x.seq < w64 y.seq) else decide (w8 x.from_ < w8 y.from_)
set_option maxRecDepth 20000 in
theorem mk_any (W : World) (x y : Mark) : Calls Tryz.prog 220 #[.agg x.enc.toArray, .agg y.enc.toArray] W fun e V => e = .returned (.bool (mkB x y)) ∧ W.Extends V := by
  have HX : Hid (W.Extends ((W.alloc (.cells x.enc.toArray 112)).alloc (.cells y.enc.toArray 112))) := extends_alloc (extends_alloc (ext_Ext (Ext.refl _)) _) _
  by_cases h1 : w8 x.from_ = w8 y.from_
  · by_cases h2 : w64 x.seq < w64 y.seq
    · rw [show mkB x y = true by unfold mkB; rw [if_pos h1]; exact decide_eq_true h2]
      have h1b : (w8 x.from_ != w8 y.from_) = false := by simp [h1]
      go_enter Tryz.func220, Tryz.ntmps220
      go_wp2_with fail
      try (first | go_ret | go_ret2 | go_ret3 | go_end0)
      exact ⟨rfl, HX.out⟩
    · rw [show mkB x y = false by unfold mkB; rw [if_pos h1]; exact decide_eq_false h2]
      have h1b : (w8 x.from_ != w8 y.from_) = false := by simp [h1]
      go_enter Tryz.func220, Tryz.ntmps220
      go_wp2_with fail
      try (first | go_ret | go_ret2 | go_ret3 | go_end0)
      exact ⟨rfl, HX.out⟩
  · have h1b : (w8 x.from_ != w8 y.from_) = true := by simp [h1]
    by_cases h2 : w8 x.from_ < w8 y.from_
    · rw [show mkB x y = true by unfold mkB; rw [if_neg h1]; exact decide_eq_true h2]
      go_enter Tryz.func220, Tryz.ntmps220
      go_wp2_with fail
      try (first | go_ret | go_ret2 | go_ret3 | go_end0)
      exact ⟨rfl, HX.out⟩
    · rw [show mkB x y = false by unfold mkB; rw [if_neg h1]; exact decide_eq_false h2]
      go_enter Tryz.func220, Tryz.ntmps220
      go_wp2_with fail
      try (first | go_ret | go_ret2 | go_ret3 | go_end0)
      exact ⟨rfl, HX.out⟩
/-- What sorting may touch. -/
def Somk (W V : World) (g n c : Nat) (K : List Mark) (V' : World) : Prop := OutG Mark.enc 2 112 W V' (some ⟨g, 0, none⟩) n c K ∧ Wb g V V'
def omkI (W V0 : World) (g n c : Nat) (K : List Mark) (F : Nat → Value) (V : World) : Prop := F 0 = .slice (some ⟨g, 0, none⟩) n c ∧ ∃ i : Nat, 1 ≤ i ∧ F 2 = .int .i64 (i : Nat) ∧ Hid (i ≤ n ∧ Somk W V0 g n c (srtN mkB K i ++ K.drop i) V)
def Nmk (W V0 : World) (g n c bm : Nat) (K : List Mark) (m : Mark) (i j : Nat) (V : World) : Prop := j ≤ i ∧ blk V bm = some m.enc ∧ insAt mkB m (srtN mkB K i) i = insAt mkB m (srtN mkB K i) j ∧ ∃ y, Somk W V0 g n c ((srtN mkB K i).take j ++ y :: ((srtN mkB K i).drop j ++ K.drop (i + 1))) V
def imkI (W V0 : World) (g n c bm : Nat) (K : List Mark) (m : Mark) (i : Nat) (F : Nat → Value) (V : World) : Prop := F 0 = .slice (some ⟨g, 0, none⟩) n c ∧ F 2 = .int .i64 (i : Nat) ∧ F 3 = .pointer (some ⟨bm, 0, none⟩) ∧ ∃ j : Nat, F 4 = .int .i64 (j : Nat) ∧ Hid (Nmk W V0 g n c bm K m i j V)
set_option maxRecDepth 20000 in
set_option maxHeartbeats 1000000 in
theorem mkSort_any (W V : World) (a : Option Addr) (n c : Nat) (K : List Mark) (h : OutG Mark.enc 2 112 W V a n c K) (hn : n ≤ 1000000000) : Calls Tryz.prog 173 #[.slice a n c] V fun e V' => e = .returned (.tuple #[]) ∧ OutG Mark.enc 2 112 W V' a n c (srtF mkB K) ∧ ∀ k C, blk V k = some C → (Value.slice a n c).ownBlock ≠ some k → blk V' k = some C ∧ (free V k = true → free V' k = true) := by
  obtain ⟨Q, hQ⟩ : ∃ Q : Ending → World → Prop, Q = fun e V' => e = .returned (.tuple #[]) ∧ OutG Mark.enc 2 112 W V' a n c (srtF mkB K) ∧ ∀ k C, blk V k = some C → (Value.slice a n c).ownBlock ≠ some k → blk V' k = some C ∧ (free V k = true → free V' k = true) := ⟨_, rfl⟩
  rw [← hQ]
  have HQ := hid_of hQ
  clear hQ
  by_cases h0 : n = 0
  · have hK : K = [] := List.length_eq_zero_iff.1 (by rw [← h.2.2]; exact h0)
    subst hK
    have HP : Hid (Q (.returned (.tuple #[])) V) := by
      show Q _ _
      rw [HQ.out]
      exact ⟨rfl, h, fun k C hk _ => ⟨hk, fun q => q⟩⟩
    subst h0
    clear h HQ
    go_enter Tryz.func173, Tryz.ntmps173
    go_wp2_with fail
    refine wp_loop_f 41 (fun F U => F 0 = .slice a 0 c ∧ F 2 = .int .i64 1 ∧ U = V) (fun f _ => 0) rfl ⟨rfl, rfl, rfl⟩ ?_
    intro F U hrel
    obtain ⟨f0, f2, rfl⟩ := hrel
    rw [frame41q, f0, f2]
    clear f0 f2
    go_wp2_with fail
    try (first | go_ret | go_ret2 | go_ret3 | go_end0)
    exact HP.out
  have hKn : K.length = n := h.2.2.symm
  obtain ⟨g, hg⟩ : ∃ g, a = some ⟨g, 0, none⟩ := by
    obtain ⟨⟨h1, h2⟩, -, -⟩ := h
    rcases h2 with ⟨e1, e2⟩ | ⟨g, cap, cur, e1, -⟩
    · omega
    · injection e1 with e2 e3 e4
      exact ⟨g, e2⟩
  subst hg
  obtain ⟨k0, hk0⟩ : ∃ k0, K[0]? = some k0 := ⟨_, List.getElem?_eq_getElem (by omega)⟩
  have HI0 : Hid (1 ≤ n ∧ Somk W V g n c (srtN mkB K 1 ++ K.drop 1) V) := by
    refine ⟨by omega, ?_, Wb.refl _ _⟩
    have e1 : srtN mkB K 1 ++ K.drop 1 = K := by
      have e2 : srtN mkB K 1 = [k0] := by
        rw [srtN_succ hk0]; rfl
      rw [e2]
      obtain ⟨g1, g2⟩ := List.getElem?_eq_some_iff.1 hk0
      rw [show [k0] ++ K.drop 1 = K.drop 0 by rw [List.drop_eq_getElem_cons g1, g2]; rfl]; rfl
    rw [e1]; exact h
  have HN : Hid (n ≠ 0 ∧ n ≤ 1000000000 ∧ K.length = n) := ⟨h0, hn, hKn⟩
  clear h h0 hn hKn hk0
  go_enter Tryz.func173, Tryz.ntmps173
  go_wp2_with fail
  refine wp_loop_f 41 (omkI W V g n c K) (fun f _ => n - (intOf (f 2)).toNat) rfl ⟨rfl, 1, Nat.le_refl _, rfl, HI0⟩ ?_
  clear HI0
  intro F U hrel
  obtain ⟨f0, i, hi1, f2, HI⟩ := hrel
  have H2 := hid_of f2
  rw [frame41q, f0, f2]
  clear f0 f2
  obtain ⟨hin, hS, hW⟩ := HI.out
  clear HI
  by_cases hlt : i < n
  rotate_left 1
  · have HP : Hid (Q (.returned (.tuple #[])) U) := by
      show Q _ _
      rw [HQ.out]
      have e1 : i = n := by omega
      subst e1
      have hk := HN.out.2.2
      rw [List.drop_of_length_le (by omega), List.append_nil] at hS
      refine ⟨rfl, by unfold srtF; rw [hk]; exact hS, fun k C hk2 hne => ?_⟩
      have hne2 : k ≠ g := fun e => hne (by rw [e]; rfl)
      exact ⟨hW.blk hk2 hne2, fun q => hW.free hk2 q hne2⟩
    have hlt' : ¬ (i : Int) < (n : Int) := by omega
    clear hS hW hin hlt H2 HQ
    go_wp2_with fail
    try (first | go_ret | go_ret2 | go_ret3 | go_end0)
    exact HP.out
  have hlt' : (i : Int) < (n : Int) := by omega
  have hi9 : (i : Int) + 1 ≤ 1000000001 := by have := HN.out.2.1; omega
  obtain ⟨m, hm⟩ : ∃ m, K[i]? = some m := ⟨_, List.getElem?_eq_getElem (by have := HN.out.2.2; omega)⟩
  have hsl : (srtN mkB K i).length = i := srtN_len _ _ _ (by have := HN.out.2.2; omega)
  have hat : (srtN mkB K i ++ K.drop i)[i]? = some m := by
    rw [List.getElem?_append_right (by omega), hsl, Nat.sub_self, List.getElem?_drop, Nat.add_zero]; exact hm
  obtain ⟨b', C, ha, kb, hbl, hsg⟩ := (hS.rw elMark).2 _ _ hat
  injection ha with ha
  injection ha with ha
  subst ha
  have p0 : (0 : Int) ≤ (i : Int) := by omega
  have p2 : ((i : Int)).toNat = i := by omega
  have g1 : i * 2 + 2 ≤ C.length := Nat.le_trans (by rw [← Nat.succ_mul]; exact Nat.mul_le_mul_right _ hlt) hbl
  obtain ⟨bm, hbm⟩ : ∃ bm, bm = U.heap.size := ⟨_, rfl⟩
  obtain ⟨U1, hU1⟩ : ∃ U1 : World, U1 = U.alloc (.cells m.enc.toArray 112) := ⟨_, rfl⟩
  have hx1 : U.Extends U1 := by rw [hU1]; exact extends_alloc (ext_Ext (Ext.refl _)) _
  have km1 : blk U1 bm = some m.enc := by rw [hU1, hbm, blk_alloc, if_pos rfl]
  have hgb : g ≠ bm := by rw [hbm]; exact Nat.ne_of_lt (blk_lt kb)
  have hdr : K.drop i = m :: K.drop (i + 1) := by
    obtain ⟨g1, g2⟩ := List.getElem?_eq_some_iff.1 hm
    rw [List.drop_eq_getElem_cons g1, g2]
  have HI1 : Hid (Nmk W V g n c bm K m i i U1) := by
    refine ⟨Nat.le_refl _, km1, rfl, m, ?_, hW.trans (Wb.of hx1)⟩
    rw [List.take_of_length_le (by omega), List.drop_of_length_le (by omega), List.nil_append, ← hdr]
    exact hS.ext hx1
  have HM : Hid (i < n ∧ K[i]? = some m ∧ (srtN mkB K i).length = i ∧ g ≠ bm ∧ W.heap.size ≤ bm) := ⟨hlt, hm, hsl, hgb, by rw [hbm]; exact hS.2.1.size⟩
  have HU1 := hid_of hU1
  have HBM := hid_of hbm
  clear hS hW hin hlt hm hsl hat hbl hx1 km1 hdr hU1 hbm
  go_upto_region 4 with fail
  rw [← HU1.out, ← HBM.out]
  clear HU1 HBM
  go_wp2_with fail
  refine wp_loop_f 41 (imkI W V g n c bm K m i) (fun f _ => (intOf (f 4)).toNat) rfl ⟨rfl, rfl, rfl, i, rfl, HI1⟩ ?_
  clear HI1 kb hsg g1 C hgb
  intro F2 U2 hrel
  obtain ⟨f0, f2, f3, j, f4, HI⟩ := hrel
  have H4 := hid_of f4
  rw [frame41q, f0, f2, f3, f4]
  clear f0 f2 f3 f4
  obtain ⟨hji, km, hins, y0, hS, hW⟩ := HI.out
  clear HI
  have hlen : ((srtN mkB K i).take j ++ y0 :: ((srtN mkB K i).drop j ++ K.drop (i + 1))).length = n := hS.2.2.symm
  have hsl := HM.out.2.2.1
  obtain ⟨yj, hyj⟩ : ∃ y, ((srtN mkB K i).take j ++ y0 :: ((srtN mkB K i).drop j ++ K.drop (i + 1)))[j]? = some y := ⟨_, List.getElem?_eq_getElem (by have := HM.out.1; omega)⟩
  obtain ⟨b', C, ha, kb, hbl, -⟩ := (hS.rw elMark).2 _ _ hyj
  injection ha with ha
  injection ha with ha
  subst ha
  have hfg := hS.own.2.1
  have hjn : j < n := by have := HM.out.1; omega
  have gj : j * 2 + 2 ≤ C.length := Nat.le_trans (by rw [← Nat.succ_mul]; exact Nat.mul_le_mul_right _ hjn) hbl
  have jn' : (j : Int) < (n : Int) := by omega
  have j0 : (0 : Int) ≤ (j : Int) := by omega
  have j2 : ((j : Int)).toNat = j := by omega
  have hgm : ¬ bm = g := fun e => HM.out.2.2.2.1 e.symm
  -- writing m and going on with the next round
  have HEND : Hid (insAt mkB m (srtN mkB K i) i = j → ∀ V9, U2.Extends V9 → i + 1 ≤ n ∧ Somk W V g n c (srtN mkB K (i + 1) ++ K.drop (i + 1)) (put V9 g (splice C (j * 2) m.enc))) := by
    intro hq V9 h9
    refine ⟨HM.out.1, ?_, (hW.trans (Wb.of h9)).put _⟩
    have e1 := (hS.ext h9).set Mark.length_enc ((h9.blk (blk_lt kb)).trans kb) (i := j) (by omega) m
    rw [hole_end (by omega)] at e1
    have e2 : srtN mkB K (i + 1) = (srtN mkB K i).take j ++ m :: (srtN mkB K i).drop j := by
      rw [srtN_succ HM.out.2.1]
      unfold insS
      rw [hsl, hq]
    rw [e2]
    exact e1
  by_cases hj0 : j = 0
  · subst hj0
    have HE := hid_of (HEND.out hins)
    have q0 := km
    clear HEND hS hW hins hyj hlen hji hsl
    go_upto_region 5 with fail
    repeat go_step
    refine wp_region_F 10 (fun W' => blk W' bm = some m.enc) (by kernel_rfl) q0 (fun hHeld => ?_)
    refine wpAnyF_take (i := 0) (oi := ⟨_, _, _, _, _, _⟩) (v := ?_) rfl (by kernel_rfl) (by kernel_rfl) (by kernel_rfl) (by kernel_rfl) (by kernel_rfl) (fun _ _ _ h => h) (Or.inl ⟨by rfl, ?_⟩) (by assumption) ?_
    rotate_left 1
    · intro W' hSw
      go_simp
      try with_reducible rfl
    try simp only [Act.put, List.setIfInBounds_toArray, List.set_cons_zero, List.set_cons_succ]
    refine wpAnyF_take (i := 1) (oi := ⟨_, _, _, _, _, _⟩) (v := ?_) rfl (by kernel_rfl) (by kernel_rfl) (by kernel_rfl) (by kernel_rfl) (by kernel_rfl) (fun _ _ _ h => h) (Or.inl ⟨by rfl, ?_⟩) (by assumption) ?_
    rotate_left 1
    · intro W' hSw
      go_simp
      try with_reducible rfl
    try simp only [Act.put, List.setIfInBounds_toArray, List.set_cons_zero, List.set_cons_succ]
    refine wpAnyF_take (i := 2) (oi := ⟨_, _, _, _, _, _⟩) (v := ?_) rfl (by kernel_rfl) (by kernel_rfl) (by kernel_rfl) (by kernel_rfl) (by kernel_rfl) (fun _ _ _ h => h) (Or.inl ⟨by rfl, ?_⟩) (by assumption) ?_
    rotate_left 1
    · intro W' hSw
      go_simp
      try with_reducible rfl
    try simp only [Act.put, List.setIfInBounds_toArray, List.set_cons_zero, List.set_cons_succ]
    refine wpAnyF_take (i := 3) (oi := ⟨_, _, _, _, _, _⟩) (v := undef) rfl (by kernel_rfl) (by kernel_rfl) (by kernel_rfl) (by kernel_rfl) (by kernel_rfl) (fun _ _ _ h => h) (Or.inr ⟨by rfl, rfl⟩) (by assumption) ?_
    try simp only [Act.put, List.setIfInBounds_toArray, List.set_cons_zero, List.set_cons_succ]
    refine wpAnyF_take (i := 4) (oi := ⟨_, _, _, _, _, _⟩) (v := undef) rfl (by kernel_rfl) (by kernel_rfl) (by kernel_rfl) (by kernel_rfl) (by kernel_rfl) (fun _ _ _ h => h) (Or.inr ⟨by rfl, rfl⟩) (by assumption) ?_
    try simp only [Act.put, List.setIfInBounds_toArray, List.set_cons_zero, List.set_cons_succ]
    refine wpAnyF_take (i := 5) (oi := ⟨_, _, _, _, _, _⟩) (v := undef) rfl (by kernel_rfl) (by kernel_rfl) (by kernel_rfl) (by kernel_rfl) (by kernel_rfl) (fun _ _ _ h => h) (Or.inr ⟨by rfl, rfl⟩) (by assumption) ?_
    try simp only [Act.put, List.setIfInBounds_toArray, List.set_cons_zero, List.set_cons_succ]
    refine wpAnyF_take (i := 6) (oi := ⟨_, _, _, _, _, _⟩) (v := undef) rfl (by kernel_rfl) (by kernel_rfl) (by kernel_rfl) (by kernel_rfl) (by kernel_rfl) (fun _ _ _ h => h) (Or.inr ⟨by rfl, rfl⟩) (by assumption) ?_
    try simp only [Act.put, List.setIfInBounds_toArray, List.set_cons_zero, List.set_cons_succ]
    refine wpAnyF_take (i := 7) (oi := ⟨_, _, _, _, _, _⟩) (v := undef) rfl (by kernel_rfl) (by kernel_rfl) (by kernel_rfl) (by kernel_rfl) (by kernel_rfl) (fun _ _ _ h => h) (Or.inr ⟨by rfl, rfl⟩) (by assumption) ?_
    try simp only [Act.put, List.setIfInBounds_toArray, List.set_cons_zero, List.set_cons_succ]
    refine wpAnyF_take (i := 8) (oi := ⟨_, _, _, _, _, _⟩) (v := undef) rfl (by kernel_rfl) (by kernel_rfl) (by kernel_rfl) (by kernel_rfl) (by kernel_rfl) (fun _ _ _ h => h) (Or.inr ⟨by rfl, rfl⟩) (by assumption) ?_
    try simp only [Act.put, List.setIfInBounds_toArray, List.set_cons_zero, List.set_cons_succ]
    refine wpAnyF_take (i := 9) (oi := ⟨_, _, _, _, _, _⟩) (v := undef) rfl (by kernel_rfl) (by kernel_rfl) (by kernel_rfl) (by kernel_rfl) (by kernel_rfl) (fun _ _ _ h => h) (Or.inr ⟨by rfl, rfl⟩) (by assumption) ?_
    try simp only [Act.put, List.setIfInBounds_toArray, List.set_cons_zero, List.set_cons_succ]
    refine wpAnyF_last (o := ⟨_, _, _, _, _, _⟩) (by kernel_rfl) rfl (fun K' hK => ?_)
    go_simp
    refine hK.out _ _ ?_
    clear hK K'
    try simp only [Act.put, List.setIfInBounds_toArray, List.set_cons_zero, List.set_cons_succ]
    refine wpAnyF_done (by kernel_rfl) ?_ _

    clear hHeld
    have HE2 := hid_of (HE.out U2.drew (extends_drewN (ext_Ext (Ext.refl _)) 1))
    clear HE
    have kbd : blk U2.drew g = some C := kb
    have qm : blk U2.drew bm = some m.enc := q0
    have fgd : free U2.drew g = true := hfg
    go_wp2_with fail
    refine ⟨rfl, rfl, ⟨rfl, i + 1, by omega, ?_, HE2⟩, ?_⟩
    · rfl
    · show n - ((i : Int) + 1).toNat < n - (intOf (F 2)).toNat
      rw [H2.out]
      show n - (i + 1) < n - i
      have := HM.out.1
      omega
  obtain ⟨k, rfl⟩ : ∃ k, j = k + 1 := ⟨j - 1, by omega⟩
  obtain ⟨y, hy⟩ : ∃ y, (srtN mkB K i)[k]? = some y := ⟨_, List.getElem?_eq_getElem (by omega)⟩
  have hyk := (hole_at (S := srtN mkB K i) (R := K.drop (i + 1)) (j := k) (y := y0) (by omega)).trans hy
  obtain ⟨b', C', ha, kb', hbl', hsg⟩ := (hS.rw elMark).2 _ _ hyk
  injection ha with ha
  injection ha with ha
  subst ha
  have eC : C' = C := Option.some.inj (kb'.symm.trans kb)
  subst eC
  clear kb' hbl'
  have k0' : (0 : Int) < ((k + 1 : Nat) : Int) := by omega
  have kw : IntKind.i64.wrap (((k + 1 : Nat) : Int) - 1) = (k : Int) := by rw [IntKind.wrap_i64]; have := HN.out.2.1; omega
  have kk0 : (0 : Int) ≤ (k : Int) := by omega
  have kw2 : IntKind.i64.wrap (k : Int) = (k : Int) := by rw [IntKind.wrap_i64]; have := HN.out.2.1; omega
  have HKW := hid_of kw
  have kk1 : (k : Int) < (n : Int) := by omega
  have kk2 : ((k : Int)).toNat = k := by omega
  have gk : k * 2 + 2 ≤ C'.length := by omega
  have q0 := km
  have q3 := kb
  have HX8 : Hid (U2.Extends U2.drew) := extends_drewN (ext_Ext (Ext.refl _)) 1
  by_cases hbf : mkB m y = true
  · -- shift
    have HNX : Hid (∀ V9, U2.Extends V9 → Nmk W V g n c bm K m i k (put V9 g (splice C' ((k + 1) * 2) y.enc))) := by
      intro V9 h9
      refine ⟨by omega, by rw [blk_put, if_neg hgm]; exact (h9.blk (blk_lt km)).trans km, ?_, y, ?_, (hW.trans (Wb.of h9)).put _⟩
      · rw [hins, insAt_step hy, if_pos hbf]
      · have e1 := (hS.ext h9).set Mark.length_enc ((h9.blk (blk_lt kb)).trans kb) (i := k + 1) (by omega) y
        rw [hole_step hy] at e1
        exact e1
    clear HEND hS hW hins hyj hlen hji hsl hyk hy km kb hbl
    go_upto_region 5 with fail
    repeat go_step
    refine wp_region_F 10 (fun W' => blk W' bm = some m.enc ∧ blk W' g = some C') (by kernel_rfl) ⟨q0, q3⟩ (fun hHeld => ?_)
    refine wpAnyF_take (i := 0) (oi := ⟨_, _, _, _, _, _⟩) (v := ?_) rfl (by kernel_rfl) (by kernel_rfl) (by kernel_rfl) (by kernel_rfl) (by kernel_rfl) (fun _ _ _ h => h) (Or.inl ⟨by rfl, ?_⟩) (by assumption) ?_
    rotate_left 1
    · intro W' hSw
      obtain ⟨hS1, hS2⟩ := hSw
      go_simp
      try with_reducible rfl
    try simp only [Act.put, List.setIfInBounds_toArray, List.set_cons_zero, List.set_cons_succ]
    refine wpAnyF_take (i := 1) (oi := ⟨_, _, _, _, _, _⟩) (v := ?_) rfl (by kernel_rfl) (by kernel_rfl) (by kernel_rfl) (by kernel_rfl) (by kernel_rfl) (fun _ _ _ h => h) (Or.inl ⟨by rfl, ?_⟩) (by assumption) ?_
    rotate_left 1
    · intro W' hSw
      obtain ⟨hS1, hS2⟩ := hSw
      go_simp
      try with_reducible rfl
    try simp only [Act.put, List.setIfInBounds_toArray, List.set_cons_zero, List.set_cons_succ]
    refine wpAnyF_take (i := 2) (oi := ⟨_, _, _, _, _, _⟩) (v := ?_) rfl (by kernel_rfl) (by kernel_rfl) (by kernel_rfl) (by kernel_rfl) (by kernel_rfl) (fun _ _ _ h => h) (Or.inl ⟨by rfl, ?_⟩) (by assumption) ?_
    rotate_left 1
    · intro W' hSw
      obtain ⟨hS1, hS2⟩ := hSw
      go_simp
      try with_reducible rfl
    try simp only [Act.put, List.setIfInBounds_toArray, List.set_cons_zero, List.set_cons_succ]
    refine wpAnyF_take (i := 3) (oi := ⟨_, _, _, _, _, _⟩) (v := ?_) rfl (by kernel_rfl) (by kernel_rfl) (by kernel_rfl) (by kernel_rfl) (by kernel_rfl) (fun _ _ _ h => h) (Or.inl ⟨by rfl, ?_⟩) (by assumption) ?_
    rotate_left 1
    · intro W' hSw
      obtain ⟨hS1, hS2⟩ := hSw
      go_simp
      try with_reducible rfl
    try simp only [Act.put, List.setIfInBounds_toArray, List.set_cons_zero, List.set_cons_succ]
    refine wpAnyF_take (i := 4) (oi := ⟨_, _, _, _, _, _⟩) (v := ?_) rfl (by kernel_rfl) (by kernel_rfl) (by kernel_rfl) (by kernel_rfl) (by kernel_rfl) (fun _ _ _ h => h) (Or.inl ⟨by rfl, ?_⟩) (by assumption) ?_
    rotate_left 1
    · intro W' hSw
      obtain ⟨hS1, hS2⟩ := hSw
      go_simp
      try with_reducible rfl
    try simp only [Act.put, List.setIfInBounds_toArray, List.set_cons_zero, List.set_cons_succ]
    refine wpAnyF_take (i := 5) (oi := ⟨_, _, _, _, _, _⟩) (v := ?_) rfl (by kernel_rfl) (by kernel_rfl) (by kernel_rfl) (by kernel_rfl) (by kernel_rfl) (fun _ _ _ h => h) (Or.inl ⟨by rfl, ?_⟩) (by assumption) ?_
    rotate_left 1
    · intro W' hSw
      obtain ⟨hS1, hS2⟩ := hSw
      go_simp
      try with_reducible rfl
    try simp only [Act.put, List.setIfInBounds_toArray, List.set_cons_zero, List.set_cons_succ]
    refine wpAnyF_take (i := 6) (oi := ⟨_, _, _, _, _, _⟩) (v := ?_) rfl (by kernel_rfl) (by kernel_rfl) (by kernel_rfl) (by kernel_rfl) (by kernel_rfl) (fun _ _ _ h => h) (Or.inl ⟨by rfl, ?_⟩) (by assumption) ?_
    rotate_left 1
    · intro W' hSw
      obtain ⟨hS1, hS2⟩ := hSw
      go_simp
      try with_reducible rfl
    try simp only [Act.put, List.setIfInBounds_toArray, List.set_cons_zero, List.set_cons_succ]
    refine wpAnyF_take (i := 7) (oi := ⟨_, _, _, _, _, _⟩) (v := ?_) rfl (by kernel_rfl) (by kernel_rfl) (by kernel_rfl) (by kernel_rfl) (by kernel_rfl) (fun _ _ _ h => h) (Or.inl ⟨by rfl, ?_⟩) (by assumption) ?_
    rotate_left 1
    · intro W' hSw
      obtain ⟨hS1, hS2⟩ := hSw
      go_simp
      try with_reducible rfl
    try simp only [Act.put, List.setIfInBounds_toArray, List.set_cons_zero, List.set_cons_succ]
    refine wpAnyF_take (i := 8) (oi := ⟨_, _, _, _, _, _⟩) (v := ?_) rfl (by kernel_rfl) (by kernel_rfl) (by kernel_rfl) (by kernel_rfl) (by kernel_rfl) (fun _ _ _ h => h) (Or.inl ⟨by rfl, ?_⟩) (by assumption) ?_
    rotate_left 1
    · intro W' hSw
      obtain ⟨hS1, hS2⟩ := hSw
      go_simp
      try with_reducible rfl
    try simp only [Act.put, List.setIfInBounds_toArray, List.set_cons_zero, List.set_cons_succ]
    refine wpAnyF_one (o := ⟨_, _, _, _, _, _⟩) (i := 9) (by kernel_rfl) rfl rfl (fun K' hK => ?_)
    go_simp
    refine (mk_any _ m y).mono ?_
    rintro e9 V9 ⟨rfl, he9⟩
    dsimp only
    have q1 := (he9.blk (blk_lt q0)).trans q0
    have q2 := (he9.blk (blk_lt q3)).trans q3
    have hx9 := HX8.out.trans he9
    have HX9 := hid_of hx9
    clear he9 hx9 HX8
    refine hK.out _ _ ⟨q1, q2⟩ (fun hHeld => ?_)
    clear hK K'
    try simp only [Act.put, List.setIfInBounds_toArray, List.set_cons_zero, List.set_cons_succ]
    refine wpAnyF_last (o := ⟨_, _, _, _, _, _⟩) (by kernel_rfl) rfl (fun K' hK => ?_)
    go_simp
    refine hK.out _ _ ?_
    clear hK K'
    try simp only [Act.put, List.setIfInBounds_toArray, List.set_cons_zero, List.set_cons_succ]
    refine wpAnyF_done (by kernel_rfl) ?_ _

    clear hHeld q0 q3
    have HNX2 := hid_of (HNX.out V9 HX9.out)
    have fg9 : free V9 g = true := (free_of_heap (HX9.out.block _ (blk_lt_free hfg))).trans hfg
    clear HNX HX9
    go_wp2_with fail
    refine ⟨rfl, rfl, ⟨rfl, rfl, rfl, k, ?_, HNX2⟩, ?_⟩
    · rfl
    · show ((k : Nat) : Int).toNat < (intOf (F2 4)).toNat
      rw [H4.out]
      show k < k + 1
      exact Nat.lt_succ_self _
  · have hbf' : mkB m y = false := by simpa using hbf
    have HE := hid_of (HEND.out (by rw [hins, insAt_step hy, if_neg hbf]))
    clear HEND hS hW hins hyj hlen hji hsl hyk hy km kb hbl
    go_upto_region 5 with fail
    repeat go_step
    refine wp_region_F 10 (fun W' => blk W' bm = some m.enc ∧ blk W' g = some C') (by kernel_rfl) ⟨q0, q3⟩ (fun hHeld => ?_)
    refine wpAnyF_take (i := 0) (oi := ⟨_, _, _, _, _, _⟩) (v := ?_) rfl (by kernel_rfl) (by kernel_rfl) (by kernel_rfl) (by kernel_rfl) (by kernel_rfl) (fun _ _ _ h => h) (Or.inl ⟨by rfl, ?_⟩) (by assumption) ?_
    rotate_left 1
    · intro W' hSw
      obtain ⟨hS1, hS2⟩ := hSw
      go_simp
      try with_reducible rfl
    try simp only [Act.put, List.setIfInBounds_toArray, List.set_cons_zero, List.set_cons_succ]
    refine wpAnyF_take (i := 1) (oi := ⟨_, _, _, _, _, _⟩) (v := ?_) rfl (by kernel_rfl) (by kernel_rfl) (by kernel_rfl) (by kernel_rfl) (by kernel_rfl) (fun _ _ _ h => h) (Or.inl ⟨by rfl, ?_⟩) (by assumption) ?_
    rotate_left 1
    · intro W' hSw
      obtain ⟨hS1, hS2⟩ := hSw
      go_simp
      try with_reducible rfl
    try simp only [Act.put, List.setIfInBounds_toArray, List.set_cons_zero, List.set_cons_succ]
    refine wpAnyF_take (i := 2) (oi := ⟨_, _, _, _, _, _⟩) (v := ?_) rfl (by kernel_rfl) (by kernel_rfl) (by kernel_rfl) (by kernel_rfl) (by kernel_rfl) (fun _ _ _ h => h) (Or.inl ⟨by rfl, ?_⟩) (by assumption) ?_
    rotate_left 1
    · intro W' hSw
      obtain ⟨hS1, hS2⟩ := hSw
      go_simp
      try with_reducible rfl
    try simp only [Act.put, List.setIfInBounds_toArray, List.set_cons_zero, List.set_cons_succ]
    refine wpAnyF_take (i := 3) (oi := ⟨_, _, _, _, _, _⟩) (v := ?_) rfl (by kernel_rfl) (by kernel_rfl) (by kernel_rfl) (by kernel_rfl) (by kernel_rfl) (fun _ _ _ h => h) (Or.inl ⟨by rfl, ?_⟩) (by assumption) ?_
    rotate_left 1
    · intro W' hSw
      obtain ⟨hS1, hS2⟩ := hSw
      go_simp
      try with_reducible rfl
    try simp only [Act.put, List.setIfInBounds_toArray, List.set_cons_zero, List.set_cons_succ]
    refine wpAnyF_take (i := 4) (oi := ⟨_, _, _, _, _, _⟩) (v := ?_) rfl (by kernel_rfl) (by kernel_rfl) (by kernel_rfl) (by kernel_rfl) (by kernel_rfl) (fun _ _ _ h => h) (Or.inl ⟨by rfl, ?_⟩) (by assumption) ?_
    rotate_left 1
    · intro W' hSw
      obtain ⟨hS1, hS2⟩ := hSw
      go_simp
      try with_reducible rfl
    try simp only [Act.put, List.setIfInBounds_toArray, List.set_cons_zero, List.set_cons_succ]
    refine wpAnyF_take (i := 5) (oi := ⟨_, _, _, _, _, _⟩) (v := ?_) rfl (by kernel_rfl) (by kernel_rfl) (by kernel_rfl) (by kernel_rfl) (by kernel_rfl) (fun _ _ _ h => h) (Or.inl ⟨by rfl, ?_⟩) (by assumption) ?_
    rotate_left 1
    · intro W' hSw
      obtain ⟨hS1, hS2⟩ := hSw
      go_simp
      try with_reducible rfl
    try simp only [Act.put, List.setIfInBounds_toArray, List.set_cons_zero, List.set_cons_succ]
    refine wpAnyF_take (i := 6) (oi := ⟨_, _, _, _, _, _⟩) (v := ?_) rfl (by kernel_rfl) (by kernel_rfl) (by kernel_rfl) (by kernel_rfl) (by kernel_rfl) (fun _ _ _ h => h) (Or.inl ⟨by rfl, ?_⟩) (by assumption) ?_
    rotate_left 1
    · intro W' hSw
      obtain ⟨hS1, hS2⟩ := hSw
      go_simp
      try with_reducible rfl
    try simp only [Act.put, List.setIfInBounds_toArray, List.set_cons_zero, List.set_cons_succ]
    refine wpAnyF_take (i := 7) (oi := ⟨_, _, _, _, _, _⟩) (v := ?_) rfl (by kernel_rfl) (by kernel_rfl) (by kernel_rfl) (by kernel_rfl) (by kernel_rfl) (fun _ _ _ h => h) (Or.inl ⟨by rfl, ?_⟩) (by assumption) ?_
    rotate_left 1
    · intro W' hSw
      obtain ⟨hS1, hS2⟩ := hSw
      go_simp
      try with_reducible rfl
    try simp only [Act.put, List.setIfInBounds_toArray, List.set_cons_zero, List.set_cons_succ]
    refine wpAnyF_take (i := 8) (oi := ⟨_, _, _, _, _, _⟩) (v := ?_) rfl (by kernel_rfl) (by kernel_rfl) (by kernel_rfl) (by kernel_rfl) (by kernel_rfl) (fun _ _ _ h => h) (Or.inl ⟨by rfl, ?_⟩) (by assumption) ?_
    rotate_left 1
    · intro W' hSw
      obtain ⟨hS1, hS2⟩ := hSw
      go_simp
      try with_reducible rfl
    try simp only [Act.put, List.setIfInBounds_toArray, List.set_cons_zero, List.set_cons_succ]
    refine wpAnyF_one (o := ⟨_, _, _, _, _, _⟩) (i := 9) (by kernel_rfl) rfl rfl (fun K' hK => ?_)
    go_simp
    refine (mk_any _ m y).mono ?_
    rintro e9 V9 ⟨rfl, he9⟩
    dsimp only
    have q1 := (he9.blk (blk_lt q0)).trans q0
    have q2 := (he9.blk (blk_lt q3)).trans q3
    have hx9 := HX8.out.trans he9
    have HX9 := hid_of hx9
    clear he9 hx9 HX8
    refine hK.out _ _ ⟨q1, q2⟩ (fun hHeld => ?_)
    clear hK K'
    try simp only [Act.put, List.setIfInBounds_toArray, List.set_cons_zero, List.set_cons_succ]
    refine wpAnyF_last (o := ⟨_, _, _, _, _, _⟩) (by kernel_rfl) rfl (fun K' hK => ?_)
    go_simp
    refine hK.out _ _ ?_
    clear hK K'
    try simp only [Act.put, List.setIfInBounds_toArray, List.set_cons_zero, List.set_cons_succ]
    refine wpAnyF_done (by kernel_rfl) ?_ _

    clear hHeld q0 q3
    have HE2 := hid_of (HE.out V9 HX9.out)
    have fg9 : free V9 g = true := (free_of_heap (HX9.out.block _ (blk_lt_free hfg))).trans hfg
    clear HE HX9
    go_wp2_with fail
    refine ⟨rfl, rfl, ⟨rfl, i + 1, by omega, ?_, HE2⟩, ?_⟩
    · rfl
    · show n - ((i : Int) + 1).toNat < n - (intOf (F 2)).toNat
      rw [H2.out]
      show n - (i + 1) < n - i
      have := HM.out.1
      omega
end Go.Proofs.Qxb6500786aGreat
