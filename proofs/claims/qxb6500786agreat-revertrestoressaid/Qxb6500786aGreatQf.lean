import Derived.Test.Qxb6500786aGreatQe

import Derived.StillTailTactics
import Derived.Deep.QuietTactic
import Derived.BigQuiet
import Derived.Deep.RegionHeld
import Derived.Deep.CutRange
import Derived.Laws.ResultCell
import Derived.Laws.Rows
import Derived.DeepKeys
import Derived.DataBytes
import Derived.Laws.StructEq
import Derived.Laws.AppendOwn
import Derived.Laws.MakeOwn
import Derived.Lib.AppendStr
set_option linter.unusedSimpArgs false
set_option linter.unusedVariables false
namespace Go.Proofs.Qxb6500786aGreat
open Go.RowKit Go.Blk
attribute [local go_sem ↓] execOp_load execOp_store execOp_alloc
attribute [local go_sem] Tryz.ld24 Tryz.st24 Tryz.ld36 Tryz.st36 Tryz.ld28 Tryz.st28 Tryz.ld32 Tryz.st32 Tryz.ld33 Tryz.st33 Tryz.ld34 Tryz.st34 Tryz.ld5 Tryz.st5 Tryz.ld31 Tryz.st31 Tryz.ld30 Tryz.st30 Tryz.ld41 Tryz.st41 Tryz.ld44 Tryz.st44 Tryz.ld4 Tryz.st4 Tryz.ld173 Tryz.st173 Tryz.ld174 Tryz.st174 Tryz.ld95 Tryz.st95 Tryz.ld45 Tryz.st45 Tryz.ld207 Tryz.st207 Tryz.ld3 Tryz.st3 Tryz.ld189 Tryz.st189 Tryz.ld2 Tryz.st2 Tryz.ld9 Tryz.st9 Tryz.ld12 Tryz.st12 Tryz.ld21 Tryz.st21 Tryz.ld22 Tryz.st22 Tryz.ld46 Tryz.st46 Tryz.ld92 Tryz.st92 Tryz.ld94 Tryz.st94 Tryz.ld96 Tryz.st96 Tryz.ld97 Tryz.st97 Tryz.ld105 Tryz.st105 Tryz.ld117 Tryz.st117 Tryz.ld122 Tryz.st122 Tryz.ld123 Tryz.st123 Tryz.ld133 Tryz.st133 Tryz.ld155 Tryz.st155 Tryz.ld163 Tryz.st163 Tryz.ld190 Tryz.st190 Tryz.ld197 Tryz.st197 Tryz.ld201 Tryz.st201 Tryz.ld202 Tryz.st202 Tryz.ld209 Tryz.st209 Tryz.ld216 Tryz.st216 Tryz.ld230 Tryz.st230 Tryz.ld238 Tryz.st238 Tryz.ld242 Tryz.st242 Tryz.ld251 Tryz.st251 Tryz.ld260 Tryz.st260 Tryz.ld286 Tryz.st286 Tryz.ld292 Tryz.st292 Tryz.ld298 Tryz.st298 Tryz.ld309 Tryz.st309 Tryz.ld35 Tryz.st35 Tryz.ld48 Tryz.st48 Tryz.ld47 Tryz.st47 Tryz.ld79 Tryz.st79 Tryz.ld177 Tryz.st177 Tryz.ld180 Tryz.st180 Tryz.ld231 Tryz.st231 Tryz.ld232 Tryz.st232 Tryz.ld26 Tryz.st26 Tryz.ld38 Tryz.st38 Tryz.ld40 Tryz.st40 Tryz.ld43 Tryz.st43 Tryz.ld50 Tryz.st50 Tryz.ld52 Tryz.st52 Tryz.ld54 Tryz.st54 Tryz.ld81 Tryz.st81 Tryz.ld112 Tryz.st112 Tryz.ld120 Tryz.st120 Tryz.ld176 Tryz.st176 Tryz.ld179 Tryz.st179 Tryz.ld182 Tryz.st182 Tryz.ld184 Tryz.st184 Tryz.ld234 Tryz.st234 Tryz.ld236 Tryz.st236 Tryz.ld240 Tryz.st240 Tryz.ld246 Tryz.st246 Tryz.ld249 Tryz.st249 Tryz.al35 Tryz.al48 Tryz.al47 Tryz.al79 Tryz.al177 Tryz.al180 Tryz.al231 Tryz.al232 Tryz.al26 Tryz.al38 Tryz.al40 Tryz.al43 Tryz.al50 Tryz.al52 Tryz.al54 Tryz.al81 Tryz.al112 Tryz.al120 Tryz.al176 Tryz.al179 Tryz.al182 Tryz.al184 Tryz.al234 Tryz.al236 Tryz.al240 Tryz.al246 Tryz.al249
attribute [local go_sem] Player.length_enc Player.ok_enc Player.all_get Player.all_set Player.hand_get Player.hand_set Player.aside_get Player.aside_set Message.length_enc Message.ok_enc Message.all_get Message.all_set Message.kind_get Message.kind_set Message.from__get Message.from__set Message.to__get Message.to__set Message.sender_get Message.sender_set Message.receiver_get Message.receiver_set Message.seq_get Message.seq_set Message.token_get Message.token_set Message.amount_get Message.amount_set Message.size_get Message.size_set Message.payload_get Message.payload_set Tx.length_enc Tx.ok_enc Tx.all_get Tx.all_set Tx.kind_get Tx.kind_set Tx.chain_get Tx.chain_set Tx.from__get Tx.from__set Tx.nonce_get Tx.nonce_set Tx.fee_get Tx.fee_set Tx.to__get Tx.to__set Tx.dest_get Tx.dest_set Tx.token_get Tx.token_set Tx.amount_get Tx.amount_set Tx.size_get Tx.size_set Tx.payload_get Tx.payload_set Tx.msg_get Tx.msg_set Tx.msg_kind_get Tx.msg_kind_set Tx.msg_from__get Tx.msg_from__set Tx.msg_to__get Tx.msg_to__set Tx.msg_sender_get Tx.msg_sender_set Tx.msg_receiver_get Tx.msg_receiver_set Tx.msg_seq_get Tx.msg_seq_set Tx.msg_token_get Tx.msg_token_set Tx.msg_amount_get Tx.msg_amount_set Tx.msg_size_get Tx.msg_size_set Tx.msg_payload_get Tx.msg_payload_set GOp.length_enc GOp.ok_enc GOp.all_get GOp.all_set GOp.kind_get GOp.kind_set GOp.tx_get GOp.tx_set GOp.txs_get GOp.txs_set GOp.gas_get GOp.gas_set GOp.acct_get GOp.acct_set GOp.token_get GOp.token_set GOp.chain_get GOp.chain_set GOp.seq_get GOp.seq_set GOp.tx_kind_get GOp.tx_kind_set GOp.tx_chain_get GOp.tx_chain_set GOp.tx_from__get GOp.tx_from__set GOp.tx_nonce_get GOp.tx_nonce_set GOp.tx_fee_get GOp.tx_fee_set GOp.tx_to__get GOp.tx_to__set GOp.tx_dest_get GOp.tx_dest_set GOp.tx_token_get GOp.tx_token_set GOp.tx_amount_get GOp.tx_amount_set GOp.tx_size_get GOp.tx_size_set GOp.tx_payload_get GOp.tx_payload_set GOp.tx_msg_get GOp.tx_msg_set GOp.tx_msg_kind_get GOp.tx_msg_kind_set GOp.tx_msg_from__get GOp.tx_msg_from__set GOp.tx_msg_to__get GOp.tx_msg_to__set GOp.tx_msg_sender_get GOp.tx_msg_sender_set GOp.tx_msg_receiver_get GOp.tx_msg_receiver_set GOp.tx_msg_seq_get GOp.tx_msg_seq_set GOp.tx_msg_token_get GOp.tx_msg_token_set GOp.tx_msg_amount_get GOp.tx_msg_amount_set GOp.tx_msg_size_get GOp.tx_msg_size_set GOp.tx_msg_payload_get GOp.tx_msg_payload_set Summary.length_enc Summary.ok_enc Summary.all_get Summary.all_set Summary.height_get Summary.height_set Summary.txs_get Summary.txs_set Summary.gas_get Summary.gas_set Summary.fees_get Summary.fees_set Summary.sent_get Summary.sent_set Summary.took_get Summary.took_set Summary.minted_get Summary.minted_set Summary.burned_get Summary.burned_set Summary.root_get Summary.root_set Detail.length_enc Detail.ok_enc Detail.all_get Detail.all_set Detail.code_get Detail.code_set Detail.have__get Detail.have__set Detail.need_get Detail.need_set Slot.length_enc Slot.ok_enc Slot.all_get Slot.all_set Slot.nonce_get Slot.nonce_set Slot.balances_get Slot.balances_set Tree.length_enc Tree.ok_enc Tree.all_get Tree.all_set Tree.leaves_get Tree.leaves_set Mark.length_enc Mark.ok_enc Mark.all_get Mark.all_set Mark.from__get Mark.from__set Mark.seq_get Mark.seq_set Receipt.length_enc Receipt.ok_enc Receipt.all_get Receipt.all_set Receipt.code_get Receipt.code_set Receipt.hash_get Receipt.hash_set Receipt.index_get Receipt.index_set Receipt.gas_get Receipt.gas_set Receipt.fee_get Receipt.fee_set Receipt.hasSent_get Receipt.hasSent_set Receipt.sent_get Receipt.sent_set Receipt.hasTook_get Receipt.hasTook_set Receipt.took_get Receipt.took_set Receipt.sent_kind_get Receipt.sent_kind_set Receipt.sent_from__get Receipt.sent_from__set Receipt.sent_to__get Receipt.sent_to__set Receipt.sent_sender_get Receipt.sent_sender_set Receipt.sent_receiver_get Receipt.sent_receiver_set Receipt.sent_seq_get Receipt.sent_seq_set Receipt.sent_token_get Receipt.sent_token_set Receipt.sent_amount_get Receipt.sent_amount_set Receipt.sent_size_get Receipt.sent_size_set Receipt.sent_payload_get Receipt.sent_payload_set Receipt.took_kind_get Receipt.took_kind_set Receipt.took_from__get Receipt.took_from__set Receipt.took_to__get Receipt.took_to__set Receipt.took_sender_get Receipt.took_sender_set Receipt.took_receiver_get Receipt.took_receiver_set Receipt.took_seq_get Receipt.took_seq_set Receipt.took_token_get Receipt.took_token_set Receipt.took_amount_get Receipt.took_amount_set Receipt.took_size_get Receipt.took_size_set Receipt.took_payload_get Receipt.took_payload_set Store.length_enc Store.ok_enc Store.all_get Store.all_set Store.now_get Store.now_set Store.saved_get Store.saved_set GState.length_enc GState.ok_enc GState.all_get GState.all_set GState.kv_get GState.kv_set GState.tree_get GState.tree_set GState.stale_get GState.stale_set GState.touched_get GState.touched_set GState.kv_now_get GState.kv_now_set GState.kv_saved_get GState.kv_saved_set GState.tree_leaves_get GState.tree_leaves_set History.length_enc History.ok_enc History.all_get History.all_set History.ring_get History.ring_set History.closed_get History.closed_set Ledger.length_enc Ledger.ok_enc Ledger.all_get Ledger.all_set Ledger.chain_get Ledger.chain_set Ledger.st_get Ledger.st_set Ledger.height_get Ledger.height_set Ledger.open__get Ledger.open__set Ledger.gasLimit_get Ledger.gasLimit_set Ledger.past_get Ledger.past_set Ledger.begun_get Ledger.begun_set Ledger.sent_get Ledger.sent_set Ledger.took_get Ledger.took_set Ledger.receipts_get Ledger.receipts_set Ledger.st_kv_get Ledger.st_kv_set Ledger.st_tree_get Ledger.st_tree_set Ledger.st_stale_get Ledger.st_stale_set Ledger.st_touched_get Ledger.st_touched_set Ledger.st_kv_now_get Ledger.st_kv_now_set Ledger.st_kv_saved_get Ledger.st_kv_saved_set Ledger.st_tree_leaves_get Ledger.st_tree_leaves_set Ledger.past_ring_get Ledger.past_ring_set Ledger.past_closed_get Ledger.past_closed_set Ledger.begun_kv_get Ledger.begun_kv_set Ledger.begun_tree_get Ledger.begun_tree_set Ledger.begun_stale_get Ledger.begun_stale_set Ledger.begun_touched_get Ledger.begun_touched_set Ledger.begun_kv_now_get Ledger.begun_kv_now_set Ledger.begun_kv_saved_get Ledger.begun_kv_saved_set Ledger.begun_tree_leaves_get Ledger.begun_tree_leaves_set Purse.length_enc Purse.ok_enc Purse.all_get Purse.all_set Purse.st_get Purse.st_set Purse.n_get Purse.n_set Purse.account_get Purse.account_set Purse.token_get Purse.token_set Purse.amount_get Purse.amount_set Plan.length_enc Plan.ok_enc Plan.all_get Plan.all_set Plan.purse_get Plan.purse_set Plan.nonce_get Plan.nonce_set Plan.gasUsed_get Plan.gasUsed_set Plan.fees_get Plan.fees_set Plan.hasSupply_get Plan.hasSupply_set Plan.token_get Plan.token_set Plan.supply_get Plan.supply_set Plan.flowAt_get Plan.flowAt_set Plan.flow_get Plan.flow_set Plan.receipt_get Plan.receipt_set Plan.purse_st_get Plan.purse_st_set Plan.purse_n_get Plan.purse_n_set Plan.purse_account_get Plan.purse_account_set Plan.purse_token_get Plan.purse_token_set Plan.purse_amount_get Plan.purse_amount_set Plan.receipt_code_get Plan.receipt_code_set Plan.receipt_hash_get Plan.receipt_hash_set Plan.receipt_index_get Plan.receipt_index_set Plan.receipt_gas_get Plan.receipt_gas_set Plan.receipt_fee_get Plan.receipt_fee_set Plan.receipt_hasSent_get Plan.receipt_hasSent_set Plan.receipt_sent_get Plan.receipt_sent_set Plan.receipt_hasTook_get Plan.receipt_hasTook_set Plan.receipt_took_get Plan.receipt_took_set Plan.receipt_sent_kind_get Plan.receipt_sent_kind_set Plan.receipt_sent_from__get Plan.receipt_sent_from__set Plan.receipt_sent_to__get Plan.receipt_sent_to__set Plan.receipt_sent_sender_get Plan.receipt_sent_sender_set Plan.receipt_sent_receiver_get Plan.receipt_sent_receiver_set Plan.receipt_sent_seq_get Plan.receipt_sent_seq_set Plan.receipt_sent_token_get Plan.receipt_sent_token_set Plan.receipt_sent_amount_get Plan.receipt_sent_amount_set Plan.receipt_sent_size_get Plan.receipt_sent_size_set Plan.receipt_sent_payload_get Plan.receipt_sent_payload_set Plan.receipt_took_kind_get Plan.receipt_took_kind_set Plan.receipt_took_from__get Plan.receipt_took_from__set Plan.receipt_took_to__get Plan.receipt_took_to__set Plan.receipt_took_sender_get Plan.receipt_took_sender_set Plan.receipt_took_receiver_get Plan.receipt_took_receiver_set Plan.receipt_took_seq_get Plan.receipt_took_seq_set Plan.receipt_took_token_get Plan.receipt_took_token_set Plan.receipt_took_amount_get Plan.receipt_took_amount_set Plan.receipt_took_size_get Plan.receipt_took_size_set Plan.receipt_took_payload_get Plan.receipt_took_payload_set Move.length_enc Move.ok_enc Move.all_get Move.all_set Move.account_get Move.account_set Move.token_get Move.token_set Move.down_get Move.down_set Move.amount_get Move.amount_set Books.length_enc Books.ok_enc Books.all_get Books.all_set Books.sums_get Books.sums_set Books.stored_get Books.stored_set Books.marks_get Books.marks_set Pair.length_enc Pair.ok_enc Pair.all_get Pair.all_set Pair.key_get Pair.key_set Pair.value_get Pair.value_set
attribute [local go_sem] size_put size_ext blk_put free_put blk_alloc free_alloc blk_drew free_drew blk_ext free_ext lookOr_some putOr_some segAt_some cellAt_some storeIn_some put_put put_alloc_new length_arr ok_arr_u8 ok_arr_u32 ok_arr_u64 ok_arr_i64 ok_arr_sl cellsV_agg cellsV_int cellsV_bool cellsV_string cellsV_pointer cellsV_slice cellsV_sl ok_int ok_bool ok_string ok_pointer ok_slice ok_sl toList_arr seg_arr set_arr nth_splice nth_splice0 seg_splice seg_splice0 splice_splice splice_splice0 length_splice_if
attribute [local go_sem ↓] execOp_box
attribute [local go_sem] box_run nth_arr_u8 put_arr_u8 blk_drewN free_drewN put_drewN blk_raw free_raw
def clrK : List UInt64 := [keyC 7, keyC 11, keyC 8, keyC 12, keyC 9, keyC 13, keyC 10, keyC 14, keyC 3, keyC 1, keyC 2, keyC 4, keyC 5]
theorem clrA_fold (l : List Pair) : clrA l = clrK.foldl (fun l k => saveF l k 0) l := by
  unfold clrA clrN clrN clrN clrN clrN clrK
  rw [show (7 + UInt64.ofNat 0 : UInt64) = 7 by decide, show (7 + UInt64.ofNat 1 : UInt64) = 8 by decide, show (7 + UInt64.ofNat 2 : UInt64) = 9 by decide, show (7 + UInt64.ofNat 3 : UInt64) = 10 by decide, show (11 + UInt64.ofNat 0 : UInt64) = 11 by decide, show (11 + UInt64.ofNat 1 : UInt64) = 12 by decide, show (11 + UInt64.ofNat 2 : UInt64) = 13 by decide, show (11 + UInt64.ofNat 3 : UInt64) = 14 by decide]
  rfl
theorem ldF_clr (k : UInt64) : ∀ (ks : List UInt64) (l : List Pair), ldF (ks.foldl (fun l k => saveF l k 0) l) k = if k ∈ ks then 0 else ldF l k
  | [], l => by simp
  | k0 :: ks, l => by
    rw [List.foldl_cons, ldF_clr k ks, ldF_save]
    by_cases h : k ∈ ks
    · rw [if_pos h, if_pos (List.mem_cons_of_mem _ h)]
    · rw [if_neg h]
      by_cases e : k = k0
      · rw [if_pos e, if_pos (by rw [e]; exact List.mem_cons_self ..)]
      · rw [if_neg e, if_neg (by simp [e, h])]
theorem clr_idx {i : UInt64} (h1 : 1 ≤ i.toNat) (h2 : i.toNat ≤ 14) (h6 : i ≠ 6) : keyC i ∈ clrK := by
  have h6' : i.toNat ≠ 6 := fun e => h6 (UInt64.toNat_inj.1 e)
  have : i = 1 ∨ i = 2 ∨ i = 3 ∨ i = 4 ∨ i = 5 ∨ i = 7 ∨ i = 8 ∨ i = 9 ∨ i = 10 ∨ i = 11 ∨ i = 12 ∨ i = 13 ∨ i = 14 := by
    have h : i.toNat = 1 ∨ i.toNat = 2 ∨ i.toNat = 3 ∨ i.toNat = 4 ∨ i.toNat = 5 ∨ i.toNat = 7 ∨ i.toNat = 8 ∨ i.toNat = 9 ∨ i.toNat = 10 ∨ i.toNat = 11 ∨ i.toNat = 12 ∨ i.toNat = 13 ∨ i.toNat = 14 := by omega
    have g : ∀ j : UInt64, i.toNat = j.toNat → i = j := fun j e => UInt64.toNat_inj.1 e
    rcases h with h | h | h | h | h | h | h | h | h | h | h | h | h
    · exact .inl (g 1 h)
    · exact .inr (.inl (g 2 h))
    · exact .inr (.inr (.inl (g 3 h)))
    · exact .inr (.inr (.inr (.inl (g 4 h))))
    · exact .inr (.inr (.inr (.inr (.inl (g 5 h)))))
    · exact .inr (.inr (.inr (.inr (.inr (.inl (g 7 h))))))
    · exact .inr (.inr (.inr (.inr (.inr (.inr (.inl (g 8 h)))))))
    · exact .inr (.inr (.inr (.inr (.inr (.inr (.inr (.inl (g 9 h))))))))
    · exact .inr (.inr (.inr (.inr (.inr (.inr (.inr (.inr (.inl (g 10 h)))))))))
    · exact .inr (.inr (.inr (.inr (.inr (.inr (.inr (.inr (.inr (.inl (g 11 h))))))))))
    · exact .inr (.inr (.inr (.inr (.inr (.inr (.inr (.inr (.inr (.inr (.inl (g 12 h)))))))))))
    · exact .inr (.inr (.inr (.inr (.inr (.inr (.inr (.inr (.inr (.inr (.inr (.inl (g 13 h))))))))))))
    · exact .inr (.inr (.inr (.inr (.inr (.inr (.inr (.inr (.inr (.inr (.inr (.inr (g 14 h))))))))))))
  unfold clrK
  rcases this with rfl | rfl | rfl | rfl | rfl | rfl | rfl | rfl | rfl | rfl | rfl | rfl | rfl <;> simp
/-- The block's counters are zero. -/
def Zer (l : List Pair) : Prop := ∀ i : UInt64, 1 ≤ i.toNat → i.toNat ≤ 14 → i ≠ 6 → ldF l (keyC i) = 0
theorem clrA_zer (l : List Pair) : Zer (clrA l) := fun i h1 h2 h6 => by
  rw [clrA_fold, ldF_clr, if_pos (clr_idx h1 h2 h6)]
theorem clrA_keep (l : List Pair) {k : UInt64} (h : ∀ i : UInt64, i ≠ 6 → k ≠ keyC i) : ldF (clrA l) k = ldF l k := by
  rw [clrA_fold, ldF_clr, if_neg]
  unfold clrK
  simp only [List.mem_cons, List.not_mem_nil, or_false]
  rintro (e | e | e | e | e | e | e | e | e | e | e | e | e)
  all_goals exact h _ (by decide) e
theorem clrA_C6 (l : List Pair) : ldF (clrA l) (keyC 6) = ldF l (keyC 6) := by
  rw [clrA_fold, ldF_clr, if_neg]
  unfold clrK
  simp only [List.mem_cons, List.not_mem_nil, or_false]
  have nc : ∀ d : UInt64, d.toNat < 300 → d ≠ 6 → keyC 6 ≠ keyC d := fun d h2 h3 => by rw [Ne, kCC (by decide) h2]; exact fun q => h3 q.symm
  rintro (e | e | e | e | e | e | e | e | e | e | e | e | e)
  all_goals exact nc _ (by decide) (by decide) e
theorem cntM_clr (l : List Pair) : cntM (clrA l) = cntM l := by
  have : ∀ (ks : List UInt64) (l : List Pair), (∀ k ∈ ks, tbl k ≠ 4) → cntM (ks.foldl (fun l k => saveF l k 0) l) = cntM l := by
    intro ks
    induction ks with
    | nil => intro l _; rfl
    | cons k ks ih =>
      intro l h
      rw [List.foldl_cons, ih _ (fun q hq => h q (List.mem_cons_of_mem _ hq)), cntM_save (h k (List.mem_cons_self ..))]
  rw [clrA_fold]
  refine this _ _ (fun k hk => ?_)
  unfold clrK at hk
  simp only [List.mem_cons, List.not_mem_nil, or_false] at hk
  rcases hk with rfl | rfl | rfl | rfl | rfl | rfl | rfl | rfl | rfl | rfl | rfl | rfl | rfl
  all_goals (rw [tbl_C]; decide)
theorem Zer.fU {l : List Pair} (h : Zer l) {t : UInt8} (ht : t.toNat < 4) : ldF l (keyC (fU 7 t)) = 0 ∧ ldF l (keyC (fU 11 t)) = 0 := by
  have e7 := fU7_nt ht
  have e11 := fU11_nt ht
  refine ⟨h _ (by omega) (by omega) (fun e => ?_), h _ (by omega) (by omega) (fun e => ?_)⟩
  · rw [e] at e7
    have : (6 : UInt64).toNat = 6 := rfl
    omega
  · rw [e] at e11
    have : (6 : UInt64).toNat = 6 := rfl
    omega
/-- The books of a closed block. -/
theorem Sto.clr {c : UInt8} {gl : UInt64} {bg : List Pair} {n : Nat} {l : List Pair} (h : Sto c gl bg n l) : Sto c 0 (clrA l) n (clrA l) := by
  have z := clrA_zer l
  have zz : ∀ i : UInt64, 1 ≤ i.toNat → i.toNat ≤ 14 → i ≠ 6 → (ldF (clrA l) (keyC i)).toNat = 0 := fun i h1 h2 h6 => by rw [z i h1 h2 h6]; rfl
  have hB : balB (clrA l) = balB l := by
    funext a t
    exact clrA_keep l (fun i _ => ne_of_false (kBC a t i))
  have hS : ∀ t, ldF (clrA l) (keyS t) = ldF l (keyS t) := fun t => clrA_keep l (fun i _ => ne_of_false (kSC t i))
  refine ⟨h.wf.clrA, Nat.le_trans (clrA_le l) h.len, fun a => ?_, fun t ht => ?_, fun t ht => ?_, ?_, ?_, fun t ht => ?_, fun t ht => ?_, fun t ht => ?_, ?_, ?_, ?_, ?_, ?_, ?_⟩
  · rw [clrA_keep l (fun i _ => ne_of_false (kNC a i))]; exact h.non a
  · rw [hB, hS]; exact h.sum t ht
  · rw [hS]; exact h.sup t ht
  · rw [zz 1 (by decide) (by decide) (by decide)]; exact Nat.zero_le _
  · rw [zz 2 (by decide) (by decide) (by decide)]; exact Nat.zero_le _
  · rw [(z.fU ht).1]; exact Nat.zero_le _
  · rw [(z.fU ht).2]; exact Nat.zero_le _
  · rw [(z.fU ht).1, (z.fU ht).2]
  · rw [zz 4 (by decide) (by decide) (by decide), zz 5 (by decide) (by decide) (by decide)]; exact Nat.zero_le _
  · rw [zz 5 (by decide) (by decide) (by decide)]; exact Nat.zero_le _
  · rw [zz 3 (by decide) (by decide) (by decide)]; exact Nat.zero_le _
  · rw [zz 3 (by decide) (by decide) (by decide)]; exact Nat.zero_le _
  · rw [clrA_C6, cntM_clr]; exact h.mrk
  · rw [clrA_C6]; exact h.mkn
/-- The block's lists grow from level to level. -/
def CLe (l l' : List Pair) : Prop := (ldF l (keyC 3)).toNat ≤ (ldF l' (keyC 3)).toNat ∧ (ldF l (keyC 4)).toNat ≤ (ldF l' (keyC 4)).toNat ∧ (ldF l (keyC 5)).toNat ≤ (ldF l' (keyC 5)).toNat
theorem CLe.refl (l : List Pair) : CLe l l := ⟨Nat.le_refl _, Nat.le_refl _, Nat.le_refl _⟩
theorem CLe.trans {a b c : List Pair} (h : CLe a b) (h2 : CLe b c) : CLe a c := ⟨Nat.le_trans h.1 h2.1, Nat.le_trans h.2.1 h2.2.1, Nat.le_trans h.2.2 h2.2.2⟩
/-- The invariant of a ledger: n bounds what was done. -/
structure LI (n : Nat) (L : PLg) : Prop where
  ch : rolB L.chain = true
  lv : ∀ l ∈ L.st.saved ++ [L.st.now], Sto L.chain L.gasLimit (if L.open_ = true then L.begun.now else L.st.now) n l
  mon : (L.st.saved ++ [L.st.now]).Pairwise CLe
  dep : L.st.saved.length ≤ 8
  cl : L.open_ = false → Zer L.st.now ∧ L.st.saved = [] ∧ L.gasLimit = 0 ∧ L.begun = zS
  op : L.open_ = true → Sto L.chain 0 L.begun.now n L.begun.now ∧ Zer L.begun.now ∧ L.gasLimit ≠ 0 ∧ L.gasLimit.toNat ≤ 10000 ∧ L.begun.saved = []
  c3 : (ldF L.st.now (keyC 3)).toNat ≤ L.receipts.length
  c4 : (ldF L.st.now (keyC 4)).toNat ≤ L.sent.length
  c5 : (ldF L.st.now (keyC 5)).toNat ≤ L.took.length
  l3 : L.receipts.length ≤ n
  l4 : L.sent.length ≤ n
  l5 : L.took.length ≤ n
  ht : L.height.toNat ≤ n
  pst : L.past.closed.toNat + (if L.open_ = true then 1 else 0) = L.height.toNat
  rok : ∀ r ∈ L.receipts, r.code = 0
section
variable {n : Nat} {L : PLg}
theorem LI.mono {n' : Nat} (h : LI n L) (hn : n ≤ n') : LI n' L :=
  ⟨h.ch, fun l hl => (h.lv l hl).mono hn, h.mon, h.dep, h.cl, fun o => ⟨(h.op o).1.mono hn, (h.op o).2⟩, h.c3, h.c4, h.c5, Nat.le_trans h.l3 hn, Nat.le_trans h.l4 hn, Nat.le_trans h.l5 hn, Nat.le_trans h.ht hn, h.pst, h.rok⟩
theorem LI.now (h : LI n L) : Sto L.chain L.gasLimit (if L.open_ = true then L.begun.now else L.st.now) n L.st.now := h.lv _ (List.mem_append_right _ (List.mem_singleton.2 rfl))
theorem LI.sav (h : LI n L) {l : List Pair} (hl : l ∈ L.st.saved) : Sto L.chain L.gasLimit (if L.open_ = true then L.begun.now else L.st.now) n l := h.lv _ (List.mem_append_left _ hl)
theorem LI.opn (h : LI n L) (h0 : 0 < L.st.saved.length) : L.open_ = true := by
  cases ho : L.open_ with
  | true => rfl
  | false =>
    have := (h.cl ho).2.1
    rw [this] at h0
    cases h0
theorem LI.api (h : LI n L) (k : Nat) (hn : n + k ≤ 10000000) : ApK L k := by
  have h1 := h.now.len
  have h3 := h.l3
  have h4 := h.l4
  have h5 := h.l5
  exact ⟨h.c3, h.c4, h.c5, by omega, by omega, by omega, by omega⟩
theorem LI.savl (h : LI n L) (hn : n ≤ 10000000) : ∀ l ∈ L.st.saved, l.length ≤ 1000000000 := fun l hl => by
  have := (h.sav hl).len
  omega
theorem LI.bgl (h : LI n L) (hn : n ≤ 10000000) : L.begun.now.length ≤ 1000000000 := by
  cases ho : L.open_ with
  | true => have := (h.op ho).1.len; omega
  | false => rw [(h.cl ho).2.2.2]; exact Nat.zero_le _
end
theorem enactF_same (L : PLg) (x : Tx) (P : Plan) (l : List PE) : (enactF L x P l).chain = L.chain ∧ (enactF L x P l).begun = L.begun ∧ (enactF L x P l).open_ = L.open_ ∧ (enactF L x P l).gasLimit = L.gasLimit ∧ (enactF L x P l).height = L.height ∧ (enactF L x P l).past = L.past ∧ (enactF L x P l).sent.length ≤ L.sent.length + 1 ∧ (enactF L x P l).took.length ≤ L.took.length + 1 := by
  unfold enactF
  split
  · exact ⟨rfl, rfl, rfl, rfl, rfl, rfl, take_len2 _, Nat.le_succ _⟩
  · split
    · exact ⟨rfl, rfl, rfl, rfl, rfl, rfl, Nat.le_succ _, take_len2 _⟩
    · exact ⟨rfl, rfl, rfl, rfl, rfl, rfl, Nat.le_succ _, Nat.le_succ _⟩
theorem rcpF_code (L : PLg) (x : Tx) : (rcpF L x).code = 0 := by
  unfold rcpF
  (repeat' split) <;> rfl
theorem pairwise_last {α : Type} {R : α → α → Prop} (ht : ∀ {a b c}, R a b → R b c → R a c) {l : List α} {x y : α} (h : (l ++ [x]).Pairwise R) (hr : R x y) : (l ++ [y]).Pairwise R := by
  rw [List.pairwise_append] at h ⊢
  refine ⟨h.1, List.pairwise_singleton _ _, fun a ha b hb => ?_⟩
  rw [List.mem_singleton.1 hb]
  exact ht (h.2.2 a ha x (List.mem_singleton.2 rfl)) hr
theorem endL_f (L : PLg) : (endL L).chain = L.chain ∧ (endL L).st.now = clrA L.st.now ∧ (endL L).st.saved = L.st.saved ∧ (endL L).open_ = false ∧ (endL L).gasLimit = 0 ∧ (endL L).begun = zS ∧ (endL L).sent = [] ∧ (endL L).took = [] ∧ (endL L).receipts = [] ∧ (endL L).height = L.height ∧ (endL L).past.closed = L.height := by
  simp only [endL, rootS, pushF, smT, and_self]
attribute [local irreducible] updL topD leafF
theorem LI.evt {n k : Nat} {L L' : PLg} (h : LI n L) (he : Evt L L' k) (hn : n + k < 10000000) : LI (n + k) L' := by
  cases he with
  | app x hj h0 =>
    have hk := appF_ApK (x := x) (h.api 1 (by omega))
    rw [appF_acc h0] at hk
    obtain ⟨s1, s2, s3, s4, s5, s6, s7, s8⟩ := enactF_same L x (plnH L 0 x) (purL L.st.now x)
    have sv : (accL L x).st.saved = L.st.saved := enactF_sv L x (plnH L 0 x) (purL L.st.now x)
    obtain ⟨a1, a2, a3⟩ := acc_lo hj
    obtain ⟨a4, a5, a6⟩ := acc_mid hj
    have hc3 := h.now.c3n
    have htx := h.now.txs
    have cle : CLe L.st.now (accL L x).st.now := by
      refine ⟨?_, ?_, ?_⟩
      · rw [a3, u64_add (by show _ + 1 < _; omega)]; exact Nat.le_succ _
      · rw [a4]
        split
        · rw [u64_add (by show _ + 1 < _; omega)]; exact Nat.le_succ _
        · exact Nat.le_refl _
      · rw [a5]
        split
        · rw [u64_add (by show _ + 1 < _; omega)]; exact Nat.le_succ _
        · exact Nat.le_refl _
    have e1 : (accL L x).chain = L.chain := s1
    have e2 : (accL L x).begun = L.begun := s2
    have e3 : (accL L x).open_ = L.open_ := s3
    have e4 : (accL L x).gasLimit = L.gasLimit := s4
    have e5 : (accL L x).height = L.height := s5
    have e6 : (accL L x).past = L.past := s6
    have hl3 := h.l3
    have hl4 := h.l4
    have hl5 := h.l5
    have hht := h.ht
    have ho : L.open_ = true := hj.opn
    refine ⟨by rw [e1]; exact h.ch, ?_, ?_, by rw [sv]; exact h.dep, fun q => ?_, fun q => ?_, hk.c3, hk.c4, hk.c5, ?_, ?_, ?_, ?_, ?_, ?_⟩
    · rw [sv, e1, e2, e3, e4, if_pos ho]
      intro l hl
      rcases List.mem_append.1 hl with g | g
      · have := h.sav g
        rw [if_pos ho] at this
        exact this.mono (by omega)
      · rw [List.mem_singleton.1 g]
        have := h.now
        rw [if_pos ho] at this
        exact this.acc hj (by omega)
    · rw [sv]
      exact pairwise_last (R := CLe) (x := L.st.now) (y := (accL L x).st.now) (fun a b => CLe.trans a b) h.mon cle
    · rw [e3, ho] at q; cases q
    · rw [e1, e2, e4]
      obtain ⟨o1, o2⟩ := h.op ho
      exact ⟨o1.mono (by omega), o2⟩
    · have : (accL L x).receipts.length ≤ L.receipts.length + 1 := take_len2 _
      omega
    · have : (accL L x).sent.length ≤ L.sent.length + 1 := s7
      omega
    · have : (accL L x).took.length ≤ L.took.length + 1 := s8
      omega
    · rw [e5]; omega
    · rw [e6, e3, e5]; exact h.pst
    · intro r hr
      have hr' : r ∈ L.receipts.take (ldF L.st.now (keyC 3)).toNat ++ [appR L x] := hr
      rcases List.mem_append.1 hr' with g | g
      · exact h.rok r (List.mem_of_mem_take g)
      · rw [List.mem_singleton.1 g]
        exact rcpF_code L x
  | beg g ho hg hg2 =>
    obtain ⟨z, sv, gl, bz⟩ := h.cl ho
    have hnow := h.now
    rw [if_neg (by rw [ho]; simp), gl] at hnow
    have hht := h.ht
    have hhh : (L.height + 1).toNat = L.height.toNat + 1 := u64_add (by show _ + 1 < _; omega)
    have zz : ∀ i : UInt64, 1 ≤ i.toNat → i.toNat ≤ 14 → i ≠ 6 → (ldF L.st.now (keyC i)).toNat = 0 := fun i h1 h2 h6 => by rw [z i h1 h2 h6]; rfl
    refine ⟨h.ch, ?_, h.mon, h.dep, fun q => (by cases q), fun _ => ⟨hnow.mono (by omega), z, hg, hg2, sv⟩, ?_, ?_, ?_, Nat.zero_le _, Nat.zero_le _, Nat.zero_le _, ?_, ?_, fun r hr => (by cases hr)⟩
    · intro l hl
      have hl' : l ∈ L.st.saved ++ [L.st.now] := hl
      rw [sv] at hl'
      have e : l = L.st.now := by simpa using hl'
      rw [e]
      show Sto L.chain g L.st.now (n + 1) L.st.now
      have hm := hnow.mono (n' := n + 1) (by omega)
      exact ⟨hm.wf, hm.len, hm.non, hm.sum, hm.sup, by rw [zz 1 (by decide) (by decide) (by decide)]; exact Nat.zero_le _, hm.fee, hm.mnt, hm.brn, hm.flw, hm.txs, hm.tk, hm.c3n, hm.gtx, hm.mrk, hm.mkn⟩
    · show (ldF L.st.now (keyC 3)).toNat ≤ 0
      rw [zz 3 (by decide) (by decide) (by decide)]; exact Nat.le_refl _
    · show (ldF L.st.now (keyC 4)).toNat ≤ 0
      rw [zz 4 (by decide) (by decide) (by decide)]; exact Nat.le_refl _
    · show (ldF L.st.now (keyC 5)).toNat ≤ 0
      rw [zz 5 (by decide) (by decide) (by decide)]; exact Nat.le_refl _
    · show (L.height + 1).toNat ≤ n + 1
      omega
    · have hp := h.pst
      rw [if_neg (by rw [ho]; simp)] at hp
      show L.past.closed.toNat + 1 = (L.height + 1).toNat
      omega
  | en ho hs =>
    have hp := h.pst
    rw [if_pos ho] at hp
    have hnow := h.now
    have z := clrA_zer L.st.now
    have zz : ∀ i : UInt64, 1 ≤ i.toNat → i.toNat ≤ 14 → i ≠ 6 → (ldF (clrA L.st.now) (keyC i)).toNat = 0 := fun i h1 h2 h6 => by rw [z i h1 h2 h6]; rfl
    obtain ⟨f1, f2, f3, f4, f5, f6, f7, f8, f9, f10, f11⟩ := endL_f L
    obtain ⟨T, hT⟩ : ∃ T, T = endL L := ⟨_, rfl⟩
    rw [← hT] at f1 f2 f3 f4 f5 f6 f7 f8 f9 f10 f11 ⊢
    clear hT
    rw [hs] at f3
    refine ⟨by rw [f1]; exact h.ch, ?_, ?_, by rw [f3]; exact Nat.zero_le _, fun _ => ⟨by rw [f2]; exact z, f3, f5, f6⟩, fun q => ?_, ?_, ?_, ?_, by rw [f9]; exact Nat.zero_le _, by rw [f7]; exact Nat.zero_le _, by rw [f8]; exact Nat.zero_le _, by rw [f10]; exact h.ht, ?_, fun r hr => ?_⟩
    · intro l hl
      rw [f2, f3] at hl
      have e : l = clrA L.st.now := by simpa using hl
      rw [e, f1, f2, f4, f5, if_neg (by simp)]
      exact hnow.clr
    · rw [f3]
      exact List.pairwise_singleton _ _
    · rw [f4] at q; cases q
    · rw [f2, zz 3 (by decide) (by decide) (by decide)]; exact Nat.zero_le _
    · rw [f2, zz 4 (by decide) (by decide) (by decide)]; exact Nat.zero_le _
    · rw [f2, zz 5 (by decide) (by decide) (by decide)]; exact Nat.zero_le _
    · rw [f4, f10, f11, if_neg (by simp), Nat.add_zero]
    · rw [f9] at hr; cases hr
  | ck ho h8 =>
    have e : (ckF L.st).2 = { L.st with saved := L.st.saved ++ [L.st.now], touched := L.st.touched.set (L.st.saved.length + 1) 0 } := by
      unfold ckF; rw [dif_pos h8]
    rw [e]
    refine ⟨h.ch, ?_, ?_, ?_, fun q => ?_, h.op, h.c3, h.c4, h.c5, h.l3, h.l4, h.l5, h.ht, h.pst, h.rok⟩
    · intro l hl
      have hl' : l ∈ (L.st.saved ++ [L.st.now]) ++ [L.st.now] := hl
      rcases List.mem_append.1 hl' with g | g
      · exact h.lv l g
      · rw [List.mem_singleton.1 g]; exact h.now
    · show ((L.st.saved ++ [L.st.now]) ++ [L.st.now]).Pairwise CLe
      rw [List.pairwise_append]
      refine ⟨h.mon, List.pairwise_singleton _ _, fun a ha b hb => ?_⟩
      rw [List.mem_singleton.1 hb]
      rcases List.mem_append.1 ha with g | g
      · exact (List.pairwise_append.1 h.mon).2.2 a g _ (List.mem_singleton.2 rfl)
      · rw [List.mem_singleton.1 g]; exact CLe.refl _
    · show (L.st.saved ++ [L.st.now]).length ≤ 8
      rw [List.length_append]; show _ + 1 ≤ 8; omega
    · have q' : L.open_ = false := q
      rw [ho] at q'; cases q'
  | rv h0 h8 =>
    have ho := h.opn h0
    obtain ⟨s, l0, hsl⟩ : ∃ s l0, L.st.saved = s ++ [l0] := by
      cases hq : L.st.saved.reverse with
      | nil => rw [List.reverse_eq_nil_iff] at hq; rw [hq] at h0; cases h0
      | cons a b => exact ⟨b.reverse, a, by rw [← List.reverse_reverse L.st.saved, hq, List.reverse_cons]⟩
    have hlen : L.st.saved.length = s.length + 1 := by rw [hsl, List.length_append]; rfl
    obtain ⟨S, hS⟩ : ∃ S, S = (rvF L.st).2 := ⟨_, rfl⟩
    have en : S.now = l0 := by
      rw [hS]; unfold rvF; rw [dif_pos ⟨h0, by omega⟩]
      show (L.st.saved.getLast?).getD [] = l0
      rw [hsl, List.getLast?_concat]; rfl
    have es : S.saved = s := by
      rw [hS]; unfold rvF; rw [dif_pos ⟨h0, by omega⟩]
      show L.st.saved.take (L.st.saved.length - 1) = s
      rw [hlen, hsl]
      simp
    rw [← hS]
    have hmem : ∀ l, l ∈ S.saved ++ [S.now] → l ∈ L.st.saved := fun l hl => by rw [en, es] at hl; rw [hsl]; exact hl
    have hcl := (List.pairwise_append.1 h.mon).2.2 l0 (by rw [hsl]; simp) _ (List.mem_singleton.2 rfl)
    refine ⟨h.ch, ?_, ?_, ?_, fun q => ?_, h.op, ?_, ?_, ?_, h.l3, h.l4, h.l5, h.ht, h.pst, h.rok⟩
    · intro l hl
      have := h.sav (hmem l hl)
      rw [if_pos ho] at this
      show Sto L.chain L.gasLimit (if L.open_ = true then L.begun.now else S.now) n l
      rw [if_pos ho]; exact this
    · show (S.saved ++ [S.now]).Pairwise CLe
      rw [en, es, ← hsl]
      exact (List.pairwise_append.1 h.mon).1
    · show S.saved.length ≤ 8
      rw [es]; omega
    · have q' : L.open_ = false := q
      rw [ho] at q'; cases q'
    · show (ldF S.now (keyC 3)).toNat ≤ _
      rw [en]; exact Nat.le_trans hcl.1 h.c3
    · show (ldF S.now (keyC 4)).toNat ≤ _
      rw [en]; exact Nat.le_trans hcl.2.1 h.c4
    · show (ldF S.now (keyC 5)).toNat ≤ _
      rw [en]; exact Nat.le_trans hcl.2.2 h.c5
  | cm h0 h8 =>
    have ho := h.opn h0
    obtain ⟨S, hS⟩ : ∃ S, S = (cmF L.st).2 := ⟨_, rfl⟩
    have en : S.now = L.st.now := by rw [hS]; unfold cmF; rw [dif_pos ⟨h0, by omega⟩]
    have es : S.saved = L.st.saved.take (L.st.saved.length - 1) := by rw [hS]; unfold cmF; rw [dif_pos ⟨h0, by omega⟩]
    rw [← hS]
    refine ⟨h.ch, ?_, ?_, ?_, fun q => ?_, h.op, ?_, ?_, ?_, h.l3, h.l4, h.l5, h.ht, h.pst, h.rok⟩
    · intro l hl
      have hl' : l ∈ L.st.saved ++ [L.st.now] := by
        have hl2 : l ∈ S.saved ++ [S.now] := hl
        rw [en, es] at hl2
        rcases List.mem_append.1 hl2 with g | g
        · exact List.mem_append_left _ (List.mem_of_mem_take g)
        · exact List.mem_append_right _ g
      have := h.lv l hl'
      rw [if_pos ho] at this
      show Sto L.chain L.gasLimit (if L.open_ = true then L.begun.now else S.now) n l
      rw [if_pos ho]; exact this
    · show (S.saved ++ [S.now]).Pairwise CLe
      rw [en, es]
      exact h.mon.sublist (List.Sublist.append_right (List.take_sublist _ _) _)
    · show S.saved.length ≤ 8
      rw [es, List.length_take]; omega
    · have q' : L.open_ = false := q
      rw [ho] at q'; cases q'
    · show (ldF S.now (keyC 3)).toNat ≤ _
      rw [en]; exact h.c3
    · show (ldF S.now (keyC 4)).toNat ≤ _
      rw [en]; exact h.c4
    · show (ldF S.now (keyC 5)).toNat ≤ _
      rw [en]; exact h.c5
  | ab ho =>
    obtain ⟨o1, z, o3, o4, o5⟩ := h.op ho
    have hp := h.pst
    rw [if_pos ho] at hp
    have hht := h.ht
    have zz : ∀ i : UInt64, 1 ≤ i.toNat → i.toNat ≤ 14 → i ≠ 6 → (ldF L.begun.now (keyC i)).toNat = 0 := fun i h1 h2 h6 => by rw [z i h1 h2 h6]; rfl
    have hhh : (L.height - 1).toNat = L.height.toNat - 1 := u64_sub (by show 1 ≤ _; omega)
    refine ⟨h.ch, ?_, ?_, ?_, fun _ => ⟨z, o5, rfl, rfl⟩, fun q => (by cases q), ?_, ?_, ?_, Nat.zero_le _, Nat.zero_le _, Nat.zero_le _, ?_, ?_, fun r hr => (by cases hr)⟩
    · intro l hl
      have hl' : l ∈ L.begun.saved ++ [L.begun.now] := hl
      rw [o5] at hl'
      have e : l = L.begun.now := by simpa using hl'
      rw [e]
      exact o1
    · show (L.begun.saved ++ [L.begun.now]).Pairwise CLe
      rw [o5]
      exact List.pairwise_singleton _ _
    · show L.begun.saved.length ≤ 8
      rw [o5]; exact Nat.zero_le _
    · show (ldF L.begun.now (keyC 3)).toNat ≤ 0
      rw [zz 3 (by decide) (by decide) (by decide)]; exact Nat.le_refl _
    · show (ldF L.begun.now (keyC 4)).toNat ≤ 0
      rw [zz 4 (by decide) (by decide) (by decide)]; exact Nat.le_refl _
    · show (ldF L.begun.now (keyC 5)).toNat ≤ 0
      rw [zz 5 (by decide) (by decide) (by decide)]; exact Nat.le_refl _
    · show (L.height - 1).toNat ≤ n
      omega
    · show L.past.closed.toNat + 0 = (L.height - 1).toNat
      omega
  | rot => exact ⟨h.ch, h.lv, h.mon, h.dep, h.cl, h.op, h.c3, h.c4, h.c5, h.l3, h.l4, h.l5, h.ht, h.pst, h.rok⟩
  | clo =>
    have q3 := h.c3
    have q4 := h.c4
    have q5 := h.c5
    have p3 := h.l3
    have p4 := h.l4
    have p5 := h.l5
    refine ⟨h.ch, h.lv, h.mon, h.dep, h.cl, h.op, ?_, ?_, ?_, ?_, ?_, ?_, h.ht, h.pst, fun r hr => h.rok r (List.mem_of_mem_take hr)⟩
    all_goals (show _ ≤ _; simp only [cloL, List.length_take]; omega)
theorem LI.evs {n k : Nat} {L L' : PLg} (h : LI n L) (he : Evs L L' k) (hn : n + k < 10000000) : LI (n + k) L' := by
  induction he with
  | nil => exact h
  | snoc a b ih =>
    rw [← Nat.add_assoc]
    exact (ih (by omega)).evt b (by omega)
theorem newL_li (c : UInt8) (hc : rolB c = true) : LI 0 (newL c) := by
  have z : ∀ k, ldF ([] : List Pair) k = 0 := fun k => rfl
  have zt : ∀ k t, sumB (balB []) t k = 0 := fun k t => by
    induction k with
    | zero => rfl
    | succ k ih => unfold sumB; rw [ih]; rfl
  have hS : Sto c 0 [] 0 [] := ⟨⟨List.nodup_nil, fun p hp => by cases hp⟩, Nat.zero_le _, fun a => Nat.le_refl _, fun t ht => zt 64 t, fun t ht => Nat.zero_le _, Nat.le_refl _, Nat.zero_le _, fun t ht => Nat.zero_le _, fun t ht => Nat.zero_le _, fun t ht => rfl, Nat.le_refl _, Nat.le_refl _, Nat.le_refl _, Nat.le_refl _, rfl, Nat.le_refl _⟩
  refine ⟨hc, ?_, List.pairwise_singleton _ _, Nat.zero_le _, fun _ => ⟨fun i _ _ _ => rfl, rfl, rfl, rfl⟩, fun q => (by cases q), Nat.le_refl _, Nat.le_refl _, Nat.le_refl _, Nat.le_refl _, Nat.le_refl _, Nat.le_refl _, Nat.le_refl _, rfl, fun r hr => (by cases hr)⟩
  intro l hl
  have : l = [] := by simpa [newL, newS] using hl
  rw [this]
  exact hS
end Go.Proofs.Qxb6500786aGreat
