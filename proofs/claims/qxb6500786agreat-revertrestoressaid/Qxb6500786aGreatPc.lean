import Derived.DeepKeys2
import Derived.Test.Qxb6500786aGreatPb
import Derived.Test.Qxb6500786aGreatLs

import Derived.StillTailTactics
import Derived.Deep.QuietTactic
import Derived.BigQuiet
import Derived.Deep.RegionHeld
import Derived.Deep.CutRange
import Derived.Laws.ResultCell
import Derived.Laws.Rows
import Derived.DeepKeys
import Derived.DataBytes
import Derived.Laws.StructEq
import Derived.Laws.AppendOwn
import Derived.Laws.MakeOwn
import Derived.Lib.AppendStr
set_option linter.unusedSimpArgs false
set_option linter.unusedVariables false
namespace Go.Proofs.Qxb6500786aGreat
open Go.RowKit Go.Blk
attribute [local go_sem ↓] execOp_load execOp_store execOp_alloc
attribute [local go_sem] Tryz.ld24 Tryz.st24 Tryz.ld36 Tryz.st36 Tryz.ld28 Tryz.st28 Tryz.ld32 Tryz.st32 Tryz.ld33 Tryz.st33 Tryz.ld34 Tryz.st34 Tryz.ld5 Tryz.st5 Tryz.ld31 Tryz.st31 Tryz.ld30 Tryz.st30 Tryz.ld41 Tryz.st41 Tryz.ld44 Tryz.st44 Tryz.ld4 Tryz.st4 Tryz.ld173 Tryz.st173 Tryz.ld174 Tryz.st174 Tryz.ld95 Tryz.st95 Tryz.ld45 Tryz.st45 Tryz.ld207 Tryz.st207 Tryz.ld3 Tryz.st3 Tryz.ld189 Tryz.st189 Tryz.ld2 Tryz.st2 Tryz.ld9 Tryz.st9 Tryz.ld12 Tryz.st12 Tryz.ld21 Tryz.st21 Tryz.ld22 Tryz.st22 Tryz.ld46 Tryz.st46 Tryz.ld92 Tryz.st92 Tryz.ld94 Tryz.st94 Tryz.ld96 Tryz.st96 Tryz.ld97 Tryz.st97 Tryz.ld105 Tryz.st105 Tryz.ld117 Tryz.st117 Tryz.ld122 Tryz.st122 Tryz.ld123 Tryz.st123 Tryz.ld133 Tryz.st133 Tryz.ld155 Tryz.st155 Tryz.ld163 Tryz.st163 Tryz.ld190 Tryz.st190 Tryz.ld197 Tryz.st197 Tryz.ld201 Tryz.st201 Tryz.ld202 Tryz.st202 Tryz.ld209 Tryz.st209 Tryz.ld216 Tryz.st216 Tryz.ld230 Tryz.st230 Tryz.ld238 Tryz.st238 Tryz.ld242 Tryz.st242 Tryz.ld251 Tryz.st251 Tryz.ld260 Tryz.st260 Tryz.ld286 Tryz.st286 Tryz.ld292 Tryz.st292 Tryz.ld298 Tryz.st298 Tryz.ld309 Tryz.st309 Tryz.ld35 Tryz.st35 Tryz.ld48 Tryz.st48 Tryz.ld47 Tryz.st47 Tryz.ld79 Tryz.st79 Tryz.ld177 Tryz.st177 Tryz.ld180 Tryz.st180 Tryz.ld231 Tryz.st231 Tryz.ld232 Tryz.st232 Tryz.ld26 Tryz.st26 Tryz.ld38 Tryz.st38 Tryz.ld40 Tryz.st40 Tryz.ld43 Tryz.st43 Tryz.ld50 Tryz.st50 Tryz.ld52 Tryz.st52 Tryz.ld54 Tryz.st54 Tryz.ld81 Tryz.st81 Tryz.ld112 Tryz.st112 Tryz.ld120 Tryz.st120 Tryz.ld176 Tryz.st176 Tryz.ld179 Tryz.st179 Tryz.ld182 Tryz.st182 Tryz.ld184 Tryz.st184 Tryz.ld234 Tryz.st234 Tryz.ld236 Tryz.st236 Tryz.ld240 Tryz.st240 Tryz.ld246 Tryz.st246 Tryz.ld249 Tryz.st249 Tryz.al35 Tryz.al48 Tryz.al47 Tryz.al79 Tryz.al177 Tryz.al180 Tryz.al231 Tryz.al232 Tryz.al26 Tryz.al38 Tryz.al40 Tryz.al43 Tryz.al50 Tryz.al52 Tryz.al54 Tryz.al81 Tryz.al112 Tryz.al120 Tryz.al176 Tryz.al179 Tryz.al182 Tryz.al184 Tryz.al234 Tryz.al236 Tryz.al240 Tryz.al246 Tryz.al249
attribute [local go_sem] Player.length_enc Player.ok_enc Player.all_get Player.all_set Player.hand_get Player.hand_set Player.aside_get Player.aside_set Message.length_enc Message.ok_enc Message.all_get Message.all_set Message.kind_get Message.kind_set Message.from__get Message.from__set Message.to__get Message.to__set Message.sender_get Message.sender_set Message.receiver_get Message.receiver_set Message.seq_get Message.seq_set Message.token_get Message.token_set Message.amount_get Message.amount_set Message.size_get Message.size_set Message.payload_get Message.payload_set Tx.length_enc Tx.ok_enc Tx.all_get Tx.all_set Tx.kind_get Tx.kind_set Tx.chain_get Tx.chain_set Tx.from__get Tx.from__set Tx.nonce_get Tx.nonce_set Tx.fee_get Tx.fee_set Tx.to__get Tx.to__set Tx.dest_get Tx.dest_set Tx.token_get Tx.token_set Tx.amount_get Tx.amount_set Tx.size_get Tx.size_set Tx.payload_get Tx.payload_set Tx.msg_get Tx.msg_set Tx.msg_kind_get Tx.msg_kind_set Tx.msg_from__get Tx.msg_from__set Tx.msg_to__get Tx.msg_to__set Tx.msg_sender_get Tx.msg_sender_set Tx.msg_receiver_get Tx.msg_receiver_set Tx.msg_seq_get Tx.msg_seq_set Tx.msg_token_get Tx.msg_token_set Tx.msg_amount_get Tx.msg_amount_set Tx.msg_size_get Tx.msg_size_set Tx.msg_payload_get Tx.msg_payload_set GOp.length_enc GOp.ok_enc GOp.all_get GOp.all_set GOp.kind_get GOp.kind_set GOp.tx_get GOp.tx_set GOp.txs_get GOp.txs_set GOp.gas_get GOp.gas_set GOp.acct_get GOp.acct_set GOp.token_get GOp.token_set GOp.chain_get GOp.chain_set GOp.seq_get GOp.seq_set GOp.tx_kind_get GOp.tx_kind_set GOp.tx_chain_get GOp.tx_chain_set GOp.tx_from__get GOp.tx_from__set GOp.tx_nonce_get GOp.tx_nonce_set GOp.tx_fee_get GOp.tx_fee_set GOp.tx_to__get GOp.tx_to__set GOp.tx_dest_get GOp.tx_dest_set GOp.tx_token_get GOp.tx_token_set GOp.tx_amount_get GOp.tx_amount_set GOp.tx_size_get GOp.tx_size_set GOp.tx_payload_get GOp.tx_payload_set GOp.tx_msg_get GOp.tx_msg_set GOp.tx_msg_kind_get GOp.tx_msg_kind_set GOp.tx_msg_from__get GOp.tx_msg_from__set GOp.tx_msg_to__get GOp.tx_msg_to__set GOp.tx_msg_sender_get GOp.tx_msg_sender_set GOp.tx_msg_receiver_get GOp.tx_msg_receiver_set GOp.tx_msg_seq_get GOp.tx_msg_seq_set GOp.tx_msg_token_get GOp.tx_msg_token_set GOp.tx_msg_amount_get GOp.tx_msg_amount_set GOp.tx_msg_size_get GOp.tx_msg_size_set GOp.tx_msg_payload_get GOp.tx_msg_payload_set Summary.length_enc Summary.ok_enc Summary.all_get Summary.all_set Summary.height_get Summary.height_set Summary.txs_get Summary.txs_set Summary.gas_get Summary.gas_set Summary.fees_get Summary.fees_set Summary.sent_get Summary.sent_set Summary.took_get Summary.took_set Summary.minted_get Summary.minted_set Summary.burned_get Summary.burned_set Summary.root_get Summary.root_set Detail.length_enc Detail.ok_enc Detail.all_get Detail.all_set Detail.code_get Detail.code_set Detail.have__get Detail.have__set Detail.need_get Detail.need_set Slot.length_enc Slot.ok_enc Slot.all_get Slot.all_set Slot.nonce_get Slot.nonce_set Slot.balances_get Slot.balances_set Tree.length_enc Tree.ok_enc Tree.all_get Tree.all_set Tree.leaves_get Tree.leaves_set Mark.length_enc Mark.ok_enc Mark.all_get Mark.all_set Mark.from__get Mark.from__set Mark.seq_get Mark.seq_set Receipt.length_enc Receipt.ok_enc Receipt.all_get Receipt.all_set Receipt.code_get Receipt.code_set Receipt.hash_get Receipt.hash_set Receipt.index_get Receipt.index_set Receipt.gas_get Receipt.gas_set Receipt.fee_get Receipt.fee_set Receipt.hasSent_get Receipt.hasSent_set Receipt.sent_get Receipt.sent_set Receipt.hasTook_get Receipt.hasTook_set Receipt.took_get Receipt.took_set Receipt.sent_kind_get Receipt.sent_kind_set Receipt.sent_from__get Receipt.sent_from__set Receipt.sent_to__get Receipt.sent_to__set Receipt.sent_sender_get Receipt.sent_sender_set Receipt.sent_receiver_get Receipt.sent_receiver_set Receipt.sent_seq_get Receipt.sent_seq_set Receipt.sent_token_get Receipt.sent_token_set Receipt.sent_amount_get Receipt.sent_amount_set Receipt.sent_size_get Receipt.sent_size_set Receipt.sent_payload_get Receipt.sent_payload_set Receipt.took_kind_get Receipt.took_kind_set Receipt.took_from__get Receipt.took_from__set Receipt.took_to__get Receipt.took_to__set Receipt.took_sender_get Receipt.took_sender_set Receipt.took_receiver_get Receipt.took_receiver_set Receipt.took_seq_get Receipt.took_seq_set Receipt.took_token_get Receipt.took_token_set Receipt.took_amount_get Receipt.took_amount_set Receipt.took_size_get Receipt.took_size_set Receipt.took_payload_get Receipt.took_payload_set Store.length_enc Store.ok_enc Store.all_get Store.all_set Store.now_get Store.now_set Store.saved_get Store.saved_set GState.length_enc GState.ok_enc GState.all_get GState.all_set GState.kv_get GState.kv_set GState.tree_get GState.tree_set GState.stale_get GState.stale_set GState.touched_get GState.touched_set GState.kv_now_get GState.kv_now_set GState.kv_saved_get GState.kv_saved_set GState.tree_leaves_get GState.tree_leaves_set History.length_enc History.ok_enc History.all_get History.all_set History.ring_get History.ring_set History.closed_get History.closed_set Ledger.length_enc Ledger.ok_enc Ledger.all_get Ledger.all_set Ledger.chain_get Ledger.chain_set Ledger.st_get Ledger.st_set Ledger.height_get Ledger.height_set Ledger.open__get Ledger.open__set Ledger.gasLimit_get Ledger.gasLimit_set Ledger.past_get Ledger.past_set Ledger.begun_get Ledger.begun_set Ledger.sent_get Ledger.sent_set Ledger.took_get Ledger.took_set Ledger.receipts_get Ledger.receipts_set Ledger.st_kv_get Ledger.st_kv_set Ledger.st_tree_get Ledger.st_tree_set Ledger.st_stale_get Ledger.st_stale_set Ledger.st_touched_get Ledger.st_touched_set Ledger.st_kv_now_get Ledger.st_kv_now_set Ledger.st_kv_saved_get Ledger.st_kv_saved_set Ledger.st_tree_leaves_get Ledger.st_tree_leaves_set Ledger.past_ring_get Ledger.past_ring_set Ledger.past_closed_get Ledger.past_closed_set Ledger.begun_kv_get Ledger.begun_kv_set Ledger.begun_tree_get Ledger.begun_tree_set Ledger.begun_stale_get Ledger.begun_stale_set Ledger.begun_touched_get Ledger.begun_touched_set Ledger.begun_kv_now_get Ledger.begun_kv_now_set Ledger.begun_kv_saved_get Ledger.begun_kv_saved_set Ledger.begun_tree_leaves_get Ledger.begun_tree_leaves_set Purse.length_enc Purse.ok_enc Purse.all_get Purse.all_set Purse.st_get Purse.st_set Purse.n_get Purse.n_set Purse.account_get Purse.account_set Purse.token_get Purse.token_set Purse.amount_get Purse.amount_set Plan.length_enc Plan.ok_enc Plan.all_get Plan.all_set Plan.purse_get Plan.purse_set Plan.nonce_get Plan.nonce_set Plan.gasUsed_get Plan.gasUsed_set Plan.fees_get Plan.fees_set Plan.hasSupply_get Plan.hasSupply_set Plan.token_get Plan.token_set Plan.supply_get Plan.supply_set Plan.flowAt_get Plan.flowAt_set Plan.flow_get Plan.flow_set Plan.receipt_get Plan.receipt_set Plan.purse_st_get Plan.purse_st_set Plan.purse_n_get Plan.purse_n_set Plan.purse_account_get Plan.purse_account_set Plan.purse_token_get Plan.purse_token_set Plan.purse_amount_get Plan.purse_amount_set Plan.receipt_code_get Plan.receipt_code_set Plan.receipt_hash_get Plan.receipt_hash_set Plan.receipt_index_get Plan.receipt_index_set Plan.receipt_gas_get Plan.receipt_gas_set Plan.receipt_fee_get Plan.receipt_fee_set Plan.receipt_hasSent_get Plan.receipt_hasSent_set Plan.receipt_sent_get Plan.receipt_sent_set Plan.receipt_hasTook_get Plan.receipt_hasTook_set Plan.receipt_took_get Plan.receipt_took_set Plan.receipt_sent_kind_get Plan.receipt_sent_kind_set Plan.receipt_sent_from__get Plan.receipt_sent_from__set Plan.receipt_sent_to__get Plan.receipt_sent_to__set Plan.receipt_sent_sender_get Plan.receipt_sent_sender_set Plan.receipt_sent_receiver_get Plan.receipt_sent_receiver_set Plan.receipt_sent_seq_get Plan.receipt_sent_seq_set Plan.receipt_sent_token_get Plan.receipt_sent_token_set Plan.receipt_sent_amount_get Plan.receipt_sent_amount_set Plan.receipt_sent_size_get Plan.receipt_sent_size_set Plan.receipt_sent_payload_get Plan.receipt_sent_payload_set Plan.receipt_took_kind_get Plan.receipt_took_kind_set Plan.receipt_took_from__get Plan.receipt_took_from__set Plan.receipt_took_to__get Plan.receipt_took_to__set Plan.receipt_took_sender_get Plan.receipt_took_sender_set Plan.receipt_took_receiver_get Plan.receipt_took_receiver_set Plan.receipt_took_seq_get Plan.receipt_took_seq_set Plan.receipt_took_token_get Plan.receipt_took_token_set Plan.receipt_took_amount_get Plan.receipt_took_amount_set Plan.receipt_took_size_get Plan.receipt_took_size_set Plan.receipt_took_payload_get Plan.receipt_took_payload_set Move.length_enc Move.ok_enc Move.all_get Move.all_set Move.account_get Move.account_set Move.token_get Move.token_set Move.down_get Move.down_set Move.amount_get Move.amount_set Books.length_enc Books.ok_enc Books.all_get Books.all_set Books.sums_get Books.sums_set Books.stored_get Books.stored_set Books.marks_get Books.marks_set Pair.length_enc Pair.ok_enc Pair.all_get Pair.all_set Pair.key_get Pair.key_set Pair.value_get Pair.value_set
attribute [local go_sem] size_put size_ext blk_put free_put blk_alloc free_alloc blk_drew free_drew blk_ext free_ext lookOr_some putOr_some segAt_some cellAt_some storeIn_some put_put put_alloc_new length_arr ok_arr_u8 ok_arr_u32 ok_arr_u64 ok_arr_i64 ok_arr_sl cellsV_agg cellsV_int cellsV_bool cellsV_string cellsV_pointer cellsV_slice cellsV_sl ok_int ok_bool ok_string ok_pointer ok_slice ok_sl toList_arr seg_arr set_arr nth_splice nth_splice0 seg_splice seg_splice0 splice_splice splice_splice0 length_splice_if
attribute [local go_sem ↓] execOp_box
attribute [local go_sem] box_run nth_arr_u8 put_arr_u8 blk_drewN free_drewN put_drewN blk_raw free_raw
theorem setV_mem {l : List PE} {i : Nat} {v : UInt64} {e : PE} (h : e ∈ setV l i v) : ∃ e' ∈ l, e'.a = e.a ∧ e'.t = e.t := by
  unfold setV at h
  split at h
  · rename_i e0 he0
    rcases List.mem_or_eq_of_mem_set h with h | h
    · exact ⟨e, h, rfl, rfl⟩
    · exact ⟨e0, List.mem_of_getElem? he0, by rw [h], by rw [h]⟩
  · exact ⟨e, h, rfl, rfl⟩
theorem slotL_mem {now : List Pair} {l : List PE} {a t : UInt8} {e : PE} (h : e ∈ slotL now l a t) : (e.a = a ∧ e.t = t) ∨ e ∈ l := by
  unfold slotL at h
  split at h
  · exact Or.inr h
  · rcases List.mem_append.1 h with h | h
    · exact Or.inr h
    · rw [List.mem_singleton] at h
      exact Or.inl (by rw [h]; exact ⟨rfl, rfl⟩)
theorem debR_mem {now : List Pair} {l : List PE} {a t : UInt8} {v : UInt64} {e : PE} (h : e ∈ (debR now l a t v).2) : (e.a = a ∧ e.t = t) ∨ ∃ e' ∈ l, e'.a = e.a ∧ e'.t = e.t := by
  have h1 : ∃ e' ∈ slotL now l a t, e'.a = e.a ∧ e'.t = e.t := by
    unfold debR at h
    split at h
    · exact setV_mem h
    · exact ⟨e, h, rfl, rfl⟩
  obtain ⟨e', h2, h3, h4⟩ := h1
  rcases slotL_mem h2 with h | h
  · exact Or.inl (by rw [← h3, ← h4]; exact h)
  · exact Or.inr ⟨e', h, h3, h4⟩
theorem crdR_mem {now : List Pair} {l : List PE} {a t : UInt8} {v : UInt64} {e : PE} (h : e ∈ (crdR now l a t v).2) : (e.a = a ∧ e.t = t) ∨ ∃ e' ∈ l, e'.a = e.a ∧ e'.t = e.t := by
  have h1 : ∃ e' ∈ slotL now l a t, e'.a = e.a ∧ e'.t = e.t := by
    unfold crdR at h
    split at h
    · exact setV_mem h
    · exact ⟨e, h, rfl, rfl⟩
  obtain ⟨e', h2, h3, h4⟩ := h1
  rcases slotL_mem h2 with h | h
  · exact Or.inl (by rw [← h3, ← h4]; exact h)
  · exact Or.inr ⟨e', h, h3, h4⟩
/-- What a sound shape says of the numbers. -/
structure ShpOk (x : Tx) : Prop where
  from_ : x.from_.toNat < 64
  trn : w8 x.kind = 1 → x.to_.toNat < 64 ∧ x.token.toNat < 4
  brn : w8 x.kind = 2 → x.token.toNat < 4
  mnt : w8 x.kind = 3 → x.msg.receiver.toNat < 64 ∧ x.msg.token.toNat < 4
  seq : w8 x.kind = 3 ∨ w8 x.kind = 5 → x.msg.seq.toNat < 281474976710656
theorem val_tok {t : UInt8} {a : UInt64} (h : valF t a = 0) : t.toNat < 4 := by
  unfold valF at h
  split at h
  · omega
  · rename_i h1
    unfold w8 at h1
    omega
theorem shp_ok {c : UInt8} {x : Tx} (h : shpF c x = 0) : ShpOk x := by
  have he : envF c x = 0 := by
    unfold shpF at h
    by_cases e : envF c x = 0
    · exact e
    · rw [if_neg e] at h; exact h
  have hk : kndF c x = 0 := by
    unfold shpF at h
    rw [if_pos he] at h
    by_cases e : kndF c x = 0
    · exact e
    · rw [if_neg e] at h; exact h
  refine ⟨?_, ?_, ?_, ?_, shp_seq h⟩
  · unfold envF at he
    split at he
    · omega
    · split at he
      · split at he
        · omega
        · rename_i h1
          unfold w8 at h1
          omega
      · omega
  · intro k
    unfold kndF trnF at hk
    rw [if_pos k] at hk
    split at hk
    · omega
    · rename_i h1
      split at hk
      · omega
      · unfold w8 at h1
        exact ⟨by omega, val_tok hk⟩
  · intro k
    unfold kndF burF at hk
    rw [if_neg (by omega), if_pos k] at hk
    split at hk
    · exact val_tok hk
    · rename_i h1; exact absurd hk h1
  · intro k
    unfold kndF mntF at hk
    rw [if_neg (by omega), if_neg (by omega), if_neg (by omega), if_pos k] at hk
    by_cases hi : inbF c x.msg 2 = 0
    · rw [if_pos hi] at hk
      by_cases hv : valF x.msg.token x.msg.amount = 0
      · refine ⟨?_, val_tok hv⟩
        unfold inbF at hi
        split at hi
        · split at hi
          · split at hi
            · split at hi
              · omega
              · split at hi
                · omega
                · split at hi
                  · omega
                  · rename_i h1
                    unfold w8 at h1
                    omega
            · omega
          · omega
        · omega
      · rw [if_neg hv] at hk; exact absurd hk hv
    · rw [if_neg hi] at hk; exact absurd hk hi
theorem feeL_mem {now : List Pair} {x : Tx} {e : PE} (h : e ∈ feeL now x) : e.a = x.from_ ∧ e.t = 0 := by
  rcases debR_mem h with h | ⟨e', h, _⟩
  · exact h
  · cases h
/-- The accounts and tokens of an accepted transaction's purse. -/
theorem purL_mem {now : List Pair} {x : Tx} (hs : ShpOk x) {e : PE} (h : e ∈ purL now x) : e.a.toNat < 64 ∧ e.t.toNat < 4 := by
  have z64 : (0 : UInt8).toNat < 64 := by decide
  have z4 : (0 : UInt8).toNat < 4 := by decide
  have h1 : ∀ {e}, e ∈ feeL now x → e.a.toNat < 64 ∧ e.t.toNat < 4 := fun h => by
    obtain ⟨e1, e2⟩ := feeL_mem h
    rw [e1, e2]
    exact ⟨hs.from_, z4⟩
  have h2 : ∀ {e}, e ∈ kndL now (feeL now x) x → e.a.toNat < 64 ∧ e.t.toNat < 4 := by
    intro e h
    unfold kndL at h
    split at h
    · rename_i k
      rcases crdR_mem h with h | ⟨e', h, q1, q2⟩
      · rw [h.1, h.2]; exact hs.trn k
      · rcases debR_mem h with h | ⟨e'', h, q3, q4⟩
        · rw [← q1, ← q2, h.1, h.2]; exact ⟨hs.from_, (hs.trn k).2⟩
        · rw [← q1, ← q2, ← q3, ← q4]; exact h1 h
    · split at h
      · rename_i k
        rcases debR_mem h with h | ⟨e'', h, q3, q4⟩
        · rw [h.1, h.2]; exact ⟨hs.from_, hs.brn k⟩
        · rw [← q3, ← q4]; exact h1 h
      · split at h
        · exact h1 h
        · split at h
          · rename_i k
            rcases crdR_mem h with h | ⟨e'', h, q3, q4⟩
            · rw [h.1, h.2]; exact hs.mnt k
            · rw [← q3, ← q4]; exact h1 h
          · exact h1 h
  rcases crdR_mem h with h | ⟨e', h, q1, q2⟩
  · rw [h.1, h.2]; exact ⟨z64, z4⟩
  · rw [← q1, ← q2]; exact h2 h
/-- What Apply needs of a ledger. -/
structure ApI (L : PLg) : Prop where
  c3 : (ldF L.st.now (keyC 3)).toNat ≤ L.receipts.length
  c4 : (ldF L.st.now (keyC 4)).toNat ≤ L.sent.length
  c5 : (ldF L.st.now (keyC 5)).toNat ≤ L.took.length
  l3 : L.receipts.length ≤ 1000000000
  l4 : L.sent.length ≤ 1000000000
  l5 : L.took.length ≤ 1000000000
  nl : L.st.now.length + 20 < 1000000000
/-- The plan with the transaction's hash. -/
noncomputable def plnH (L : PLg) (bl : Nat) (x : Tx) : Plan := { plnF L bl x with receipt := { rcpF L x with hash := hashF x } }
noncomputable def appR (L : PLg) (x : Tx) : Receipt := { rcpF L x with hash := hashF x }
/-- Apply, plainly. -/
noncomputable def appF (L : PLg) (x : Tx) : PLg × Receipt :=
  if (judR L 0 x).1 = 0 then ({ enactF L x (plnH L 0 x) (purL L.st.now x) with receipts := L.receipts.take (ldF L.st.now (keyC 3)).toNat ++ [appR L x] }, appR L x)
  else (L, { Receipt.zero with code := (judR L 0 x).1, hash := hashF x })
theorem plnF_rcp (L : PLg) (bl : Nat) (x : Tx) : (plnF L bl x).receipt = rcpF L x := by
  unfold plnF
  split
  · rfl
  · split <;> rfl
theorem plnF_purse (L : PLg) (bl : Nat) (x : Tx) : (plnF L bl x).purse = pOf (some ⟨bl, 1, none⟩) (purL L.st.now x) := by
  unfold plnF
  split
  · rfl
  · split <;> rfl
theorem plnF_flow {L : PLg} {bl : Nat} {x : Tx} : (plnF L bl x).flowAt.toNat < 300 ∧ ((plnF L bl x).hasSupply = true → 7 ≤ (plnF L bl x).flowAt.toNat) := by
  have h1 := fU_nat (k := 11) (by decide) x.token
  have h2 := fU_nat (k := 7) (by decide) x.msg.token
  have e1 : (11 : UInt64).toNat = 11 := rfl
  have e2 : (7 : UInt64).toNat = 7 := rfl
  have b1 := w8_lt x.token
  have b2 := w8_lt x.msg.token
  unfold plnF
  split
  · dsimp only; exact ⟨by omega, fun _ => by omega⟩
  · split
    · dsimp only; exact ⟨by omega, fun _ => by omega⟩
    · refine ⟨?_, fun h => ?_⟩
      · show (0 : UInt64).toNat < 300
        decide
      · cases h
theorem rcpF_index (L : PLg) (x : Tx) : (rcpF L x).index = ldF L.st.now (keyC 3) := by
  unfold rcpF
  repeat' split
  all_goals rfl
theorem appR_index (L : PLg) (x : Tx) : (appR L x).index = ldF L.st.now (keyC 3) := rcpF_index L x
theorem rcpF_st (L : PLg) (x : Tx) : ¬ ((rcpF L x).hasSent = true ∧ (rcpF L x).hasTook = true) := by
  rintro ⟨h1, h2⟩
  revert h1 h2
  unfold rcpF
  repeat' split
  all_goals (intro h1 h2; first | (cases h1; done) | (cases h2; done))
theorem rcpF_took {L : PLg} {x : Tx} (h : (rcpF L x).hasTook = true) : (rcpF L x).took = x.msg ∧ ¬ w8 x.kind = 1 ∧ ¬ w8 x.kind = 2 ∧ ¬ w8 x.kind = 4 := by
  revert h
  unfold rcpF
  split
  · intro h; cases h
  · split
    · intro h; cases h
    · split
      · intro h; cases h
      · rename_i a b c
        intro _; exact ⟨rfl, a, b, c⟩
theorem ldF_enS_C {L : PLg} {bl : Nat} {x : Tx} (c : UInt64) (hc : 4 ≤ c.toNat ∧ c.toNat < 7) : ldF (enS L.st x (plnH L bl x) (purL L.st.now x)).now (keyC c) = ldF L.st.now (keyC c) := by
  obtain ⟨f1, f2⟩ := plnF_flow (L := L) (bl := bl) (x := x)
  have nc : ∀ d : UInt64, d.toNat < 300 → d.toNat ≠ c.toNat → keyC c ≠ keyC d := fun d hd hn e => hn (by rw [keyC_inj (by omega) (by omega) e])
  refine ldF_enS _ _ _ _ (tbl_ne (by rw [tbl_C, tbl_N]; omega)) (fun e _ => tbl_ne (by rw [tbl_C, tbl_B]; omega)) (fun h => ⟨tbl_ne (by rw [tbl_C, tbl_S]; omega), nc _ f1 ?_⟩) (nc 1 (by decide) ?_) (nc 2 (by decide) ?_) (nc 3 (by decide) ?_)
  · have := f2 h
    show (plnF L bl x).flowAt.toNat ≠ _
    omega
  · show 1 ≠ _; omega
  · show 2 ≠ _; omega
  · show 3 ≠ _; omega
theorem acc_enR {L : PLg} {bl : Nat} {x : Tx} (hj : JOk L x) (hI : ApI L) : EnR L x (plnH L bl x) (purL L.st.now x) := by
  have hs := shp_ok hj.shp
  have hkd := shp_kind hj.shp
  obtain ⟨f1, f2⟩ := plnF_flow (L := L) (bl := bl) (x := x)
  refine ⟨purL_len _ _, fun e he => (purL_mem hs he).1, hs.from_, ?_, rcpF_st L x, fun _ => ?_, fun h => ?_, hI.nl⟩
  · show (plnF L bl x).flowAt.toNat < _
    omega
  · rw [ldF_enS_C 4 (by decide)]
    exact ⟨hI.c4, hI.l4⟩
  · rw [ldF_enS_C 5 (by decide)]
    obtain ⟨h1, h2, h3, h4⟩ := rcpF_took h
    refine ⟨hI.c5, hI.l5, ?_⟩
    show (rcpF L x).took.seq.toNat < _
    rw [h1]
    exact hs.seq (by omega)
end Go.Proofs.Qxb6500786aGreat
