import Derived.Test.Qxb6500786aGreatQi

import Derived.StillTailTactics
import Derived.Deep.QuietTactic
import Derived.BigQuiet
import Derived.Deep.RegionHeld
import Derived.Deep.CutRange
import Derived.Laws.ResultCell
import Derived.Laws.Rows
import Derived.DeepKeys
import Derived.DataBytes
import Derived.Laws.StructEq
import Derived.Laws.AppendOwn
import Derived.Laws.MakeOwn
import Derived.Lib.AppendStr
set_option linter.unusedSimpArgs false
set_option linter.unusedVariables false
namespace Go.Proofs.Qxb6500786aGreat
open Go.RowKit Go.Blk
attribute [local go_sem ↓] execOp_load execOp_store execOp_alloc
attribute [local go_sem] Tryz.ld24 Tryz.st24 Tryz.ld36 Tryz.st36 Tryz.ld28 Tryz.st28 Tryz.ld32 Tryz.st32 Tryz.ld33 Tryz.st33 Tryz.ld34 Tryz.st34 Tryz.ld5 Tryz.st5 Tryz.ld31 Tryz.st31 Tryz.ld30 Tryz.st30 Tryz.ld41 Tryz.st41 Tryz.ld44 Tryz.st44 Tryz.ld4 Tryz.st4 Tryz.ld173 Tryz.st173 Tryz.ld174 Tryz.st174 Tryz.ld95 Tryz.st95 Tryz.ld45 Tryz.st45 Tryz.ld207 Tryz.st207 Tryz.ld3 Tryz.st3 Tryz.ld189 Tryz.st189 Tryz.ld2 Tryz.st2 Tryz.ld9 Tryz.st9 Tryz.ld12 Tryz.st12 Tryz.ld21 Tryz.st21 Tryz.ld22 Tryz.st22 Tryz.ld46 Tryz.st46 Tryz.ld92 Tryz.st92 Tryz.ld94 Tryz.st94 Tryz.ld96 Tryz.st96 Tryz.ld97 Tryz.st97 Tryz.ld105 Tryz.st105 Tryz.ld117 Tryz.st117 Tryz.ld122 Tryz.st122 Tryz.ld123 Tryz.st123 Tryz.ld133 Tryz.st133 Tryz.ld155 Tryz.st155 Tryz.ld163 Tryz.st163 Tryz.ld190 Tryz.st190 Tryz.ld197 Tryz.st197 Tryz.ld201 Tryz.st201 Tryz.ld202 Tryz.st202 Tryz.ld209 Tryz.st209 Tryz.ld216 Tryz.st216 Tryz.ld230 Tryz.st230 Tryz.ld238 Tryz.st238 Tryz.ld242 Tryz.st242 Tryz.ld251 Tryz.st251 Tryz.ld260 Tryz.st260 Tryz.ld286 Tryz.st286 Tryz.ld292 Tryz.st292 Tryz.ld298 Tryz.st298 Tryz.ld309 Tryz.st309 Tryz.ld35 Tryz.st35 Tryz.ld48 Tryz.st48 Tryz.ld47 Tryz.st47 Tryz.ld79 Tryz.st79 Tryz.ld177 Tryz.st177 Tryz.ld180 Tryz.st180 Tryz.ld231 Tryz.st231 Tryz.ld232 Tryz.st232 Tryz.ld26 Tryz.st26 Tryz.ld38 Tryz.st38 Tryz.ld40 Tryz.st40 Tryz.ld43 Tryz.st43 Tryz.ld50 Tryz.st50 Tryz.ld52 Tryz.st52 Tryz.ld54 Tryz.st54 Tryz.ld81 Tryz.st81 Tryz.ld112 Tryz.st112 Tryz.ld120 Tryz.st120 Tryz.ld176 Tryz.st176 Tryz.ld179 Tryz.st179 Tryz.ld182 Tryz.st182 Tryz.ld184 Tryz.st184 Tryz.ld234 Tryz.st234 Tryz.ld236 Tryz.st236 Tryz.ld240 Tryz.st240 Tryz.ld246 Tryz.st246 Tryz.ld249 Tryz.st249 Tryz.al35 Tryz.al48 Tryz.al47 Tryz.al79 Tryz.al177 Tryz.al180 Tryz.al231 Tryz.al232 Tryz.al26 Tryz.al38 Tryz.al40 Tryz.al43 Tryz.al50 Tryz.al52 Tryz.al54 Tryz.al81 Tryz.al112 Tryz.al120 Tryz.al176 Tryz.al179 Tryz.al182 Tryz.al184 Tryz.al234 Tryz.al236 Tryz.al240 Tryz.al246 Tryz.al249
attribute [local go_sem] Player.length_enc Player.ok_enc Player.all_get Player.all_set Player.hand_get Player.hand_set Player.aside_get Player.aside_set Message.length_enc Message.ok_enc Message.all_get Message.all_set Message.kind_get Message.kind_set Message.from__get Message.from__set Message.to__get Message.to__set Message.sender_get Message.sender_set Message.receiver_get Message.receiver_set Message.seq_get Message.seq_set Message.token_get Message.token_set Message.amount_get Message.amount_set Message.size_get Message.size_set Message.payload_get Message.payload_set Tx.length_enc Tx.ok_enc Tx.all_get Tx.all_set Tx.kind_get Tx.kind_set Tx.chain_get Tx.chain_set Tx.from__get Tx.from__set Tx.nonce_get Tx.nonce_set Tx.fee_get Tx.fee_set Tx.to__get Tx.to__set Tx.dest_get Tx.dest_set Tx.token_get Tx.token_set Tx.amount_get Tx.amount_set Tx.size_get Tx.size_set Tx.payload_get Tx.payload_set Tx.msg_get Tx.msg_set Tx.msg_kind_get Tx.msg_kind_set Tx.msg_from__get Tx.msg_from__set Tx.msg_to__get Tx.msg_to__set Tx.msg_sender_get Tx.msg_sender_set Tx.msg_receiver_get Tx.msg_receiver_set Tx.msg_seq_get Tx.msg_seq_set Tx.msg_token_get Tx.msg_token_set Tx.msg_amount_get Tx.msg_amount_set Tx.msg_size_get Tx.msg_size_set Tx.msg_payload_get Tx.msg_payload_set GOp.length_enc GOp.ok_enc GOp.all_get GOp.all_set GOp.kind_get GOp.kind_set GOp.tx_get GOp.tx_set GOp.txs_get GOp.txs_set GOp.gas_get GOp.gas_set GOp.acct_get GOp.acct_set GOp.token_get GOp.token_set GOp.chain_get GOp.chain_set GOp.seq_get GOp.seq_set GOp.tx_kind_get GOp.tx_kind_set GOp.tx_chain_get GOp.tx_chain_set GOp.tx_from__get GOp.tx_from__set GOp.tx_nonce_get GOp.tx_nonce_set GOp.tx_fee_get GOp.tx_fee_set GOp.tx_to__get GOp.tx_to__set GOp.tx_dest_get GOp.tx_dest_set GOp.tx_token_get GOp.tx_token_set GOp.tx_amount_get GOp.tx_amount_set GOp.tx_size_get GOp.tx_size_set GOp.tx_payload_get GOp.tx_payload_set GOp.tx_msg_get GOp.tx_msg_set GOp.tx_msg_kind_get GOp.tx_msg_kind_set GOp.tx_msg_from__get GOp.tx_msg_from__set GOp.tx_msg_to__get GOp.tx_msg_to__set GOp.tx_msg_sender_get GOp.tx_msg_sender_set GOp.tx_msg_receiver_get GOp.tx_msg_receiver_set GOp.tx_msg_seq_get GOp.tx_msg_seq_set GOp.tx_msg_token_get GOp.tx_msg_token_set GOp.tx_msg_amount_get GOp.tx_msg_amount_set GOp.tx_msg_size_get GOp.tx_msg_size_set GOp.tx_msg_payload_get GOp.tx_msg_payload_set Summary.length_enc Summary.ok_enc Summary.all_get Summary.all_set Summary.height_get Summary.height_set Summary.txs_get Summary.txs_set Summary.gas_get Summary.gas_set Summary.fees_get Summary.fees_set Summary.sent_get Summary.sent_set Summary.took_get Summary.took_set Summary.minted_get Summary.minted_set Summary.burned_get Summary.burned_set Summary.root_get Summary.root_set Detail.length_enc Detail.ok_enc Detail.all_get Detail.all_set Detail.code_get Detail.code_set Detail.have__get Detail.have__set Detail.need_get Detail.need_set Slot.length_enc Slot.ok_enc Slot.all_get Slot.all_set Slot.nonce_get Slot.nonce_set Slot.balances_get Slot.balances_set Tree.length_enc Tree.ok_enc Tree.all_get Tree.all_set Tree.leaves_get Tree.leaves_set Mark.length_enc Mark.ok_enc Mark.all_get Mark.all_set Mark.from__get Mark.from__set Mark.seq_get Mark.seq_set Receipt.length_enc Receipt.ok_enc Receipt.all_get Receipt.all_set Receipt.code_get Receipt.code_set Receipt.hash_get Receipt.hash_set Receipt.index_get Receipt.index_set Receipt.gas_get Receipt.gas_set Receipt.fee_get Receipt.fee_set Receipt.hasSent_get Receipt.hasSent_set Receipt.sent_get Receipt.sent_set Receipt.hasTook_get Receipt.hasTook_set Receipt.took_get Receipt.took_set Receipt.sent_kind_get Receipt.sent_kind_set Receipt.sent_from__get Receipt.sent_from__set Receipt.sent_to__get Receipt.sent_to__set Receipt.sent_sender_get Receipt.sent_sender_set Receipt.sent_receiver_get Receipt.sent_receiver_set Receipt.sent_seq_get Receipt.sent_seq_set Receipt.sent_token_get Receipt.sent_token_set Receipt.sent_amount_get Receipt.sent_amount_set Receipt.sent_size_get Receipt.sent_size_set Receipt.sent_payload_get Receipt.sent_payload_set Receipt.took_kind_get Receipt.took_kind_set Receipt.took_from__get Receipt.took_from__set Receipt.took_to__get Receipt.took_to__set Receipt.took_sender_get Receipt.took_sender_set Receipt.took_receiver_get Receipt.took_receiver_set Receipt.took_seq_get Receipt.took_seq_set Receipt.took_token_get Receipt.took_token_set Receipt.took_amount_get Receipt.took_amount_set Receipt.took_size_get Receipt.took_size_set Receipt.took_payload_get Receipt.took_payload_set Store.length_enc Store.ok_enc Store.all_get Store.all_set Store.now_get Store.now_set Store.saved_get Store.saved_set GState.length_enc GState.ok_enc GState.all_get GState.all_set GState.kv_get GState.kv_set GState.tree_get GState.tree_set GState.stale_get GState.stale_set GState.touched_get GState.touched_set GState.kv_now_get GState.kv_now_set GState.kv_saved_get GState.kv_saved_set GState.tree_leaves_get GState.tree_leaves_set History.length_enc History.ok_enc History.all_get History.all_set History.ring_get History.ring_set History.closed_get History.closed_set Ledger.length_enc Ledger.ok_enc Ledger.all_get Ledger.all_set Ledger.chain_get Ledger.chain_set Ledger.st_get Ledger.st_set Ledger.height_get Ledger.height_set Ledger.open__get Ledger.open__set Ledger.gasLimit_get Ledger.gasLimit_set Ledger.past_get Ledger.past_set Ledger.begun_get Ledger.begun_set Ledger.sent_get Ledger.sent_set Ledger.took_get Ledger.took_set Ledger.receipts_get Ledger.receipts_set Ledger.st_kv_get Ledger.st_kv_set Ledger.st_tree_get Ledger.st_tree_set Ledger.st_stale_get Ledger.st_stale_set Ledger.st_touched_get Ledger.st_touched_set Ledger.st_kv_now_get Ledger.st_kv_now_set Ledger.st_kv_saved_get Ledger.st_kv_saved_set Ledger.st_tree_leaves_get Ledger.st_tree_leaves_set Ledger.past_ring_get Ledger.past_ring_set Ledger.past_closed_get Ledger.past_closed_set Ledger.begun_kv_get Ledger.begun_kv_set Ledger.begun_tree_get Ledger.begun_tree_set Ledger.begun_stale_get Ledger.begun_stale_set Ledger.begun_touched_get Ledger.begun_touched_set Ledger.begun_kv_now_get Ledger.begun_kv_now_set Ledger.begun_kv_saved_get Ledger.begun_kv_saved_set Ledger.begun_tree_leaves_get Ledger.begun_tree_leaves_set Purse.length_enc Purse.ok_enc Purse.all_get Purse.all_set Purse.st_get Purse.st_set Purse.n_get Purse.n_set Purse.account_get Purse.account_set Purse.token_get Purse.token_set Purse.amount_get Purse.amount_set Plan.length_enc Plan.ok_enc Plan.all_get Plan.all_set Plan.purse_get Plan.purse_set Plan.nonce_get Plan.nonce_set Plan.gasUsed_get Plan.gasUsed_set Plan.fees_get Plan.fees_set Plan.hasSupply_get Plan.hasSupply_set Plan.token_get Plan.token_set Plan.supply_get Plan.supply_set Plan.flowAt_get Plan.flowAt_set Plan.flow_get Plan.flow_set Plan.receipt_get Plan.receipt_set Plan.purse_st_get Plan.purse_st_set Plan.purse_n_get Plan.purse_n_set Plan.purse_account_get Plan.purse_account_set Plan.purse_token_get Plan.purse_token_set Plan.purse_amount_get Plan.purse_amount_set Plan.receipt_code_get Plan.receipt_code_set Plan.receipt_hash_get Plan.receipt_hash_set Plan.receipt_index_get Plan.receipt_index_set Plan.receipt_gas_get Plan.receipt_gas_set Plan.receipt_fee_get Plan.receipt_fee_set Plan.receipt_hasSent_get Plan.receipt_hasSent_set Plan.receipt_sent_get Plan.receipt_sent_set Plan.receipt_hasTook_get Plan.receipt_hasTook_set Plan.receipt_took_get Plan.receipt_took_set Plan.receipt_sent_kind_get Plan.receipt_sent_kind_set Plan.receipt_sent_from__get Plan.receipt_sent_from__set Plan.receipt_sent_to__get Plan.receipt_sent_to__set Plan.receipt_sent_sender_get Plan.receipt_sent_sender_set Plan.receipt_sent_receiver_get Plan.receipt_sent_receiver_set Plan.receipt_sent_seq_get Plan.receipt_sent_seq_set Plan.receipt_sent_token_get Plan.receipt_sent_token_set Plan.receipt_sent_amount_get Plan.receipt_sent_amount_set Plan.receipt_sent_size_get Plan.receipt_sent_size_set Plan.receipt_sent_payload_get Plan.receipt_sent_payload_set Plan.receipt_took_kind_get Plan.receipt_took_kind_set Plan.receipt_took_from__get Plan.receipt_took_from__set Plan.receipt_took_to__get Plan.receipt_took_to__set Plan.receipt_took_sender_get Plan.receipt_took_sender_set Plan.receipt_took_receiver_get Plan.receipt_took_receiver_set Plan.receipt_took_seq_get Plan.receipt_took_seq_set Plan.receipt_took_token_get Plan.receipt_took_token_set Plan.receipt_took_amount_get Plan.receipt_took_amount_set Plan.receipt_took_size_get Plan.receipt_took_size_set Plan.receipt_took_payload_get Plan.receipt_took_payload_set Move.length_enc Move.ok_enc Move.all_get Move.all_set Move.account_get Move.account_set Move.token_get Move.token_set Move.down_get Move.down_set Move.amount_get Move.amount_set Books.length_enc Books.ok_enc Books.all_get Books.all_set Books.sums_get Books.sums_set Books.stored_get Books.stored_set Books.marks_get Books.marks_set Pair.length_enc Pair.ok_enc Pair.all_get Pair.all_set Pair.key_get Pair.key_set Pair.value_get Pair.value_set
attribute [local go_sem] size_put size_ext blk_put free_put blk_alloc free_alloc blk_drew free_drew blk_ext free_ext lookOr_some putOr_some segAt_some cellAt_some storeIn_some put_put put_alloc_new length_arr ok_arr_u8 ok_arr_u32 ok_arr_u64 ok_arr_i64 ok_arr_sl cellsV_agg cellsV_int cellsV_bool cellsV_string cellsV_pointer cellsV_slice cellsV_sl ok_int ok_bool ok_string ok_pointer ok_slice ok_sl toList_arr seg_arr set_arr nth_splice nth_splice0 seg_splice seg_splice0 splice_splice splice_splice0 length_splice_if
attribute [local go_sem ↓] execOp_box
attribute [local go_sem] box_run nth_arr_u8 put_arr_u8 blk_drewN free_drewN put_drewN blk_raw free_raw
theorem u8_of (a : Nat) (h : a < 256) : (UInt8.ofNat a).toNat = a := by rw [UInt8.toNat_ofNat']; omega
theorem u8_eta (a : UInt8) : UInt8.ofNat a.toNat = a := by simp
theorem tbn {k k' : UInt64} (h : tbl k ≠ tbl k') : k ≠ k' := fun e => h (by rw [e])
theorem ifc {α : Type} {p q : Prop} [Decidable p] [Decidable q] {a b : α} (h : p ↔ q) : (if p then a else b) = if q then a else b := by
  by_cases hq : q
  · rw [if_pos hq, if_pos (h.2 hq)]
  · rw [if_neg hq, if_neg (fun x => hq (h.1 x))]
/-- What is at a key after one account's balances were loaded. -/
theorem ldT_B (d : PDump) (a : Nat) (ha : a < 64) (L : PLg) : ∀ n, n ≤ 4 → ∀ t : UInt8, ldF L.st.now (keyB (UInt8.ofNat a) t) = 0 → ldF (ldT d a L n).st.now (keyB (UInt8.ofNat a) t) = if t.toNat < n then (d.bal[4 * a + t.toNat]?).getD 0 else 0
  | 0, _, t, h0 => by rw [if_neg (by omega)]; exact h0
  | n + 1, hn, t, h0 => by
    have ih := ldT_B d a ha L n (by omega) t h0
    have ht : (UInt8.ofNat n).toNat = n := u8_of n (by omega)
    show ldF (if (d.bal[4 * a + n]?).getD 0 = 0 then ldT d a L n else lsB (ldT d a L n) (UInt8.ofNat a) (UInt8.ofNat n) ((d.bal[4 * a + n]?).getD 0)).st.now _ = _
    by_cases hz : (d.bal[4 * a + n]?).getD 0 = 0
    · rw [if_pos hz, ih]
      by_cases e : t.toNat = n
      · rw [if_neg (by omega), if_pos (by omega), e, hz]
      · exact ifc (by omega)
    · rw [if_neg hz]
      show ldF (saveF _ _ _) _ = _
      rw [ldF_save]
      by_cases e : t.toNat = n
      · have et : t = UInt8.ofNat n := by rw [← e]; exact (u8_eta t).symm
        rw [if_pos (by rw [et]), if_pos (by omega), e]
      · rw [if_neg (fun q => e (by rw [(keyB_inj q).2]; exact ht)), ih]
        exact ifc (by omega)
theorem ldT_o (d : PDump) (a : Nat) (L : PLg) (k : UInt64) (hk : ∀ t, k ≠ keyB (UInt8.ofNat a) t) : ∀ n, ldF (ldT d a L n).st.now k = ldF L.st.now k
  | 0 => rfl
  | n + 1 => by
    rw [← ldT_o d a L k hk n]
    conv => lhs; unfold ldT
    split
    · rfl
    · show ldF (saveF _ _ _) _ = _
      rw [ldF_save, if_neg (hk _)]
theorem ldNn_at (d : PDump) (a : Nat) (L : PLg) (h0 : ldF L.st.now (keyN (UInt8.ofNat a)) = 0) : ldF (ldNn d a L).st.now (keyN (UInt8.ofNat a)) = (d.non[a]?).getD 0 := by
  unfold ldNn
  split
  · next hz => rw [h0, hz]
  · show ldF (saveF _ _ _) _ = _
    rw [ldF_save, if_pos rfl]
theorem ldNn_o (d : PDump) (a : Nat) (L : PLg) {k : UInt64} (hk : k ≠ keyN (UInt8.ofNat a)) : ldF (ldNn d a L).st.now k = ldF L.st.now k := by
  unfold ldNn
  split
  · rfl
  · show ldF (saveF _ _ _) _ = _
    rw [ldF_save, if_neg hk]
theorem ldA_N (d : PDump) (L : PLg) (h0 : ∀ k, ldF L.st.now k = 0) : ∀ A, A ≤ 64 → ∀ a : UInt8, ldF (ldA d L A).st.now (keyN a) = if a.toNat < A then (d.non[a.toNat]?).getD 0 else 0
  | 0, _, a => by rw [if_neg (by omega)]; exact h0 _
  | A + 1, hA, a => by
    have ih := ldA_N d L h0 A (by omega)
    have hu : (UInt8.ofNat A).toNat = A := u8_of A (by omega)
    unfold ldA
    rw [ldT_o d A _ _ (fun t => tbn (by rw [tbl_N, tbl_B]; decide))]
    by_cases e : a.toNat = A
    · have ea : a = UInt8.ofNat A := by rw [← e]; exact (u8_eta a).symm
      rw [if_pos (by omega), e, ea]
      exact ldNn_at d A _ (by rw [ih, if_neg (by rw [hu]; omega)])
    · rw [ldNn_o d A _ (fun q => e (by rw [keyN_inj q]; exact hu)), ih]
      exact ifc (by omega)
theorem ldA_B (d : PDump) (L : PLg) (h0 : ∀ k, ldF L.st.now k = 0) : ∀ A, A ≤ 64 → ∀ a t : UInt8, ldF (ldA d L A).st.now (keyB a t) = if a.toNat < A ∧ t.toNat < 4 then (d.bal[4 * a.toNat + t.toNat]?).getD 0 else 0
  | 0, _, a, t => by rw [if_neg (by omega)]; exact h0 _
  | A + 1, hA, a, t => by
    have ih := ldA_B d L h0 A (by omega)
    have hu : (UInt8.ofNat A).toNat = A := u8_of A (by omega)
    unfold ldA
    have hN : ∀ x y : UInt8, ldF (ldNn d A (ldA d L A)).st.now (keyB x y) = ldF (ldA d L A).st.now (keyB x y) := fun x y => ldNn_o d A _ (tbn (by rw [tbl_N, tbl_B]; decide))
    by_cases e : a.toNat = A
    · have ea : a = UInt8.ofNat A := by rw [← e]; exact (u8_eta a).symm
      have h1 := ldT_B d A (by omega) (ldNn d A (ldA d L A)) 4 (Nat.le_refl _) t (by rw [hN, ih, if_neg (by rw [hu]; omega)])
      rw [e, ea, h1]
      exact ifc (by omega)
    · rw [ldT_o d A _ _ (fun t' q => e (by rw [(keyB_inj q).1]; exact hu)), hN, ih]
      exact ifc (by omega)
theorem ldA_o (d : PDump) (L : PLg) {k : UInt64} (h1 : tbl k ≠ 1) (h2 : tbl k ≠ 2) : ∀ A, ldF (ldA d L A).st.now k = ldF L.st.now k
  | 0 => rfl
  | A + 1 => by
    unfold ldA
    rw [ldT_o d A _ _ (fun t => tbn (by rw [tbl_B]; exact h2)), ldNn_o d A _ (tbn (by rw [tbl_N]; exact h1)), ldA_o d L h1 h2 A]
theorem ldS_at (v : Vector UInt64 4) (L : PLg) : ∀ n, n ≤ 4 → ∀ t : UInt8, ldF (ldS v L n).st.now (keyS t) = if t.toNat < n then (v[t.toNat]?).getD 0 else ldF L.st.now (keyS t)
  | 0, _, t => by rw [if_neg (by omega)]; rfl
  | n + 1, hn, t => by
    have ih := ldS_at v L n (by omega) t
    have hu : (UInt8.ofNat n).toNat = n := u8_of n (by omega)
    unfold ldS
    show ldF (saveF _ _ _) _ = _
    rw [ldF_save]
    by_cases e : t.toNat = n
    · have et : t = UInt8.ofNat n := by rw [← e]; exact (u8_eta t).symm
      rw [if_pos (by rw [et]), if_pos (by omega), e]
    · rw [if_neg (fun q => e (by rw [keyS_inj q]; exact hu)), ih]
      exact ifc (by omega)
theorem ldS_o (v : Vector UInt64 4) (L : PLg) {k : UInt64} (h : tbl k ≠ 3) : ∀ n, ldF (ldS v L n).st.now k = ldF L.st.now k
  | 0 => rfl
  | n + 1 => by
    unfold ldS
    show ldF (saveF _ _ _) _ = _
    rw [ldF_save, if_neg (tbn (by rw [tbl_S]; exact h)), ldS_o v L h n]
theorem ldM_o (K : List Mark) (L : PLg) {k : UInt64} (h : tbl k ≠ 4) (h6 : k ≠ keyC 6) : ∀ n, ldF (ldM K L n).st.now k = ldF L.st.now k
  | 0 => rfl
  | n + 1 => by
    cases hm : K[n]? with
    | none =>
      have e : ldM K L (n + 1) = ldM K L n := by
        show (match K[n]? with | some m => { ldM K L n with st := markF (ldM K L n).st m.from_ m.seq } | none => ldM K L n) = _
        rw [hm]
      rw [e, ldM_o K L h h6 n]
    | some m =>
      rw [ldM_succ hm]
      show ldF (saveF (saveF _ _ _) _ _) _ = _
      rw [ldF_save, if_neg h6, ldF_save, if_neg (tbn (by rw [tbl_M]; exact h)), ldM_o K L h h6 n]
end Go.Proofs.Qxb6500786aGreat
