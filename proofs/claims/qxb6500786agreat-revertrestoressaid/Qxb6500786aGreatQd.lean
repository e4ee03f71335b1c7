import Derived.DeepKeys2
import Derived.Test.Qxb6500786aGreatQc

import Derived.StillTailTactics
import Derived.Deep.QuietTactic
import Derived.BigQuiet
import Derived.Deep.RegionHeld
import Derived.Deep.CutRange
import Derived.Laws.ResultCell
import Derived.Laws.Rows
import Derived.DeepKeys
import Derived.DataBytes
import Derived.Laws.StructEq
import Derived.Laws.AppendOwn
import Derived.Laws.MakeOwn
import Derived.Lib.AppendStr
set_option linter.unusedSimpArgs false
set_option linter.unusedVariables false
namespace Go.Proofs.Qxb6500786aGreat
open Go.RowKit Go.Blk
attribute [local go_sem ↓] execOp_load execOp_store execOp_alloc
attribute [local go_sem] Tryz.ld24 Tryz.st24 Tryz.ld36 Tryz.st36 Tryz.ld28 Tryz.st28 Tryz.ld32 Tryz.st32 Tryz.ld33 Tryz.st33 Tryz.ld34 Tryz.st34 Tryz.ld5 Tryz.st5 Tryz.ld31 Tryz.st31 Tryz.ld30 Tryz.st30 Tryz.ld41 Tryz.st41 Tryz.ld44 Tryz.st44 Tryz.ld4 Tryz.st4 Tryz.ld173 Tryz.st173 Tryz.ld174 Tryz.st174 Tryz.ld95 Tryz.st95 Tryz.ld45 Tryz.st45 Tryz.ld207 Tryz.st207 Tryz.ld3 Tryz.st3 Tryz.ld189 Tryz.st189 Tryz.ld2 Tryz.st2 Tryz.ld9 Tryz.st9 Tryz.ld12 Tryz.st12 Tryz.ld21 Tryz.st21 Tryz.ld22 Tryz.st22 Tryz.ld46 Tryz.st46 Tryz.ld92 Tryz.st92 Tryz.ld94 Tryz.st94 Tryz.ld96 Tryz.st96 Tryz.ld97 Tryz.st97 Tryz.ld105 Tryz.st105 Tryz.ld117 Tryz.st117 Tryz.ld122 Tryz.st122 Tryz.ld123 Tryz.st123 Tryz.ld133 Tryz.st133 Tryz.ld155 Tryz.st155 Tryz.ld163 Tryz.st163 Tryz.ld190 Tryz.st190 Tryz.ld197 Tryz.st197 Tryz.ld201 Tryz.st201 Tryz.ld202 Tryz.st202 Tryz.ld209 Tryz.st209 Tryz.ld216 Tryz.st216 Tryz.ld230 Tryz.st230 Tryz.ld238 Tryz.st238 Tryz.ld242 Tryz.st242 Tryz.ld251 Tryz.st251 Tryz.ld260 Tryz.st260 Tryz.ld286 Tryz.st286 Tryz.ld292 Tryz.st292 Tryz.ld298 Tryz.st298 Tryz.ld309 Tryz.st309 Tryz.ld35 Tryz.st35 Tryz.ld48 Tryz.st48 Tryz.ld47 Tryz.st47 Tryz.ld79 Tryz.st79 Tryz.ld177 Tryz.st177 Tryz.ld180 Tryz.st180 Tryz.ld231 Tryz.st231 Tryz.ld232 Tryz.st232 Tryz.ld26 Tryz.st26 Tryz.ld38 Tryz.st38 Tryz.ld40 Tryz.st40 Tryz.ld43 Tryz.st43 Tryz.ld50 Tryz.st50 Tryz.ld52 Tryz.st52 Tryz.ld54 Tryz.st54 Tryz.ld81 Tryz.st81 Tryz.ld112 Tryz.st112 Tryz.ld120 Tryz.st120 Tryz.ld176 Tryz.st176 Tryz.ld179 Tryz.st179 Tryz.ld182 Tryz.st182 Tryz.ld184 Tryz.st184 Tryz.ld234 Tryz.st234 Tryz.ld236 Tryz.st236 Tryz.ld240 Tryz.st240 Tryz.ld246 Tryz.st246 Tryz.ld249 Tryz.st249 Tryz.al35 Tryz.al48 Tryz.al47 Tryz.al79 Tryz.al177 Tryz.al180 Tryz.al231 Tryz.al232 Tryz.al26 Tryz.al38 Tryz.al40 Tryz.al43 Tryz.al50 Tryz.al52 Tryz.al54 Tryz.al81 Tryz.al112 Tryz.al120 Tryz.al176 Tryz.al179 Tryz.al182 Tryz.al184 Tryz.al234 Tryz.al236 Tryz.al240 Tryz.al246 Tryz.al249
attribute [local go_sem] Player.length_enc Player.ok_enc Player.all_get Player.all_set Player.hand_get Player.hand_set Player.aside_get Player.aside_set Message.length_enc Message.ok_enc Message.all_get Message.all_set Message.kind_get Message.kind_set Message.from__get Message.from__set Message.to__get Message.to__set Message.sender_get Message.sender_set Message.receiver_get Message.receiver_set Message.seq_get Message.seq_set Message.token_get Message.token_set Message.amount_get Message.amount_set Message.size_get Message.size_set Message.payload_get Message.payload_set Tx.length_enc Tx.ok_enc Tx.all_get Tx.all_set Tx.kind_get Tx.kind_set Tx.chain_get Tx.chain_set Tx.from__get Tx.from__set Tx.nonce_get Tx.nonce_set Tx.fee_get Tx.fee_set Tx.to__get Tx.to__set Tx.dest_get Tx.dest_set Tx.token_get Tx.token_set Tx.amount_get Tx.amount_set Tx.size_get Tx.size_set Tx.payload_get Tx.payload_set Tx.msg_get Tx.msg_set Tx.msg_kind_get Tx.msg_kind_set Tx.msg_from__get Tx.msg_from__set Tx.msg_to__get Tx.msg_to__set Tx.msg_sender_get Tx.msg_sender_set Tx.msg_receiver_get Tx.msg_receiver_set Tx.msg_seq_get Tx.msg_seq_set Tx.msg_token_get Tx.msg_token_set Tx.msg_amount_get Tx.msg_amount_set Tx.msg_size_get Tx.msg_size_set Tx.msg_payload_get Tx.msg_payload_set GOp.length_enc GOp.ok_enc GOp.all_get GOp.all_set GOp.kind_get GOp.kind_set GOp.tx_get GOp.tx_set GOp.txs_get GOp.txs_set GOp.gas_get GOp.gas_set GOp.acct_get GOp.acct_set GOp.token_get GOp.token_set GOp.chain_get GOp.chain_set GOp.seq_get GOp.seq_set GOp.tx_kind_get GOp.tx_kind_set GOp.tx_chain_get GOp.tx_chain_set GOp.tx_from__get GOp.tx_from__set GOp.tx_nonce_get GOp.tx_nonce_set GOp.tx_fee_get GOp.tx_fee_set GOp.tx_to__get GOp.tx_to__set GOp.tx_dest_get GOp.tx_dest_set GOp.tx_token_get GOp.tx_token_set GOp.tx_amount_get GOp.tx_amount_set GOp.tx_size_get GOp.tx_size_set GOp.tx_payload_get GOp.tx_payload_set GOp.tx_msg_get GOp.tx_msg_set GOp.tx_msg_kind_get GOp.tx_msg_kind_set GOp.tx_msg_from__get GOp.tx_msg_from__set GOp.tx_msg_to__get GOp.tx_msg_to__set GOp.tx_msg_sender_get GOp.tx_msg_sender_set GOp.tx_msg_receiver_get GOp.tx_msg_receiver_set GOp.tx_msg_seq_get GOp.tx_msg_seq_set GOp.tx_msg_token_get GOp.tx_msg_token_set GOp.tx_msg_amount_get GOp.tx_msg_amount_set GOp.tx_msg_size_get GOp.tx_msg_size_set GOp.tx_msg_payload_get GOp.tx_msg_payload_set Summary.length_enc Summary.ok_enc Summary.all_get Summary.all_set Summary.height_get Summary.height_set Summary.txs_get Summary.txs_set Summary.gas_get Summary.gas_set Summary.fees_get Summary.fees_set Summary.sent_get Summary.sent_set Summary.took_get Summary.took_set Summary.minted_get Summary.minted_set Summary.burned_get Summary.burned_set Summary.root_get Summary.root_set Detail.length_enc Detail.ok_enc Detail.all_get Detail.all_set Detail.code_get Detail.code_set Detail.have__get Detail.have__set Detail.need_get Detail.need_set Slot.length_enc Slot.ok_enc Slot.all_get Slot.all_set Slot.nonce_get Slot.nonce_set Slot.balances_get Slot.balances_set Tree.length_enc Tree.ok_enc Tree.all_get Tree.all_set Tree.leaves_get Tree.leaves_set Mark.length_enc Mark.ok_enc Mark.all_get Mark.all_set Mark.from__get Mark.from__set Mark.seq_get Mark.seq_set Receipt.length_enc Receipt.ok_enc Receipt.all_get Receipt.all_set Receipt.code_get Receipt.code_set Receipt.hash_get Receipt.hash_set Receipt.index_get Receipt.index_set Receipt.gas_get Receipt.gas_set Receipt.fee_get Receipt.fee_set Receipt.hasSent_get Receipt.hasSent_set Receipt.sent_get Receipt.sent_set Receipt.hasTook_get Receipt.hasTook_set Receipt.took_get Receipt.took_set Receipt.sent_kind_get Receipt.sent_kind_set Receipt.sent_from__get Receipt.sent_from__set Receipt.sent_to__get Receipt.sent_to__set Receipt.sent_sender_get Receipt.sent_sender_set Receipt.sent_receiver_get Receipt.sent_receiver_set Receipt.sent_seq_get Receipt.sent_seq_set Receipt.sent_token_get Receipt.sent_token_set Receipt.sent_amount_get Receipt.sent_amount_set Receipt.sent_size_get Receipt.sent_size_set Receipt.sent_payload_get Receipt.sent_payload_set Receipt.took_kind_get Receipt.took_kind_set Receipt.took_from__get Receipt.took_from__set Receipt.took_to__get Receipt.took_to__set Receipt.took_sender_get Receipt.took_sender_set Receipt.took_receiver_get Receipt.took_receiver_set Receipt.took_seq_get Receipt.took_seq_set Receipt.took_token_get Receipt.took_token_set Receipt.took_amount_get Receipt.took_amount_set Receipt.took_size_get Receipt.took_size_set Receipt.took_payload_get Receipt.took_payload_set Store.length_enc Store.ok_enc Store.all_get Store.all_set Store.now_get Store.now_set Store.saved_get Store.saved_set GState.length_enc GState.ok_enc GState.all_get GState.all_set GState.kv_get GState.kv_set GState.tree_get GState.tree_set GState.stale_get GState.stale_set GState.touched_get GState.touched_set GState.kv_now_get GState.kv_now_set GState.kv_saved_get GState.kv_saved_set GState.tree_leaves_get GState.tree_leaves_set History.length_enc History.ok_enc History.all_get History.all_set History.ring_get History.ring_set History.closed_get History.closed_set Ledger.length_enc Ledger.ok_enc Ledger.all_get Ledger.all_set Ledger.chain_get Ledger.chain_set Ledger.st_get Ledger.st_set Ledger.height_get Ledger.height_set Ledger.open__get Ledger.open__set Ledger.gasLimit_get Ledger.gasLimit_set Ledger.past_get Ledger.past_set Ledger.begun_get Ledger.begun_set Ledger.sent_get Ledger.sent_set Ledger.took_get Ledger.took_set Ledger.receipts_get Ledger.receipts_set Ledger.st_kv_get Ledger.st_kv_set Ledger.st_tree_get Ledger.st_tree_set Ledger.st_stale_get Ledger.st_stale_set Ledger.st_touched_get Ledger.st_touched_set Ledger.st_kv_now_get Ledger.st_kv_now_set Ledger.st_kv_saved_get Ledger.st_kv_saved_set Ledger.st_tree_leaves_get Ledger.st_tree_leaves_set Ledger.past_ring_get Ledger.past_ring_set Ledger.past_closed_get Ledger.past_closed_set Ledger.begun_kv_get Ledger.begun_kv_set Ledger.begun_tree_get Ledger.begun_tree_set Ledger.begun_stale_get Ledger.begun_stale_set Ledger.begun_touched_get Ledger.begun_touched_set Ledger.begun_kv_now_get Ledger.begun_kv_now_set Ledger.begun_kv_saved_get Ledger.begun_kv_saved_set Ledger.begun_tree_leaves_get Ledger.begun_tree_leaves_set Purse.length_enc Purse.ok_enc Purse.all_get Purse.all_set Purse.st_get Purse.st_set Purse.n_get Purse.n_set Purse.account_get Purse.account_set Purse.token_get Purse.token_set Purse.amount_get Purse.amount_set Plan.length_enc Plan.ok_enc Plan.all_get Plan.all_set Plan.purse_get Plan.purse_set Plan.nonce_get Plan.nonce_set Plan.gasUsed_get Plan.gasUsed_set Plan.fees_get Plan.fees_set Plan.hasSupply_get Plan.hasSupply_set Plan.token_get Plan.token_set Plan.supply_get Plan.supply_set Plan.flowAt_get Plan.flowAt_set Plan.flow_get Plan.flow_set Plan.receipt_get Plan.receipt_set Plan.purse_st_get Plan.purse_st_set Plan.purse_n_get Plan.purse_n_set Plan.purse_account_get Plan.purse_account_set Plan.purse_token_get Plan.purse_token_set Plan.purse_amount_get Plan.purse_amount_set Plan.receipt_code_get Plan.receipt_code_set Plan.receipt_hash_get Plan.receipt_hash_set Plan.receipt_index_get Plan.receipt_index_set Plan.receipt_gas_get Plan.receipt_gas_set Plan.receipt_fee_get Plan.receipt_fee_set Plan.receipt_hasSent_get Plan.receipt_hasSent_set Plan.receipt_sent_get Plan.receipt_sent_set Plan.receipt_hasTook_get Plan.receipt_hasTook_set Plan.receipt_took_get Plan.receipt_took_set Plan.receipt_sent_kind_get Plan.receipt_sent_kind_set Plan.receipt_sent_from__get Plan.receipt_sent_from__set Plan.receipt_sent_to__get Plan.receipt_sent_to__set Plan.receipt_sent_sender_get Plan.receipt_sent_sender_set Plan.receipt_sent_receiver_get Plan.receipt_sent_receiver_set Plan.receipt_sent_seq_get Plan.receipt_sent_seq_set Plan.receipt_sent_token_get Plan.receipt_sent_token_set Plan.receipt_sent_amount_get Plan.receipt_sent_amount_set Plan.receipt_sent_size_get Plan.receipt_sent_size_set Plan.receipt_sent_payload_get Plan.receipt_sent_payload_set Plan.receipt_took_kind_get Plan.receipt_took_kind_set Plan.receipt_took_from__get Plan.receipt_took_from__set Plan.receipt_took_to__get Plan.receipt_took_to__set Plan.receipt_took_sender_get Plan.receipt_took_sender_set Plan.receipt_took_receiver_get Plan.receipt_took_receiver_set Plan.receipt_took_seq_get Plan.receipt_took_seq_set Plan.receipt_took_token_get Plan.receipt_took_token_set Plan.receipt_took_amount_get Plan.receipt_took_amount_set Plan.receipt_took_size_get Plan.receipt_took_size_set Plan.receipt_took_payload_get Plan.receipt_took_payload_set Move.length_enc Move.ok_enc Move.all_get Move.all_set Move.account_get Move.account_set Move.token_get Move.token_set Move.down_get Move.down_set Move.amount_get Move.amount_set Books.length_enc Books.ok_enc Books.all_get Books.all_set Books.sums_get Books.sums_set Books.stored_get Books.stored_set Books.marks_get Books.marks_set Pair.length_enc Pair.ok_enc Pair.all_get Pair.all_set Pair.key_get Pair.key_set Pair.value_get Pair.value_set
attribute [local go_sem] size_put size_ext blk_put free_put blk_alloc free_alloc blk_drew free_drew blk_ext free_ext lookOr_some putOr_some segAt_some cellAt_some storeIn_some put_put put_alloc_new length_arr ok_arr_u8 ok_arr_u32 ok_arr_u64 ok_arr_i64 ok_arr_sl cellsV_agg cellsV_int cellsV_bool cellsV_string cellsV_pointer cellsV_slice cellsV_sl ok_int ok_bool ok_string ok_pointer ok_slice ok_sl toList_arr seg_arr set_arr nth_splice nth_splice0 seg_splice seg_splice0 splice_splice splice_splice0 length_splice_if
attribute [local go_sem ↓] execOp_box
attribute [local go_sem] box_run nth_arr_u8 put_arr_u8 blk_drewN free_drewN put_drewN blk_raw free_raw
/-- A token's balances added up. -/
def sumB (B : UInt8 → UInt8 → UInt64) (t : UInt8) : Nat → Nat
  | 0 => 0
  | k + 1 => sumB B t k + (B (UInt8.ofNat k) t).toNat
def tot (B : UInt8 → UInt8 → UInt64) (t : UInt8) : Nat := sumB B t 64
theorem ofNat8_eq {a : UInt8} {k : Nat} (hk : k < 256) : a = UInt8.ofNat k ↔ a.toNat = k := by
  constructor
  · intro h; rw [h, UInt8.toNat_ofNat']; omega
  · intro h; apply UInt8.toNat_inj.1; rw [UInt8.toNat_ofNat', h]; omega
theorem sumB_upd_ne (B : UInt8 → UInt8 → UInt64) (a t : UInt8) (v : UInt64) (t' : UInt8) (h : t ≠ t') : ∀ k, sumB (updB B a t v) t' k = sumB B t' k
  | 0 => rfl
  | k + 1 => by
    unfold sumB
    rw [sumB_upd_ne B a t v t' h k]
    unfold updB
    rw [if_neg (fun q => h q.2)]
theorem sumB_upd_lt (B : UInt8 → UInt8 → UInt64) (a t : UInt8) (v : UInt64) : ∀ k, k ≤ a.toNat → sumB (updB B a t v) t k = sumB B t k
  | 0, _ => rfl
  | k + 1, h => by
    unfold sumB
    rw [sumB_upd_lt B a t v k (by omega)]
    unfold updB
    have ha := a.toNat_lt
    rw [if_neg (fun q => by have := (ofNat8_eq (a := a) (k := k) (by omega)).1 q.1; omega)]
theorem sumB_upd_gt (B : UInt8 → UInt8 → UInt64) (a t : UInt8) (v : UInt64) : ∀ k, k ≤ 256 → a.toNat < k → sumB (updB B a t v) t k + (B a t).toNat = sumB B t k + v.toNat
  | 0, _, h => by omega
  | k + 1, h2, h => by
    unfold sumB
    by_cases e : a.toNat = k
    · rw [sumB_upd_lt B a t v k (by omega)]
      have ea := (ofNat8_eq (a := a) (k := k) (by omega)).2 e
      rw [← ea]
      unfold updB
      rw [if_pos ⟨rfl, rfl⟩]
      omega
    · have := sumB_upd_gt B a t v k (by omega) (by omega)
      have e2 : updB B a t v (UInt8.ofNat k) t = B (UInt8.ofNat k) t := by
        unfold updB
        rw [if_neg (fun q => e ((ofNat8_eq (a := a) (k := k) (by omega)).1 q.1))]
      rw [e2]
      omega
theorem sumB_ge (B : UInt8 → UInt8 → UInt64) (a t : UInt8) : ∀ k, k ≤ 256 → a.toNat < k → (B a t).toNat ≤ sumB B t k
  | 0, _, h => by omega
  | k + 1, h2, h => by
    unfold sumB
    by_cases e : a.toNat = k
    · have ea := (ofNat8_eq (a := a) (k := k) (by omega)).2 e
      rw [← ea]; omega
    · have := sumB_ge B a t k (by omega) (by omega)
      omega
theorem tot_ge (B : UInt8 → UInt8 → UInt64) {a : UInt8} (t : UInt8) (h : a.toNat < 64) : (B a t).toNat ≤ tot B t := sumB_ge B a t 64 (by omega) h
theorem u64_sub {a b : UInt64} (h : b.toNat ≤ a.toNat) : (a - b).toNat = a.toNat - b.toNat := by
  rw [UInt64.toNat_sub_of_le]
  exact UInt64.le_iff_toNat_le.2 h
theorem u64_add {a b : UInt64} (h : a.toNat + b.toNat < 18446744073709551616) : (a + b).toNat = a.toNat + b.toNat := by
  rw [UInt64.toNat_add]
  exact Nat.mod_eq_of_lt h
theorem tot_deb {B : UInt8 → UInt8 → UInt64} {a t : UInt8} {v : UInt64} (ha : a.toNat < 64) (h : v.toNat ≤ (B a t).toNat) (t' : UInt8) : tot (debB B a t v) t' + (if t = t' then v.toNat else 0) = tot B t' := by
  unfold tot debB
  by_cases e : t = t'
  · subst e
    rw [if_pos rfl]
    have := sumB_upd_gt B a t (B a t - v) 64 (by omega) ha
    rw [u64_sub h] at this
    omega
  · rw [if_neg e, sumB_upd_ne _ _ _ _ _ e]; rfl
theorem tot_crd {B : UInt8 → UInt8 → UInt64} {a t : UInt8} {v : UInt64} (ha : a.toNat < 64) (h : (B a t).toNat + v.toNat < 18446744073709551616) (t' : UInt8) : tot (crdB B a t v) t' = tot B t' + (if t = t' then v.toNat else 0) := by
  unfold tot crdB
  by_cases e : t = t'
  · subst e
    rw [if_pos rfl]
    have := sumB_upd_gt B a t (B a t + v) 64 (by omega) ha
    rw [u64_add h] at this
    omega
  · rw [if_neg e, sumB_upd_ne _ _ _ _ _ e]; rfl
/-- What an accepted transaction makes of the totals. -/
theorem tot_acc {L : PLg} {x : Tx} (h : JOk L x) (t : UInt8) : tot (balB (accL L x).st.now) t + (if w8 x.kind = 2 ∧ x.token = t then x.amount.toNat else 0) = tot (balB L.st.now) t + (if w8 x.kind = 3 ∧ x.msg.token = t then x.msg.amount.toNat else 0) := by
  have hs := shp_ok h.shp
  have hb : balB (accL L x).st.now = finB (balB L.st.now) x := by
    funext a s
    exact acc_B h a s
  rw [hb]
  have h1 := (debR_iff L.st.now [] x.from_ 0 x.fee).1 h.dfee
  have e1 := tot_deb (B := balB L.st.now) (a := x.from_) (t := 0) (v := x.fee) hs.from_ h1.2 t
  have h3 := (crdR_iff _ _ 0 0 x.fee).1 h.dseq
  rw [pv_knd h] at h3
  have e3 := tot_crd (B := kndB (debB (balB L.st.now) x.from_ 0 x.fee) x) (a := 0) (t := 0) (v := x.fee) (by decide) (by omega) t
  unfold finB
  rw [e3]
  have e2 : tot (kndB (debB (balB L.st.now) x.from_ 0 x.fee) x) t + (if w8 x.kind = 2 ∧ x.token = t then x.amount.toNat else 0) = tot (debB (balB L.st.now) x.from_ 0 x.fee) t + (if w8 x.kind = 3 ∧ x.msg.token = t then x.msg.amount.toNat else 0) := by
    unfold kndB
    rcases h.knd with ⟨k, g1, g2⟩ | ⟨k, g1, g2⟩ | k | ⟨k, g1, g2, g3, g4⟩ | ⟨k, g1⟩
    · rw [if_pos k, if_neg (fun q => by omega), if_neg (fun q => by omega)]
      have d1 := (debR_iff _ _ _ _ _).1 g1
      have c1 := (crdR_iff _ _ _ _ _).1 g2
      rw [debR_pv g1] at c1
      rw [pv_fee h] at d1 c1
      have a1 := tot_deb (B := debB (balB L.st.now) x.from_ 0 x.fee) (a := x.from_) (t := x.token) (v := x.amount) hs.from_ d1.2 t
      have a2 := tot_crd (B := debB (debB (balB L.st.now) x.from_ 0 x.fee) x.from_ x.token x.amount) (a := x.to_) (t := x.token) (v := x.amount) (hs.trn k).1 (by unfold debB at c1 ⊢; omega) t
      omega
    · rw [if_neg (by omega), if_pos k, if_neg (c := w8 x.kind = 3 ∧ x.msg.token = t) (fun q => by omega)]
      have d1 := (debR_iff _ _ _ _ _).1 g1
      rw [pv_fee h] at d1
      have a1 := tot_deb (B := debB (balB L.st.now) x.from_ 0 x.fee) (a := x.from_) (t := x.token) (v := x.amount) hs.from_ d1.2 t
      by_cases e : x.token = t
      · rw [if_pos ⟨k, e⟩]; rw [if_pos e] at a1; omega
      · rw [if_neg (fun q => e q.2)]; rw [if_neg e] at a1; omega
    · rw [if_neg (by omega), if_neg (by omega), if_pos k, if_neg (fun q => by omega), if_neg (fun q => by omega)]
    · rw [if_neg (by omega), if_neg (by omega), if_neg (by omega), if_pos k, if_neg (fun q => by omega)]
      have c1 := (crdR_iff _ _ _ _ _).1 g4
      rw [pv_fee h] at c1
      have a1 := tot_crd (B := debB (balB L.st.now) x.from_ 0 x.fee) (a := x.msg.receiver) (t := x.msg.token) (v := x.msg.amount) (hs.mnt k).1 (by omega) t
      by_cases e : x.msg.token = t
      · rw [if_pos ⟨k, e⟩]; rw [if_pos e] at a1; omega
      · rw [if_neg (fun q => e q.2)]; rw [if_neg e] at a1; omega
    · rw [if_neg (by omega), if_neg (by omega), if_neg (by omega), if_neg (by omega), if_neg (fun q => by omega), if_neg (fun q => by omega)]
  omega
/-- How many messages are marked. -/
def cntM (l : List Pair) : Nat := l.countP (fun p => tbl p.key == 4)
theorem cntM_put {l : List Pair} {k v : UInt64} (h : tbl k ≠ 4) : cntM (putF l k v) = cntM l := by
  induction l with
  | nil =>
    unfold cntM putF
    rw [List.countP_cons_of_neg (by simpa using h)]
  | cons p r ih =>
    unfold putF
    by_cases e : p.key = k
    · rw [if_pos e]
      unfold cntM
      rw [List.countP_cons_of_neg (by simpa [e] using h), List.countP_cons_of_neg (by simpa [e] using h)]
    · rw [if_neg e]
      unfold cntM at *
      rw [List.countP_cons, List.countP_cons, ih]
theorem cntM_del {l : List Pair} {k : UInt64} (h : tbl k ≠ 4) : cntM (delF l k) = cntM l := by
  induction l with
  | nil => rfl
  | cons p r ih =>
    unfold delF cntM at *
    by_cases e : p.key = k
    · rw [List.filter_cons_of_neg (by simp [e]), ih, List.countP_cons_of_neg (by simpa [e] using h)]
    · rw [List.filter_cons_of_pos (by simp [e]), List.countP_cons, List.countP_cons, ih]
theorem cntM_save {l : List Pair} {k v : UInt64} (h : tbl k ≠ 4) : cntM (saveF l k v) = cntM l := by
  unfold saveF
  by_cases e : v = 0
  · rw [if_pos e, cntM_del h]
  · rw [if_neg e, cntM_put h]
theorem cntM_new {l : List Pair} {k v : UInt64} (h : tbl k = 4) (hn : getO l k = none) (hv : v ≠ 0) : cntM (saveF l k v) = cntM l + 1 := by
  unfold saveF
  rw [if_neg hv]
  induction l with
  | nil => unfold cntM putF; simp [h]
  | cons p r ih =>
    unfold getO at hn
    by_cases e : p.key = k
    · rw [if_pos e] at hn; cases hn
    · rw [if_neg e] at hn
      unfold putF
      rw [if_neg e]
      have := ih hn
      unfold cntM at *
      rw [List.countP_cons, List.countP_cons, this]
      omega
theorem getO_of_ld {l : List Pair} {k : UInt64} (h : ∀ p ∈ l, p.value ≠ 0) (h0 : ldF l k = 0) : getO l k = none := by
  cases hg : getO l k with
  | none => rfl
  | some v =>
    exfalso
    unfold ldF at h0
    rw [hg] at h0
    have : ∃ p ∈ l, p.value = v := by
      clear h h0
      induction l with
      | nil => cases hg
      | cons p r ih =>
        unfold getO at hg
        by_cases e : p.key = k
        · rw [if_pos e] at hg
          exact ⟨p, List.mem_cons_self .., Option.some.inj hg⟩
        · rw [if_neg e] at hg
          obtain ⟨q, h1, h2⟩ := ih hg
          exact ⟨q, List.mem_cons_of_mem _ h1, h2⟩
    obtain ⟨p, h1, h2⟩ := this
    exact h p h1 (h2.trans h0)
theorem cntM_fl : ∀ (l : List PE) (S : PSt), cntM (flF S l).now = cntM S.now
  | [], _ => rfl
  | e :: l, S => (cntM_fl l _).trans (cntM_save (by rw [tbl_B]; decide))
theorem cntM_N2 (L : PLg) (x : Tx) : cntM (accN2 L x) = cntM L.st.now := by
  have h0 : cntM (accN0 L x) = cntM L.st.now := by
    unfold accN0
    rw [cntM_save (by rw [tbl_N]; decide), cntM_fl]
  have h1 : cntM (accN1 L x) = cntM L.st.now := by
    unfold accN1
    split
    · rw [cntM_save (by rw [tbl_C]; decide), cntM_save (by rw [tbl_S]; decide), h0]
    · split
      · rw [cntM_save (by rw [tbl_C]; decide), cntM_save (by rw [tbl_S]; decide), h0]
      · exact h0
  unfold accN2
  rw [cntM_save (by rw [tbl_C]; decide), cntM_save (by rw [tbl_C]; decide), cntM_save (by rw [tbl_C]; decide), h1]
theorem jok_fresh {L : PLg} {x : Tx} (h : JOk L x) (hT : isT x) : ldF L.st.now (keyM x.msg.from_ x.msg.seq) = 0 := by
  unfold isT at hT
  rcases h.knd with ⟨k, -⟩ | ⟨k, -⟩ | k | ⟨k, g1, -⟩ | ⟨k, g1⟩
  · omega
  · omega
  · omega
  · exact g1
  · exact g1
theorem cntM_acc {L : PLg} {x : Tx} (h : JOk L x) (hw : WfS L.chain L.st.now) : cntM (accL L x).st.now = cntM L.st.now + (if isT x then 1 else 0) := by
  rw [acc_now h]
  unfold accN
  by_cases hS : isS x
  · have hT : ¬ isT x := by unfold isT; unfold isS at hS; omega
    rw [if_pos hS, if_neg hT, cntM_save (by rw [tbl_C]; decide), cntM_N2, Nat.add_zero]
  · rw [if_neg hS]
    by_cases hT : isT x
    · rw [if_pos hT, if_pos hT, cntM_save (by rw [tbl_C]; decide), cntM_new (by rw [tbl_M]) ?_ (by decide), cntM_save (by rw [tbl_C]; decide), cntM_N2]
      have hf := jok_fresh h hT
      have hq := (shp_ok h.shp).seq hT
      have h2 : WfS L.chain (accN2 L x) := by
        have e := WfS.acc hw h
        rw [acc_now h] at e
        unfold accN at e
        rw [if_neg hS, if_pos hT] at e
        have hs := shp_ok h.shp
        have h0 : WfS L.chain (accN0 L x) := (WfS.fl _ hw (fun e he => purL_mem hs he)).save _ (fun _ => KeyOk.N hs.from_)
        have h1 : WfS L.chain (accN1 L x) := by
          unfold accN1
          by_cases k2 : w8 x.kind = 2
          · rw [if_pos k2]
            exact (h0.save _ (fun _ => KeyOk.S (hs.brn k2))).save _ (fun _ => KeyOk.C (by have := hs.brn k2; rw [fU11_nt this]; omega))
          · rw [if_neg k2]
            by_cases k3 : w8 x.kind = 3
            · rw [if_pos k3]
              exact (h0.save _ (fun _ => KeyOk.S (hs.mnt k3).2)).save _ (fun _ => KeyOk.C (by have := (hs.mnt k3).2; rw [fU7_nt this]; omega))
            · rw [if_neg k3]; exact h0
        exact ((h1.save _ (fun _ => KeyOk.C (by decide))).save _ (fun _ => KeyOk.C (by decide))).save _ (fun _ => KeyOk.C (by decide))
      have h5 : WfS L.chain (saveF (accN2 L x) (keyC 5) (ldF L.st.now (keyC 5) + 1)) := h2.save _ (fun _ => KeyOk.C (by decide))
      refine getO_of_ld (fun p hp => (h5.ok p hp).2) ?_
      rw [ldF_save, if_neg (ne_of_false (kMC _ _ _)), rd_N2, if_neg (ne_of_false (kMC _ _ _)), if_neg (ne_of_false (kMC _ _ _)), if_neg (ne_of_false (kMC _ _ _)), rd_N1 _ _ _ (fun c => ne_of_false (kMC _ _ c)) (fun t => ne_of_false (kMS _ _ t))]
      unfold accN0
      rw [ldF_save, if_neg (ne_of_false (kMN _ _ _)), ldF_fl _ _ _ (fun e _ => ne_of_false (kMB _ _ _ _))]
      exact hf
    · rw [if_neg hT, if_neg hT, cntM_N2, Nat.add_zero]
end Go.Proofs.Qxb6500786aGreat
