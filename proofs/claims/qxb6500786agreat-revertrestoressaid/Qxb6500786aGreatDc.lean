import Derived.DeepKeys2
import Derived.Test.Qxb6500786aGreatDb
import Derived.Test.Qxb6500786aGreatZa

import Derived.StillTailTactics
import Derived.Deep.QuietTactic
import Derived.BigQuiet
import Derived.Deep.RegionHeld
import Derived.Deep.CutRange
import Derived.Laws.ResultCell
import Derived.Laws.Rows
import Derived.DeepKeys
import Derived.DataBytes
import Derived.Laws.StructEq
import Derived.Laws.AppendOwn
import Derived.Laws.MakeOwn
import Derived.Lib.AppendStr
set_option linter.unusedSimpArgs false
set_option linter.unusedVariables false
namespace Go.Proofs.Qxb6500786aGreat
open Go.RowKit Go.Blk
attribute [local go_sem ↓] execOp_load execOp_store execOp_alloc
attribute [local go_sem] Tryz.ld24 Tryz.st24 Tryz.ld36 Tryz.st36 Tryz.ld28 Tryz.st28 Tryz.ld32 Tryz.st32 Tryz.ld33 Tryz.st33 Tryz.ld34 Tryz.st34 Tryz.ld5 Tryz.st5 Tryz.ld31 Tryz.st31 Tryz.ld30 Tryz.st30 Tryz.ld41 Tryz.st41 Tryz.ld44 Tryz.st44 Tryz.ld4 Tryz.st4 Tryz.ld173 Tryz.st173 Tryz.ld174 Tryz.st174 Tryz.ld95 Tryz.st95 Tryz.ld45 Tryz.st45 Tryz.ld207 Tryz.st207 Tryz.ld3 Tryz.st3 Tryz.ld189 Tryz.st189 Tryz.ld2 Tryz.st2 Tryz.ld9 Tryz.st9 Tryz.ld12 Tryz.st12 Tryz.ld21 Tryz.st21 Tryz.ld22 Tryz.st22 Tryz.ld46 Tryz.st46 Tryz.ld92 Tryz.st92 Tryz.ld94 Tryz.st94 Tryz.ld96 Tryz.st96 Tryz.ld97 Tryz.st97 Tryz.ld105 Tryz.st105 Tryz.ld117 Tryz.st117 Tryz.ld122 Tryz.st122 Tryz.ld123 Tryz.st123 Tryz.ld133 Tryz.st133 Tryz.ld155 Tryz.st155 Tryz.ld163 Tryz.st163 Tryz.ld190 Tryz.st190 Tryz.ld197 Tryz.st197 Tryz.ld201 Tryz.st201 Tryz.ld202 Tryz.st202 Tryz.ld209 Tryz.st209 Tryz.ld216 Tryz.st216 Tryz.ld230 Tryz.st230 Tryz.ld238 Tryz.st238 Tryz.ld242 Tryz.st242 Tryz.ld251 Tryz.st251 Tryz.ld260 Tryz.st260 Tryz.ld286 Tryz.st286 Tryz.ld292 Tryz.st292 Tryz.ld298 Tryz.st298 Tryz.ld309 Tryz.st309 Tryz.ld35 Tryz.st35 Tryz.ld48 Tryz.st48 Tryz.ld47 Tryz.st47 Tryz.ld79 Tryz.st79 Tryz.ld177 Tryz.st177 Tryz.ld180 Tryz.st180 Tryz.ld231 Tryz.st231 Tryz.ld232 Tryz.st232 Tryz.ld26 Tryz.st26 Tryz.ld38 Tryz.st38 Tryz.ld40 Tryz.st40 Tryz.ld43 Tryz.st43 Tryz.ld50 Tryz.st50 Tryz.ld52 Tryz.st52 Tryz.ld54 Tryz.st54 Tryz.ld81 Tryz.st81 Tryz.ld112 Tryz.st112 Tryz.ld120 Tryz.st120 Tryz.ld176 Tryz.st176 Tryz.ld179 Tryz.st179 Tryz.ld182 Tryz.st182 Tryz.ld184 Tryz.st184 Tryz.ld234 Tryz.st234 Tryz.ld236 Tryz.st236 Tryz.ld240 Tryz.st240 Tryz.ld246 Tryz.st246 Tryz.ld249 Tryz.st249 Tryz.al35 Tryz.al48 Tryz.al47 Tryz.al79 Tryz.al177 Tryz.al180 Tryz.al231 Tryz.al232 Tryz.al26 Tryz.al38 Tryz.al40 Tryz.al43 Tryz.al50 Tryz.al52 Tryz.al54 Tryz.al81 Tryz.al112 Tryz.al120 Tryz.al176 Tryz.al179 Tryz.al182 Tryz.al184 Tryz.al234 Tryz.al236 Tryz.al240 Tryz.al246 Tryz.al249
attribute [local go_sem] Player.length_enc Player.ok_enc Player.all_get Player.all_set Player.hand_get Player.hand_set Player.aside_get Player.aside_set Message.length_enc Message.ok_enc Message.all_get Message.all_set Message.kind_get Message.kind_set Message.from__get Message.from__set Message.to__get Message.to__set Message.sender_get Message.sender_set Message.receiver_get Message.receiver_set Message.seq_get Message.seq_set Message.token_get Message.token_set Message.amount_get Message.amount_set Message.size_get Message.size_set Message.payload_get Message.payload_set Tx.length_enc Tx.ok_enc Tx.all_get Tx.all_set Tx.kind_get Tx.kind_set Tx.chain_get Tx.chain_set Tx.from__get Tx.from__set Tx.nonce_get Tx.nonce_set Tx.fee_get Tx.fee_set Tx.to__get Tx.to__set Tx.dest_get Tx.dest_set Tx.token_get Tx.token_set Tx.amount_get Tx.amount_set Tx.size_get Tx.size_set Tx.payload_get Tx.payload_set Tx.msg_get Tx.msg_set Tx.msg_kind_get Tx.msg_kind_set Tx.msg_from__get Tx.msg_from__set Tx.msg_to__get Tx.msg_to__set Tx.msg_sender_get Tx.msg_sender_set Tx.msg_receiver_get Tx.msg_receiver_set Tx.msg_seq_get Tx.msg_seq_set Tx.msg_token_get Tx.msg_token_set Tx.msg_amount_get Tx.msg_amount_set Tx.msg_size_get Tx.msg_size_set Tx.msg_payload_get Tx.msg_payload_set GOp.length_enc GOp.ok_enc GOp.all_get GOp.all_set GOp.kind_get GOp.kind_set GOp.tx_get GOp.tx_set GOp.txs_get GOp.txs_set GOp.gas_get GOp.gas_set GOp.acct_get GOp.acct_set GOp.token_get GOp.token_set GOp.chain_get GOp.chain_set GOp.seq_get GOp.seq_set GOp.tx_kind_get GOp.tx_kind_set GOp.tx_chain_get GOp.tx_chain_set GOp.tx_from__get GOp.tx_from__set GOp.tx_nonce_get GOp.tx_nonce_set GOp.tx_fee_get GOp.tx_fee_set GOp.tx_to__get GOp.tx_to__set GOp.tx_dest_get GOp.tx_dest_set GOp.tx_token_get GOp.tx_token_set GOp.tx_amount_get GOp.tx_amount_set GOp.tx_size_get GOp.tx_size_set GOp.tx_payload_get GOp.tx_payload_set GOp.tx_msg_get GOp.tx_msg_set GOp.tx_msg_kind_get GOp.tx_msg_kind_set GOp.tx_msg_from__get GOp.tx_msg_from__set GOp.tx_msg_to__get GOp.tx_msg_to__set GOp.tx_msg_sender_get GOp.tx_msg_sender_set GOp.tx_msg_receiver_get GOp.tx_msg_receiver_set GOp.tx_msg_seq_get GOp.tx_msg_seq_set GOp.tx_msg_token_get GOp.tx_msg_token_set GOp.tx_msg_amount_get GOp.tx_msg_amount_set GOp.tx_msg_size_get GOp.tx_msg_size_set GOp.tx_msg_payload_get GOp.tx_msg_payload_set Summary.length_enc Summary.ok_enc Summary.all_get Summary.all_set Summary.height_get Summary.height_set Summary.txs_get Summary.txs_set Summary.gas_get Summary.gas_set Summary.fees_get Summary.fees_set Summary.sent_get Summary.sent_set Summary.took_get Summary.took_set Summary.minted_get Summary.minted_set Summary.burned_get Summary.burned_set Summary.root_get Summary.root_set Detail.length_enc Detail.ok_enc Detail.all_get Detail.all_set Detail.code_get Detail.code_set Detail.have__get Detail.have__set Detail.need_get Detail.need_set Slot.length_enc Slot.ok_enc Slot.all_get Slot.all_set Slot.nonce_get Slot.nonce_set Slot.balances_get Slot.balances_set Tree.length_enc Tree.ok_enc Tree.all_get Tree.all_set Tree.leaves_get Tree.leaves_set Mark.length_enc Mark.ok_enc Mark.all_get Mark.all_set Mark.from__get Mark.from__set Mark.seq_get Mark.seq_set Receipt.length_enc Receipt.ok_enc Receipt.all_get Receipt.all_set Receipt.code_get Receipt.code_set Receipt.hash_get Receipt.hash_set Receipt.index_get Receipt.index_set Receipt.gas_get Receipt.gas_set Receipt.fee_get Receipt.fee_set Receipt.hasSent_get Receipt.hasSent_set Receipt.sent_get Receipt.sent_set Receipt.hasTook_get Receipt.hasTook_set Receipt.took_get Receipt.took_set Receipt.sent_kind_get Receipt.sent_kind_set Receipt.sent_from__get Receipt.sent_from__set Receipt.sent_to__get Receipt.sent_to__set Receipt.sent_sender_get Receipt.sent_sender_set Receipt.sent_receiver_get Receipt.sent_receiver_set Receipt.sent_seq_get Receipt.sent_seq_set Receipt.sent_token_get Receipt.sent_token_set Receipt.sent_amount_get Receipt.sent_amount_set Receipt.sent_size_get Receipt.sent_size_set Receipt.sent_payload_get Receipt.sent_payload_set Receipt.took_kind_get Receipt.took_kind_set Receipt.took_from__get Receipt.took_from__set Receipt.took_to__get Receipt.took_to__set Receipt.took_sender_get Receipt.took_sender_set Receipt.took_receiver_get Receipt.took_receiver_set Receipt.took_seq_get Receipt.took_seq_set Receipt.took_token_get Receipt.took_token_set Receipt.took_amount_get Receipt.took_amount_set Receipt.took_size_get Receipt.took_size_set Receipt.took_payload_get Receipt.took_payload_set Store.length_enc Store.ok_enc Store.all_get Store.all_set Store.now_get Store.now_set Store.saved_get Store.saved_set GState.length_enc GState.ok_enc GState.all_get GState.all_set GState.kv_get GState.kv_set GState.tree_get GState.tree_set GState.stale_get GState.stale_set GState.touched_get GState.touched_set GState.kv_now_get GState.kv_now_set GState.kv_saved_get GState.kv_saved_set GState.tree_leaves_get GState.tree_leaves_set History.length_enc History.ok_enc History.all_get History.all_set History.ring_get History.ring_set History.closed_get History.closed_set Ledger.length_enc Ledger.ok_enc Ledger.all_get Ledger.all_set Ledger.chain_get Ledger.chain_set Ledger.st_get Ledger.st_set Ledger.height_get Ledger.height_set Ledger.open__get Ledger.open__set Ledger.gasLimit_get Ledger.gasLimit_set Ledger.past_get Ledger.past_set Ledger.begun_get Ledger.begun_set Ledger.sent_get Ledger.sent_set Ledger.took_get Ledger.took_set Ledger.receipts_get Ledger.receipts_set Ledger.st_kv_get Ledger.st_kv_set Ledger.st_tree_get Ledger.st_tree_set Ledger.st_stale_get Ledger.st_stale_set Ledger.st_touched_get Ledger.st_touched_set Ledger.st_kv_now_get Ledger.st_kv_now_set Ledger.st_kv_saved_get Ledger.st_kv_saved_set Ledger.st_tree_leaves_get Ledger.st_tree_leaves_set Ledger.past_ring_get Ledger.past_ring_set Ledger.past_closed_get Ledger.past_closed_set Ledger.begun_kv_get Ledger.begun_kv_set Ledger.begun_tree_get Ledger.begun_tree_set Ledger.begun_stale_get Ledger.begun_stale_set Ledger.begun_touched_get Ledger.begun_touched_set Ledger.begun_kv_now_get Ledger.begun_kv_now_set Ledger.begun_kv_saved_get Ledger.begun_kv_saved_set Ledger.begun_tree_leaves_get Ledger.begun_tree_leaves_set Purse.length_enc Purse.ok_enc Purse.all_get Purse.all_set Purse.st_get Purse.st_set Purse.n_get Purse.n_set Purse.account_get Purse.account_set Purse.token_get Purse.token_set Purse.amount_get Purse.amount_set Plan.length_enc Plan.ok_enc Plan.all_get Plan.all_set Plan.purse_get Plan.purse_set Plan.nonce_get Plan.nonce_set Plan.gasUsed_get Plan.gasUsed_set Plan.fees_get Plan.fees_set Plan.hasSupply_get Plan.hasSupply_set Plan.token_get Plan.token_set Plan.supply_get Plan.supply_set Plan.flowAt_get Plan.flowAt_set Plan.flow_get Plan.flow_set Plan.receipt_get Plan.receipt_set Plan.purse_st_get Plan.purse_st_set Plan.purse_n_get Plan.purse_n_set Plan.purse_account_get Plan.purse_account_set Plan.purse_token_get Plan.purse_token_set Plan.purse_amount_get Plan.purse_amount_set Plan.receipt_code_get Plan.receipt_code_set Plan.receipt_hash_get Plan.receipt_hash_set Plan.receipt_index_get Plan.receipt_index_set Plan.receipt_gas_get Plan.receipt_gas_set Plan.receipt_fee_get Plan.receipt_fee_set Plan.receipt_hasSent_get Plan.receipt_hasSent_set Plan.receipt_sent_get Plan.receipt_sent_set Plan.receipt_hasTook_get Plan.receipt_hasTook_set Plan.receipt_took_get Plan.receipt_took_set Plan.receipt_sent_kind_get Plan.receipt_sent_kind_set Plan.receipt_sent_from__get Plan.receipt_sent_from__set Plan.receipt_sent_to__get Plan.receipt_sent_to__set Plan.receipt_sent_sender_get Plan.receipt_sent_sender_set Plan.receipt_sent_receiver_get Plan.receipt_sent_receiver_set Plan.receipt_sent_seq_get Plan.receipt_sent_seq_set Plan.receipt_sent_token_get Plan.receipt_sent_token_set Plan.receipt_sent_amount_get Plan.receipt_sent_amount_set Plan.receipt_sent_size_get Plan.receipt_sent_size_set Plan.receipt_sent_payload_get Plan.receipt_sent_payload_set Plan.receipt_took_kind_get Plan.receipt_took_kind_set Plan.receipt_took_from__get Plan.receipt_took_from__set Plan.receipt_took_to__get Plan.receipt_took_to__set Plan.receipt_took_sender_get Plan.receipt_took_sender_set Plan.receipt_took_receiver_get Plan.receipt_took_receiver_set Plan.receipt_took_seq_get Plan.receipt_took_seq_set Plan.receipt_took_token_get Plan.receipt_took_token_set Plan.receipt_took_amount_get Plan.receipt_took_amount_set Plan.receipt_took_size_get Plan.receipt_took_size_set Plan.receipt_took_payload_get Plan.receipt_took_payload_set Move.length_enc Move.ok_enc Move.all_get Move.all_set Move.account_get Move.account_set Move.token_get Move.token_set Move.down_get Move.down_set Move.amount_get Move.amount_set Books.length_enc Books.ok_enc Books.all_get Books.all_set Books.sums_get Books.sums_set Books.stored_get Books.stored_set Books.marks_get Books.marks_set Pair.length_enc Pair.ok_enc Pair.all_get Pair.all_set Pair.key_get Pair.key_set Pair.value_get Pair.value_set
attribute [local go_sem] size_put size_ext blk_put free_put blk_alloc free_alloc blk_drew free_drew blk_ext free_ext lookOr_some putOr_some segAt_some cellAt_some storeIn_some put_put put_alloc_new length_arr ok_arr_u8 ok_arr_u32 ok_arr_u64 ok_arr_i64 ok_arr_sl cellsV_agg cellsV_int cellsV_bool cellsV_string cellsV_pointer cellsV_slice cellsV_sl ok_int ok_bool ok_string ok_pointer ok_slice ok_sl toList_arr seg_arr set_arr nth_splice nth_splice0 seg_splice seg_splice0 splice_splice splice_splice0 length_splice_if
attribute [local go_sem ↓] execOp_box
attribute [local go_sem] box_run nth_arr_u8 put_arr_u8 blk_drewN free_drewN put_drewN blk_raw free_raw
/-- What is loaded from a dump reads as the ledger did. -/
theorem ld_same {n : Nat} {L : PLg} {v : Vector UInt64 4} {l : List Pair} (hL : LI n L) (hM : MvI L) (ho : L.open_ = false) (hv : totN (dmpD L).bal 256 = some v) (hS : LdS (dmpD L) v l) (k : UInt64) (hk : KeyOk L.chain k) : ldF l k = ldF L.st.now k := by
  have hs := hL.now
  have hz := (hL.cl ho).1
  rcases hk with ⟨a, ha, rfl⟩ | ⟨a, t, ha, ht, rfl⟩ | ⟨t, ht, rfl⟩ | ⟨f, s, h1, h2, h3, rfl⟩ | ⟨i, h1, h2, rfl⟩
  · rw [hS.N, if_pos ha]
    exact dmpD_nonx hs.wf a ha
  · rw [hS.B, if_pos ⟨ha, ht⟩]
    exact dmpD_bal hs.wf a t ha ht
  · have e1 := (hS.tot hv t ht).1
    have e2 := hs.sum t ht
    apply UInt64.toNat_inj.1
    rw [← e1, ← e2]
    unfold tot
    have aux : ∀ m, m ≤ 64 → sumB (balB l) t m = sumB (balB L.st.now) t m := fun m => by
      induction m with
      | zero => intro _; rfl
      | succ m ih =>
        intro hm
        have em : (UInt8.ofNat m).toNat = m := by rw [UInt8.toNat_ofNat']; omega
        have eb : ldF l (keyB (UInt8.ofNat m) t) = ldF L.st.now (keyB (UInt8.ofNat m) t) := by
          rw [hS.B, if_pos ⟨by rw [em]; omega, ht⟩]
          exact dmpD_bal hs.wf _ _ (by rw [em]; omega) ht
        show sumB (balB l) t m + (ldF l (keyB (UInt8.ofNat m) t)).toNat = sumB (balB L.st.now) t m + (ldF L.st.now (keyB (UInt8.ofNat m) t)).toNat
        rw [ih (by omega), eb]
    exact aux 64 (Nat.le_refl _)
  · have hm := (dmpD_mks hs.wf).2 ⟨f, s⟩
    rw [mkL_mem hs.wf] at hm
    rcases hS.M f s h3 with ⟨e1, e2⟩ | ⟨e1, e2⟩
    · have := (hm.1 e2).2
      rcases hM.now f s h3 with q | q
      · exact absurd q this
      · rw [e1, q]
    · rw [e1]
      exact (Classical.byContradiction (fun q => e2 (hm.2 ⟨h3, fun e => q e.symm⟩)))
  · by_cases h6 : i = 6
    · subst h6
      apply UInt64.toNat_inj.1
      rw [hS.C6, dmpD_mk, hs.mrk]
    · rw [hS.C i h6 (by omega), hz i h1 h2 h6]
theorem dmp_tot {n : Nat} {L : PLg} (hL : LI n L) : ∃ v, totN (dmpD L).bal 256 = some v := by
  refine totN_ok (fun t ht => ?_) 256 (Nat.le_refl _)
  have hs := hL.now
  have et : (UInt8.ofNat t).toNat = t := by rw [UInt8.toNat_ofNat']; omega
  have e2 := hs.sum (UInt8.ofNat t) (by omega)
  have e3 := hs.sup (UInt8.ofNat t) (by omega)
  have aux : ∀ A, A ≤ 64 → sumB (balB L.st.now) (UInt8.ofNat t) A = colS (dmpD L).bal t (4 * A) := by
    intro A
    induction A with
    | zero => intro _; rfl
    | succ A ih =>
      intro hA
      rw [colS_four _ _ ht, ← ih (by omega)]
      show sumB (balB L.st.now) (UInt8.ofNat t) A + (ldF L.st.now (keyB (UInt8.ofNat A) (UInt8.ofNat t))).toNat = _
      have := dmpD_bal hs.wf (UInt8.ofNat A) (UInt8.ofNat t) (by rw [u8_of A (by omega)]; omega) (by omega)
      rw [u8_of A (by omega), et] at this
      rw [this]
  have := aux 64 (Nat.le_refl _)
  rw [← this]
  have e4 : tot (balB L.st.now) (UInt8.ofNat t) = sumB (balB L.st.now) (UInt8.ofNat t) 64 := rfl
  omega
theorem hisL_at (H : History) (i : Nat) (s : Summary) (h : (hisL H)[i]? = some s) : i < H.closed.toNat + 1 - (oldU H.closed).toNat ∧ s = H.ring[((oldU H.closed).toNat + i) % 8]'(Nat.mod_lt _ (by decide)) := by
  unfold hisL hisT at h
  rw [List.getElem?_map] at h
  cases hr : (List.range (H.closed.toNat + 1 - (oldU H.closed).toNat))[i]? with
  | none => rw [hr] at h; cases h
  | some j =>
    rw [hr] at h
    obtain ⟨q1, q2⟩ := List.getElem?_eq_some_iff.1 hr
    rw [List.length_range] at q1
    rw [List.getElem_range] at q2
    subst q2
    exact ⟨q1, (Option.some.inj h).symm⟩
theorem hisL_lenx (H : History) : (hisL H).length = if 8 < H.closed.toNat then 8 else H.closed.toNat := by
  unfold hisL hisT
  rw [List.length_map, List.length_range, oldU_nat]
  split <;> split <;> omega
theorem win (h : Nat) : ∃ w, (if 8 < h then 8 else h) = w ∧ (if h < 8 then 1 else h - 7) = h + 1 - w ∧ w ≤ 8 ∧ w ≤ h := by
  by_cases q : 8 < h
  · exact ⟨8, if_pos q, by rw [if_neg (by omega)]; omega, by omega, by omega⟩
  · refine ⟨h, if_neg q, ?_, by omega, by omega⟩
    by_cases q2 : h < 8
    · rw [if_pos q2]; omega
    · rw [if_neg q2]; omega
attribute [local irreducible] leafF updL topD
/-- A dump can be loaded. -/
theorem dmp_ok {n : Nat} {L : PLg} (hL : LI n L) (hc : CI L) (hs : HsI L) (hM : MvI L) (hn : n ≤ 500000) (ho : L.open_ = false) : ∃ v, LdOk (dmpD L) v := by
  obtain ⟨v, hv⟩ := dmp_tot hL
  have hst := hL.now
  have hch : (dmpD L).chain = L.chain := (dmpD_hc L).2
  have hht : (dmpD L).height = L.height := (dmpD_hc L).1
  have hms : mkSnd (newL (dmpD L).chain) (dmpD L).marks = true := by
    rw [hch]
    exact mks_snd hst.wf
  have hG : MkG (dmpD L).chain (dmpD L).marks := mkSnd_G hms
  have hml : (dmpD L).marks.length < 9223372036854775807 := by
    rw [dmpD_mk]
    have := hst.mrk
    have := hst.mkn
    omega
  have hS := ldL_st (v := v) hG hml
  have hD := ldL_ld (dmpD L) v
  have hp := hL.pst
  rw [ho, if_neg (by simp), Nat.add_zero] at hp
  have hh : (ldL (dmpD L) v).height = L.height := by rw [hD.1]; exact hht
  have hlen : (hisL L.past).length = if 8 < L.height.toNat then 8 else L.height.toNat := by rw [hisL_lenx, hp]
  have hold := oldU_nat (c := L.past.closed)
  refine ⟨v, by rw [hch]; exact hL.ch, hv, hms, fun a ha => ?_, ?_⟩
  · have := dmpD_non hL a
    rw [Vector.getElem?_eq_getElem ha] at this
    have this' : (dmpD L).non[a].toNat ≤ n := this
    omega
  · show lhOk (ldL (dmpD L) v) (hisL L.past)
    have rg : ∀ i s, (hisL L.past)[i]? = some s → s.height.toNat = (oldU L.past.closed).toNat + i ∧ smOk s ∧ s = L.past.ring[((oldU L.past.closed).toNat + i) % 8]'(Nat.mod_lt _ (by decide)) ∧ i < L.past.closed.toNat + 1 - (oldU L.past.closed).toNat := by
      intro i s hi
      obtain ⟨g1, g2⟩ := hisL_at _ _ _ hi
      have := hs.ring ((oldU L.past.closed).toNat + i) (by rw [hold]; split <;> omega) (by omega) (by rw [hold]; split <;> omega)
      rw [← g2] at this
      exact ⟨this.1, this.2, g2, g1⟩
    refine ⟨by rw [hlen, wantU_nat, hh], fun i s hi => ?_, fun s hi => ?_⟩
    · obtain ⟨g1, g2, -, g4⟩ := rg i s hi
      refine ⟨?_, g2⟩
      rw [hh]
      have e1 : (1 : UInt64).toNat = 1 := rfl
      have hlt := L.height.toNat_lt
      have hw := wantU_nat L.height
      have hle : (wantU L.height).toNat ≤ L.height.toNat := by rw [hw]; split <;> omega
      have e2 : (L.height - wantU L.height).toNat = L.height.toNat - (wantU L.height).toNat := by rw [UInt64.toNat_sub]; omega
      have e3 : (UInt64.ofNat i).toNat = i := by rw [UInt64.toNat_ofNat']; omega
      apply UInt64.toNat_inj.1
      rw [g1, UInt64.toNat_add, UInt64.toNat_add, e1, e2, e3, hw, hold, hp]
      rw [hold, hp] at g4
      obtain ⟨w, w1, w2, w3, w4⟩ := win L.height.toNat
      rw [w2] at g4 ⊢
      rw [w1]
      omega
    · obtain ⟨g1, g2, g3, g4⟩ := rg _ s hi
      have e0 : (oldU L.past.closed).toNat + ((hisL L.past).length - 1) = L.past.closed.toNat := by
        rw [hlen, hold, hp]
        rw [hold, hp] at g4
        obtain ⟨w, w1, w2, w3, w4⟩ := win L.height.toNat
        rw [w2] at g4 ⊢
        rw [w1]
        omega
      simp only [e0] at g3
      have nz : L.past.closed.toNat ≠ 0 := by
        rw [hold] at g4
        split at g4 <;> omega
      have r := hs.root nz
      rw [ho, if_neg (by simp)] at r
      have hco : CohS (ldL (dmpD L) v).st := (newL_ci (dmpD L).chain).coh.ch hD.2
      rw [g3, r, hco.root]
      refine rtN_congr (fun i hi => ?_)
      have ea : (UInt8.ofNat i).toNat = i := u8_of i (by omega)
      refine leaf_congr ?_ (fun t => ?_)
      · exact (ld_same hL hM ho hv hS _ (KeyOk.N (by omega))).symm
      · by_cases ht : t.toNat < 4
        · exact (ld_same hL hM ho hv hS _ (KeyOk.B (by omega) ht)).symm
        · have z1 : ldF (ldL (dmpD L) v).st.now (keyB (UInt8.ofNat i) t) = 0 := by rw [hS.B, if_neg (fun q => ht q.2)]
          have z2 : ldF L.st.now (keyB (UInt8.ofNat i) t) = 0 := Classical.byContradiction (fun e => by
            obtain ⟨p, hp, e1⟩ := List.mem_map.1 ((wf_mem hst.wf _).2 e)
            rcases (hst.wf.ok p hp).1 with ⟨a, -, q⟩ | ⟨a, t', -, ht', q⟩ | ⟨t', -, q⟩ | ⟨f, s, -, -, -, q⟩ | ⟨j, -, -, q⟩
            · rw [e1] at q; exact ne_of_false (kBN _ _ _) q
            · rw [e1] at q
              have := (keyB_inj q).2
              rw [this] at ht
              exact ht ht'
            · rw [e1] at q; exact ne_of_false (kSB _ _ _) q.symm
            · rw [e1] at q; exact ne_of_false (kMB _ _ _ _) q.symm
            · rw [e1] at q; exact ne_of_false (kCB _ _ _) q.symm)
          rw [z1, z2]
theorem hisL_ext {A B : History} (h : A.closed = B.closed) (hr : ∀ j, (oldU A.closed).toNat ≤ j → j ≤ A.closed.toNat → A.ring[j % 8]'(Nat.mod_lt _ (by decide)) = B.ring[j % 8]'(Nat.mod_lt _ (by decide))) : hisL A = hisL B := by
  obtain ⟨ra, ca⟩ := A
  obtain ⟨rb, cb⟩ := B
  dsimp only at h
  subst h
  unfold hisL hisT
  refine List.map_congr_left (fun j hj => ?_)
  rw [List.mem_range] at hj
  exact hr _ (by omega) (by omega)
/-- DumpRoundTrip, plainly. -/
theorem dmp_law {n : Nat} {L : PLg} (hL : LI n L) (hc : CI L) (hs : HsI L) (hM : MvI L) (hn : n ≤ 500000) (ho : L.open_ = false) {v : Vector UInt64 4} (hv : LdOk (dmpD L) v) : (LI n (lhL (ldL (dmpD L) v) (dmpD L).hist) ∧ CI (lhL (ldL (dmpD L) v) (dmpD L).hist)) ∧ eqlF (lhL (ldL (dmpD L) v) (dmpD L).hist) L = true ∧ rootD (lhL (ldL (dmpD L) v) (dmpD L).hist).st = rootD L.st ∧ (lhL (ldL (dmpD L) v) (dmpD L).hist).open_ = false ∧ dmpD (lhL (ldL (dmpD L) v) (dmpD L).hist) = dmpD L := by
  have hst := hL.now
  have hch : (dmpD L).chain = L.chain := (dmpD_hc L).2
  have hht : (dmpD L).height = L.height := (dmpD_hc L).1
  have hmk : (dmpD L).marks.length ≤ n := by
    rw [dmpD_mk, ← hst.mrk]
    exact hst.mkn
  have hG : MkG (dmpD L).chain (dmpD L).marks := mkSnd_G hv.2.2.1
  have hS := ldL_st (v := v) hG (by omega)
  have hD := ldL_ld (dmpD L) v
  have hli := load_li hv (fun a => dmpD_non hL a) hmk (by rw [hht]; exact hL.ht) (by omega)
  have hnow := lhL_now (ldL (dmpD L) v) (dmpD L).hist
  have hsame := fun k hk => ld_same hL hM ho hv.2.1 hS k hk
  have hcl := lh_closed hv.2.2.2.2 (by rw [hD.1]; rfl)
  have hp := hL.pst
  rw [ho, if_neg (by simp), Nat.add_zero] at hp
  have hh : (ldL (dmpD L) v).height = L.height := by rw [hD.1]; exact hht
  have hop : (lhL (ldL (dmpD L) v) (dmpD L).hist).open_ = false := by rw [hnow.2, hD.1]; rfl
  have hf : (lhL (ldL (dmpD L) v) (dmpD L).hist).chain = L.chain ∧ (lhL (ldL (dmpD L) v) (dmpD L).hist).height = L.height := by
    have e : (lhL (ldL (dmpD L) v) (dmpD L).hist).chain = (ldL (dmpD L) v).chain ∧ (lhL (ldL (dmpD L) v) (dmpD L).hist).height = (ldL (dmpD L) v).height := by
      unfold lhL
      split
      · exact ⟨rfl, rfl⟩
      · rw [lhN_past]
        simp only [rotL]
        exact ⟨trivial, trivial⟩
    rw [e.1, e.2, hh]
    refine ⟨?_, rfl⟩
    rw [hD.1]
    exact hch
  have hring : ∀ j, (oldU L.past.closed).toNat ≤ j → j ≤ L.past.closed.toNat → (lhL (ldL (dmpD L) v) (dmpD L).hist).past.ring[j % 8]'(Nat.mod_lt _ (by decide)) = L.past.ring[j % 8]'(Nat.mod_lt _ (by decide)) := by
    intro j j1 j2
    have hold := oldU_nat (c := L.past.closed)
    have hlx := hisL_lenx L.past
    have hi : j - (oldU L.past.closed).toNat < (hisL L.past).length := by
      rw [hlx]
      rw [hold] at j1 ⊢
      obtain ⟨w, w1, w2, w3, w4⟩ := win L.past.closed.toNat
      rw [w2] at j1 ⊢
      rw [w1]
      omega
    have hs1 : (hisL L.past)[j - (oldU L.past.closed).toNat]? = some ((hisL L.past)[j - (oldU L.past.closed).toNat]'hi) := List.getElem?_eq_getElem hi
    have g := (hisL_at _ _ _ hs1).2
    have e := lhL_at hv.2.2.2.2 _ _ hs1
    have e1 : (oldU L.past.closed).toNat + (j - (oldU L.past.closed).toNat) = j := by omega
    simp only [e1] at g
    rw [← g]
    have e2 : (ldL (dmpD L) v).height.toNat - (hisL L.past).length + 1 + (j - (oldU L.past.closed).toNat) = j := by
      rw [hh, ← hp, hlx]
      rw [hold] at j1 ⊢
      obtain ⟨w, w1, w2, w3, w4⟩ := win L.past.closed.toNat
      rw [w2] at j1 ⊢
      rw [w1]
      omega
    have e' : (lhL (ldL (dmpD L) v) (dmpD L).hist).past.ring[((ldL (dmpD L) v).height.toNat - (hisL L.past).length + 1 + (j - (oldU L.past.closed).toNat)) % 8]'(Nat.mod_lt _ (by decide)) = (hisL L.past)[j - (oldU L.past.closed).toNat]'hi := e
    simp only [e2] at e'
    exact e'
  obtain ⟨M, hMd⟩ : ∃ M, M = lhL (ldL (dmpD L) v) (dmpD L).hist := ⟨_, rfl⟩
  rw [← hMd] at hli hnow hcl hop hf hring ⊢
  have hsm : ∀ k, KeyOk L.chain k → ldF M.st.now k = ldF L.st.now k := fun k hk => by rw [hnow.1]; exact hsame k hk
  have hMs := hli.1.now
  have hcl' : M.past.closed = L.past.closed := UInt64.toNat_inj.1 (by rw [hcl, hh, hp])
  have zM := hli.1.cl hop
  have zL := hL.cl ho
  have c3 : ∀ l : List Pair, Zer l → (ldF l (keyC 3)).toNat = 0 ∧ (ldF l (keyC 4)).toNat = 0 ∧ (ldF l (keyC 5)).toNat = 0 := fun l hz => by
    rw [hz 3 (by decide) (by decide) (by decide), hz 4 (by decide) (by decide) (by decide), hz 5 (by decide) (by decide) (by decide)]
    exact ⟨rfl, rfl, rfl⟩
  have cM := c3 _ zM.1
  have cL := c3 _ zL.1
  have hwM : WfS L.chain M.st.now := by rw [← hf.1]; exact hMs.wf
  have hrt : rtN M.st.now = rtN L.st.now := by
    refine rtN_congr (fun i hi => ?_)
    have ea : (UInt8.ofNat i).toNat = i := u8_of i (by omega)
    refine leaf_congr (hsm _ (KeyOk.N (by omega))) (fun t => ?_)
    by_cases ht : t.toNat < 4
    · exact hsm _ (KeyOk.B (by omega) ht)
    · have no : ¬ KeyOk L.chain (keyB (UInt8.ofNat i) t) := by
        rintro (⟨a, -, q⟩ | ⟨a, t', -, ht', q⟩ | ⟨t', -, q⟩ | ⟨f, s, -, -, -, q⟩ | ⟨j, -, -, q⟩)
        · exact ne_of_false (kBN _ _ _) q
        · have := (keyB_inj q).2
          rw [this] at ht
          exact ht ht'
        · exact ne_of_false (kSB _ _ _) q.symm
        · exact ne_of_false (kMB _ _ _ _) q.symm
        · exact ne_of_false (kCB _ _ _) q.symm
      have z : ∀ l, WfS L.chain l → ldF l (keyB (UInt8.ofNat i) t) = 0 := fun l hw => Classical.byContradiction (fun e => by
        obtain ⟨p, hp, e1⟩ := List.mem_map.1 ((wf_mem hw _).2 e)
        exact no (by rw [← e1]; exact (hw.ok p hp).1))
      rw [z _ hwM, z _ hst.wf]
  refine ⟨hli, ?_, ?_, hop, ?_⟩
  · unfold eqlF
    rw [if_pos (by rw [hf.1]), if_pos (by rw [hf.2]), if_pos (by rw [hop, ho]), if_pos (by rw [zM.2.2.1, zL.2.2.1]), if_pos (by rw [zM.2.1, zL.2.1]), if_pos (sto_same hwM hst.wf hsm), if_pos ((hisE_iff _ _).2 ⟨hcl', fun j j1 j2 => hring j (by rw [← hcl']; exact j1) (by rw [← hcl']; exact j2)⟩)]
    unfold sntE tkE rcE
    rw [cM.1, cM.2.1, cM.2.2, cL.1, cL.2.1, cL.2.2, List.take_zero, List.take_zero, List.take_zero, List.take_zero, List.take_zero, List.take_zero, if_pos (eqA_self _), if_pos (eqA_self _)]
    exact eqA_self _
  · rw [hli.2.coh.root, hc.coh.root]
    exact hrt
  · have hbal : (dmpD M).bal = (dmpD L).bal := by
      apply Vector.ext
      intro i hi
      have h1 := dmpD_bal hwM (UInt8.ofNat (i / 4)) (UInt8.ofNat (i % 4)) (by rw [u8_of _ (by omega)]; omega) (by rw [u8_of _ (by omega)]; omega)
      have h2 := dmpD_bal hst.wf (UInt8.ofNat (i / 4)) (UInt8.ofNat (i % 4)) (by rw [u8_of _ (by omega)]; omega) (by rw [u8_of _ (by omega)]; omega)
      rw [hsm _ (KeyOk.B (by rw [u8_of _ (by omega)]; omega) (by rw [u8_of _ (by omega)]; omega)), ← h2] at h1
      have ei : 4 * (UInt8.ofNat (i / 4)).toNat + (UInt8.ofNat (i % 4)).toNat = i := by rw [u8_of _ (by omega), u8_of _ (by omega)]; omega
      rw [ei, Vector.getElem?_eq_getElem hi, Vector.getElem?_eq_getElem hi] at h1
      exact h1
    have hnon : (dmpD M).non = (dmpD L).non := by
      apply Vector.ext
      intro i hi
      have ei : (UInt8.ofNat i).toNat = i := u8_of _ (by omega)
      have h1 := dmpD_nonx hwM (UInt8.ofNat i) (by omega)
      have h2 := dmpD_nonx hst.wf (UInt8.ofNat i) (by omega)
      rw [hsm _ (KeyOk.N (by omega)), ← h2, ei, Vector.getElem?_eq_getElem hi, Vector.getElem?_eq_getElem hi] at h1
      exact h1
    have hmks : (dmpD M).marks = (dmpD L).marks := by
      obtain ⟨a1, a2⟩ := dmpD_mks hwM
      obtain ⟨b1, b2⟩ := dmpD_mks hst.wf
      refine pw_uniq2 mkB_as _ _ a1 b1 (fun m => ?_)
      rw [a2, b2, mkL_mem hwM, mkL_mem hst.wf]
      by_cases q : KeyOk L.chain (keyM m.from_ m.seq)
      · rw [hsm _ q]
      · have z : ∀ l, WfS L.chain l → ldF l (keyM m.from_ m.seq) = 0 := fun l hw => Classical.byContradiction (fun e => by
          obtain ⟨p, hp, e1⟩ := List.mem_map.1 ((wf_mem hw _).2 e)
          exact q (by rw [← e1]; exact (hw.ok p hp).1))
        rw [z _ hwM, z _ hst.wf]
    have hhis : (dmpD M).hist = (dmpD L).hist := by
      show hisL M.past = hisL L.past
      exact hisL_ext hcl' (fun j j1 j2 => hring j (by rw [← hcl']; exact j1) (by rw [← hcl']; exact j2))
    have e1 : (dmpD M).chain = (dmpD L).chain := by rw [(dmpD_hc M).2, hch]; exact hf.1
    have e2 : (dmpD M).height = (dmpD L).height := by rw [(dmpD_hc M).1, hht]; exact hf.2

    generalize dmpD M = A at *
    generalize dmpD L = B at *
    cases A
    cases B
    simp_all
end Go.Proofs.Qxb6500786aGreat
