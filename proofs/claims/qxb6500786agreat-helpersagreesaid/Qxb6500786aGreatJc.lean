import Derived.DeepKeys2
import Derived.Test.Qxb6500786aGreatJb
import Derived.Test.Qxb6500786aGreatUb

import Derived.StillTailTactics
import Derived.Deep.QuietTactic
import Derived.BigQuiet
import Derived.Deep.RegionHeld
import Derived.Deep.CutRange
import Derived.Laws.ResultCell
import Derived.Laws.Rows
import Derived.DeepKeys
import Derived.DataBytes
import Derived.Laws.StructEq
import Derived.Laws.AppendOwn
import Derived.Laws.MakeOwn
import Derived.Lib.AppendStr
set_option linter.unusedSimpArgs false
set_option linter.unusedVariables false
namespace Go.Proofs.Qxb6500786aGreat
open Go.RowKit Go.Blk
attribute [local go_sem ↓] execOp_load execOp_store execOp_alloc
attribute [local go_sem] Tryz.ld24 Tryz.st24 Tryz.ld36 Tryz.st36 Tryz.ld28 Tryz.st28 Tryz.ld32 Tryz.st32 Tryz.ld33 Tryz.st33 Tryz.ld34 Tryz.st34 Tryz.ld5 Tryz.st5 Tryz.ld31 Tryz.st31 Tryz.ld30 Tryz.st30 Tryz.ld41 Tryz.st41 Tryz.ld44 Tryz.st44 Tryz.ld4 Tryz.st4 Tryz.ld173 Tryz.st173 Tryz.ld174 Tryz.st174 Tryz.ld95 Tryz.st95 Tryz.ld45 Tryz.st45 Tryz.ld207 Tryz.st207 Tryz.ld3 Tryz.st3 Tryz.ld189 Tryz.st189 Tryz.ld2 Tryz.st2 Tryz.ld9 Tryz.st9 Tryz.ld12 Tryz.st12 Tryz.ld21 Tryz.st21 Tryz.ld22 Tryz.st22 Tryz.ld46 Tryz.st46 Tryz.ld92 Tryz.st92 Tryz.ld94 Tryz.st94 Tryz.ld96 Tryz.st96 Tryz.ld97 Tryz.st97 Tryz.ld105 Tryz.st105 Tryz.ld117 Tryz.st117 Tryz.ld122 Tryz.st122 Tryz.ld123 Tryz.st123 Tryz.ld133 Tryz.st133 Tryz.ld155 Tryz.st155 Tryz.ld163 Tryz.st163 Tryz.ld190 Tryz.st190 Tryz.ld197 Tryz.st197 Tryz.ld201 Tryz.st201 Tryz.ld202 Tryz.st202 Tryz.ld209 Tryz.st209 Tryz.ld216 Tryz.st216 Tryz.ld230 Tryz.st230 Tryz.ld238 Tryz.st238 Tryz.ld242 Tryz.st242 Tryz.ld251 Tryz.st251 Tryz.ld260 Tryz.st260 Tryz.ld286 Tryz.st286 Tryz.ld292 Tryz.st292 Tryz.ld298 Tryz.st298 Tryz.ld309 Tryz.st309 Tryz.ld35 Tryz.st35 Tryz.ld48 Tryz.st48 Tryz.ld47 Tryz.st47 Tryz.ld79 Tryz.st79 Tryz.ld177 Tryz.st177 Tryz.ld180 Tryz.st180 Tryz.ld231 Tryz.st231 Tryz.ld232 Tryz.st232 Tryz.ld26 Tryz.st26 Tryz.ld38 Tryz.st38 Tryz.ld40 Tryz.st40 Tryz.ld43 Tryz.st43 Tryz.ld50 Tryz.st50 Tryz.ld52 Tryz.st52 Tryz.ld54 Tryz.st54 Tryz.ld81 Tryz.st81 Tryz.ld112 Tryz.st112 Tryz.ld120 Tryz.st120 Tryz.ld176 Tryz.st176 Tryz.ld179 Tryz.st179 Tryz.ld182 Tryz.st182 Tryz.ld184 Tryz.st184 Tryz.ld234 Tryz.st234 Tryz.ld236 Tryz.st236 Tryz.ld240 Tryz.st240 Tryz.ld246 Tryz.st246 Tryz.ld249 Tryz.st249 Tryz.al35 Tryz.al48 Tryz.al47 Tryz.al79 Tryz.al177 Tryz.al180 Tryz.al231 Tryz.al232 Tryz.al26 Tryz.al38 Tryz.al40 Tryz.al43 Tryz.al50 Tryz.al52 Tryz.al54 Tryz.al81 Tryz.al112 Tryz.al120 Tryz.al176 Tryz.al179 Tryz.al182 Tryz.al184 Tryz.al234 Tryz.al236 Tryz.al240 Tryz.al246 Tryz.al249
attribute [local go_sem] Player.length_enc Player.ok_enc Player.all_get Player.all_set Player.hand_get Player.hand_set Player.aside_get Player.aside_set Message.length_enc Message.ok_enc Message.all_get Message.all_set Message.kind_get Message.kind_set Message.from__get Message.from__set Message.to__get Message.to__set Message.sender_get Message.sender_set Message.receiver_get Message.receiver_set Message.seq_get Message.seq_set Message.token_get Message.token_set Message.amount_get Message.amount_set Message.size_get Message.size_set Message.payload_get Message.payload_set Tx.length_enc Tx.ok_enc Tx.all_get Tx.all_set Tx.kind_get Tx.kind_set Tx.chain_get Tx.chain_set Tx.from__get Tx.from__set Tx.nonce_get Tx.nonce_set Tx.fee_get Tx.fee_set Tx.to__get Tx.to__set Tx.dest_get Tx.dest_set Tx.token_get Tx.token_set Tx.amount_get Tx.amount_set Tx.size_get Tx.size_set Tx.payload_get Tx.payload_set Tx.msg_get Tx.msg_set Tx.msg_kind_get Tx.msg_kind_set Tx.msg_from__get Tx.msg_from__set Tx.msg_to__get Tx.msg_to__set Tx.msg_sender_get Tx.msg_sender_set Tx.msg_receiver_get Tx.msg_receiver_set Tx.msg_seq_get Tx.msg_seq_set Tx.msg_token_get Tx.msg_token_set Tx.msg_amount_get Tx.msg_amount_set Tx.msg_size_get Tx.msg_size_set Tx.msg_payload_get Tx.msg_payload_set GOp.length_enc GOp.ok_enc GOp.all_get GOp.all_set GOp.kind_get GOp.kind_set GOp.tx_get GOp.tx_set GOp.txs_get GOp.txs_set GOp.gas_get GOp.gas_set GOp.acct_get GOp.acct_set GOp.token_get GOp.token_set GOp.chain_get GOp.chain_set GOp.seq_get GOp.seq_set GOp.tx_kind_get GOp.tx_kind_set GOp.tx_chain_get GOp.tx_chain_set GOp.tx_from__get GOp.tx_from__set GOp.tx_nonce_get GOp.tx_nonce_set GOp.tx_fee_get GOp.tx_fee_set GOp.tx_to__get GOp.tx_to__set GOp.tx_dest_get GOp.tx_dest_set GOp.tx_token_get GOp.tx_token_set GOp.tx_amount_get GOp.tx_amount_set GOp.tx_size_get GOp.tx_size_set GOp.tx_payload_get GOp.tx_payload_set GOp.tx_msg_get GOp.tx_msg_set GOp.tx_msg_kind_get GOp.tx_msg_kind_set GOp.tx_msg_from__get GOp.tx_msg_from__set GOp.tx_msg_to__get GOp.tx_msg_to__set GOp.tx_msg_sender_get GOp.tx_msg_sender_set GOp.tx_msg_receiver_get GOp.tx_msg_receiver_set GOp.tx_msg_seq_get GOp.tx_msg_seq_set GOp.tx_msg_token_get GOp.tx_msg_token_set GOp.tx_msg_amount_get GOp.tx_msg_amount_set GOp.tx_msg_size_get GOp.tx_msg_size_set GOp.tx_msg_payload_get GOp.tx_msg_payload_set Summary.length_enc Summary.ok_enc Summary.all_get Summary.all_set Summary.height_get Summary.height_set Summary.txs_get Summary.txs_set Summary.gas_get Summary.gas_set Summary.fees_get Summary.fees_set Summary.sent_get Summary.sent_set Summary.took_get Summary.took_set Summary.minted_get Summary.minted_set Summary.burned_get Summary.burned_set Summary.root_get Summary.root_set Detail.length_enc Detail.ok_enc Detail.all_get Detail.all_set Detail.code_get Detail.code_set Detail.have__get Detail.have__set Detail.need_get Detail.need_set Slot.length_enc Slot.ok_enc Slot.all_get Slot.all_set Slot.nonce_get Slot.nonce_set Slot.balances_get Slot.balances_set Tree.length_enc Tree.ok_enc Tree.all_get Tree.all_set Tree.leaves_get Tree.leaves_set Mark.length_enc Mark.ok_enc Mark.all_get Mark.all_set Mark.from__get Mark.from__set Mark.seq_get Mark.seq_set Receipt.length_enc Receipt.ok_enc Receipt.all_get Receipt.all_set Receipt.code_get Receipt.code_set Receipt.hash_get Receipt.hash_set Receipt.index_get Receipt.index_set Receipt.gas_get Receipt.gas_set Receipt.fee_get Receipt.fee_set Receipt.hasSent_get Receipt.hasSent_set Receipt.sent_get Receipt.sent_set Receipt.hasTook_get Receipt.hasTook_set Receipt.took_get Receipt.took_set Receipt.sent_kind_get Receipt.sent_kind_set Receipt.sent_from__get Receipt.sent_from__set Receipt.sent_to__get Receipt.sent_to__set Receipt.sent_sender_get Receipt.sent_sender_set Receipt.sent_receiver_get Receipt.sent_receiver_set Receipt.sent_seq_get Receipt.sent_seq_set Receipt.sent_token_get Receipt.sent_token_set Receipt.sent_amount_get Receipt.sent_amount_set Receipt.sent_size_get Receipt.sent_size_set Receipt.sent_payload_get Receipt.sent_payload_set Receipt.took_kind_get Receipt.took_kind_set Receipt.took_from__get Receipt.took_from__set Receipt.took_to__get Receipt.took_to__set Receipt.took_sender_get Receipt.took_sender_set Receipt.took_receiver_get Receipt.took_receiver_set Receipt.took_seq_get Receipt.took_seq_set Receipt.took_token_get Receipt.took_token_set Receipt.took_amount_get Receipt.took_amount_set Receipt.took_size_get Receipt.took_size_set Receipt.took_payload_get Receipt.took_payload_set Store.length_enc Store.ok_enc Store.all_get Store.all_set Store.now_get Store.now_set Store.saved_get Store.saved_set GState.length_enc GState.ok_enc GState.all_get GState.all_set GState.kv_get GState.kv_set GState.tree_get GState.tree_set GState.stale_get GState.stale_set GState.touched_get GState.touched_set GState.kv_now_get GState.kv_now_set GState.kv_saved_get GState.kv_saved_set GState.tree_leaves_get GState.tree_leaves_set History.length_enc History.ok_enc History.all_get History.all_set History.ring_get History.ring_set History.closed_get History.closed_set Ledger.length_enc Ledger.ok_enc Ledger.all_get Ledger.all_set Ledger.chain_get Ledger.chain_set Ledger.st_get Ledger.st_set Ledger.height_get Ledger.height_set Ledger.open__get Ledger.open__set Ledger.gasLimit_get Ledger.gasLimit_set Ledger.past_get Ledger.past_set Ledger.begun_get Ledger.begun_set Ledger.sent_get Ledger.sent_set Ledger.took_get Ledger.took_set Ledger.receipts_get Ledger.receipts_set Ledger.st_kv_get Ledger.st_kv_set Ledger.st_tree_get Ledger.st_tree_set Ledger.st_stale_get Ledger.st_stale_set Ledger.st_touched_get Ledger.st_touched_set Ledger.st_kv_now_get Ledger.st_kv_now_set Ledger.st_kv_saved_get Ledger.st_kv_saved_set Ledger.st_tree_leaves_get Ledger.st_tree_leaves_set Ledger.past_ring_get Ledger.past_ring_set Ledger.past_closed_get Ledger.past_closed_set Ledger.begun_kv_get Ledger.begun_kv_set Ledger.begun_tree_get Ledger.begun_tree_set Ledger.begun_stale_get Ledger.begun_stale_set Ledger.begun_touched_get Ledger.begun_touched_set Ledger.begun_kv_now_get Ledger.begun_kv_now_set Ledger.begun_kv_saved_get Ledger.begun_kv_saved_set Ledger.begun_tree_leaves_get Ledger.begun_tree_leaves_set Purse.length_enc Purse.ok_enc Purse.all_get Purse.all_set Purse.st_get Purse.st_set Purse.n_get Purse.n_set Purse.account_get Purse.account_set Purse.token_get Purse.token_set Purse.amount_get Purse.amount_set Plan.length_enc Plan.ok_enc Plan.all_get Plan.all_set Plan.purse_get Plan.purse_set Plan.nonce_get Plan.nonce_set Plan.gasUsed_get Plan.gasUsed_set Plan.fees_get Plan.fees_set Plan.hasSupply_get Plan.hasSupply_set Plan.token_get Plan.token_set Plan.supply_get Plan.supply_set Plan.flowAt_get Plan.flowAt_set Plan.flow_get Plan.flow_set Plan.receipt_get Plan.receipt_set Plan.purse_st_get Plan.purse_st_set Plan.purse_n_get Plan.purse_n_set Plan.purse_account_get Plan.purse_account_set Plan.purse_token_get Plan.purse_token_set Plan.purse_amount_get Plan.purse_amount_set Plan.receipt_code_get Plan.receipt_code_set Plan.receipt_hash_get Plan.receipt_hash_set Plan.receipt_index_get Plan.receipt_index_set Plan.receipt_gas_get Plan.receipt_gas_set Plan.receipt_fee_get Plan.receipt_fee_set Plan.receipt_hasSent_get Plan.receipt_hasSent_set Plan.receipt_sent_get Plan.receipt_sent_set Plan.receipt_hasTook_get Plan.receipt_hasTook_set Plan.receipt_took_get Plan.receipt_took_set Plan.receipt_sent_kind_get Plan.receipt_sent_kind_set Plan.receipt_sent_from__get Plan.receipt_sent_from__set Plan.receipt_sent_to__get Plan.receipt_sent_to__set Plan.receipt_sent_sender_get Plan.receipt_sent_sender_set Plan.receipt_sent_receiver_get Plan.receipt_sent_receiver_set Plan.receipt_sent_seq_get Plan.receipt_sent_seq_set Plan.receipt_sent_token_get Plan.receipt_sent_token_set Plan.receipt_sent_amount_get Plan.receipt_sent_amount_set Plan.receipt_sent_size_get Plan.receipt_sent_size_set Plan.receipt_sent_payload_get Plan.receipt_sent_payload_set Plan.receipt_took_kind_get Plan.receipt_took_kind_set Plan.receipt_took_from__get Plan.receipt_took_from__set Plan.receipt_took_to__get Plan.receipt_took_to__set Plan.receipt_took_sender_get Plan.receipt_took_sender_set Plan.receipt_took_receiver_get Plan.receipt_took_receiver_set Plan.receipt_took_seq_get Plan.receipt_took_seq_set Plan.receipt_took_token_get Plan.receipt_took_token_set Plan.receipt_took_amount_get Plan.receipt_took_amount_set Plan.receipt_took_size_get Plan.receipt_took_size_set Plan.receipt_took_payload_get Plan.receipt_took_payload_set Move.length_enc Move.ok_enc Move.all_get Move.all_set Move.account_get Move.account_set Move.token_get Move.token_set Move.down_get Move.down_set Move.amount_get Move.amount_set Books.length_enc Books.ok_enc Books.all_get Books.all_set Books.sums_get Books.sums_set Books.stored_get Books.stored_set Books.marks_get Books.marks_set Pair.length_enc Pair.ok_enc Pair.all_get Pair.all_set Pair.key_get Pair.key_set Pair.value_get Pair.value_set
attribute [local go_sem] size_put size_ext blk_put free_put blk_alloc free_alloc blk_drew free_drew blk_ext free_ext lookOr_some putOr_some segAt_some cellAt_some storeIn_some put_put put_alloc_new length_arr ok_arr_u8 ok_arr_u32 ok_arr_u64 ok_arr_i64 ok_arr_sl cellsV_agg cellsV_int cellsV_bool cellsV_string cellsV_pointer cellsV_slice cellsV_sl ok_int ok_bool ok_string ok_pointer ok_slice ok_sl toList_arr seg_arr set_arr nth_splice nth_splice0 seg_splice seg_splice0 splice_splice splice_splice0 length_splice_if
attribute [local go_sem ↓] execOp_box
attribute [local go_sem] box_run nth_arr_u8 put_arr_u8 blk_drewN free_drewN put_drewN blk_raw free_raw
theorem cmF_now (S : PSt) : (cmF S).2.now = S.now := by
  unfold cmF
  split <;> rfl
theorem cmN_now : ∀ (k : Nat) (S : PSt), (cmN S k).now = S.now
  | 0, _ => rfl
  | k + 1, S => by
    show (cmN (cmF S).2 k).now = _
    rw [cmN_now k, cmF_now]
theorem clr_sup (l : List Pair) (t : Nat) : supL (clrA l) t = supL l t := clrA_keep _ (fun i _ => ne_of_false (kSC _ _))
/-- The receipts of a step that count. -/
def effR (g : GOp) (a : PAns) : List Receipt := if a.code = 0 ∧ asF g.kind = false then a.rs else []
theorem eq_sup {S : UInt64} {t : Nat} : S + dL [] t = S + uL [] t := rfl
/-- A step moves a total only by what its receipts say, but for those that bring an earlier state back. -/
theorem stp_sup {n : Nat} {L1 L2 : PLg} {g : GOp} {X : List Tx} (h : LI n L1) (hn : n + X.length + 1 < 10000000) (hk : g.kind ≠ 8 ∧ g.kind ≠ 23 ∧ g.kind ≠ 27 ∧ g.kind ≠ 16) {t : Nat} (ht : t < 4) : supL (stpF L1 L2 g X).2.1.st.now t + dL (effR g (stpF L1 L2 g X).1) t = supL L1.st.now t + uL (effR g (stpF L1 L2 g X).1) t := by
  by_cases hc : (stpF L1 L2 g X).1.code = 0 ∧ asF g.kind = false
  rotate_left 1
  · unfold effR
    rw [if_neg hc]
    have hkp : Kept L1 (stpF L1 L2 g X).2.1 := stp_kept h (by omega) (by
      by_cases q : (stpF L1 L2 g X).1.code = 0
      · right
        cases hh : asF g.kind with
        | true => rfl
        | false => exact absurd ⟨q, hh⟩ hc
      · exact .inl q)
    rw [hkp.now]
    exact eq_sup
  · unfold effR
    rw [if_pos hc]
    obtain ⟨hc0, has⟩ := hc
    have no : ∀ {k : Int}, g.kind = k → asF k = true → False := fun e f => by rw [e, f] at has; cases has
    unfold stpF at hc0 ⊢
    by_cases k15 : g.kind = 15
    · rw [if_pos k15]; exact eq_sup
    rw [if_neg k15] at hc0 ⊢
    rw [if_neg hk.2.2.2] at hc0 ⊢
    by_cases k17 : g.kind = 17
    · rw [if_pos k17]
      show supL (rldF L1 (g.seq.toNat % 10)).2.st.now t + dL [] t = _
      rw [rld_sup h (by omega) _ t ht]
      exact eq_sup
    rw [if_neg k17] at hc0 ⊢
    dsimp only at hc0 ⊢
    unfold stpH at hc0 ⊢
    by_cases k1 : g.kind = 1
    · rw [if_pos k1] at hc0 ⊢
      show supL (begF L1 g.gas).2.st.now t + dL [] t = _
      have e : (begF L1 g.gas).2.st.now = L1.st.now := by
        unfold begF
        repeat' split
        all_goals rfl
      rw [e]
      exact eq_sup
    rw [if_neg k1] at hc0 ⊢
    by_cases k2 : g.kind = 2
    · rw [if_pos k2] at hc0 ⊢
      have hc' : (endF L1).1.2 = 0 := hc0
      show supL (endF L1).2.st.now t + dL [] t = _
      unfold endF at hc' ⊢
      split
      · rename_i q1
        rw [if_pos q1] at hc'
        split
        · rename_i q2
          rw [if_pos q2] at hc'
          cases hc'
        · show supL (endL L1).st.now t + _ = _
          rw [(endL_f L1).2.1, clr_sup]
          exact eq_sup
      · rename_i q1
        rw [if_neg q1] at hc'
        cases hc'
    rw [if_neg k2] at hc0 ⊢
    by_cases k3 : g.kind = 3
    · rw [if_pos k3] at hc0 ⊢
      have hc' : (appF L1 g.tx).2.code = 0 := hc0
      rw [app_code] at hc'
      show supL (appF L1 g.tx).1.st.now t + dL [(appF L1 g.tx).2] t = supL L1.st.now t + uL [(appF L1 g.tx).2] t
      rw [appF_acc hc']
      have := one_sup (judR_ok hc').1 ht
      show supL (accL L1 g.tx).st.now t + (dR (appR L1 g.tx) t + 0) = supL L1.st.now t + (uR (appR L1 g.tx) t + 0)
      rw [UInt64.add_zero, UInt64.add_zero]
      exact this
    rw [if_neg k3] at hc0 ⊢
    by_cases k4 : g.kind = 4
    · exact (no k4 rfl).elim
    rw [if_neg k4] at hc0 ⊢
    by_cases k5 : g.kind = 5
    · rw [if_pos k5] at hc0 ⊢
      have hc' : (batF true L1 X).1.2 = 0 := hc0
      show supL (batF true L1 X).2.st.now t + dL (batF true L1 X).1.1.1 t = supL L1.st.now t + uL (batF true L1 X).1.1.1 t
      unfold batF at hc' ⊢
      by_cases h0 : cbF L1 X.length = 0
      · rw [if_pos h0] at hc' ⊢
        by_cases hr : (runF { L1 with st := (ckF L1.st).2 } X 0 []).1.2 = 0
        · rw [if_pos hr]
          dsimp only
          rw [if_pos rfl, cmF_now]
          have q := run_sup ht X { L1 with st := (ckF L1.st).2 } 0 [] hr
          have e : ({ L1 with st := (ckF L1.st).2 } : PLg).st.now = L1.st.now := by
            obtain ⟨hn0, ho, hs, hck⟩ := ckF_ok h0
            show (ckF L1.st).2.now = _
            rw [hck]
          rw [e] at q
          have e1 : uL [] t = 0 := rfl
          have e2 : dL [] t = 0 := rfl
          rw [e1, e2, UInt64.add_zero, UInt64.add_zero] at q
          exact q
        · rw [if_neg hr] at hc'
          exact absurd hc' hr
      · rw [if_neg h0] at hc'
        exact absurd hc' h0
    rw [if_neg k5] at hc0 ⊢
    by_cases k6 : g.kind = 6
    · exact (no k6 rfl).elim
    rw [if_neg k6] at hc0 ⊢
    by_cases k7 : g.kind = 7
    · rw [if_pos k7]
      show supL (ckL L1).2.st.now t + dL [] t = _
      have e : (ckL L1).2.st.now = L1.st.now := by
        unfold ckL ckF
        repeat' split
        all_goals rfl
      rw [e]
      exact eq_sup
    rw [if_neg k7] at hc0 ⊢
    rw [if_neg hk.1] at hc0 ⊢
    by_cases k9 : g.kind = 9
    · rw [if_pos k9]
      show supL (cmF L1.st).2.now t + dL [] t = _
      rw [cmF_now]
      exact eq_sup
    rw [if_neg k9] at hc0 ⊢
    by_cases k10 : g.kind = 10
    · exact (no k10 rfl).elim
    rw [if_neg k10] at hc0 ⊢
    by_cases k11 : g.kind = 11
    · exact (no k11 rfl).elim
    rw [if_neg k11] at hc0 ⊢
    by_cases k12 : g.kind = 12
    · exact (no k12 rfl).elim
    rw [if_neg k12] at hc0 ⊢
    by_cases k13 : g.kind = 13
    · exact (no k13 rfl).elim
    rw [if_neg k13] at hc0 ⊢
    by_cases k14 : g.kind = 14
    · exact (no k14 rfl).elim
    rw [if_neg k14] at hc0 ⊢
    by_cases k18 : g.kind = 18
    · rw [if_pos k18] at hc0 ⊢
      have hc' : (exeF L1 g.gas X).1.code = 0 := hc0
      show supL (exeF L1 g.gas X).2.st.now t + dL (exeF L1 g.gas X).1.rs t = supL L1.st.now t + uL (exeF L1 g.gas X).1.rs t
      unfold exeF at hc' ⊢
      by_cases hb : (begF L1 g.gas).1 = 0
      · rw [if_pos hb] at hc' ⊢
        have eb : (begF L1 g.gas).2.st.now = L1.st.now := by
          unfold begF
          repeat' split
          all_goals rfl
        by_cases hr : (runF (begF L1 g.gas).2 X 0 []).1.2 = 0
        · rw [if_pos hr] at hc' ⊢
          have q := run_sup ht X (begF L1 g.gas).2 0 [] hr
          rw [eb] at q
          have e1 : uL [] t = 0 := rfl
          have e2 : dL [] t = 0 := rfl
          rw [e1, e2, UInt64.add_zero, UInt64.add_zero] at q
          generalize (runF (begF L1 g.gas).2 X 0 []) = R at hc' q ⊢
          have hc2 : (endF R.2).1.2 = 0 := hc'
          show supL (endF R.2).2.st.now t + dL R.1.1.1 t = supL L1.st.now t + uL R.1.1.1 t
          have ee : supL (endF R.2).2.st.now t = supL R.2.st.now t := by
            unfold endF at hc2 ⊢
            split
            · rename_i q1
              rw [if_pos q1] at hc2
              split
              · rfl
              · show supL (endL R.2).st.now t = _
                rw [(endL_f R.2).2.1, clr_sup]
            · rfl
          rw [ee]
          exact q
        · rw [if_neg hr] at hc'
          exact absurd hc' hr
      · rw [if_neg hb] at hc'
        exact absurd hc' hb
    rw [if_neg k18] at hc0 ⊢
    by_cases k19 : g.kind = 19
    · exact (no k19 rfl).elim
    rw [if_neg k19] at hc0 ⊢
    by_cases k20 : g.kind = 20
    · exact (no k20 rfl).elim
    rw [if_neg k20] at hc0 ⊢
    by_cases k21 : g.kind = 21
    · exact (no k21 rfl).elim
    rw [if_neg k21] at hc0 ⊢
    by_cases k22 : g.kind = 22
    · exact (no k22 rfl).elim
    rw [if_neg k22] at hc0 ⊢
    rw [if_neg hk.2.1] at hc0 ⊢
    by_cases k24 : g.kind = 24
    · rw [if_pos k24]
      show supL (cmTo L1 (sqI g.seq)).2.st.now t + dL [] t = _
      have e : (cmTo L1 (sqI g.seq)).2.st.now = L1.st.now := by
        unfold cmTo
        split
        · rfl
        · exact cmN_now _ _
      rw [e]
      exact eq_sup
    rw [if_neg k24] at hc0 ⊢
    by_cases k25 : g.kind = 25
    · exact (no k25 rfl).elim
    rw [if_neg k25] at hc0 ⊢
    by_cases k26 : g.kind = 26
    · exact (no k26 rfl).elim
    rw [if_neg k26, if_neg hk.2.2.1]
    exact eq_sup
/-- What one accepted transaction leaves, as the law asks. -/
structure Honest (x : Tx) (r : Receipt) (v w : View) : Prop where
  mint : (r.hasTook = true ∧ r.took.kind = 2) ↔ w8 x.kind = 3
  burn : (r.hasSent = true ∧ r.sent.kind = 2) ↔ w8 x.kind = 2
  tk : w8 x.kind = 3 → r.took = x.msg
  st : w8 x.kind = 2 → r.sent.token = x.token ∧ r.sent.amount = x.amount ∧ r.sent.sender = x.from_
  fee : r.fee = x.fee
  fees : w.fees = v.fees + x.fee
  fr : x.from_.toNat < 64
  non : ∀ (h : x.from_.toNat < 64), w.nonces[x.from_.toNat] = v.nonces[x.from_.toNat] + 1
  bal : ¬ x.from_ = 0 → ¬ (w8 x.kind = 1 ∧ x.to_ = 0) → ¬ (w8 x.kind = 3 ∧ x.msg.receiver = 0) → ∀ (t : Nat) (h : t < 256), t < 4 → w.balances[t] = if t = 0 then v.balances[t] + x.fee else v.balances[t]
theorem honest {L : PLg} {x : Tx} (hj : (judR L 0 x).1 = 0) : Honest x (appR L x) (viewF L) (viewF (accL L x)) := by
  have hJ := (judR_ok hj).1
  have hk := shp_kind hJ.shp
  have hin := shp_inb hJ.shp
  have hfr := (shp_ok hJ.shp).from_
  refine ⟨?_, ?_, ?_, ?_, ?_, (acc_lo hJ).2.1, hfr, fun h => ?_, fun h1 h2 h3 t ht ht4 => ?_⟩
  · show ((rcpF L x).hasTook = true ∧ (rcpF L x).took.kind = 2) ↔ _
    rw [rcpF_T hJ]
    unfold isT
    constructor
    · rintro ⟨a | a, b⟩
      · exact a
      · have e := (rcpF_took (L := L) ((rcpF_T hJ).2 (.inr a))).1
        rw [e, (inb_ok (hin.2 a)).kind] at b
        cases b
    · intro a
      refine ⟨.inl a, ?_⟩
      rw [(rcpF_took (L := L) ((rcpF_T hJ).2 (.inl a))).1]
      exact (inb_ok (hin.1 a)).kind
  · show ((rcpF L x).hasSent = true ∧ (rcpF L x).sent.kind = 2) ↔ _
    rw [rcpF_S]
    unfold isS
    constructor
    · rintro ⟨a | a, b⟩
      · exact a
      · unfold rcpF at b
        rw [if_neg (by rw [a]; decide), if_neg (by rw [a]; decide), if_pos a] at b
        have : (1 : UInt8) = 2 := b
        cases this
    · intro a
      refine ⟨.inl a, ?_⟩
      unfold rcpF
      rw [if_neg (by rw [a]; decide), if_pos a]
      rfl
  · intro a
    exact (rcpF_took (L := L) ((rcpF_T hJ).2 (.inl a))).1
  · intro a
    show (rcpF L x).sent.token = _ ∧ (rcpF L x).sent.amount = _ ∧ (rcpF L x).sent.sender = _
    unfold rcpF
    rw [if_neg (by rw [a]; decide), if_pos a]
    exact ⟨rfl, rfl, rfl⟩
  · show (rcpF L x).fee = x.fee
    unfold rcpF
    repeat' split
    all_goals rfl
  · show (vN (vwN (accL L x).st.now) 64 : Vector UInt64 64)[x.from_.toNat] = (vN (vwN L.st.now) 64 : Vector UInt64 64)[x.from_.toNat] + 1
    rw [vN_at _ _ h, vN_at _ _ h]
    unfold vwN
    have e : UInt8.ofNat x.from_.toNat = x.from_ := by simp
    rw [e, acc_N hJ, if_pos rfl]
  · show (vN (vwB (accL L x).st.now) 256 : Vector UInt64 256)[t] = if t = 0 then (vN (vwB L.st.now) 256 : Vector UInt64 256)[t] + x.fee else (vN (vwB L.st.now) 256 : Vector UInt64 256)[t]
    rw [vN_at _ _ ht, vN_at _ _ ht]
    unfold vwB
    have e0 : t / 4 = 0 := by omega
    have e1 : t % 4 = t := by omega
    rw [e0, e1, acc_B hJ]
    show finB (balB L.st.now) x 0 (UInt8.ofNat t) = if t = 0 then balB L.st.now 0 (UInt8.ofNat t) + x.fee else balB L.st.now 0 (UInt8.ofNat t)
    have hd : ∀ s, debB (balB L.st.now) x.from_ 0 x.fee 0 s = balB L.st.now 0 s := fun s => by
      unfold debB updB
      rw [if_neg (fun q => h1 q.1)]
    have hkb : ∀ s, kndB (debB (balB L.st.now) x.from_ 0 x.fee) x 0 s = balB L.st.now 0 s := fun s => by
      unfold kndB
      by_cases k1 : w8 x.kind = 1
      · rw [if_pos k1]
        unfold crdB updB
        rw [if_neg (fun q => h2 ⟨k1, q.1⟩)]
        show debB (debB (balB L.st.now) x.from_ 0 x.fee) x.from_ x.token x.amount 0 s = _
        unfold debB updB
        rw [if_neg (fun q => h1 q.1)]
        exact hd s
      rw [if_neg k1]
      by_cases k2 : w8 x.kind = 2
      · rw [if_pos k2]
        show updB _ x.from_ x.token _ 0 s = _
        unfold updB
        rw [if_neg (fun q => h1 q.1)]
        exact hd s
      rw [if_neg k2]
      by_cases k4 : w8 x.kind = 4
      · rw [if_pos k4]; exact hd s
      rw [if_neg k4]
      by_cases k3 : w8 x.kind = 3
      · rw [if_pos k3]
        unfold crdB updB
        rw [if_neg (fun q => h3 ⟨k3, q.1⟩)]
        exact hd s
      rw [if_neg k3]
      exact hd s
    unfold finB crdB updB
    by_cases q : t = 0
    · subst q
      rw [if_pos ⟨rfl, rfl⟩, if_pos rfl]
      show kndB _ x 0 0 + x.fee = _
      rw [hkb]
      rfl
    · rw [if_neg (fun e => q (by have := congrArg UInt8.toNat e.2; rw [ofN_lt4 ht4] at this; exact this.symm)), if_neg q]
      exact hkb _
end Go.Proofs.Qxb6500786aGreat
