import Derived.DeepKeys2
import Derived.Test.Qxb6500786aGreatXc

import Derived.StillTailTactics
import Derived.Deep.QuietTactic
import Derived.BigQuiet
import Derived.Deep.RegionHeld
import Derived.Deep.CutRange
import Derived.Laws.ResultCell
import Derived.Laws.Rows
import Derived.DeepKeys
import Derived.DataBytes
import Derived.Laws.StructEq
import Derived.Laws.AppendOwn
import Derived.Laws.MakeOwn
import Derived.Lib.AppendStr
set_option linter.unusedSimpArgs false
set_option linter.unusedVariables false
namespace Go.Proofs.Qxb6500786aGreat
open Go.RowKit Go.Blk
attribute [local go_sem ↓] execOp_load execOp_store execOp_alloc
attribute [local go_sem] Tryz.ld24 Tryz.st24 Tryz.ld36 Tryz.st36 Tryz.ld28 Tryz.st28 Tryz.ld32 Tryz.st32 Tryz.ld33 Tryz.st33 Tryz.ld34 Tryz.st34 Tryz.ld5 Tryz.st5 Tryz.ld31 Tryz.st31 Tryz.ld30 Tryz.st30 Tryz.ld41 Tryz.st41 Tryz.ld44 Tryz.st44 Tryz.ld4 Tryz.st4 Tryz.ld173 Tryz.st173 Tryz.ld174 Tryz.st174 Tryz.ld95 Tryz.st95 Tryz.ld45 Tryz.st45 Tryz.ld207 Tryz.st207 Tryz.ld3 Tryz.st3 Tryz.ld189 Tryz.st189 Tryz.ld2 Tryz.st2 Tryz.ld9 Tryz.st9 Tryz.ld12 Tryz.st12 Tryz.ld21 Tryz.st21 Tryz.ld22 Tryz.st22 Tryz.ld46 Tryz.st46 Tryz.ld92 Tryz.st92 Tryz.ld94 Tryz.st94 Tryz.ld96 Tryz.st96 Tryz.ld97 Tryz.st97 Tryz.ld105 Tryz.st105 Tryz.ld117 Tryz.st117 Tryz.ld122 Tryz.st122 Tryz.ld123 Tryz.st123 Tryz.ld133 Tryz.st133 Tryz.ld155 Tryz.st155 Tryz.ld163 Tryz.st163 Tryz.ld190 Tryz.st190 Tryz.ld197 Tryz.st197 Tryz.ld201 Tryz.st201 Tryz.ld202 Tryz.st202 Tryz.ld209 Tryz.st209 Tryz.ld216 Tryz.st216 Tryz.ld230 Tryz.st230 Tryz.ld238 Tryz.st238 Tryz.ld242 Tryz.st242 Tryz.ld251 Tryz.st251 Tryz.ld260 Tryz.st260 Tryz.ld286 Tryz.st286 Tryz.ld292 Tryz.st292 Tryz.ld298 Tryz.st298 Tryz.ld309 Tryz.st309 Tryz.ld35 Tryz.st35 Tryz.ld48 Tryz.st48 Tryz.ld47 Tryz.st47 Tryz.ld79 Tryz.st79 Tryz.ld177 Tryz.st177 Tryz.ld180 Tryz.st180 Tryz.ld231 Tryz.st231 Tryz.ld232 Tryz.st232 Tryz.ld26 Tryz.st26 Tryz.ld38 Tryz.st38 Tryz.ld40 Tryz.st40 Tryz.ld43 Tryz.st43 Tryz.ld50 Tryz.st50 Tryz.ld52 Tryz.st52 Tryz.ld54 Tryz.st54 Tryz.ld81 Tryz.st81 Tryz.ld112 Tryz.st112 Tryz.ld120 Tryz.st120 Tryz.ld176 Tryz.st176 Tryz.ld179 Tryz.st179 Tryz.ld182 Tryz.st182 Tryz.ld184 Tryz.st184 Tryz.ld234 Tryz.st234 Tryz.ld236 Tryz.st236 Tryz.ld240 Tryz.st240 Tryz.ld246 Tryz.st246 Tryz.ld249 Tryz.st249 Tryz.al35 Tryz.al48 Tryz.al47 Tryz.al79 Tryz.al177 Tryz.al180 Tryz.al231 Tryz.al232 Tryz.al26 Tryz.al38 Tryz.al40 Tryz.al43 Tryz.al50 Tryz.al52 Tryz.al54 Tryz.al81 Tryz.al112 Tryz.al120 Tryz.al176 Tryz.al179 Tryz.al182 Tryz.al184 Tryz.al234 Tryz.al236 Tryz.al240 Tryz.al246 Tryz.al249
attribute [local go_sem] Player.length_enc Player.ok_enc Player.all_get Player.all_set Player.hand_get Player.hand_set Player.aside_get Player.aside_set Message.length_enc Message.ok_enc Message.all_get Message.all_set Message.kind_get Message.kind_set Message.from__get Message.from__set Message.to__get Message.to__set Message.sender_get Message.sender_set Message.receiver_get Message.receiver_set Message.seq_get Message.seq_set Message.token_get Message.token_set Message.amount_get Message.amount_set Message.size_get Message.size_set Message.payload_get Message.payload_set Tx.length_enc Tx.ok_enc Tx.all_get Tx.all_set Tx.kind_get Tx.kind_set Tx.chain_get Tx.chain_set Tx.from__get Tx.from__set Tx.nonce_get Tx.nonce_set Tx.fee_get Tx.fee_set Tx.to__get Tx.to__set Tx.dest_get Tx.dest_set Tx.token_get Tx.token_set Tx.amount_get Tx.amount_set Tx.size_get Tx.size_set Tx.payload_get Tx.payload_set Tx.msg_get Tx.msg_set Tx.msg_kind_get Tx.msg_kind_set Tx.msg_from__get Tx.msg_from__set Tx.msg_to__get Tx.msg_to__set Tx.msg_sender_get Tx.msg_sender_set Tx.msg_receiver_get Tx.msg_receiver_set Tx.msg_seq_get Tx.msg_seq_set Tx.msg_token_get Tx.msg_token_set Tx.msg_amount_get Tx.msg_amount_set Tx.msg_size_get Tx.msg_size_set Tx.msg_payload_get Tx.msg_payload_set GOp.length_enc GOp.ok_enc GOp.all_get GOp.all_set GOp.kind_get GOp.kind_set GOp.tx_get GOp.tx_set GOp.txs_get GOp.txs_set GOp.gas_get GOp.gas_set GOp.acct_get GOp.acct_set GOp.token_get GOp.token_set GOp.chain_get GOp.chain_set GOp.seq_get GOp.seq_set GOp.tx_kind_get GOp.tx_kind_set GOp.tx_chain_get GOp.tx_chain_set GOp.tx_from__get GOp.tx_from__set GOp.tx_nonce_get GOp.tx_nonce_set GOp.tx_fee_get GOp.tx_fee_set GOp.tx_to__get GOp.tx_to__set GOp.tx_dest_get GOp.tx_dest_set GOp.tx_token_get GOp.tx_token_set GOp.tx_amount_get GOp.tx_amount_set GOp.tx_size_get GOp.tx_size_set GOp.tx_payload_get GOp.tx_payload_set GOp.tx_msg_get GOp.tx_msg_set GOp.tx_msg_kind_get GOp.tx_msg_kind_set GOp.tx_msg_from__get GOp.tx_msg_from__set GOp.tx_msg_to__get GOp.tx_msg_to__set GOp.tx_msg_sender_get GOp.tx_msg_sender_set GOp.tx_msg_receiver_get GOp.tx_msg_receiver_set GOp.tx_msg_seq_get GOp.tx_msg_seq_set GOp.tx_msg_token_get GOp.tx_msg_token_set GOp.tx_msg_amount_get GOp.tx_msg_amount_set GOp.tx_msg_size_get GOp.tx_msg_size_set GOp.tx_msg_payload_get GOp.tx_msg_payload_set Summary.length_enc Summary.ok_enc Summary.all_get Summary.all_set Summary.height_get Summary.height_set Summary.txs_get Summary.txs_set Summary.gas_get Summary.gas_set Summary.fees_get Summary.fees_set Summary.sent_get Summary.sent_set Summary.took_get Summary.took_set Summary.minted_get Summary.minted_set Summary.burned_get Summary.burned_set Summary.root_get Summary.root_set Detail.length_enc Detail.ok_enc Detail.all_get Detail.all_set Detail.code_get Detail.code_set Detail.have__get Detail.have__set Detail.need_get Detail.need_set Slot.length_enc Slot.ok_enc Slot.all_get Slot.all_set Slot.nonce_get Slot.nonce_set Slot.balances_get Slot.balances_set Tree.length_enc Tree.ok_enc Tree.all_get Tree.all_set Tree.leaves_get Tree.leaves_set Mark.length_enc Mark.ok_enc Mark.all_get Mark.all_set Mark.from__get Mark.from__set Mark.seq_get Mark.seq_set Receipt.length_enc Receipt.ok_enc Receipt.all_get Receipt.all_set Receipt.code_get Receipt.code_set Receipt.hash_get Receipt.hash_set Receipt.index_get Receipt.index_set Receipt.gas_get Receipt.gas_set Receipt.fee_get Receipt.fee_set Receipt.hasSent_get Receipt.hasSent_set Receipt.sent_get Receipt.sent_set Receipt.hasTook_get Receipt.hasTook_set Receipt.took_get Receipt.took_set Receipt.sent_kind_get Receipt.sent_kind_set Receipt.sent_from__get Receipt.sent_from__set Receipt.sent_to__get Receipt.sent_to__set Receipt.sent_sender_get Receipt.sent_sender_set Receipt.sent_receiver_get Receipt.sent_receiver_set Receipt.sent_seq_get Receipt.sent_seq_set Receipt.sent_token_get Receipt.sent_token_set Receipt.sent_amount_get Receipt.sent_amount_set Receipt.sent_size_get Receipt.sent_size_set Receipt.sent_payload_get Receipt.sent_payload_set Receipt.took_kind_get Receipt.took_kind_set Receipt.took_from__get Receipt.took_from__set Receipt.took_to__get Receipt.took_to__set Receipt.took_sender_get Receipt.took_sender_set Receipt.took_receiver_get Receipt.took_receiver_set Receipt.took_seq_get Receipt.took_seq_set Receipt.took_token_get Receipt.took_token_set Receipt.took_amount_get Receipt.took_amount_set Receipt.took_size_get Receipt.took_size_set Receipt.took_payload_get Receipt.took_payload_set Store.length_enc Store.ok_enc Store.all_get Store.all_set Store.now_get Store.now_set Store.saved_get Store.saved_set GState.length_enc GState.ok_enc GState.all_get GState.all_set GState.kv_get GState.kv_set GState.tree_get GState.tree_set GState.stale_get GState.stale_set GState.touched_get GState.touched_set GState.kv_now_get GState.kv_now_set GState.kv_saved_get GState.kv_saved_set GState.tree_leaves_get GState.tree_leaves_set History.length_enc History.ok_enc History.all_get History.all_set History.ring_get History.ring_set History.closed_get History.closed_set Ledger.length_enc Ledger.ok_enc Ledger.all_get Ledger.all_set Ledger.chain_get Ledger.chain_set Ledger.st_get Ledger.st_set Ledger.height_get Ledger.height_set Ledger.open__get Ledger.open__set Ledger.gasLimit_get Ledger.gasLimit_set Ledger.past_get Ledger.past_set Ledger.begun_get Ledger.begun_set Ledger.sent_get Ledger.sent_set Ledger.took_get Ledger.took_set Ledger.receipts_get Ledger.receipts_set Ledger.st_kv_get Ledger.st_kv_set Ledger.st_tree_get Ledger.st_tree_set Ledger.st_stale_get Ledger.st_stale_set Ledger.st_touched_get Ledger.st_touched_set Ledger.st_kv_now_get Ledger.st_kv_now_set Ledger.st_kv_saved_get Ledger.st_kv_saved_set Ledger.st_tree_leaves_get Ledger.st_tree_leaves_set Ledger.past_ring_get Ledger.past_ring_set Ledger.past_closed_get Ledger.past_closed_set Ledger.begun_kv_get Ledger.begun_kv_set Ledger.begun_tree_get Ledger.begun_tree_set Ledger.begun_stale_get Ledger.begun_stale_set Ledger.begun_touched_get Ledger.begun_touched_set Ledger.begun_kv_now_get Ledger.begun_kv_now_set Ledger.begun_kv_saved_get Ledger.begun_kv_saved_set Ledger.begun_tree_leaves_get Ledger.begun_tree_leaves_set Purse.length_enc Purse.ok_enc Purse.all_get Purse.all_set Purse.st_get Purse.st_set Purse.n_get Purse.n_set Purse.account_get Purse.account_set Purse.token_get Purse.token_set Purse.amount_get Purse.amount_set Plan.length_enc Plan.ok_enc Plan.all_get Plan.all_set Plan.purse_get Plan.purse_set Plan.nonce_get Plan.nonce_set Plan.gasUsed_get Plan.gasUsed_set Plan.fees_get Plan.fees_set Plan.hasSupply_get Plan.hasSupply_set Plan.token_get Plan.token_set Plan.supply_get Plan.supply_set Plan.flowAt_get Plan.flowAt_set Plan.flow_get Plan.flow_set Plan.receipt_get Plan.receipt_set Plan.purse_st_get Plan.purse_st_set Plan.purse_n_get Plan.purse_n_set Plan.purse_account_get Plan.purse_account_set Plan.purse_token_get Plan.purse_token_set Plan.purse_amount_get Plan.purse_amount_set Plan.receipt_code_get Plan.receipt_code_set Plan.receipt_hash_get Plan.receipt_hash_set Plan.receipt_index_get Plan.receipt_index_set Plan.receipt_gas_get Plan.receipt_gas_set Plan.receipt_fee_get Plan.receipt_fee_set Plan.receipt_hasSent_get Plan.receipt_hasSent_set Plan.receipt_sent_get Plan.receipt_sent_set Plan.receipt_hasTook_get Plan.receipt_hasTook_set Plan.receipt_took_get Plan.receipt_took_set Plan.receipt_sent_kind_get Plan.receipt_sent_kind_set Plan.receipt_sent_from__get Plan.receipt_sent_from__set Plan.receipt_sent_to__get Plan.receipt_sent_to__set Plan.receipt_sent_sender_get Plan.receipt_sent_sender_set Plan.receipt_sent_receiver_get Plan.receipt_sent_receiver_set Plan.receipt_sent_seq_get Plan.receipt_sent_seq_set Plan.receipt_sent_token_get Plan.receipt_sent_token_set Plan.receipt_sent_amount_get Plan.receipt_sent_amount_set Plan.receipt_sent_size_get Plan.receipt_sent_size_set Plan.receipt_sent_payload_get Plan.receipt_sent_payload_set Plan.receipt_took_kind_get Plan.receipt_took_kind_set Plan.receipt_took_from__get Plan.receipt_took_from__set Plan.receipt_took_to__get Plan.receipt_took_to__set Plan.receipt_took_sender_get Plan.receipt_took_sender_set Plan.receipt_took_receiver_get Plan.receipt_took_receiver_set Plan.receipt_took_seq_get Plan.receipt_took_seq_set Plan.receipt_took_token_get Plan.receipt_took_token_set Plan.receipt_took_amount_get Plan.receipt_took_amount_set Plan.receipt_took_size_get Plan.receipt_took_size_set Plan.receipt_took_payload_get Plan.receipt_took_payload_set Move.length_enc Move.ok_enc Move.all_get Move.all_set Move.account_get Move.account_set Move.token_get Move.token_set Move.down_get Move.down_set Move.amount_get Move.amount_set Books.length_enc Books.ok_enc Books.all_get Books.all_set Books.sums_get Books.sums_set Books.stored_get Books.stored_set Books.marks_get Books.marks_set Pair.length_enc Pair.ok_enc Pair.all_get Pair.all_set Pair.key_get Pair.key_set Pair.value_get Pair.value_set
attribute [local go_sem] size_put size_ext blk_put free_put blk_alloc free_alloc blk_drew free_drew blk_ext free_ext lookOr_some putOr_some segAt_some cellAt_some storeIn_some put_put put_alloc_new length_arr ok_arr_u8 ok_arr_u32 ok_arr_u64 ok_arr_i64 ok_arr_sl cellsV_agg cellsV_int cellsV_bool cellsV_string cellsV_pointer cellsV_slice cellsV_sl ok_int ok_bool ok_string ok_pointer ok_slice ok_sl toList_arr seg_arr set_arr nth_splice nth_splice0 seg_splice seg_splice0 splice_splice splice_splice0 length_splice_if
attribute [local go_sem ↓] execOp_box
attribute [local go_sem] box_run nth_arr_u8 put_arr_u8 blk_drewN free_drewN put_drewN blk_raw free_raw
attribute [local go_sem ↓] execOp_build execOp_eql38
attribute [local go_sem] build40z eql38
theorem fee_cns3 (c a : UInt8) (m : Message) : feeU { Tx.zero with kind := 3, chain := c, from_ := a, nonce := 0, fee := 0, msg := m } = 0 := rfl
theorem fee_cns5 (c a : UInt8) (m : Message) : feeU { Tx.zero with kind := 5, chain := c, from_ := a, nonce := 0, fee := 0, msg := m } = 1 := rfl
set_option maxRecDepth 20000 in
set_option maxHeartbeats 1000000 in
theorem consumer_ok (W : World) (m : Message) (a : UInt8) (h : MsgOk m) : Calls Tryz.prog 76 #[.agg m.enc.toArray, .int .u8 (w8 a), .int .u64 0] W fun e V => W.Extends V ∧ ((m.to_ = 3 ∧ e = .returned (.tuple #[.agg Tx.zero.enc.toArray, .int .i64 16])) ∨ (m.to_ ≠ 3 ∧ e = .returned (.tuple #[.agg (cnsT m a).enc.toArray, .int .i64 0]))) := by
  have h2 := ((BxI.start W).box m.enc 38).box Tx.zero.enc 40
  rw [World.size_alloc] at h2
  obtain ⟨V2, hV2⟩ : ∃ V2 : World, V2 = (W.alloc (.cells m.enc.toArray 38)).alloc (.cells Tx.zero.enc.toArray 40) := ⟨_, rfl⟩
  rw [← hV2] at h2
  obtain ⟨b1, hb1⟩ : ∃ b1, b1 = W.heap.size := ⟨_, rfl⟩
  obtain ⟨b2, hb2⟩ : ∃ b2, b2 = W.heap.size + 1 := ⟨_, rfl⟩
  rw [← hb2, ← hb1] at h2
  have k1 := (h2.at (b := b1) (C := m.enc) (by simp)).1
  have hck := checkMsg_ok V2 m h
  have hne : ¬ b1 = b2 := by omega
  have hne' : ¬ b2 = b1 := by omega
  have HV2 := hid_of hV2
  have HB1 := hid_of hb1
  have HB2 := hid_of hb2
  have H2 := hid_of h2
  clear hV2 hb1 hb2 h2
  go_enter Tryz.func76, Tryz.ntmps76
  go_upto_region 1 with fail
  rw [← HV2.out, ← HB2.out, ← HB1.out]
  clear HV2
  go_wp2_with fail
  refine hck.mono ?_
  clear hck
  rintro e V3 ⟨rfl, hx3⟩
  dsimp only
  have h3 := H2.out.ext hx3
  have k3 := (h3.at (b := b1) (C := m.enc) (by simp)).1
  have H3 := hid_of h3
  have hr := isRollup_any V3 m.to_
  clear k1 H2 hx3 h3
  by_cases h3c : m.to_ = 3
  · have hrf : rolB m.to_ = false := by rw [h3c]; rfl
    rw [hrf] at hr
    have HC3 := hid_of h3c
    clear h3c hrf
    go_wp2_with fail
    refine hr.mono ?_
    clear hr
    rintro e V4 ⟨rfl, hx4⟩
    dsimp only
    have h4 := H3.out.ext hx4
    have k4 := (h4.at (b := b2) (C := Tx.zero.enc) (by simp)).1
    have f4 := (h4.at (b := b2) (C := Tx.zero.enc) (by simp)).2
    have H4 := hid_of h4.1
    clear hx4 h4 k3 H3
    go_wp2_with fail
    refine ret_cell_tmp (C := Tx.zero.enc) (v := .int .i64 16) rfl rfl rfl ?_ (by kernel_rfl) (by rw [Tx.length_enc]; kernel_rfl) rfl ?_
    · rw [blk_put, if_pos rfl, k4]; rfl
    · exact ⟨extends_put H4.out (by rw [HB2.out]; exact Nat.le_succ _) _, .inl ⟨HC3.out, rfl⟩⟩
  · have hrt : rolB m.to_ = true := by
      have hc := h.to_
      unfold chnB at hc
      unfold rolB
      have : ¬ w8 m.to_ = 3 := fun e => h3c (w8_inj (b := 3) e)
      simp only [beq_eq_false_iff_ne.2 this, Bool.or_false] at hc
      exact hc
    rw [hrt] at hr
    have HC3 := hid_of h3c
    clear h3c hrt
    go_wp2_with fail
    refine hr.mono ?_
    clear hr
    rintro e V4 ⟨rfl, hx4⟩
    dsimp only
    have h4 := H3.out.ext hx4
    have k4 := (h4.at (b := b1) (C := m.enc) (by simp)).1
    have H4 := hid_of h4
    clear hx4 h4 k3 H3
    by_cases hk : m.kind = 2
    · have hkw : w8 m.kind = 2 := by rw [hk]; rfl
      have hn : Calls Tryz.prog 168 #[.int .u8 (w8 m.to_), .int .u8 (w8 a), .int .u64 0, .int .u64 0, .agg m.enc.toArray] V4 fun e w' => e = .returned (.agg (Tx.enc { Tx.zero with kind := 3, chain := m.to_, from_ := a, nonce := 0, fee := 0, msg := m }).toArray) ∧ V4.Extends w' := newMint_any V4 m.to_ a 0 0 m
      go_wp2_with fail
      refine hn.mono ?_
      clear hn
      rintro e V5 ⟨rfl, hx5⟩
      dsimp only
      obtain ⟨t0, ht0⟩ : ∃ t0 : Tx, t0 = { Tx.zero with kind := 3, chain := m.to_, from_ := a, nonce := 0, fee := 0, msg := m } := ⟨_, rfl⟩
      have hw := withMinFee_any V5 t0
      have hT : ({ t0 with fee := feeU t0 } : Tx) = cnsT m a := by
        rw [ht0, fee_cns3]
        unfold cnsT
        rw [if_pos hk]
      rw [hT] at hw
      rw [← ht0]
      have H5 := hid_of (H4.out.ext hx5)
      clear hx5 k4 H4 hT ht0
      go_wp2_with fail
      refine hw.mono ?_
      clear hw
      rintro e V6 ⟨rfl, hx6⟩
      dsimp only
      have h6 := H5.out.ext hx6
      have k6 := (h6.at (b := b2) (C := Tx.zero.enc) (by simp)).1
      have f6 := (h6.at (b := b2) (C := Tx.zero.enc) (by simp)).2
      have H6 := hid_of h6.1
      clear hx6 h6 H5
      go_wp2_with fail
      refine ret_cell_tmp (C := (cnsT m a).enc) (v := .int .i64 0) rfl rfl rfl ?_ (by kernel_rfl) (by rw [Tx.length_enc]; kernel_rfl) rfl ?_
      · rw [blk_put, if_pos rfl, k6]; rfl
      · exact ⟨extends_put H6.out (by rw [HB2.out]; exact Nat.le_succ _) _, .inr ⟨HC3.out, rfl⟩⟩
    · have hk1 : m.kind = 1 := h.kind.resolve_right hk
      have hkw : w8 m.kind = 1 := by rw [hk1]; rfl
      have hn : Calls Tryz.prog 169 #[.int .u8 (w8 m.to_), .int .u64 0, .int .u64 0, .agg m.enc.toArray] V4 fun e w' => e = .returned (.agg (Tx.enc { Tx.zero with kind := 5, chain := m.to_, from_ := m.receiver, nonce := 0, fee := 0, msg := m }).toArray) ∧ V4.Extends w' := newConsume_any V4 m.to_ 0 0 m
      go_wp2_with fail
      refine hn.mono ?_
      clear hn
      rintro e V5 ⟨rfl, hx5⟩
      dsimp only
      obtain ⟨t0, ht0⟩ : ∃ t0 : Tx, t0 = { Tx.zero with kind := 5, chain := m.to_, from_ := m.receiver, nonce := 0, fee := 0, msg := m } := ⟨_, rfl⟩
      have hw := withMinFee_any V5 t0
      have hT : ({ t0 with fee := feeU t0 } : Tx) = cnsT m a := by
        rw [ht0, fee_cns5]
        unfold cnsT
        rw [if_neg hk]
      rw [hT] at hw
      rw [← ht0]
      have H5 := hid_of (H4.out.ext hx5)
      clear hx5 k4 H4 hT ht0
      go_wp2_with fail
      refine hw.mono ?_
      clear hw
      rintro e V6 ⟨rfl, hx6⟩
      dsimp only
      have h6 := H5.out.ext hx6
      have k6 := (h6.at (b := b2) (C := Tx.zero.enc) (by simp)).1
      have f6 := (h6.at (b := b2) (C := Tx.zero.enc) (by simp)).2
      have H6 := hid_of h6.1
      clear hx6 h6 H5
      go_wp2_with fail
      refine ret_cell_tmp (C := (cnsT m a).enc) (v := .int .i64 0) rfl rfl rfl ?_ (by kernel_rfl) (by rw [Tx.length_enc]; kernel_rfl) rfl ?_
      · rw [blk_put, if_pos rfl, k6]; rfl
      · exact ⟨extends_put H6.out (by rw [HB2.out]; exact Nat.le_succ _) _, .inr ⟨HC3.out, rfl⟩⟩
set_option maxRecDepth 20000 in
set_option maxHeartbeats 1000000 in
theorem sameSeq_any (W : World) (m m' : Message) (hm : ({ m with seq := 0 } : Message) = { m' with seq := 0 }) : Calls Tryz.prog 77 #[.agg m.enc.toArray, .agg m'.enc.toArray] W fun e V => e = .returned (.bool true) ∧ W.Extends V := by
  have h2 := ((BxI.start W).box m.enc 38).box m'.enc 38
  rw [World.size_alloc] at h2
  obtain ⟨V2, hV2⟩ : ∃ V2 : World, V2 = (W.alloc (.cells m.enc.toArray 38)).alloc (.cells m'.enc.toArray 38) := ⟨_, rfl⟩
  rw [← hV2] at h2
  obtain ⟨b1, hb1⟩ : ∃ b1, b1 = W.heap.size := ⟨_, rfl⟩
  obtain ⟨b2, hb2⟩ : ∃ b2, b2 = W.heap.size + 1 := ⟨_, rfl⟩
  rw [← hb2, ← hb1] at h2
  have h3 := h2.ext (extends_drewN (ext_Ext (Ext.refl V2)) 1)
  have k1 := (h3.at (b := b1) (C := m.enc) (by simp)).1
  have k2 := (h3.at (b := b2) (C := m'.enc) (by simp)).1
  have hs : Calls Tryz.prog 75 #[.agg m.enc.toArray, .int .u64 0] V2.drew fun e V => e = .returned (.agg ({ m with seq := 0 } : Message).enc.toArray) ∧ V2.drew.Extends V := stamp_any V2.drew m 0
  obtain ⟨mz, hmz⟩ : ∃ mz : Message, mz = { m with seq := 0 } := ⟨_, rfl⟩
  have hs2 : ∀ V, Calls Tryz.prog 75 #[.agg m'.enc.toArray, .int .u64 0] V fun e V' => e = .returned (.agg mz.enc.toArray) ∧ V.Extends V' := fun V => by
    rw [hmz, hm]
    exact stamp_any V m' 0
  rw [← hmz] at hs
  have hee : ∀ w X Y, (cmpEq 38 X Y (.agg mz.enc.toArray) (.agg mz.enc.toArray)).run Tryz.prog w = .ok (.value (.bool true)) w := fun w X Y => by rw [eql38, eqA_self]
  have HV2 := hid_of hV2
  have HB1 := hid_of hb1
  have HB2 := hid_of hb2
  clear hV2 hb1 hb2 h2 hm hmz
  go_enter Tryz.func77, Tryz.ntmps77
  go_upto_region 1 with fail
  rw [← HV2.out, ← HB2.out, ← HB1.out]
  clear HV2 HB1 HB2
  repeat go_step
  refine wp_region_F 5 (fun W' => blk W' b1 = some m.enc ∧ blk W' b2 = some m'.enc) (by kernel_rfl) ⟨k1, k2⟩ (fun hHeld => ?_)
  refine wpAnyF_take (i := 0) (oi := ⟨_, _, _, _, _, _⟩) (v := ?_) rfl (by kernel_rfl) (by kernel_rfl) (by kernel_rfl) (by kernel_rfl) (by kernel_rfl) (fun _ _ _ h => h) (Or.inl ⟨by rfl, ?_⟩) (by assumption) ?_
  rotate_left 1
  · intro W' hSw
    obtain ⟨hS1, hS2⟩ := hSw
    go_simp
    try with_reducible rfl
  try simp only [Act.put, List.setIfInBounds_toArray, List.set_cons_zero, List.set_cons_succ]
  refine wpAnyF_take (i := 2) (oi := ⟨_, _, _, _, _, _⟩) (v := ?_) rfl (by kernel_rfl) (by kernel_rfl) (by kernel_rfl) (by kernel_rfl) (by kernel_rfl) (fun _ _ _ h => h) (Or.inl ⟨by rfl, ?_⟩) (by assumption) ?_
  rotate_left 1
  · intro W' hSw
    obtain ⟨hS1, hS2⟩ := hSw
    go_simp
    try with_reducible rfl
  try simp only [Act.put, List.setIfInBounds_toArray, List.set_cons_zero, List.set_cons_succ]
  refine wpAnyF_one (o := ⟨_, _, _, _, _, _⟩) (i := 1) (by kernel_rfl) rfl rfl (fun K' hK => ?_)
  go_simp
  refine hs.mono ?_
  clear hs
  rintro e V3 ⟨rfl, hx3⟩
  dsimp only
  have h4 := h3.ext hx3
  have k13 := (h4.at (b := b1) (C := m.enc) (by simp)).1
  have k23 := (h4.at (b := b2) (C := m'.enc) (by simp)).1
  refine hK.out _ _ ⟨k13, k23⟩ (fun hHeld => ?_)
  clear hK K'
  try simp only [Act.put, List.setIfInBounds_toArray, List.set_cons_zero, List.set_cons_succ]
  refine wpAnyF_one (o := ⟨_, _, _, _, _, _⟩) (i := 3) (by kernel_rfl) rfl rfl (fun K' hK => ?_)
  go_simp
  refine (hs2 _).mono ?_
  clear hs2
  rintro e V4 ⟨rfl, hx4⟩
  dsimp only
  have h5 := h4.ext hx4
  have k14 := (h5.at (b := b1) (C := m.enc) (by simp)).1
  have k24 := (h5.at (b := b2) (C := m'.enc) (by simp)).1
  refine hK.out _ _ ⟨k14, k24⟩ (fun hHeld => ?_)
  clear hK K'
  try simp only [Act.put, List.setIfInBounds_toArray, List.set_cons_zero, List.set_cons_succ]
  refine wpAnyF_take (i := 4) (oi := ⟨_, _, _, _, _, _⟩) (v := ?_) rfl (by kernel_rfl) (by kernel_rfl) (by kernel_rfl) (by kernel_rfl) (by kernel_rfl) (fun _ _ _ h => h) (Or.inl ⟨by rfl, ?_⟩) (by assumption) ?_
  rotate_left 1
  · intro W' hSw
    obtain ⟨hS1, hS2⟩ := hSw
    go_simp
    try with_reducible rfl
  try simp only [Act.put, List.setIfInBounds_toArray, List.set_cons_zero, List.set_cons_succ]
  refine wpAnyF_last (o := ⟨_, _, _, _, _, _⟩) (by kernel_rfl) rfl (fun K' hK => ?_)
  go_simp
  refine hK.out _ _ ?_
  clear hK K'
  try simp only [Act.put, List.setIfInBounds_toArray, List.set_cons_zero, List.set_cons_succ]
  refine wpAnyF_done (by kernel_rfl) ?_ _
  clear hHeld
  have HX := hid_of h5.1
  clear h3 h4 h5 hx3 hx4
  go_wp2_with fail
  try (first | go_ret | go_ret2 | go_end0)
  exact ⟨rfl, HX.out⟩
end Go.Proofs.Qxb6500786aGreat
