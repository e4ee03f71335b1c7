import Derived.Test.Qxb6500786aGreatKh

import Derived.StillTailTactics
import Derived.Deep.QuietTactic
import Derived.BigQuiet
import Derived.Deep.RegionHeld
import Derived.Deep.CutRange
import Derived.Laws.ResultCell
import Derived.Laws.Rows
import Derived.DeepKeys
import Derived.DataBytes
import Derived.Laws.StructEq
import Derived.Laws.AppendOwn
import Derived.Laws.MakeOwn
import Derived.Lib.AppendStr
set_option linter.unusedSimpArgs false
set_option linter.unusedVariables false
namespace Go.Proofs.Qxb6500786aGreat
open Go.RowKit Go.Blk
attribute [local go_sem ↓] execOp_load execOp_store execOp_alloc
attribute [local go_sem] Tryz.ld24 Tryz.st24 Tryz.ld36 Tryz.st36 Tryz.ld28 Tryz.st28 Tryz.ld32 Tryz.st32 Tryz.ld33 Tryz.st33 Tryz.ld34 Tryz.st34 Tryz.ld5 Tryz.st5 Tryz.ld31 Tryz.st31 Tryz.ld30 Tryz.st30 Tryz.ld41 Tryz.st41 Tryz.ld44 Tryz.st44 Tryz.ld4 Tryz.st4 Tryz.ld173 Tryz.st173 Tryz.ld174 Tryz.st174 Tryz.ld95 Tryz.st95 Tryz.ld45 Tryz.st45 Tryz.ld207 Tryz.st207 Tryz.ld3 Tryz.st3 Tryz.ld189 Tryz.st189 Tryz.ld2 Tryz.st2 Tryz.ld9 Tryz.st9 Tryz.ld12 Tryz.st12 Tryz.ld21 Tryz.st21 Tryz.ld22 Tryz.st22 Tryz.ld46 Tryz.st46 Tryz.ld92 Tryz.st92 Tryz.ld94 Tryz.st94 Tryz.ld96 Tryz.st96 Tryz.ld97 Tryz.st97 Tryz.ld105 Tryz.st105 Tryz.ld117 Tryz.st117 Tryz.ld122 Tryz.st122 Tryz.ld123 Tryz.st123 Tryz.ld133 Tryz.st133 Tryz.ld155 Tryz.st155 Tryz.ld163 Tryz.st163 Tryz.ld190 Tryz.st190 Tryz.ld197 Tryz.st197 Tryz.ld201 Tryz.st201 Tryz.ld202 Tryz.st202 Tryz.ld209 Tryz.st209 Tryz.ld216 Tryz.st216 Tryz.ld230 Tryz.st230 Tryz.ld238 Tryz.st238 Tryz.ld242 Tryz.st242 Tryz.ld251 Tryz.st251 Tryz.ld260 Tryz.st260 Tryz.ld286 Tryz.st286 Tryz.ld292 Tryz.st292 Tryz.ld298 Tryz.st298 Tryz.ld309 Tryz.st309 Tryz.ld35 Tryz.st35 Tryz.ld48 Tryz.st48 Tryz.ld47 Tryz.st47 Tryz.ld79 Tryz.st79 Tryz.ld177 Tryz.st177 Tryz.ld180 Tryz.st180 Tryz.ld231 Tryz.st231 Tryz.ld232 Tryz.st232 Tryz.ld26 Tryz.st26 Tryz.ld38 Tryz.st38 Tryz.ld40 Tryz.st40 Tryz.ld43 Tryz.st43 Tryz.ld50 Tryz.st50 Tryz.ld52 Tryz.st52 Tryz.ld54 Tryz.st54 Tryz.ld81 Tryz.st81 Tryz.ld112 Tryz.st112 Tryz.ld120 Tryz.st120 Tryz.ld176 Tryz.st176 Tryz.ld179 Tryz.st179 Tryz.ld182 Tryz.st182 Tryz.ld184 Tryz.st184 Tryz.ld234 Tryz.st234 Tryz.ld236 Tryz.st236 Tryz.ld240 Tryz.st240 Tryz.ld246 Tryz.st246 Tryz.ld249 Tryz.st249 Tryz.al35 Tryz.al48 Tryz.al47 Tryz.al79 Tryz.al177 Tryz.al180 Tryz.al231 Tryz.al232 Tryz.al26 Tryz.al38 Tryz.al40 Tryz.al43 Tryz.al50 Tryz.al52 Tryz.al54 Tryz.al81 Tryz.al112 Tryz.al120 Tryz.al176 Tryz.al179 Tryz.al182 Tryz.al184 Tryz.al234 Tryz.al236 Tryz.al240 Tryz.al246 Tryz.al249
attribute [local go_sem] Player.length_enc Player.ok_enc Player.all_get Player.all_set Player.hand_get Player.hand_set Player.aside_get Player.aside_set Message.length_enc Message.ok_enc Message.all_get Message.all_set Message.kind_get Message.kind_set Message.from__get Message.from__set Message.to__get Message.to__set Message.sender_get Message.sender_set Message.receiver_get Message.receiver_set Message.seq_get Message.seq_set Message.token_get Message.token_set Message.amount_get Message.amount_set Message.size_get Message.size_set Message.payload_get Message.payload_set Tx.length_enc Tx.ok_enc Tx.all_get Tx.all_set Tx.kind_get Tx.kind_set Tx.chain_get Tx.chain_set Tx.from__get Tx.from__set Tx.nonce_get Tx.nonce_set Tx.fee_get Tx.fee_set Tx.to__get Tx.to__set Tx.dest_get Tx.dest_set Tx.token_get Tx.token_set Tx.amount_get Tx.amount_set Tx.size_get Tx.size_set Tx.payload_get Tx.payload_set Tx.msg_get Tx.msg_set Tx.msg_kind_get Tx.msg_kind_set Tx.msg_from__get Tx.msg_from__set Tx.msg_to__get Tx.msg_to__set Tx.msg_sender_get Tx.msg_sender_set Tx.msg_receiver_get Tx.msg_receiver_set Tx.msg_seq_get Tx.msg_seq_set Tx.msg_token_get Tx.msg_token_set Tx.msg_amount_get Tx.msg_amount_set Tx.msg_size_get Tx.msg_size_set Tx.msg_payload_get Tx.msg_payload_set GOp.length_enc GOp.ok_enc GOp.all_get GOp.all_set GOp.kind_get GOp.kind_set GOp.tx_get GOp.tx_set GOp.txs_get GOp.txs_set GOp.gas_get GOp.gas_set GOp.acct_get GOp.acct_set GOp.token_get GOp.token_set GOp.chain_get GOp.chain_set GOp.seq_get GOp.seq_set GOp.tx_kind_get GOp.tx_kind_set GOp.tx_chain_get GOp.tx_chain_set GOp.tx_from__get GOp.tx_from__set GOp.tx_nonce_get GOp.tx_nonce_set GOp.tx_fee_get GOp.tx_fee_set GOp.tx_to__get GOp.tx_to__set GOp.tx_dest_get GOp.tx_dest_set GOp.tx_token_get GOp.tx_token_set GOp.tx_amount_get GOp.tx_amount_set GOp.tx_size_get GOp.tx_size_set GOp.tx_payload_get GOp.tx_payload_set GOp.tx_msg_get GOp.tx_msg_set GOp.tx_msg_kind_get GOp.tx_msg_kind_set GOp.tx_msg_from__get GOp.tx_msg_from__set GOp.tx_msg_to__get GOp.tx_msg_to__set GOp.tx_msg_sender_get GOp.tx_msg_sender_set GOp.tx_msg_receiver_get GOp.tx_msg_receiver_set GOp.tx_msg_seq_get GOp.tx_msg_seq_set GOp.tx_msg_token_get GOp.tx_msg_token_set GOp.tx_msg_amount_get GOp.tx_msg_amount_set GOp.tx_msg_size_get GOp.tx_msg_size_set GOp.tx_msg_payload_get GOp.tx_msg_payload_set Summary.length_enc Summary.ok_enc Summary.all_get Summary.all_set Summary.height_get Summary.height_set Summary.txs_get Summary.txs_set Summary.gas_get Summary.gas_set Summary.fees_get Summary.fees_set Summary.sent_get Summary.sent_set Summary.took_get Summary.took_set Summary.minted_get Summary.minted_set Summary.burned_get Summary.burned_set Summary.root_get Summary.root_set Detail.length_enc Detail.ok_enc Detail.all_get Detail.all_set Detail.code_get Detail.code_set Detail.have__get Detail.have__set Detail.need_get Detail.need_set Slot.length_enc Slot.ok_enc Slot.all_get Slot.all_set Slot.nonce_get Slot.nonce_set Slot.balances_get Slot.balances_set Tree.length_enc Tree.ok_enc Tree.all_get Tree.all_set Tree.leaves_get Tree.leaves_set Mark.length_enc Mark.ok_enc Mark.all_get Mark.all_set Mark.from__get Mark.from__set Mark.seq_get Mark.seq_set Receipt.length_enc Receipt.ok_enc Receipt.all_get Receipt.all_set Receipt.code_get Receipt.code_set Receipt.hash_get Receipt.hash_set Receipt.index_get Receipt.index_set Receipt.gas_get Receipt.gas_set Receipt.fee_get Receipt.fee_set Receipt.hasSent_get Receipt.hasSent_set Receipt.sent_get Receipt.sent_set Receipt.hasTook_get Receipt.hasTook_set Receipt.took_get Receipt.took_set Receipt.sent_kind_get Receipt.sent_kind_set Receipt.sent_from__get Receipt.sent_from__set Receipt.sent_to__get Receipt.sent_to__set Receipt.sent_sender_get Receipt.sent_sender_set Receipt.sent_receiver_get Receipt.sent_receiver_set Receipt.sent_seq_get Receipt.sent_seq_set Receipt.sent_token_get Receipt.sent_token_set Receipt.sent_amount_get Receipt.sent_amount_set Receipt.sent_size_get Receipt.sent_size_set Receipt.sent_payload_get Receipt.sent_payload_set Receipt.took_kind_get Receipt.took_kind_set Receipt.took_from__get Receipt.took_from__set Receipt.took_to__get Receipt.took_to__set Receipt.took_sender_get Receipt.took_sender_set Receipt.took_receiver_get Receipt.took_receiver_set Receipt.took_seq_get Receipt.took_seq_set Receipt.took_token_get Receipt.took_token_set Receipt.took_amount_get Receipt.took_amount_set Receipt.took_size_get Receipt.took_size_set Receipt.took_payload_get Receipt.took_payload_set Store.length_enc Store.ok_enc Store.all_get Store.all_set Store.now_get Store.now_set Store.saved_get Store.saved_set GState.length_enc GState.ok_enc GState.all_get GState.all_set GState.kv_get GState.kv_set GState.tree_get GState.tree_set GState.stale_get GState.stale_set GState.touched_get GState.touched_set GState.kv_now_get GState.kv_now_set GState.kv_saved_get GState.kv_saved_set GState.tree_leaves_get GState.tree_leaves_set History.length_enc History.ok_enc History.all_get History.all_set History.ring_get History.ring_set History.closed_get History.closed_set Ledger.length_enc Ledger.ok_enc Ledger.all_get Ledger.all_set Ledger.chain_get Ledger.chain_set Ledger.st_get Ledger.st_set Ledger.height_get Ledger.height_set Ledger.open__get Ledger.open__set Ledger.gasLimit_get Ledger.gasLimit_set Ledger.past_get Ledger.past_set Ledger.begun_get Ledger.begun_set Ledger.sent_get Ledger.sent_set Ledger.took_get Ledger.took_set Ledger.receipts_get Ledger.receipts_set Ledger.st_kv_get Ledger.st_kv_set Ledger.st_tree_get Ledger.st_tree_set Ledger.st_stale_get Ledger.st_stale_set Ledger.st_touched_get Ledger.st_touched_set Ledger.st_kv_now_get Ledger.st_kv_now_set Ledger.st_kv_saved_get Ledger.st_kv_saved_set Ledger.st_tree_leaves_get Ledger.st_tree_leaves_set Ledger.past_ring_get Ledger.past_ring_set Ledger.past_closed_get Ledger.past_closed_set Ledger.begun_kv_get Ledger.begun_kv_set Ledger.begun_tree_get Ledger.begun_tree_set Ledger.begun_stale_get Ledger.begun_stale_set Ledger.begun_touched_get Ledger.begun_touched_set Ledger.begun_kv_now_get Ledger.begun_kv_now_set Ledger.begun_kv_saved_get Ledger.begun_kv_saved_set Ledger.begun_tree_leaves_get Ledger.begun_tree_leaves_set Purse.length_enc Purse.ok_enc Purse.all_get Purse.all_set Purse.st_get Purse.st_set Purse.n_get Purse.n_set Purse.account_get Purse.account_set Purse.token_get Purse.token_set Purse.amount_get Purse.amount_set Plan.length_enc Plan.ok_enc Plan.all_get Plan.all_set Plan.purse_get Plan.purse_set Plan.nonce_get Plan.nonce_set Plan.gasUsed_get Plan.gasUsed_set Plan.fees_get Plan.fees_set Plan.hasSupply_get Plan.hasSupply_set Plan.token_get Plan.token_set Plan.supply_get Plan.supply_set Plan.flowAt_get Plan.flowAt_set Plan.flow_get Plan.flow_set Plan.receipt_get Plan.receipt_set Plan.purse_st_get Plan.purse_st_set Plan.purse_n_get Plan.purse_n_set Plan.purse_account_get Plan.purse_account_set Plan.purse_token_get Plan.purse_token_set Plan.purse_amount_get Plan.purse_amount_set Plan.receipt_code_get Plan.receipt_code_set Plan.receipt_hash_get Plan.receipt_hash_set Plan.receipt_index_get Plan.receipt_index_set Plan.receipt_gas_get Plan.receipt_gas_set Plan.receipt_fee_get Plan.receipt_fee_set Plan.receipt_hasSent_get Plan.receipt_hasSent_set Plan.receipt_sent_get Plan.receipt_sent_set Plan.receipt_hasTook_get Plan.receipt_hasTook_set Plan.receipt_took_get Plan.receipt_took_set Plan.receipt_sent_kind_get Plan.receipt_sent_kind_set Plan.receipt_sent_from__get Plan.receipt_sent_from__set Plan.receipt_sent_to__get Plan.receipt_sent_to__set Plan.receipt_sent_sender_get Plan.receipt_sent_sender_set Plan.receipt_sent_receiver_get Plan.receipt_sent_receiver_set Plan.receipt_sent_seq_get Plan.receipt_sent_seq_set Plan.receipt_sent_token_get Plan.receipt_sent_token_set Plan.receipt_sent_amount_get Plan.receipt_sent_amount_set Plan.receipt_sent_size_get Plan.receipt_sent_size_set Plan.receipt_sent_payload_get Plan.receipt_sent_payload_set Plan.receipt_took_kind_get Plan.receipt_took_kind_set Plan.receipt_took_from__get Plan.receipt_took_from__set Plan.receipt_took_to__get Plan.receipt_took_to__set Plan.receipt_took_sender_get Plan.receipt_took_sender_set Plan.receipt_took_receiver_get Plan.receipt_took_receiver_set Plan.receipt_took_seq_get Plan.receipt_took_seq_set Plan.receipt_took_token_get Plan.receipt_took_token_set Plan.receipt_took_amount_get Plan.receipt_took_amount_set Plan.receipt_took_size_get Plan.receipt_took_size_set Plan.receipt_took_payload_get Plan.receipt_took_payload_set Move.length_enc Move.ok_enc Move.all_get Move.all_set Move.account_get Move.account_set Move.token_get Move.token_set Move.down_get Move.down_set Move.amount_get Move.amount_set Books.length_enc Books.ok_enc Books.all_get Books.all_set Books.sums_get Books.sums_set Books.stored_get Books.stored_set Books.marks_get Books.marks_set Pair.length_enc Pair.ok_enc Pair.all_get Pair.all_set Pair.key_get Pair.key_set Pair.value_get Pair.value_set
attribute [local go_sem] size_put size_ext blk_put free_put blk_alloc free_alloc blk_drew free_drew blk_ext free_ext lookOr_some putOr_some segAt_some cellAt_some storeIn_some put_put put_alloc_new length_arr ok_arr_u8 ok_arr_u32 ok_arr_u64 ok_arr_i64 ok_arr_sl cellsV_agg cellsV_int cellsV_bool cellsV_string cellsV_pointer cellsV_slice cellsV_sl ok_int ok_bool ok_string ok_pointer ok_slice ok_sl toList_arr seg_arr set_arr nth_splice nth_splice0 seg_splice seg_splice0 splice_splice splice_splice0 length_splice_if
attribute [local go_sem ↓] execOp_box
attribute [local go_sem] box_run nth_arr_u8 put_arr_u8 blk_drewN free_drewN put_drewN blk_raw free_raw
attribute [local go_sem] x64_wrap x64_w8 x64_add x64_sub x64_or
section
variable {C : List Value} {o : Nat} (hf : o + 2060 ≤ C.length) (S : PSt) (sn ss : Sl)
include hf
theorem g_tn (d : Nat) (hd : d < 9) : nth (splice C o (gOf S sn ss).enc) (o + 2051 + d) = some (.int .u64 (w64 S.touched[d])) := by
  rw [Nat.add_assoc, nth_splice (by rw [GState.length_enc]; exact hf) (by rw [GState.length_enc]; omega), GState.touched_at _ _ hd]; rfl
theorem g_ts (d : Nat) (hd : d < 9) (y : UInt64) : splice (splice C o (gOf S sn ss).enc) (o + 2051 + d) [.int .u64 (w64 y)] = splice C o (gOf { S with touched := S.touched.set d y hd } sn ss).enc := by
  rw [Nat.add_assoc, splice_splice (by rw [GState.length_enc]; exact hf) (by rw [GState.length_enc]; simp; omega), GState.touched_put _ _ _ hd]; rfl
theorem g_sn : nth (splice C o (gOf S sn ss).enc) (o + 2050) = some (.int .u64 (w64 S.stale)) := by
  rw [nth_splice (by rw [GState.length_enc]; exact hf) (by rw [GState.length_enc]; omega), GState.stale_get]; rfl
theorem g_ss (y : UInt64) : splice (splice C o (gOf S sn ss).enc) (o + 2050) [.int .u64 (w64 y)] = splice C o (gOf { S with stale := y } sn ss).enc := by
  rw [splice_splice (by rw [GState.length_enc]; exact hf) (by rw [GState.length_enc]; simp), GState.stale_set]; rfl
theorem g_len : (splice C o (gOf S sn ss).enc).length = C.length := length_splice _ _ _ (by rw [GState.length_enc]; exact hf)
theorem g_n (y : Sl) : splice (splice C o (gOf S sn ss).enc) o [Sl.val y] = splice C o (gOf S y ss).enc := by
  rw [splice_splice0 (by rw [GState.length_enc]; exact hf) (by rw [GState.length_enc]; simp), GState.kv_now_set]; rfl
theorem g_s (y : Sl) : splice (splice C o (gOf S sn ss).enc) (o + 1) [Sl.val y] = splice C o (gOf S sn y).enc := by
  rw [splice_splice (by rw [GState.length_enc]; exact hf) (by rw [GState.length_enc]; simp), GState.kv_saved_set]; rfl
theorem g_hs : nth (splice C o (gOf S sn ss).enc) (o + 1) = some (Sl.val ss) := by
  rw [nth_splice (by rw [GState.length_enc]; exact hf) (by rw [GState.length_enc]; omega), GState.kv_saved_get]; rfl
end
def StCode (O : Own) (W : World) (m b o : Nat) (C : List Value) (r : Int × PSt) (e : Ending) (V : World) : Prop := e = .returned (.int .i64 r.1) ∧ ∃ O', StA O' V m b o C r.2 ∧ Lg (stP m) O W O' V
theorem StCode.same {O : Own} {W : World} {m b o : Nat} {C : List Value} {S : PSt} (h : StA O W m b o C S) (code : Int) : StCode O W m b o C (code, S) (.returned (.int .i64 code)) W := ⟨rfl, O, h, Lg.refl _ _ _⟩
/-- The state's own checkpoint, revert, commit. -/
def ckF (S : PSt) : Int × PSt := if h : S.saved.length < 8 then (0, { S with saved := S.saved ++ [S.now], touched := S.touched.set (S.saved.length + 1) 0 }) else (34, S)
def rvF (S : PSt) : Int × PSt := if h : 0 < S.saved.length ∧ S.saved.length < 9 then (0, { S with now := (S.saved.getLast?).getD [], saved := S.saved.take (S.saved.length - 1), stale := S.stale ||| S.touched[S.saved.length], touched := S.touched.set S.saved.length 0 }) else (35, S)
def cmF (S : PSt) : Int × PSt := if h : 0 < S.saved.length ∧ S.saved.length < 9 then (0, { S with saved := S.saved.take (S.saved.length - 1), touched := (S.touched.set (S.saved.length - 1) (S.touched[S.saved.length - 1] ||| S.touched[S.saved.length])).set S.saved.length 0 }) else (35, S)
theorem put_put_drew0 (W : World) (b : Nat) (D1 D2 : List Value) : put (put W.drew b D1) b D2 = (put W b D2).drewN 1 := by
  rw [put_put]; rfl
set_option maxRecDepth 20000 in
theorem checkpoint_any (O : Own) (W : World) (m b o : Nat) (C : List Value) (S : PSt) (h : StA O W m b o C S) : Calls Tryz.prog 159 #[.pointer (some ⟨b, o, none⟩)] W (StCode O W m b o C (ckF S)) := by
  obtain ⟨sn, ss, h⟩ := h
  have hck := scheckpoint_any O W m b o _ sn ss S.now S.saved h.hblk h.hnow h.hsav h.hfree h.hlab h.now h.sav h.sml h.dep
  obtain ⟨Q, hQ⟩ : ∃ Q : Ending → World → Prop, Q = StCode O W m b o C (ckF S) := ⟨_, rfl⟩
  rw [← hQ]
  have HQ := hid_of hQ
  clear hQ
  by_cases h8 : 8 ≤ S.saved.length
  · have HP : Hid (Q (.returned (.int .i64 34)) W) := by
      show Q _ _
      rw [HQ.out]
      unfold ckF
      rw [dif_neg (by omega)]
      exact StCode.same ⟨sn, ss, h⟩ 34
    have hck2 : Calls Tryz.prog 218 #[.pointer (some ⟨b, o, none⟩)] W fun e V => e = .returned (.int .i64 34) ∧ V = W := hck.mono (fun e V hp => by
      unfold CkPost at hp
      rw [if_pos h8] at hp
      exact hp)
    clear hck h h8
    go_enter Tryz.func159, Tryz.ntmps159
    go_wp2_with fail
    refine hck2.mono ?_
    rintro e V ⟨rfl, rfl⟩
    dsimp only
    go_wp2_with fail
    try (first | go_ret | go_ret2 | go_end0)
    exact HP.out
  have hck2 : Calls Tryz.prog 218 #[.pointer (some ⟨b, o, none⟩)] W fun e V => e = .returned (.int .i64 0) ∧ ∃ O' ss', StAt O' V m b o C { S with saved := S.saved ++ [S.now] } sn ss' ∧ Lg (stP m) O W O' V := hck.mono (fun e V hp => by
    unfold CkPost at hp
    rw [if_neg h8] at hp
    obtain ⟨he, O', ss', h1, h2, h3, h4, h5, h6⟩ := hp
    refine ⟨he, O', ss', ⟨?_, h.fit, h2, h3, h4, h5, h.sml, ?_⟩, h6⟩
    · rw [h1, g_s h.fit]; rfl
    · show (S.saved ++ [S.now]).length ≤ 8
      rw [List.length_append, List.length_singleton]; omega)
  have HF := hid_of h.fit
  have HN8 := hid_of h8
  clear hck h
  go_enter Tryz.func159, Tryz.ntmps159
  go_wp2_with fail
  refine hck2.mono ?_
  rintro e V ⟨rfl, O1, ⟨sa, sl, sc⟩, h1, hL1⟩
  have hsl : sl = S.saved.length + 1 := by
    have := h1.sav.len
    dsimp only at this
    rw [this, List.length_append, List.length_singleton]
  have hd9 : sl < 9 := by have := HN8.out; omega
  have hb := h1.hblk
  have hf := h1.hfree
  have s2 := g_ts HF.out { S with saved := S.saved ++ [S.now] } sn ⟨sa, sl, sc⟩ sl hd9 0
  have l2 : o + 2051 + sl + 1 ≤ (splice C o (gOf { S with saved := S.saved ++ [S.now] } sn ⟨sa, sl, sc⟩).enc).length := by rw [g_len HF.out]; have := HF.out; omega
  have hdp := fun V' hb => sdepth_any V' b o _ hb ⟨sa, sl, sc⟩ (g_hs HF.out { S with saved := S.saved ++ [S.now] } sn ⟨sa, sl, sc⟩)
  have HP : Hid (∀ n, Q (.returned (.int .i64 0)) ((put V b (splice C o (gOf { S with saved := S.saved ++ [S.now], touched := S.touched.set sl 0 hd9 } sn ⟨sa, sl, sc⟩).enc)).drewN n)) := fun n => by
    rw [HQ.out]
    unfold ckF
    rw [dif_pos (by have := HN8.out; omega)]
    subst hsl
    have h2 := h1.setSt S.leaves S.stale (S.touched.set (S.saved.length + 1) 0 hd9)
    exact ⟨rfl, O1, ⟨sn, _, h2.same (extends_drewN (ext_Ext (Ext.refl _)) n) rfl⟩, (Lg.trans hL1 (Lg.put (Lg.refl _ _ _) (.inl h1.hlab) _)).drewN n⟩
  dsimp only at hdp s2
  generalize splice C o (gOf { S with saved := S.saved ++ [S.now] } sn ⟨sa, sl, sc⟩).enc = D1 at hb s2 l2 hdp
  generalize splice C o (gOf { S with saved := S.saved ++ [S.now], touched := S.touched.set sl 0 hd9 } sn ⟨sa, sl, sc⟩).enc = D2 at s2 HP
  have s3 : splice D1 (o + 2051 + sl) [.int .u64 0] = D2 := s2
  have p0 : (0 : Int) ≤ (sl : Int) := by omega
  have p1 : (sl : Int) < 9 := by omega
  have p2 : ((sl : Int)).toNat = sl := by omega
  clear hck2 h1 hL1 hsl HN8 h8 s2
  dsimp only
  go_wp2_with fail
  refine wp_region_still_tail 8 Tryz.mixed (by kernel_rfl) ?_
  simp only [List.take_succ_cons, List.take_zero, List.drop_succ_cons, List.drop_zero]
  iterate 4 still_step
  still_call (hdp _ (by simp only [blk_drew, hb]))
  iterate 3 still_step
  refine wpStill_nil ?_
  go_wp2_with fail
  try (first | go_ret | go_ret2 | go_end0)
  exact HP.out 1
theorem take_last {α : Type} {l : List α} {x : α} {n : Nat} (h : l = l.take n ++ [x]) : l.getLast? = some x := by rw [h]; simp
set_option maxRecDepth 20000 in
theorem revert_any (O : Own) (W : World) (m b o : Nat) (C : List Value) (S : PSt) (h : StA O W m b o C S) (hsm : ∀ l ∈ S.saved, l.length ≤ 1000000000) : Calls Tryz.prog 161 #[.pointer (some ⟨b, o, none⟩)] W (StCode O W m b o C (rvF S)) := by
  obtain ⟨sn, ss, h⟩ := h
  have hck := srevert_any O W m b o _ ss S.saved h.hblk h.hsav h.hfree h.hlab h.sav h.dep
  have hdp := sdepth_any W b o _ h.hblk ss h.hsav
  have hsl : ss.len = S.saved.length := h.sav.len
  rw [hsl] at hdp
  obtain ⟨Q, hQ⟩ : ∃ Q : Ending → World → Prop, Q = StCode O W m b o C (rvF S) := ⟨_, rfl⟩
  rw [← hQ]
  have HQ := hid_of hQ
  clear hQ
  by_cases h8 : S.saved.length = 0
  · have HP : Hid (Q (.returned (.int .i64 35)) W) := by
      show Q _ _
      rw [HQ.out]
      unfold rvF
      rw [dif_neg (by omega)]
      exact StCode.same ⟨sn, ss, h⟩ 35
    have hck2 : Calls Tryz.prog 219 #[.pointer (some ⟨b, o, none⟩)] W fun e V => e = .returned (.int .i64 35) ∧ V = W := hck.mono (fun e V hp => by
      unfold RvPost at hp
      rw [if_pos h8] at hp
      exact hp)
    rw [h8] at hdp
    clear hck h h8 hsl
    go_enter Tryz.func161, Tryz.ntmps161
    go_wp2_with fail
    refine hdp.mono ?_
    rintro e V ⟨rfl, rfl⟩
    dsimp only
    go_wp2_with fail
    refine hck2.mono ?_
    rintro e V ⟨rfl, rfl⟩
    dsimp only
    go_wp2_with fail
    try (first | go_ret | go_ret2 | go_end0)
    exact HP.out
  have hck2 : Calls Tryz.prog 219 #[.pointer (some ⟨b, o, none⟩)] W fun e V => e = .returned (.int .i64 0) ∧ ∃ O' k ss', StAt O' V m b o C { S with now := (S.saved.getLast?).getD [], saved := S.saved.take (S.saved.length - 1) } k ss' ∧ Lg (stP m) O W O' V := hck.mono (fun e V hp => by
    unfold RvPost at hp
    rw [if_neg h8] at hp
    obtain ⟨he, O', k, ss', l, h0, h1, h2, h3, h4, h5, h6⟩ := hp
    have hl := take_last h0
    refine ⟨he, O', k, ss', ⟨?_, h.fit, h2, h3, by rw [hl]; exact h4, h5, ?_, ?_⟩, h6⟩
    · rw [h1, g_n h.fit, g_s h.fit]; rfl
    · dsimp only
      rw [hl]
      exact hsm l (List.mem_of_getLast? hl)
    · dsimp only
      rw [List.length_take]
      have := h.dep
      omega)
  have HF := hid_of h.fit
  have HN8 : Hid (S.saved.length ≠ 0) := h8
  have HD := hid_of h.dep
  obtain ⟨d, hd⟩ : ∃ d, d = S.saved.length := ⟨_, rfl⟩
  rw [← hd] at hdp
  have hd9 : d < 9 := by have := h.dep; omega
  clear hck h hsm
  go_enter Tryz.func161, Tryz.ntmps161
  go_wp2_with fail
  refine hdp.mono ?_
  rintro e V ⟨rfl, rfl⟩
  dsimp only
  go_wp2_with fail
  refine hck2.mono ?_
  rintro e V1 ⟨rfl, O1, k, ss1, h1, hL1⟩
  have hb := h1.hblk
  have hf := h1.hfree
  obtain ⟨S1, hS1⟩ : ∃ S1 : PSt, S1 = { S with now := (S.saved.getLast?).getD [], saved := S.saved.take (S.saved.length - 1) } := ⟨_, rfl⟩
  rw [← hS1] at hb h1
  have n1 := g_sn HF.out S1 k ss1
  have n2 := g_tn HF.out S1 k ss1 d hd9
  have s1 := g_ss HF.out S1 k ss1 (S1.stale ||| S1.touched[d])
  have s2 := g_ts HF.out { S1 with stale := S1.stale ||| S1.touched[d] } k ss1 d hd9 0
  have l1 : o + 2050 + 1 ≤ (splice C o (gOf S1 k ss1).enc).length := by rw [g_len HF.out]; have := HF.out; omega
  have l2 : o + 2051 + d + 1 ≤ (splice C o (gOf { S1 with stale := S1.stale ||| S1.touched[d] } k ss1).enc).length := by rw [g_len HF.out]; have := HF.out; omega
  have HP : Hid (∀ n, Q (.returned (.int .i64 0)) ((put V1 b (splice C o (gOf { S1 with stale := S1.stale ||| S1.touched[d], touched := S1.touched.set d 0 hd9 } k ss1).enc)).drewN n)) := fun n => by
    rw [HQ.out]
    unfold rvF
    rw [dif_pos (by have := HN8.out; omega)]
    subst hd
    have h2 := h1.setSt S1.leaves (S1.stale ||| S1.touched[S.saved.length]) (S1.touched.set S.saved.length 0 hd9)
    refine ⟨rfl, O1, ⟨k, ss1, ?_⟩, (Lg.trans hL1 (Lg.put (Lg.refl _ _ _) (.inl h1.hlab) _)).drewN n⟩
    have h3 := h2.same (extends_drewN (ext_Ext (Ext.refl _)) n) rfl
    subst hS1
    exact h3
  dsimp only at n2 s2 l2
  generalize S1.touched.set d 0 hd9 = T2 at s2 HP
  generalize S1.touched[d] = td at n2 s1 s2 l2 HP
  generalize splice C o (gOf S1 k ss1).enc = D0 at hb n1 n2 s1 l1
  generalize splice C o (gOf { S1 with stale := S1.stale ||| td } k ss1).enc = D1 at s1 s2 l2
  generalize splice C o (gOf { S1 with stale := S1.stale ||| td, touched := T2 } k ss1).enc = D2 at s2 HP
  have s3 : splice D1 (o + 2051 + d) [.int .u64 0] = D2 := s2
  generalize S1.stale = st at n1 s1
  have p0 : (0 : Int) ≤ (d : Int) := by omega
  have p1 : (d : Int) < 9 := by omega
  have p2 : ((d : Int)).toNat = d := by omega
  clear hck2 h1 hL1 HN8 HD h8 s2 hdp hsl hS1
  have HDD := hid_of hd
  clear hd
  dsimp only
  go_wp2_with fail
  refine wp_region_still_tail 13 Tryz.mixed (by kernel_rfl) ?_
  simp only [List.take_succ_cons, List.take_zero, List.drop_succ_cons, List.drop_zero]
  iterate 13 still_step
  refine wpStill_nil ?_
  go_wp2_with fail
  try (first | go_ret | go_ret2 | go_end0)
  try rw [put_put_drew0]
  exact HP.out 1
set_option maxRecDepth 20000 in
theorem commit_any (O : Own) (W : World) (m b o : Nat) (C : List Value) (S : PSt) (h : StA O W m b o C S) : Calls Tryz.prog 187 #[.pointer (some ⟨b, o, none⟩)] W (StCode O W m b o C (cmF S)) := by
  obtain ⟨sn, ss, h⟩ := h
  have hck := scommit_any O W m b o _ ss S.saved h.hblk h.hsav h.hfree h.hlab h.sav h.dep
  have hdp := sdepth_any W b o _ h.hblk ss h.hsav
  have hsl : ss.len = S.saved.length := h.sav.len
  rw [hsl] at hdp
  obtain ⟨Q, hQ⟩ : ∃ Q : Ending → World → Prop, Q = StCode O W m b o C (cmF S) := ⟨_, rfl⟩
  rw [← hQ]
  have HQ := hid_of hQ
  clear hQ
  by_cases h8 : S.saved.length = 0
  · have HP : Hid (Q (.returned (.int .i64 35)) W) := by
      show Q _ _
      rw [HQ.out]
      unfold cmF
      rw [dif_neg (by omega)]
      exact StCode.same ⟨sn, ss, h⟩ 35
    have hck2 : Calls Tryz.prog 225 #[.pointer (some ⟨b, o, none⟩)] W fun e V => e = .returned (.int .i64 35) ∧ V = W := hck.mono (fun e V hp => by
      unfold CmPost at hp
      rw [if_pos h8] at hp
      exact hp)
    rw [h8] at hdp
    clear hck h h8 hsl
    go_enter Tryz.func187, Tryz.ntmps187
    go_wp2_with fail
    refine hdp.mono ?_
    rintro e V ⟨rfl, rfl⟩
    dsimp only
    go_wp2_with fail
    refine hck2.mono ?_
    rintro e V ⟨rfl, rfl⟩
    dsimp only
    go_wp2_with fail
    try (first | go_ret | go_ret2 | go_end0)
    exact HP.out
  have hck2 : Calls Tryz.prog 225 #[.pointer (some ⟨b, o, none⟩)] W fun e V => e = .returned (.int .i64 0) ∧ ∃ ss', StAt O V m b o C { S with saved := S.saved.take (S.saved.length - 1) } sn ss' ∧ Lg (stP m) O W O V := hck.mono (fun e V hp => by
    unfold CmPost at hp
    rw [if_neg h8] at hp
    obtain ⟨he, ss', h1, h5⟩ := hp
    have hpk : Lg (fun l => l = .a m 0) O W O V := by
      rw [h1]
      exact (Lg.put (P := fun l => l = .a m 0) (Lg.refl _ _ _) h.hlab _).drewN 1
    refine ⟨he, ss', ⟨?_, h.fit, ?_, h.hlab, RowL.lg h.now hpk (fun e => by cases e), h5, h.sml, ?_⟩, hpk.mono (fun l e => .inl e)⟩
    · rw [h1, blk_drewN, blk_put, if_pos rfl, h.hblk, Option.map_some, g_s h.fit]; rfl
    · rw [h1, free_drewN, free_put]; exact h.hfree
    · dsimp only
      rw [List.length_take]
      have := h.dep
      omega)
  have HF := hid_of h.fit
  have HN8 : Hid (S.saved.length ≠ 0) := h8
  obtain ⟨d, hd⟩ : ∃ d, d + 1 = S.saved.length := ⟨S.saved.length - 1, by omega⟩
  rw [← hd] at hdp
  have hd9 : d + 1 < 9 := by have := h.dep; omega
  have hd8 : d < 9 := by omega
  clear hck h
  go_enter Tryz.func187, Tryz.ntmps187
  go_wp2_with fail
  refine hdp.mono ?_
  rintro e V ⟨rfl, rfl⟩
  dsimp only
  go_wp2_with fail
  refine hck2.mono ?_
  rintro e V1 ⟨rfl, ss1, h1, hL1⟩
  have hb := h1.hblk
  have hf := h1.hfree
  obtain ⟨S1, hS1⟩ : ∃ S1 : PSt, S1 = { S with saved := S.saved.take (S.saved.length - 1) } := ⟨_, rfl⟩
  rw [← hS1] at hb h1
  have n1 := g_tn HF.out S1 sn ss1 d hd8
  have n2 := g_tn HF.out S1 sn ss1 (d + 1) hd9
  have s1 := g_ts HF.out S1 sn ss1 d hd8 (S1.touched[d] ||| S1.touched[d + 1])
  have s2 := g_ts HF.out { S1 with touched := S1.touched.set d (S1.touched[d] ||| S1.touched[d + 1]) hd8 } sn ss1 (d + 1) hd9 0
  have l1 : o + 2051 + d + 1 ≤ (splice C o (gOf S1 sn ss1).enc).length := by rw [g_len HF.out]; have := HF.out; omega
  have l2 : o + 2051 + (d + 1) + 1 ≤ (splice C o (gOf { S1 with touched := S1.touched.set d (S1.touched[d] ||| S1.touched[d + 1]) hd8 } sn ss1).enc).length := by rw [g_len HF.out]; have := HF.out; omega
  have HP : Hid (∀ n, Q (.returned (.int .i64 0)) ((put V1 b (splice C o (gOf { S1 with touched := (S1.touched.set d (S1.touched[d] ||| S1.touched[d + 1]) hd8).set (d + 1) 0 hd9 } sn ss1).enc)).drewN n)) := fun n => by
    rw [HQ.out]
    unfold cmF
    rw [dif_pos (by have := HN8.out; omega)]
    have h2 := h1.setSt S1.leaves S1.stale ((S1.touched.set d (S1.touched[d] ||| S1.touched[d + 1]) hd8).set (d + 1) 0 hd9)
    refine ⟨rfl, O, ⟨sn, ss1, ?_⟩, (Lg.trans hL1 (Lg.put (Lg.refl _ _ _) (.inl h1.hlab) _)).drewN n⟩
    have h3 := h2.same (extends_drewN (ext_Ext (Ext.refl _)) n) rfl
    have e1 : S.saved.length - 1 = d := by omega
    have e2 : S.saved.length = d + 1 := hd.symm
    subst hS1
    simp only [e1, e2] at h3 ⊢
    exact h3
  dsimp only at s2 l2
  generalize (S1.touched.set d (S1.touched[d] ||| S1.touched[d + 1]) hd8).set (d + 1) 0 hd9 = T2 at s2 HP
  generalize S1.touched.set d (S1.touched[d] ||| S1.touched[d + 1]) hd8 = T1 at s1 s2 l2
  generalize S1.touched[d] = td at n1 s1
  generalize S1.touched[d + 1] = te at n2 s1
  generalize splice C o (gOf S1 sn ss1).enc = D0 at hb n1 n2 s1 l1
  generalize splice C o (gOf { S1 with touched := T1 } sn ss1).enc = D1 at s1 s2 l2
  generalize splice C o (gOf { S1 with touched := T2 } sn ss1).enc = D2 at s2 HP
  have s3 : splice D1 (o + 2051 + (d + 1)) [.int .u64 0] = D2 := s2
  obtain ⟨f, hfd⟩ : ∃ f, f = d + 1 := ⟨_, rfl⟩
  have w1 : IntKind.i64.wrap ((f : Int) - 1) = (d : Int) := by rw [wraps_i64 _ (by omega) (by omega)]; omega
  have q0 : (0 : Int) ≤ (f : Int) := by omega
  have q1 : (f : Int) < 9 := by omega
  have q2 : ((f : Int)).toNat = f := by omega
  have p0 : (0 : Int) ≤ (d : Int) := by omega
  have p1 : (d : Int) < 9 := by omega
  have p2 : ((d : Int)).toNat = d := by omega
  rw [← hfd] at n2 s3 l2 ⊢
  clear hck2 h1 hL1 HN8 h8 s2 hdp hsl hS1
  have HDD := hid_of hd
  clear hd hfd
  dsimp only
  go_wp2_with fail
  refine wp_region_still_tail 17 Tryz.mixed (by kernel_rfl) ?_
  simp only [List.take_succ_cons, List.take_zero, List.drop_succ_cons, List.drop_zero]
  iterate 17 still_step
  refine wpStill_nil ?_
  go_wp2_with fail
  try (first | go_ret | go_ret2 | go_end0)
  try rw [put_put_drew0]
  exact HP.out 1
end Go.Proofs.Qxb6500786aGreat
