import Derived.Test.Qxb6500786aGreatKe

import Derived.StillTailTactics
import Derived.Deep.QuietTactic
import Derived.BigQuiet
import Derived.Deep.RegionHeld
import Derived.Deep.CutRange
import Derived.Laws.ResultCell
import Derived.Laws.Rows
import Derived.DeepKeys
import Derived.DataBytes
import Derived.Laws.StructEq
import Derived.Laws.AppendOwn
import Derived.Laws.MakeOwn
import Derived.Lib.AppendStr
set_option linter.unusedSimpArgs false
set_option linter.unusedVariables false
namespace Go.Proofs.Qxb6500786aGreat
open Go.RowKit Go.Blk
attribute [local go_sem ↓] execOp_load execOp_store execOp_alloc
attribute [local go_sem] Tryz.ld24 Tryz.st24 Tryz.ld36 Tryz.st36 Tryz.ld28 Tryz.st28 Tryz.ld32 Tryz.st32 Tryz.ld33 Tryz.st33 Tryz.ld34 Tryz.st34 Tryz.ld5 Tryz.st5 Tryz.ld31 Tryz.st31 Tryz.ld30 Tryz.st30 Tryz.ld41 Tryz.st41 Tryz.ld44 Tryz.st44 Tryz.ld4 Tryz.st4 Tryz.ld173 Tryz.st173 Tryz.ld174 Tryz.st174 Tryz.ld95 Tryz.st95 Tryz.ld45 Tryz.st45 Tryz.ld207 Tryz.st207 Tryz.ld3 Tryz.st3 Tryz.ld189 Tryz.st189 Tryz.ld2 Tryz.st2 Tryz.ld9 Tryz.st9 Tryz.ld12 Tryz.st12 Tryz.ld21 Tryz.st21 Tryz.ld22 Tryz.st22 Tryz.ld46 Tryz.st46 Tryz.ld92 Tryz.st92 Tryz.ld94 Tryz.st94 Tryz.ld96 Tryz.st96 Tryz.ld97 Tryz.st97 Tryz.ld105 Tryz.st105 Tryz.ld117 Tryz.st117 Tryz.ld122 Tryz.st122 Tryz.ld123 Tryz.st123 Tryz.ld133 Tryz.st133 Tryz.ld155 Tryz.st155 Tryz.ld163 Tryz.st163 Tryz.ld190 Tryz.st190 Tryz.ld197 Tryz.st197 Tryz.ld201 Tryz.st201 Tryz.ld202 Tryz.st202 Tryz.ld209 Tryz.st209 Tryz.ld216 Tryz.st216 Tryz.ld230 Tryz.st230 Tryz.ld238 Tryz.st238 Tryz.ld242 Tryz.st242 Tryz.ld251 Tryz.st251 Tryz.ld260 Tryz.st260 Tryz.ld286 Tryz.st286 Tryz.ld292 Tryz.st292 Tryz.ld298 Tryz.st298 Tryz.ld309 Tryz.st309 Tryz.ld35 Tryz.st35 Tryz.ld48 Tryz.st48 Tryz.ld47 Tryz.st47 Tryz.ld79 Tryz.st79 Tryz.ld177 Tryz.st177 Tryz.ld180 Tryz.st180 Tryz.ld231 Tryz.st231 Tryz.ld232 Tryz.st232 Tryz.ld26 Tryz.st26 Tryz.ld38 Tryz.st38 Tryz.ld40 Tryz.st40 Tryz.ld43 Tryz.st43 Tryz.ld50 Tryz.st50 Tryz.ld52 Tryz.st52 Tryz.ld54 Tryz.st54 Tryz.ld81 Tryz.st81 Tryz.ld112 Tryz.st112 Tryz.ld120 Tryz.st120 Tryz.ld176 Tryz.st176 Tryz.ld179 Tryz.st179 Tryz.ld182 Tryz.st182 Tryz.ld184 Tryz.st184 Tryz.ld234 Tryz.st234 Tryz.ld236 Tryz.st236 Tryz.ld240 Tryz.st240 Tryz.ld246 Tryz.st246 Tryz.ld249 Tryz.st249 Tryz.al35 Tryz.al48 Tryz.al47 Tryz.al79 Tryz.al177 Tryz.al180 Tryz.al231 Tryz.al232 Tryz.al26 Tryz.al38 Tryz.al40 Tryz.al43 Tryz.al50 Tryz.al52 Tryz.al54 Tryz.al81 Tryz.al112 Tryz.al120 Tryz.al176 Tryz.al179 Tryz.al182 Tryz.al184 Tryz.al234 Tryz.al236 Tryz.al240 Tryz.al246 Tryz.al249
attribute [local go_sem] Player.length_enc Player.ok_enc Player.all_get Player.all_set Player.hand_get Player.hand_set Player.aside_get Player.aside_set Message.length_enc Message.ok_enc Message.all_get Message.all_set Message.kind_get Message.kind_set Message.from__get Message.from__set Message.to__get Message.to__set Message.sender_get Message.sender_set Message.receiver_get Message.receiver_set Message.seq_get Message.seq_set Message.token_get Message.token_set Message.amount_get Message.amount_set Message.size_get Message.size_set Message.payload_get Message.payload_set Tx.length_enc Tx.ok_enc Tx.all_get Tx.all_set Tx.kind_get Tx.kind_set Tx.chain_get Tx.chain_set Tx.from__get Tx.from__set Tx.nonce_get Tx.nonce_set Tx.fee_get Tx.fee_set Tx.to__get Tx.to__set Tx.dest_get Tx.dest_set Tx.token_get Tx.token_set Tx.amount_get Tx.amount_set Tx.size_get Tx.size_set Tx.payload_get Tx.payload_set Tx.msg_get Tx.msg_set Tx.msg_kind_get Tx.msg_kind_set Tx.msg_from__get Tx.msg_from__set Tx.msg_to__get Tx.msg_to__set Tx.msg_sender_get Tx.msg_sender_set Tx.msg_receiver_get Tx.msg_receiver_set Tx.msg_seq_get Tx.msg_seq_set Tx.msg_token_get Tx.msg_token_set Tx.msg_amount_get Tx.msg_amount_set Tx.msg_size_get Tx.msg_size_set Tx.msg_payload_get Tx.msg_payload_set GOp.length_enc GOp.ok_enc GOp.all_get GOp.all_set GOp.kind_get GOp.kind_set GOp.tx_get GOp.tx_set GOp.txs_get GOp.txs_set GOp.gas_get GOp.gas_set GOp.acct_get GOp.acct_set GOp.token_get GOp.token_set GOp.chain_get GOp.chain_set GOp.seq_get GOp.seq_set GOp.tx_kind_get GOp.tx_kind_set GOp.tx_chain_get GOp.tx_chain_set GOp.tx_from__get GOp.tx_from__set GOp.tx_nonce_get GOp.tx_nonce_set GOp.tx_fee_get GOp.tx_fee_set GOp.tx_to__get GOp.tx_to__set GOp.tx_dest_get GOp.tx_dest_set GOp.tx_token_get GOp.tx_token_set GOp.tx_amount_get GOp.tx_amount_set GOp.tx_size_get GOp.tx_size_set GOp.tx_payload_get GOp.tx_payload_set GOp.tx_msg_get GOp.tx_msg_set GOp.tx_msg_kind_get GOp.tx_msg_kind_set GOp.tx_msg_from__get GOp.tx_msg_from__set GOp.tx_msg_to__get GOp.tx_msg_to__set GOp.tx_msg_sender_get GOp.tx_msg_sender_set GOp.tx_msg_receiver_get GOp.tx_msg_receiver_set GOp.tx_msg_seq_get GOp.tx_msg_seq_set GOp.tx_msg_token_get GOp.tx_msg_token_set GOp.tx_msg_amount_get GOp.tx_msg_amount_set GOp.tx_msg_size_get GOp.tx_msg_size_set GOp.tx_msg_payload_get GOp.tx_msg_payload_set Summary.length_enc Summary.ok_enc Summary.all_get Summary.all_set Summary.height_get Summary.height_set Summary.txs_get Summary.txs_set Summary.gas_get Summary.gas_set Summary.fees_get Summary.fees_set Summary.sent_get Summary.sent_set Summary.took_get Summary.took_set Summary.minted_get Summary.minted_set Summary.burned_get Summary.burned_set Summary.root_get Summary.root_set Detail.length_enc Detail.ok_enc Detail.all_get Detail.all_set Detail.code_get Detail.code_set Detail.have__get Detail.have__set Detail.need_get Detail.need_set Slot.length_enc Slot.ok_enc Slot.all_get Slot.all_set Slot.nonce_get Slot.nonce_set Slot.balances_get Slot.balances_set Tree.length_enc Tree.ok_enc Tree.all_get Tree.all_set Tree.leaves_get Tree.leaves_set Mark.length_enc Mark.ok_enc Mark.all_get Mark.all_set Mark.from__get Mark.from__set Mark.seq_get Mark.seq_set Receipt.length_enc Receipt.ok_enc Receipt.all_get Receipt.all_set Receipt.code_get Receipt.code_set Receipt.hash_get Receipt.hash_set Receipt.index_get Receipt.index_set Receipt.gas_get Receipt.gas_set Receipt.fee_get Receipt.fee_set Receipt.hasSent_get Receipt.hasSent_set Receipt.sent_get Receipt.sent_set Receipt.hasTook_get Receipt.hasTook_set Receipt.took_get Receipt.took_set Receipt.sent_kind_get Receipt.sent_kind_set Receipt.sent_from__get Receipt.sent_from__set Receipt.sent_to__get Receipt.sent_to__set Receipt.sent_sender_get Receipt.sent_sender_set Receipt.sent_receiver_get Receipt.sent_receiver_set Receipt.sent_seq_get Receipt.sent_seq_set Receipt.sent_token_get Receipt.sent_token_set Receipt.sent_amount_get Receipt.sent_amount_set Receipt.sent_size_get Receipt.sent_size_set Receipt.sent_payload_get Receipt.sent_payload_set Receipt.took_kind_get Receipt.took_kind_set Receipt.took_from__get Receipt.took_from__set Receipt.took_to__get Receipt.took_to__set Receipt.took_sender_get Receipt.took_sender_set Receipt.took_receiver_get Receipt.took_receiver_set Receipt.took_seq_get Receipt.took_seq_set Receipt.took_token_get Receipt.took_token_set Receipt.took_amount_get Receipt.took_amount_set Receipt.took_size_get Receipt.took_size_set Receipt.took_payload_get Receipt.took_payload_set Store.length_enc Store.ok_enc Store.all_get Store.all_set Store.now_get Store.now_set Store.saved_get Store.saved_set GState.length_enc GState.ok_enc GState.all_get GState.all_set GState.kv_get GState.kv_set GState.tree_get GState.tree_set GState.stale_get GState.stale_set GState.touched_get GState.touched_set GState.kv_now_get GState.kv_now_set GState.kv_saved_get GState.kv_saved_set GState.tree_leaves_get GState.tree_leaves_set History.length_enc History.ok_enc History.all_get History.all_set History.ring_get History.ring_set History.closed_get History.closed_set Ledger.length_enc Ledger.ok_enc Ledger.all_get Ledger.all_set Ledger.chain_get Ledger.chain_set Ledger.st_get Ledger.st_set Ledger.height_get Ledger.height_set Ledger.open__get Ledger.open__set Ledger.gasLimit_get Ledger.gasLimit_set Ledger.past_get Ledger.past_set Ledger.begun_get Ledger.begun_set Ledger.sent_get Ledger.sent_set Ledger.took_get Ledger.took_set Ledger.receipts_get Ledger.receipts_set Ledger.st_kv_get Ledger.st_kv_set Ledger.st_tree_get Ledger.st_tree_set Ledger.st_stale_get Ledger.st_stale_set Ledger.st_touched_get Ledger.st_touched_set Ledger.st_kv_now_get Ledger.st_kv_now_set Ledger.st_kv_saved_get Ledger.st_kv_saved_set Ledger.st_tree_leaves_get Ledger.st_tree_leaves_set Ledger.past_ring_get Ledger.past_ring_set Ledger.past_closed_get Ledger.past_closed_set Ledger.begun_kv_get Ledger.begun_kv_set Ledger.begun_tree_get Ledger.begun_tree_set Ledger.begun_stale_get Ledger.begun_stale_set Ledger.begun_touched_get Ledger.begun_touched_set Ledger.begun_kv_now_get Ledger.begun_kv_now_set Ledger.begun_kv_saved_get Ledger.begun_kv_saved_set Ledger.begun_tree_leaves_get Ledger.begun_tree_leaves_set Purse.length_enc Purse.ok_enc Purse.all_get Purse.all_set Purse.st_get Purse.st_set Purse.n_get Purse.n_set Purse.account_get Purse.account_set Purse.token_get Purse.token_set Purse.amount_get Purse.amount_set Plan.length_enc Plan.ok_enc Plan.all_get Plan.all_set Plan.purse_get Plan.purse_set Plan.nonce_get Plan.nonce_set Plan.gasUsed_get Plan.gasUsed_set Plan.fees_get Plan.fees_set Plan.hasSupply_get Plan.hasSupply_set Plan.token_get Plan.token_set Plan.supply_get Plan.supply_set Plan.flowAt_get Plan.flowAt_set Plan.flow_get Plan.flow_set Plan.receipt_get Plan.receipt_set Plan.purse_st_get Plan.purse_st_set Plan.purse_n_get Plan.purse_n_set Plan.purse_account_get Plan.purse_account_set Plan.purse_token_get Plan.purse_token_set Plan.purse_amount_get Plan.purse_amount_set Plan.receipt_code_get Plan.receipt_code_set Plan.receipt_hash_get Plan.receipt_hash_set Plan.receipt_index_get Plan.receipt_index_set Plan.receipt_gas_get Plan.receipt_gas_set Plan.receipt_fee_get Plan.receipt_fee_set Plan.receipt_hasSent_get Plan.receipt_hasSent_set Plan.receipt_sent_get Plan.receipt_sent_set Plan.receipt_hasTook_get Plan.receipt_hasTook_set Plan.receipt_took_get Plan.receipt_took_set Plan.receipt_sent_kind_get Plan.receipt_sent_kind_set Plan.receipt_sent_from__get Plan.receipt_sent_from__set Plan.receipt_sent_to__get Plan.receipt_sent_to__set Plan.receipt_sent_sender_get Plan.receipt_sent_sender_set Plan.receipt_sent_receiver_get Plan.receipt_sent_receiver_set Plan.receipt_sent_seq_get Plan.receipt_sent_seq_set Plan.receipt_sent_token_get Plan.receipt_sent_token_set Plan.receipt_sent_amount_get Plan.receipt_sent_amount_set Plan.receipt_sent_size_get Plan.receipt_sent_size_set Plan.receipt_sent_payload_get Plan.receipt_sent_payload_set Plan.receipt_took_kind_get Plan.receipt_took_kind_set Plan.receipt_took_from__get Plan.receipt_took_from__set Plan.receipt_took_to__get Plan.receipt_took_to__set Plan.receipt_took_sender_get Plan.receipt_took_sender_set Plan.receipt_took_receiver_get Plan.receipt_took_receiver_set Plan.receipt_took_seq_get Plan.receipt_took_seq_set Plan.receipt_took_token_get Plan.receipt_took_token_set Plan.receipt_took_amount_get Plan.receipt_took_amount_set Plan.receipt_took_size_get Plan.receipt_took_size_set Plan.receipt_took_payload_get Plan.receipt_took_payload_set Move.length_enc Move.ok_enc Move.all_get Move.all_set Move.account_get Move.account_set Move.token_get Move.token_set Move.down_get Move.down_set Move.amount_get Move.amount_set Books.length_enc Books.ok_enc Books.all_get Books.all_set Books.sums_get Books.sums_set Books.stored_get Books.stored_set Books.marks_get Books.marks_set Pair.length_enc Pair.ok_enc Pair.all_get Pair.all_set Pair.key_get Pair.key_set Pair.value_get Pair.value_set
attribute [local go_sem] size_put size_ext blk_put free_put blk_alloc free_alloc blk_drew free_drew blk_ext free_ext lookOr_some putOr_some segAt_some cellAt_some storeIn_some put_put put_alloc_new length_arr ok_arr_u8 ok_arr_u32 ok_arr_u64 ok_arr_i64 ok_arr_sl cellsV_agg cellsV_int cellsV_bool cellsV_string cellsV_pointer cellsV_slice cellsV_sl ok_int ok_bool ok_string ok_pointer ok_slice ok_sl toList_arr seg_arr set_arr nth_splice nth_splice0 seg_splice seg_splice0 splice_splice splice_splice0 length_splice_if
attribute [local go_sem ↓] execOp_box
attribute [local go_sem] box_run nth_arr_u8 put_arr_u8 blk_drewN free_drewN put_drewN blk_raw free_raw
attribute [local go_sem] x64_wrap x64_w8 x64_add x64_sub x64_or
theorem StAt.setSt {O : Own} {V : World} {m b o : Nat} {C : List Value} {S : PSt} {sn ss : Sl} (h : StAt O V m b o C S sn ss) (lv : Vector (Vector UInt8 32) 64) (st : UInt64) (tc : Vector UInt64 9) : StAt O (put V b (splice C o (gOf { S with leaves := lv, stale := st, touched := tc } sn ss).enc)) m b o C { S with leaves := lv, stale := st, touched := tc } sn ss := by
  have hk : ∀ (x : Nat), x ≠ 0 → ∀ k, O k = .a m x → (put V b (splice C o (gOf { S with leaves := lv, stale := st, touched := tc } sn ss).enc)).heap[k]? = V.heap[k]? ∧ O k = O k := fun x hx k hk => ⟨by
    rw [heap_put, if_neg (fun e : k = b => by
      rw [e, h.hlab] at hk
      exact hx (Lab.a.inj hk).2.symm)], rfl⟩
  obtain ⟨K, h4, h5, h6⟩ := h.sav
  exact ⟨by rw [blk_put, if_pos rfl, h.hblk]; rfl, h.fit, by rw [free_put]; exact h.hfree, h.hlab, RowL.keep h.now (fun k _ e => hk 1 (by omega) k e), ⟨K, h4.keep (fun k _ e => hk 2 (by omega) k e), h5, fun i k l e1 e2 => RowL.keep (h6 i k l e1 e2) (fun k _ e => hk _ (by omega) k e)⟩, h.sml, h.dep⟩
theorem StPost.drewN {O : Own} {W : World} {m b o : Nat} {C : List Value} {S' : PSt} {e : Ending} {V : World} (h : StPost O W m b o C S' e V) (n : Nat) : StPost O W m b o C S' e (V.drewN n) := by
  obtain ⟨he, O', ⟨sn, ss, h1⟩, h2⟩ := h
  exact ⟨he, O', ⟨sn, ss, h1.same (extends_drewN (ext_Ext (Ext.refl _)) n) rfl⟩, h2.drewN n⟩
theorem put_put_drew (W : World) (b : Nat) (D1 D2 : List Value) : put (put W b D1).drew b D2 = (put W b D2).drewN 1 := by
  rw [show put (put W b D1).drew b D2 = (put (put W b D1) b D2).drew from rfl, put_put]; rfl
set_option maxRecDepth 20000 in
theorem touch_any (O : Own) (W : World) (m b o : Nat) (C : List Value) (S : PSt) (h : StA O W m b o C S) (a : UInt8) (ha : a.toNat < 64) : Calls Tryz.prog 221 #[.pointer (some ⟨b, o, none⟩), .int .u8 (w8 a)] W (StPost O W m b o C (touchF S a)) := by
  obtain ⟨sn, ss, h⟩ := h
  have hd9 : S.saved.length < 9 := by have := h.dep; omega
  obtain ⟨d, hd⟩ : ∃ d, d = S.saved.length := ⟨_, rfl⟩
  have hsl : ss.len = d := by rw [h.sav.len, hd]
  have hd9' : d < 9 := by omega
  have hb := h.hblk
  have hf := h.hfree
  obtain ⟨t1, ht1⟩ : ∃ t1 : GState, t1 = gOf { S with stale := S.stale ||| bitN a.toNat } sn ss := ⟨_, rfl⟩
  have n1 : nth (splice C o (gOf S sn ss).enc) (o + 2050) = some (.int .u64 (w64 S.stale)) := by
    rw [nth_splice h.gfit (by rw [GState.length_enc]; omega), GState.stale_get]; rfl
  have s1 : splice (splice C o (gOf S sn ss).enc) (o + 2050) [.int .u64 (w64 (S.stale ||| bitN a.toNat))] = splice C o t1.enc := by
    rw [splice_splice h.gfit (by rw [GState.length_enc]; simp), GState.stale_set, ht1]; rfl
  have n2 : nth (splice C o t1.enc) (o + 2051 + d) = some (.int .u64 (w64 S.touched[d])) := by
    rw [Nat.add_assoc, nth_splice (by rw [GState.length_enc]; exact h.fit) (by rw [GState.length_enc]; omega), GState.touched_at _ _ hd9', ht1]; rfl
  have s2 : splice (splice C o t1.enc) (o + 2051 + d) [.int .u64 (w64 (S.touched[d] ||| bitN a.toNat))] = splice C o (gOf { S with stale := S.stale ||| bitN a.toNat, touched := S.touched.set d (S.touched[d] ||| bitN a.toNat) hd9' } sn ss).enc := by
    rw [Nat.add_assoc, splice_splice (by rw [GState.length_enc]; exact h.fit) (by rw [GState.length_enc]; simp; omega), GState.touched_put _ _ _ hd9', ht1]; rfl
  have n3 : nth (splice C o t1.enc) (o + 1) = some (Sl.val ss) := by
    rw [nth_splice (by rw [GState.length_enc]; exact h.fit) (by rw [GState.length_enc]; omega), GState.kv_saved_get, ht1]; rfl
  have HP : Hid (StPost O W m b o C (touchF S a) (.returned (.tuple #[])) (put W b (splice C o (gOf { S with stale := S.stale ||| bitN a.toNat, touched := S.touched.set d (S.touched[d] ||| bitN a.toNat) hd9' } sn ss).enc))) := by
    subst hd
    refine ⟨rfl, O, ⟨sn, ss, ?_⟩, Lg.put (Lg.refl _ _ _) (.inl h.hlab) _⟩
    unfold touchF
    rw [dif_pos hd9]
    exact h.setSt S.leaves _ _
  have hbit := bit_any a ha
  rw [Int.one_mul] at hbit
  have l1 : o + 2050 + 1 ≤ (splice C o (gOf S sn ss).enc).length := by rw [length_splice _ _ _ h.gfit]; have := h.fit; omega
  have l2 : o + 2051 + d + 1 ≤ (splice C o t1.enc).length := by rw [length_splice _ _ _ (by rw [GState.length_enc]; exact h.fit)]; have := h.fit; omega
  have l1' : o + 2050 < (splice C o (gOf S sn ss).enc).length := l1
  have l2' : o + 2051 + d < (splice C o t1.enc).length := l2
  have w0 : 0 ≤ w8 a := (w8_bd a).1
  obtain ⟨D0, hD0⟩ : ∃ D0, D0 = splice C o (gOf S sn ss).enc := ⟨_, rfl⟩
  obtain ⟨D1, hD1⟩ : ∃ D1, D1 = splice C o t1.enc := ⟨_, rfl⟩
  obtain ⟨D2, hD2⟩ : ∃ D2, D2 = splice C o (gOf { S with stale := S.stale ||| bitN a.toNat, touched := S.touched.set d (S.touched[d] ||| bitN a.toNat) hd9' } sn ss).enc := ⟨_, rfl⟩
  rw [← hD0] at hb n1 s1 l1 l1'
  rw [← hD1] at s1 n2 s2 n3 l2 l2'
  rw [← hD2] at s2 HP
  obtain ⟨st, hst⟩ : ∃ st, st = S.stale := ⟨_, rfl⟩
  obtain ⟨td, htd⟩ : ∃ td, td = S.touched[d] := ⟨_, rfl⟩
  rw [← hst] at n1 s1
  rw [← htd] at n2 s2
  obtain ⟨bt, hbt⟩ : ∃ bt, bt = bitN a.toNat := ⟨_, rfl⟩
  rw [← hbt] at s1 s2 hbit
  have p0 : (0 : Int) ≤ (d : Int) := by omega
  have p1 : (d : Int) < 9 := by omega
  have p2 : ((d : Int)).toNat = d := by omega
  obtain ⟨sa, sl, sc⟩ := ss
  obtain rfl : sl = d := hsl
  have hdp := fun V hb => sdepth_any V b o D1 hb ⟨sa, sl, sc⟩ n3
  dsimp only at hdp
  clear h hd hd9 ht1 hD0 hD1 hD2 hst htd hbt n3
  go_enter Tryz.func221, Tryz.ntmps221
  go_wp2_with fail
  refine wp_region_still_tail 14 Tryz.mixed (by kernel_rfl) ?_
  simp only [List.take_succ_cons, List.take_zero, List.drop_succ_cons, List.drop_zero]
  iterate 4 still_step
  still_call (hdp _ (by simp only [blk_drew, blk_put, if_true, hb, Option.map_some]))
  iterate 9 still_step
  refine wpStill_nil ?_
  go_wp2_with fail
  try (first | go_ret | go_ret2 | go_end0)
  rw [put_put_drew]
  exact HP.out.drewN 1
theorem touchF_now (S : PSt) (a : UInt8) : (touchF S a).now = S.now := by unfold touchF; split <;> rfl
set_option maxRecDepth 20000 in
theorem setNonce_any (O : Own) (W : World) (m b o : Nat) (C : List Value) (S : PSt) (h : StA O W m b o C S) (a : UInt8) (ha : a.toNat < 64) (v : UInt64) (hs : S.now.length < 1000000000) : Calls Tryz.prog 177 #[.pointer (some ⟨b, o, none⟩), .int .u8 (w8 a), .int .u64 (w64 v)] W (StPost O W m b o C { touchF S a with now := saveF S.now (keyN a) v }) := by
  have h1 := touch_any O W m b o C S h a ha
  have hk := fun W => keyNonce_any W a
  clear h
  go_enter Tryz.func177, Tryz.ntmps177
  go_wp2_with fail
  refine h1.mono ?_
  rintro e V1 ⟨rfl, O1, hS1, hL1⟩
  have hsv := save_any O1 V1 m b o C _ hS1 (keyN a) v (by rw [touchF_now]; exact hs)
  rw [touchF_now] at hsv
  have HL1 := hid_of hL1
  clear h1 hS1 hL1 hs
  dsimp only
  go_wp2_with fail
  refine (hk V1).mono ?_
  rintro e V2 ⟨rfl, rfl⟩
  dsimp only
  go_wp2_with fail
  refine hsv.mono ?_
  rintro e V3 ⟨rfl, O3, hS3, hL3⟩
  have HQ : Hid (StPost O W m b o C { touchF S a with now := saveF S.now (keyN a) v } (.returned (.tuple #[])) V3) := ⟨rfl, O3, hS3, HL1.out.trans hL3⟩
  clear hsv hS3 hL3 HL1
  dsimp only
  go_wp2_with fail
  try (first | go_ret | go_ret2 | go_end0)
  exact HQ.out
set_option maxRecDepth 20000 in
theorem setBalance_any (O : Own) (W : World) (m b o : Nat) (C : List Value) (S : PSt) (h : StA O W m b o C S) (a t : UInt8) (ha : a.toNat < 64) (v : UInt64) (hs : S.now.length < 1000000000) : Calls Tryz.prog 178 #[.pointer (some ⟨b, o, none⟩), .int .u8 (w8 a), .int .u8 (w8 t), .int .u64 (w64 v)] W (StPost O W m b o C { touchF S a with now := saveF S.now (keyB a t) v }) := by
  have h1 := touch_any O W m b o C S h a ha
  have hk := fun W => keyBalance_any W a t
  clear h
  go_enter Tryz.func178, Tryz.ntmps178
  go_wp2_with fail
  refine h1.mono ?_
  rintro e V1 ⟨rfl, O1, hS1, hL1⟩
  have hsv := save_any O1 V1 m b o C _ hS1 (keyB a t) v (by rw [touchF_now]; exact hs)
  rw [touchF_now] at hsv
  have HL1 := hid_of hL1
  clear h1 hS1 hL1 hs
  dsimp only
  go_wp2_with fail
  refine (hk V1).mono ?_
  rintro e V2 ⟨rfl, rfl⟩
  dsimp only
  go_wp2_with fail
  refine hsv.mono ?_
  rintro e V3 ⟨rfl, O3, hS3, hL3⟩
  have HQ : Hid (StPost O W m b o C { touchF S a with now := saveF S.now (keyB a t) v } (.returned (.tuple #[])) V3) := ⟨rfl, O3, hS3, HL1.out.trans hL3⟩
  clear hsv hS3 hL3 HL1
  dsimp only
  go_wp2_with fail
  try (first | go_ret | go_ret2 | go_end0)
  exact HQ.out
set_option maxRecDepth 20000 in
theorem setSupply_any (O : Own) (W : World) (m b o : Nat) (C : List Value) (S : PSt) (h : StA O W m b o C S) (t : UInt8) (v : UInt64) (hs : S.now.length < 1000000000) : Calls Tryz.prog 179 #[.pointer (some ⟨b, o, none⟩), .int .u8 (w8 t), .int .u64 (w64 v)] W (StPost O W m b o C { S with now := saveF S.now (keyS t) v }) := by
  have hk := fun W => keySupply_any W t
  have hsv := save_any O W m b o C S h (keyS t) v hs
  clear h hs 
  go_enter Tryz.func179, Tryz.ntmps179
  go_wp2_with fail
  refine (hk W).mono ?_
  rintro e V2 ⟨rfl, rfl⟩
  dsimp only
  go_wp2_with fail
  refine hsv.mono ?_
  rintro e V3 hp
  obtain rfl := hp.1
  have HQ := hid_of hp
  clear hp
  clear hsv 
  dsimp only
  go_wp2_with fail
  try (first | go_ret | go_ret2 | go_end0)
  exact HQ.out
set_option maxRecDepth 20000 in
theorem setCounter_any (O : Own) (W : World) (m b o : Nat) (C : List Value) (S : PSt) (h : StA O W m b o C S) (c : UInt64) (hc : c.toNat < 72057594037927936) (v : UInt64) (hs : S.now.length < 1000000000) : Calls Tryz.prog 183 #[.pointer (some ⟨b, o, none⟩), .int .u64 (w64 c), .int .u64 (w64 v)] W (StPost O W m b o C { S with now := saveF S.now (keyC c) v }) := by
  have hk := fun W => keyCounter_any W c hc
  have hsv := save_any O W m b o C S h (keyC c) v hs
  clear h hs hc
  go_enter Tryz.func183, Tryz.ntmps183
  go_wp2_with fail
  refine (hk W).mono ?_
  rintro e V2 ⟨rfl, rfl⟩
  dsimp only
  go_wp2_with fail
  refine hsv.mono ?_
  rintro e V3 hp
  obtain rfl := hp.1
  have HQ := hid_of hp
  clear hp
  clear hsv 
  dsimp only
  go_wp2_with fail
  try (first | go_ret | go_ret2 | go_end0)
  exact HQ.out
/-- A message marked. -/
def markF (S : PSt) (f : UInt8) (s : UInt64) : PSt := { S with now := saveF (saveF S.now (keyM f s) 1) (keyC 6) (ldF (saveF S.now (keyM f s) 1) (keyC 6) + 1) }
set_option maxRecDepth 20000 in
theorem mark_any (O : Own) (W : World) (m b o : Nat) (C : List Value) (S : PSt) (h : StA O W m b o C S) (f : UInt8) (s : UInt64) (hq : s.toNat < 281474976710656) (hs : S.now.length + 1 < 1000000000) : Calls Tryz.prog 180 #[.pointer (some ⟨b, o, none⟩), .int .u8 (w8 f), .int .u64 (w64 s)] W (StPost O W m b o C (markF S f s)) := by
  have hk := keyMark_any W f s hq
  have h1 := save_any O W m b o C S h (keyM f s) 1 (by omega)
  have hl := saveF_len S.now (keyM f s) 1
  clear h hq
  go_enter Tryz.func180, Tryz.ntmps180
  go_wp2_with fail
  refine hk.mono ?_
  rintro e V2 ⟨rfl, rfl⟩
  dsimp only
  go_wp2_with fail
  refine h1.mono ?_
  rintro e V1 ⟨rfl, O1, hS1, hL1⟩
  have hc := counter_any V1 b o _ hS1.rd 6 (by decide)
  clear h1 hk
  dsimp only at hc ⊢
  go_wp2_with fail
  refine hc.mono ?_
  rintro e V3 ⟨rfl, he⟩
  have hS3 := hS1.ext he
  have hL3 := hL1.ext he
  have h4 := setCounter_any _ V3 m b o C _ hS3 6 (by decide) (ldF (saveF S.now (keyM f s) 1) (keyC 6) + 1) (by dsimp only; omega)
  have hx := x64_inc (ldF (saveF S.now (keyM f s) 1) (keyC 6))
  have HL3 := hid_of hL3
  clear hc hS1 hL1 hS3 hL3 he hl hs
  dsimp only at h4 ⊢
  go_wp2_with fail
  refine h4.mono ?_
  rintro e V4 ⟨rfl, O4, hS4, hL4⟩
  have HQ : Hid (StPost O V2 m b o C (markF S f s) (.returned (.tuple #[])) V4) := ⟨rfl, O4, hS4, HL3.out.trans hL4⟩
  clear h4 hS4 hL4 HL3
  dsimp only
  go_wp2_with fail
  try (first | go_ret | go_ret2 | go_end0)
  exact HQ.out
end Go.Proofs.Qxb6500786aGreat
