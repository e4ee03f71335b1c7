import Derived.DeepKeys2
import Derived.Test.Qxb6500786aGreatLd

import Derived.StillTailTactics
import Derived.Deep.QuietTactic
import Derived.BigQuiet
import Derived.Deep.RegionHeld
import Derived.Deep.CutRange
import Derived.Laws.ResultCell
import Derived.Laws.Rows
import Derived.DeepKeys
import Derived.DataBytes
import Derived.Laws.StructEq
import Derived.Laws.AppendOwn
import Derived.Laws.MakeOwn
import Derived.Lib.AppendStr
set_option linter.unusedSimpArgs false
set_option linter.unusedVariables false
namespace Go.Proofs.Qxb6500786aGreat
open Go.RowKit Go.Blk
attribute [local go_sem ↓] execOp_load execOp_store execOp_alloc
attribute [local go_sem] Tryz.ld24 Tryz.st24 Tryz.ld36 Tryz.st36 Tryz.ld28 Tryz.st28 Tryz.ld32 Tryz.st32 Tryz.ld33 Tryz.st33 Tryz.ld34 Tryz.st34 Tryz.ld5 Tryz.st5 Tryz.ld31 Tryz.st31 Tryz.ld30 Tryz.st30 Tryz.ld41 Tryz.st41 Tryz.ld44 Tryz.st44 Tryz.ld4 Tryz.st4 Tryz.ld173 Tryz.st173 Tryz.ld174 Tryz.st174 Tryz.ld95 Tryz.st95 Tryz.ld45 Tryz.st45 Tryz.ld207 Tryz.st207 Tryz.ld3 Tryz.st3 Tryz.ld189 Tryz.st189 Tryz.ld2 Tryz.st2 Tryz.ld9 Tryz.st9 Tryz.ld12 Tryz.st12 Tryz.ld21 Tryz.st21 Tryz.ld22 Tryz.st22 Tryz.ld46 Tryz.st46 Tryz.ld92 Tryz.st92 Tryz.ld94 Tryz.st94 Tryz.ld96 Tryz.st96 Tryz.ld97 Tryz.st97 Tryz.ld105 Tryz.st105 Tryz.ld117 Tryz.st117 Tryz.ld122 Tryz.st122 Tryz.ld123 Tryz.st123 Tryz.ld133 Tryz.st133 Tryz.ld155 Tryz.st155 Tryz.ld163 Tryz.st163 Tryz.ld190 Tryz.st190 Tryz.ld197 Tryz.st197 Tryz.ld201 Tryz.st201 Tryz.ld202 Tryz.st202 Tryz.ld209 Tryz.st209 Tryz.ld216 Tryz.st216 Tryz.ld230 Tryz.st230 Tryz.ld238 Tryz.st238 Tryz.ld242 Tryz.st242 Tryz.ld251 Tryz.st251 Tryz.ld260 Tryz.st260 Tryz.ld286 Tryz.st286 Tryz.ld292 Tryz.st292 Tryz.ld298 Tryz.st298 Tryz.ld309 Tryz.st309 Tryz.ld35 Tryz.st35 Tryz.ld48 Tryz.st48 Tryz.ld47 Tryz.st47 Tryz.ld79 Tryz.st79 Tryz.ld177 Tryz.st177 Tryz.ld180 Tryz.st180 Tryz.ld231 Tryz.st231 Tryz.ld232 Tryz.st232 Tryz.ld26 Tryz.st26 Tryz.ld38 Tryz.st38 Tryz.ld40 Tryz.st40 Tryz.ld43 Tryz.st43 Tryz.ld50 Tryz.st50 Tryz.ld52 Tryz.st52 Tryz.ld54 Tryz.st54 Tryz.ld81 Tryz.st81 Tryz.ld112 Tryz.st112 Tryz.ld120 Tryz.st120 Tryz.ld176 Tryz.st176 Tryz.ld179 Tryz.st179 Tryz.ld182 Tryz.st182 Tryz.ld184 Tryz.st184 Tryz.ld234 Tryz.st234 Tryz.ld236 Tryz.st236 Tryz.ld240 Tryz.st240 Tryz.ld246 Tryz.st246 Tryz.ld249 Tryz.st249 Tryz.al35 Tryz.al48 Tryz.al47 Tryz.al79 Tryz.al177 Tryz.al180 Tryz.al231 Tryz.al232 Tryz.al26 Tryz.al38 Tryz.al40 Tryz.al43 Tryz.al50 Tryz.al52 Tryz.al54 Tryz.al81 Tryz.al112 Tryz.al120 Tryz.al176 Tryz.al179 Tryz.al182 Tryz.al184 Tryz.al234 Tryz.al236 Tryz.al240 Tryz.al246 Tryz.al249
attribute [local go_sem] Player.length_enc Player.ok_enc Player.all_get Player.all_set Player.hand_get Player.hand_set Player.aside_get Player.aside_set Message.length_enc Message.ok_enc Message.all_get Message.all_set Message.kind_get Message.kind_set Message.from__get Message.from__set Message.to__get Message.to__set Message.sender_get Message.sender_set Message.receiver_get Message.receiver_set Message.seq_get Message.seq_set Message.token_get Message.token_set Message.amount_get Message.amount_set Message.size_get Message.size_set Message.payload_get Message.payload_set Tx.length_enc Tx.ok_enc Tx.all_get Tx.all_set Tx.kind_get Tx.kind_set Tx.chain_get Tx.chain_set Tx.from__get Tx.from__set Tx.nonce_get Tx.nonce_set Tx.fee_get Tx.fee_set Tx.to__get Tx.to__set Tx.dest_get Tx.dest_set Tx.token_get Tx.token_set Tx.amount_get Tx.amount_set Tx.size_get Tx.size_set Tx.payload_get Tx.payload_set Tx.msg_get Tx.msg_set Tx.msg_kind_get Tx.msg_kind_set Tx.msg_from__get Tx.msg_from__set Tx.msg_to__get Tx.msg_to__set Tx.msg_sender_get Tx.msg_sender_set Tx.msg_receiver_get Tx.msg_receiver_set Tx.msg_seq_get Tx.msg_seq_set Tx.msg_token_get Tx.msg_token_set Tx.msg_amount_get Tx.msg_amount_set Tx.msg_size_get Tx.msg_size_set Tx.msg_payload_get Tx.msg_payload_set GOp.length_enc GOp.ok_enc GOp.all_get GOp.all_set GOp.kind_get GOp.kind_set GOp.tx_get GOp.tx_set GOp.txs_get GOp.txs_set GOp.gas_get GOp.gas_set GOp.acct_get GOp.acct_set GOp.token_get GOp.token_set GOp.chain_get GOp.chain_set GOp.seq_get GOp.seq_set GOp.tx_kind_get GOp.tx_kind_set GOp.tx_chain_get GOp.tx_chain_set GOp.tx_from__get GOp.tx_from__set GOp.tx_nonce_get GOp.tx_nonce_set GOp.tx_fee_get GOp.tx_fee_set GOp.tx_to__get GOp.tx_to__set GOp.tx_dest_get GOp.tx_dest_set GOp.tx_token_get GOp.tx_token_set GOp.tx_amount_get GOp.tx_amount_set GOp.tx_size_get GOp.tx_size_set GOp.tx_payload_get GOp.tx_payload_set GOp.tx_msg_get GOp.tx_msg_set GOp.tx_msg_kind_get GOp.tx_msg_kind_set GOp.tx_msg_from__get GOp.tx_msg_from__set GOp.tx_msg_to__get GOp.tx_msg_to__set GOp.tx_msg_sender_get GOp.tx_msg_sender_set GOp.tx_msg_receiver_get GOp.tx_msg_receiver_set GOp.tx_msg_seq_get GOp.tx_msg_seq_set GOp.tx_msg_token_get GOp.tx_msg_token_set GOp.tx_msg_amount_get GOp.tx_msg_amount_set GOp.tx_msg_size_get GOp.tx_msg_size_set GOp.tx_msg_payload_get GOp.tx_msg_payload_set Summary.length_enc Summary.ok_enc Summary.all_get Summary.all_set Summary.height_get Summary.height_set Summary.txs_get Summary.txs_set Summary.gas_get Summary.gas_set Summary.fees_get Summary.fees_set Summary.sent_get Summary.sent_set Summary.took_get Summary.took_set Summary.minted_get Summary.minted_set Summary.burned_get Summary.burned_set Summary.root_get Summary.root_set Detail.length_enc Detail.ok_enc Detail.all_get Detail.all_set Detail.code_get Detail.code_set Detail.have__get Detail.have__set Detail.need_get Detail.need_set Slot.length_enc Slot.ok_enc Slot.all_get Slot.all_set Slot.nonce_get Slot.nonce_set Slot.balances_get Slot.balances_set Tree.length_enc Tree.ok_enc Tree.all_get Tree.all_set Tree.leaves_get Tree.leaves_set Mark.length_enc Mark.ok_enc Mark.all_get Mark.all_set Mark.from__get Mark.from__set Mark.seq_get Mark.seq_set Receipt.length_enc Receipt.ok_enc Receipt.all_get Receipt.all_set Receipt.code_get Receipt.code_set Receipt.hash_get Receipt.hash_set Receipt.index_get Receipt.index_set Receipt.gas_get Receipt.gas_set Receipt.fee_get Receipt.fee_set Receipt.hasSent_get Receipt.hasSent_set Receipt.sent_get Receipt.sent_set Receipt.hasTook_get Receipt.hasTook_set Receipt.took_get Receipt.took_set Receipt.sent_kind_get Receipt.sent_kind_set Receipt.sent_from__get Receipt.sent_from__set Receipt.sent_to__get Receipt.sent_to__set Receipt.sent_sender_get Receipt.sent_sender_set Receipt.sent_receiver_get Receipt.sent_receiver_set Receipt.sent_seq_get Receipt.sent_seq_set Receipt.sent_token_get Receipt.sent_token_set Receipt.sent_amount_get Receipt.sent_amount_set Receipt.sent_size_get Receipt.sent_size_set Receipt.sent_payload_get Receipt.sent_payload_set Receipt.took_kind_get Receipt.took_kind_set Receipt.took_from__get Receipt.took_from__set Receipt.took_to__get Receipt.took_to__set Receipt.took_sender_get Receipt.took_sender_set Receipt.took_receiver_get Receipt.took_receiver_set Receipt.took_seq_get Receipt.took_seq_set Receipt.took_token_get Receipt.took_token_set Receipt.took_amount_get Receipt.took_amount_set Receipt.took_size_get Receipt.took_size_set Receipt.took_payload_get Receipt.took_payload_set Store.length_enc Store.ok_enc Store.all_get Store.all_set Store.now_get Store.now_set Store.saved_get Store.saved_set GState.length_enc GState.ok_enc GState.all_get GState.all_set GState.kv_get GState.kv_set GState.tree_get GState.tree_set GState.stale_get GState.stale_set GState.touched_get GState.touched_set GState.kv_now_get GState.kv_now_set GState.kv_saved_get GState.kv_saved_set GState.tree_leaves_get GState.tree_leaves_set History.length_enc History.ok_enc History.all_get History.all_set History.ring_get History.ring_set History.closed_get History.closed_set Ledger.length_enc Ledger.ok_enc Ledger.all_get Ledger.all_set Ledger.chain_get Ledger.chain_set Ledger.st_get Ledger.st_set Ledger.height_get Ledger.height_set Ledger.open__get Ledger.open__set Ledger.gasLimit_get Ledger.gasLimit_set Ledger.past_get Ledger.past_set Ledger.begun_get Ledger.begun_set Ledger.sent_get Ledger.sent_set Ledger.took_get Ledger.took_set Ledger.receipts_get Ledger.receipts_set Ledger.st_kv_get Ledger.st_kv_set Ledger.st_tree_get Ledger.st_tree_set Ledger.st_stale_get Ledger.st_stale_set Ledger.st_touched_get Ledger.st_touched_set Ledger.st_kv_now_get Ledger.st_kv_now_set Ledger.st_kv_saved_get Ledger.st_kv_saved_set Ledger.st_tree_leaves_get Ledger.st_tree_leaves_set Ledger.past_ring_get Ledger.past_ring_set Ledger.past_closed_get Ledger.past_closed_set Ledger.begun_kv_get Ledger.begun_kv_set Ledger.begun_tree_get Ledger.begun_tree_set Ledger.begun_stale_get Ledger.begun_stale_set Ledger.begun_touched_get Ledger.begun_touched_set Ledger.begun_kv_now_get Ledger.begun_kv_now_set Ledger.begun_kv_saved_get Ledger.begun_kv_saved_set Ledger.begun_tree_leaves_get Ledger.begun_tree_leaves_set Purse.length_enc Purse.ok_enc Purse.all_get Purse.all_set Purse.st_get Purse.st_set Purse.n_get Purse.n_set Purse.account_get Purse.account_set Purse.token_get Purse.token_set Purse.amount_get Purse.amount_set Plan.length_enc Plan.ok_enc Plan.all_get Plan.all_set Plan.purse_get Plan.purse_set Plan.nonce_get Plan.nonce_set Plan.gasUsed_get Plan.gasUsed_set Plan.fees_get Plan.fees_set Plan.hasSupply_get Plan.hasSupply_set Plan.token_get Plan.token_set Plan.supply_get Plan.supply_set Plan.flowAt_get Plan.flowAt_set Plan.flow_get Plan.flow_set Plan.receipt_get Plan.receipt_set Plan.purse_st_get Plan.purse_st_set Plan.purse_n_get Plan.purse_n_set Plan.purse_account_get Plan.purse_account_set Plan.purse_token_get Plan.purse_token_set Plan.purse_amount_get Plan.purse_amount_set Plan.receipt_code_get Plan.receipt_code_set Plan.receipt_hash_get Plan.receipt_hash_set Plan.receipt_index_get Plan.receipt_index_set Plan.receipt_gas_get Plan.receipt_gas_set Plan.receipt_fee_get Plan.receipt_fee_set Plan.receipt_hasSent_get Plan.receipt_hasSent_set Plan.receipt_sent_get Plan.receipt_sent_set Plan.receipt_hasTook_get Plan.receipt_hasTook_set Plan.receipt_took_get Plan.receipt_took_set Plan.receipt_sent_kind_get Plan.receipt_sent_kind_set Plan.receipt_sent_from__get Plan.receipt_sent_from__set Plan.receipt_sent_to__get Plan.receipt_sent_to__set Plan.receipt_sent_sender_get Plan.receipt_sent_sender_set Plan.receipt_sent_receiver_get Plan.receipt_sent_receiver_set Plan.receipt_sent_seq_get Plan.receipt_sent_seq_set Plan.receipt_sent_token_get Plan.receipt_sent_token_set Plan.receipt_sent_amount_get Plan.receipt_sent_amount_set Plan.receipt_sent_size_get Plan.receipt_sent_size_set Plan.receipt_sent_payload_get Plan.receipt_sent_payload_set Plan.receipt_took_kind_get Plan.receipt_took_kind_set Plan.receipt_took_from__get Plan.receipt_took_from__set Plan.receipt_took_to__get Plan.receipt_took_to__set Plan.receipt_took_sender_get Plan.receipt_took_sender_set Plan.receipt_took_receiver_get Plan.receipt_took_receiver_set Plan.receipt_took_seq_get Plan.receipt_took_seq_set Plan.receipt_took_token_get Plan.receipt_took_token_set Plan.receipt_took_amount_get Plan.receipt_took_amount_set Plan.receipt_took_size_get Plan.receipt_took_size_set Plan.receipt_took_payload_get Plan.receipt_took_payload_set Move.length_enc Move.ok_enc Move.all_get Move.all_set Move.account_get Move.account_set Move.token_get Move.token_set Move.down_get Move.down_set Move.amount_get Move.amount_set Books.length_enc Books.ok_enc Books.all_get Books.all_set Books.sums_get Books.sums_set Books.stored_get Books.stored_set Books.marks_get Books.marks_set Pair.length_enc Pair.ok_enc Pair.all_get Pair.all_set Pair.key_get Pair.key_set Pair.value_get Pair.value_set
attribute [local go_sem] size_put size_ext blk_put free_put blk_alloc free_alloc blk_drew free_drew blk_ext free_ext lookOr_some putOr_some segAt_some cellAt_some storeIn_some put_put put_alloc_new length_arr ok_arr_u8 ok_arr_u32 ok_arr_u64 ok_arr_i64 ok_arr_sl cellsV_agg cellsV_int cellsV_bool cellsV_string cellsV_pointer cellsV_slice cellsV_sl ok_int ok_bool ok_string ok_pointer ok_slice ok_sl toList_arr seg_arr set_arr nth_splice nth_splice0 seg_splice seg_splice0 splice_splice splice_splice0 length_splice_if
attribute [local go_sem ↓] execOp_box
attribute [local go_sem] box_run nth_arr_u8 put_arr_u8 blk_drewN free_drewN put_drewN blk_raw free_raw
def ntV (i : Nat) : Vector Dig 64 := Vector.ofFn fun j : Fin 64 => if j.val < i then empL else zD
theorem ntV_zero : Tree.zero.enc = arrS encD (ntV 0) := by
  have : ntV 0 = Vector.replicate 64 zD := by
    apply Vector.ext
    intro j hj
    unfold ntV
    rw [Vector.getElem_ofFn, Vector.getElem_replicate, if_neg (by omega)]
  rw [this]; rfl
theorem ntV_all : ntV 64 = Vector.replicate 64 empL := by
  apply Vector.ext
  intro j hj
  unfold ntV
  rw [Vector.getElem_ofFn, Vector.getElem_replicate, if_pos hj]
theorem ntV_step (i : Nat) (h : i < 64) : setL (ntV i) i empL = ntV (i + 1) := by
  rw [← setL_at _ _ _ h]
  apply Vector.ext
  intro j hj
  rw [Vector.getElem_set]
  unfold ntV
  rw [Vector.getElem_ofFn, Vector.getElem_ofFn]
  dsimp only
  by_cases hij : i = j
  · subst hij; rw [if_pos rfl, if_pos (by omega)]
  · rw [if_neg hij]
    by_cases h1 : j < i
    · rw [if_pos h1, if_pos (by omega)]
    · rw [if_neg h1, if_neg (by omega)]
/-- The tree of empty slots. -/
def newT : Tree := ⟨Vector.replicate 64 empL⟩
def ntI (W : World) (be : Nat) (F : Nat → Value) (V : World) : Prop := F 0 = .pointer (some ⟨W.heap.size, 0, none⟩) ∧ F 1 = .pointer (some ⟨W.heap.size + 1, 0, none⟩) ∧ F 2 = .pointer (some ⟨be, 0, none⟩) ∧ ∃ i : Nat, i ≤ 64 ∧ F 3 = .int .i64 (i : Nat) ∧ blk V W.heap.size = some Tree.zero.enc ∧ free V W.heap.size = true ∧ blk V (W.heap.size + 1) = some (arrS encD (ntV i)) ∧ free V (W.heap.size + 1) = true ∧ blk V be = some (arr u8v empL) ∧ Hid (W.Extends V)
set_option maxRecDepth 100000 in
theorem frame14 (f : Nat → Value) : frameN 14 f = #[f 0, f 1, f 2, f 3, f 4, f 5, f 6, f 7, f 8, f 9, f 10, f 11, f 12, f 13] := by kernel_rfl
set_option maxRecDepth 20000 in
set_option maxHeartbeats 2000000 in
theorem newTree_any (W : World) : Calls Tryz.prog 37 #[] W fun e V => e = .returned (.agg newT.enc.toArray) ∧ W.Extends V := by
  obtain ⟨W1, hW1⟩ : ∃ W1 : World, W1 = (W.alloc (.cells Tree.zero.enc.toArray 81)).alloc (.cells Tree.zero.enc.toArray 81) := ⟨_, rfl⟩
  have hx1 : W.Extends W1 := by rw [hW1]; exact extends_alloc (extends_alloc (ext_Ext (Ext.refl _)) _) _
  have hs1 : W1.heap.size = W.heap.size + 2 := by rw [hW1, World.size_alloc, World.size_alloc]
  have b0 : blk W1 W.heap.size = some Tree.zero.enc := by rw [hW1, blk_alloc, World.size_alloc, if_neg (by omega), blk_alloc, if_pos rfl]
  have q0 : free W1 W.heap.size = true := by rw [hW1, free_alloc, World.size_alloc, if_neg (by omega), free_alloc, if_pos rfl]
  have b1 : blk W1 (W.heap.size + 1) = some Tree.zero.enc := by rw [hW1, blk_alloc, World.size_alloc, if_pos rfl]
  have q1 : free W1 (W.heap.size + 1) = true := by rw [hW1, free_alloc, World.size_alloc, if_pos rfl]
  have hem := emptyLeaf_any W1
  obtain ⟨Q, hQ⟩ : ∃ Q : Ending → World → Prop, Q = fun e V => e = .returned (.agg newT.enc.toArray) ∧ W.Extends V := ⟨_, rfl⟩
  rw [← hQ]
  have HQ := hid_of hQ
  have HX1 := hid_of hx1
  rw [hW1] at hem
  have HW := hid_of hW1
  clear hQ hx1 hW1
  go_enter Tryz.func37, Tryz.ntmps37
  go_wp2_with fail
  refine hem.mono ?_
  rw [← HW.out]
  rintro e V ⟨rfl, hx⟩
  have c0 : blk V W.heap.size = some Tree.zero.enc := (hx.blk (blk_lt b0)).trans b0
  have r0 : free V W.heap.size = true := (free_of_heap (hx.block _ (blk_lt b0))).trans q0
  have c1 : blk V (W.heap.size + 1) = some Tree.zero.enc := (hx.blk (blk_lt b1)).trans b1
  have r1 : free V (W.heap.size + 1) = true := (free_of_heap (hx.block _ (blk_lt b1))).trans q1
  have hlt0 := blk_lt c0
  have hlt1 := blk_lt c1
  have HXV : Hid (W.Extends V) := HX1.out.trans hx
  clear hem hx b0 q0 b1 q1 hs1
  dsimp only
  go_wp2_with fail
  refine wp_loop_f 14 (ntI W V.heap.size) (fun f _ => 64 - (intOf (f 3)).toNat) rfl ⟨rfl, rfl, rfl, 0, by omega, rfl, ?_, ?_, ?_, ?_, ?_, extends_alloc HXV.out _⟩ ?_
  · rw [blk_alloc, if_neg (by omega)]; exact c0
  · rw [free_alloc, if_neg (by omega)]; exact r0
  · rw [blk_alloc, if_neg (by omega), ← ntV_zero]; exact c1
  · rw [free_alloc, if_neg (by omega)]; exact r1
  · rw [blk_alloc, if_pos rfl]
  obtain ⟨be, hbe⟩ : ∃ be, be = V.heap.size := ⟨_, rfl⟩
  rw [← hbe] at hlt0 hlt1 ⊢
  clear c0 r0 c1 r1 HXV hbe
  intro F V2 hrel
  obtain ⟨f0, f1, f2, i, hi, f3, c0, r0, c1, r1, ce, HX⟩ := hrel
  have H3 := hid_of f3
  rw [frame14, f0, f1, f2, f3]
  clear f0 f1 f2 f3
  have hne : ¬ W.heap.size + 1 = be := by omega
  have hne2 : ¬ be = W.heap.size + 1 := by omega
  by_cases hi64 : i < 64
  · have p0 : (0 : Int) ≤ (i : Int) := by omega
    have p1 : (i : Int) < 64 := by omega
    have p2 : ((i : Int)).toNat = i := by omega
    have s1 : splice (arrS encD (ntV i)) (i * 32) (arr u8v empL) = arrS encD (ntV (i + 1)) := by rw [← ntV_step i hi64]; exact leaves_put _ i hi64 empL
    have l1 : i * 32 + 32 ≤ (arrS encD (ntV i)).length := by rw [leaves_len]; omega
    generalize arrS encD (ntV i) = T0 at c1 s1 l1
    obtain ⟨T1, hT1⟩ : ∃ T1, T1 = arrS encD (ntV (i + 1)) := ⟨_, rfl⟩
    rw [← hT1] at s1
    have HT1 := hid_of hT1
    clear hT1
    go_wp2_with fail
    refine ⟨rfl, rfl, ⟨rfl, rfl, rfl, i + 1, by omega, ?_, ?_, ?_, ?_, ?_, ?_, ?_⟩, ?_⟩
    · show Value.int .i64 _ = _
      go_num
    · rw [blk_put, if_neg (by omega)]; exact c0
    · rw [free_put]; exact r0
    · rw [blk_put, if_pos rfl, c1, ← HT1.out]; rfl
    · rw [free_put]; exact r1
    · rw [blk_put, if_neg (by omega)]; exact ce
    · exact extends_put HX.out (by omega) _
    · show 64 - (intOf (Value.int .i64 _)).toNat < 64 - (intOf (F 3)).toNat
      rw [H3.out]
      simp [intOf]; omega
  · obtain rfl : i = 64 := by omega
    have c2 : blk V2 (W.heap.size + 1) = some newT.enc := by
      rw [c1, ntV_all]; rfl
    have HP : Hid (Q (.returned (.agg newT.enc.toArray)) (put V2 W.heap.size newT.enc)) := by
      show Q _ _
      rw [HQ.out]
      exact ⟨rfl, extends_put HX.out (Nat.le_refl _) _⟩
    have hne4 : ¬ W.heap.size + 1 = W.heap.size := by omega
    clear c1 HX hi hi64
    go_wp2_with fail
    refine ret_cell (C := newT.enc) rfl rfl (by rw [blk_put, if_pos rfl, c0]; rfl) (by kernel_rfl) (by rw [Tree.length_enc]; kernel_rfl) rfl ?_
    exact HP.out
/-- A state at genesis. -/
def newS : PSt := ⟨[], [], Vector.replicate 64 empL, 0, Vector.replicate 9 0⟩
set_option maxRecDepth 20000 in
set_option maxHeartbeats 2000000 in
theorem newState_any (W : World) : Calls Tryz.prog 182 #[] W fun e V => e = .returned (.agg (gOf newS nilS nilS).enc.toArray) ∧ W.Extends V := by
  obtain ⟨W1, hW1⟩ : ∃ W1 : World, W1 = (W.alloc (.cells GState.zero.enc.toArray 179)).alloc (.cells GState.zero.enc.toArray 179) := ⟨_, rfl⟩
  have hx1 : W.Extends W1 := by rw [hW1]; exact extends_alloc (extends_alloc (ext_Ext (Ext.refl _)) _) _
  have b0 : blk W1 W.heap.size = some GState.zero.enc := by rw [hW1, blk_alloc, World.size_alloc, if_neg (by omega), blk_alloc, if_pos rfl]
  have q0 : free W1 W.heap.size = true := by rw [hW1, free_alloc, World.size_alloc, if_neg (by omega), free_alloc, if_pos rfl]
  have b1 : blk W1 (W.heap.size + 1) = some GState.zero.enc := by rw [hW1, blk_alloc, World.size_alloc, if_pos rfl]
  have q1 : free W1 (W.heap.size + 1) = true := by rw [hW1, free_alloc, World.size_alloc, if_pos rfl]
  have hem := newTree_any W1
  have HX1 := hid_of hx1
  rw [hW1] at hem
  have HW := hid_of hW1
  have hk : ({ GState.zero with tree := newT } : GState).enc = (gOf newS nilS nilS).enc := rfl
  have hk2 : splice GState.zero.enc 2 newT.enc = (gOf newS nilS nilS).enc := by rw [GState.tree_set]; exact hk
  clear hx1 hW1 hk
  go_enter Tryz.func182, Tryz.ntmps182
  go_wp2_with fail
  refine hem.mono ?_
  rw [← HW.out]
  rintro e V ⟨rfl, hx⟩
  have c0 : blk V W.heap.size = some GState.zero.enc := (hx.blk (blk_lt b0)).trans b0
  have r0 : free V W.heap.size = true := (free_of_heap (hx.block _ (blk_lt b0))).trans q0
  have c1 : blk V (W.heap.size + 1) = some GState.zero.enc := (hx.blk (blk_lt b1)).trans b1
  have r1 : free V (W.heap.size + 1) = true := (free_of_heap (hx.block _ (blk_lt b1))).trans q1
  have HXV : Hid (W.Extends V) := HX1.out.trans hx
  have hne4 : ¬ W.heap.size + 1 = W.heap.size := by omega
  have hne5 : ¬ W.heap.size = W.heap.size + 1 := by omega
  clear hem hx b0 q0 b1 q1
  dsimp only
  go_wp2_with fail
  refine ret_cell (C := (gOf newS nilS nilS).enc) rfl rfl (by rw [blk_put, if_pos rfl, blk_put, if_neg hne5, c0]; rfl) (by kernel_rfl) (by rw [GState.length_enc]; kernel_rfl) rfl ?_
  exact ⟨rfl, extends_put (extends_put HXV.out (by omega) _) (Nat.le_refl _) _⟩
end Go.Proofs.Qxb6500786aGreat
