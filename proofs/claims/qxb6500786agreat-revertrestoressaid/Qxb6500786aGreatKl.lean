import Derived.DeepKeys2
import Derived.Test.Qxb6500786aGreatKk

import Derived.StillTailTactics
import Derived.Deep.QuietTactic
import Derived.BigQuiet
import Derived.Deep.RegionHeld
import Derived.Deep.CutRange
import Derived.Laws.ResultCell
import Derived.Laws.Rows
import Derived.DeepKeys
import Derived.DataBytes
import Derived.Laws.StructEq
import Derived.Laws.AppendOwn
import Derived.Laws.MakeOwn
import Derived.Lib.AppendStr
set_option linter.unusedSimpArgs false
set_option linter.unusedVariables false
namespace Go.Proofs.Qxb6500786aGreat
open Go.RowKit Go.Blk
attribute [local go_sem ↓] execOp_load execOp_store execOp_alloc
attribute [local go_sem] Tryz.ld24 Tryz.st24 Tryz.ld36 Tryz.st36 Tryz.ld28 Tryz.st28 Tryz.ld32 Tryz.st32 Tryz.ld33 Tryz.st33 Tryz.ld34 Tryz.st34 Tryz.ld5 Tryz.st5 Tryz.ld31 Tryz.st31 Tryz.ld30 Tryz.st30 Tryz.ld41 Tryz.st41 Tryz.ld44 Tryz.st44 Tryz.ld4 Tryz.st4 Tryz.ld173 Tryz.st173 Tryz.ld174 Tryz.st174 Tryz.ld95 Tryz.st95 Tryz.ld45 Tryz.st45 Tryz.ld207 Tryz.st207 Tryz.ld3 Tryz.st3 Tryz.ld189 Tryz.st189 Tryz.ld2 Tryz.st2 Tryz.ld9 Tryz.st9 Tryz.ld12 Tryz.st12 Tryz.ld21 Tryz.st21 Tryz.ld22 Tryz.st22 Tryz.ld46 Tryz.st46 Tryz.ld92 Tryz.st92 Tryz.ld94 Tryz.st94 Tryz.ld96 Tryz.st96 Tryz.ld97 Tryz.st97 Tryz.ld105 Tryz.st105 Tryz.ld117 Tryz.st117 Tryz.ld122 Tryz.st122 Tryz.ld123 Tryz.st123 Tryz.ld133 Tryz.st133 Tryz.ld155 Tryz.st155 Tryz.ld163 Tryz.st163 Tryz.ld190 Tryz.st190 Tryz.ld197 Tryz.st197 Tryz.ld201 Tryz.st201 Tryz.ld202 Tryz.st202 Tryz.ld209 Tryz.st209 Tryz.ld216 Tryz.st216 Tryz.ld230 Tryz.st230 Tryz.ld238 Tryz.st238 Tryz.ld242 Tryz.st242 Tryz.ld251 Tryz.st251 Tryz.ld260 Tryz.st260 Tryz.ld286 Tryz.st286 Tryz.ld292 Tryz.st292 Tryz.ld298 Tryz.st298 Tryz.ld309 Tryz.st309 Tryz.ld35 Tryz.st35 Tryz.ld48 Tryz.st48 Tryz.ld47 Tryz.st47 Tryz.ld79 Tryz.st79 Tryz.ld177 Tryz.st177 Tryz.ld180 Tryz.st180 Tryz.ld231 Tryz.st231 Tryz.ld232 Tryz.st232 Tryz.ld26 Tryz.st26 Tryz.ld38 Tryz.st38 Tryz.ld40 Tryz.st40 Tryz.ld43 Tryz.st43 Tryz.ld50 Tryz.st50 Tryz.ld52 Tryz.st52 Tryz.ld54 Tryz.st54 Tryz.ld81 Tryz.st81 Tryz.ld112 Tryz.st112 Tryz.ld120 Tryz.st120 Tryz.ld176 Tryz.st176 Tryz.ld179 Tryz.st179 Tryz.ld182 Tryz.st182 Tryz.ld184 Tryz.st184 Tryz.ld234 Tryz.st234 Tryz.ld236 Tryz.st236 Tryz.ld240 Tryz.st240 Tryz.ld246 Tryz.st246 Tryz.ld249 Tryz.st249 Tryz.al35 Tryz.al48 Tryz.al47 Tryz.al79 Tryz.al177 Tryz.al180 Tryz.al231 Tryz.al232 Tryz.al26 Tryz.al38 Tryz.al40 Tryz.al43 Tryz.al50 Tryz.al52 Tryz.al54 Tryz.al81 Tryz.al112 Tryz.al120 Tryz.al176 Tryz.al179 Tryz.al182 Tryz.al184 Tryz.al234 Tryz.al236 Tryz.al240 Tryz.al246 Tryz.al249
attribute [local go_sem] Player.length_enc Player.ok_enc Player.all_get Player.all_set Player.hand_get Player.hand_set Player.aside_get Player.aside_set Message.length_enc Message.ok_enc Message.all_get Message.all_set Message.kind_get Message.kind_set Message.from__get Message.from__set Message.to__get Message.to__set Message.sender_get Message.sender_set Message.receiver_get Message.receiver_set Message.seq_get Message.seq_set Message.token_get Message.token_set Message.amount_get Message.amount_set Message.size_get Message.size_set Message.payload_get Message.payload_set Tx.length_enc Tx.ok_enc Tx.all_get Tx.all_set Tx.kind_get Tx.kind_set Tx.chain_get Tx.chain_set Tx.from__get Tx.from__set Tx.nonce_get Tx.nonce_set Tx.fee_get Tx.fee_set Tx.to__get Tx.to__set Tx.dest_get Tx.dest_set Tx.token_get Tx.token_set Tx.amount_get Tx.amount_set Tx.size_get Tx.size_set Tx.payload_get Tx.payload_set Tx.msg_get Tx.msg_set Tx.msg_kind_get Tx.msg_kind_set Tx.msg_from__get Tx.msg_from__set Tx.msg_to__get Tx.msg_to__set Tx.msg_sender_get Tx.msg_sender_set Tx.msg_receiver_get Tx.msg_receiver_set Tx.msg_seq_get Tx.msg_seq_set Tx.msg_token_get Tx.msg_token_set Tx.msg_amount_get Tx.msg_amount_set Tx.msg_size_get Tx.msg_size_set Tx.msg_payload_get Tx.msg_payload_set GOp.length_enc GOp.ok_enc GOp.all_get GOp.all_set GOp.kind_get GOp.kind_set GOp.tx_get GOp.tx_set GOp.txs_get GOp.txs_set GOp.gas_get GOp.gas_set GOp.acct_get GOp.acct_set GOp.token_get GOp.token_set GOp.chain_get GOp.chain_set GOp.seq_get GOp.seq_set GOp.tx_kind_get GOp.tx_kind_set GOp.tx_chain_get GOp.tx_chain_set GOp.tx_from__get GOp.tx_from__set GOp.tx_nonce_get GOp.tx_nonce_set GOp.tx_fee_get GOp.tx_fee_set GOp.tx_to__get GOp.tx_to__set GOp.tx_dest_get GOp.tx_dest_set GOp.tx_token_get GOp.tx_token_set GOp.tx_amount_get GOp.tx_amount_set GOp.tx_size_get GOp.tx_size_set GOp.tx_payload_get GOp.tx_payload_set GOp.tx_msg_get GOp.tx_msg_set GOp.tx_msg_kind_get GOp.tx_msg_kind_set GOp.tx_msg_from__get GOp.tx_msg_from__set GOp.tx_msg_to__get GOp.tx_msg_to__set GOp.tx_msg_sender_get GOp.tx_msg_sender_set GOp.tx_msg_receiver_get GOp.tx_msg_receiver_set GOp.tx_msg_seq_get GOp.tx_msg_seq_set GOp.tx_msg_token_get GOp.tx_msg_token_set GOp.tx_msg_amount_get GOp.tx_msg_amount_set GOp.tx_msg_size_get GOp.tx_msg_size_set GOp.tx_msg_payload_get GOp.tx_msg_payload_set Summary.length_enc Summary.ok_enc Summary.all_get Summary.all_set Summary.height_get Summary.height_set Summary.txs_get Summary.txs_set Summary.gas_get Summary.gas_set Summary.fees_get Summary.fees_set Summary.sent_get Summary.sent_set Summary.took_get Summary.took_set Summary.minted_get Summary.minted_set Summary.burned_get Summary.burned_set Summary.root_get Summary.root_set Detail.length_enc Detail.ok_enc Detail.all_get Detail.all_set Detail.code_get Detail.code_set Detail.have__get Detail.have__set Detail.need_get Detail.need_set Slot.length_enc Slot.ok_enc Slot.all_get Slot.all_set Slot.nonce_get Slot.nonce_set Slot.balances_get Slot.balances_set Tree.length_enc Tree.ok_enc Tree.all_get Tree.all_set Tree.leaves_get Tree.leaves_set Mark.length_enc Mark.ok_enc Mark.all_get Mark.all_set Mark.from__get Mark.from__set Mark.seq_get Mark.seq_set Receipt.length_enc Receipt.ok_enc Receipt.all_get Receipt.all_set Receipt.code_get Receipt.code_set Receipt.hash_get Receipt.hash_set Receipt.index_get Receipt.index_set Receipt.gas_get Receipt.gas_set Receipt.fee_get Receipt.fee_set Receipt.hasSent_get Receipt.hasSent_set Receipt.sent_get Receipt.sent_set Receipt.hasTook_get Receipt.hasTook_set Receipt.took_get Receipt.took_set Receipt.sent_kind_get Receipt.sent_kind_set Receipt.sent_from__get Receipt.sent_from__set Receipt.sent_to__get Receipt.sent_to__set Receipt.sent_sender_get Receipt.sent_sender_set Receipt.sent_receiver_get Receipt.sent_receiver_set Receipt.sent_seq_get Receipt.sent_seq_set Receipt.sent_token_get Receipt.sent_token_set Receipt.sent_amount_get Receipt.sent_amount_set Receipt.sent_size_get Receipt.sent_size_set Receipt.sent_payload_get Receipt.sent_payload_set Receipt.took_kind_get Receipt.took_kind_set Receipt.took_from__get Receipt.took_from__set Receipt.took_to__get Receipt.took_to__set Receipt.took_sender_get Receipt.took_sender_set Receipt.took_receiver_get Receipt.took_receiver_set Receipt.took_seq_get Receipt.took_seq_set Receipt.took_token_get Receipt.took_token_set Receipt.took_amount_get Receipt.took_amount_set Receipt.took_size_get Receipt.took_size_set Receipt.took_payload_get Receipt.took_payload_set Store.length_enc Store.ok_enc Store.all_get Store.all_set Store.now_get Store.now_set Store.saved_get Store.saved_set GState.length_enc GState.ok_enc GState.all_get GState.all_set GState.kv_get GState.kv_set GState.tree_get GState.tree_set GState.stale_get GState.stale_set GState.touched_get GState.touched_set GState.kv_now_get GState.kv_now_set GState.kv_saved_get GState.kv_saved_set GState.tree_leaves_get GState.tree_leaves_set History.length_enc History.ok_enc History.all_get History.all_set History.ring_get History.ring_set History.closed_get History.closed_set Ledger.length_enc Ledger.ok_enc Ledger.all_get Ledger.all_set Ledger.chain_get Ledger.chain_set Ledger.st_get Ledger.st_set Ledger.height_get Ledger.height_set Ledger.open__get Ledger.open__set Ledger.gasLimit_get Ledger.gasLimit_set Ledger.past_get Ledger.past_set Ledger.begun_get Ledger.begun_set Ledger.sent_get Ledger.sent_set Ledger.took_get Ledger.took_set Ledger.receipts_get Ledger.receipts_set Ledger.st_kv_get Ledger.st_kv_set Ledger.st_tree_get Ledger.st_tree_set Ledger.st_stale_get Ledger.st_stale_set Ledger.st_touched_get Ledger.st_touched_set Ledger.st_kv_now_get Ledger.st_kv_now_set Ledger.st_kv_saved_get Ledger.st_kv_saved_set Ledger.st_tree_leaves_get Ledger.st_tree_leaves_set Ledger.past_ring_get Ledger.past_ring_set Ledger.past_closed_get Ledger.past_closed_set Ledger.begun_kv_get Ledger.begun_kv_set Ledger.begun_tree_get Ledger.begun_tree_set Ledger.begun_stale_get Ledger.begun_stale_set Ledger.begun_touched_get Ledger.begun_touched_set Ledger.begun_kv_now_get Ledger.begun_kv_now_set Ledger.begun_kv_saved_get Ledger.begun_kv_saved_set Ledger.begun_tree_leaves_get Ledger.begun_tree_leaves_set Purse.length_enc Purse.ok_enc Purse.all_get Purse.all_set Purse.st_get Purse.st_set Purse.n_get Purse.n_set Purse.account_get Purse.account_set Purse.token_get Purse.token_set Purse.amount_get Purse.amount_set Plan.length_enc Plan.ok_enc Plan.all_get Plan.all_set Plan.purse_get Plan.purse_set Plan.nonce_get Plan.nonce_set Plan.gasUsed_get Plan.gasUsed_set Plan.fees_get Plan.fees_set Plan.hasSupply_get Plan.hasSupply_set Plan.token_get Plan.token_set Plan.supply_get Plan.supply_set Plan.flowAt_get Plan.flowAt_set Plan.flow_get Plan.flow_set Plan.receipt_get Plan.receipt_set Plan.purse_st_get Plan.purse_st_set Plan.purse_n_get Plan.purse_n_set Plan.purse_account_get Plan.purse_account_set Plan.purse_token_get Plan.purse_token_set Plan.purse_amount_get Plan.purse_amount_set Plan.receipt_code_get Plan.receipt_code_set Plan.receipt_hash_get Plan.receipt_hash_set Plan.receipt_index_get Plan.receipt_index_set Plan.receipt_gas_get Plan.receipt_gas_set Plan.receipt_fee_get Plan.receipt_fee_set Plan.receipt_hasSent_get Plan.receipt_hasSent_set Plan.receipt_sent_get Plan.receipt_sent_set Plan.receipt_hasTook_get Plan.receipt_hasTook_set Plan.receipt_took_get Plan.receipt_took_set Plan.receipt_sent_kind_get Plan.receipt_sent_kind_set Plan.receipt_sent_from__get Plan.receipt_sent_from__set Plan.receipt_sent_to__get Plan.receipt_sent_to__set Plan.receipt_sent_sender_get Plan.receipt_sent_sender_set Plan.receipt_sent_receiver_get Plan.receipt_sent_receiver_set Plan.receipt_sent_seq_get Plan.receipt_sent_seq_set Plan.receipt_sent_token_get Plan.receipt_sent_token_set Plan.receipt_sent_amount_get Plan.receipt_sent_amount_set Plan.receipt_sent_size_get Plan.receipt_sent_size_set Plan.receipt_sent_payload_get Plan.receipt_sent_payload_set Plan.receipt_took_kind_get Plan.receipt_took_kind_set Plan.receipt_took_from__get Plan.receipt_took_from__set Plan.receipt_took_to__get Plan.receipt_took_to__set Plan.receipt_took_sender_get Plan.receipt_took_sender_set Plan.receipt_took_receiver_get Plan.receipt_took_receiver_set Plan.receipt_took_seq_get Plan.receipt_took_seq_set Plan.receipt_took_token_get Plan.receipt_took_token_set Plan.receipt_took_amount_get Plan.receipt_took_amount_set Plan.receipt_took_size_get Plan.receipt_took_size_set Plan.receipt_took_payload_get Plan.receipt_took_payload_set Move.length_enc Move.ok_enc Move.all_get Move.all_set Move.account_get Move.account_set Move.token_get Move.token_set Move.down_get Move.down_set Move.amount_get Move.amount_set Books.length_enc Books.ok_enc Books.all_get Books.all_set Books.sums_get Books.sums_set Books.stored_get Books.stored_set Books.marks_get Books.marks_set Pair.length_enc Pair.ok_enc Pair.all_get Pair.all_set Pair.key_get Pair.key_set Pair.value_get Pair.value_set
attribute [local go_sem] size_put size_ext blk_put free_put blk_alloc free_alloc blk_drew free_drew blk_ext free_ext lookOr_some putOr_some segAt_some cellAt_some storeIn_some put_put put_alloc_new length_arr ok_arr_u8 ok_arr_u32 ok_arr_u64 ok_arr_i64 ok_arr_sl cellsV_agg cellsV_int cellsV_bool cellsV_string cellsV_pointer cellsV_slice cellsV_sl ok_int ok_bool ok_string ok_pointer ok_slice ok_sl toList_arr seg_arr set_arr nth_splice nth_splice0 seg_splice seg_splice0 splice_splice splice_splice0 length_splice_if
attribute [local go_sem ↓] execOp_box
attribute [local go_sem] box_run nth_arr_u8 put_arr_u8 blk_drewN free_drewN put_drewN blk_raw free_raw
attribute [local go_sem ↓] execOp_build execOp_bslice execOp_slice
attribute [local go_sem] x64_wrap x64_w8 x64_add x64_sub x64_or build249 bslice173 bslice173e bslice174
def nilT : Sl := ⟨none, 0, 0⟩
def clI0 (W : World) (bc : Nat) (a : Option Addr) (c : Nat) (now : List Pair) (F : Nat → Value) (V : World) : Prop := F 2 = .pointer (some ⟨W.heap.size, 0, none⟩) ∧ F 3 = .pointer (some ⟨bc, 0, none⟩) ∧ F 15 = .slice a 0 c ∧ F 16 = .int .i64 ((0 : Nat) : Int) ∧ F 17 = .int .i64 ((0 : Nat) : Int) ∧ ∃ sn O, blk V bc = some (Store.enc ⟨sn, nilT⟩) ∧ free V bc = true ∧ blk V W.heap.size = some Store.zero.enc ∧ free V W.heap.size = true ∧ Hid (W.Extends V ∧ (∀ k, k < W.heap.size + 2 → O k = .no) ∧ PRow O V (.a 0 1) sn now ∧ SavAt O V 0 nilT [])
set_option maxRecDepth 20000 in
set_option maxHeartbeats 2000000 in
theorem kvclone0_any (W : World) (b o : Nat) (C : List Value) (sn ss : Sl) (now : List Pair) (hb : blk W b = some C) (hn : nth C o = some (Sl.val sn)) (hs : nth C (o + 1) = some (Sl.val ss)) (hr : Rw Pair.enc 2 W sn.a sn.len now) (hz : ss.len = 0) (hm : now.length ≤ 1000000000) : Calls Tryz.prog 200 #[.pointer (some ⟨b, o, none⟩)] W fun e V => ∃ sn', e = .returned (.agg (Store.enc ⟨sn', nilT⟩).toArray) ∧ W.Extends V ∧ NewRows W V sn' nilT now [] := by
  obtain ⟨na, nn, nc⟩ := sn
  obtain ⟨a, n, c⟩ := ss
  change nth C o = some (.slice na nn nc) at hn
  change nth C (o + 1) = some (.slice a n c) at hs
  dsimp only at hr
  dsimp only at hz
  subst hz
  have hlt := blk_lt hb
  obtain ⟨W1, hW1⟩ : ∃ W1 : World, W1 = (W.alloc (.cells Store.zero.enc.toArray 176)).alloc (.cells Store.zero.enc.toArray 176) := ⟨_, rfl⟩
  have hs1 : W1.heap.size = W.heap.size + 2 := by rw [hW1, World.size_alloc, World.size_alloc]
  have hx1 : W.Extends W1 := by rw [hW1]; exact extends_alloc (extends_alloc (ext_Ext (Ext.refl _)) _) _
  have hcp := copyOf_any W1 na nn nc now (hr.grow hx1) hm
  have hbW1 : blk W1 (W.heap.size + 1) = some Store.zero.enc := by rw [hW1, blk_alloc, World.size_alloc, if_pos rfl]
  have hfW1 : free W1 (W.heap.size + 1) = true := by rw [hW1, free_alloc, World.size_alloc, if_pos rfl]
  have hbW0 : blk W1 W.heap.size = some Store.zero.enc := by rw [hW1, blk_alloc, World.size_alloc, if_neg (by omega), blk_alloc, if_pos rfl]
  have hfW0 : free W1 W.heap.size = true := by rw [hW1, free_alloc, World.size_alloc, if_neg (by omega), free_alloc, if_pos rfl]
  obtain ⟨Q, hQ⟩ : ∃ Q : Ending → World → Prop, Q = fun e V => ∃ sn', e = .returned (.agg (Store.enc ⟨sn', nilT⟩).toArray) ∧ W.Extends V ∧ NewRows W V sn' nilT now [] := ⟨_, rfl⟩
  rw [← hQ]
  have HQ := hid_of hQ
  have HW1 := hid_of hW1
  have HSZ := hid_of hs1
  have HX1 := hid_of hx1
  rw [hW1] at hcp
  have hne : ¬ b = W.heap.size := by omega
  have hne2 : ¬ b = W.heap.size + 1 := by omega
  clear hQ hr hm hx1 hs1 hW1
  go_enter Tryz.func200, Tryz.ntmps200
  go_wp2_with fail
  refine hcp.mono ?_
  rw [← HW1.out]
  rintro e V2 ⟨a2, n2, c2, rfl, hO2⟩
  have hx2 := hO2.2.1
  have hb2 : blk V2 (W.heap.size + 1) = some Store.zero.enc := (hx2.blk (blk_lt hbW1)).trans hbW1
  have hf2 : free V2 (W.heap.size + 1) = true := (free_of_heap (hx2.block _ (blk_lt hbW1))).trans hfW1
  have hb20 : blk V2 W.heap.size = some Store.zero.enc := (hx2.blk (blk_lt hbW0)).trans hbW0
  have hf20 : free V2 W.heap.size = true := (free_of_heap (hx2.block _ (blk_lt hbW0))).trans hfW0
  have hbb : blk V2 b = some C := ((HX1.out.trans hx2).blk hlt).trans hb
  have HINV : Hid (W.Extends (put V2 (W.heap.size + 1) (Store.enc ⟨⟨a2, n2, c2⟩, ⟨none, 0, 0⟩⟩)) ∧ (∀ k, k < W.heap.size + 2 → lab (fun _ => .no) W1.heap.size (.a 0 1) k = .no) ∧ PRow (lab (fun _ => .no) W1.heap.size (.a 0 1)) (put V2 (W.heap.size + 1) (Store.enc ⟨⟨a2, n2, c2⟩, ⟨none, 0, 0⟩⟩)) (.a 0 1) ⟨a2, n2, c2⟩ now ∧ SavAt (lab (fun _ => .no) W1.heap.size (.a 0 1)) (put V2 (W.heap.size + 1) (Store.enc ⟨⟨a2, n2, c2⟩, ⟨none, 0, 0⟩⟩)) 0 ⟨none, 0, 0⟩ []) := by
    have h0 : ∀ k, k < W.heap.size + 2 → lab (fun _ => .no) W1.heap.size (.a 0 1) k = .no := fun k hk => lab_lt (by rw [HSZ.out]; exact hk)
    have hpk : Lg (fun l => l = .no) (lab (fun _ => .no) W1.heap.size (.a 0 1)) V2 (lab (fun _ => .no) W1.heap.size (.a 0 1)) (put V2 (W.heap.size + 1) (Store.enc ⟨⟨a2, n2, c2⟩, ⟨none, 0, 0⟩⟩)) := Lg.put (P := fun l => l = .no) (Lg.refl _ _ _) (h0 _ (by omega)) _
    refine ⟨extends_put (HX1.out.trans hx2) (by omega) _, h0, ?_, [], RowL.nil _ _ _ _ _ _, by simp, fun i k l e1 => by simp at e1⟩
    refine RowL.lg (O := lab (fun _ => .no) W1.heap.size (.a 0 1)) (V := V2) ?_ hpk (fun e => by cases e)
    exact ⟨row_base hO2.1 (Nat.zero_le _), fun k hk => lab_ge (row_at hO2.1 k hk).1⟩
  have hp2 : put V2 (W.heap.size + 1) (Store.enc ⟨⟨a2, n2, c2⟩, ⟨none, 0, 0⟩⟩) = put V2 (W.heap.size + 1) (Store.enc { Store.zero with now := ⟨a2, n2, c2⟩ }) := rfl
  have hss : splice Store.zero.enc 0 [.slice a2 n2 c2] = Store.enc ⟨⟨a2, n2, c2⟩, ⟨none, 0, 0⟩⟩ := rfl
  clear hO2 hx2 hcp hbW1 hfW1 hbW0 hfW0 hp2 hb
  dsimp only
  go_wp2_with fail
  refine wp_loop_f 30 (clI0 W (W.heap.size + 1) a c now) (fun f _ => 0 - (intOf (f 17)).toNat) rfl ⟨rfl, rfl, rfl, rfl, rfl, ⟨a2, n2, c2⟩, _, ?_, ?_, ?_, ?_, HINV⟩ ?_
  · rw [blk_put, if_pos rfl, hb2]; rfl
  · rw [free_put]; exact hf2
  · rw [blk_put, if_neg (by omega)]; exact hb20
  · rw [free_put]; exact hf20
  clear HINV hb2 hf2 hb20 hf20 hbb hss
  obtain ⟨bc, hbc0⟩ : ∃ bc, bc = W.heap.size + 1 := ⟨_, rfl⟩
  rw [← hbc0]
  have hbl1 : W.heap.size < bc := by omega
  have hbl2 : bc < W.heap.size + 2 := by omega
  clear hbc0
  intro F V hrel
  obtain ⟨f2, f3, f15, f16, f17, sn, O, hbc, hfc, hb0, hf0, HI⟩ := hrel
  have H17 := hid_of f17
  rw [frame30, f2, f3, f15, f16, f17]
  clear f2 f3 f15 f16 f17
  · have hin' : ¬ (0 : Int) < (0 : Int) := by omega
    have hne3 : ¬ W.heap.size = bc := by omega
    have HP : Hid (Q (.returned (.agg (Store.enc ⟨sn, nilT⟩).toArray)) (put V W.heap.size (Store.enc ⟨sn, nilT⟩))) := by
      show Q _ _
      rw [HQ.out]
      obtain ⟨h1, h2, h3, h4⟩ := HI.out
      have hpk : Lg (fun l => l = .no) O V O (put V W.heap.size (Store.enc ⟨sn, nilT⟩)) := Lg.put (P := fun l => l = .no) (Lg.refl _ _ _) (h2 _ (by omega)) _
      exact ⟨sn, rfl, extends_put h1 (Nat.le_refl _) _, O, fun k hk => h2 k (by omega), RowL.lg h3 hpk (fun e => by cases e), h4.lg hpk (fun e => by cases e) (fun j e => by cases e)⟩
    clear HI
    go_wp2_with fail
    refine ret_cell (C := Store.enc ⟨sn, nilT⟩) rfl rfl (by rw [blk_put, if_pos rfl, hb0]; rfl) (by kernel_rfl) (by rw [Store.length_enc]; kernel_rfl) rfl ?_
    exact HP.out
set_option maxRecDepth 20000 in
set_option maxHeartbeats 2000000 in
theorem clone0_any (W : World) (b o : Nat) (C : List Value) (S : PSt) (sn ss : Sl) (hb : blk W b = some C) (hg : seg C o 2060 = (gOf S sn ss).enc) (hl : o + 2060 ≤ C.length) (hr : Rw Pair.enc 2 W sn.a sn.len S.now) (hz : ss.len = 0) (hz2 : S.saved = []) (hm : S.now.length ≤ 1000000000) : Calls Tryz.prog 118 #[.pointer (some ⟨b, o, none⟩)] W fun e V => ∃ sn', e = .returned (.agg (gOf S sn' nilT).enc.toArray) ∧ W.Extends V ∧ NewRows W V sn' nilT S.now [] := by
  obtain ⟨W1, hW1⟩ : ∃ W1 : World, W1 = (W.alloc (.cells GState.zero.enc.toArray 179)).alloc (.cells (gOf S sn ss).enc.toArray 179) := ⟨_, rfl⟩
  have hs1 : W1.heap.size = W.heap.size + 2 := by rw [hW1, World.size_alloc, World.size_alloc]
  have hx1 : W.Extends W1 := by rw [hW1]; exact extends_alloc (extends_alloc (ext_Ext (Ext.refl _)) _) _
  have hlt := blk_lt hb
  have hn1 : nth C o = some (Sl.val sn) := nth_in (j := 0) hg (GState.kv_now_get _) (by omega)
  have hn2 : nth C (o + 1) = some (Sl.val ss) := nth_in (j := 1) hg (GState.kv_saved_get _) (by omega)
  have hcp := kvclone0_any W1 b o C sn ss S.now ((hx1.blk hlt).trans hb) hn1 hn2 (hr.grow hx1) hz hm
  have hbW1 : blk W1 (W.heap.size + 1) = some (gOf S sn ss).enc := by rw [hW1, blk_alloc, World.size_alloc, if_pos rfl]
  have hfW1 : free W1 (W.heap.size + 1) = true := by rw [hW1, free_alloc, World.size_alloc, if_pos rfl]
  have hbW0 : blk W1 W.heap.size = some GState.zero.enc := by rw [hW1, blk_alloc, World.size_alloc, if_neg (by omega), blk_alloc, if_pos rfl]
  have hfW0 : free W1 W.heap.size = true := by rw [hW1, free_alloc, World.size_alloc, if_neg (by omega), free_alloc, if_pos rfl]
  obtain ⟨Q, hQ⟩ : ∃ Q : Ending → World → Prop, Q = fun e V => ∃ sn', e = .returned (.agg (gOf S sn' nilT).enc.toArray) ∧ W.Extends V ∧ NewRows W V sn' nilT S.now [] := ⟨_, rfl⟩
  rw [← hQ]
  have HQ := hid_of hQ
  have HW1 := hid_of hW1
  have HSZ := hid_of hs1
  have HX1 := hid_of hx1
  rw [hW1] at hcp
  have hne : ¬ b = W.heap.size := by omega
  obtain ⟨G, hG⟩ : ∃ G, G = gOf S sn ss := ⟨_, rfl⟩
  have HG := hid_of hG
  rw [← hG] at hg hcp hbW1
  clear hQ hr hz hz2 hm hx1 hs1 hW1 hn1 hn2 hG
  go_enter Tryz.func118, Tryz.ntmps118
  go_wp2_with fail
  have e9 : put ((W.alloc (.cells GState.zero.enc.toArray 179)).alloc (.cells GState.zero.enc.toArray 179)) (W.heap.size + 1) G.enc = (W.alloc (.cells GState.zero.enc.toArray 179)).alloc (.cells G.enc.toArray 179) := by
    rw [show W.heap.size + 1 = (W.alloc (.cells GState.zero.enc.toArray 179)).heap.size from (World.size_alloc ..).symm, put_alloc_new]
  rw [e9]
  clear e9
  refine hcp.mono ?_
  rw [← show W1 = (W.alloc (.cells GState.zero.enc.toArray 179)).alloc (.cells G.enc.toArray 179) from by rw [HW1.out, HG.out]]
  rintro e V2 ⟨sn', rfl, hx2, hN⟩
  have hb2 : blk V2 (W.heap.size + 1) = some G.enc := (hx2.blk (blk_lt hbW1)).trans hbW1
  have hf2 : free V2 (W.heap.size + 1) = true := (free_of_heap (hx2.block _ (blk_lt hbW1))).trans hfW1
  have hb20 : blk V2 W.heap.size = some GState.zero.enc := (hx2.blk (blk_lt hbW0)).trans hbW0
  have hf20 : free V2 W.heap.size = true := (free_of_heap (hx2.block _ (blk_lt hbW0))).trans hfW0
  have HP : Hid (Q (.returned (.agg (gOf S sn' nilT).enc.toArray)) (put (put V2 (W.heap.size + 1) (gOf S sn' nilT).enc) W.heap.size (gOf S sn' nilT).enc)) := by
    show Q _ _
    rw [HQ.out]
    refine ⟨sn', rfl, extends_put (extends_put (HX1.out.trans hx2) (by omega) _) (Nat.le_refl _) _, ?_⟩
    obtain ⟨O, h0, h1, K, h3, h4, h5⟩ := hN
    have hk : ∀ (x : Nat) k, O k = .a 0 x → (put (put V2 (W.heap.size + 1) (gOf S sn' nilT).enc) W.heap.size (gOf S sn' nilT).enc).heap[k]? = V2.heap[k]? ∧ O k = O k := fun x k hk => ⟨by
      have hge : ¬ k < W1.heap.size := fun e => by rw [h0 k e] at hk; cases hk
      rw [HSZ.out] at hge
      rw [heap_put, if_neg (by omega), heap_put, if_neg (by omega)], rfl⟩
    exact ⟨O, fun k hk => h0 k (by rw [HSZ.out]; omega), RowL.keep h1 (fun k _ e => hk _ k e), K, h3.keep (fun k _ e => hk _ k e), h4, fun i k l e1 e2 => RowL.keep (h5 i k l e1 e2) (fun k _ e => hk _ k e)⟩
  have he : ({ G with kv := ⟨sn', nilT⟩ } : GState).enc = (gOf S sn' nilT).enc := by rw [HG.out]; rfl
  have hne2 : ¬ W.heap.size + 1 = W.heap.size := by omega
  have hne3 : ¬ W.heap.size = W.heap.size + 1 := by omega
  have hk2 : splice G.enc 0 (Store.enc ⟨sn', nilT⟩) = (gOf S sn' nilT).enc := by rw [GState.kv_set]; exact he
  clear hN hx2 hcp hbW1 hfW1 hbW0 hfW0 he
  dsimp only
  go_wp2_with fail
  refine ret_cell (C := (gOf S sn' nilT).enc) rfl rfl (by rw [blk_put, if_pos rfl, blk_put, if_neg (by omega), hb20]; rfl) (by kernel_rfl) (by rw [GState.length_enc]; kernel_rfl) rfl ?_
  exact HP.out
end Go.Proofs.Qxb6500786aGreat
