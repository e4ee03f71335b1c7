import Derived.Test.Qxb6500786aGreatBd

import Derived.StillTailTactics
import Derived.Deep.QuietTactic
import Derived.BigQuiet
import Derived.Deep.RegionHeld
import Derived.Deep.CutRange
import Derived.Laws.ResultCell
import Derived.Laws.Rows
import Derived.DeepKeys
import Derived.DataBytes
import Derived.Laws.StructEq
import Derived.Laws.AppendOwn
import Derived.Laws.MakeOwn
import Derived.Lib.AppendStr
set_option linter.unusedSimpArgs false
set_option linter.unusedVariables false
namespace Go.Proofs.Qxb6500786aGreat
open Go.RowKit Go.Blk
attribute [local go_sem ↓] execOp_load execOp_store execOp_alloc
attribute [local go_sem] Tryz.ld24 Tryz.st24 Tryz.ld36 Tryz.st36 Tryz.ld28 Tryz.st28 Tryz.ld32 Tryz.st32 Tryz.ld33 Tryz.st33 Tryz.ld34 Tryz.st34 Tryz.ld5 Tryz.st5 Tryz.ld31 Tryz.st31 Tryz.ld30 Tryz.st30 Tryz.ld41 Tryz.st41 Tryz.ld44 Tryz.st44 Tryz.ld4 Tryz.st4 Tryz.ld173 Tryz.st173 Tryz.ld174 Tryz.st174 Tryz.ld95 Tryz.st95 Tryz.ld45 Tryz.st45 Tryz.ld207 Tryz.st207 Tryz.ld3 Tryz.st3 Tryz.ld189 Tryz.st189 Tryz.ld2 Tryz.st2 Tryz.ld9 Tryz.st9 Tryz.ld12 Tryz.st12 Tryz.ld21 Tryz.st21 Tryz.ld22 Tryz.st22 Tryz.ld46 Tryz.st46 Tryz.ld92 Tryz.st92 Tryz.ld94 Tryz.st94 Tryz.ld96 Tryz.st96 Tryz.ld97 Tryz.st97 Tryz.ld105 Tryz.st105 Tryz.ld117 Tryz.st117 Tryz.ld122 Tryz.st122 Tryz.ld123 Tryz.st123 Tryz.ld133 Tryz.st133 Tryz.ld155 Tryz.st155 Tryz.ld163 Tryz.st163 Tryz.ld190 Tryz.st190 Tryz.ld197 Tryz.st197 Tryz.ld201 Tryz.st201 Tryz.ld202 Tryz.st202 Tryz.ld209 Tryz.st209 Tryz.ld216 Tryz.st216 Tryz.ld230 Tryz.st230 Tryz.ld238 Tryz.st238 Tryz.ld242 Tryz.st242 Tryz.ld251 Tryz.st251 Tryz.ld260 Tryz.st260 Tryz.ld286 Tryz.st286 Tryz.ld292 Tryz.st292 Tryz.ld298 Tryz.st298 Tryz.ld309 Tryz.st309 Tryz.ld35 Tryz.st35 Tryz.ld48 Tryz.st48 Tryz.ld47 Tryz.st47 Tryz.ld79 Tryz.st79 Tryz.ld177 Tryz.st177 Tryz.ld180 Tryz.st180 Tryz.ld231 Tryz.st231 Tryz.ld232 Tryz.st232 Tryz.ld26 Tryz.st26 Tryz.ld38 Tryz.st38 Tryz.ld40 Tryz.st40 Tryz.ld43 Tryz.st43 Tryz.ld50 Tryz.st50 Tryz.ld52 Tryz.st52 Tryz.ld54 Tryz.st54 Tryz.ld81 Tryz.st81 Tryz.ld112 Tryz.st112 Tryz.ld120 Tryz.st120 Tryz.ld176 Tryz.st176 Tryz.ld179 Tryz.st179 Tryz.ld182 Tryz.st182 Tryz.ld184 Tryz.st184 Tryz.ld234 Tryz.st234 Tryz.ld236 Tryz.st236 Tryz.ld240 Tryz.st240 Tryz.ld246 Tryz.st246 Tryz.ld249 Tryz.st249 Tryz.al35 Tryz.al48 Tryz.al47 Tryz.al79 Tryz.al177 Tryz.al180 Tryz.al231 Tryz.al232 Tryz.al26 Tryz.al38 Tryz.al40 Tryz.al43 Tryz.al50 Tryz.al52 Tryz.al54 Tryz.al81 Tryz.al112 Tryz.al120 Tryz.al176 Tryz.al179 Tryz.al182 Tryz.al184 Tryz.al234 Tryz.al236 Tryz.al240 Tryz.al246 Tryz.al249
attribute [local go_sem] Player.length_enc Player.ok_enc Player.all_get Player.all_set Player.hand_get Player.hand_set Player.aside_get Player.aside_set Message.length_enc Message.ok_enc Message.all_get Message.all_set Message.kind_get Message.kind_set Message.from__get Message.from__set Message.to__get Message.to__set Message.sender_get Message.sender_set Message.receiver_get Message.receiver_set Message.seq_get Message.seq_set Message.token_get Message.token_set Message.amount_get Message.amount_set Message.size_get Message.size_set Message.payload_get Message.payload_set Tx.length_enc Tx.ok_enc Tx.all_get Tx.all_set Tx.kind_get Tx.kind_set Tx.chain_get Tx.chain_set Tx.from__get Tx.from__set Tx.nonce_get Tx.nonce_set Tx.fee_get Tx.fee_set Tx.to__get Tx.to__set Tx.dest_get Tx.dest_set Tx.token_get Tx.token_set Tx.amount_get Tx.amount_set Tx.size_get Tx.size_set Tx.payload_get Tx.payload_set Tx.msg_get Tx.msg_set Tx.msg_kind_get Tx.msg_kind_set Tx.msg_from__get Tx.msg_from__set Tx.msg_to__get Tx.msg_to__set Tx.msg_sender_get Tx.msg_sender_set Tx.msg_receiver_get Tx.msg_receiver_set Tx.msg_seq_get Tx.msg_seq_set Tx.msg_token_get Tx.msg_token_set Tx.msg_amount_get Tx.msg_amount_set Tx.msg_size_get Tx.msg_size_set Tx.msg_payload_get Tx.msg_payload_set GOp.length_enc GOp.ok_enc GOp.all_get GOp.all_set GOp.kind_get GOp.kind_set GOp.tx_get GOp.tx_set GOp.txs_get GOp.txs_set GOp.gas_get GOp.gas_set GOp.acct_get GOp.acct_set GOp.token_get GOp.token_set GOp.chain_get GOp.chain_set GOp.seq_get GOp.seq_set GOp.tx_kind_get GOp.tx_kind_set GOp.tx_chain_get GOp.tx_chain_set GOp.tx_from__get GOp.tx_from__set GOp.tx_nonce_get GOp.tx_nonce_set GOp.tx_fee_get GOp.tx_fee_set GOp.tx_to__get GOp.tx_to__set GOp.tx_dest_get GOp.tx_dest_set GOp.tx_token_get GOp.tx_token_set GOp.tx_amount_get GOp.tx_amount_set GOp.tx_size_get GOp.tx_size_set GOp.tx_payload_get GOp.tx_payload_set GOp.tx_msg_get GOp.tx_msg_set GOp.tx_msg_kind_get GOp.tx_msg_kind_set GOp.tx_msg_from__get GOp.tx_msg_from__set GOp.tx_msg_to__get GOp.tx_msg_to__set GOp.tx_msg_sender_get GOp.tx_msg_sender_set GOp.tx_msg_receiver_get GOp.tx_msg_receiver_set GOp.tx_msg_seq_get GOp.tx_msg_seq_set GOp.tx_msg_token_get GOp.tx_msg_token_set GOp.tx_msg_amount_get GOp.tx_msg_amount_set GOp.tx_msg_size_get GOp.tx_msg_size_set GOp.tx_msg_payload_get GOp.tx_msg_payload_set Summary.length_enc Summary.ok_enc Summary.all_get Summary.all_set Summary.height_get Summary.height_set Summary.txs_get Summary.txs_set Summary.gas_get Summary.gas_set Summary.fees_get Summary.fees_set Summary.sent_get Summary.sent_set Summary.took_get Summary.took_set Summary.minted_get Summary.minted_set Summary.burned_get Summary.burned_set Summary.root_get Summary.root_set Detail.length_enc Detail.ok_enc Detail.all_get Detail.all_set Detail.code_get Detail.code_set Detail.have__get Detail.have__set Detail.need_get Detail.need_set Slot.length_enc Slot.ok_enc Slot.all_get Slot.all_set Slot.nonce_get Slot.nonce_set Slot.balances_get Slot.balances_set Tree.length_enc Tree.ok_enc Tree.all_get Tree.all_set Tree.leaves_get Tree.leaves_set Mark.length_enc Mark.ok_enc Mark.all_get Mark.all_set Mark.from__get Mark.from__set Mark.seq_get Mark.seq_set Receipt.length_enc Receipt.ok_enc Receipt.all_get Receipt.all_set Receipt.code_get Receipt.code_set Receipt.hash_get Receipt.hash_set Receipt.index_get Receipt.index_set Receipt.gas_get Receipt.gas_set Receipt.fee_get Receipt.fee_set Receipt.hasSent_get Receipt.hasSent_set Receipt.sent_get Receipt.sent_set Receipt.hasTook_get Receipt.hasTook_set Receipt.took_get Receipt.took_set Receipt.sent_kind_get Receipt.sent_kind_set Receipt.sent_from__get Receipt.sent_from__set Receipt.sent_to__get Receipt.sent_to__set Receipt.sent_sender_get Receipt.sent_sender_set Receipt.sent_receiver_get Receipt.sent_receiver_set Receipt.sent_seq_get Receipt.sent_seq_set Receipt.sent_token_get Receipt.sent_token_set Receipt.sent_amount_get Receipt.sent_amount_set Receipt.sent_size_get Receipt.sent_size_set Receipt.sent_payload_get Receipt.sent_payload_set Receipt.took_kind_get Receipt.took_kind_set Receipt.took_from__get Receipt.took_from__set Receipt.took_to__get Receipt.took_to__set Receipt.took_sender_get Receipt.took_sender_set Receipt.took_receiver_get Receipt.took_receiver_set Receipt.took_seq_get Receipt.took_seq_set Receipt.took_token_get Receipt.took_token_set Receipt.took_amount_get Receipt.took_amount_set Receipt.took_size_get Receipt.took_size_set Receipt.took_payload_get Receipt.took_payload_set Store.length_enc Store.ok_enc Store.all_get Store.all_set Store.now_get Store.now_set Store.saved_get Store.saved_set GState.length_enc GState.ok_enc GState.all_get GState.all_set GState.kv_get GState.kv_set GState.tree_get GState.tree_set GState.stale_get GState.stale_set GState.touched_get GState.touched_set GState.kv_now_get GState.kv_now_set GState.kv_saved_get GState.kv_saved_set GState.tree_leaves_get GState.tree_leaves_set History.length_enc History.ok_enc History.all_get History.all_set History.ring_get History.ring_set History.closed_get History.closed_set Ledger.length_enc Ledger.ok_enc Ledger.all_get Ledger.all_set Ledger.chain_get Ledger.chain_set Ledger.st_get Ledger.st_set Ledger.height_get Ledger.height_set Ledger.open__get Ledger.open__set Ledger.gasLimit_get Ledger.gasLimit_set Ledger.past_get Ledger.past_set Ledger.begun_get Ledger.begun_set Ledger.sent_get Ledger.sent_set Ledger.took_get Ledger.took_set Ledger.receipts_get Ledger.receipts_set Ledger.st_kv_get Ledger.st_kv_set Ledger.st_tree_get Ledger.st_tree_set Ledger.st_stale_get Ledger.st_stale_set Ledger.st_touched_get Ledger.st_touched_set Ledger.st_kv_now_get Ledger.st_kv_now_set Ledger.st_kv_saved_get Ledger.st_kv_saved_set Ledger.st_tree_leaves_get Ledger.st_tree_leaves_set Ledger.past_ring_get Ledger.past_ring_set Ledger.past_closed_get Ledger.past_closed_set Ledger.begun_kv_get Ledger.begun_kv_set Ledger.begun_tree_get Ledger.begun_tree_set Ledger.begun_stale_get Ledger.begun_stale_set Ledger.begun_touched_get Ledger.begun_touched_set Ledger.begun_kv_now_get Ledger.begun_kv_now_set Ledger.begun_kv_saved_get Ledger.begun_kv_saved_set Ledger.begun_tree_leaves_get Ledger.begun_tree_leaves_set Purse.length_enc Purse.ok_enc Purse.all_get Purse.all_set Purse.st_get Purse.st_set Purse.n_get Purse.n_set Purse.account_get Purse.account_set Purse.token_get Purse.token_set Purse.amount_get Purse.amount_set Plan.length_enc Plan.ok_enc Plan.all_get Plan.all_set Plan.purse_get Plan.purse_set Plan.nonce_get Plan.nonce_set Plan.gasUsed_get Plan.gasUsed_set Plan.fees_get Plan.fees_set Plan.hasSupply_get Plan.hasSupply_set Plan.token_get Plan.token_set Plan.supply_get Plan.supply_set Plan.flowAt_get Plan.flowAt_set Plan.flow_get Plan.flow_set Plan.receipt_get Plan.receipt_set Plan.purse_st_get Plan.purse_st_set Plan.purse_n_get Plan.purse_n_set Plan.purse_account_get Plan.purse_account_set Plan.purse_token_get Plan.purse_token_set Plan.purse_amount_get Plan.purse_amount_set Plan.receipt_code_get Plan.receipt_code_set Plan.receipt_hash_get Plan.receipt_hash_set Plan.receipt_index_get Plan.receipt_index_set Plan.receipt_gas_get Plan.receipt_gas_set Plan.receipt_fee_get Plan.receipt_fee_set Plan.receipt_hasSent_get Plan.receipt_hasSent_set Plan.receipt_sent_get Plan.receipt_sent_set Plan.receipt_hasTook_get Plan.receipt_hasTook_set Plan.receipt_took_get Plan.receipt_took_set Plan.receipt_sent_kind_get Plan.receipt_sent_kind_set Plan.receipt_sent_from__get Plan.receipt_sent_from__set Plan.receipt_sent_to__get Plan.receipt_sent_to__set Plan.receipt_sent_sender_get Plan.receipt_sent_sender_set Plan.receipt_sent_receiver_get Plan.receipt_sent_receiver_set Plan.receipt_sent_seq_get Plan.receipt_sent_seq_set Plan.receipt_sent_token_get Plan.receipt_sent_token_set Plan.receipt_sent_amount_get Plan.receipt_sent_amount_set Plan.receipt_sent_size_get Plan.receipt_sent_size_set Plan.receipt_sent_payload_get Plan.receipt_sent_payload_set Plan.receipt_took_kind_get Plan.receipt_took_kind_set Plan.receipt_took_from__get Plan.receipt_took_from__set Plan.receipt_took_to__get Plan.receipt_took_to__set Plan.receipt_took_sender_get Plan.receipt_took_sender_set Plan.receipt_took_receiver_get Plan.receipt_took_receiver_set Plan.receipt_took_seq_get Plan.receipt_took_seq_set Plan.receipt_took_token_get Plan.receipt_took_token_set Plan.receipt_took_amount_get Plan.receipt_took_amount_set Plan.receipt_took_size_get Plan.receipt_took_size_set Plan.receipt_took_payload_get Plan.receipt_took_payload_set Move.length_enc Move.ok_enc Move.all_get Move.all_set Move.account_get Move.account_set Move.token_get Move.token_set Move.down_get Move.down_set Move.amount_get Move.amount_set Books.length_enc Books.ok_enc Books.all_get Books.all_set Books.sums_get Books.sums_set Books.stored_get Books.stored_set Books.marks_get Books.marks_set Pair.length_enc Pair.ok_enc Pair.all_get Pair.all_set Pair.key_get Pair.key_set Pair.value_get Pair.value_set
attribute [local go_sem] size_put size_ext blk_put free_put blk_alloc free_alloc blk_drew free_drew blk_ext free_ext lookOr_some putOr_some segAt_some cellAt_some storeIn_some put_put put_alloc_new length_arr ok_arr_u8 ok_arr_u32 ok_arr_u64 ok_arr_i64 ok_arr_sl cellsV_agg cellsV_int cellsV_bool cellsV_string cellsV_pointer cellsV_slice cellsV_sl ok_int ok_bool ok_string ok_pointer ok_slice ok_sl toList_arr seg_arr set_arr nth_splice nth_splice0 seg_splice seg_splice0 splice_splice splice_splice0 length_splice_if
attribute [local go_sem ↓] execOp_box
attribute [local go_sem] box_run nth_arr_u8 put_arr_u8 blk_drewN free_drewN put_drewN blk_raw free_raw
attribute [local go_sem ↓] execOp_build execOp_bslice
attribute [local go_sem] run_build_kv run_build_iv build294 Tryz.ld293 Tryz.st293 Tryz.al293 Tryz.ld294 Tryz.st294 Tryz.al294 nth_arr_u32 put_arr_u32 w32_and w32_or w32_or8 w32_xor v32_add w32_not w32_shr2 w32_shl2 v32_shr2 v32_shl2 w32_shr3 w32_shl3 v32_shr3 v32_shl3 w32_shr6 w32_shl6 v32_shr6 v32_shl6 w32_shr7 w32_shl7 v32_shr7 v32_shl7 w32_shr8 w32_shl8 v32_shr8 v32_shl8 w32_shr10 w32_shl10 v32_shr10 v32_shl10 w32_shr11 w32_shl11 v32_shr11 v32_shl11 w32_shr13 w32_shl13 v32_shr13 v32_shl13 w32_shr14 w32_shl14 v32_shr14 v32_shl14 w32_shr15 w32_shl15 v32_shr15 v32_shl15 w32_shr16 w32_shl16 v32_shr16 v32_shl16 w32_shr17 w32_shl17 v32_shr17 v32_shl17 w32_shr18 w32_shl18 v32_shr18 v32_shl18 w32_shr19 w32_shl19 v32_shr19 v32_shl19 w32_shr21 w32_shl21 v32_shr21 v32_shl21 w32_shr22 w32_shl22 v32_shr22 v32_shl22 w32_shr24 w32_shl24 v32_shr24 v32_shl24 w32_shr25 w32_shl25 v32_shr25 v32_shl25 w32_shr26 w32_shl26 v32_shr26 v32_shl26 w32_shr30 w32_shl30 v32_shr30 v32_shl30 v8_shl24 w32_byte24 v8_shl16 w32_byte16 v8_shl8 w32_byte8 w32_byte0 v32_byte
set_option maxRecDepth 20000 in
set_option maxHeartbeats 8000000 in
theorem sum_any (w : World) (a : Option Addr) (len cap : Nat) (xs : List UInt8) (hX : Bs w a len xs) (hroom : len ≤ 999999000) :
    Calls Tryz.prog 198 #[.slice a len cap] w fun e w' => e = .returned (.agg (arr u8v (sha xs)).toArray) ∧ w.Extends w' := by
  have hpl := padM_len xs
  have hpm := padM_mod xs
  have hxl : xs.length = len := hX.1
  have hzb : zerosOf xs.length < 64 := by unfold zerosOf; omega
  obtain ⟨W1, hW1⟩ : ∃ W1 : World, W1 = ((w.alloc (.cells (arr u8v (Vector.replicate 32 (0 : UInt8))).toArray 47)).alloc (.cells (arr u32v kv).toArray 293)).alloc (.cells (arr u32v iv).toArray 294) := ⟨_, rfl⟩
  have hx1 : w.Extends W1 := by rw [hW1]; exact extends_alloc (extends_alloc (extends_alloc (ext_Ext (Ext.refl _)) _) _) _
  have hs1 : W1.heap.size = w.heap.size + 3 := by rw [hW1, World.size_alloc, World.size_alloc, World.size_alloc]
  have hr1 : blk W1 w.heap.size = some (arr u8v (Vector.replicate 32 0)) := by
    rw [hW1, blk_alloc, World.size_alloc, World.size_alloc, if_neg (by omega), blk_alloc, World.size_alloc, if_neg (by omega), blk_alloc, if_pos rfl]
  have hrf1 : free W1 w.heap.size = true := by
    rw [hW1, free_alloc, World.size_alloc, World.size_alloc, if_neg (by omega), free_alloc, World.size_alloc, if_neg (by omega), free_alloc, if_pos rfl]
  have hk1 : blk W1 (w.heap.size + 1) = some (arr u32v kv) := by
    rw [hW1, blk_alloc, World.size_alloc, World.size_alloc, if_neg (by omega), blk_alloc, World.size_alloc, if_pos rfl]
  have hh1 : blk W1 (w.heap.size + 2) = some (arr u32v iv) := by
    rw [hW1, blk_alloc, World.size_alloc, World.size_alloc, if_pos rfl]
  have hhf1 : free W1 (w.heap.size + 2) = true := by
    rw [hW1, free_alloc, World.size_alloc, World.size_alloc, if_pos rfl]
  have hpad := pad_any W1 a len cap xs (hX.grow hx1) (by omega)
  have HW1 := hid_of hW1
  have HX1 := hid_of hx1
  have HXL := hid_of hxl
  have e1 : ∀ C, put ((w.alloc (.cells (arr u8v (Vector.replicate 32 (0 : UInt8))).toArray 47)).alloc (.cells C 293)) (w.heap.size + 1) (arr u32v kv) = (w.alloc (.cells (arr u8v (Vector.replicate 32 (0 : UInt8))).toArray 47)).alloc (.cells (arr u32v kv).toArray 293) := fun C => by
    rw [show w.heap.size + 1 = (w.alloc (.cells (arr u8v (Vector.replicate 32 (0 : UInt8))).toArray 47)).heap.size from (World.size_alloc ..).symm, put_alloc_new]
  have e2 : ∀ C, put (((w.alloc (.cells (arr u8v (Vector.replicate 32 (0 : UInt8))).toArray 47)).alloc (.cells (arr u32v kv).toArray 293)).alloc (.cells C 294)) (w.heap.size + 2) (arr u32v iv) = W1 := fun C => by
    rw [show w.heap.size + 2 = ((w.alloc (.cells (arr u8v (Vector.replicate 32 (0 : UInt8))).toArray 47)).alloc (.cells (arr u32v kv).toArray 293)).heap.size from by rw [World.size_alloc, World.size_alloc], put_alloc_new, hW1]
  clear hX hxl hx1 hW1
  go_enter Tryz.func198, Tryz.ntmps198
  go_wp2_with fail
  refine hpad.mono ?_
  clear e1 e2
  rintro e w2 ⟨pa, pn, pc, rfl, hO, -⟩
  have hext := hO.2.1
  have hpn : pn = (padM xs).length := hO.2.2
  obtain ⟨h1, h2 | ⟨bp, c, cur, hsl, hbp, hcur, hLc, hcm, hcs, htk⟩⟩ := hO.1
  · exfalso; have := h2.2; omega
  injection hsl with hs1' hs2' hs3'
  subst hs1'
  subst hs3'
  rw [hs1] at hbp
  obtain ⟨P, hP⟩ : ∃ P, P = padM xs := ⟨_, rfl⟩
  obtain ⟨L, hL⟩ : ∃ L, L = P.length := ⟨_, rfl⟩
  rw [← hP] at hpl hpm hpn hLc htk h1
  rw [← hL] at hpl hpm hpn hLc htk h1
  obtain rfl : pn = L := hpn
  have hLs : pn ≤ 999999100 := by have := HXL.out; omega
  have hL0 : 64 ≤ pn := by omega
  obtain ⟨PC, hPC⟩ : ∃ PC, PC = cur.toList := ⟨_, rfl⟩
  have hbP := blk_mk hcur
  rw [← hPC] at hbP
  have HC : Hid (∀ j, j < pn → PC[j]? = some (.int .u8 (w8 (byteAt P j)))) := by
    intro j hj
    rw [Nat.mul_one, ← hPC, flat_encB] at htk
    have h5 := bv_at P j
    rw [← htk, List.getElem?_take, if_pos hj] at h5
    rw [h5]
    unfold byteAt
    rw [List.getD_eq_getElem?_getD, List.getElem?_eq_getElem (by omega)]
    rfl
  have hPCl : pn ≤ PC.length := by
    rw [hPC, Array.length_toList, hcs]; omega
  have HE2 : Hid (w.Extends w2) := HX1.out.trans hext
  have hbl : bp < w2.heap.size := blk_lt hbP
  have hr := (hext.blk (blk_lt hr1)).trans hr1
  have hrf := (free_of_heap (hext.block _ (blk_lt hr1))).trans hrf1
  have hkk := (hext.blk (blk_lt hk1)).trans hk1
  have hh := (hext.blk (blk_lt hh1)).trans hh1
  have hhf := (free_of_heap (hext.block _ (blk_lt hh1))).trans hhf1
  have HP : Hid (P = padM xs) := hP
  have HL : Hid (pn = P.length) := hL
  have HM : Hid (pn % 64 = 0) := hpm
  clear hP hL hPC htk hcs hcm hcur h1 hext hpad HXL hr1 hrf1 hk1 hh1 hhf1 hpl hpm hLc hO HX1 HW1 hs1 hs2' hzb
  dsimp only
  go_wp2_with fail
  refine wp_loop_f 281 (msI2 w bp pc pn PC P) (fun f _ => pn / 64 - (intOf (f 6)).toNat) rfl ?_ ?_
  · exact ⟨0, by omega, rfl, rfl, rfl, rfl, rfl, hr, hrf, hkk, by rw [cmpF_zero]; exact hh, hhf, hbP, HE2⟩
  clear hr hrf hkk hh hhf hbP HE2 hbl
  intro F W hrel
  obtain ⟨k, hk, h6, h2, h3, h4, h5, hr, hrf, hkk, hh, hhf, hbP, HE⟩ := hrel
  have H6 : Hid (F 6 = .int .i64 (k : Nat)) := h6
  rw [frame281, h2, h3, h4, h5, h6]
  clear h2 h3 h4 h5 h6
  have r1 : Int.tdiv (pn : Int) 64 = ((pn / 64 : Nat) : Int) := by rw [Int.tdiv_eq_ediv_of_nonneg (by omega)]; omega
  obtain ⟨K, hK⟩ : ∃ K, K = pn / 64 := ⟨_, rfl⟩
  rw [← hK] at r1 hk ⊢
  have hKs : 64 * K ≤ pn := by omega
  have HKK : Hid (K = pn / 64) := hK
  clear hK
  obtain ⟨H, hH⟩ : ∃ H, H = cmpF P k := ⟨_, rfl⟩
  rw [← hH] at hh
  have HH : Hid (H = cmpF P k) := hH
  clear hH
  have hbwb : bp < W.heap.size := blk_lt hbP
  by_cases hkK : k < K
  · go_wp2_with fail
    refine wp_loop_f 281 (msI3 w bp pc pn PC P k W.heap.size H) (fun f _ => 16 - (intOf (f 8)).toNat) rfl ?_ ?_
    · refine ⟨0, by omega, rfl, rfl, rfl, ?_, ?_, rfl, rfl, rfl, rfl, ?_, ?_, ?_, ?_, ?_, ?_, extends_alloc HE.out _⟩
      · rw [blk_alloc, if_pos rfl, schW_zero]
      · rw [free_alloc, if_pos rfl]
      · rw [blk_alloc, if_neg (by omega)]; exact hr
      · rw [free_alloc, if_neg (by omega)]; exact hrf
      · rw [blk_alloc, if_neg (by omega)]; exact hkk
      · rw [blk_alloc, if_neg (by omega)]; exact hh
      · rw [free_alloc, if_neg (by omega)]; exact hhf
      · rw [blk_alloc, if_neg (by omega)]; exact hbP
    obtain ⟨bw, hbw⟩ : ∃ bw, bw = W.heap.size := ⟨_, rfl⟩
    rw [← hbw] at hbwb ⊢
    clear hr hrf hkk hh hhf hbP HE hbw
    intro F3 W3 hrel
    obtain ⟨t, ht, h8, h6, h7, hw, hwf, h2, h3, h4, h5, hr, hrf, hkk, hh, hhf, hbP, HE⟩ := hrel
    have H8 : Hid (F3 8 = .int .i64 (t : Nat)) := h8
    rw [frame281, h2, h3, h4, h5, h6, h7, h8]
    clear h2 h3 h4 h5 h6 h7 h8
    by_cases ht16 : t < 16
    · obtain ⟨s, hs⟩ : ∃ s, s = 64 * k + 4 * t := ⟨_, rfl⟩
      obtain ⟨k64, hk64⟩ : ∃ k64, k64 = 64 * k := ⟨_, rfl⟩
      obtain ⟨t4, ht4⟩ : ∃ t4, t4 = 4 * t := ⟨_, rfl⟩
      obtain ⟨s1, hs1⟩ : ∃ s1, s1 = s + 1 := ⟨_, rfl⟩
      obtain ⟨s2, hs2⟩ : ∃ s2, s2 = s + 2 := ⟨_, rfl⟩
      obtain ⟨s3, hs3⟩ : ∃ s3, s3 = s + 3 := ⟨_, rfl⟩
      have e1 : IntKind.i64.wrap (64 * (k : Int)) = (k64 : Int) := by rw [wraps_i64 _ (by omega) (by omega)]; omega
      have e2 : IntKind.i64.wrap (4 * (t : Int)) = (t4 : Int) := by rw [wraps_i64 _ (by omega) (by omega)]; omega
      have e3 : IntKind.i64.wrap ((k64 : Int) + (t4 : Int)) = (s : Int) := by rw [wraps_i64 _ (by omega) (by omega)]; omega
      have g1 : IntKind.i64.wrap ((s : Int) + 1) = (s1 : Int) := by rw [wraps_i64 _ (by omega) (by omega)]; omega
      have g2 : IntKind.i64.wrap ((s : Int) + 2) = (s2 : Int) := by rw [wraps_i64 _ (by omega) (by omega)]; omega
      have g3 : IntKind.i64.wrap ((s : Int) + 3) = (s3 : Int) := by rw [wraps_i64 _ (by omega) (by omega)]; omega
      have aa0 : (0 : Int) ≤ (s : Int) := by omega
      have aa1 : (s : Int) < (pn : Int) := by omega
      have aa2 : ((s : Int)).toNat = s := by omega
      have aa3 : nth PC s = some (.int .u8 (w8 (byteAt P s))) := HC.out s (by omega)
      have aa4 : s + 1 ≤ PC.length := by omega
      have ab0 : (0 : Int) ≤ (s1 : Int) := by omega
      have ab1 : (s1 : Int) < (pn : Int) := by omega
      have ab2 : ((s1 : Int)).toNat = s1 := by omega
      have ab3 : nth PC s1 = some (.int .u8 (w8 (byteAt P s1))) := HC.out s1 (by omega)
      have ab4 : s1 + 1 ≤ PC.length := by omega
      have ac0 : (0 : Int) ≤ (s2 : Int) := by omega
      have ac1 : (s2 : Int) < (pn : Int) := by omega
      have ac2 : ((s2 : Int)).toNat = s2 := by omega
      have ac3 : nth PC s2 = some (.int .u8 (w8 (byteAt P s2))) := HC.out s2 (by omega)
      have ac4 : s2 + 1 ≤ PC.length := by omega
      have ad0 : (0 : Int) ≤ (s3 : Int) := by omega
      have ad1 : (s3 : Int) < (pn : Int) := by omega
      have ad2 : ((s3 : Int)).toNat = s3 := by omega
      have ad3 : nth PC s3 = some (.int .u8 (w8 (byteAt P s3))) := HC.out s3 (by omega)
      have ad4 : s3 + 1 ≤ PC.length := by omega
      have q0 : (0 : Int) ≤ (t : Int) := by omega
      have q1 : (t : Int) < 64 := by omega
      have q2 : ((t : Int)).toNat = t := by omega
      have q3 : t < 64 := by omega
      obtain ⟨V, hV⟩ : ∃ V, schW P k t = V := ⟨_, rfl⟩
      rw [hV] at hw
      have HPUT := hid_of (sch_low P k t s s1 s2 s3 V hV q3 ht16 hs hs1 hs2 hs3)
      generalize byteAt P s = x0 at aa3 HPUT
      generalize byteAt P s1 = x1 at ab3 HPUT
      generalize byteAt P s2 = x2 at ac3 HPUT
      generalize byteAt P s3 = x3 at ad3 HPUT
      have nb1 : ¬ bp = bw := by omega
      clear hs hk64 ht4 hs1 hs2 hs3 hV
      go_wp2_with fail
      refine wp_region_still_tail 31 Tryz.mixed (by kernel_rfl) ?_
      simp only [List.take_succ_cons, List.take_zero, List.drop_succ_cons, List.drop_zero]
      iterate 31 still_step
      refine wpStill_nil ?_
      go_wp2_with fail
      refine ⟨rfl, rfl, ?_, ?_⟩
      · refine ⟨t + 1, by omega, ?_, rfl, rfl, ?_, ?_, rfl, rfl, rfl, rfl, ?_, ?_, ?_, ?_, ?_, ?_, ?_⟩
        · show Value.int .i64 _ = _
          go_num
        · rw [← HPUT.out]
          simp only [blk_drew, blk_drewN, blk_put, if_true, hw, Option.map_some]
          rw [word_or, put_arr_u32 _ _ q3]
        · simp only [free_drew, free_drewN, free_put, free_raw]; exact hwf
        · simp only [blk_drew, blk_drewN, blk_put, blk_raw]; rw [if_neg (by omega)]; exact hr
        · simp only [free_drew, free_drewN, free_put, free_raw]; exact hrf
        · simp only [blk_drew, blk_drewN, blk_put, blk_raw]; rw [if_neg (by omega)]; exact hkk
        · simp only [blk_drew, blk_drewN, blk_put, blk_raw]; rw [if_neg (by omega)]; exact hh
        · simp only [free_drew, free_drewN, free_put, free_raw]; exact hhf
        · simp only [blk_drew, blk_drewN, blk_put, blk_raw]; rw [if_neg (by omega)]; exact hbP
        · repeat (first | exact HE.out | refine extends_drewN ?_ _ | refine extends_drew ?_ | refine extends_put ?_ (by omega) _ | exact ⟨HE.out.os, HE.out.tape, HE.out.output, HE.out.size, HE.out.cell, HE.out.frozen, HE.out.block⟩)
      · show 16 - (intOf (Value.int .i64 _)).toNat < 16 - (intOf (F3 8)).toNat
        rw [H8.out]
        simp [intOf]; omega
    obtain rfl : t = 16 := by omega
    clear H8 ht ht16
    go_wp2_with fail
    refine wp_loop_f 281 (msI4 w bp pc pn PC P k bw H) (fun f _ => 64 - (intOf (f 10)).toNat) rfl ?_ ?_
    · exact ⟨16, by omega, by omega, rfl, rfl, rfl, hw, hwf, rfl, rfl, rfl, rfl, hr, hrf, hkk, hh, hhf, hbP, HE⟩
    clear hr hrf hkk hh hhf hbP HE hw hwf
    intro F4 W4 hrel
    obtain ⟨t, ht6, ht, h10, h6, h7, hw, hwf, h2, h3, h4, h5, hr, hrf, hkk, hh, hhf, hbP, HE⟩ := hrel
    have H10 : Hid (F4 10 = .int .i64 (t : Nat)) := h10
    rw [frame281, h2, h3, h4, h5, h6, h7, h10]
    clear h2 h3 h4 h5 h6 h7 h10
    by_cases ht64 : t < 64
    · obtain ⟨V, hV⟩ : ∃ V, schW P k t = V := ⟨_, rfl⟩
      rw [hV] at hw
      obtain ⟨u2, hu2⟩ : ∃ u, u + 2 = t := ⟨t - 2, by omega⟩
      obtain ⟨u7, hu7⟩ : ∃ u, u + 7 = t := ⟨t - 7, by omega⟩
      obtain ⟨u15, hu15⟩ : ∃ u, u + 15 = t := ⟨t - 15, by omega⟩
      obtain ⟨u16, hu16⟩ : ∃ u, u + 16 = t := ⟨t - 16, by omega⟩
      have e2 : IntKind.i64.wrap ((t : Int) - 2) = (u2 : Int) := by rw [wraps_i64 _ (by omega) (by omega)]; omega
      have e7 : IntKind.i64.wrap ((t : Int) - 7) = (u7 : Int) := by rw [wraps_i64 _ (by omega) (by omega)]; omega
      have e15 : IntKind.i64.wrap ((t : Int) - 15) = (u15 : Int) := by rw [wraps_i64 _ (by omega) (by omega)]; omega
      have e16 : IntKind.i64.wrap ((t : Int) - 16) = (u16 : Int) := by rw [wraps_i64 _ (by omega) (by omega)]; omega
      have a0 : (0 : Int) ≤ (t : Int) := by omega
      have a1 : (t : Int) < 64 := by omega
      have a2 : ((t : Int)).toNat = t := by omega
      have b0 : (0 : Int) ≤ (u2 : Int) := by omega
      have b1 : (u2 : Int) < 64 := by omega
      have b2 : ((u2 : Int)).toNat = u2 := by omega
      have b3 : u2 < 64 := by omega
      have c0 : (0 : Int) ≤ (u7 : Int) := by omega
      have c1 : (u7 : Int) < 64 := by omega
      have c2 : ((u7 : Int)).toNat = u7 := by omega
      have c3 : u7 < 64 := by omega
      have d0 : (0 : Int) ≤ (u15 : Int) := by omega
      have d1 : (u15 : Int) < 64 := by omega
      have d2 : ((u15 : Int)).toNat = u15 := by omega
      have d3 : u15 < 64 := by omega
      have f0 : (0 : Int) ≤ (u16 : Int) := by omega
      have f1 : (u16 : Int) < 64 := by omega
      have f2 : ((u16 : Int)).toNat = u16 := by omega
      have f3 : u16 < 64 := by omega
      have HPUT := hid_of (sch_high P k t u2 u7 u15 u16 V hV ht64 ht6 hu2 hu7 hu15 hu16 b3 c3 d3 f3)
      have nb1 : ¬ bp = bw := by omega
      clear hV hu2 hu7 hu15 hu16
      go_upto_region 16 with fail
      repeat go_step
      refine wp_region_still_tail 17 Tryz.mixed (by kernel_rfl) ?_
      simp only [List.take_succ_cons, List.take_zero, List.drop_succ_cons, List.drop_zero]
      iterate 4 still_step
      still_call (rotr7_any _ _)
      iterate 4 still_step
      still_call (rotr18_any _ _)
      iterate 7 still_step
      refine wpStill_nil ?_
      go_upto_region 17 with fail
      repeat go_step
      refine wp_region_still_tail 17 Tryz.mixed (by kernel_rfl) ?_
      simp only [List.take_succ_cons, List.take_zero, List.drop_succ_cons, List.drop_zero]
      iterate 4 still_step
      still_call (rotr17_any _ _)
      iterate 4 still_step
      still_call (rotr19_any _ _)
      iterate 7 still_step
      refine wpStill_nil ?_
      go_upto_region 18 with fail
      repeat go_step
      refine wp_region_still_tail 15 Tryz.mixed (by kernel_rfl) ?_
      simp only [List.take_succ_cons, List.take_zero, List.drop_succ_cons, List.drop_zero]
      iterate 15 still_step
      refine wpStill_nil ?_
      go_wp2_with fail
      refine ⟨rfl, rfl, ?_, ?_⟩
      · refine ⟨t + 1, by omega, by omega, ?_, rfl, rfl, ?_, ?_, rfl, rfl, rfl, rfl, ?_, ?_, ?_, ?_, ?_, ?_, ?_⟩
        · show Value.int .i64 _ = _
          go_num
        · rw [← HPUT.out]
          simp only [blk_drew, blk_drewN, blk_put, blk_raw, if_true, hw, Option.map_some]
          rfl
        · simp only [free_drew, free_drewN, free_put, free_raw]; exact hwf
        · simp only [blk_drew, blk_drewN, blk_put, blk_raw]; rw [if_neg (by omega)]; exact hr
        · simp only [free_drew, free_drewN, free_put, free_raw]; exact hrf
        · simp only [blk_drew, blk_drewN, blk_put, blk_raw]; rw [if_neg (by omega)]; exact hkk
        · simp only [blk_drew, blk_drewN, blk_put, blk_raw]; rw [if_neg (by omega)]; exact hh
        · simp only [free_drew, free_drewN, free_put, free_raw]; exact hhf
        · simp only [blk_drew, blk_drewN, blk_put, blk_raw]; rw [if_neg (by omega)]; exact hbP
        · repeat (first | exact HE.out | refine extends_drewN ?_ _ | refine extends_drew ?_ | refine extends_put ?_ (by omega) _ | exact ⟨HE.out.os, HE.out.tape, HE.out.output, HE.out.size, HE.out.cell, HE.out.frozen, HE.out.block⟩)
      · show 64 - (intOf (Value.int .i64 _)).toNat < 64 - (intOf (F4 10)).toNat
        rw [H10.out]
        simp [intOf]; omega
    obtain rfl : t = 64 := by omega
    clear H10 ht ht64 ht6
    obtain ⟨V, hV⟩ : ∃ V, V = schW P k 64 := ⟨_, rfl⟩
    rw [← hV] at hw
    have HVV : Hid (V = schW P k 64) := hV
    clear hV
    go_upto_region 19 with fail
    repeat go_step
    go_quiet (fail)
    go_wp2_with fail
    refine wp_loop_f 281 (msI5 w bp pc pn PC V k bw H) (fun f _ => 64 - (intOf (f 21)).toNat) rfl ?_ ?_
    · exact ⟨0, by omega, rfl, rfl, rfl, hw, ⟨H, rndsF_zero V H, rfl, rfl, rfl, rfl, rfl, rfl, rfl, rfl⟩, rfl, rfl, rfl, rfl, hr, hrf, hkk, hh, hhf, hbP, extends_drewN HE.out _⟩
    clear hr hrf hkk hh hhf hbP HE hw hwf
    intro F5 W5 hrel
    obtain ⟨t, ht, h21, h6, h7, hw, ⟨s, hs, h13, h14, h15, h16, h17, h18, h19, h20⟩, h2, h3, h4, h5, hr, hrf, hkk, hh, hhf, hbP, HE⟩ := hrel
    have H21 : Hid (F5 21 = .int .i64 (t : Nat)) := h21
    have HS : Hid (rndsF V H t = s) := hs
    rw [frame281, h2, h3, h4, h5, h6, h7, h13, h14, h15, h16, h17, h18, h19, h20, h21]
    clear h2 h3 h4 h5 h6 h7 h13 h14 h15 h16 h17 h18 h19 h20 h21 hs
    by_cases ht64 : t < 64
    · have a0 : (0 : Int) ≤ (t : Int) := by omega
      have a1 : (t : Int) < 64 := by omega
      have a2 : ((t : Int)).toNat = t := by omega
      go_upto_region 23 with fail
      repeat go_step
      refine wp_region_still_tail 27 Tryz.mixed (by kernel_rfl) ?_
      simp only [List.take_succ_cons, List.take_zero, List.drop_succ_cons, List.drop_zero]
      iterate 2 still_step
      still_call (rotr6_any _ _)
      iterate 1 still_step
      still_call (rotr11_any _ _)
      iterate 2 still_step
      still_call (rotr25_any _ _)
      iterate 19 still_step
      refine wpStill_nil ?_
      go_wp2_with fail
      refine (rotr2_any _ _).mono ?_
      rintro e w6 ⟨rfl, rfl⟩
      dsimp only
      go_wp2_with fail
      refine (rotr13_any _ _).mono ?_
      rintro e w6 ⟨rfl, rfl⟩
      dsimp only
      go_wp2_with fail
      refine (rotr22_any _ _).mono ?_
      rintro e w6 ⟨rfl, rfl⟩
      dsimp only
      go_wp2_with fail
      refine ⟨rfl, rfl, ?_, ?_⟩
      · refine ⟨t + 1, by omega, ?_, rfl, rfl, hw, ⟨rndF (wAt kv t) (wAt V t) s, ?_, ?_, rfl, rfl, rfl, ?_, rfl, rfl, rfl⟩, rfl, rfl, rfl, rfl, hr, hrf, hkk, hh, hhf, hbP, ?_⟩
        · show Value.int .i64 _ = _
          go_num
        · rw [rndsF_succ, HS.out]
        · rw [← wAt_of V t ht64, ← wAt_of kv t ht64]; rfl
        · rw [← wAt_of V t ht64, ← wAt_of kv t ht64]; rfl
        · repeat (first | exact HE.out | refine extends_drewN ?_ _ | refine extends_drew ?_ | exact ⟨HE.out.os, HE.out.tape, HE.out.output, HE.out.size, HE.out.cell, HE.out.frozen, HE.out.block⟩)
      · show 64 - (intOf (Value.int .i64 _)).toNat < 64 - (intOf (F5 21)).toNat
        rw [H21.out]
        simp [intOf]; omega
    obtain rfl : t = 64 := by omega
    clear H21 ht ht64
    have HV1 : Hid (addV H s = cmpF P (k + 1)) := by
      show addV H s = cmpF P (k + 1)
      rw [cmpF_succ, ← HH.out, ← HVV.out, HS.out]
    go_wp2_with fail
    refine ⟨rfl, rfl, ?_, ?_⟩
    · refine ⟨k + 1, by omega, ?_, rfl, rfl, rfl, rfl, ?_, ?_, ?_, ?_, ?_, ?_, ?_⟩
      · show Value.int .i64 _ = _
        go_num
      · simp only [blk_put]; rw [if_neg (by omega)]; exact hr
      · simp only [free_put]; exact hrf
      · simp only [blk_put]; rw [if_neg (by omega)]; exact hkk
      · simp only [blk_put, if_true, hh, Option.map_some]
        rw [← HV1.out]
        rfl
      · simp only [free_put]; exact hhf
      · simp only [blk_put]; rw [if_neg (by omega)]; exact hbP
      · repeat (first | exact HE.out | refine extends_put ?_ (by omega) _)
    · show K - (intOf (Value.int .i64 _)).toNat < K - (intOf (F 6)).toNat
      rw [H6.out]
      simp [intOf]; omega
  · obtain rfl : k = K := by omega
    have HS2 : Hid (sha xs = digF H 8) := by
      show _ = _
      rw [sha, ← HP.out, ← HL.out, ← HKK.out, HH.out]
    go_wp2_with fail
    refine wp_loop_f 281 (msI6 w bp pc pn PC H W.heap.size) (fun f _ => 8 - (intOf (f 25)).toNat) rfl ?_ ?_
    · refine ⟨0, by omega, rfl, rfl, ?_, ?_, rfl, rfl, rfl, rfl, ?_, ?_, ?_, ?_, ?_, ?_, extends_alloc HE.out _⟩
      · rw [blk_alloc, if_pos rfl, digF_zero]
      · rw [free_alloc, if_pos rfl]
      · rw [blk_alloc, if_neg (by omega)]; exact hr
      · rw [free_alloc, if_neg (by omega)]; exact hrf
      · rw [blk_alloc, if_neg (by omega)]; exact hkk
      · rw [blk_alloc, if_neg (by omega)]; exact hh
      · rw [free_alloc, if_neg (by omega)]; exact hhf
      · rw [blk_alloc, if_neg (by omega)]; exact hbP
    obtain ⟨bd, hbd⟩ : ∃ bd, bd = W.heap.size := ⟨_, rfl⟩
    rw [← hbd] at hbwb ⊢
    clear hr hrf hkk hh hhf hbP HE hbd
    intro F6 W6 hrel
    obtain ⟨i, hi, h25, h24, hd, hdf, h2, h3, h4, h5, hr, hrf, hkk, hh, hhf, hbP, HE⟩ := hrel
    have H25 : Hid (F6 25 = .int .i64 (i : Nat)) := h25
    rw [frame281, h2, h3, h4, h5, h24, h25]
    clear h2 h3 h4 h5 h24 h25
    by_cases hi8 : i < 8
    · obtain ⟨k4, hk4⟩ : ∃ k4, k4 = 4 * i := ⟨_, rfl⟩
      have e1 : IntKind.i64.wrap (4 * (i : Int)) = (k4 : Int) := by rw [wraps_i64 _ (by omega) (by omega)]; omega
      have q0 : (0 : Int) ≤ (i : Int) := by omega
      have q1 : (i : Int) < 8 := by omega
      have q2 : ((i : Int)).toNat = i := by omega
      have hk29 : k4 + 3 < 32 := by omega
      have hk26 : k4 < 32 := by omega
      have hk27 : k4 + 1 < 32 := by omega
      have hk28 : k4 + 2 < 32 := by omega
      obtain ⟨D, hD⟩ : ∃ D, D = digF H i := ⟨_, rfl⟩
      rw [← hD] at hd
      have HD5 := hid_of (dig_put H i k4 D hD hi8 hk4 hk26 hk27 hk28 hk29)
      have z1 := w32_byte24 H[i]
      have z2 := w32_byte16 H[i]
      have z3 := w32_byte8 H[i]
      have z4 := w32_byte0 H[i]
      have hnb : ¬ w.heap.size + 2 = bd := by omega
      clear hk4 hD
      go_wp2_with fail
      refine ⟨rfl, rfl, ?_, ?_⟩
      · refine ⟨i + 1, by omega, ?_, rfl, ?_, ?_, rfl, rfl, rfl, rfl, ?_, ?_, ?_, ?_, ?_, ?_, ?_⟩
        · show Value.int .i64 _ = _
          go_num
        · rw [← HD5.out]
          simp only [blk_put, if_true, hd, Option.map_some]
          try rw [put_arr_u8 _ _ (by omega), put_arr_u8 _ _ (by omega), put_arr_u8 _ _ (by omega), put_arr_u8 _ _ (by omega)]
        · simp only [free_put]; exact hdf
        · simp only [blk_put]; rw [if_neg (by omega)]; exact hr
        · simp only [free_put]; exact hrf
        · simp only [blk_put]; rw [if_neg (by omega)]; exact hkk
        · simp only [blk_put]; rw [if_neg (by omega)]; exact hh
        · simp only [free_put]; exact hhf
        · simp only [blk_put]; rw [if_neg (by omega)]; exact hbP
        · repeat (first | exact HE.out | refine extends_put ?_ (by omega) _)
      · show 8 - (intOf (Value.int .i64 _)).toNat < 8 - (intOf (F6 25)).toNat
        rw [H25.out]
        simp [intOf]; omega
    · obtain rfl : i = 8 := by omega
      have hne1 : ¬ bd = w.heap.size := by omega
      go_wp2_with fail
      refine ret_cell (C := arr u8v (digF H 8)) rfl rfl (by rw [blk_put, if_pos rfl, hr]; rfl) (by kernel_rfl) (by rw [length_arr]; kernel_rfl) rfl ?_
      rw [HS2.out]
      exact ⟨rfl, extends_put HE.out (Nat.le_refl _) _⟩
end Go.Proofs.Qxb6500786aGreat
