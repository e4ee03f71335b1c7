import Derived.DeepKeys2
import Derived.OwnWalk
import Derived.Test.Qxb6500786aGreatMa
import Derived.Test.Qxb6500786aGreatMb
import Derived.Test.Qxb6500786aGreatMk
import Derived.Test.Qxb6500786aGreatEc

import Derived.StillTailTactics
import Derived.Deep.QuietTactic
import Derived.BigQuiet
import Derived.Deep.RegionHeld
import Derived.Deep.CutRange
import Derived.Laws.ResultCell
import Derived.Laws.Rows
import Derived.DeepKeys
import Derived.DataBytes
import Derived.Laws.StructEq
import Derived.Laws.AppendOwn
import Derived.Laws.MakeOwn
import Derived.Lib.AppendStr
set_option linter.unusedSimpArgs false
set_option linter.unusedVariables false
namespace Go.Proofs.Qxb6500786aGreat
open Go.RowKit Go.Blk
attribute [local go_sem ↓] execOp_load execOp_store execOp_alloc
attribute [local go_sem] Tryz.ld24 Tryz.st24 Tryz.ld36 Tryz.st36 Tryz.ld28 Tryz.st28 Tryz.ld32 Tryz.st32 Tryz.ld33 Tryz.st33 Tryz.ld34 Tryz.st34 Tryz.ld5 Tryz.st5 Tryz.ld31 Tryz.st31 Tryz.ld30 Tryz.st30 Tryz.ld41 Tryz.st41 Tryz.ld44 Tryz.st44 Tryz.ld4 Tryz.st4 Tryz.ld173 Tryz.st173 Tryz.ld174 Tryz.st174 Tryz.ld95 Tryz.st95 Tryz.ld45 Tryz.st45 Tryz.ld207 Tryz.st207 Tryz.ld3 Tryz.st3 Tryz.ld189 Tryz.st189 Tryz.ld2 Tryz.st2 Tryz.ld9 Tryz.st9 Tryz.ld12 Tryz.st12 Tryz.ld21 Tryz.st21 Tryz.ld22 Tryz.st22 Tryz.ld46 Tryz.st46 Tryz.ld92 Tryz.st92 Tryz.ld94 Tryz.st94 Tryz.ld96 Tryz.st96 Tryz.ld97 Tryz.st97 Tryz.ld105 Tryz.st105 Tryz.ld117 Tryz.st117 Tryz.ld122 Tryz.st122 Tryz.ld123 Tryz.st123 Tryz.ld133 Tryz.st133 Tryz.ld155 Tryz.st155 Tryz.ld163 Tryz.st163 Tryz.ld190 Tryz.st190 Tryz.ld197 Tryz.st197 Tryz.ld201 Tryz.st201 Tryz.ld202 Tryz.st202 Tryz.ld209 Tryz.st209 Tryz.ld216 Tryz.st216 Tryz.ld230 Tryz.st230 Tryz.ld238 Tryz.st238 Tryz.ld242 Tryz.st242 Tryz.ld251 Tryz.st251 Tryz.ld260 Tryz.st260 Tryz.ld286 Tryz.st286 Tryz.ld292 Tryz.st292 Tryz.ld298 Tryz.st298 Tryz.ld309 Tryz.st309 Tryz.ld35 Tryz.st35 Tryz.ld48 Tryz.st48 Tryz.ld47 Tryz.st47 Tryz.ld79 Tryz.st79 Tryz.ld177 Tryz.st177 Tryz.ld180 Tryz.st180 Tryz.ld231 Tryz.st231 Tryz.ld232 Tryz.st232 Tryz.ld26 Tryz.st26 Tryz.ld38 Tryz.st38 Tryz.ld40 Tryz.st40 Tryz.ld43 Tryz.st43 Tryz.ld50 Tryz.st50 Tryz.ld52 Tryz.st52 Tryz.ld54 Tryz.st54 Tryz.ld81 Tryz.st81 Tryz.ld112 Tryz.st112 Tryz.ld120 Tryz.st120 Tryz.ld176 Tryz.st176 Tryz.ld179 Tryz.st179 Tryz.ld182 Tryz.st182 Tryz.ld184 Tryz.st184 Tryz.ld234 Tryz.st234 Tryz.ld236 Tryz.st236 Tryz.ld240 Tryz.st240 Tryz.ld246 Tryz.st246 Tryz.ld249 Tryz.st249 Tryz.al35 Tryz.al48 Tryz.al47 Tryz.al79 Tryz.al177 Tryz.al180 Tryz.al231 Tryz.al232 Tryz.al26 Tryz.al38 Tryz.al40 Tryz.al43 Tryz.al50 Tryz.al52 Tryz.al54 Tryz.al81 Tryz.al112 Tryz.al120 Tryz.al176 Tryz.al179 Tryz.al182 Tryz.al184 Tryz.al234 Tryz.al236 Tryz.al240 Tryz.al246 Tryz.al249
attribute [local go_sem] Player.length_enc Player.ok_enc Player.all_get Player.all_set Player.hand_get Player.hand_set Player.aside_get Player.aside_set Message.length_enc Message.ok_enc Message.all_get Message.all_set Message.kind_get Message.kind_set Message.from__get Message.from__set Message.to__get Message.to__set Message.sender_get Message.sender_set Message.receiver_get Message.receiver_set Message.seq_get Message.seq_set Message.token_get Message.token_set Message.amount_get Message.amount_set Message.size_get Message.size_set Message.payload_get Message.payload_set Tx.length_enc Tx.ok_enc Tx.all_get Tx.all_set Tx.kind_get Tx.kind_set Tx.chain_get Tx.chain_set Tx.from__get Tx.from__set Tx.nonce_get Tx.nonce_set Tx.fee_get Tx.fee_set Tx.to__get Tx.to__set Tx.dest_get Tx.dest_set Tx.token_get Tx.token_set Tx.amount_get Tx.amount_set Tx.size_get Tx.size_set Tx.payload_get Tx.payload_set Tx.msg_get Tx.msg_set Tx.msg_kind_get Tx.msg_kind_set Tx.msg_from__get Tx.msg_from__set Tx.msg_to__get Tx.msg_to__set Tx.msg_sender_get Tx.msg_sender_set Tx.msg_receiver_get Tx.msg_receiver_set Tx.msg_seq_get Tx.msg_seq_set Tx.msg_token_get Tx.msg_token_set Tx.msg_amount_get Tx.msg_amount_set Tx.msg_size_get Tx.msg_size_set Tx.msg_payload_get Tx.msg_payload_set GOp.length_enc GOp.ok_enc GOp.all_get GOp.all_set GOp.kind_get GOp.kind_set GOp.tx_get GOp.tx_set GOp.txs_get GOp.txs_set GOp.gas_get GOp.gas_set GOp.acct_get GOp.acct_set GOp.token_get GOp.token_set GOp.chain_get GOp.chain_set GOp.seq_get GOp.seq_set GOp.tx_kind_get GOp.tx_kind_set GOp.tx_chain_get GOp.tx_chain_set GOp.tx_from__get GOp.tx_from__set GOp.tx_nonce_get GOp.tx_nonce_set GOp.tx_fee_get GOp.tx_fee_set GOp.tx_to__get GOp.tx_to__set GOp.tx_dest_get GOp.tx_dest_set GOp.tx_token_get GOp.tx_token_set GOp.tx_amount_get GOp.tx_amount_set GOp.tx_size_get GOp.tx_size_set GOp.tx_payload_get GOp.tx_payload_set GOp.tx_msg_get GOp.tx_msg_set GOp.tx_msg_kind_get GOp.tx_msg_kind_set GOp.tx_msg_from__get GOp.tx_msg_from__set GOp.tx_msg_to__get GOp.tx_msg_to__set GOp.tx_msg_sender_get GOp.tx_msg_sender_set GOp.tx_msg_receiver_get GOp.tx_msg_receiver_set GOp.tx_msg_seq_get GOp.tx_msg_seq_set GOp.tx_msg_token_get GOp.tx_msg_token_set GOp.tx_msg_amount_get GOp.tx_msg_amount_set GOp.tx_msg_size_get GOp.tx_msg_size_set GOp.tx_msg_payload_get GOp.tx_msg_payload_set Summary.length_enc Summary.ok_enc Summary.all_get Summary.all_set Summary.height_get Summary.height_set Summary.txs_get Summary.txs_set Summary.gas_get Summary.gas_set Summary.fees_get Summary.fees_set Summary.sent_get Summary.sent_set Summary.took_get Summary.took_set Summary.minted_get Summary.minted_set Summary.burned_get Summary.burned_set Summary.root_get Summary.root_set Detail.length_enc Detail.ok_enc Detail.all_get Detail.all_set Detail.code_get Detail.code_set Detail.have__get Detail.have__set Detail.need_get Detail.need_set Slot.length_enc Slot.ok_enc Slot.all_get Slot.all_set Slot.nonce_get Slot.nonce_set Slot.balances_get Slot.balances_set Tree.length_enc Tree.ok_enc Tree.all_get Tree.all_set Tree.leaves_get Tree.leaves_set Mark.length_enc Mark.ok_enc Mark.all_get Mark.all_set Mark.from__get Mark.from__set Mark.seq_get Mark.seq_set Receipt.length_enc Receipt.ok_enc Receipt.all_get Receipt.all_set Receipt.code_get Receipt.code_set Receipt.hash_get Receipt.hash_set Receipt.index_get Receipt.index_set Receipt.gas_get Receipt.gas_set Receipt.fee_get Receipt.fee_set Receipt.hasSent_get Receipt.hasSent_set Receipt.sent_get Receipt.sent_set Receipt.hasTook_get Receipt.hasTook_set Receipt.took_get Receipt.took_set Receipt.sent_kind_get Receipt.sent_kind_set Receipt.sent_from__get Receipt.sent_from__set Receipt.sent_to__get Receipt.sent_to__set Receipt.sent_sender_get Receipt.sent_sender_set Receipt.sent_receiver_get Receipt.sent_receiver_set Receipt.sent_seq_get Receipt.sent_seq_set Receipt.sent_token_get Receipt.sent_token_set Receipt.sent_amount_get Receipt.sent_amount_set Receipt.sent_size_get Receipt.sent_size_set Receipt.sent_payload_get Receipt.sent_payload_set Receipt.took_kind_get Receipt.took_kind_set Receipt.took_from__get Receipt.took_from__set Receipt.took_to__get Receipt.took_to__set Receipt.took_sender_get Receipt.took_sender_set Receipt.took_receiver_get Receipt.took_receiver_set Receipt.took_seq_get Receipt.took_seq_set Receipt.took_token_get Receipt.took_token_set Receipt.took_amount_get Receipt.took_amount_set Receipt.took_size_get Receipt.took_size_set Receipt.took_payload_get Receipt.took_payload_set Store.length_enc Store.ok_enc Store.all_get Store.all_set Store.now_get Store.now_set Store.saved_get Store.saved_set GState.length_enc GState.ok_enc GState.all_get GState.all_set GState.kv_get GState.kv_set GState.tree_get GState.tree_set GState.stale_get GState.stale_set GState.touched_get GState.touched_set GState.kv_now_get GState.kv_now_set GState.kv_saved_get GState.kv_saved_set GState.tree_leaves_get GState.tree_leaves_set History.length_enc History.ok_enc History.all_get History.all_set History.ring_get History.ring_set History.closed_get History.closed_set Ledger.length_enc Ledger.ok_enc Ledger.all_get Ledger.all_set Ledger.chain_get Ledger.chain_set Ledger.st_get Ledger.st_set Ledger.height_get Ledger.height_set Ledger.open__get Ledger.open__set Ledger.gasLimit_get Ledger.gasLimit_set Ledger.past_get Ledger.past_set Ledger.begun_get Ledger.begun_set Ledger.sent_get Ledger.sent_set Ledger.took_get Ledger.took_set Ledger.receipts_get Ledger.receipts_set Ledger.st_kv_get Ledger.st_kv_set Ledger.st_tree_get Ledger.st_tree_set Ledger.st_stale_get Ledger.st_stale_set Ledger.st_touched_get Ledger.st_touched_set Ledger.st_kv_now_get Ledger.st_kv_now_set Ledger.st_kv_saved_get Ledger.st_kv_saved_set Ledger.st_tree_leaves_get Ledger.st_tree_leaves_set Ledger.past_ring_get Ledger.past_ring_set Ledger.past_closed_get Ledger.past_closed_set Ledger.begun_kv_get Ledger.begun_kv_set Ledger.begun_tree_get Ledger.begun_tree_set Ledger.begun_stale_get Ledger.begun_stale_set Ledger.begun_touched_get Ledger.begun_touched_set Ledger.begun_kv_now_get Ledger.begun_kv_now_set Ledger.begun_kv_saved_get Ledger.begun_kv_saved_set Ledger.begun_tree_leaves_get Ledger.begun_tree_leaves_set Purse.length_enc Purse.ok_enc Purse.all_get Purse.all_set Purse.st_get Purse.st_set Purse.n_get Purse.n_set Purse.account_get Purse.account_set Purse.token_get Purse.token_set Purse.amount_get Purse.amount_set Plan.length_enc Plan.ok_enc Plan.all_get Plan.all_set Plan.purse_get Plan.purse_set Plan.nonce_get Plan.nonce_set Plan.gasUsed_get Plan.gasUsed_set Plan.fees_get Plan.fees_set Plan.hasSupply_get Plan.hasSupply_set Plan.token_get Plan.token_set Plan.supply_get Plan.supply_set Plan.flowAt_get Plan.flowAt_set Plan.flow_get Plan.flow_set Plan.receipt_get Plan.receipt_set Plan.purse_st_get Plan.purse_st_set Plan.purse_n_get Plan.purse_n_set Plan.purse_account_get Plan.purse_account_set Plan.purse_token_get Plan.purse_token_set Plan.purse_amount_get Plan.purse_amount_set Plan.receipt_code_get Plan.receipt_code_set Plan.receipt_hash_get Plan.receipt_hash_set Plan.receipt_index_get Plan.receipt_index_set Plan.receipt_gas_get Plan.receipt_gas_set Plan.receipt_fee_get Plan.receipt_fee_set Plan.receipt_hasSent_get Plan.receipt_hasSent_set Plan.receipt_sent_get Plan.receipt_sent_set Plan.receipt_hasTook_get Plan.receipt_hasTook_set Plan.receipt_took_get Plan.receipt_took_set Plan.receipt_sent_kind_get Plan.receipt_sent_kind_set Plan.receipt_sent_from__get Plan.receipt_sent_from__set Plan.receipt_sent_to__get Plan.receipt_sent_to__set Plan.receipt_sent_sender_get Plan.receipt_sent_sender_set Plan.receipt_sent_receiver_get Plan.receipt_sent_receiver_set Plan.receipt_sent_seq_get Plan.receipt_sent_seq_set Plan.receipt_sent_token_get Plan.receipt_sent_token_set Plan.receipt_sent_amount_get Plan.receipt_sent_amount_set Plan.receipt_sent_size_get Plan.receipt_sent_size_set Plan.receipt_sent_payload_get Plan.receipt_sent_payload_set Plan.receipt_took_kind_get Plan.receipt_took_kind_set Plan.receipt_took_from__get Plan.receipt_took_from__set Plan.receipt_took_to__get Plan.receipt_took_to__set Plan.receipt_took_sender_get Plan.receipt_took_sender_set Plan.receipt_took_receiver_get Plan.receipt_took_receiver_set Plan.receipt_took_seq_get Plan.receipt_took_seq_set Plan.receipt_took_token_get Plan.receipt_took_token_set Plan.receipt_took_amount_get Plan.receipt_took_amount_set Plan.receipt_took_size_get Plan.receipt_took_size_set Plan.receipt_took_payload_get Plan.receipt_took_payload_set Move.length_enc Move.ok_enc Move.all_get Move.all_set Move.account_get Move.account_set Move.token_get Move.token_set Move.down_get Move.down_set Move.amount_get Move.amount_set Books.length_enc Books.ok_enc Books.all_get Books.all_set Books.sums_get Books.sums_set Books.stored_get Books.stored_set Books.marks_get Books.marks_set Pair.length_enc Pair.ok_enc Pair.all_get Pair.all_set Pair.key_get Pair.key_set Pair.value_get Pair.value_set
attribute [local go_sem] size_put size_ext blk_put free_put blk_alloc free_alloc blk_drew free_drew blk_ext free_ext lookOr_some putOr_some segAt_some cellAt_some storeIn_some put_put put_alloc_new length_arr ok_arr_u8 ok_arr_u32 ok_arr_u64 ok_arr_i64 ok_arr_sl cellsV_agg cellsV_int cellsV_bool cellsV_string cellsV_pointer cellsV_slice cellsV_sl ok_int ok_bool ok_string ok_pointer ok_slice ok_sl toList_arr seg_arr set_arr nth_splice nth_splice0 seg_splice seg_splice0 splice_splice splice_splice0 length_splice_if
attribute [local go_sem ↓] execOp_box
attribute [local go_sem] box_run nth_arr_u8 put_arr_u8 blk_drewN free_drewN put_drewN blk_raw free_raw
set_option maxRecDepth 1000000 in
theorem build120z (w : World) : (buildOp 120 #[]).run Tryz.prog w = .ok (.value (.agg (Receipt.zero : Receipt).enc.toArray)) w := by kernel_rfl
/-- ReceiptAt and FindReceipt, plainly. -/
def rcAF (L : PLg) (i : UInt64) : Receipt × Int := if L.open_ = true then (if (ldF L.st.now (keyC 3)).toNat ≤ i.toNat then (Receipt.zero, 46) else ((L.receipts[i.toNat]?).getD Receipt.zero, 0)) else (Receipt.zero, 23)
noncomputable def fndR (d : Dig) : List Receipt → Receipt × Int
  | [] => (Receipt.zero, 46)
  | r :: rs => if eqA r.hash d = true then (r, 0) else fndR d rs
noncomputable def rcFF (L : PLg) (d : Dig) : Receipt × Int := if L.open_ = true then fndR d (L.receipts.take (ldF L.st.now (keyC 3)).toNat) else (Receipt.zero, 23)
attribute [local go_sem ↓] execOp_build execOp_eql47
attribute [local go_sem] build120z x64_inc eql47
set_option maxRecDepth 20000 in
set_option maxHeartbeats 1000000 in
theorem receiptAt_any (O : Own) (W : World) (bl : Nat) (L : PLg) (i : UInt64) (hL : LedA O W bl L) (hc : (ldF L.st.now (keyC 3)).toNat ≤ L.receipts.length) : Calls Tryz.prog 95 #[.pointer (some ⟨bl, 0, none⟩), .int .u64 (w64 i)] W fun e V => e = .returned (.tuple #[.agg (rcAF L i).1.enc.toArray, .int .i64 (rcAF L i).2]) ∧ W.Extends V := by
  obtain ⟨V0, hV0⟩ : ∃ V0 : World, V0 = W.alloc (.cells Receipt.zero.enc.toArray 120) := ⟨_, rfl⟩
  have hx0 : W.Extends V0 := by rw [hV0]; exact extends_alloc (ext_Ext (Ext.refl _)) _
  have kx : blk V0 W.heap.size = some Receipt.zero.enc := by rw [hV0, blk_alloc, if_pos rfl]
  have kf : free V0 W.heap.size = true := by rw [hV0, free_alloc, if_pos rfl]
  obtain ⟨br, hbr⟩ : ∃ br, br = W.heap.size := ⟨_, rfl⟩
  have HX : Hid (∀ V D, V0.Extends V → W.Extends (put V br D)) := fun V D hv => by rw [hbr]; exact extends_put (hx0.trans hv) (Nat.le_refl _) _
  rw [← hbr] at kx kf
  have HV0 := hid_of hV0
  have HB := hid_of hbr
  have hL0 := hL.ext hx0
  have hrd := hL0.rd
  obtain ⟨sn, ss, bn, ms, mt, ⟨a, n, c⟩, h0⟩ := hL0
  have kl := h0.hblk
  have n62 : nth (lgOf L sn ss bn ms mt ⟨a, n, c⟩).enc 2062 = some (.bool L.open_) := Ledger.open__get _
  have n95 : nth (lgOf L sn ss bn ms mt ⟨a, n, c⟩).enc 4495 = some (.slice a n c) := Ledger.receipts_get _
  have hrw : Rw Receipt.enc 120 V0 a n L.receipts := (RowL.rw Receipt.length_enc h0.mrc).1
  have hlt : (lgOf L sn ss bn ms mt ⟨a, n, c⟩).enc.length = 4496 := Ledger.length_enc _
  generalize (lgOf L sn ss bn ms mt ⟨a, n, c⟩).enc = LE at kl n62 n95 hlt
  clear h0
  have hq := counter_any V0 bl 1 L.st.now hrd 3 (by decide)
  obtain ⟨r, hr⟩ : ∃ r, r = rcAF L i := ⟨_, rfl⟩
  rw [← hr]
  obtain ⟨cc, hcc⟩ : ∃ cc, cc = ldF L.st.now (keyC 3) := ⟨_, rfl⟩
  rw [← hcc] at hq hc
  have HC := hid_of hc
  have HRW := hid_of hrw
  unfold rcAF at hr
  rw [← hcc] at hr
  have HR := hid_of hr
  clear hr hcc hV0 hbr hrd hL hx0 hc hrw
  generalize L.open_ = op at n62 HR
  cases op with
  | false =>
    have hre : r = (Receipt.zero, 23) := by rw [HR.out, if_neg (by simp)]
    subst hre
    have HX1 := hid_of (HX.out V0 Receipt.zero.enc (ext_Ext (Ext.refl _)))
    clear HR hq HC HX HRW
    dsimp only
    go_enter Tryz.func95, Tryz.ntmps95
    go_upto_region 1 with fail
    rw [← HV0.out, ← HB.out]
    go_wp2_with fail
    refine ret_cell_tmp (C := Receipt.zero.enc) rfl rfl rfl (by rw [blk_put, if_pos rfl, kx]; rfl) (by kernel_rfl) (by rw [Receipt.length_enc]; kernel_rfl) rfl ?_
    exact ⟨rfl, HX1.out⟩
  | true =>
    by_cases g : cc.toNat ≤ i.toNat
    · have hre : r = (Receipt.zero, 46) := by rw [HR.out, if_pos rfl, if_pos g]
      subst hre
      have w : w64 cc ≤ w64 i := by unfold w64; omega
      clear HR g HC HRW
      dsimp only
      go_enter Tryz.func95, Tryz.ntmps95
      go_upto_region 1 with fail
      rw [← HV0.out, ← HB.out]
      go_wp2_with fail
      refine hq.mono ?_
      clear hq
      rintro e V ⟨rfl, he⟩
      dsimp only
      have kx1 := (he.blk (blk_lt kx)).trans kx
      have kf1 := (free_of_heap (he.block _ (blk_lt kx))).trans kf
      have HX1 := hid_of (HX.out V Receipt.zero.enc he)
      clear he HX kx kf
      go_wp2_with fail
      refine ret_cell_tmp (C := Receipt.zero.enc) rfl rfl rfl (by rw [blk_put, if_pos rfl, kx1]; rfl) (by kernel_rfl) (by rw [Receipt.length_enc]; kernel_rfl) rfl ?_
      exact ⟨rfl, HX1.out⟩
    · obtain ⟨x, hx⟩ : ∃ x, L.receipts[i.toNat]? = some x := ⟨_, List.getElem?_eq_getElem (by have := HC.out; omega)⟩
      have hre : r = (x, 0) := by rw [HR.out, if_pos rfl, if_neg g, hx]; rfl
      subst hre
      have w : ¬ w64 cc ≤ w64 i := by unfold w64; omega
      obtain ⟨b, C, ha, kb, hbl, hsg⟩ := HRW.out.2 _ _ hx
      subst ha
      have hil := (List.getElem?_eq_some_iff.1 hx).1
      have hn : n = L.receipts.length := HRW.out.1.symm
      have p0 : (0 : Int) ≤ w64 i := by unfold w64; omega
      have p1 : w64 i < (n : Int) := by unfold w64; omega
      have p2 : (w64 i).toNat = i.toNat := by unfold w64; omega
      have p3 : i.toNat * 120 + 120 ≤ C.length := Nat.le_trans (by rw [← Nat.succ_mul]; exact Nat.mul_le_mul_right _ (by omega)) hbl
      clear HR g HC HRW hx hil hn hbl
      dsimp only
      go_enter Tryz.func95, Tryz.ntmps95
      go_upto_region 1 with fail
      rw [← HV0.out, ← HB.out]
      go_wp2_with fail
      refine hq.mono ?_
      clear hq
      rintro e V ⟨rfl, he⟩
      dsimp only
      have kx1 := (he.blk (blk_lt kx)).trans kx
      have kf1 := (free_of_heap (he.block _ (blk_lt kx))).trans kf
      have kl1 := (he.blk (blk_lt kl)).trans kl
      have kb1 := (he.blk (blk_lt kb)).trans kb
      have HX1 := hid_of (HX.out V x.enc he)
      clear he HX kx kf kl kb
      go_wp2_with fail
      refine ret_cell_tmp (C := x.enc) rfl rfl rfl (by rw [blk_put, if_pos rfl, kx1]; rfl) (by kernel_rfl) (by rw [Receipt.length_enc]; kernel_rfl) rfl ?_
      exact ⟨rfl, HX1.out⟩
set_option maxRecDepth 100000 in
theorem frame41 (f : Nat → Value) : frameN 41 f = #[f 0, f 1, f 2, f 3, f 4, f 5, f 6, f 7, f 8, f 9, f 10, f 11, f 12, f 13, f 14, f 15, f 16, f 17, f 18, f 19, f 20, f 21, f 22, f 23, f 24, f 25, f 26, f 27, f 28, f 29, f 30, f 31, f 32, f 33, f 34, f 35, f 36, f 37, f 38, f 39, f 40] := by kernel_rfl
theorem fndR_drop {d : Dig} {X : List Receipt} {i : Nat} {x : Receipt} (h : X[i]? = some x) : fndR d (X.drop i) = if eqA x.hash d = true then (x, 0) else fndR d (X.drop (i + 1)) := by
  obtain ⟨h1, h2⟩ := List.getElem?_eq_some_iff.1 h
  rw [List.drop_eq_getElem_cons h1, h2]
  rfl
def frI (V0 : World) (bl bd br : Nat) (cc : UInt64) (d : Dig) (X : List Receipt) (F : Nat → Value) (V : World) : Prop := F 0 = .pointer (some ⟨bl, 0, none⟩) ∧ F 3 = .pointer (some ⟨bd, 0, none⟩) ∧ F 4 = .pointer (some ⟨br, 0, none⟩) ∧ F 6 = .int .u64 (w64 cc) ∧ ∃ i : UInt64, i.toNat ≤ cc.toNat ∧ F 7 = .int .u64 (w64 i) ∧ Hid (V0.Extends V ∧ fndR d X = fndR d (X.drop i.toNat))
theorem digest_seg (x : Receipt) : ∀ {C : List Value} {o : Nat}, seg C o 120 = x.enc → seg C (o + 1) 32 = arr u8v x.hash := fun {C o} h => (seg_in h (p := 1) (m := 32) (by omega)).trans (Receipt.hash_get x)
set_option maxRecDepth 20000 in
set_option maxHeartbeats 1000000 in
theorem findReceipt_any (O : Own) (W : World) (bl : Nat) (L : PLg) (d : Dig) (hL : LedA O W bl L) (hc : (ldF L.st.now (keyC 3)).toNat ≤ L.receipts.length) : Calls Tryz.prog 96 #[.pointer (some ⟨bl, 0, none⟩), .agg (arr u8v d).toArray] W fun e V => e = .returned (.tuple #[.agg (rcFF L d).1.enc.toArray, .int .i64 (rcFF L d).2]) ∧ W.Extends V := by
  obtain ⟨V0, hV0⟩ : ∃ V0 : World, V0 = (W.alloc (.cells (arr u8v d).toArray 47)).alloc (.cells Receipt.zero.enc.toArray 120) := ⟨_, rfl⟩
  have hx0 : W.Extends V0 := by rw [hV0]; exact extends_alloc (extends_alloc (ext_Ext (Ext.refl _)) _) _
  have kd : blk V0 W.heap.size = some (arr u8v d) := by rw [hV0, blk_alloc, if_neg (by simp only [World.size_alloc]; omega), blk_alloc, if_pos rfl]
  have kx : blk V0 (W.heap.size + 1) = some Receipt.zero.enc := by rw [hV0, blk_alloc, if_pos (by simp only [World.size_alloc])]
  have kf : free V0 (W.heap.size + 1) = true := by rw [hV0, free_alloc, if_pos (by simp only [World.size_alloc])]
  have HX : Hid (∀ V D, V0.Extends V → W.Extends (put V (W.heap.size + 1) D)) := fun V D hv => extends_put (hx0.trans hv) (Nat.le_succ _) _
  have hL0 := hL.ext hx0
  have hrd := hL0.rd
  obtain ⟨sn, ss, bn, ms, mt, ⟨a, n, c⟩, h0⟩ := hL0
  have kl := h0.hblk
  have n62 : nth (lgOf L sn ss bn ms mt ⟨a, n, c⟩).enc 2062 = some (.bool L.open_) := Ledger.open__get _
  have n95 : nth (lgOf L sn ss bn ms mt ⟨a, n, c⟩).enc 4495 = some (.slice a n c) := Ledger.receipts_get _
  have hrw : Rw Receipt.enc 120 V0 a n L.receipts := (RowL.rw Receipt.length_enc h0.mrc).1
  have hlt : (lgOf L sn ss bn ms mt ⟨a, n, c⟩).enc.length = 4496 := Ledger.length_enc _
  generalize (lgOf L sn ss bn ms mt ⟨a, n, c⟩).enc = LE at kl n62 n95 hlt
  clear h0
  have hq := counter_any V0 bl 1 L.st.now hrd 3 (by decide)
  obtain ⟨r, hr⟩ : ∃ r, r = rcFF L d := ⟨_, rfl⟩
  rw [← hr]
  obtain ⟨cc, hcc⟩ : ∃ cc, cc = ldF L.st.now (keyC 3) := ⟨_, rfl⟩
  rw [← hcc] at hq hc
  have HC := hid_of hc
  have HRW := hid_of hrw
  unfold rcFF at hr
  rw [← hcc] at hr
  have HR := hid_of hr
  have HV0 := hid_of hV0
  have ld : (arr u8v d).length = 32 := length_arr _ _
  have hne : ¬ W.heap.size = W.heap.size + 1 := by omega
  obtain ⟨bd, hbd⟩ : ∃ bd, bd = W.heap.size := ⟨_, rfl⟩
  obtain ⟨br, hbr⟩ : ∃ br, br = W.heap.size + 1 := ⟨_, rfl⟩
  rw [← hbr] at kx kf HX hne
  rw [← hbd] at kd hne
  have HBD := hid_of hbd
  have HBR := hid_of hbr
  clear hr hcc hV0 hrd hL hx0 hc hrw hbd hbr
  generalize L.open_ = op at n62 HR
  cases op with
  | false =>
    have hre : r = (Receipt.zero, 23) := by rw [HR.out, if_neg (by simp)]
    subst hre
    have HX1 := hid_of (HX.out V0 Receipt.zero.enc (ext_Ext (Ext.refl _)))
    clear HR hq HC HX HRW
    dsimp only
    go_enter Tryz.func96, Tryz.ntmps96
    go_upto_region 1 with fail
    rw [← HV0.out, ← HBR.out, ← HBD.out]
    go_wp2_with fail
    refine ret_cell_tmp (C := Receipt.zero.enc) rfl rfl rfl (by rw [blk_put, if_pos rfl, kx]; rfl) (by kernel_rfl) (by rw [Receipt.length_enc]; kernel_rfl) rfl ?_
    exact ⟨rfl, HX1.out⟩
  | true =>
    have HR' : Hid (r = fndR d (L.receipts.take cc.toNat)) := by
      show r = _
      rw [HR.out, if_pos rfl]
    clear HR
    go_enter Tryz.func96, Tryz.ntmps96
    go_upto_region 1 with fail
    rw [← HV0.out, ← HBR.out, ← HBD.out]
    go_wp2_with fail
    refine hq.mono ?_
    clear hq
    rintro e V1 ⟨rfl, he1⟩
    dsimp only
    have HE1 := hid_of he1
    have kl1 := (he1.blk (blk_lt kl)).trans kl
    clear he1
    go_wp2_with fail
    refine wp_loop_f 41 (frI V0 bl bd br cc d (L.receipts.take cc.toNat)) (fun f _ => cc.toNat - (intOf (f 7)).toNat) rfl ⟨rfl, rfl, rfl, rfl, 0, Nat.zero_le _, rfl, HE1.out, rfl⟩ ?_
    clear HE1 kl1
    intro F V hrel
    obtain ⟨f0, f3, f4, f6, i, hi, f7, HI⟩ := hrel
    have H7 := hid_of f7
    rw [frame41, f0, f3, f4, f6, f7]
    clear f0 f3 f4 f6 f7
    obtain ⟨he, hfd⟩ := HI.out
    have HF : Hid (r = fndR d ((L.receipts.take cc.toNat).drop i.toNat)) := HR'.out.trans hfd
    have HE := hid_of he
    have klV := (he.blk (blk_lt kl)).trans kl
    have kdV := (he.blk (blk_lt kd)).trans kd
    have kxV := (he.blk (blk_lt kx)).trans kx
    have kfV := (free_of_heap (he.block _ (blk_lt kx))).trans kf
    clear HI he hfd
    by_cases hin : i.toNat < cc.toNat
    rotate_left 1
    · have hre : r = (Receipt.zero, 46) := by rw [HF.out, List.drop_of_length_le (by rw [List.length_take]; omega)]; rfl
      subst hre
      have w : ¬ w64 i < w64 cc := by unfold w64; omega
      have HX1 := hid_of (HX.out V Receipt.zero.enc HE.out)
      clear HX HF hin hi HR' HRW HC HE
      dsimp only
      go_wp2_with fail
      refine ret_cell_tmp (C := Receipt.zero.enc) rfl rfl rfl (by rw [blk_put, if_pos rfl, kxV]; rfl) (by kernel_rfl) (by rw [Receipt.length_enc]; kernel_rfl) rfl ?_
      exact ⟨rfl, HX1.out⟩
    have w : w64 i < w64 cc := by unfold w64; omega
    obtain ⟨x, hx⟩ : ∃ x, L.receipts[i.toNat]? = some x := ⟨_, List.getElem?_eq_getElem (by have := HC.out; omega)⟩
    have hxt : (L.receipts.take cc.toNat)[i.toNat]? = some x := by rw [List.getElem?_take_of_lt hin]; exact hx
    have HF2 : Hid (r = if eqA x.hash d = true then (x, 0) else fndR d ((L.receipts.take cc.toNat).drop (i.toNat + 1))) := HF.out.trans (fndR_drop hxt)
    obtain ⟨b, C, ha, kb, hbl, hsg⟩ := HRW.out.2 _ _ hx
    subst ha
    have hil := (List.getElem?_eq_some_iff.1 hx).1
    have hn : n = L.receipts.length := HRW.out.1.symm
    have p0 : (0 : Int) ≤ w64 i := by unfold w64; omega
    have p1 : w64 i < (n : Int) := by unfold w64; omega
    have p2 : (w64 i).toNat = i.toNat := by unfold w64; omega
    have p3 : i.toNat * 120 + 120 ≤ C.length := Nat.le_trans (by rw [← Nat.succ_mul]; exact Nat.mul_le_mul_right _ (by omega)) hbl
    have kbV := (HE.out.blk (blk_lt kb)).trans kb
    have hsd := digest_seg x hsg
    have HIN := hid_of hin
    clear hx hxt hil hn hbl hin hi HF HRW HC
    by_cases hd : eqA x.hash d = true
    · have hre : r = (x, 0) := by rw [HF2.out, if_pos hd]
      subst hre
      have HX1 : Hid (∀ nq, W.Extends ((put V br x.enc).drewN nq)) := fun nq => extends_drewN (HX.out V x.enc HE.out) nq
      clear HX HF2 HR' HE
      dsimp only
      go_wp2_with fail
      go_quiet (fail)
      go_wp2_with fail
      refine ret_cell_tmp (C := x.enc) rfl rfl rfl (by show blk (put V br x.enc) br = _; rw [blk_put, if_pos rfl, kxV]; rfl) (by kernel_rfl) (by rw [Receipt.length_enc]; kernel_rfl) rfl ?_
      exact ⟨rfl, HX1.out _⟩
    · have hdf : eqA x.hash d = false := by simpa using hd
      have HF3 : Hid (fndR d (L.receipts.take cc.toNat) = fndR d ((L.receipts.take cc.toNat).drop (i + 1).toNat)) := by
        show fndR _ _ = _
        rw [← HR'.out, HF2.out, if_neg hd]
        congr 2
        have := HIN.out
        have := cc.toNat_lt
        rw [UInt64.toNat_add, Nat.mod_eq_of_lt (by simp; omega)]
        rfl
      have HI1 : Hid ((i + 1).toNat ≤ cc.toNat ∧ (i + 1).toNat = i.toNat + 1) := by
        have := HIN.out
        have := cc.toNat_lt
        have h9 : (i + 1).toNat = i.toNat + 1 := by
          rw [UInt64.toNat_add, Nat.mod_eq_of_lt (by simp; omega)]
          rfl
        exact ⟨by omega, h9⟩
      clear HX HF2 HR' hd
      go_wp2_with fail
      go_quiet (fail)
      go_wp2_with fail
      refine ⟨rfl, rfl, ⟨rfl, rfl, rfl, rfl, i + 1, HI1.out.1, rfl, extends_drewN HE.out _, HF3.out⟩, ?_⟩
      show cc.toNat - (intOf (Value.int .u64 (w64 (i + 1)))).toNat < cc.toNat - (intOf (F 7)).toNat
      rw [H7.out]
      have h1 := HI1.out
      have h2 := HIN.out
      show cc.toNat - (w64 (i + 1)).toNat < cc.toNat - (w64 i).toNat
      have e1 : (w64 (i + 1)).toNat = (i + 1).toNat := by unfold w64; omega
      rw [e1, p2]
      omega
end Go.Proofs.Qxb6500786aGreat
