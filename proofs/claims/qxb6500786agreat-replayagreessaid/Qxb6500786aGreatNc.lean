import Derived.DeepKeys2
import Derived.OwnWalk
import Derived.Test.Qxb6500786aGreatNb

import Derived.StillTailTactics
import Derived.Deep.QuietTactic
import Derived.BigQuiet
import Derived.Deep.RegionHeld
import Derived.Deep.CutRange
import Derived.Laws.ResultCell
import Derived.Laws.Rows
import Derived.DeepKeys
import Derived.DataBytes
import Derived.Laws.StructEq
import Derived.Laws.AppendOwn
import Derived.Laws.MakeOwn
import Derived.Lib.AppendStr
set_option linter.unusedSimpArgs false
set_option linter.unusedVariables false
namespace Go.Proofs.Qxb6500786aGreat
open Go.RowKit Go.Blk
attribute [local go_sem ↓] execOp_load execOp_store execOp_alloc
attribute [local go_sem] Tryz.ld24 Tryz.st24 Tryz.ld36 Tryz.st36 Tryz.ld28 Tryz.st28 Tryz.ld32 Tryz.st32 Tryz.ld33 Tryz.st33 Tryz.ld34 Tryz.st34 Tryz.ld5 Tryz.st5 Tryz.ld31 Tryz.st31 Tryz.ld30 Tryz.st30 Tryz.ld41 Tryz.st41 Tryz.ld44 Tryz.st44 Tryz.ld4 Tryz.st4 Tryz.ld173 Tryz.st173 Tryz.ld174 Tryz.st174 Tryz.ld95 Tryz.st95 Tryz.ld45 Tryz.st45 Tryz.ld207 Tryz.st207 Tryz.ld3 Tryz.st3 Tryz.ld189 Tryz.st189 Tryz.ld2 Tryz.st2 Tryz.ld9 Tryz.st9 Tryz.ld12 Tryz.st12 Tryz.ld21 Tryz.st21 Tryz.ld22 Tryz.st22 Tryz.ld46 Tryz.st46 Tryz.ld92 Tryz.st92 Tryz.ld94 Tryz.st94 Tryz.ld96 Tryz.st96 Tryz.ld97 Tryz.st97 Tryz.ld105 Tryz.st105 Tryz.ld117 Tryz.st117 Tryz.ld122 Tryz.st122 Tryz.ld123 Tryz.st123 Tryz.ld133 Tryz.st133 Tryz.ld155 Tryz.st155 Tryz.ld163 Tryz.st163 Tryz.ld190 Tryz.st190 Tryz.ld197 Tryz.st197 Tryz.ld201 Tryz.st201 Tryz.ld202 Tryz.st202 Tryz.ld209 Tryz.st209 Tryz.ld216 Tryz.st216 Tryz.ld230 Tryz.st230 Tryz.ld238 Tryz.st238 Tryz.ld242 Tryz.st242 Tryz.ld251 Tryz.st251 Tryz.ld260 Tryz.st260 Tryz.ld286 Tryz.st286 Tryz.ld292 Tryz.st292 Tryz.ld298 Tryz.st298 Tryz.ld309 Tryz.st309 Tryz.ld35 Tryz.st35 Tryz.ld48 Tryz.st48 Tryz.ld47 Tryz.st47 Tryz.ld79 Tryz.st79 Tryz.ld177 Tryz.st177 Tryz.ld180 Tryz.st180 Tryz.ld231 Tryz.st231 Tryz.ld232 Tryz.st232 Tryz.ld26 Tryz.st26 Tryz.ld38 Tryz.st38 Tryz.ld40 Tryz.st40 Tryz.ld43 Tryz.st43 Tryz.ld50 Tryz.st50 Tryz.ld52 Tryz.st52 Tryz.ld54 Tryz.st54 Tryz.ld81 Tryz.st81 Tryz.ld112 Tryz.st112 Tryz.ld120 Tryz.st120 Tryz.ld176 Tryz.st176 Tryz.ld179 Tryz.st179 Tryz.ld182 Tryz.st182 Tryz.ld184 Tryz.st184 Tryz.ld234 Tryz.st234 Tryz.ld236 Tryz.st236 Tryz.ld240 Tryz.st240 Tryz.ld246 Tryz.st246 Tryz.ld249 Tryz.st249 Tryz.al35 Tryz.al48 Tryz.al47 Tryz.al79 Tryz.al177 Tryz.al180 Tryz.al231 Tryz.al232 Tryz.al26 Tryz.al38 Tryz.al40 Tryz.al43 Tryz.al50 Tryz.al52 Tryz.al54 Tryz.al81 Tryz.al112 Tryz.al120 Tryz.al176 Tryz.al179 Tryz.al182 Tryz.al184 Tryz.al234 Tryz.al236 Tryz.al240 Tryz.al246 Tryz.al249
attribute [local go_sem] Player.length_enc Player.ok_enc Player.all_get Player.all_set Player.hand_get Player.hand_set Player.aside_get Player.aside_set Message.length_enc Message.ok_enc Message.all_get Message.all_set Message.kind_get Message.kind_set Message.from__get Message.from__set Message.to__get Message.to__set Message.sender_get Message.sender_set Message.receiver_get Message.receiver_set Message.seq_get Message.seq_set Message.token_get Message.token_set Message.amount_get Message.amount_set Message.size_get Message.size_set Message.payload_get Message.payload_set Tx.length_enc Tx.ok_enc Tx.all_get Tx.all_set Tx.kind_get Tx.kind_set Tx.chain_get Tx.chain_set Tx.from__get Tx.from__set Tx.nonce_get Tx.nonce_set Tx.fee_get Tx.fee_set Tx.to__get Tx.to__set Tx.dest_get Tx.dest_set Tx.token_get Tx.token_set Tx.amount_get Tx.amount_set Tx.size_get Tx.size_set Tx.payload_get Tx.payload_set Tx.msg_get Tx.msg_set Tx.msg_kind_get Tx.msg_kind_set Tx.msg_from__get Tx.msg_from__set Tx.msg_to__get Tx.msg_to__set Tx.msg_sender_get Tx.msg_sender_set Tx.msg_receiver_get Tx.msg_receiver_set Tx.msg_seq_get Tx.msg_seq_set Tx.msg_token_get Tx.msg_token_set Tx.msg_amount_get Tx.msg_amount_set Tx.msg_size_get Tx.msg_size_set Tx.msg_payload_get Tx.msg_payload_set GOp.length_enc GOp.ok_enc GOp.all_get GOp.all_set GOp.kind_get GOp.kind_set GOp.tx_get GOp.tx_set GOp.txs_get GOp.txs_set GOp.gas_get GOp.gas_set GOp.acct_get GOp.acct_set GOp.token_get GOp.token_set GOp.chain_get GOp.chain_set GOp.seq_get GOp.seq_set GOp.tx_kind_get GOp.tx_kind_set GOp.tx_chain_get GOp.tx_chain_set GOp.tx_from__get GOp.tx_from__set GOp.tx_nonce_get GOp.tx_nonce_set GOp.tx_fee_get GOp.tx_fee_set GOp.tx_to__get GOp.tx_to__set GOp.tx_dest_get GOp.tx_dest_set GOp.tx_token_get GOp.tx_token_set GOp.tx_amount_get GOp.tx_amount_set GOp.tx_size_get GOp.tx_size_set GOp.tx_payload_get GOp.tx_payload_set GOp.tx_msg_get GOp.tx_msg_set GOp.tx_msg_kind_get GOp.tx_msg_kind_set GOp.tx_msg_from__get GOp.tx_msg_from__set GOp.tx_msg_to__get GOp.tx_msg_to__set GOp.tx_msg_sender_get GOp.tx_msg_sender_set GOp.tx_msg_receiver_get GOp.tx_msg_receiver_set GOp.tx_msg_seq_get GOp.tx_msg_seq_set GOp.tx_msg_token_get GOp.tx_msg_token_set GOp.tx_msg_amount_get GOp.tx_msg_amount_set GOp.tx_msg_size_get GOp.tx_msg_size_set GOp.tx_msg_payload_get GOp.tx_msg_payload_set Summary.length_enc Summary.ok_enc Summary.all_get Summary.all_set Summary.height_get Summary.height_set Summary.txs_get Summary.txs_set Summary.gas_get Summary.gas_set Summary.fees_get Summary.fees_set Summary.sent_get Summary.sent_set Summary.took_get Summary.took_set Summary.minted_get Summary.minted_set Summary.burned_get Summary.burned_set Summary.root_get Summary.root_set Detail.length_enc Detail.ok_enc Detail.all_get Detail.all_set Detail.code_get Detail.code_set Detail.have__get Detail.have__set Detail.need_get Detail.need_set Slot.length_enc Slot.ok_enc Slot.all_get Slot.all_set Slot.nonce_get Slot.nonce_set Slot.balances_get Slot.balances_set Tree.length_enc Tree.ok_enc Tree.all_get Tree.all_set Tree.leaves_get Tree.leaves_set Mark.length_enc Mark.ok_enc Mark.all_get Mark.all_set Mark.from__get Mark.from__set Mark.seq_get Mark.seq_set Receipt.length_enc Receipt.ok_enc Receipt.all_get Receipt.all_set Receipt.code_get Receipt.code_set Receipt.hash_get Receipt.hash_set Receipt.index_get Receipt.index_set Receipt.gas_get Receipt.gas_set Receipt.fee_get Receipt.fee_set Receipt.hasSent_get Receipt.hasSent_set Receipt.sent_get Receipt.sent_set Receipt.hasTook_get Receipt.hasTook_set Receipt.took_get Receipt.took_set Receipt.sent_kind_get Receipt.sent_kind_set Receipt.sent_from__get Receipt.sent_from__set Receipt.sent_to__get Receipt.sent_to__set Receipt.sent_sender_get Receipt.sent_sender_set Receipt.sent_receiver_get Receipt.sent_receiver_set Receipt.sent_seq_get Receipt.sent_seq_set Receipt.sent_token_get Receipt.sent_token_set Receipt.sent_amount_get Receipt.sent_amount_set Receipt.sent_size_get Receipt.sent_size_set Receipt.sent_payload_get Receipt.sent_payload_set Receipt.took_kind_get Receipt.took_kind_set Receipt.took_from__get Receipt.took_from__set Receipt.took_to__get Receipt.took_to__set Receipt.took_sender_get Receipt.took_sender_set Receipt.took_receiver_get Receipt.took_receiver_set Receipt.took_seq_get Receipt.took_seq_set Receipt.took_token_get Receipt.took_token_set Receipt.took_amount_get Receipt.took_amount_set Receipt.took_size_get Receipt.took_size_set Receipt.took_payload_get Receipt.took_payload_set Store.length_enc Store.ok_enc Store.all_get Store.all_set Store.now_get Store.now_set Store.saved_get Store.saved_set GState.length_enc GState.ok_enc GState.all_get GState.all_set GState.kv_get GState.kv_set GState.tree_get GState.tree_set GState.stale_get GState.stale_set GState.touched_get GState.touched_set GState.kv_now_get GState.kv_now_set GState.kv_saved_get GState.kv_saved_set GState.tree_leaves_get GState.tree_leaves_set History.length_enc History.ok_enc History.all_get History.all_set History.ring_get History.ring_set History.closed_get History.closed_set Ledger.length_enc Ledger.ok_enc Ledger.all_get Ledger.all_set Ledger.chain_get Ledger.chain_set Ledger.st_get Ledger.st_set Ledger.height_get Ledger.height_set Ledger.open__get Ledger.open__set Ledger.gasLimit_get Ledger.gasLimit_set Ledger.past_get Ledger.past_set Ledger.begun_get Ledger.begun_set Ledger.sent_get Ledger.sent_set Ledger.took_get Ledger.took_set Ledger.receipts_get Ledger.receipts_set Ledger.st_kv_get Ledger.st_kv_set Ledger.st_tree_get Ledger.st_tree_set Ledger.st_stale_get Ledger.st_stale_set Ledger.st_touched_get Ledger.st_touched_set Ledger.st_kv_now_get Ledger.st_kv_now_set Ledger.st_kv_saved_get Ledger.st_kv_saved_set Ledger.st_tree_leaves_get Ledger.st_tree_leaves_set Ledger.past_ring_get Ledger.past_ring_set Ledger.past_closed_get Ledger.past_closed_set Ledger.begun_kv_get Ledger.begun_kv_set Ledger.begun_tree_get Ledger.begun_tree_set Ledger.begun_stale_get Ledger.begun_stale_set Ledger.begun_touched_get Ledger.begun_touched_set Ledger.begun_kv_now_get Ledger.begun_kv_now_set Ledger.begun_kv_saved_get Ledger.begun_kv_saved_set Ledger.begun_tree_leaves_get Ledger.begun_tree_leaves_set Purse.length_enc Purse.ok_enc Purse.all_get Purse.all_set Purse.st_get Purse.st_set Purse.n_get Purse.n_set Purse.account_get Purse.account_set Purse.token_get Purse.token_set Purse.amount_get Purse.amount_set Plan.length_enc Plan.ok_enc Plan.all_get Plan.all_set Plan.purse_get Plan.purse_set Plan.nonce_get Plan.nonce_set Plan.gasUsed_get Plan.gasUsed_set Plan.fees_get Plan.fees_set Plan.hasSupply_get Plan.hasSupply_set Plan.token_get Plan.token_set Plan.supply_get Plan.supply_set Plan.flowAt_get Plan.flowAt_set Plan.flow_get Plan.flow_set Plan.receipt_get Plan.receipt_set Plan.purse_st_get Plan.purse_st_set Plan.purse_n_get Plan.purse_n_set Plan.purse_account_get Plan.purse_account_set Plan.purse_token_get Plan.purse_token_set Plan.purse_amount_get Plan.purse_amount_set Plan.receipt_code_get Plan.receipt_code_set Plan.receipt_hash_get Plan.receipt_hash_set Plan.receipt_index_get Plan.receipt_index_set Plan.receipt_gas_get Plan.receipt_gas_set Plan.receipt_fee_get Plan.receipt_fee_set Plan.receipt_hasSent_get Plan.receipt_hasSent_set Plan.receipt_sent_get Plan.receipt_sent_set Plan.receipt_hasTook_get Plan.receipt_hasTook_set Plan.receipt_took_get Plan.receipt_took_set Plan.receipt_sent_kind_get Plan.receipt_sent_kind_set Plan.receipt_sent_from__get Plan.receipt_sent_from__set Plan.receipt_sent_to__get Plan.receipt_sent_to__set Plan.receipt_sent_sender_get Plan.receipt_sent_sender_set Plan.receipt_sent_receiver_get Plan.receipt_sent_receiver_set Plan.receipt_sent_seq_get Plan.receipt_sent_seq_set Plan.receipt_sent_token_get Plan.receipt_sent_token_set Plan.receipt_sent_amount_get Plan.receipt_sent_amount_set Plan.receipt_sent_size_get Plan.receipt_sent_size_set Plan.receipt_sent_payload_get Plan.receipt_sent_payload_set Plan.receipt_took_kind_get Plan.receipt_took_kind_set Plan.receipt_took_from__get Plan.receipt_took_from__set Plan.receipt_took_to__get Plan.receipt_took_to__set Plan.receipt_took_sender_get Plan.receipt_took_sender_set Plan.receipt_took_receiver_get Plan.receipt_took_receiver_set Plan.receipt_took_seq_get Plan.receipt_took_seq_set Plan.receipt_took_token_get Plan.receipt_took_token_set Plan.receipt_took_amount_get Plan.receipt_took_amount_set Plan.receipt_took_size_get Plan.receipt_took_size_set Plan.receipt_took_payload_get Plan.receipt_took_payload_set Move.length_enc Move.ok_enc Move.all_get Move.all_set Move.account_get Move.account_set Move.token_get Move.token_set Move.down_get Move.down_set Move.amount_get Move.amount_set Books.length_enc Books.ok_enc Books.all_get Books.all_set Books.sums_get Books.sums_set Books.stored_get Books.stored_set Books.marks_get Books.marks_set Pair.length_enc Pair.ok_enc Pair.all_get Pair.all_set Pair.key_get Pair.key_set Pair.value_get Pair.value_set
attribute [local go_sem] size_put size_ext blk_put free_put blk_alloc free_alloc blk_drew free_drew blk_ext free_ext lookOr_some putOr_some segAt_some cellAt_some storeIn_some put_put put_alloc_new length_arr ok_arr_u8 ok_arr_u32 ok_arr_u64 ok_arr_i64 ok_arr_sl cellsV_agg cellsV_int cellsV_bool cellsV_string cellsV_pointer cellsV_slice cellsV_sl ok_int ok_bool ok_string ok_pointer ok_slice ok_sl toList_arr seg_arr set_arr nth_splice nth_splice0 seg_splice seg_splice0 splice_splice splice_splice0 length_splice_if
attribute [local go_sem ↓] execOp_box
attribute [local go_sem] box_run nth_arr_u8 put_arr_u8 blk_drewN free_drewN put_drewN blk_raw free_raw
attribute [local go_sem] Tryz.ld56 Tryz.st56 Tryz.ld91 Tryz.st91 Tryz.al56 Tryz.al91 Answer.length_enc Answer.ok_enc Answer.all_get Answer.all_set Answer.code_get Answer.code_set Answer.receipts_get Answer.receipts_set Answer.moves_get Answer.moves_set Answer.failed_get Answer.failed_set Answer.value_get Answer.value_set Answer.yes_get Answer.yes_set Answer.root_get Answer.root_set Answer.summary_get Answer.summary_set Answer.detail_get Answer.detail_set Answer.slot_get Answer.slot_set Answer.summary_height_get Answer.summary_height_set Answer.summary_txs_get Answer.summary_txs_set Answer.summary_gas_get Answer.summary_gas_set Answer.summary_fees_get Answer.summary_fees_set Answer.summary_sent_get Answer.summary_sent_set Answer.summary_took_get Answer.summary_took_set Answer.summary_minted_get Answer.summary_minted_set Answer.summary_burned_get Answer.summary_burned_set Answer.summary_root_get Answer.summary_root_set Answer.detail_code_get Answer.detail_code_set Answer.detail_have__get Answer.detail_have__set Answer.detail_need_get Answer.detail_need_set Answer.slot_nonce_get Answer.slot_nonce_set Answer.slot_balances_get Answer.slot_balances_set Block.length_enc Block.ok_enc Block.all_get Block.all_set Block.gasLimit_get Block.gasLimit_set Block.txs_get Block.txs_set
set_option maxRecDepth 100000 in
theorem frame89 (f : Nat → Value) : frameN 89 f = #[f 0, f 1, f 2, f 3, f 4, f 5, f 6, f 7, f 8, f 9, f 10, f 11, f 12, f 13, f 14, f 15, f 16, f 17, f 18, f 19, f 20, f 21, f 22, f 23, f 24, f 25, f 26, f 27, f 28, f 29, f 30, f 31, f 32, f 33, f 34, f 35, f 36, f 37, f 38, f 39, f 40, f 41, f 42, f 43, f 44, f 45, f 46, f 47, f 48, f 49, f 50, f 51, f 52, f 53, f 54, f 55, f 56, f 57, f 58, f 59, f 60, f 61, f 62, f 63, f 64, f 65, f 66, f 67, f 68, f 69, f 70, f 71, f 72, f 73, f 74, f 75, f 76, f 77, f 78, f 79, f 80, f 81, f 82, f 83, f 84, f 85, f 86, f 87, f 88] := by kernel_rfl
theorem newL_cli (c : UInt8) : ClI (newL c) := ⟨⟨Nat.le_refl _, Nat.le_refl _, Nat.le_refl _, Nat.zero_le _, Nat.zero_le _, Nat.zero_le _, by show 0 + 20 < _; omega⟩, (fun l hl => by cases hl), Nat.zero_le _⟩
set_option maxRecDepth 100000 in
theorem field56 (w : World) (x : Answer) : (Instr.field 56 (.agg x.enc.toArray) 0).run Tryz.prog w = .ok (.int .i64 x.code) w := by kernel_rfl
def lwI (W : World) (a : Option Addr) (len cap : Nat) (g : Nat → GOp) (bp b1 bc : Nat) (pl : Player) (F : Nat → Value) (V : World) : Prop := F 3 = .pointer (some ⟨bp, 0, none⟩) ∧ F 4 = .pointer (some ⟨bc, 0, none⟩) ∧ F 21 = .slice a len cap ∧ F 22 = .int .i64 (len : Nat) ∧ ∃ i : Nat, i ≤ len ∧ F 23 = .int .i64 (i : Nat) ∧ Hid (∃ L, TwI W b1 bc [(bp, pl.enc)] L L V ∧ Cld L (2 * i) (20 * sumT g i))
attribute [local go_sem ↓] execOp_build execOp_bslice execOp_neq47 execOp_eql47
attribute [local go_sem] build91s build91b bslice92 build43b neq47 field56
set_option maxRecDepth 200000 in
set_option maxHeartbeats 2000000 in
theorem replay_walk (W : World) (a : Option Addr) (len cap : Nat) (g : Nat → GOp) (dt : Nat → List Tx) (hS : ScriptAt W a len cap g dt) : Calls Tryz.prog 4 #[.slice a len cap] W fun e V => e = .returned (.bool true) ∧ W.Extends V := by
  obtain ⟨Q, hQ⟩ : ∃ Q : Ending → World → Prop, Q = fun e V => e = .returned (.bool true) ∧ W.Extends V := ⟨_, rfl⟩
  rw [← hQ]
  have HQ := hid_of hQ
  have HS := hid_of hS
  have hsm := small2_any W a len cap g dt hS
  have hch := chainOf2_any W a len cap g dt hS
  clear hQ hS
  go_enter Tryz.func4, Tryz.ntmps4
  go_wp2_with fail
  refine hsm.mono ?_
  clear hsm
  rintro e V0 ⟨⟨r, rfl, hr⟩, rfl⟩
  dsimp only
  cases r with
  | false =>
    have HP : Hid (Q (.returned (.bool true)) V0) := by
      show Q _ _
      rw [HQ.out]
      exact ⟨rfl, ext_Ext (Ext.refl _)⟩
    clear hch hr HS HQ
    go_wp2_with fail
    try (first | go_ret | go_ret2 | go_ret3 | go_end0)
    exact HP.out
  | true =>
  have HR := hid_of (hr rfl)
  clear hr
  go_wp2_with fail
  refine hch.mono ?_
  clear hch
  rintro e V0' ⟨c, hc, rfl, rfl⟩
  dsimp only
  have hnp := newPlayer_any (fun _ => .no) V0' c hc
  clear hc
  go_wp2_with fail
  refine hnp.mono ?_
  clear hnp
  rintro e V1 ⟨b1, b2, O1, rfl, hx1, hb1, hO1, hL1⟩
  dsimp only
  obtain ⟨pl, hpl⟩ : ∃ pl, pl = Player.mk (some ⟨b1, 0, none⟩) (some ⟨b2, 0, none⟩) := ⟨_, rfl⟩
  rw [← hpl]
  obtain ⟨W2, hW2⟩ : ∃ W2 : World, W2 = V1.alloc (.cells pl.enc.toArray 26) := ⟨_, rfl⟩
  have hx2 : V1.Extends W2 := by rw [hW2]; exact extends_alloc (ext_Ext (Ext.refl _)) _
  obtain ⟨bp, hbp⟩ : ∃ bp, bp = V1.heap.size := ⟨_, rfl⟩
  have kp2 : blk W2 bp = some pl.enc := by rw [hW2, hbp, blk_alloc, if_pos rfl]
  have kq2 : free W2 bp = true := by rw [hW2, hbp, free_alloc, if_pos rfl]
  have hL2 := hL1.ext hx2
  have o2 : lab O1 V1.heap.size .no bp = .no := lab_ge (by omega)
  have hcl := clone42_any _ W2 b1 (newL c) hL2 (newL_cli c)
  have hph : nth pl.enc 0 = some (.pointer (some ⟨b1, 0, none⟩)) := by rw [hpl]; exact Player.hand_get _
  have lpl : pl.enc.length = 2 := Player.length_enc _
  have HW2 := hid_of hW2
  have HBP := hid_of hbp
  have HA : Hid (V0'.Extends W2 ∧ V0'.heap.size ≤ bp ∧ (∀ k, k < V0'.heap.size → lab O1 V1.heap.size .no k = .no) ∧ LedA (lab O1 V1.heap.size .no) W2 b1 (newL c) ∧ lab O1 V1.heap.size .no bp = .no) := ⟨hx1.trans hx2, by rw [hbp]; exact hx1.size, fun k hk => (lab_lt (Nat.lt_of_lt_of_le hk hx1.size)).trans (hO1 k hk), hL2, o2⟩
  generalize lab O1 V1.heap.size .no = O2 at HA hcl
  have HPL := hid_of hpl
  clear hx1 hO1 hL1 hW2 hx2 hbp hL2 o2 hb1 hpl
  go_upto_region 4 with fail
  rw [← HW2.out, ← HBP.out]
  clear HW2 HBP
  go_wp2_with fail
  refine hcl.mono ?_
  clear hcl
  rintro e V3 ⟨bc, rfl, hC⟩
  dsimp only
  have HI0 : Hid (∃ L, TwI V0' b1 bc [(bp, pl.enc)] L L V3 ∧ Cld L (2 * 0) (20 * sumT g 0)) := by
    obtain ⟨h1, h2, O3, h3, h4⟩ := hC
    rw [newL_clo] at h4
    obtain ⟨q1, q2, q3, q4, q5⟩ := HA.out
    refine ⟨newL c, ⟨?_, O3, q1.trans h1, fun k hk => (h3 k (Nat.lt_of_lt_of_le hk q1.size)).trans (q3 k hk), q4.grow h1 h3, h4, fun p hp => ?_⟩, newL_cld c⟩
    · obtain ⟨sn, ss, bn, ms, mt, mr, q⟩ := q4
      have := blk_lt q.hblk
      omega
    · rw [List.mem_singleton] at hp
      subst hp
      exact ⟨(h1.blk (blk_lt kp2)).trans kp2, (free_of_heap (h1.block _ (blk_lt kp2))).trans kq2, (h3 bp (blk_lt kp2)).trans q5, q2⟩
  clear hC HA kp2 kq2
  go_wp2_with fail
  refine wp_loop_f 89 (lwI V0' a len cap g bp b1 bc pl) (fun f _ => len - (intOf (f 23)).toNat) rfl ⟨rfl, rfl, rfl, rfl, 0, Nat.zero_le _, rfl, HI0⟩ ?_
  clear HI0
  intro F V hrel
  obtain ⟨f3, f4, f21, f22, i, hi, f23, HI⟩ := hrel
  have H23 := hid_of f23
  rw [frame89, f3, f4, f21, f22, f23]
  clear f3 f4 f21 f22 f23
  obtain ⟨L, h0, hC⟩ := HI.out
  clear HI
  by_cases hin : i < len
  rotate_left 1
  · have HP : Hid (Q (.returned (.bool true)) V) := by
      show Q _ _
      rw [HQ.out]
      exact ⟨rfl, h0.we⟩
    have hin' : ¬ (i : Int) < (len : Int) := by omega
    clear hin hi h0 hC HQ HS HR
    go_wp2_with fail
    try (first | go_ret | go_ret2 | go_ret3 | go_end0)
    exact HP.out
  have hin' : (i : Int) < (len : Int) := by omega
  have p0 : (0 : Int) ≤ (i : Int) := by omega
  have p2 : ((i : Int)).toNat = i := by omega
  obtain ⟨b, o, C, ha, kb0, hlen, hseg⟩ := HS.out.2.2.2 (by omega)
  have hsg := hseg i hin
  have kb : blk V b = some C := (h0.we.blk (blk_lt kb0)).trans kb0
  obtain ⟨hft, hT, -⟩ := HS.out.2.2.1 i hin
  have g90 : o + i * 90 + 90 ≤ C.length := by omega
  have hsum : len + sumT g len ≤ 65536 := HR.out
  have hsm := sumT_mono g (show i + 1 ≤ len from hin)
  have hsi : sumT g (i + 1) = sumT g i + (g i).txs.len := rfl
  have hXl : (dt i).length = (g i).txs.len := hT.1
  obtain ⟨x, hx⟩ : ∃ x, x = g i := ⟨_, rfl⟩
  rw [← hx] at hsg hft hT hsi hXl
  obtain ⟨X, hX⟩ : ∃ X, X = dt i := ⟨_, rfl⟩
  rw [← hX] at hT hXl
  have h1 := h0.box x.enc 43
  obtain ⟨V1', hV1⟩ : ∃ V1', V1' = V.alloc (.cells x.enc.toArray 43) := ⟨_, rfl⟩
  obtain ⟨bo, hbo⟩ : ∃ bo, bo = V.heap.size := ⟨_, rfl⟩
  rw [← hV1, ← hbo] at h1
  have ko := (h1.at (b := bo) (C := x.enc) (by simp)).1
  have hi9 : (i : Int) + 1 ≤ 65537 := by omega
  have HV1 := hid_of hV1
  have HBO := hid_of hbo
  have HN : Hid (i < len ∧ 2 * i + 10 < 1000000000 ∧ 20 * sumT g i + 20 * X.length + 300 < 1000000000 ∧ X.length ≤ 1000000 ∧ 20 * sumT g (i + 1) = 20 * sumT g i + 20 * X.length) := ⟨hin, by omega, by omega, by omega, by rw [hsi, hXl]; omega⟩
  subst ha
  clear hin hi hseg kb0 hft hsum hsm hsi hXl hV1 hbo hx hX h0
  go_upto_region 8 with fail
  rw [← HV1.out, ← HBO.out]
  clear HV1 HBO kb hsg g90 hlen
  by_cases hk : x.kind = 18
  rotate_left 1
  · have HJ : Hid (∃ L, TwI V0' b1 bc [(bp, pl.enc)] L L V1' ∧ Cld L (2 * (i + 1)) (20 * sumT g (i + 1))) := ⟨L, h1.sub (fun p hp => List.mem_cons_of_mem _ hp), hC.mono (by omega) (by have := HN.out.2.2.2.2; omega)⟩
    have hkb : (x.kind != 18) = true := by simp [hk]
    generalize hxk : x.kind = xk at hk hkb
    have hn0 : nth x.enc 0 = some (.int .i64 xk) := by rw [← hxk]; exact GOp.kind_get x
    have lx : x.enc.length = 90 := GOp.length_enc _
    generalize x.enc = XE at ko hn0 lx ⊢
    clear h1 hC hk hxk hT
    have HI9 := hid_of hi9
    clear hi9
    go_upto_region 22 with fail
    have hi9 := HI9.out
    clear hkb hn0 ko
    go_wp2_with fail
    refine ⟨rfl, rfl, ⟨rfl, rfl, rfl, rfl, i + 1, HN.out.1, ?_, HJ⟩, ?_⟩
    · show Value.int .i64 _ = _
      go_num
    · show len - (intOf (Value.int .i64 _)).toNat < len - (intOf (F 23)).toNat
      rw [H23.out]
      have := HN.out.1
      simp [intOf]; omega
  have hkb : (x.kind != 18) = false := by simp [hk]
  have hrep := hC.rep x.gas x.txs ⟨Option.none, 0, 0⟩ X (by have := HN.out.2.1; omega)
  have hst := h1.step (bp := bp) (pa := some ⟨b2, 0, none⟩) (by rw [← HPL.out]; simp) x X hk (hC.exok x.gas X (by have := HN.out.2.2.1; omega) HN.out.2.2.2.1) hT
  have hrok := hC.repok x.gas x.txs ⟨Option.none, 0, 0⟩ X (by have := HN.out.2.1; omega) (by have := HN.out.2.2.1; omega) HN.out.2.2.2.1
  obtain ⟨cd, L1, dn, rt, L2, hcd, hL1, hrp, HD⟩ : ∃ (cd : Int) (L1 : PLg) (dn : Nat) (rt : Dig) (L2 : PLg), (exeF L x.gas X).1.code = cd ∧ (exeF L x.gas X).2 = L1 ∧ repF L [(x.gas, x.txs, X), (1, ⟨Option.none, 0, 0⟩, [])] 0 = ((dn, rt, cd), L2) ∧ Hid ((cd ≠ 0 ∧ L1 = L ∧ dn = 0 ∧ rt = rootD L.st ∧ L2 = L) ∨ (cd = 0 ∧ dn = 2 ∧ rt = rootD L1.st ∧ Cld L1 (2 * i + 1) (20 * sumT g i + 20 * X.length) ∧ Cld L2 (2 * i + 2) (20 * sumT g i + 20 * X.length) ∧ (exeF L1 1 []).1.code = 0 ∧ (exeF L1 1 []).2 = L2)) := by
    rcases hrep with ⟨q1, q2, q3⟩ | ⟨q1, q2, q3, q4, q5⟩
    · exact ⟨_, _, _, _, _, rfl, q2, q3, Or.inl ⟨q1, rfl, rfl, rfl, rfl⟩⟩
    · exact ⟨_, _, _, _, _, rfl, rfl, by rw [q5, q1], Or.inr ⟨q1, rfl, rfl, q2, q3, q4, rfl⟩⟩
  rw [hcd, hL1] at hst
  clear hrep hcd hL1
  have HT := hid_of hT
  have HRK := hid_of hrok
  have HRP := hid_of hrp
  have HC := hid_of hC
  clear hrok hrp hT hC
  go_wp2_with fail
  refine hst.mono ?_
  clear hst
  rintro e V2 ⟨⟨ans, rfl, hac⟩, h2⟩
  dsimp only
  have h3 := h2.box ans.enc 56
  obtain ⟨V3', hV3⟩ : ∃ V3', V3' = V2.alloc (.cells ans.enc.toArray 56) := ⟨_, rfl⟩
  obtain ⟨ba, hba⟩ : ∃ ba, ba = V2.heap.size := ⟨_, rfl⟩
  rw [← hV3, ← hba] at h3
  have hrt := h3.swap.root
  have HV3 := hid_of hV3
  have HBA := hid_of hba
  clear h1 h2 ko hV3 hba
  go_upto_region 10 with fail
  rw [← HV3.out, ← HBA.out]
  clear HV3 HBA h3
  go_wp2_with fail
  refine hrt.mono ?_
  clear hrt
  rintro e V4 ⟨rfl, h4⟩
  dsimp only
  rw [HC.out.rot] at h4
  obtain ⟨D0, hD0⟩ : ∃ D0, D0 = rootD L.st := ⟨_, rfl⟩
  rw [← hD0]
  have h5 := h4.box (arr u8v D0) 47
  obtain ⟨V5, hV5⟩ : ∃ V5, V5 = V4.alloc (.cells (arr u8v D0).toArray 47) := ⟨_, rfl⟩
  obtain ⟨bd, hbd⟩ : ∃ bd, bd = V4.heap.size := ⟨_, rfl⟩
  rw [← hV5, ← hbd] at h5
  have kx := (h5.at (b := bo) (C := x.enc) (by simp)).1
  have h6 := h5.box ((Block.mk x.gas x.txs).enc ++ (Block.mk 1 ⟨Option.none, 0, 0⟩).enc) 91
  obtain ⟨V6, hV6⟩ : ∃ V6, V6 = V5.alloc (.cells ((Block.mk x.gas x.txs).enc ++ (Block.mk 1 ⟨Option.none, 0, 0⟩).enc).toArray 91) := ⟨_, rfl⟩
  obtain ⟨bb, hbb⟩ : ∃ bb, bb = V5.heap.size := ⟨_, rfl⟩
  rw [← hV6, ← hbb] at h6
  have hrp := h6.replay (bb := bb) (c := 2) x.gas x.txs X (by simp) HRK.out HT.out
  rw [HRP.out] at hrp
  dsimp only at hrp
  have HV5 := hid_of hV5
  have HBD := hid_of hbd
  have HV6 := hid_of hV6
  have HBB := hid_of hbb
  have HD0 := hid_of hD0
  clear h4 h5 h6 hV5 hbd hV6 hbb hD0
  go_upto_region 11 with fail
  rw [← HV5.out, ← HBD.out]
  clear HV5 HBD
  go_wp2_with fail
  rw [← HV6.out, ← HBB.out]
  clear HV6
  refine hrp.mono ?_
  clear hrp
  rintro e V7 ⟨rfl, h7⟩
  dsimp only
  have h8 := h7.box (arr u8v rt) 47
  obtain ⟨V8, hV8⟩ : ∃ V8, V8 = V7.alloc (.cells (arr u8v rt).toArray 47) := ⟨_, rfl⟩
  obtain ⟨bq, hbq⟩ : ∃ bq, bq = V7.heap.size := ⟨_, rfl⟩
  rw [← hV8, ← hbq] at h8
  have HV8 := hid_of hV8
  have HBQ := hid_of hbq
  clear h7 hV8 hbq kx
  go_upto_region 12 with fail
  rw [← HV8.out, ← HBQ.out]
  clear HV8 HBQ
  have ka := (h8.at (b := ba) (C := ans.enc) (by simp)).1
  have kd := (h8.at (b := bd) (C := arr u8v D0) (by simp)).1
  have kq := (h8.at (b := bq) (C := arr u8v rt) (by simp)).1
  have HI9 := hid_of hi9
  clear hi9
  have hE1 : EqI L := HC.out.eqi (by have := HN.out.2.1; omega) (by have := HN.out.2.2.1; omega)
  rcases HD.out with ⟨d1, d2, d3, d4, d5⟩ | ⟨d1, d2, d3, d4, d5, d6, d7⟩
  · subst d2
    subst d5
    subst d3
    have hrt' : rt = D0 := by rw [d4, HD0.out]
    subst hrt'
    have hcn : (cd != 0) = true := by simp [d1]
    have hcz : (cd == 0) = false := by simp [d1]
    have hrr : eqA rt rt = true := eqA_self rt
    have h9 : TwI V0' bc b1 [(bq, arr u8v rt), (bb, (Block.mk x.gas x.txs).enc ++ (Block.mk 1 ⟨Option.none, 0, 0⟩).enc), (bd, arr u8v rt), (ba, ans.enc), (bo, x.enc), (bp, pl.enc)] L2 L2 V8.drew := h8.ext (extends_drewN (ext_Ext (Ext.refl V8)) 1)
    have heq := equal_any V8.drew bc b1 L2 L2 h9.rd2 hE1 hE1
    rw [HC.out.eql] at heq
    clear d1 d4 hE1 h8
    go_upto_region 16 with fail
    repeat go_step
    refine wp_region_F 12 (fun W' => True) (by kernel_rfl) trivial (fun hHeld => ?_)
    refine wpAnyF_take (i := 0) (oi := ⟨_, _, _, _, _, _⟩) (v := ?_) rfl (by kernel_rfl) (by kernel_rfl) (by kernel_rfl) (by kernel_rfl) (by kernel_rfl) (fun _ _ _ h => h) (Or.inl ⟨by rfl, ?_⟩) (by assumption) ?_
    rotate_left 1
    · intro W' hSw
      go_simp
      try with_reducible rfl
    try simp only [Act.put, List.setIfInBounds_toArray, List.set_cons_zero, List.set_cons_succ]
    refine wpAnyF_take (i := 1) (oi := ⟨_, _, _, _, _, _⟩) (v := ?_) rfl (by kernel_rfl) (by kernel_rfl) (by kernel_rfl) (by kernel_rfl) (by kernel_rfl) (fun _ _ _ h => h) (Or.inl ⟨by rfl, ?_⟩) (by assumption) ?_
    rotate_left 1
    · intro W' hSw
      go_simp
      try with_reducible rfl
    try simp only [Act.put, List.setIfInBounds_toArray, List.set_cons_zero, List.set_cons_succ]
    refine wpAnyF_take (i := 2) (oi := ⟨_, _, _, _, _, _⟩) (v := ?_) rfl (by kernel_rfl) (by kernel_rfl) (by kernel_rfl) (by kernel_rfl) (by kernel_rfl) (fun _ _ _ h => h) (Or.inl ⟨by rfl, ?_⟩) (by assumption) ?_
    rotate_left 1
    · intro W' hSw
      go_simp
      try with_reducible rfl
    try simp only [Act.put, List.setIfInBounds_toArray, List.set_cons_zero, List.set_cons_succ]
    refine wpAnyF_take (i := 3) (oi := ⟨_, _, _, _, _, _⟩) (v := undef) rfl (by kernel_rfl) (by kernel_rfl) (by kernel_rfl) (by kernel_rfl) (by kernel_rfl) (fun _ _ _ h => h) (Or.inr ⟨by rfl, rfl⟩) (by assumption) ?_
    try simp only [Act.put, List.setIfInBounds_toArray, List.set_cons_zero, List.set_cons_succ]
    refine wpAnyF_take (i := 4) (oi := ⟨_, _, _, _, _, _⟩) (v := undef) rfl (by kernel_rfl) (by kernel_rfl) (by kernel_rfl) (by kernel_rfl) (by kernel_rfl) (fun _ _ _ h => h) (Or.inr ⟨by rfl, rfl⟩) (by assumption) ?_
    try simp only [Act.put, List.setIfInBounds_toArray, List.set_cons_zero, List.set_cons_succ]
    refine wpAnyF_take (i := 5) (oi := ⟨_, _, _, _, _, _⟩) (v := undef) rfl (by kernel_rfl) (by kernel_rfl) (by kernel_rfl) (by kernel_rfl) (by kernel_rfl) (fun _ _ _ h => h) (Or.inr ⟨by rfl, rfl⟩) (by assumption) ?_
    try simp only [Act.put, List.setIfInBounds_toArray, List.set_cons_zero, List.set_cons_succ]
    refine wpAnyF_take (i := 6) (oi := ⟨_, _, _, _, _, _⟩) (v := undef) rfl (by kernel_rfl) (by kernel_rfl) (by kernel_rfl) (by kernel_rfl) (by kernel_rfl) (fun _ _ _ h => h) (Or.inr ⟨by rfl, rfl⟩) (by assumption) ?_
    try simp only [Act.put, List.setIfInBounds_toArray, List.set_cons_zero, List.set_cons_succ]
    refine wpAnyF_take (i := 7) (oi := ⟨_, _, _, _, _, _⟩) (v := undef) rfl (by kernel_rfl) (by kernel_rfl) (by kernel_rfl) (by kernel_rfl) (by kernel_rfl) (fun _ _ _ h => h) (Or.inr ⟨by rfl, rfl⟩) (by assumption) ?_
    try simp only [Act.put, List.setIfInBounds_toArray, List.set_cons_zero, List.set_cons_succ]
    refine wpAnyF_take (i := 8) (oi := ⟨_, _, _, _, _, _⟩) (v := undef) rfl (by kernel_rfl) (by kernel_rfl) (by kernel_rfl) (by kernel_rfl) (by kernel_rfl) (fun _ _ _ h => h) (Or.inr ⟨by rfl, rfl⟩) (by assumption) ?_
    try simp only [Act.put, List.setIfInBounds_toArray, List.set_cons_zero, List.set_cons_succ]
    refine wpAnyF_take (i := 9) (oi := ⟨_, _, _, _, _, _⟩) (v := undef) rfl (by kernel_rfl) (by kernel_rfl) (by kernel_rfl) (by kernel_rfl) (by kernel_rfl) (fun _ _ _ h => h) (Or.inr ⟨by rfl, rfl⟩) (by assumption) ?_
    try simp only [Act.put, List.setIfInBounds_toArray, List.set_cons_zero, List.set_cons_succ]
    refine wpAnyF_take (i := 10) (oi := ⟨_, _, _, _, _, _⟩) (v := undef) rfl (by kernel_rfl) (by kernel_rfl) (by kernel_rfl) (by kernel_rfl) (by kernel_rfl) (fun _ _ _ h => h) (Or.inr ⟨by rfl, rfl⟩) (by assumption) ?_
    try simp only [Act.put, List.setIfInBounds_toArray, List.set_cons_zero, List.set_cons_succ]
    refine wpAnyF_take (i := 11) (oi := ⟨_, _, _, _, _, _⟩) (v := undef) rfl (by kernel_rfl) (by kernel_rfl) (by kernel_rfl) (by kernel_rfl) (by kernel_rfl) (fun _ _ _ h => h) (Or.inr ⟨by rfl, rfl⟩) (by assumption) ?_
    try simp only [Act.put, List.setIfInBounds_toArray, List.set_cons_zero, List.set_cons_succ]
    refine wpAnyF_last (o := ⟨_, _, _, _, _, _⟩) (by kernel_rfl) rfl (fun K' hK => ?_)
    go_simp
    refine hK.out _ _ ?_
    clear hK K'
    try simp only [Act.put, List.setIfInBounds_toArray, List.set_cons_zero, List.set_cons_succ]
    refine wpAnyF_done (by kernel_rfl) ?_ _
    clear hHeld
    have kp8 := (h9.at (b := bp) (C := pl.enc) (by simp)).1
    go_wp2_with fail
    refine heq.mono ?_
    clear heq
    rintro e V9 ⟨rfl, he9⟩
    dsimp only
    have HJ : Hid (∃ L, TwI V0' b1 bc [(bp, pl.enc)] L L V9 ∧ Cld L (2 * (i + 1)) (20 * sumT g (i + 1))) := ⟨L2, (h9.ext he9).swap.sub (fun p hp => by rw [List.mem_singleton] at hp; rw [hp]; simp), HC.out.mono (by omega) (by have := HN.out.2.2.2.2; omega)⟩
    have hi9 := HI9.out
    clear h9 he9 ka kd kq kp8 hac hcn hcz hrr hk hkb
    go_wp2_with fail
    refine ⟨rfl, rfl, ⟨rfl, rfl, rfl, rfl, i + 1, HN.out.1, ?_, HJ⟩, ?_⟩
    · show Value.int .i64 _ = _
      go_num
    · show len - (intOf (Value.int .i64 _)).toNat < len - (intOf (F 23)).toNat
      rw [H23.out]
      have := HN.out.1
      simp [intOf]; omega
  · subst d1
    subst d2
    have hrr : eqA rt rt = true := eqA_self rt
    have h9 : TwI V0' bc b1 [(bq, arr u8v rt), (bb, (Block.mk x.gas x.txs).enc ++ (Block.mk 1 ⟨Option.none, 0, 0⟩).enc), (bd, arr u8v D0), (ba, ans.enc), (bo, x.enc), (bp, pl.enc)] L2 L1 V8.drew := h8.ext (extends_drewN (ext_Ext (Ext.refl V8)) 1)
    have hrt := h9.swap.root
    rw [d4.rot, ← d3] at hrt
    have kp9 := (h9.at (b := bp) (C := pl.enc) (by simp)).1
    have kq9 := (h9.at (b := bq) (C := arr u8v rt) (by simp)).1
    clear h8 d3 hE1
    go_upto_region 16 with fail
    repeat go_step
    refine wp_region_F 12 (fun W' => blk W' bq = some (arr u8v rt) ∧ blk W' bp = some pl.enc) (by kernel_rfl) ⟨kq9, kp9⟩ (fun hHeld => ?_)
    refine wpAnyF_take (i := 0) (oi := ⟨_, _, _, _, _, _⟩) (v := ?_) rfl (by kernel_rfl) (by kernel_rfl) (by kernel_rfl) (by kernel_rfl) (by kernel_rfl) (fun _ _ _ h => h) (Or.inl ⟨by rfl, ?_⟩) (by assumption) ?_
    rotate_left 1
    · intro W' hSw
      obtain ⟨hS1, hS2⟩ := hSw
      go_simp
      try with_reducible rfl
    try simp only [Act.put, List.setIfInBounds_toArray, List.set_cons_zero, List.set_cons_succ]
    refine wpAnyF_take (i := 1) (oi := ⟨_, _, _, _, _, _⟩) (v := ?_) rfl (by kernel_rfl) (by kernel_rfl) (by kernel_rfl) (by kernel_rfl) (by kernel_rfl) (fun _ _ _ h => h) (Or.inl ⟨by rfl, ?_⟩) (by assumption) ?_
    rotate_left 1
    · intro W' hSw
      obtain ⟨hS1, hS2⟩ := hSw
      go_simp
      try with_reducible rfl
    try simp only [Act.put, List.setIfInBounds_toArray, List.set_cons_zero, List.set_cons_succ]
    refine wpAnyF_take (i := 2) (oi := ⟨_, _, _, _, _, _⟩) (v := ?_) rfl (by kernel_rfl) (by kernel_rfl) (by kernel_rfl) (by kernel_rfl) (by kernel_rfl) (fun _ _ _ h => h) (Or.inl ⟨by rfl, ?_⟩) (by assumption) ?_
    rotate_left 1
    · intro W' hSw
      obtain ⟨hS1, hS2⟩ := hSw
      go_simp
      try with_reducible rfl
    try simp only [Act.put, List.setIfInBounds_toArray, List.set_cons_zero, List.set_cons_succ]
    refine wpAnyF_take (i := 3) (oi := ⟨_, _, _, _, _, _⟩) (v := ?_) rfl (by kernel_rfl) (by kernel_rfl) (by kernel_rfl) (by kernel_rfl) (by kernel_rfl) (fun _ _ _ h => h) (Or.inl ⟨by rfl, ?_⟩) (by assumption) ?_
    rotate_left 1
    · intro W' hSw
      obtain ⟨hS1, hS2⟩ := hSw
      go_simp
      try with_reducible rfl
    try simp only [Act.put, List.setIfInBounds_toArray, List.set_cons_zero, List.set_cons_succ]
    refine wpAnyF_take (i := 4) (oi := ⟨_, _, _, _, _, _⟩) (v := ?_) rfl (by kernel_rfl) (by kernel_rfl) (by kernel_rfl) (by kernel_rfl) (by kernel_rfl) (fun _ _ _ h => h) (Or.inl ⟨by rfl, ?_⟩) (by assumption) ?_
    rotate_left 1
    · intro W' hSw
      obtain ⟨hS1, hS2⟩ := hSw
      go_simp
      try with_reducible rfl
    try simp only [Act.put, List.setIfInBounds_toArray, List.set_cons_zero, List.set_cons_succ]
    refine wpAnyF_take (i := 5) (oi := ⟨_, _, _, _, _, _⟩) (v := ?_) rfl (by kernel_rfl) (by kernel_rfl) (by kernel_rfl) (by kernel_rfl) (by kernel_rfl) (fun _ _ _ h => h) (Or.inl ⟨by rfl, ?_⟩) (by assumption) ?_
    rotate_left 1
    · intro W' hSw
      obtain ⟨hS1, hS2⟩ := hSw
      go_simp
      try with_reducible rfl
    try simp only [Act.put, List.setIfInBounds_toArray, List.set_cons_zero, List.set_cons_succ]
    refine wpAnyF_take (i := 6) (oi := ⟨_, _, _, _, _, _⟩) (v := ?_) rfl (by kernel_rfl) (by kernel_rfl) (by kernel_rfl) (by kernel_rfl) (by kernel_rfl) (fun _ _ _ h => h) (Or.inl ⟨by rfl, ?_⟩) (by assumption) ?_
    rotate_left 1
    · intro W' hSw
      obtain ⟨hS1, hS2⟩ := hSw
      go_simp
      try with_reducible rfl
    try simp only [Act.put, List.setIfInBounds_toArray, List.set_cons_zero, List.set_cons_succ]
    refine wpAnyF_take (i := 7) (oi := ⟨_, _, _, _, _, _⟩) (v := ?_) rfl (by kernel_rfl) (by kernel_rfl) (by kernel_rfl) (by kernel_rfl) (by kernel_rfl) (fun _ _ _ h => h) (Or.inl ⟨by rfl, ?_⟩) (by assumption) ?_
    rotate_left 1
    · intro W' hSw
      obtain ⟨hS1, hS2⟩ := hSw
      go_simp
      try with_reducible rfl
    try simp only [Act.put, List.setIfInBounds_toArray, List.set_cons_zero, List.set_cons_succ]
    refine wpAnyF_take (i := 8) (oi := ⟨_, _, _, _, _, _⟩) (v := ?_) rfl (by kernel_rfl) (by kernel_rfl) (by kernel_rfl) (by kernel_rfl) (by kernel_rfl) (fun _ _ _ h => h) (Or.inl ⟨by rfl, ?_⟩) (by assumption) ?_
    rotate_left 1
    · intro W' hSw
      obtain ⟨hS1, hS2⟩ := hSw
      go_simp
      try with_reducible rfl
    try simp only [Act.put, List.setIfInBounds_toArray, List.set_cons_zero, List.set_cons_succ]
    refine wpAnyF_one (o := ⟨_, _, _, _, _, _⟩) (i := 9) (by kernel_rfl) rfl rfl (fun K' hK => ?_)
    go_simp
    refine hrt.mono ?_
    clear hrt
    rintro e V9 ⟨rfl, h10⟩
    dsimp only
    have kp10 := (h10.at (b := bp) (C := pl.enc) (by simp)).1
    have kq10 := (h10.at (b := bq) (C := arr u8v rt) (by simp)).1
    refine hK.out _ _ ⟨kq10, kp10⟩ (fun hHeld => ?_)
    clear hK K'
    try simp only [Act.put, List.setIfInBounds_toArray, List.set_cons_zero, List.set_cons_succ]
    refine wpAnyF_take (i := 10) (oi := ⟨_, _, _, _, _, _⟩) (v := ?_) rfl (by kernel_rfl) (by kernel_rfl) (by kernel_rfl) (by kernel_rfl) (by kernel_rfl) (fun _ _ _ h => h) (Or.inl ⟨by rfl, ?_⟩) (by assumption) ?_
    rotate_left 1
    · intro W' hSw
      obtain ⟨hS1, hS2⟩ := hSw
      go_simp
      try with_reducible rfl
    try simp only [Act.put, List.setIfInBounds_toArray, List.set_cons_zero, List.set_cons_succ]
    refine wpAnyF_take (i := 11) (oi := ⟨_, _, _, _, _, _⟩) (v := ?_) rfl (by kernel_rfl) (by kernel_rfl) (by kernel_rfl) (by kernel_rfl) (by kernel_rfl) (fun _ _ _ h => h) (Or.inl ⟨by rfl, ?_⟩) (by assumption) ?_
    rotate_left 1
    · intro W' hSw
      obtain ⟨hS1, hS2⟩ := hSw
      go_simp
      try with_reducible rfl
    try simp only [Act.put, List.setIfInBounds_toArray, List.set_cons_zero, List.set_cons_succ]
    refine wpAnyF_last (o := ⟨_, _, _, _, _, _⟩) (by kernel_rfl) rfl (fun K' hK => ?_)
    go_simp
    refine hK.out _ _ ?_
    clear hK K'
    try simp only [Act.put, List.setIfInBounds_toArray, List.set_cons_zero, List.set_cons_succ]
    refine wpAnyF_done (by kernel_rfl) ?_ _
    clear hHeld h9 kp9 kq9
    have hst := h10.step (bp := bp) (pa := some ⟨b2, 0, none⟩) (by rw [← HPL.out]; simp) opB [] rfl (d4.exok 1 [] (by have := HN.out.2.2.1; simp; omega) (by simp)) ⟨rfl, Nat.le_refl _, Nat.zero_le _, fun h => absurd rfl h⟩
    rw [show opB.gas = 1 from rfl, d6, d7] at hst
    clear h10 d6 d7
    go_wp2_with fail
    refine hst.mono ?_
    clear hst
    rintro e V10 ⟨⟨ans2, rfl, hac2⟩, h11⟩
    dsimp only
    have hE2 : EqI L2 := d5.eqi (by have := HN.out.2.1; omega) (by have := HN.out.2.2.1; omega)
    have heq := equal_any V10 bc b1 L2 L2 h11.swap.rd2 hE2 hE2
    rw [d5.eql] at heq
    have kp11 := (h11.at (b := bp) (C := pl.enc) (by simp)).1
    clear hE2 kq10 kp10
    have hi9 := HI9.out
    have HHI := hid_of hi9
    clear hi9 hrr
    go_wp2_with fail
    refine heq.mono ?_
    clear heq
    rintro e V11 ⟨rfl, he11⟩
    dsimp only
    have HJ : Hid (∃ L, TwI V0' b1 bc [(bp, pl.enc)] L L V11 ∧ Cld L (2 * (i + 1)) (20 * sumT g (i + 1))) := ⟨L2, (h11.ext he11).sub (fun p hp => by rw [List.mem_singleton] at hp; rw [hp]; simp), d5.mono (by omega) (by have := HN.out.2.2.2.2; omega)⟩
    have hi9 := HHI.out
    clear h11 he11 ka kd kq kp11 hac hac2 hk hkb d4 d5
    go_wp2_with fail
    refine ⟨rfl, rfl, ⟨rfl, rfl, rfl, rfl, i + 1, HN.out.1, ?_, HJ⟩, ?_⟩
    · show Value.int .i64 _ = _
      go_num
    · show len - (intOf (Value.int .i64 _)).toNat < len - (intOf (F 23)).toNat
      rw [H23.out]
      have := HN.out.1
      simp [intOf]; omega
end Go.Proofs.Qxb6500786aGreat
