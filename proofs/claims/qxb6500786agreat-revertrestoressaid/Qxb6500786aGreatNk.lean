import Derived.DeepKeys2
import Derived.Test.Qxb6500786aGreatNj
import Derived.Test.Qxb6500786aGreatTyc

import Derived.StillTailTactics
import Derived.Deep.QuietTactic
import Derived.BigQuiet
import Derived.Deep.RegionHeld
import Derived.Deep.CutRange
import Derived.Laws.ResultCell
import Derived.Laws.Rows
import Derived.DeepKeys
import Derived.DataBytes
import Derived.Laws.StructEq
import Derived.Laws.AppendOwn
import Derived.Laws.MakeOwn
import Derived.Lib.AppendStr
set_option linter.unusedSimpArgs false
set_option linter.unusedVariables false
namespace Go.Proofs.Qxb6500786aGreat
open Go.RowKit Go.Blk
attribute [local go_sem ↓] execOp_load execOp_store execOp_alloc
attribute [local go_sem] Tryz.ld24 Tryz.st24 Tryz.ld36 Tryz.st36 Tryz.ld28 Tryz.st28 Tryz.ld32 Tryz.st32 Tryz.ld33 Tryz.st33 Tryz.ld34 Tryz.st34 Tryz.ld5 Tryz.st5 Tryz.ld31 Tryz.st31 Tryz.ld30 Tryz.st30 Tryz.ld41 Tryz.st41 Tryz.ld44 Tryz.st44 Tryz.ld4 Tryz.st4 Tryz.ld173 Tryz.st173 Tryz.ld174 Tryz.st174 Tryz.ld95 Tryz.st95 Tryz.ld45 Tryz.st45 Tryz.ld207 Tryz.st207 Tryz.ld3 Tryz.st3 Tryz.ld189 Tryz.st189 Tryz.ld2 Tryz.st2 Tryz.ld9 Tryz.st9 Tryz.ld12 Tryz.st12 Tryz.ld21 Tryz.st21 Tryz.ld22 Tryz.st22 Tryz.ld46 Tryz.st46 Tryz.ld92 Tryz.st92 Tryz.ld94 Tryz.st94 Tryz.ld96 Tryz.st96 Tryz.ld97 Tryz.st97 Tryz.ld105 Tryz.st105 Tryz.ld117 Tryz.st117 Tryz.ld122 Tryz.st122 Tryz.ld123 Tryz.st123 Tryz.ld133 Tryz.st133 Tryz.ld155 Tryz.st155 Tryz.ld163 Tryz.st163 Tryz.ld190 Tryz.st190 Tryz.ld197 Tryz.st197 Tryz.ld201 Tryz.st201 Tryz.ld202 Tryz.st202 Tryz.ld209 Tryz.st209 Tryz.ld216 Tryz.st216 Tryz.ld230 Tryz.st230 Tryz.ld238 Tryz.st238 Tryz.ld242 Tryz.st242 Tryz.ld251 Tryz.st251 Tryz.ld260 Tryz.st260 Tryz.ld286 Tryz.st286 Tryz.ld292 Tryz.st292 Tryz.ld298 Tryz.st298 Tryz.ld309 Tryz.st309 Tryz.ld35 Tryz.st35 Tryz.ld48 Tryz.st48 Tryz.ld47 Tryz.st47 Tryz.ld79 Tryz.st79 Tryz.ld177 Tryz.st177 Tryz.ld180 Tryz.st180 Tryz.ld231 Tryz.st231 Tryz.ld232 Tryz.st232 Tryz.ld26 Tryz.st26 Tryz.ld38 Tryz.st38 Tryz.ld40 Tryz.st40 Tryz.ld43 Tryz.st43 Tryz.ld50 Tryz.st50 Tryz.ld52 Tryz.st52 Tryz.ld54 Tryz.st54 Tryz.ld81 Tryz.st81 Tryz.ld112 Tryz.st112 Tryz.ld120 Tryz.st120 Tryz.ld176 Tryz.st176 Tryz.ld179 Tryz.st179 Tryz.ld182 Tryz.st182 Tryz.ld184 Tryz.st184 Tryz.ld234 Tryz.st234 Tryz.ld236 Tryz.st236 Tryz.ld240 Tryz.st240 Tryz.ld246 Tryz.st246 Tryz.ld249 Tryz.st249 Tryz.al35 Tryz.al48 Tryz.al47 Tryz.al79 Tryz.al177 Tryz.al180 Tryz.al231 Tryz.al232 Tryz.al26 Tryz.al38 Tryz.al40 Tryz.al43 Tryz.al50 Tryz.al52 Tryz.al54 Tryz.al81 Tryz.al112 Tryz.al120 Tryz.al176 Tryz.al179 Tryz.al182 Tryz.al184 Tryz.al234 Tryz.al236 Tryz.al240 Tryz.al246 Tryz.al249
attribute [local go_sem] Player.length_enc Player.ok_enc Player.all_get Player.all_set Player.hand_get Player.hand_set Player.aside_get Player.aside_set Message.length_enc Message.ok_enc Message.all_get Message.all_set Message.kind_get Message.kind_set Message.from__get Message.from__set Message.to__get Message.to__set Message.sender_get Message.sender_set Message.receiver_get Message.receiver_set Message.seq_get Message.seq_set Message.token_get Message.token_set Message.amount_get Message.amount_set Message.size_get Message.size_set Message.payload_get Message.payload_set Tx.length_enc Tx.ok_enc Tx.all_get Tx.all_set Tx.kind_get Tx.kind_set Tx.chain_get Tx.chain_set Tx.from__get Tx.from__set Tx.nonce_get Tx.nonce_set Tx.fee_get Tx.fee_set Tx.to__get Tx.to__set Tx.dest_get Tx.dest_set Tx.token_get Tx.token_set Tx.amount_get Tx.amount_set Tx.size_get Tx.size_set Tx.payload_get Tx.payload_set Tx.msg_get Tx.msg_set Tx.msg_kind_get Tx.msg_kind_set Tx.msg_from__get Tx.msg_from__set Tx.msg_to__get Tx.msg_to__set Tx.msg_sender_get Tx.msg_sender_set Tx.msg_receiver_get Tx.msg_receiver_set Tx.msg_seq_get Tx.msg_seq_set Tx.msg_token_get Tx.msg_token_set Tx.msg_amount_get Tx.msg_amount_set Tx.msg_size_get Tx.msg_size_set Tx.msg_payload_get Tx.msg_payload_set GOp.length_enc GOp.ok_enc GOp.all_get GOp.all_set GOp.kind_get GOp.kind_set GOp.tx_get GOp.tx_set GOp.txs_get GOp.txs_set GOp.gas_get GOp.gas_set GOp.acct_get GOp.acct_set GOp.token_get GOp.token_set GOp.chain_get GOp.chain_set GOp.seq_get GOp.seq_set GOp.tx_kind_get GOp.tx_kind_set GOp.tx_chain_get GOp.tx_chain_set GOp.tx_from__get GOp.tx_from__set GOp.tx_nonce_get GOp.tx_nonce_set GOp.tx_fee_get GOp.tx_fee_set GOp.tx_to__get GOp.tx_to__set GOp.tx_dest_get GOp.tx_dest_set GOp.tx_token_get GOp.tx_token_set GOp.tx_amount_get GOp.tx_amount_set GOp.tx_size_get GOp.tx_size_set GOp.tx_payload_get GOp.tx_payload_set GOp.tx_msg_get GOp.tx_msg_set GOp.tx_msg_kind_get GOp.tx_msg_kind_set GOp.tx_msg_from__get GOp.tx_msg_from__set GOp.tx_msg_to__get GOp.tx_msg_to__set GOp.tx_msg_sender_get GOp.tx_msg_sender_set GOp.tx_msg_receiver_get GOp.tx_msg_receiver_set GOp.tx_msg_seq_get GOp.tx_msg_seq_set GOp.tx_msg_token_get GOp.tx_msg_token_set GOp.tx_msg_amount_get GOp.tx_msg_amount_set GOp.tx_msg_size_get GOp.tx_msg_size_set GOp.tx_msg_payload_get GOp.tx_msg_payload_set Summary.length_enc Summary.ok_enc Summary.all_get Summary.all_set Summary.height_get Summary.height_set Summary.txs_get Summary.txs_set Summary.gas_get Summary.gas_set Summary.fees_get Summary.fees_set Summary.sent_get Summary.sent_set Summary.took_get Summary.took_set Summary.minted_get Summary.minted_set Summary.burned_get Summary.burned_set Summary.root_get Summary.root_set Detail.length_enc Detail.ok_enc Detail.all_get Detail.all_set Detail.code_get Detail.code_set Detail.have__get Detail.have__set Detail.need_get Detail.need_set Slot.length_enc Slot.ok_enc Slot.all_get Slot.all_set Slot.nonce_get Slot.nonce_set Slot.balances_get Slot.balances_set Tree.length_enc Tree.ok_enc Tree.all_get Tree.all_set Tree.leaves_get Tree.leaves_set Mark.length_enc Mark.ok_enc Mark.all_get Mark.all_set Mark.from__get Mark.from__set Mark.seq_get Mark.seq_set Receipt.length_enc Receipt.ok_enc Receipt.all_get Receipt.all_set Receipt.code_get Receipt.code_set Receipt.hash_get Receipt.hash_set Receipt.index_get Receipt.index_set Receipt.gas_get Receipt.gas_set Receipt.fee_get Receipt.fee_set Receipt.hasSent_get Receipt.hasSent_set Receipt.sent_get Receipt.sent_set Receipt.hasTook_get Receipt.hasTook_set Receipt.took_get Receipt.took_set Receipt.sent_kind_get Receipt.sent_kind_set Receipt.sent_from__get Receipt.sent_from__set Receipt.sent_to__get Receipt.sent_to__set Receipt.sent_sender_get Receipt.sent_sender_set Receipt.sent_receiver_get Receipt.sent_receiver_set Receipt.sent_seq_get Receipt.sent_seq_set Receipt.sent_token_get Receipt.sent_token_set Receipt.sent_amount_get Receipt.sent_amount_set Receipt.sent_size_get Receipt.sent_size_set Receipt.sent_payload_get Receipt.sent_payload_set Receipt.took_kind_get Receipt.took_kind_set Receipt.took_from__get Receipt.took_from__set Receipt.took_to__get Receipt.took_to__set Receipt.took_sender_get Receipt.took_sender_set Receipt.took_receiver_get Receipt.took_receiver_set Receipt.took_seq_get Receipt.took_seq_set Receipt.took_token_get Receipt.took_token_set Receipt.took_amount_get Receipt.took_amount_set Receipt.took_size_get Receipt.took_size_set Receipt.took_payload_get Receipt.took_payload_set Store.length_enc Store.ok_enc Store.all_get Store.all_set Store.now_get Store.now_set Store.saved_get Store.saved_set GState.length_enc GState.ok_enc GState.all_get GState.all_set GState.kv_get GState.kv_set GState.tree_get GState.tree_set GState.stale_get GState.stale_set GState.touched_get GState.touched_set GState.kv_now_get GState.kv_now_set GState.kv_saved_get GState.kv_saved_set GState.tree_leaves_get GState.tree_leaves_set History.length_enc History.ok_enc History.all_get History.all_set History.ring_get History.ring_set History.closed_get History.closed_set Ledger.length_enc Ledger.ok_enc Ledger.all_get Ledger.all_set Ledger.chain_get Ledger.chain_set Ledger.st_get Ledger.st_set Ledger.height_get Ledger.height_set Ledger.open__get Ledger.open__set Ledger.gasLimit_get Ledger.gasLimit_set Ledger.past_get Ledger.past_set Ledger.begun_get Ledger.begun_set Ledger.sent_get Ledger.sent_set Ledger.took_get Ledger.took_set Ledger.receipts_get Ledger.receipts_set Ledger.st_kv_get Ledger.st_kv_set Ledger.st_tree_get Ledger.st_tree_set Ledger.st_stale_get Ledger.st_stale_set Ledger.st_touched_get Ledger.st_touched_set Ledger.st_kv_now_get Ledger.st_kv_now_set Ledger.st_kv_saved_get Ledger.st_kv_saved_set Ledger.st_tree_leaves_get Ledger.st_tree_leaves_set Ledger.past_ring_get Ledger.past_ring_set Ledger.past_closed_get Ledger.past_closed_set Ledger.begun_kv_get Ledger.begun_kv_set Ledger.begun_tree_get Ledger.begun_tree_set Ledger.begun_stale_get Ledger.begun_stale_set Ledger.begun_touched_get Ledger.begun_touched_set Ledger.begun_kv_now_get Ledger.begun_kv_now_set Ledger.begun_kv_saved_get Ledger.begun_kv_saved_set Ledger.begun_tree_leaves_get Ledger.begun_tree_leaves_set Purse.length_enc Purse.ok_enc Purse.all_get Purse.all_set Purse.st_get Purse.st_set Purse.n_get Purse.n_set Purse.account_get Purse.account_set Purse.token_get Purse.token_set Purse.amount_get Purse.amount_set Plan.length_enc Plan.ok_enc Plan.all_get Plan.all_set Plan.purse_get Plan.purse_set Plan.nonce_get Plan.nonce_set Plan.gasUsed_get Plan.gasUsed_set Plan.fees_get Plan.fees_set Plan.hasSupply_get Plan.hasSupply_set Plan.token_get Plan.token_set Plan.supply_get Plan.supply_set Plan.flowAt_get Plan.flowAt_set Plan.flow_get Plan.flow_set Plan.receipt_get Plan.receipt_set Plan.purse_st_get Plan.purse_st_set Plan.purse_n_get Plan.purse_n_set Plan.purse_account_get Plan.purse_account_set Plan.purse_token_get Plan.purse_token_set Plan.purse_amount_get Plan.purse_amount_set Plan.receipt_code_get Plan.receipt_code_set Plan.receipt_hash_get Plan.receipt_hash_set Plan.receipt_index_get Plan.receipt_index_set Plan.receipt_gas_get Plan.receipt_gas_set Plan.receipt_fee_get Plan.receipt_fee_set Plan.receipt_hasSent_get Plan.receipt_hasSent_set Plan.receipt_sent_get Plan.receipt_sent_set Plan.receipt_hasTook_get Plan.receipt_hasTook_set Plan.receipt_took_get Plan.receipt_took_set Plan.receipt_sent_kind_get Plan.receipt_sent_kind_set Plan.receipt_sent_from__get Plan.receipt_sent_from__set Plan.receipt_sent_to__get Plan.receipt_sent_to__set Plan.receipt_sent_sender_get Plan.receipt_sent_sender_set Plan.receipt_sent_receiver_get Plan.receipt_sent_receiver_set Plan.receipt_sent_seq_get Plan.receipt_sent_seq_set Plan.receipt_sent_token_get Plan.receipt_sent_token_set Plan.receipt_sent_amount_get Plan.receipt_sent_amount_set Plan.receipt_sent_size_get Plan.receipt_sent_size_set Plan.receipt_sent_payload_get Plan.receipt_sent_payload_set Plan.receipt_took_kind_get Plan.receipt_took_kind_set Plan.receipt_took_from__get Plan.receipt_took_from__set Plan.receipt_took_to__get Plan.receipt_took_to__set Plan.receipt_took_sender_get Plan.receipt_took_sender_set Plan.receipt_took_receiver_get Plan.receipt_took_receiver_set Plan.receipt_took_seq_get Plan.receipt_took_seq_set Plan.receipt_took_token_get Plan.receipt_took_token_set Plan.receipt_took_amount_get Plan.receipt_took_amount_set Plan.receipt_took_size_get Plan.receipt_took_size_set Plan.receipt_took_payload_get Plan.receipt_took_payload_set Move.length_enc Move.ok_enc Move.all_get Move.all_set Move.account_get Move.account_set Move.token_get Move.token_set Move.down_get Move.down_set Move.amount_get Move.amount_set Books.length_enc Books.ok_enc Books.all_get Books.all_set Books.sums_get Books.sums_set Books.stored_get Books.stored_set Books.marks_get Books.marks_set Pair.length_enc Pair.ok_enc Pair.all_get Pair.all_set Pair.key_get Pair.key_set Pair.value_get Pair.value_set
attribute [local go_sem] size_put size_ext blk_put free_put blk_alloc free_alloc blk_drew free_drew blk_ext free_ext lookOr_some putOr_some segAt_some cellAt_some storeIn_some put_put put_alloc_new length_arr ok_arr_u8 ok_arr_u32 ok_arr_u64 ok_arr_i64 ok_arr_sl cellsV_agg cellsV_int cellsV_bool cellsV_string cellsV_pointer cellsV_slice cellsV_sl ok_int ok_bool ok_string ok_pointer ok_slice ok_sl toList_arr seg_arr set_arr nth_splice nth_splice0 seg_splice seg_splice0 splice_splice splice_splice0 length_splice_if
attribute [local go_sem ↓] execOp_box
attribute [local go_sem] box_run nth_arr_u8 put_arr_u8 blk_drewN free_drewN put_drewN blk_raw free_raw
attribute [local go_sem] Tryz.ld61 Tryz.st61 Tryz.al61 View.length_enc View.ok_enc View.all_get View.all_set View.chain_get View.balances_get View.nonces_get View.supply_get View.marks_get View.height_get View.open__get View.gasLimit_get View.gasUsed_get View.fees_get View.txs_get View.sent_get View.took_get View.minted_get View.burned_get View.depth_get
/-- A view, plainly. -/
def vwB (now : List Pair) (i : Nat) : UInt64 := ldF now (keyB (UInt8.ofNat (i / 4)) (UInt8.ofNat (i % 4)))
def vwN (now : List Pair) (i : Nat) : UInt64 := ldF now (keyN (UInt8.ofNat i))
def vwS (now : List Pair) (i : Nat) : UInt64 := ldF now (keyS (UInt8.ofNat i))
def vwM (k : UInt64) (now : List Pair) (i : Nat) : UInt64 := ldF now (keyC (fU k (UInt8.ofNat i)))
def vwT (L : PLg) (n b s : Nat) : View := ⟨L.chain, vN (vwB L.st.now) b, vN (vwN L.st.now) n, vN (vwS L.st.now) s, 0, 0, false, 0, 0, 0, 0, 0, 0, vN (vwM 7 L.st.now) s, vN (vwM 11 L.st.now) s, 0⟩
def viewF (L : PLg) : View := ⟨L.chain, vN (vwB L.st.now) 256, vN (vwN L.st.now) 64, vN (vwS L.st.now) 4, ldF L.st.now (keyC 6), L.height, L.open_, L.gasLimit, ldF L.st.now (keyC 1), ldF L.st.now (keyC 2), ldF L.st.now (keyC 3), ldF L.st.now (keyC 4), ldF L.st.now (keyC 5), vN (vwM 7 L.st.now) 4, vN (vwM 11 L.st.now) 4, (L.st.saved.length : Int)⟩
def vw1I (W : World) (bl br bv : Nat) (L : PLg) (F : Nat → Value) (V : World) : Prop := F 0 = .pointer (some ⟨bl, 0, none⟩) ∧ F 2 = .pointer (some ⟨br, 0, none⟩) ∧ F 3 = .pointer (some ⟨bv, 0, none⟩) ∧ ∃ a : Nat, a ≤ 64 ∧ F 4 = .int .u8 (a : Nat) ∧ Hid (BxI W [(bv, (vwT L a (4 * a) 0).enc), (br, View.zero.enc)] V)
def vw2I (W : World) (bl br bv : Nat) (L : PLg) (a : Nat) (F : Nat → Value) (V : World) : Prop := F 0 = .pointer (some ⟨bl, 0, none⟩) ∧ F 2 = .pointer (some ⟨br, 0, none⟩) ∧ F 3 = .pointer (some ⟨bv, 0, none⟩) ∧ F 4 = .int .u8 (a : Nat) ∧ ∃ t : Nat, t ≤ 4 ∧ F 5 = .int .u8 (t : Nat) ∧ Hid (BxI W [(bv, (vwT L (a + 1) (4 * a + t) 0).enc), (br, View.zero.enc)] V)
def vw3I (W : World) (bl br bv : Nat) (L : PLg) (F : Nat → Value) (V : World) : Prop := F 0 = .pointer (some ⟨bl, 0, none⟩) ∧ F 2 = .pointer (some ⟨br, 0, none⟩) ∧ F 3 = .pointer (some ⟨bv, 0, none⟩) ∧ ∃ t : Nat, t ≤ 4 ∧ F 6 = .int .u8 (t : Nat) ∧ Hid (BxI W [(bv, (vwT L 64 256 t).enc), (br, View.zero.enc)] V)
theorem LedA.cells {O : Own} {W : World} {bl : Nat} {L : PLg} (h : LedA O W bl L) : ∃ LE, blk W bl = some LE ∧ nth LE 0 = some (.int .u8 (w8 L.chain)) ∧ nth LE 2061 = some (.int .u64 (w64 L.height)) ∧ nth LE 2062 = some (.bool L.open_) ∧ nth LE 2063 = some (.int .u64 (w64 L.gasLimit)) ∧ LE.length = 4496 ∧ ∃ ss : Sl, nth LE 2 = some (Sl.val ss) ∧ ss.len = L.st.saved.length := by
  obtain ⟨sn, ss, bn, ms, mt, mr, h1⟩ := h
  exact ⟨_, h1.hblk, Ledger.chain_get _, Ledger.height_get _, Ledger.open__get _, Ledger.gasLimit_get _, Ledger.length_enc _, ss, Ledger.st_kv_saved_get _, h1.sav.len⟩
theorem fU_w8 (k : UInt64) (t : Nat) (ht : t < 4) : UInt64.ofNat t = (UInt8.ofNat t).toUInt64 := by
  apply UInt64.toNat_inj.1
  rw [UInt8.toNat_toUInt64, UInt64.toNat_ofNat', UInt8.toNat_ofNat']
  omega
set_option maxRecDepth 100000 in
theorem frame125v (f : Nat → Value) : frameN 125 f = #[f 0, f 1, f 2, f 3, f 4, f 5, f 6, f 7, f 8, f 9, f 10, f 11, f 12, f 13, f 14, f 15, f 16, f 17, f 18, f 19, f 20, f 21, f 22, f 23, f 24, f 25, f 26, f 27, f 28, f 29, f 30, f 31, f 32, f 33, f 34, f 35, f 36, f 37, f 38, f 39, f 40, f 41, f 42, f 43, f 44, f 45, f 46, f 47, f 48, f 49, f 50, f 51, f 52, f 53, f 54, f 55, f 56, f 57, f 58, f 59, f 60, f 61, f 62, f 63, f 64, f 65, f 66, f 67, f 68, f 69, f 70, f 71, f 72, f 73, f 74, f 75, f 76, f 77, f 78, f 79, f 80, f 81, f 82, f 83, f 84, f 85, f 86, f 87, f 88, f 89, f 90, f 91, f 92, f 93, f 94, f 95, f 96, f 97, f 98, f 99, f 100, f 101, f 102, f 103, f 104, f 105, f 106, f 107, f 108, f 109, f 110, f 111, f 112, f 113, f 114, f 115, f 116, f 117, f 118, f 119, f 120, f 121, f 122, f 123, f 124] := by kernel_rfl
set_option maxRecDepth 20000 in
set_option maxHeartbeats 2000000 in
theorem view_any (O : Own) (W : World) (bl : Nat) (L : PLg) (hL : LedA O W bl L) : Calls Tryz.prog 19 #[.pointer (some ⟨bl, 0, none⟩)] W fun e V => e = .returned (.agg (viewF L).enc.toArray) ∧ W.Extends V := by
  have HR := hid_of hL.rd
  obtain ⟨LE, kl, n0, n61, n62, n63, lle, ss, n2, hss⟩ := hL.cells
  have HKL := hid_of kl
  have HSS := hid_of hss
  have hB := ((BxI.start W).box View.zero.enc 61).box View.zero.enc 61
  obtain ⟨W1, hW1⟩ : ∃ W1 : World, W1 = (W.alloc (.cells View.zero.enc.toArray 61)).alloc (.cells View.zero.enc.toArray 61) := ⟨_, rfl⟩
  obtain ⟨br, hbr⟩ : ∃ br, br = W.heap.size := ⟨_, rfl⟩
  obtain ⟨bv, hbv⟩ : ∃ bv, bv = W.heap.size + 1 := ⟨_, rfl⟩
  rw [World.size_alloc, ← hW1, ← hbv, ← hbr] at hB
  have hne : br ≠ bv := by omega
  have hnv : ¬ bl = bv := by have := blk_lt kl; omega
  have hnr : ¬ bl = br := by have := blk_lt kl; omega
  have lz : View.zero.enc.length = 343 := View.length_enc _
  have hs0 : splice View.zero.enc 0 [.int .u8 (w8 L.chain)] = (vwT L 0 (4 * 0) 0).enc := by
    rw [View.chain_set]
    unfold vwT
    rw [vN_zero, vN_zero, vN_zero, vN_zero, vN_zero]; rfl
  have kl1 := (hB.1.blk (blk_lt kl)).trans kl
  have kb1 := (hB.at (List.mem_cons_self ..)).1
  have kf1 := (hB.at (List.mem_cons_self ..)).2
  have HI0 : Hid (BxI W [(bv, (vwT L 0 (4 * 0) 0).enc), (br, View.zero.enc)] (put W1 bv (vwT L 0 (4 * 0) 0).enc)) := hB.put (fun p hp => by rw [List.mem_singleton] at hp; rw [hp]; exact hne)
  have HNE := hid_of hne
  have HW1 := hid_of hW1
  have HBR := hid_of hbr
  have HBV := hid_of hbv
  clear hL hss kl hW1 hbr hbv hB hne
  go_enter Tryz.func19, Tryz.ntmps19
  go_upto_region 2 with fail
  rw [← HW1.out, ← HBV.out, ← HBR.out]
  clear HW1 HBR HBV
  go_wp2_with fail
  refine wp_loop_f 125 (vw1I W bl br bv L) (fun f _ => 64 - (intOf (f 4)).toNat) rfl ⟨rfl, rfl, rfl, 0, by omega, rfl, HI0⟩ ?_
  clear HI0 kb1 kf1 hs0 kl1
  intro F V hrel
  obtain ⟨f0, f2, f3, a, ha, f4, HI⟩ := hrel
  have H4 := hid_of f4
  rw [frame125v, f0, f2, f3, f4]
  clear f0 f2 f3 f4
  have hV := HI.out
  clear HI
  by_cases ha4 : a = 64
  · subst ha4
    have HI0 : Hid (BxI W [(bv, (vwT L 64 256 0).enc), (br, View.zero.enc)] V) := hV
    clear hV H4
    go_wp2_with fail
    refine wp_loop_f 125 (vw3I W bl br bv L) (fun f _ => 4 - (intOf (f 6)).toNat) rfl ⟨rfl, rfl, rfl, 0, by omega, rfl, HI0⟩ ?_
    clear HI0
    intro G U hrel
    obtain ⟨f0, f2, f3, t, ht, f6, HI⟩ := hrel
    have H6 := hid_of f6
    rw [frame125v, f0, f2, f3, f6]
    clear f0 f2 f3 f6
    have hV := HI.out
    clear HI
    by_cases ht4 : t = 4
    · subst ht4
      clear H6 ha ht
      obtain ⟨v0, hv0⟩ : ∃ v : View, v = vwT L 64 256 4 := ⟨_, rfl⟩
      rw [← hv0] at hV
      obtain ⟨v1, hv1⟩ : ∃ v : View, v = { v0 with marks := (ldF L.st.now (keyC 6)) } := ⟨_, rfl⟩
      have hs1 : splice v0.enc 325 [.int .u64 (w64 (ldF L.st.now (keyC 6)))] = v1.enc := by rw [hv1]; exact View.marks_set v0 _
      have lv0 : v0.enc.length = 343 := View.length_enc _
      obtain ⟨v2, hv2⟩ : ∃ v : View, v = { v1 with height := L.height } := ⟨_, rfl⟩
      have hs2 : splice v1.enc 326 [.int .u64 (w64 L.height)] = v2.enc := by rw [hv2]; exact View.height_set v1 _
      have lv1 : v1.enc.length = 343 := View.length_enc _
      obtain ⟨v3, hv3⟩ : ∃ v : View, v = { v2 with open_ := L.open_ } := ⟨_, rfl⟩
      have hs3 : splice v2.enc 327 [.bool L.open_] = v3.enc := by rw [hv3]; exact View.open__set v2 _
      have lv2 : v2.enc.length = 343 := View.length_enc _
      obtain ⟨v4, hv4⟩ : ∃ v : View, v = { v3 with gasLimit := L.gasLimit } := ⟨_, rfl⟩
      have hs4 : splice v3.enc 328 [.int .u64 (w64 L.gasLimit)] = v4.enc := by rw [hv4]; exact View.gasLimit_set v3 _
      have lv3 : v3.enc.length = 343 := View.length_enc _
      obtain ⟨v5, hv5⟩ : ∃ v : View, v = { v4 with gasUsed := (ldF L.st.now (keyC 1)) } := ⟨_, rfl⟩
      have hs5 : splice v4.enc 329 [.int .u64 (w64 (ldF L.st.now (keyC 1)))] = v5.enc := by rw [hv5]; exact View.gasUsed_set v4 _
      have lv4 : v4.enc.length = 343 := View.length_enc _
      obtain ⟨v6, hv6⟩ : ∃ v : View, v = { v5 with fees := (ldF L.st.now (keyC 2)) } := ⟨_, rfl⟩
      have hs6 : splice v5.enc 330 [.int .u64 (w64 (ldF L.st.now (keyC 2)))] = v6.enc := by rw [hv6]; exact View.fees_set v5 _
      have lv5 : v5.enc.length = 343 := View.length_enc _
      obtain ⟨v7, hv7⟩ : ∃ v : View, v = { v6 with txs := (ldF L.st.now (keyC 3)) } := ⟨_, rfl⟩
      have hs7 : splice v6.enc 331 [.int .u64 (w64 (ldF L.st.now (keyC 3)))] = v7.enc := by rw [hv7]; exact View.txs_set v6 _
      have lv6 : v6.enc.length = 343 := View.length_enc _
      obtain ⟨v8, hv8⟩ : ∃ v : View, v = { v7 with sent := (ldF L.st.now (keyC 4)) } := ⟨_, rfl⟩
      have hs8 : splice v7.enc 332 [.int .u64 (w64 (ldF L.st.now (keyC 4)))] = v8.enc := by rw [hv8]; exact View.sent_set v7 _
      have lv7 : v7.enc.length = 343 := View.length_enc _
      obtain ⟨v9, hv9⟩ : ∃ v : View, v = { v8 with took := (ldF L.st.now (keyC 5)) } := ⟨_, rfl⟩
      have hs9 : splice v8.enc 333 [.int .u64 (w64 (ldF L.st.now (keyC 5)))] = v9.enc := by rw [hv9]; exact View.took_set v8 _
      have lv8 : v8.enc.length = 343 := View.length_enc _
      obtain ⟨v10, hv10⟩ : ∃ v : View, v = { v9 with depth := (L.st.saved.length : Int) } := ⟨_, rfl⟩
      have hs10 : splice v9.enc 342 [.int .i64 (L.st.saved.length : Int)] = v10.enc := by rw [hv10]; exact View.depth_set v9 _
      have lv9 : v9.enc.length = 343 := View.length_enc _
      have HEQ : Hid (v10 = viewF L) := by
        show v10 = _
        rw [hv10, hv9, hv8, hv7, hv6, hv5, hv4, hv3, hv2, hv1, hv0]; rfl
      clear hv0 hv1 hv2 hv3 hv4 hv5 hv6 hv7 hv8 hv9 hv10
      have lv10 : v10.enc.length = 343 := View.length_enc _
      have hq := hV.call (R := fun e => e = .returned (.int .u64 (w64 (ldF L.st.now (keyC 6))))) (counter_any _ bl 1 L.st.now (HR.out.ext hV.1) 6 (by decide))
      clear hV
      go_wp2_with fail
      refine hq.mono ?_
      clear hq
      rintro e V0 ⟨rfl, hV⟩
      dsimp only
      have kb := (hV.at (b := bv) (C := v0.enc) (by simp)).1
      have kf := (hV.at (b := bv) (C := v0.enc) (by simp)).2
      have klV := (hV.1.blk (blk_lt HKL.out)).trans HKL.out
      replace hV := hV.put (C' := v1.enc) (fun p hp => by rw [List.mem_singleton] at hp; rw [hp]; exact HNE.out)
      replace hV := hV.put (C' := v2.enc) (fun p hp => by rw [List.mem_singleton] at hp; rw [hp]; exact HNE.out)
      rw [put_put] at hV
      replace hV := hV.put (C' := v3.enc) (fun p hp => by rw [List.mem_singleton] at hp; rw [hp]; exact HNE.out)
      rw [put_put] at hV
      replace hV := hV.put (C' := v4.enc) (fun p hp => by rw [List.mem_singleton] at hp; rw [hp]; exact HNE.out)
      rw [put_put] at hV
      have hq := hV.call (R := fun e => e = .returned (.int .u64 (w64 (ldF L.st.now (keyC 1))))) (counter_any _ bl 1 L.st.now (HR.out.ext hV.1) 1 (by decide))
      clear hV
      go_wp2_with fail
      refine hq.mono ?_
      clear hq
      rintro e V4 ⟨rfl, hV⟩
      dsimp only
      have kb := (hV.at (b := bv) (C := v4.enc) (by simp)).1
      have kf := (hV.at (b := bv) (C := v4.enc) (by simp)).2
      have klV := (hV.1.blk (blk_lt HKL.out)).trans HKL.out
      replace hV := hV.put (C' := v5.enc) (fun p hp => by rw [List.mem_singleton] at hp; rw [hp]; exact HNE.out)
      have hq := hV.call (R := fun e => e = .returned (.int .u64 (w64 (ldF L.st.now (keyC 2))))) (counter_any _ bl 1 L.st.now (HR.out.ext hV.1) 2 (by decide))
      clear hV
      go_wp2_with fail
      refine hq.mono ?_
      clear hq
      rintro e V5 ⟨rfl, hV⟩
      dsimp only
      have kb := (hV.at (b := bv) (C := v5.enc) (by simp)).1
      have kf := (hV.at (b := bv) (C := v5.enc) (by simp)).2
      have klV := (hV.1.blk (blk_lt HKL.out)).trans HKL.out
      replace hV := hV.put (C' := v6.enc) (fun p hp => by rw [List.mem_singleton] at hp; rw [hp]; exact HNE.out)
      have hq := hV.call (R := fun e => e = .returned (.int .u64 (w64 (ldF L.st.now (keyC 3))))) (counter_any _ bl 1 L.st.now (HR.out.ext hV.1) 3 (by decide))
      clear hV
      go_wp2_with fail
      refine hq.mono ?_
      clear hq
      rintro e V6 ⟨rfl, hV⟩
      dsimp only
      have kb := (hV.at (b := bv) (C := v6.enc) (by simp)).1
      have kf := (hV.at (b := bv) (C := v6.enc) (by simp)).2
      have klV := (hV.1.blk (blk_lt HKL.out)).trans HKL.out
      replace hV := hV.put (C' := v7.enc) (fun p hp => by rw [List.mem_singleton] at hp; rw [hp]; exact HNE.out)
      have hq := hV.call (R := fun e => e = .returned (.int .u64 (w64 (ldF L.st.now (keyC 4))))) (counter_any _ bl 1 L.st.now (HR.out.ext hV.1) 4 (by decide))
      clear hV
      go_wp2_with fail
      refine hq.mono ?_
      clear hq
      rintro e V7 ⟨rfl, hV⟩
      dsimp only
      have kb := (hV.at (b := bv) (C := v7.enc) (by simp)).1
      have kf := (hV.at (b := bv) (C := v7.enc) (by simp)).2
      have klV := (hV.1.blk (blk_lt HKL.out)).trans HKL.out
      replace hV := hV.put (C' := v8.enc) (fun p hp => by rw [List.mem_singleton] at hp; rw [hp]; exact HNE.out)
      have hq := hV.call (R := fun e => e = .returned (.int .u64 (w64 (ldF L.st.now (keyC 5))))) (counter_any _ bl 1 L.st.now (HR.out.ext hV.1) 5 (by decide))
      clear hV
      go_wp2_with fail
      refine hq.mono ?_
      clear hq
      rintro e V8 ⟨rfl, hV⟩
      dsimp only
      have kb := (hV.at (b := bv) (C := v8.enc) (by simp)).1
      have kf := (hV.at (b := bv) (C := v8.enc) (by simp)).2
      have klV := (hV.1.blk (blk_lt HKL.out)).trans HKL.out
      replace hV := hV.put (C' := v9.enc) (fun p hp => by rw [List.mem_singleton] at hp; rw [hp]; exact HNE.out)
      have hq := hV.call (R := fun e => e = .returned (.int .i64 (L.st.saved.length : Nat))) ((depth_any _ bl 1 LE ((hV.1.blk (blk_lt HKL.out)).trans HKL.out) ss n2).mono (fun e V9 q => ⟨by rw [q.1, HSS.out], by rw [q.2]; exact ext_Ext (Ext.refl _)⟩))
      clear hV
      go_wp2_with fail
      refine hq.mono ?_
      clear hq
      rintro e V9 ⟨rfl, hV⟩
      dsimp only
      have kb := (hV.at (b := bv) (C := v9.enc) (by simp)).1
      have kf := (hV.at (b := bv) (C := v9.enc) (by simp)).2
      have klV := (hV.1.blk (blk_lt HKL.out)).trans HKL.out
      replace hV := hV.put (C' := v10.enc) (fun p hp => by rw [List.mem_singleton] at hp; rw [hp]; exact HNE.out)
      have kb2 := (hV.at (b := bv) (C := v10.enc) (by simp)).1
      have kr := (hV.at (b := br) (C := View.zero.enc) (by simp)).1
      have qr := (hV.at (b := br) (C := View.zero.enc) (by simp)).2
      have HX : Hid (W.Extends (put (put V9 bv v10.enc) br v10.enc)) := ((hV.sub (bs' := [(br, View.zero.enc)]) (fun p hp => List.mem_cons_of_mem _ hp)).put (C' := v10.enc) (fun p hp => by cases hp)).1
      clear hV
      have krr : blk V9 br = some View.zero.enc := by rw [blk_put, if_neg HNE.out] at kr; exact kr
      have qrr : free V9 br = true := by rw [free_put] at qr; exact qr
      have hnn : ¬ br = bv := HNE.out
      clear kb2 kr qr HSS n2
      go_wp2_with fail
      refine ret_cell (C := v10.enc) rfl rfl (by rw [blk_put, if_pos rfl, blk_put, if_neg hnn, krr]; rfl) (by kernel_rfl) (by rw [View.length_enc]; kernel_rfl) rfl ?_
      exact ⟨by rw [← HEQ.out], HX.out⟩
    have hin : t < 4 := by omega
    have ht5 : (t : Int) < 4 := by omega
    have p0 : (0 : Int) ≤ (t : Int) := by omega
    have p2 : ((t : Int)).toNat = t := by omega
    obtain ⟨tu, htu⟩ : ∃ tu, tu = UInt8.ofNat t := ⟨_, rfl⟩
    have hk : w8 tu = (t : Int) := by rw [htu]; exact w8_ofNat t (by omega)
    have htn : tu.toNat = t := by rw [htu, UInt8.toNat_ofNat']; omega
    have hsup := hV.call (R := fun e => e = .returned (.int .u64 (w64 (vwS L.st.now t)))) (by have h := supply_any U bl 1 L.st.now (HR.out.ext hV.1) tu; rw [htu] at h; exact h)
    rw [← htu, hk] at hsup
    obtain ⟨v0, hv0⟩ : ∃ v : View, v = vwT L 64 256 t := ⟨_, rfl⟩
    obtain ⟨v1, hv1⟩ : ∃ v : View, v = { v0 with supply := v0.supply.set t (vwS L.st.now t) hin } := ⟨_, rfl⟩
    obtain ⟨v2, hv2⟩ : ∃ v : View, v = { v1 with minted := v1.minted.set t (vwM 7 L.st.now t) hin } := ⟨_, rfl⟩
    obtain ⟨v3, hv3⟩ : ∃ v : View, v = { v2 with burned := v2.burned.set t (vwM 11 L.st.now t) hin } := ⟨_, rfl⟩
    have HEQ : Hid (v3 = vwT L 64 256 (t + 1)) := by
      show v3 = _
      rw [hv3, hv2, hv1, hv0]
      unfold vwT
      dsimp only
      rw [vN_set (vwS L.st.now) t hin, vN_set (vwM 7 L.st.now) t hin, vN_set (vwM 11 L.st.now) t hin]
    have hs1 := View.supply_put v0 t (vwS L.st.now t) hin
    have hs2 := View.minted_put v1 t (vwM 7 L.st.now t) hin
    have hs3 := View.burned_put v2 t (vwM 11 L.st.now t) hin
    rw [← hv1] at hs1
    rw [← hv2] at hs2
    rw [← hv3] at hs3
    rw [← hv0] at hsup
    have l0 : v0.enc.length = 343 := View.length_enc _
    have l1 : v1.enc.length = 343 := View.length_enc _
    have l2 : v2.enc.length = 343 := View.length_enc _
    have k1 : 321 + t + 1 ≤ 343 := by omega
    have k2 : 334 + t + 1 ≤ 343 := by omega
    have k3 : 338 + t + 1 ≤ 343 := by omega
    have hw7 : IntKind.u64.wrap (7 + (t : Int)) = w64 (fU 7 tu) := by rw [← fU7_w, hk, IntKind.wrap_u64]; omega
    have hw11 : IntKind.u64.wrap (11 + (t : Int)) = w64 (fU 11 tu) := by rw [← fU_w, hk, IntKind.wrap_u64]; omega
    have wt : IntKind.u64.wrap (t : Int) = (t : Int) := by rw [IntKind.wrap_u64]; omega
    have HT : Hid (t < 4 ∧ tu = UInt8.ofNat t) := ⟨hin, htu⟩
    have HC : Hid ((fU 7 tu).toNat < 72057594037927936 ∧ (fU 11 tu).toNat < 72057594037927936) := by rw [Hid, fU_nat (by decide), fU_nat (by decide), htn]; show 7 + t < _ ∧ 11 + t < _; omega
    have e7 : vwM 7 L.st.now t = ldF L.st.now (keyC (fU 7 tu)) := by unfold vwM; rw [htu]
    have e11 : vwM 11 L.st.now t = ldF L.st.now (keyC (fU 11 tu)) := by unfold vwM; rw [htu]
    have H7 := hid_of e7
    have H11 := hid_of e11
    clear e7 e11 hk htn htu hv0 hv1 hv2 hv3 ht ht4 hin hV
    go_wp2_with fail
    refine hsup.mono ?_
    clear hsup
    rintro e V1 ⟨rfl, hV⟩
    dsimp only
    have kb := (hV.at (b := bv) (C := v0.enc) (by simp)).1
    have kf := (hV.at (b := bv) (C := v0.enc) (by simp)).2
    replace hV := hV.put (C' := v1.enc) (fun p hp => by rw [List.mem_singleton] at hp; rw [hp]; exact HNE.out)
    have hq := hV.call (R := fun e => e = .returned (.int .u64 (w64 (vwM 7 L.st.now t)))) (by rw [H7.out]; exact counter_any _ bl 1 L.st.now (HR.out.ext hV.1) (fU 7 tu) HC.out.1)
    clear hV
    go_wp2_with fail
    refine hq.mono ?_
    clear hq kb kf
    rintro e V2 ⟨rfl, hV⟩
    dsimp only
    have kb := (hV.at (b := bv) (C := v1.enc) (by simp)).1
    have kf := (hV.at (b := bv) (C := v1.enc) (by simp)).2
    replace hV := hV.put (C' := v2.enc) (fun p hp => by rw [List.mem_singleton] at hp; rw [hp]; exact HNE.out)
    have hq := hV.call (R := fun e => e = .returned (.int .u64 (w64 (vwM 11 L.st.now t)))) (by rw [H11.out]; exact counter_any _ bl 1 L.st.now (HR.out.ext hV.1) (fU 11 tu) HC.out.2)
    clear hV
    go_wp2_with fail
    refine hq.mono ?_
    clear hq kb kf
    rintro e V3 ⟨rfl, hV⟩
    dsimp only
    have kb := (hV.at (b := bv) (C := v2.enc) (by simp)).1
    have kf := (hV.at (b := bv) (C := v2.enc) (by simp)).2
    replace hV := hV.put (C' := v3.enc) (fun p hp => by rw [List.mem_singleton] at hp; rw [hp]; exact HNE.out)
    have HI3 : Hid (BxI W [(bv, (vwT L 64 256 (t + 1)).enc), (br, View.zero.enc)] (put V3 bv v3.enc)) := by rw [← HEQ.out]; exact hV
    clear hV
    go_wp2_with fail
    refine ⟨rfl, rfl, ⟨rfl, rfl, rfl, t + 1, by have := HT.out.1; omega, ?_, HI3⟩, ?_⟩
    · show Value.int .u8 _ = _
      have := HT.out.1
      go_num
    · show 4 - (intOf (Value.int .u8 _)).toNat < 4 - (intOf (G 6)).toNat
      rw [H6.out]
      have := HT.out.1
      simp [intOf]; omega
  have hin : a < 64 := by omega
  have ha5 : (a : Int) < 64 := by omega
  have p0 : (0 : Int) ≤ (a : Int) := by omega
  have p2 : ((a : Int)).toNat = a := by omega
  obtain ⟨au, hau⟩ : ∃ au, au = UInt8.ofNat a := ⟨_, rfl⟩
  have hk : w8 au = (a : Int) := by rw [hau]; exact w8_ofNat a (by omega)
  have hnon := hV.call (R := fun e => e = .returned (.int .u64 (w64 (vwN L.st.now a)))) (by have h := nonce_any V bl 1 L.st.now (HR.out.ext hV.1) au; rw [hau] at h; exact h)
  rw [← hau, hk] at hnon
  obtain ⟨v0, hv0⟩ : ∃ v : View, v = vwT L a (4 * a) 0 := ⟨_, rfl⟩
  have hs1 := View.nonces_put v0 a (vwN L.st.now a) hin
  have hv1 : ({ v0 with nonces := v0.nonces.set a (vwN L.st.now a) hin } : View) = vwT L (a + 1) (4 * a + 0) 0 := by
    rw [hv0]
    unfold vwT
    dsimp only
    rw [vN_set (vwN L.st.now) a hin]
    rfl
  rw [hv1] at hs1
  rw [← hv0] at hnon
  have l0 : v0.enc.length = 343 := View.length_enc _
  have k1 : 257 + a + 1 ≤ 343 := by omega
  have HA : Hid (a < 64 ∧ w8 au = (a : Int) ∧ au = UInt8.ofNat a) := ⟨hin, hk, hau⟩
  clear hv0 hv1 hk hau ha ha4 hV hin
  go_wp2_with fail
  refine hnon.mono ?_
  clear hnon
  rintro e V1 ⟨rfl, hV⟩
  dsimp only
  have kb := (hV.at (b := bv) (C := v0.enc) (by simp)).1
  have kf := (hV.at (b := bv) (C := v0.enc) (by simp)).2
  have HI0 : Hid (BxI W [(bv, (vwT L (a + 1) (4 * a + 0) 0).enc), (br, View.zero.enc)] (put V1 bv (vwT L (a + 1) (4 * a + 0) 0).enc)) := hV.put (fun p hp => by rw [List.mem_singleton] at hp; rw [hp]; exact HNE.out)
  clear hV
  go_wp2_with fail
  refine wp_loop_f 125 (vw2I W bl br bv L a) (fun f _ => 4 - (intOf (f 5)).toNat) rfl ⟨rfl, rfl, rfl, rfl, 0, by omega, rfl, HI0⟩ ?_
  clear HI0 kb kf hs1 l0 k1 v0
  intro F2 V2 hrel
  obtain ⟨f0, f2, f3, f4, t, ht, f5, HI⟩ := hrel
  have H5 := hid_of f5
  rw [frame125v, f0, f2, f3, f4, f5]
  clear f0 f2 f3 f4 f5
  have hV := HI.out
  clear HI
  by_cases ht4 : t = 4
  · subst ht4
    have HI0 : Hid (BxI W [(bv, (vwT L (a + 1) (4 * (a + 1)) 0).enc), (br, View.zero.enc)] V2) := hV
    clear hV H5
    go_wp2_with fail
    refine ⟨rfl, rfl, ⟨rfl, rfl, rfl, a + 1, by have := HA.out.1; omega, ?_, HI0⟩, ?_⟩
    · show Value.int .u8 _ = _
      have := HA.out.1
      go_num
    · show 64 - (intOf (Value.int .u8 _)).toNat < 64 - (intOf (F 4)).toNat
      rw [H4.out]
      have := HA.out.1
      simp [intOf]; omega
  have hin : t < 4 := by omega
  have ht5 : (t : Int) < 4 := by omega
  obtain ⟨tu, htu⟩ : ∃ tu, tu = UInt8.ofNat t := ⟨_, rfl⟩
  have hk : w8 tu = (t : Int) := by rw [htu]; exact w8_ofNat t (by omega)
  have hi2 : 4 * a + t < 256 := by have := HA.out.1; omega
  have hvb : ldF L.st.now (keyB au tu) = vwB L.st.now (4 * a + t) := by
    unfold vwB
    rw [show (4 * a + t) / 4 = a by omega, show (4 * a + t) % 4 = t by omega, HA.out.2.2, htu]
  have hbal := hV.call (R := fun e => e = .returned (.int .u64 (w64 (vwB L.st.now (4 * a + t))))) (by have h := balance_any V2 bl 1 L.st.now (HR.out.ext hV.1) au tu; rw [hvb] at h; exact h)
  rw [HA.out.2.1, hk] at hbal
  obtain ⟨v0, hv0⟩ : ∃ v : View, v = vwT L (a + 1) (4 * a + t) 0 := ⟨_, rfl⟩
  have hs1 := View.balances_put v0 (4 * a + t) (vwB L.st.now (4 * a + t)) hi2
  have hv1 : ({ v0 with balances := v0.balances.set (4 * a + t) (vwB L.st.now (4 * a + t)) hi2 } : View) = vwT L (a + 1) (4 * a + (t + 1)) 0 := by
    rw [hv0]
    unfold vwT
    dsimp only
    rw [vN_set (vwB L.st.now) (4 * a + t) hi2]
    rfl
  rw [hv1] at hs1
  rw [← hv0] at hbal
  have l0 : v0.enc.length = 343 := View.length_enc _
  obtain ⟨z, hz⟩ : ∃ z : Nat, z = 4 * a + t := ⟨_, rfl⟩
  rw [← hz] at hs1 hi2 hbal
  have z0 : IntKind.i64.wrap ((a : Int) * 4) = (a : Int) * 4 := by rw [IntKind.wrap_i64]; have := HA.out.1; omega
  have z1 : IntKind.i64.wrap ((a : Int) * 4 + (t : Int)) = (z : Int) := by rw [IntKind.wrap_i64]; have := HA.out.1; omega
  have za : IntKind.i64.wrap (a : Int) = (a : Int) := by rw [IntKind.wrap_i64]; have := HA.out.1; omega
  have zt : IntKind.i64.wrap (t : Int) = (t : Int) := by rw [IntKind.wrap_i64]; omega
  have z2 : (0 : Int) ≤ (z : Int) := by omega
  have z3 : ((z : Int)).toNat = z := by omega
  have z4 : (z : Int) < 256 := by omega
  have k1 : 1 + z + 1 ≤ 343 := by omega
  have HT : Hid (t < 4 ∧ z = 4 * a + t) := ⟨hin, hz⟩
  clear hv0 hv1 hvb hk htu ht ht4 hV hin hz hi2
  go_wp2_with fail
  refine hbal.mono ?_
  clear hbal
  rintro e V3 ⟨rfl, hV⟩
  dsimp only
  have kb := (hV.at (b := bv) (C := v0.enc) (by simp)).1
  have kf := (hV.at (b := bv) (C := v0.enc) (by simp)).2
  have HI1 : Hid (BxI W [(bv, (vwT L (a + 1) (4 * a + (t + 1)) 0).enc), (br, View.zero.enc)] (put V3 bv (vwT L (a + 1) (4 * a + (t + 1)) 0).enc)) := hV.put (fun p hp => by rw [List.mem_singleton] at hp; rw [hp]; exact HNE.out)
  clear hV
  go_wp2_with fail
  refine ⟨rfl, rfl, ⟨rfl, rfl, rfl, rfl, t + 1, by have := HT.out.1; omega, ?_, HI1⟩, ?_⟩
  · show Value.int .u8 _ = _
    have := HT.out.1
    go_num
  · show 4 - (intOf (Value.int .u8 _)).toNat < 4 - (intOf (F2 5)).toNat
    rw [H5.out]
    have := HT.out.1
    simp [intOf]; omega
end Go.Proofs.Qxb6500786aGreat
