import Derived.DeepKeys2
import Derived.Test.Qxb6500786aGreatJp
import Derived.Test.Qxb6500786aGreatJk

import Derived.StillTailTactics
import Derived.Deep.QuietTactic
import Derived.BigQuiet
import Derived.Deep.RegionHeld
import Derived.Deep.CutRange
import Derived.Laws.ResultCell
import Derived.Laws.Rows
import Derived.DeepKeys
import Derived.DataBytes
import Derived.Laws.StructEq
import Derived.Laws.AppendOwn
import Derived.Laws.MakeOwn
import Derived.Lib.AppendStr
set_option linter.unusedSimpArgs false
set_option linter.unusedVariables false
namespace Go.Proofs.Qxb6500786aGreat
open Go.RowKit Go.Blk
attribute [local go_sem ↓] execOp_load execOp_store execOp_alloc
attribute [local go_sem] Tryz.ld24 Tryz.st24 Tryz.ld36 Tryz.st36 Tryz.ld28 Tryz.st28 Tryz.ld32 Tryz.st32 Tryz.ld33 Tryz.st33 Tryz.ld34 Tryz.st34 Tryz.ld5 Tryz.st5 Tryz.ld31 Tryz.st31 Tryz.ld30 Tryz.st30 Tryz.ld41 Tryz.st41 Tryz.ld44 Tryz.st44 Tryz.ld4 Tryz.st4 Tryz.ld173 Tryz.st173 Tryz.ld174 Tryz.st174 Tryz.ld95 Tryz.st95 Tryz.ld45 Tryz.st45 Tryz.ld207 Tryz.st207 Tryz.ld3 Tryz.st3 Tryz.ld189 Tryz.st189 Tryz.ld2 Tryz.st2 Tryz.ld9 Tryz.st9 Tryz.ld12 Tryz.st12 Tryz.ld21 Tryz.st21 Tryz.ld22 Tryz.st22 Tryz.ld46 Tryz.st46 Tryz.ld92 Tryz.st92 Tryz.ld94 Tryz.st94 Tryz.ld96 Tryz.st96 Tryz.ld97 Tryz.st97 Tryz.ld105 Tryz.st105 Tryz.ld117 Tryz.st117 Tryz.ld122 Tryz.st122 Tryz.ld123 Tryz.st123 Tryz.ld133 Tryz.st133 Tryz.ld155 Tryz.st155 Tryz.ld163 Tryz.st163 Tryz.ld190 Tryz.st190 Tryz.ld197 Tryz.st197 Tryz.ld201 Tryz.st201 Tryz.ld202 Tryz.st202 Tryz.ld209 Tryz.st209 Tryz.ld216 Tryz.st216 Tryz.ld230 Tryz.st230 Tryz.ld238 Tryz.st238 Tryz.ld242 Tryz.st242 Tryz.ld251 Tryz.st251 Tryz.ld260 Tryz.st260 Tryz.ld286 Tryz.st286 Tryz.ld292 Tryz.st292 Tryz.ld298 Tryz.st298 Tryz.ld309 Tryz.st309 Tryz.ld35 Tryz.st35 Tryz.ld48 Tryz.st48 Tryz.ld47 Tryz.st47 Tryz.ld79 Tryz.st79 Tryz.ld177 Tryz.st177 Tryz.ld180 Tryz.st180 Tryz.ld231 Tryz.st231 Tryz.ld232 Tryz.st232 Tryz.ld26 Tryz.st26 Tryz.ld38 Tryz.st38 Tryz.ld40 Tryz.st40 Tryz.ld43 Tryz.st43 Tryz.ld50 Tryz.st50 Tryz.ld52 Tryz.st52 Tryz.ld54 Tryz.st54 Tryz.ld81 Tryz.st81 Tryz.ld112 Tryz.st112 Tryz.ld120 Tryz.st120 Tryz.ld176 Tryz.st176 Tryz.ld179 Tryz.st179 Tryz.ld182 Tryz.st182 Tryz.ld184 Tryz.st184 Tryz.ld234 Tryz.st234 Tryz.ld236 Tryz.st236 Tryz.ld240 Tryz.st240 Tryz.ld246 Tryz.st246 Tryz.ld249 Tryz.st249 Tryz.al35 Tryz.al48 Tryz.al47 Tryz.al79 Tryz.al177 Tryz.al180 Tryz.al231 Tryz.al232 Tryz.al26 Tryz.al38 Tryz.al40 Tryz.al43 Tryz.al50 Tryz.al52 Tryz.al54 Tryz.al81 Tryz.al112 Tryz.al120 Tryz.al176 Tryz.al179 Tryz.al182 Tryz.al184 Tryz.al234 Tryz.al236 Tryz.al240 Tryz.al246 Tryz.al249
attribute [local go_sem] Player.length_enc Player.ok_enc Player.all_get Player.all_set Player.hand_get Player.hand_set Player.aside_get Player.aside_set Message.length_enc Message.ok_enc Message.all_get Message.all_set Message.kind_get Message.kind_set Message.from__get Message.from__set Message.to__get Message.to__set Message.sender_get Message.sender_set Message.receiver_get Message.receiver_set Message.seq_get Message.seq_set Message.token_get Message.token_set Message.amount_get Message.amount_set Message.size_get Message.size_set Message.payload_get Message.payload_set Tx.length_enc Tx.ok_enc Tx.all_get Tx.all_set Tx.kind_get Tx.kind_set Tx.chain_get Tx.chain_set Tx.from__get Tx.from__set Tx.nonce_get Tx.nonce_set Tx.fee_get Tx.fee_set Tx.to__get Tx.to__set Tx.dest_get Tx.dest_set Tx.token_get Tx.token_set Tx.amount_get Tx.amount_set Tx.size_get Tx.size_set Tx.payload_get Tx.payload_set Tx.msg_get Tx.msg_set Tx.msg_kind_get Tx.msg_kind_set Tx.msg_from__get Tx.msg_from__set Tx.msg_to__get Tx.msg_to__set Tx.msg_sender_get Tx.msg_sender_set Tx.msg_receiver_get Tx.msg_receiver_set Tx.msg_seq_get Tx.msg_seq_set Tx.msg_token_get Tx.msg_token_set Tx.msg_amount_get Tx.msg_amount_set Tx.msg_size_get Tx.msg_size_set Tx.msg_payload_get Tx.msg_payload_set GOp.length_enc GOp.ok_enc GOp.all_get GOp.all_set GOp.kind_get GOp.kind_set GOp.tx_get GOp.tx_set GOp.txs_get GOp.txs_set GOp.gas_get GOp.gas_set GOp.acct_get GOp.acct_set GOp.token_get GOp.token_set GOp.chain_get GOp.chain_set GOp.seq_get GOp.seq_set GOp.tx_kind_get GOp.tx_kind_set GOp.tx_chain_get GOp.tx_chain_set GOp.tx_from__get GOp.tx_from__set GOp.tx_nonce_get GOp.tx_nonce_set GOp.tx_fee_get GOp.tx_fee_set GOp.tx_to__get GOp.tx_to__set GOp.tx_dest_get GOp.tx_dest_set GOp.tx_token_get GOp.tx_token_set GOp.tx_amount_get GOp.tx_amount_set GOp.tx_size_get GOp.tx_size_set GOp.tx_payload_get GOp.tx_payload_set GOp.tx_msg_get GOp.tx_msg_set GOp.tx_msg_kind_get GOp.tx_msg_kind_set GOp.tx_msg_from__get GOp.tx_msg_from__set GOp.tx_msg_to__get GOp.tx_msg_to__set GOp.tx_msg_sender_get GOp.tx_msg_sender_set GOp.tx_msg_receiver_get GOp.tx_msg_receiver_set GOp.tx_msg_seq_get GOp.tx_msg_seq_set GOp.tx_msg_token_get GOp.tx_msg_token_set GOp.tx_msg_amount_get GOp.tx_msg_amount_set GOp.tx_msg_size_get GOp.tx_msg_size_set GOp.tx_msg_payload_get GOp.tx_msg_payload_set Summary.length_enc Summary.ok_enc Summary.all_get Summary.all_set Summary.height_get Summary.height_set Summary.txs_get Summary.txs_set Summary.gas_get Summary.gas_set Summary.fees_get Summary.fees_set Summary.sent_get Summary.sent_set Summary.took_get Summary.took_set Summary.minted_get Summary.minted_set Summary.burned_get Summary.burned_set Summary.root_get Summary.root_set Detail.length_enc Detail.ok_enc Detail.all_get Detail.all_set Detail.code_get Detail.code_set Detail.have__get Detail.have__set Detail.need_get Detail.need_set Slot.length_enc Slot.ok_enc Slot.all_get Slot.all_set Slot.nonce_get Slot.nonce_set Slot.balances_get Slot.balances_set Tree.length_enc Tree.ok_enc Tree.all_get Tree.all_set Tree.leaves_get Tree.leaves_set Mark.length_enc Mark.ok_enc Mark.all_get Mark.all_set Mark.from__get Mark.from__set Mark.seq_get Mark.seq_set Receipt.length_enc Receipt.ok_enc Receipt.all_get Receipt.all_set Receipt.code_get Receipt.code_set Receipt.hash_get Receipt.hash_set Receipt.index_get Receipt.index_set Receipt.gas_get Receipt.gas_set Receipt.fee_get Receipt.fee_set Receipt.hasSent_get Receipt.hasSent_set Receipt.sent_get Receipt.sent_set Receipt.hasTook_get Receipt.hasTook_set Receipt.took_get Receipt.took_set Receipt.sent_kind_get Receipt.sent_kind_set Receipt.sent_from__get Receipt.sent_from__set Receipt.sent_to__get Receipt.sent_to__set Receipt.sent_sender_get Receipt.sent_sender_set Receipt.sent_receiver_get Receipt.sent_receiver_set Receipt.sent_seq_get Receipt.sent_seq_set Receipt.sent_token_get Receipt.sent_token_set Receipt.sent_amount_get Receipt.sent_amount_set Receipt.sent_size_get Receipt.sent_size_set Receipt.sent_payload_get Receipt.sent_payload_set Receipt.took_kind_get Receipt.took_kind_set Receipt.took_from__get Receipt.took_from__set Receipt.took_to__get Receipt.took_to__set Receipt.took_sender_get Receipt.took_sender_set Receipt.took_receiver_get Receipt.took_receiver_set Receipt.took_seq_get Receipt.took_seq_set Receipt.took_token_get Receipt.took_token_set Receipt.took_amount_get Receipt.took_amount_set Receipt.took_size_get Receipt.took_size_set Receipt.took_payload_get Receipt.took_payload_set Store.length_enc Store.ok_enc Store.all_get Store.all_set Store.now_get Store.now_set Store.saved_get Store.saved_set GState.length_enc GState.ok_enc GState.all_get GState.all_set GState.kv_get GState.kv_set GState.tree_get GState.tree_set GState.stale_get GState.stale_set GState.touched_get GState.touched_set GState.kv_now_get GState.kv_now_set GState.kv_saved_get GState.kv_saved_set GState.tree_leaves_get GState.tree_leaves_set History.length_enc History.ok_enc History.all_get History.all_set History.ring_get History.ring_set History.closed_get History.closed_set Ledger.length_enc Ledger.ok_enc Ledger.all_get Ledger.all_set Ledger.chain_get Ledger.chain_set Ledger.st_get Ledger.st_set Ledger.height_get Ledger.height_set Ledger.open__get Ledger.open__set Ledger.gasLimit_get Ledger.gasLimit_set Ledger.past_get Ledger.past_set Ledger.begun_get Ledger.begun_set Ledger.sent_get Ledger.sent_set Ledger.took_get Ledger.took_set Ledger.receipts_get Ledger.receipts_set Ledger.st_kv_get Ledger.st_kv_set Ledger.st_tree_get Ledger.st_tree_set Ledger.st_stale_get Ledger.st_stale_set Ledger.st_touched_get Ledger.st_touched_set Ledger.st_kv_now_get Ledger.st_kv_now_set Ledger.st_kv_saved_get Ledger.st_kv_saved_set Ledger.st_tree_leaves_get Ledger.st_tree_leaves_set Ledger.past_ring_get Ledger.past_ring_set Ledger.past_closed_get Ledger.past_closed_set Ledger.begun_kv_get Ledger.begun_kv_set Ledger.begun_tree_get Ledger.begun_tree_set Ledger.begun_stale_get Ledger.begun_stale_set Ledger.begun_touched_get Ledger.begun_touched_set Ledger.begun_kv_now_get Ledger.begun_kv_now_set Ledger.begun_kv_saved_get Ledger.begun_kv_saved_set Ledger.begun_tree_leaves_get Ledger.begun_tree_leaves_set Purse.length_enc Purse.ok_enc Purse.all_get Purse.all_set Purse.st_get Purse.st_set Purse.n_get Purse.n_set Purse.account_get Purse.account_set Purse.token_get Purse.token_set Purse.amount_get Purse.amount_set Plan.length_enc Plan.ok_enc Plan.all_get Plan.all_set Plan.purse_get Plan.purse_set Plan.nonce_get Plan.nonce_set Plan.gasUsed_get Plan.gasUsed_set Plan.fees_get Plan.fees_set Plan.hasSupply_get Plan.hasSupply_set Plan.token_get Plan.token_set Plan.supply_get Plan.supply_set Plan.flowAt_get Plan.flowAt_set Plan.flow_get Plan.flow_set Plan.receipt_get Plan.receipt_set Plan.purse_st_get Plan.purse_st_set Plan.purse_n_get Plan.purse_n_set Plan.purse_account_get Plan.purse_account_set Plan.purse_token_get Plan.purse_token_set Plan.purse_amount_get Plan.purse_amount_set Plan.receipt_code_get Plan.receipt_code_set Plan.receipt_hash_get Plan.receipt_hash_set Plan.receipt_index_get Plan.receipt_index_set Plan.receipt_gas_get Plan.receipt_gas_set Plan.receipt_fee_get Plan.receipt_fee_set Plan.receipt_hasSent_get Plan.receipt_hasSent_set Plan.receipt_sent_get Plan.receipt_sent_set Plan.receipt_hasTook_get Plan.receipt_hasTook_set Plan.receipt_took_get Plan.receipt_took_set Plan.receipt_sent_kind_get Plan.receipt_sent_kind_set Plan.receipt_sent_from__get Plan.receipt_sent_from__set Plan.receipt_sent_to__get Plan.receipt_sent_to__set Plan.receipt_sent_sender_get Plan.receipt_sent_sender_set Plan.receipt_sent_receiver_get Plan.receipt_sent_receiver_set Plan.receipt_sent_seq_get Plan.receipt_sent_seq_set Plan.receipt_sent_token_get Plan.receipt_sent_token_set Plan.receipt_sent_amount_get Plan.receipt_sent_amount_set Plan.receipt_sent_size_get Plan.receipt_sent_size_set Plan.receipt_sent_payload_get Plan.receipt_sent_payload_set Plan.receipt_took_kind_get Plan.receipt_took_kind_set Plan.receipt_took_from__get Plan.receipt_took_from__set Plan.receipt_took_to__get Plan.receipt_took_to__set Plan.receipt_took_sender_get Plan.receipt_took_sender_set Plan.receipt_took_receiver_get Plan.receipt_took_receiver_set Plan.receipt_took_seq_get Plan.receipt_took_seq_set Plan.receipt_took_token_get Plan.receipt_took_token_set Plan.receipt_took_amount_get Plan.receipt_took_amount_set Plan.receipt_took_size_get Plan.receipt_took_size_set Plan.receipt_took_payload_get Plan.receipt_took_payload_set Move.length_enc Move.ok_enc Move.all_get Move.all_set Move.account_get Move.account_set Move.token_get Move.token_set Move.down_get Move.down_set Move.amount_get Move.amount_set Books.length_enc Books.ok_enc Books.all_get Books.all_set Books.sums_get Books.sums_set Books.stored_get Books.stored_set Books.marks_get Books.marks_set Pair.length_enc Pair.ok_enc Pair.all_get Pair.all_set Pair.key_get Pair.key_set Pair.value_get Pair.value_set
attribute [local go_sem] size_put size_ext blk_put free_put blk_alloc free_alloc blk_drew free_drew blk_ext free_ext lookOr_some putOr_some segAt_some cellAt_some storeIn_some put_put put_alloc_new length_arr ok_arr_u8 ok_arr_u32 ok_arr_u64 ok_arr_i64 ok_arr_sl cellsV_agg cellsV_int cellsV_bool cellsV_string cellsV_pointer cellsV_slice cellsV_sl ok_int ok_bool ok_string ok_pointer ok_slice ok_sl toList_arr seg_arr set_arr nth_splice nth_splice0 seg_splice seg_splice0 splice_splice splice_splice0 length_splice_if
attribute [local go_sem ↓] execOp_box
attribute [local go_sem] box_run nth_arr_u8 put_arr_u8 blk_drewN free_drewN put_drewN blk_raw free_raw
attribute [local go_sem] Tryz.ld61 Tryz.st61 Tryz.ld125 Tryz.st125 Tryz.ld148 Tryz.st148 Tryz.al61 Tryz.al125 Tryz.al148 View.length_enc View.ok_enc View.all_get View.all_set View.chain_get View.chain_set View.balances_get View.balances_set View.nonces_get View.nonces_set View.supply_get View.supply_set View.marks_get View.marks_set View.height_get View.height_set View.open__get View.open__set View.gasLimit_get View.gasLimit_set View.gasUsed_get View.gasUsed_set View.fees_get View.fees_set View.txs_get View.txs_set View.sent_get View.sent_set View.took_get View.took_set View.minted_get View.minted_set View.burned_get View.burned_set View.depth_get View.depth_set Trail.length_enc Trail.ok_enc Trail.all_get Trail.all_set Trail.views_get Trail.views_set Trail.roots_get Trail.roots_set Trail.begunView_get Trail.begunView_set Trail.begunRoot_get Trail.begunRoot_set Trail.begunKnown_get Trail.begunKnown_set Trail.begunView_chain_get Trail.begunView_chain_set Trail.begunView_balances_get Trail.begunView_balances_set Trail.begunView_nonces_get Trail.begunView_nonces_set Trail.begunView_supply_get Trail.begunView_supply_set Trail.begunView_marks_get Trail.begunView_marks_set Trail.begunView_height_get Trail.begunView_height_set Trail.begunView_open__get Trail.begunView_open__set Trail.begunView_gasLimit_get Trail.begunView_gasLimit_set Trail.begunView_gasUsed_get Trail.begunView_gasUsed_set Trail.begunView_fees_get Trail.begunView_fees_set Trail.begunView_txs_get Trail.begunView_txs_set Trail.begunView_sent_get Trail.begunView_sent_set Trail.begunView_took_get Trail.begunView_took_set Trail.begunView_minted_get Trail.begunView_minted_set Trail.begunView_burned_get Trail.begunView_burned_set Trail.begunView_depth_get Trail.begunView_depth_set Dump.length_enc Dump.ok_enc Dump.all_get Dump.all_set Dump.chain_get Dump.chain_set Dump.height_get Dump.height_set Dump.balances_get Dump.balances_set Dump.nonces_get Dump.nonces_set Dump.marks_get Dump.marks_set Dump.history_get Dump.history_set
theorem hoN_pre (now : List Pair) (t : UInt8) (a : Nat) : ∀ k, ∃ l, hoN now t (a + k) = hoN now t a ++ l
  | 0 => ⟨[], (List.append_nil _).symm⟩
  | k + 1 => by
    obtain ⟨l, hl⟩ := hoN_pre now t a k
    show ∃ l, (if ldF now (keyB (UInt8.ofNat (a + k)) t) = 0 then hoN now t (a + k) else hoN now t (a + k) ++ [UInt8.ofNat (a + k)]) = _
    split
    · exact ⟨l, hl⟩
    · exact ⟨l ++ [UInt8.ofNat (a + k)], by rw [hl, List.append_assoc]⟩
theorem hoN_get {now : List Pair} {t : UInt8} {a : Nat} (ha : a < 64) (hz : ¬ ldF now (keyB (UInt8.ofNat a) t) = 0) : (hoN now t 64)[(hoN now t a).length]? = some (UInt8.ofNat a) := by
  obtain ⟨l, hl⟩ := hoN_pre now t (a + 1) (63 - a)
  rw [show a + 1 + (63 - a) = 64 by omega] at hl
  have e : hoN now t (a + 1) = hoN now t a ++ [UInt8.ofNat a] := by
    show (if _ then _ else _) = _
    rw [if_neg hz]
  rw [hl, e, List.append_assoc, List.getElem?_append_right (Nat.le_refl _), Nat.sub_self]
  rfl
theorem ha_facts {a t am jm : Nat} (ha : a < 64) (ht : t < 4) (e1 : am = 4 * a) (e2 : jm = 4 * a + t) : wrap64 ((a : Int) * 4) = (am : Int) ∧ wrap64 ((am : Int) + (t : Int)) = (jm : Int) ∧ (0 : Int) ≤ (jm : Int) ∧ (jm : Int) < 256 ∧ ((jm : Int)).toNat = jm ∧ (a : Int) * 4 = (am : Int) ∧ (am : Int) + (t : Int) = (jm : Int) := by
  have w : ∀ n : Int, 0 ≤ n → n ≤ 1000 → wrap64 n = n := fun n h1 h2 => by unfold wrap64; omega
  refine ⟨?_, ?_, by omega, by omega, by omega, by omega, by omega⟩
  · rw [w _ (by omega) (by omega)]; omega
  · rw [w _ (by omega) (by omega)]; omega
def haI (W : World) (bl b3 : Nat) (v : View) (F : Nat → Value) (V : World) : Prop := F 0 = .pointer (some ⟨bl, 0, none⟩) ∧ F 3 = .pointer (some ⟨b3, 0, none⟩) ∧ ∃ t : Nat, t ≤ 4 ∧ F 5 = .int .i64 (t : Nat) ∧ Hid (BxI W [(b3, v.enc)] V)
def hbI (W U : World) (bl b3 t n c : Nat) (p : Option Addr) (now : List Pair) (F : Nat → Value) (V : World) : Prop := F 0 = .pointer (some ⟨bl, 0, none⟩) ∧ F 3 = .pointer (some ⟨b3, 0, none⟩) ∧ F 5 = .int .i64 (t : Nat) ∧ F 6 = .slice p n c ∧ ∃ a nx : Nat, a ≤ 64 ∧ F 11 = .int .i64 (a : Nat) ∧ F 10 = .int .i64 (nx : Nat) ∧ Hid (nx = (hoN now (UInt8.ofNat t) a).length) ∧ V = U
set_option maxRecDepth 100000 in
theorem frame96L (f : Nat → Value) : frameN 96 f = #[f 0, f 1, f 2, f 3, f 4, f 5, f 6, f 7, f 8, f 9, f 10, f 11, f 12, f 13, f 14, f 15, f 16, f 17, f 18, f 19, f 20, f 21, f 22, f 23, f 24, f 25, f 26, f 27, f 28, f 29, f 30, f 31, f 32, f 33, f 34, f 35, f 36, f 37, f 38, f 39, f 40, f 41, f 42, f 43, f 44, f 45, f 46, f 47, f 48, f 49, f 50, f 51, f 52, f 53, f 54, f 55, f 56, f 57, f 58, f 59, f 60, f 61, f 62, f 63, f 64, f 65, f 66, f 67, f 68, f 69, f 70, f 71, f 72, f 73, f 74, f 75, f 76, f 77, f 78, f 79, f 80, f 81, f 82, f 83, f 84, f 85, f 86, f 87, f 88, f 89, f 90, f 91, f 92, f 93, f 94, f 95] := by kernel_rfl
set_option maxRecDepth 20000 in
set_option maxHeartbeats 2000000 in
theorem holdersAgree_any (O : Own) (W : World) (bl : Nat) (L : PLg) (hL : LedA O W bl L) : Calls Tryz.prog 28 #[.pointer (some ⟨bl, 0, none⟩), .agg (viewF L).enc.toArray] W fun e V => e = .returned (.bool true) ∧ W.Extends V := by
  obtain ⟨v, hv⟩ : ∃ v, v = viewF L := ⟨_, rfl⟩
  rw [← hv]
  obtain ⟨Q, hQ⟩ : ∃ Q : Ending → World → Prop, Q = fun e V => e = .returned (.bool true) ∧ W.Extends V := ⟨_, rfl⟩
  rw [← hQ]
  have HQ : Hid (∀ V, W.Extends V → Q (.returned (.bool true)) V) := fun V h => by rw [hQ]; exact ⟨rfl, h⟩
  have HR := hid_of hL.rd
  have HVV := hid_of hv
  have h1 := (BxI.start W).box v.enc 61
  obtain ⟨V1, hV1⟩ : ∃ V1, V1 = W.alloc (.cells v.enc.toArray 61) := ⟨_, rfl⟩
  obtain ⟨b3, hb3⟩ : ∃ b3, b3 = W.heap.size := ⟨_, rfl⟩
  rw [← hV1, ← hb3] at h1
  have HI0 := hid_of h1
  have HV1 := hid_of hV1
  have HB3 := hid_of hb3
  clear hQ hv hV1 hb3 h1 hL
  go_enter Tryz.func28, Tryz.ntmps28
  go_upto_region 1 with fail
  rw [← HV1.out, ← HB3.out]
  clear HV1 HB3
  go_wp2_with fail
  refine wp_loop_f 96 (haI W bl b3 v) (fun f _ => 4 - (intOf (f 5)).toNat) rfl ⟨rfl, rfl, 0, by omega, rfl, HI0⟩ ?_
  clear HI0
  intro F V hrel
  obtain ⟨f0, f3, t, ht, f5, HI⟩ := hrel
  have H5 := hid_of f5
  rw [frame96L, f0, f3, f5]
  clear f0 f3 f5
  by_cases hin : t < 4
  rotate_left 1
  · have hin' : ¬ (t : Int) < 4 := by omega
    have hh := holders_bad V bl
    clear hin ht
    go_wp2_with fail
    refine hh.mono ?_
    clear hh
    rintro e V2 ⟨rfl, hx2⟩
    dsimp only
    have hrm := room_any V2 bl L.st.now (HR.out.ext (HI.out.1.trans hx2)) 4
    rw [show rooF L.st.now 4 = (0, 7) from rfl, show w8 4 = 4 from rfl, show w64 ((0 : UInt64), (7 : Int)).1 = 0 from rfl] at hrm
    have HX2 := hid_of (HI.out.1.trans hx2)
    clear hx2 HI
    go_wp2_with fail
    refine hrm.mono ?_
    clear hrm
    rintro e V3 ⟨rfl, hx3⟩
    dsimp only
    have HP := hid_of (HQ.out V3 (HX2.out.trans hx3))
    clear hx3 HX2 HQ
    go_wp2_with fail
    try (first | go_ret | go_ret2 | go_ret3 | go_end0)
    exact HP.out
  have hin' : (t : Int) < 4 := by omega
  have p0 : (0 : Int) ≤ (t : Int) := by omega
  have p2 : ((t : Int)).toNat = t := by omega
  have p9 : (t : Int) + 1 ≤ 1000 := by omega
  have hwr : IntKind.u8.wrap (t : Int) = (t : Int) := by rw [IntKind.wrap_u8]; omega
  have et : (UInt8.ofNat t).toNat = t := ofN_lt4 hin
  have hh := holders_any V bl L.st.now (HR.out.ext HI.out.1) (UInt8.ofNat t) (by rw [et]; exact hin)
  rw [w8_ofNat t (by omega)] at hh
  have HIN := hid_of hin
  clear ht
  go_wp2_with fail
  refine hh.mono ?_
  clear hh
  rintro e V2 ⟨p, n, c, rfl, hO⟩
  dsimp only
  have hx2 := hO.2.1
  have hrm := room_any V2 bl L.st.now (HR.out.ext (HI.out.1.trans hx2)) (UInt8.ofNat t)
  have er : rooF L.st.now (UInt8.ofNat t) = (9223372036854775807 - ldF L.st.now (keyS (UInt8.ofNat t)), 0) := by unfold rooF; rw [if_neg (by rw [et]; omega)]
  rw [er, w8_ofNat t (by omega)] at hrm
  dsimp only at hrm
  have HI2 := hid_of (HI.out.ext hx2)
  have HO := hid_of hO
  clear hx2 hO er HI hin
  go_wp2_with fail
  refine hrm.mono ?_
  clear hrm
  rintro e V3 ⟨rfl, hx3⟩
  dsimp only
  have h3 := HI2.out.ext hx3
  have kv := (h3.at (b := b3) (C := v.enc) (by simp)).1
  have hO3 := HO.out.ext hx3
  obtain ⟨sp, hsp⟩ : ∃ sp, sp = ldF L.st.now (keyS (UInt8.ofNat t)) := ⟨_, rfl⟩
  rw [← hsp]
  have n3 : nth v.enc (321 + t) = some (.int .u64 (w64 sp)) := by
    rw [View.supply_at v t HIN.out, hsp, HVV.out]
    have := sup_view L HIN.out
    rw [this]
    rfl
  have hsb : IntKind.u64.wrap (9223372036854775807 - w64 sp) = w64 (9223372036854775807 - sp) := x64_sub 9223372036854775807 _
  have hnl : n = (hoN L.st.now (UInt8.ofNat t) 64).length := hO3.2.2
  have hn64 : n ≤ 64 := by rw [hnl]; exact hoN_len _ _ _
  have hrw := OutG.rw el190 hO3
  have H3 := hid_of h3
  have HRW := hid_of hrw
  have HNL := hid_of hnl
  clear hx3 HI2 HO h3 hO3 hsp hnl hrw
  go_upto_region 8 with fail
  go_wp2_with fail
  refine wp_loop_f 96 (hbI W V3 bl b3 t n c p L.st.now) (fun f _ => 64 - (intOf (f 11)).toNat) rfl ⟨rfl, rfl, rfl, rfl, 0, 0, by omega, rfl, rfl, rfl, rfl⟩ ?_
  clear n3 hsb
  intro G V hrel
  obtain ⟨g0, g3, g5, g6, a, nx, ha, g11, g10, HNX, hV⟩ := hrel
  subst hV
  have H11 := hid_of g11
  rw [frame96L, g0, g3, g5, g6, g11, g10]
  clear g0 g3 g5 g6 g11 g10
  by_cases hia : a < 64
  rotate_left 1
  · have hia' : ¬ (a : Int) < 64 := by omega
    have ea : a = 64 := by omega
    have en : nx = n := by rw [HNX.out, HNL.out, ea]
    subst en
    clear hia ha ea kv
    go_wp2_with fail
    refine ⟨rfl, rfl, ⟨rfl, rfl, t + 1, HIN.out, ?_, H3⟩, ?_⟩
    · show Value.int .i64 _ = _
      go_num
    · show 4 - (intOf (Value.int .i64 _)).toNat < 4 - (intOf (F 5)).toNat
      rw [H5.out]
      have := HIN.out
      simp [intOf]; omega
  have hia' : (a : Int) < 64 := by omega
  obtain ⟨am, ham⟩ : ∃ am : Nat, am = 4 * a := ⟨_, rfl⟩
  obtain ⟨jm, hjm⟩ : ∃ jm : Nat, jm = 4 * a + t := ⟨_, rfl⟩
  obtain ⟨c1, c2, c3, c4, c5, c6, c7⟩ := ha_facts hia HIN.out ham hjm
  obtain ⟨bl', hbl⟩ : ∃ bl', bl' = ldF L.st.now (keyB (UInt8.ofNat a) (UInt8.ofNat t)) := ⟨_, rfl⟩
  have n1 : nth v.enc (1 + jm) = some (.int .u64 (w64 bl')) := by
    have e1 : (UInt8.ofNat a).toNat = a := by rw [UInt8.toNat_ofNat']; omega
    rw [View.balances_at v jm (by have := HIN.out; omega), HVV.out, hbl, ← bal_view L (a := UInt8.ofNat a) (t := UInt8.ofNat t) (by omega) (by rw [et]; exact HIN.out) (by rw [e1, et]; have := HIN.out; omega)]
    congr 4
    rw [hjm, e1, et]
  have ha9 : (a : Int) + 1 ≤ 1000 := by omega
  have hwa : IntKind.u8.wrap (a : Int) = (a : Int) := by rw [IntKind.wrap_u8]; omega
  have HIA := hid_of hia
  have HBL := hid_of hbl
  clear hia ha ham hjm hbl
  by_cases hz : bl' = 0
  · have hzz : (w64 bl' == 0) = true := by rw [hz]; rfl
    have HN2 : Hid (nx = (hoN L.st.now (UInt8.ofNat t) (a + 1)).length) := by
      show _ = _
      rw [HNX.out]
      show _ = (if ldF L.st.now (keyB (UInt8.ofNat a) (UInt8.ofNat t)) = 0 then _ else _ : List UInt8).length
      rw [if_pos (by rw [← HBL.out]; exact hz)]
    clear hz
    go_wp2_with fail
    refine ⟨rfl, rfl, ⟨rfl, rfl, rfl, rfl, a + 1, nx, HIA.out, ?_, rfl, HN2, rfl⟩, ?_⟩
    · show Value.int .i64 _ = _
      go_num
    · show 64 - (intOf (Value.int .i64 _)).toNat < 64 - (intOf (G 11)).toNat
      rw [H11.out]
      have := HIA.out
      simp [intOf]; omega
  · have hzz : (w64 bl' == 0) = false := by
      have : ¬ w64 bl' = 0 := fun q => hz (w64_inj (b := 0) q)
      simp [this]
    have hgt := hoN_get (now := L.st.now) (t := UInt8.ofNat t) HIA.out (by rw [← HBL.out]; exact hz)
    rw [← HNX.out] at hgt
    obtain ⟨bq, CQ, e1, k1, l1, s1⟩ := HRW.out.2 nx _ hgt
    have hnx : nx < n := by
      have := (List.getElem?_eq_some_iff.1 hgt).1
      rw [HNL.out]; exact this
    have nq : nth CQ nx = some (.int .u8 (a : Int)) := by
      have q := (get_sub (a := nx * 1) (j := 0) s1 (by rw [encB_len]; omega))
      rw [Nat.mul_one, Nat.add_zero] at q
      show CQ[nx]? = _
      rw [q, show encB (UInt8.ofNat a) = [.int .u8 (w8 (UInt8.ofNat a))] from rfl, w8_ofNat a (by have := HIA.out; omega)]
      rfl
    have x1 : ¬ (n : Int) ≤ (nx : Int) := by omega
    have x2 : (nx : Int) < (n : Int) := by omega
    have x3 : (0 : Int) ≤ (nx : Int) := by omega
    have x4 : ((nx : Int)).toNat = nx := by omega
    have x5 : nx < CQ.length := by have : n * 1 ≤ CQ.length := l1; omega
    have x6 : (nx : Int) + 1 ≤ 1000 := by omega
    have HN2 : Hid (nx + 1 = (hoN L.st.now (UInt8.ofNat t) (a + 1)).length) := by
      show _ = _
      rw [HNX.out]
      show _ = (if ldF L.st.now (keyB (UInt8.ofNat a) (UInt8.ofNat t)) = 0 then _ else _ : List UInt8).length
      rw [if_neg (by rw [← HBL.out]; exact hz), List.length_append]
      rfl
    clear hz hgt l1 s1 hnx
    have e1' : p = some ⟨bq, 0, none⟩ := e1
    subst e1'
    clear e1
    go_wp2_with fail
    refine ⟨rfl, rfl, ⟨rfl, rfl, rfl, rfl, a + 1, nx + 1, HIA.out, ?_, ?_, HN2, rfl⟩, ?_⟩
    · show Value.int .i64 _ = _
      go_num
    · show Value.int .i64 _ = _
      go_num
    · show 64 - (intOf (Value.int .i64 _)).toNat < 64 - (intOf (G 11)).toNat
      rw [H11.out]
      have := HIA.out
      simp [intOf]; omega
end Go.Proofs.Qxb6500786aGreat
