import Derived.DeepKeys2
import Derived.Test.Qxb6500786aGreatNv
import Derived.Test.Qxb6500786aGreatEc

import Derived.StillTailTactics
import Derived.Deep.QuietTactic
import Derived.BigQuiet
import Derived.Deep.RegionHeld
import Derived.Deep.CutRange
import Derived.Laws.ResultCell
import Derived.Laws.Rows
import Derived.DeepKeys
import Derived.DataBytes
import Derived.Laws.StructEq
import Derived.Laws.AppendOwn
import Derived.Laws.MakeOwn
import Derived.Lib.AppendStr
set_option linter.unusedSimpArgs false
set_option linter.unusedVariables false
namespace Go.Proofs.Qxb6500786aGreat
open Go.RowKit Go.Blk
attribute [local go_sem ↓] execOp_load execOp_store execOp_alloc
attribute [local go_sem] Tryz.ld24 Tryz.st24 Tryz.ld36 Tryz.st36 Tryz.ld28 Tryz.st28 Tryz.ld32 Tryz.st32 Tryz.ld33 Tryz.st33 Tryz.ld34 Tryz.st34 Tryz.ld5 Tryz.st5 Tryz.ld31 Tryz.st31 Tryz.ld30 Tryz.st30 Tryz.ld41 Tryz.st41 Tryz.ld44 Tryz.st44 Tryz.ld4 Tryz.st4 Tryz.ld173 Tryz.st173 Tryz.ld174 Tryz.st174 Tryz.ld95 Tryz.st95 Tryz.ld45 Tryz.st45 Tryz.ld207 Tryz.st207 Tryz.ld3 Tryz.st3 Tryz.ld189 Tryz.st189 Tryz.ld2 Tryz.st2 Tryz.ld9 Tryz.st9 Tryz.ld12 Tryz.st12 Tryz.ld21 Tryz.st21 Tryz.ld22 Tryz.st22 Tryz.ld46 Tryz.st46 Tryz.ld92 Tryz.st92 Tryz.ld94 Tryz.st94 Tryz.ld96 Tryz.st96 Tryz.ld97 Tryz.st97 Tryz.ld105 Tryz.st105 Tryz.ld117 Tryz.st117 Tryz.ld122 Tryz.st122 Tryz.ld123 Tryz.st123 Tryz.ld133 Tryz.st133 Tryz.ld155 Tryz.st155 Tryz.ld163 Tryz.st163 Tryz.ld190 Tryz.st190 Tryz.ld197 Tryz.st197 Tryz.ld201 Tryz.st201 Tryz.ld202 Tryz.st202 Tryz.ld209 Tryz.st209 Tryz.ld216 Tryz.st216 Tryz.ld230 Tryz.st230 Tryz.ld238 Tryz.st238 Tryz.ld242 Tryz.st242 Tryz.ld251 Tryz.st251 Tryz.ld260 Tryz.st260 Tryz.ld286 Tryz.st286 Tryz.ld292 Tryz.st292 Tryz.ld298 Tryz.st298 Tryz.ld309 Tryz.st309 Tryz.ld35 Tryz.st35 Tryz.ld48 Tryz.st48 Tryz.ld47 Tryz.st47 Tryz.ld79 Tryz.st79 Tryz.ld177 Tryz.st177 Tryz.ld180 Tryz.st180 Tryz.ld231 Tryz.st231 Tryz.ld232 Tryz.st232 Tryz.ld26 Tryz.st26 Tryz.ld38 Tryz.st38 Tryz.ld40 Tryz.st40 Tryz.ld43 Tryz.st43 Tryz.ld50 Tryz.st50 Tryz.ld52 Tryz.st52 Tryz.ld54 Tryz.st54 Tryz.ld81 Tryz.st81 Tryz.ld112 Tryz.st112 Tryz.ld120 Tryz.st120 Tryz.ld176 Tryz.st176 Tryz.ld179 Tryz.st179 Tryz.ld182 Tryz.st182 Tryz.ld184 Tryz.st184 Tryz.ld234 Tryz.st234 Tryz.ld236 Tryz.st236 Tryz.ld240 Tryz.st240 Tryz.ld246 Tryz.st246 Tryz.ld249 Tryz.st249 Tryz.al35 Tryz.al48 Tryz.al47 Tryz.al79 Tryz.al177 Tryz.al180 Tryz.al231 Tryz.al232 Tryz.al26 Tryz.al38 Tryz.al40 Tryz.al43 Tryz.al50 Tryz.al52 Tryz.al54 Tryz.al81 Tryz.al112 Tryz.al120 Tryz.al176 Tryz.al179 Tryz.al182 Tryz.al184 Tryz.al234 Tryz.al236 Tryz.al240 Tryz.al246 Tryz.al249
attribute [local go_sem] Player.length_enc Player.ok_enc Player.all_get Player.all_set Player.hand_get Player.hand_set Player.aside_get Player.aside_set Message.length_enc Message.ok_enc Message.all_get Message.all_set Message.kind_get Message.kind_set Message.from__get Message.from__set Message.to__get Message.to__set Message.sender_get Message.sender_set Message.receiver_get Message.receiver_set Message.seq_get Message.seq_set Message.token_get Message.token_set Message.amount_get Message.amount_set Message.size_get Message.size_set Message.payload_get Message.payload_set Tx.length_enc Tx.ok_enc Tx.all_get Tx.all_set Tx.kind_get Tx.kind_set Tx.chain_get Tx.chain_set Tx.from__get Tx.from__set Tx.nonce_get Tx.nonce_set Tx.fee_get Tx.fee_set Tx.to__get Tx.to__set Tx.dest_get Tx.dest_set Tx.token_get Tx.token_set Tx.amount_get Tx.amount_set Tx.size_get Tx.size_set Tx.payload_get Tx.payload_set Tx.msg_get Tx.msg_set Tx.msg_kind_get Tx.msg_kind_set Tx.msg_from__get Tx.msg_from__set Tx.msg_to__get Tx.msg_to__set Tx.msg_sender_get Tx.msg_sender_set Tx.msg_receiver_get Tx.msg_receiver_set Tx.msg_seq_get Tx.msg_seq_set Tx.msg_token_get Tx.msg_token_set Tx.msg_amount_get Tx.msg_amount_set Tx.msg_size_get Tx.msg_size_set Tx.msg_payload_get Tx.msg_payload_set GOp.length_enc GOp.ok_enc GOp.all_get GOp.all_set GOp.kind_get GOp.kind_set GOp.tx_get GOp.tx_set GOp.txs_get GOp.txs_set GOp.gas_get GOp.gas_set GOp.acct_get GOp.acct_set GOp.token_get GOp.token_set GOp.chain_get GOp.chain_set GOp.seq_get GOp.seq_set GOp.tx_kind_get GOp.tx_kind_set GOp.tx_chain_get GOp.tx_chain_set GOp.tx_from__get GOp.tx_from__set GOp.tx_nonce_get GOp.tx_nonce_set GOp.tx_fee_get GOp.tx_fee_set GOp.tx_to__get GOp.tx_to__set GOp.tx_dest_get GOp.tx_dest_set GOp.tx_token_get GOp.tx_token_set GOp.tx_amount_get GOp.tx_amount_set GOp.tx_size_get GOp.tx_size_set GOp.tx_payload_get GOp.tx_payload_set GOp.tx_msg_get GOp.tx_msg_set GOp.tx_msg_kind_get GOp.tx_msg_kind_set GOp.tx_msg_from__get GOp.tx_msg_from__set GOp.tx_msg_to__get GOp.tx_msg_to__set GOp.tx_msg_sender_get GOp.tx_msg_sender_set GOp.tx_msg_receiver_get GOp.tx_msg_receiver_set GOp.tx_msg_seq_get GOp.tx_msg_seq_set GOp.tx_msg_token_get GOp.tx_msg_token_set GOp.tx_msg_amount_get GOp.tx_msg_amount_set GOp.tx_msg_size_get GOp.tx_msg_size_set GOp.tx_msg_payload_get GOp.tx_msg_payload_set Summary.length_enc Summary.ok_enc Summary.all_get Summary.all_set Summary.height_get Summary.height_set Summary.txs_get Summary.txs_set Summary.gas_get Summary.gas_set Summary.fees_get Summary.fees_set Summary.sent_get Summary.sent_set Summary.took_get Summary.took_set Summary.minted_get Summary.minted_set Summary.burned_get Summary.burned_set Summary.root_get Summary.root_set Detail.length_enc Detail.ok_enc Detail.all_get Detail.all_set Detail.code_get Detail.code_set Detail.have__get Detail.have__set Detail.need_get Detail.need_set Slot.length_enc Slot.ok_enc Slot.all_get Slot.all_set Slot.nonce_get Slot.nonce_set Slot.balances_get Slot.balances_set Tree.length_enc Tree.ok_enc Tree.all_get Tree.all_set Tree.leaves_get Tree.leaves_set Mark.length_enc Mark.ok_enc Mark.all_get Mark.all_set Mark.from__get Mark.from__set Mark.seq_get Mark.seq_set Receipt.length_enc Receipt.ok_enc Receipt.all_get Receipt.all_set Receipt.code_get Receipt.code_set Receipt.hash_get Receipt.hash_set Receipt.index_get Receipt.index_set Receipt.gas_get Receipt.gas_set Receipt.fee_get Receipt.fee_set Receipt.hasSent_get Receipt.hasSent_set Receipt.sent_get Receipt.sent_set Receipt.hasTook_get Receipt.hasTook_set Receipt.took_get Receipt.took_set Receipt.sent_kind_get Receipt.sent_kind_set Receipt.sent_from__get Receipt.sent_from__set Receipt.sent_to__get Receipt.sent_to__set Receipt.sent_sender_get Receipt.sent_sender_set Receipt.sent_receiver_get Receipt.sent_receiver_set Receipt.sent_seq_get Receipt.sent_seq_set Receipt.sent_token_get Receipt.sent_token_set Receipt.sent_amount_get Receipt.sent_amount_set Receipt.sent_size_get Receipt.sent_size_set Receipt.sent_payload_get Receipt.sent_payload_set Receipt.took_kind_get Receipt.took_kind_set Receipt.took_from__get Receipt.took_from__set Receipt.took_to__get Receipt.took_to__set Receipt.took_sender_get Receipt.took_sender_set Receipt.took_receiver_get Receipt.took_receiver_set Receipt.took_seq_get Receipt.took_seq_set Receipt.took_token_get Receipt.took_token_set Receipt.took_amount_get Receipt.took_amount_set Receipt.took_size_get Receipt.took_size_set Receipt.took_payload_get Receipt.took_payload_set Store.length_enc Store.ok_enc Store.all_get Store.all_set Store.now_get Store.now_set Store.saved_get Store.saved_set GState.length_enc GState.ok_enc GState.all_get GState.all_set GState.kv_get GState.kv_set GState.tree_get GState.tree_set GState.stale_get GState.stale_set GState.touched_get GState.touched_set GState.kv_now_get GState.kv_now_set GState.kv_saved_get GState.kv_saved_set GState.tree_leaves_get GState.tree_leaves_set History.length_enc History.ok_enc History.all_get History.all_set History.ring_get History.ring_set History.closed_get History.closed_set Ledger.length_enc Ledger.ok_enc Ledger.all_get Ledger.all_set Ledger.chain_get Ledger.chain_set Ledger.st_get Ledger.st_set Ledger.height_get Ledger.height_set Ledger.open__get Ledger.open__set Ledger.gasLimit_get Ledger.gasLimit_set Ledger.past_get Ledger.past_set Ledger.begun_get Ledger.begun_set Ledger.sent_get Ledger.sent_set Ledger.took_get Ledger.took_set Ledger.receipts_get Ledger.receipts_set Ledger.st_kv_get Ledger.st_kv_set Ledger.st_tree_get Ledger.st_tree_set Ledger.st_stale_get Ledger.st_stale_set Ledger.st_touched_get Ledger.st_touched_set Ledger.st_kv_now_get Ledger.st_kv_now_set Ledger.st_kv_saved_get Ledger.st_kv_saved_set Ledger.st_tree_leaves_get Ledger.st_tree_leaves_set Ledger.past_ring_get Ledger.past_ring_set Ledger.past_closed_get Ledger.past_closed_set Ledger.begun_kv_get Ledger.begun_kv_set Ledger.begun_tree_get Ledger.begun_tree_set Ledger.begun_stale_get Ledger.begun_stale_set Ledger.begun_touched_get Ledger.begun_touched_set Ledger.begun_kv_now_get Ledger.begun_kv_now_set Ledger.begun_kv_saved_get Ledger.begun_kv_saved_set Ledger.begun_tree_leaves_get Ledger.begun_tree_leaves_set Purse.length_enc Purse.ok_enc Purse.all_get Purse.all_set Purse.st_get Purse.st_set Purse.n_get Purse.n_set Purse.account_get Purse.account_set Purse.token_get Purse.token_set Purse.amount_get Purse.amount_set Plan.length_enc Plan.ok_enc Plan.all_get Plan.all_set Plan.purse_get Plan.purse_set Plan.nonce_get Plan.nonce_set Plan.gasUsed_get Plan.gasUsed_set Plan.fees_get Plan.fees_set Plan.hasSupply_get Plan.hasSupply_set Plan.token_get Plan.token_set Plan.supply_get Plan.supply_set Plan.flowAt_get Plan.flowAt_set Plan.flow_get Plan.flow_set Plan.receipt_get Plan.receipt_set Plan.purse_st_get Plan.purse_st_set Plan.purse_n_get Plan.purse_n_set Plan.purse_account_get Plan.purse_account_set Plan.purse_token_get Plan.purse_token_set Plan.purse_amount_get Plan.purse_amount_set Plan.receipt_code_get Plan.receipt_code_set Plan.receipt_hash_get Plan.receipt_hash_set Plan.receipt_index_get Plan.receipt_index_set Plan.receipt_gas_get Plan.receipt_gas_set Plan.receipt_fee_get Plan.receipt_fee_set Plan.receipt_hasSent_get Plan.receipt_hasSent_set Plan.receipt_sent_get Plan.receipt_sent_set Plan.receipt_hasTook_get Plan.receipt_hasTook_set Plan.receipt_took_get Plan.receipt_took_set Plan.receipt_sent_kind_get Plan.receipt_sent_kind_set Plan.receipt_sent_from__get Plan.receipt_sent_from__set Plan.receipt_sent_to__get Plan.receipt_sent_to__set Plan.receipt_sent_sender_get Plan.receipt_sent_sender_set Plan.receipt_sent_receiver_get Plan.receipt_sent_receiver_set Plan.receipt_sent_seq_get Plan.receipt_sent_seq_set Plan.receipt_sent_token_get Plan.receipt_sent_token_set Plan.receipt_sent_amount_get Plan.receipt_sent_amount_set Plan.receipt_sent_size_get Plan.receipt_sent_size_set Plan.receipt_sent_payload_get Plan.receipt_sent_payload_set Plan.receipt_took_kind_get Plan.receipt_took_kind_set Plan.receipt_took_from__get Plan.receipt_took_from__set Plan.receipt_took_to__get Plan.receipt_took_to__set Plan.receipt_took_sender_get Plan.receipt_took_sender_set Plan.receipt_took_receiver_get Plan.receipt_took_receiver_set Plan.receipt_took_seq_get Plan.receipt_took_seq_set Plan.receipt_took_token_get Plan.receipt_took_token_set Plan.receipt_took_amount_get Plan.receipt_took_amount_set Plan.receipt_took_size_get Plan.receipt_took_size_set Plan.receipt_took_payload_get Plan.receipt_took_payload_set Move.length_enc Move.ok_enc Move.all_get Move.all_set Move.account_get Move.account_set Move.token_get Move.token_set Move.down_get Move.down_set Move.amount_get Move.amount_set Books.length_enc Books.ok_enc Books.all_get Books.all_set Books.sums_get Books.sums_set Books.stored_get Books.stored_set Books.marks_get Books.marks_set Pair.length_enc Pair.ok_enc Pair.all_get Pair.all_set Pair.key_get Pair.key_set Pair.value_get Pair.value_set
attribute [local go_sem] size_put size_ext blk_put free_put blk_alloc free_alloc blk_drew free_drew blk_ext free_ext lookOr_some putOr_some segAt_some cellAt_some storeIn_some put_put put_alloc_new length_arr ok_arr_u8 ok_arr_u32 ok_arr_u64 ok_arr_i64 ok_arr_sl cellsV_agg cellsV_int cellsV_bool cellsV_string cellsV_pointer cellsV_slice cellsV_sl ok_int ok_bool ok_string ok_pointer ok_slice ok_sl toList_arr seg_arr set_arr nth_splice nth_splice0 seg_splice seg_splice0 splice_splice splice_splice0 length_splice_if
attribute [local go_sem ↓] execOp_box
attribute [local go_sem] box_run nth_arr_u8 put_arr_u8 blk_drewN free_drewN put_drewN blk_raw free_raw
attribute [local go_sem] Tryz.ld148 Tryz.st148 Tryz.al148 Dump.length_enc Dump.ok_enc Dump.all_get Dump.all_set Dump.chain_get Dump.height_get Dump.balances_get Dump.nonces_get Dump.marks_get Dump.history_get
theorem Tryz.und58 : Tryz.prog.underlying 58 = some (.array 256 33) := by kernel_rfl
theorem Tryz.und59 : Tryz.prog.underlying 59 = some (.array 64 33) := by kernel_rfl
theorem Tryz.ld58 (w : World) (b o : Nat) : (loadOp 58 (.pointer (some ⟨b, o, none⟩))).run Tryz.prog w = lookOr (segAt (blk w b) o 256) w (rawLoad Tryz.prog 58 ⟨b, o, none⟩ w) := load_agg Tryz.und58 rfl (by kernel_rfl) w b o
theorem Tryz.ld59 (w : World) (b o : Nat) : (loadOp 59 (.pointer (some ⟨b, o, none⟩))).run Tryz.prog w = lookOr (segAt (blk w b) o 64) w (rawLoad Tryz.prog 59 ⟨b, o, none⟩ w) := load_agg Tryz.und59 rfl (by kernel_rfl) w b o
attribute [local go_sem] Tryz.ld58 Tryz.ld59
set_option maxRecDepth 100000 in
theorem el_eq58 : EqT (fun v : Vector UInt64 256 => arr u64v v) 58 (fun _ => True) := eqT_of (m := 5) (ks := List.replicate 256 (.i .u64)) (by kernel_rfl) (by kernel_rfl) (by kernel_rfl) (by omega) (by kernel_rfl) (by kernel_rfl) (fun a _ => fits_u64 a) (fun a b h => arr_u64_inj h) (by kernel_rfl)
set_option maxRecDepth 100000 in
theorem el_eq59 : EqT (fun v : Vector UInt64 64 => arr u64v v) 59 (fun _ => True) := eqT_of (m := 5) (ks := List.replicate 64 (.i .u64)) (by kernel_rfl) (by kernel_rfl) (by kernel_rfl) (by omega) (by kernel_rfl) (by kernel_rfl) (fun a _ => fits_u64 a) (fun a b h => arr_u64_inj h) (by kernel_rfl)
theorem execOp_neq58 (a : Act) (dst : Option Tmp) (x y : Operand) (ty : TypeId) (pos : String) (after : Array Edge) (guard : Option (Nat × Bool)) :
    execOp a.eval { dst, op := .binOp .neq 58 x y 58, type := ty, pos, after, guard } = cmpNe 58 x y (a.eval x) (a.eval y) := rfl
theorem execOp_neq59 (a : Act) (dst : Option Tmp) (x y : Operand) (ty : TypeId) (pos : String) (after : Array Edge) (guard : Option (Nat × Bool)) :
    execOp a.eval { dst, op := .binOp .neq 59 x y 59, type := ty, pos, after, guard } = cmpNe 59 x y (a.eval x) (a.eval y) := rfl
attribute [local go_sem ↓] execOp_neq58 execOp_neq59 execOp_neq112 execOp_neq50
def sdI52 (W : World) (b1 b2 n : Nat) (E1 E2 : List Value) (F : Nat → Value) (V : World) : Prop := F 2 = .pointer (some ⟨b1, 0, none⟩) ∧ F 3 = .pointer (some ⟨b2, 0, none⟩) ∧ F 51 = .int .i64 (n : Nat) ∧ ∃ i : Nat, i ≤ n ∧ F 52 = .int .i64 (i : Nat) ∧ Hid (BxI W [(b2, E2), (b1, E1)] V)
def sdI70 (W : World) (b1 b2 n : Nat) (E1 E2 : List Value) (F : Nat → Value) (V : World) : Prop := F 2 = .pointer (some ⟨b1, 0, none⟩) ∧ F 3 = .pointer (some ⟨b2, 0, none⟩) ∧ F 69 = .int .i64 (n : Nat) ∧ ∃ i : Nat, i ≤ n ∧ F 70 = .int .i64 (i : Nat) ∧ Hid (BxI W [(b2, E2), (b1, E1)] V)
set_option maxRecDepth 100000 in
theorem frame85L (f : Nat → Value) : frameN 85 f = #[f 0, f 1, f 2, f 3, f 4, f 5, f 6, f 7, f 8, f 9, f 10, f 11, f 12, f 13, f 14, f 15, f 16, f 17, f 18, f 19, f 20, f 21, f 22, f 23, f 24, f 25, f 26, f 27, f 28, f 29, f 30, f 31, f 32, f 33, f 34, f 35, f 36, f 37, f 38, f 39, f 40, f 41, f 42, f 43, f 44, f 45, f 46, f 47, f 48, f 49, f 50, f 51, f 52, f 53, f 54, f 55, f 56, f 57, f 58, f 59, f 60, f 61, f 62, f 63, f 64, f 65, f 66, f 67, f 68, f 69, f 70, f 71, f 72, f 73, f 74, f 75, f 76, f 77, f 78, f 79, f 80, f 81, f 82, f 83, f 84] := by kernel_rfl
set_option maxRecDepth 20000 in
set_option maxHeartbeats 1000000 in
theorem sameDump_any (W : World) (d : PDump) (ma ha ma' ha' : Option Addr) (ml mc hl hc mc' hc' : Nat) (hM : Rw Mark.enc 2 W ma ml d.marks) (hH : Rw Summary.enc 46 W ha hl d.hist) (hM' : Rw Mark.enc 2 W ma' ml d.marks) (hH' : Rw Summary.enc 46 W ha' hl d.hist) (hs : ml ≤ 1000000 ∧ hl ≤ 1000000) : Calls Tryz.prog 80 #[.agg (dE d ⟨ma, ml, mc⟩ ⟨ha, hl, hc⟩).enc.toArray, .agg (dE d ⟨ma', ml, mc'⟩ ⟨ha', hl, hc'⟩).enc.toArray] W fun e V => e = .returned (.bool true) ∧ W.Extends V := by
  obtain ⟨Q, hQ⟩ : ∃ Q : Ending → World → Prop, Q = fun e V => e = .returned (.bool true) ∧ W.Extends V := ⟨_, rfl⟩
  rw [← hQ]
  have HQ : Hid (∀ V, W.Extends V → Q (.returned (.bool true)) V) := fun V h => by rw [hQ]; exact ⟨rfl, h⟩
  have HM := hid_of hM
  have HH := hid_of hH
  have HM' := hid_of hM'
  have HH' := hid_of hH'
  obtain ⟨D1, hD1⟩ : ∃ D, D = dE d ⟨ma, ml, mc⟩ ⟨ha, hl, hc⟩ := ⟨_, rfl⟩
  obtain ⟨D2, hD2⟩ : ∃ D, D = dE d ⟨ma', ml, mc'⟩ ⟨ha', hl, hc'⟩ := ⟨_, rfl⟩
  rw [← hD1, ← hD2]
  have a0 : nth D1.enc 0 = some (.int .u8 (w8 d.chain)) := by rw [Dump.chain_get, hD1]; rfl
  have b0 : nth D2.enc 0 = some (.int .u8 (w8 d.chain)) := by rw [Dump.chain_get, hD2]; rfl
  have a1 : nth D1.enc 1 = some (.int .u64 (w64 d.height)) := by rw [Dump.height_get, hD1]; rfl
  have b1' : nth D2.enc 1 = some (.int .u64 (w64 d.height)) := by rw [Dump.height_get, hD2]; rfl
  have a2 : seg D1.enc 2 256 = arr u64v d.bal := by rw [Dump.balances_get, hD1]; rfl
  have b2' : seg D2.enc 2 256 = arr u64v d.bal := by rw [Dump.balances_get, hD2]; rfl
  have a3 : seg D1.enc 258 64 = arr u64v d.non := by rw [Dump.nonces_get, hD1]; rfl
  have b3' : seg D2.enc 258 64 = arr u64v d.non := by rw [Dump.nonces_get, hD2]; rfl
  have a4 : nth D1.enc 322 = some (.slice ma ml mc) := by rw [Dump.marks_get, hD1]; rfl
  have b4' : nth D2.enc 322 = some (.slice ma' ml mc') := by rw [Dump.marks_get, hD2]; rfl
  have a5 : nth D1.enc 323 = some (.slice ha hl hc) := by rw [Dump.history_get, hD1]; rfl
  have b5' : nth D2.enc 323 = some (.slice ha' hl hc') := by rw [Dump.history_get, hD2]; rfl
  have l1 : D1.enc.length = 324 := Dump.length_enc _
  have l2 : D2.enc.length = 324 := Dump.length_enc _
  have hB := ((BxI.start W).box D1.enc 148).box D2.enc 148
  obtain ⟨W1, hW1⟩ : ∃ W1 : World, W1 = (W.alloc (.cells D1.enc.toArray 148)).alloc (.cells D2.enc.toArray 148) := ⟨_, rfl⟩
  obtain ⟨b1, hb1⟩ : ∃ b1, b1 = W.heap.size := ⟨_, rfl⟩
  obtain ⟨b2, hb2⟩ : ∃ b2, b2 = W.heap.size + 1 := ⟨_, rfl⟩
  rw [World.size_alloc, ← hW1, ← hb2, ← hb1] at hB
  have k1 := (hB.at (b := b1) (C := D1.enc) (by simp)).1
  have k2 := (hB.at (b := b2) (C := D2.enc) (by simp)).1
  have HW1 := hid_of hW1
  have HB : Hid (b1 = W.heap.size ∧ b2 = W.heap.size + 1) := ⟨hb1, hb2⟩
  have HV := hid_of hB
  have n58 : ∀ w X Y, (cmpNe 58 X Y (.agg (arr u64v d.bal).toArray) (.agg (arr u64v d.bal).toArray)).run Tryz.prog w = .ok (.value (.bool false)) w := fun w X Y => by
    have q := el_eq58.neq w X Y d.bal d.bal trivial trivial
    rw [eqA_self] at q
    exact q
  have n59 : ∀ w X Y, (cmpNe 59 X Y (.agg (arr u64v d.non).toArray) (.agg (arr u64v d.non).toArray)).run Tryz.prog w = .ok (.value (.bool false)) w := fun w X Y => by
    have q := el_eq59.neq w X Y d.non d.non trivial trivial
    rw [eqA_self] at q
    exact q
  clear hQ hW1 hb1 hb2 hB hM hH hM' hH' hD1 hD2
  go_enter Tryz.func80, Tryz.ntmps80
  go_upto_region 1 with fail
  rw [← HW1.out, ← HB.out.2, ← HB.out.1]
  clear HW1 HB
  generalize D1.enc = E1 at *
  generalize D2.enc = E2 at *
  go_wp2_with fail
  refine wp_loop_f 85 (sdI52 W b1 b2 ml E1 E2) (fun f _ => ml - (intOf (f 52)).toNat) rfl ⟨rfl, rfl, rfl, 0, Nat.zero_le _, rfl, HV⟩ ?_
  clear HV k1 k2
  intro F V hrel
  obtain ⟨f2, f3, fn, i, hi, fi, HV⟩ := hrel
  have HF := hid_of fi
  rw [frame85L, f2, f3, fn, fi]
  clear f2 f3 fn fi
  have k1 := (HV.out.at (b := b1) (C := E1) (by simp)).1
  have k2 := (HV.out.at (b := b2) (C := E2) (by simp)).1
  by_cases hin : i < ml
  rotate_left 1
  · have hin' : ¬ (i : Int) < (ml : Int) := by omega
    clear hin hi HF
    go_wp2_with fail
    refine wp_loop_f 85 (sdI70 W b1 b2 hl E1 E2) (fun f _ => hl - (intOf (f 70)).toNat) rfl ⟨rfl, rfl, rfl, 0, Nat.zero_le _, rfl, HV⟩ ?_
    clear HV k1 k2
    intro F V hrel
    obtain ⟨f2, f3, fn, i, hi, fi, HV⟩ := hrel
    have HF := hid_of fi
    rw [frame85L, f2, f3, fn, fi]
    clear f2 f3 fn fi
    have k1 := (HV.out.at (b := b1) (C := E1) (by simp)).1
    have k2 := (HV.out.at (b := b2) (C := E2) (by simp)).1
    by_cases hin : i < hl
    rotate_left 1
    · have hin' : ¬ (i : Int) < (hl : Int) := by omega
      clear hin hi HF
      have HP := hid_of (HQ.out V HV.out.1)
      clear HV HQ
      go_wp2_with fail
      try (first | go_ret | go_ret2 | go_ret3 | go_end0)
      exact HP.out
    have hin' : (i : Int) < (hl : Int) := by omega
    have p0 : (0 : Int) ≤ (i : Int) := by omega
    have p2 : ((i : Int)).toNat = i := by omega
    obtain ⟨x, c, C, hx, e1, kc, lc, sc⟩ := (HH.out.grow HV.out.1).at hin
    obtain ⟨x', c', C', hx', e1', kc', lc', sc'⟩ := (HH'.out.grow HV.out.1).at hin
    obtain rfl : x = x' := Option.some.inj (hx.symm.trans hx')
    have hmul : (i + 1) * 46 ≤ hl * 46 := Nat.mul_le_mul_right _ hin
    have g1 : i * 46 + 46 ≤ C.length := by omega
    have g1' : i * 46 + 46 ≤ C'.length := by omega
    have hi9 : (i : Int) + 1 ≤ 1000001 := by have := hs.1; have := hs.2; omega
    have hne : ∀ w X Y, (cmpNe 50 X Y (.agg x.enc.toArray) (.agg x.enc.toArray)).run Tryz.prog w = .ok (.value (.bool false)) w := fun w X Y => by
      have q := neq50 w X Y x x
      rw [eqA_self] at q
      exact q
    have HIN := hid_of hin
    have HE : Hid (∀ k, BxI W [(b2, E2), (b1, E1)] (V.drewN k)) := fun k => HV.out.drewN k
    clear hin hi hx hx' lc lc' hmul HV
    rw [e1] at a5
    rw [e1'] at b5'
    go_upto_region 14 with fail
    repeat go_step
    go_quiet (fail)
    go_wp2_with fail
    refine ⟨rfl, rfl, ⟨rfl, rfl, rfl, i + 1, HIN.out, ?_, HE.out _⟩, ?_⟩
    · show Value.int .i64 _ = _
      go_num
    · show hl - (intOf (Value.int .i64 _)).toNat < hl - (intOf (F 70)).toNat
      rw [HF.out]
      have := HIN.out
      simp [intOf]; omega
  have hin' : (i : Int) < (ml : Int) := by omega
  have p0 : (0 : Int) ≤ (i : Int) := by omega
  have p2 : ((i : Int)).toNat = i := by omega
  obtain ⟨x, c, C, hx, e1, kc, lc, sc⟩ := (HM.out.grow HV.out.1).at hin
  obtain ⟨x', c', C', hx', e1', kc', lc', sc'⟩ := (HM'.out.grow HV.out.1).at hin
  obtain rfl : x = x' := Option.some.inj (hx.symm.trans hx')
  have hmul : (i + 1) * 2 ≤ ml * 2 := Nat.mul_le_mul_right _ hin
  have g1 : i * 2 + 2 ≤ C.length := by omega
  have g1' : i * 2 + 2 ≤ C'.length := by omega
  have hi9 : (i : Int) + 1 ≤ 1000001 := by have := hs.1; have := hs.2; omega
  have hne : ∀ w X Y, (cmpNe 112 X Y (.agg x.enc.toArray) (.agg x.enc.toArray)).run Tryz.prog w = .ok (.value (.bool false)) w := fun w X Y => by
    have q := neq112 w X Y x x
    rw [eqA_self] at q
    exact q
  have HIN := hid_of hin
  have HE : Hid (∀ k, BxI W [(b2, E2), (b1, E1)] (V.drewN k)) := fun k => HV.out.drewN k
  clear hin hi hx hx' lc lc' hmul HV
  rw [e1] at a4
  rw [e1'] at b4'
  go_upto_region 8 with fail
  repeat go_step
  go_quiet (fail)
  go_wp2_with fail
  refine ⟨rfl, rfl, ⟨rfl, rfl, rfl, i + 1, HIN.out, ?_, HE.out _⟩, ?_⟩
  · show Value.int .i64 _ = _
    go_num
  · show ml - (intOf (Value.int .i64 _)).toNat < ml - (intOf (F 52)).toNat
    rw [HF.out]
    have := HIN.out
    simp [intOf]; omega
end Go.Proofs.Qxb6500786aGreat
