import Derived.DeepKeys2
import Derived.OwnWalk
import Derived.Test.Qxb6500786aGreatMj

import Derived.StillTailTactics
import Derived.Deep.QuietTactic
import Derived.BigQuiet
import Derived.Deep.RegionHeld
import Derived.Deep.CutRange
import Derived.Laws.ResultCell
import Derived.Laws.Rows
import Derived.DeepKeys
import Derived.DataBytes
import Derived.Laws.StructEq
import Derived.Laws.AppendOwn
import Derived.Laws.MakeOwn
import Derived.Lib.AppendStr
set_option linter.unusedSimpArgs false
set_option linter.unusedVariables false
namespace Go.Proofs.Qxb6500786aGreat
open Go.RowKit Go.Blk
attribute [local go_sem ↓] execOp_load execOp_store execOp_alloc
attribute [local go_sem] Tryz.ld24 Tryz.st24 Tryz.ld36 Tryz.st36 Tryz.ld28 Tryz.st28 Tryz.ld32 Tryz.st32 Tryz.ld33 Tryz.st33 Tryz.ld34 Tryz.st34 Tryz.ld5 Tryz.st5 Tryz.ld31 Tryz.st31 Tryz.ld30 Tryz.st30 Tryz.ld41 Tryz.st41 Tryz.ld44 Tryz.st44 Tryz.ld4 Tryz.st4 Tryz.ld173 Tryz.st173 Tryz.ld174 Tryz.st174 Tryz.ld95 Tryz.st95 Tryz.ld45 Tryz.st45 Tryz.ld207 Tryz.st207 Tryz.ld3 Tryz.st3 Tryz.ld189 Tryz.st189 Tryz.ld2 Tryz.st2 Tryz.ld9 Tryz.st9 Tryz.ld12 Tryz.st12 Tryz.ld21 Tryz.st21 Tryz.ld22 Tryz.st22 Tryz.ld46 Tryz.st46 Tryz.ld92 Tryz.st92 Tryz.ld94 Tryz.st94 Tryz.ld96 Tryz.st96 Tryz.ld97 Tryz.st97 Tryz.ld105 Tryz.st105 Tryz.ld117 Tryz.st117 Tryz.ld122 Tryz.st122 Tryz.ld123 Tryz.st123 Tryz.ld133 Tryz.st133 Tryz.ld155 Tryz.st155 Tryz.ld163 Tryz.st163 Tryz.ld190 Tryz.st190 Tryz.ld197 Tryz.st197 Tryz.ld201 Tryz.st201 Tryz.ld202 Tryz.st202 Tryz.ld209 Tryz.st209 Tryz.ld216 Tryz.st216 Tryz.ld230 Tryz.st230 Tryz.ld238 Tryz.st238 Tryz.ld242 Tryz.st242 Tryz.ld251 Tryz.st251 Tryz.ld260 Tryz.st260 Tryz.ld286 Tryz.st286 Tryz.ld292 Tryz.st292 Tryz.ld298 Tryz.st298 Tryz.ld309 Tryz.st309 Tryz.ld35 Tryz.st35 Tryz.ld48 Tryz.st48 Tryz.ld47 Tryz.st47 Tryz.ld79 Tryz.st79 Tryz.ld177 Tryz.st177 Tryz.ld180 Tryz.st180 Tryz.ld231 Tryz.st231 Tryz.ld232 Tryz.st232 Tryz.ld26 Tryz.st26 Tryz.ld38 Tryz.st38 Tryz.ld40 Tryz.st40 Tryz.ld43 Tryz.st43 Tryz.ld50 Tryz.st50 Tryz.ld52 Tryz.st52 Tryz.ld54 Tryz.st54 Tryz.ld81 Tryz.st81 Tryz.ld112 Tryz.st112 Tryz.ld120 Tryz.st120 Tryz.ld176 Tryz.st176 Tryz.ld179 Tryz.st179 Tryz.ld182 Tryz.st182 Tryz.ld184 Tryz.st184 Tryz.ld234 Tryz.st234 Tryz.ld236 Tryz.st236 Tryz.ld240 Tryz.st240 Tryz.ld246 Tryz.st246 Tryz.ld249 Tryz.st249 Tryz.al35 Tryz.al48 Tryz.al47 Tryz.al79 Tryz.al177 Tryz.al180 Tryz.al231 Tryz.al232 Tryz.al26 Tryz.al38 Tryz.al40 Tryz.al43 Tryz.al50 Tryz.al52 Tryz.al54 Tryz.al81 Tryz.al112 Tryz.al120 Tryz.al176 Tryz.al179 Tryz.al182 Tryz.al184 Tryz.al234 Tryz.al236 Tryz.al240 Tryz.al246 Tryz.al249
attribute [local go_sem] Player.length_enc Player.ok_enc Player.all_get Player.all_set Player.hand_get Player.hand_set Player.aside_get Player.aside_set Message.length_enc Message.ok_enc Message.all_get Message.all_set Message.kind_get Message.kind_set Message.from__get Message.from__set Message.to__get Message.to__set Message.sender_get Message.sender_set Message.receiver_get Message.receiver_set Message.seq_get Message.seq_set Message.token_get Message.token_set Message.amount_get Message.amount_set Message.size_get Message.size_set Message.payload_get Message.payload_set Tx.length_enc Tx.ok_enc Tx.all_get Tx.all_set Tx.kind_get Tx.kind_set Tx.chain_get Tx.chain_set Tx.from__get Tx.from__set Tx.nonce_get Tx.nonce_set Tx.fee_get Tx.fee_set Tx.to__get Tx.to__set Tx.dest_get Tx.dest_set Tx.token_get Tx.token_set Tx.amount_get Tx.amount_set Tx.size_get Tx.size_set Tx.payload_get Tx.payload_set Tx.msg_get Tx.msg_set Tx.msg_kind_get Tx.msg_kind_set Tx.msg_from__get Tx.msg_from__set Tx.msg_to__get Tx.msg_to__set Tx.msg_sender_get Tx.msg_sender_set Tx.msg_receiver_get Tx.msg_receiver_set Tx.msg_seq_get Tx.msg_seq_set Tx.msg_token_get Tx.msg_token_set Tx.msg_amount_get Tx.msg_amount_set Tx.msg_size_get Tx.msg_size_set Tx.msg_payload_get Tx.msg_payload_set GOp.length_enc GOp.ok_enc GOp.all_get GOp.all_set GOp.kind_get GOp.kind_set GOp.tx_get GOp.tx_set GOp.txs_get GOp.txs_set GOp.gas_get GOp.gas_set GOp.acct_get GOp.acct_set GOp.token_get GOp.token_set GOp.chain_get GOp.chain_set GOp.seq_get GOp.seq_set GOp.tx_kind_get GOp.tx_kind_set GOp.tx_chain_get GOp.tx_chain_set GOp.tx_from__get GOp.tx_from__set GOp.tx_nonce_get GOp.tx_nonce_set GOp.tx_fee_get GOp.tx_fee_set GOp.tx_to__get GOp.tx_to__set GOp.tx_dest_get GOp.tx_dest_set GOp.tx_token_get GOp.tx_token_set GOp.tx_amount_get GOp.tx_amount_set GOp.tx_size_get GOp.tx_size_set GOp.tx_payload_get GOp.tx_payload_set GOp.tx_msg_get GOp.tx_msg_set GOp.tx_msg_kind_get GOp.tx_msg_kind_set GOp.tx_msg_from__get GOp.tx_msg_from__set GOp.tx_msg_to__get GOp.tx_msg_to__set GOp.tx_msg_sender_get GOp.tx_msg_sender_set GOp.tx_msg_receiver_get GOp.tx_msg_receiver_set GOp.tx_msg_seq_get GOp.tx_msg_seq_set GOp.tx_msg_token_get GOp.tx_msg_token_set GOp.tx_msg_amount_get GOp.tx_msg_amount_set GOp.tx_msg_size_get GOp.tx_msg_size_set GOp.tx_msg_payload_get GOp.tx_msg_payload_set Summary.length_enc Summary.ok_enc Summary.all_get Summary.all_set Summary.height_get Summary.height_set Summary.txs_get Summary.txs_set Summary.gas_get Summary.gas_set Summary.fees_get Summary.fees_set Summary.sent_get Summary.sent_set Summary.took_get Summary.took_set Summary.minted_get Summary.minted_set Summary.burned_get Summary.burned_set Summary.root_get Summary.root_set Detail.length_enc Detail.ok_enc Detail.all_get Detail.all_set Detail.code_get Detail.code_set Detail.have__get Detail.have__set Detail.need_get Detail.need_set Slot.length_enc Slot.ok_enc Slot.all_get Slot.all_set Slot.nonce_get Slot.nonce_set Slot.balances_get Slot.balances_set Tree.length_enc Tree.ok_enc Tree.all_get Tree.all_set Tree.leaves_get Tree.leaves_set Mark.length_enc Mark.ok_enc Mark.all_get Mark.all_set Mark.from__get Mark.from__set Mark.seq_get Mark.seq_set Receipt.length_enc Receipt.ok_enc Receipt.all_get Receipt.all_set Receipt.code_get Receipt.code_set Receipt.hash_get Receipt.hash_set Receipt.index_get Receipt.index_set Receipt.gas_get Receipt.gas_set Receipt.fee_get Receipt.fee_set Receipt.hasSent_get Receipt.hasSent_set Receipt.sent_get Receipt.sent_set Receipt.hasTook_get Receipt.hasTook_set Receipt.took_get Receipt.took_set Receipt.sent_kind_get Receipt.sent_kind_set Receipt.sent_from__get Receipt.sent_from__set Receipt.sent_to__get Receipt.sent_to__set Receipt.sent_sender_get Receipt.sent_sender_set Receipt.sent_receiver_get Receipt.sent_receiver_set Receipt.sent_seq_get Receipt.sent_seq_set Receipt.sent_token_get Receipt.sent_token_set Receipt.sent_amount_get Receipt.sent_amount_set Receipt.sent_size_get Receipt.sent_size_set Receipt.sent_payload_get Receipt.sent_payload_set Receipt.took_kind_get Receipt.took_kind_set Receipt.took_from__get Receipt.took_from__set Receipt.took_to__get Receipt.took_to__set Receipt.took_sender_get Receipt.took_sender_set Receipt.took_receiver_get Receipt.took_receiver_set Receipt.took_seq_get Receipt.took_seq_set Receipt.took_token_get Receipt.took_token_set Receipt.took_amount_get Receipt.took_amount_set Receipt.took_size_get Receipt.took_size_set Receipt.took_payload_get Receipt.took_payload_set Store.length_enc Store.ok_enc Store.all_get Store.all_set Store.now_get Store.now_set Store.saved_get Store.saved_set GState.length_enc GState.ok_enc GState.all_get GState.all_set GState.kv_get GState.kv_set GState.tree_get GState.tree_set GState.stale_get GState.stale_set GState.touched_get GState.touched_set GState.kv_now_get GState.kv_now_set GState.kv_saved_get GState.kv_saved_set GState.tree_leaves_get GState.tree_leaves_set History.length_enc History.ok_enc History.all_get History.all_set History.ring_get History.ring_set History.closed_get History.closed_set Ledger.length_enc Ledger.ok_enc Ledger.all_get Ledger.all_set Ledger.chain_get Ledger.chain_set Ledger.st_get Ledger.st_set Ledger.height_get Ledger.height_set Ledger.open__get Ledger.open__set Ledger.gasLimit_get Ledger.gasLimit_set Ledger.past_get Ledger.past_set Ledger.begun_get Ledger.begun_set Ledger.sent_get Ledger.sent_set Ledger.took_get Ledger.took_set Ledger.receipts_get Ledger.receipts_set Ledger.st_kv_get Ledger.st_kv_set Ledger.st_tree_get Ledger.st_tree_set Ledger.st_stale_get Ledger.st_stale_set Ledger.st_touched_get Ledger.st_touched_set Ledger.st_kv_now_get Ledger.st_kv_now_set Ledger.st_kv_saved_get Ledger.st_kv_saved_set Ledger.st_tree_leaves_get Ledger.st_tree_leaves_set Ledger.past_ring_get Ledger.past_ring_set Ledger.past_closed_get Ledger.past_closed_set Ledger.begun_kv_get Ledger.begun_kv_set Ledger.begun_tree_get Ledger.begun_tree_set Ledger.begun_stale_get Ledger.begun_stale_set Ledger.begun_touched_get Ledger.begun_touched_set Ledger.begun_kv_now_get Ledger.begun_kv_now_set Ledger.begun_kv_saved_get Ledger.begun_kv_saved_set Ledger.begun_tree_leaves_get Ledger.begun_tree_leaves_set Purse.length_enc Purse.ok_enc Purse.all_get Purse.all_set Purse.st_get Purse.st_set Purse.n_get Purse.n_set Purse.account_get Purse.account_set Purse.token_get Purse.token_set Purse.amount_get Purse.amount_set Plan.length_enc Plan.ok_enc Plan.all_get Plan.all_set Plan.purse_get Plan.purse_set Plan.nonce_get Plan.nonce_set Plan.gasUsed_get Plan.gasUsed_set Plan.fees_get Plan.fees_set Plan.hasSupply_get Plan.hasSupply_set Plan.token_get Plan.token_set Plan.supply_get Plan.supply_set Plan.flowAt_get Plan.flowAt_set Plan.flow_get Plan.flow_set Plan.receipt_get Plan.receipt_set Plan.purse_st_get Plan.purse_st_set Plan.purse_n_get Plan.purse_n_set Plan.purse_account_get Plan.purse_account_set Plan.purse_token_get Plan.purse_token_set Plan.purse_amount_get Plan.purse_amount_set Plan.receipt_code_get Plan.receipt_code_set Plan.receipt_hash_get Plan.receipt_hash_set Plan.receipt_index_get Plan.receipt_index_set Plan.receipt_gas_get Plan.receipt_gas_set Plan.receipt_fee_get Plan.receipt_fee_set Plan.receipt_hasSent_get Plan.receipt_hasSent_set Plan.receipt_sent_get Plan.receipt_sent_set Plan.receipt_hasTook_get Plan.receipt_hasTook_set Plan.receipt_took_get Plan.receipt_took_set Plan.receipt_sent_kind_get Plan.receipt_sent_kind_set Plan.receipt_sent_from__get Plan.receipt_sent_from__set Plan.receipt_sent_to__get Plan.receipt_sent_to__set Plan.receipt_sent_sender_get Plan.receipt_sent_sender_set Plan.receipt_sent_receiver_get Plan.receipt_sent_receiver_set Plan.receipt_sent_seq_get Plan.receipt_sent_seq_set Plan.receipt_sent_token_get Plan.receipt_sent_token_set Plan.receipt_sent_amount_get Plan.receipt_sent_amount_set Plan.receipt_sent_size_get Plan.receipt_sent_size_set Plan.receipt_sent_payload_get Plan.receipt_sent_payload_set Plan.receipt_took_kind_get Plan.receipt_took_kind_set Plan.receipt_took_from__get Plan.receipt_took_from__set Plan.receipt_took_to__get Plan.receipt_took_to__set Plan.receipt_took_sender_get Plan.receipt_took_sender_set Plan.receipt_took_receiver_get Plan.receipt_took_receiver_set Plan.receipt_took_seq_get Plan.receipt_took_seq_set Plan.receipt_took_token_get Plan.receipt_took_token_set Plan.receipt_took_amount_get Plan.receipt_took_amount_set Plan.receipt_took_size_get Plan.receipt_took_size_set Plan.receipt_took_payload_get Plan.receipt_took_payload_set Move.length_enc Move.ok_enc Move.all_get Move.all_set Move.account_get Move.account_set Move.token_get Move.token_set Move.down_get Move.down_set Move.amount_get Move.amount_set Books.length_enc Books.ok_enc Books.all_get Books.all_set Books.sums_get Books.sums_set Books.stored_get Books.stored_set Books.marks_get Books.marks_set Pair.length_enc Pair.ok_enc Pair.all_get Pair.all_set Pair.key_get Pair.key_set Pair.value_get Pair.value_set
attribute [local go_sem] size_put size_ext blk_put free_put blk_alloc free_alloc blk_drew free_drew blk_ext free_ext lookOr_some putOr_some segAt_some cellAt_some storeIn_some put_put put_alloc_new length_arr ok_arr_u8 ok_arr_u32 ok_arr_u64 ok_arr_i64 ok_arr_sl cellsV_agg cellsV_int cellsV_bool cellsV_string cellsV_pointer cellsV_slice cellsV_sl ok_int ok_bool ok_string ok_pointer ok_slice ok_sl toList_arr seg_arr set_arr nth_splice nth_splice0 seg_splice seg_splice0 splice_splice splice_splice0 length_splice_if
attribute [local go_sem ↓] execOp_box
attribute [local go_sem] box_run nth_arr_u8 put_arr_u8 blk_drewN free_drewN put_drewN blk_raw free_raw
def oldU (c : UInt64) : UInt64 := if w64 c < 8 then 1 else c - 8 + 1
theorem x64_sub8 (a : UInt64) : IntKind.u64.wrap (w64 a - 8) = w64 (a - 8) := x64_sub a 8
attribute [local go_sem] x64_sub8 x64_inc x64_wrap
set_option maxRecDepth 20000 in
theorem oldest_any (W : World) (bl : Nat) (R : Ledger) (hb : blk W bl = some R.enc) : Calls Tryz.prog 197 #[.pointer (some ⟨bl, 2064, none⟩)] W fun e V => e = .returned (.int .u64 (w64 (oldU R.past.closed))) ∧ V = W := by
  by_cases h : w64 R.past.closed < 8
  · rw [show oldU R.past.closed = 1 from if_pos h]
    go_enter Tryz.func197, Tryz.ntmps197
    go_wp2_with fail
    try (first | go_ret | go_ret2 | go_ret3 | go_end0)
    exact ⟨rfl, rfl⟩
  · rw [show oldU R.past.closed = R.past.closed - 8 + 1 from if_neg h]
    go_enter Tryz.func197, Tryz.ntmps197
    go_wp2_with fail
    try (first | go_ret | go_ret2 | go_ret3 | go_end0)
    exact ⟨rfl, rfl⟩
theorem oldU_nat {c : UInt64} : (oldU c).toNat = if c.toNat < 8 then 1 else c.toNat - 7 := by
  unfold oldU w64
  by_cases h : c.toNat < 8
  · rw [if_pos (by omega), if_pos h]; rfl
  · rw [if_neg (by omega), if_neg h, UInt64.toNat_add, UInt64.toNat_sub]
    have := c.toNat_lt
    have e8 : (8 : UInt64).toNat = 8 := rfl
    have e1 : (1 : UInt64).toNat = 1 := rfl
    omega
/-- Two histories remember the same. -/
def hisP (A B : History) : Prop := A.closed = B.closed ∧ ∀ j, (oldU A.closed).toNat ≤ j → j ≤ A.closed.toNat → A.ring[j % 8]'(by omega) = B.ring[j % 8]'(by omega)
noncomputable def hisE (A B : History) : Bool := @decide (hisP A B) (Classical.propDecidable _)
theorem hisE_iff (A B : History) : hisE A B = true ↔ hisP A B := by unfold hisE; exact @decide_eq_true_iff _ (Classical.propDecidable _)
theorem hisE_no {A B : History} (h : ¬ hisP A B) : hisE A B = false := by
  cases hb : hisE A B with
  | false => rfl
  | true => exact absurd ((hisE_iff A B).1 hb) h
def shI (W : World) (b1 b2 : Nat) (A B : History) (F : Nat → Value) (V : World) : Prop := F 0 = .pointer (some ⟨b1, 2064, none⟩) ∧ F 1 = .pointer (some ⟨b2, 2064, none⟩) ∧ ∃ u : UInt64, (oldU A.closed).toNat ≤ u.toNat ∧ u.toNat ≤ A.closed.toNat + 1 ∧ F 5 = .int .u64 (w64 u) ∧ Hid (W.Extends V ∧ ∀ j, (oldU A.closed).toNat ≤ j → j < u.toNat → A.ring[j % 8]'(by omega) = B.ring[j % 8]'(by omega))
set_option maxRecDepth 100000 in
theorem frame40h (f : Nat → Value) : frameN 40 f = #[f 0, f 1, f 2, f 3, f 4, f 5, f 6, f 7, f 8, f 9, f 10, f 11, f 12, f 13, f 14, f 15, f 16, f 17, f 18, f 19, f 20, f 21, f 22, f 23, f 24, f 25, f 26, f 27, f 28, f 29, f 30, f 31, f 32, f 33, f 34, f 35, f 36, f 37, f 38, f 39] := by kernel_rfl
attribute [local go_sem ↓] execOp_neq50 execOp_eql50
set_option maxRecDepth 20000 in
set_option maxHeartbeats 1000000 in
theorem sameHistory_any (W : World) (b1 b2 : Nat) (R1 R2 : Ledger) (h1 : blk W b1 = some R1.enc) (h2 : blk W b2 = some R2.enc) (hc : R1.past.closed.toNat < 9223372036854775807) : Calls Tryz.prog 121 #[.pointer (some ⟨b1, 2064, none⟩), .pointer (some ⟨b2, 2064, none⟩)] W fun e V => e = .returned (.bool (hisE R1.past R2.past)) ∧ W.Extends V := by
  obtain ⟨Q, hQ⟩ : ∃ Q : Ending → World → Prop, Q = fun e V => e = .returned (.bool (hisE R1.past R2.past)) ∧ W.Extends V := ⟨_, rfl⟩
  rw [← hQ]
  have HQ := hid_of hQ
  have H1 := hid_of h1
  have H2 := hid_of h2
  have HC := hid_of hc
  clear hQ hc
  by_cases hm : R1.past.closed = R2.past.closed
  rotate_left 1
  · have HP : Hid (∀ k, Q (.returned (.bool false)) (W.drewN k)) := fun k => by
      show Q _ _
      rw [HQ.out, hisE_no (fun e => hm e.1)]
      exact ⟨rfl, extends_drewN (ext_Ext (Ext.refl _)) k⟩
    have hmi : ¬ w64 R1.past.closed = w64 R2.past.closed := fun e => hm (UInt64.toNat_inj.1 (by unfold w64 at e; omega))
    clear hm
    go_enter Tryz.func121, Tryz.ntmps121
    go_wp2_with fail
    go_quiet (fail)
    go_wp2_with fail
    try (first | go_ret | go_ret2 | go_ret3 | go_end0)
    exact HP.out _
  have HM := hid_of hm
  have hmi : w64 R2.past.closed = w64 R1.past.closed := by rw [hm]
  clear hm
  go_enter Tryz.func121, Tryz.ntmps121
  go_wp2_with fail
  go_quiet (fail)
  have ho : ∀ k, Calls Tryz.prog 197 #[.pointer (some ⟨b1, 2064, none⟩)] (W.drewN k) fun e V => e = .returned (.int .u64 (w64 (oldU R1.past.closed))) ∧ V = W.drewN k := fun k => oldest_any _ b1 R1 H1.out
  go_wp2_with fail
  refine (ho _).mono ?_
  clear ho
  rintro e V1 ⟨rfl, hV1⟩
  have hx1 : W.Extends V1 := by rw [hV1]; exact extends_drewN (ext_Ext (Ext.refl _)) _
  clear hV1
  dsimp only
  have hold := oldU_nat (c := R1.past.closed)
  have hob : (oldU R1.past.closed).toNat ≤ R1.past.closed.toNat + 1 := by rw [hold]; split <;> omega
  clear hold hmi h1 h2
  go_wp2_with fail
  refine wp_loop_f 40 (shI W b1 b2 R1.past R2.past) (fun f _ => R1.past.closed.toNat + 1 - (intOf (f 5)).toNat) rfl ⟨rfl, rfl, oldU R1.past.closed, Nat.le_refl _, hob, rfl, hx1, fun j h1 h2 => absurd h1 (by omega)⟩ ?_
  clear hob hx1
  intro F V hrel
  obtain ⟨f0, f1, u, hu1, hu2, f5, HI⟩ := hrel
  have H5 := hid_of f5
  rw [frame40h, f0, f1, f5]
  clear f0 f1 f5
  have k1 : blk V b1 = some R1.enc := (HI.out.1.blk (blk_lt H1.out)).trans H1.out
  have k2 : blk V b2 = some R2.enc := (HI.out.1.blk (blk_lt H2.out)).trans H2.out
  by_cases hin : u.toNat ≤ R1.past.closed.toNat
  rotate_left 1
  · have HP : Hid (Q (.returned (.bool true)) V) := by
      show Q _ _
      rw [HQ.out, (hisE_iff _ _).2 ⟨HM.out, fun j q1 q2 => HI.out.2 j q1 (by omega)⟩]
      exact ⟨rfl, HI.out.1⟩
    have hin' : ¬ w64 u ≤ w64 R1.past.closed := by unfold w64; omega
    clear hin hu1 hu2 HI
    go_wp2_with fail
    try (first | go_ret | go_ret2 | go_ret3 | go_end0)
    exact HP.out
  have hin' : w64 u ≤ w64 R1.past.closed := by unfold w64; omega
  obtain ⟨i, hi⟩ : ∃ i, i = u.toNat % 8 := ⟨_, rfl⟩
  have hi8 : i < 8 := by omega
  have hrm : Int.tmod (w64 u) 8 = (i : Int) := by
    rw [hi]
    show Int.tmod (u.toNat : Int) 8 = _
    rw [Int.tmod_eq_emod_of_nonneg (by omega)]
    omega
  have s1 := ring_at R1 i hi8
  have s2 := ring_at R2 i hi8
  have p0 : (0 : Int) ≤ (i : Int) := by omega
  have p1 : (i : Int) < 8 := by omega
  have p2 : ((i : Int)).toNat = i := by omega
  have HU : Hid ((oldU R1.past.closed).toNat ≤ u.toNat ∧ u.toNat ≤ R1.past.closed.toNat) := ⟨hu1, hin⟩
  have HS : Hid (∀ j, j % 8 = i → (R1.past.ring[j % 8]'(by omega) = R1.past.ring[i]) ∧ (R2.past.ring[j % 8]'(by omega) = R2.past.ring[i])) := fun j hj => by subst hj; exact ⟨rfl, rfl⟩
  have HI8 := hid_of hi
  obtain ⟨x, hx⟩ : ∃ x, x = R1.past.ring[i] := ⟨_, rfl⟩
  obtain ⟨y, hy⟩ : ∃ y, y = R2.past.ring[i] := ⟨_, rfl⟩
  have HXY := hid_of (And.intro hx hy)
  rw [← hx] at s1
  rw [← hy] at s2
  have hne : ∀ w X Y, (cmpNe 50 X Y (.agg x.enc.toArray) (.agg y.enc.toArray)).run Tryz.prog w = .ok (.value (.bool (!eqA x y))) w := fun w X Y => neq50 w X Y x y
  have g1 : R1.enc.length = 4496 := Ledger.length_enc _
  have g2 : R2.enc.length = 4496 := Ledger.length_enc _
  clear hx hy hin hu1 hu2 hi
  by_cases hxy : x = y
  · have hq : eqA x y = true := (eqA_iff x y).2 hxy
    have HJ : Hid (∀ k, W.Extends (V.drewN k) ∧ ∀ j, (oldU R1.past.closed).toNat ≤ j → j < (u + 1).toNat → R1.past.ring[j % 8]'(by omega) = R2.past.ring[j % 8]'(by omega)) := fun k => by
      refine ⟨extends_drewN HI.out.1 k, fun j q1 q2 => ?_⟩
      by_cases hji : j < u.toNat
      · exact HI.out.2 j q1 hji
      · have hb := HU.out.2
        have hc := HC.out
        have e1 : (1 : UInt64).toNat = 1 := rfl
        rw [UInt64.toNat_add] at q2
        have hju : j = u.toNat := by omega
        obtain ⟨q3, q4⟩ := HS.out j (by rw [hju]; exact HI8.out.symm)
        rw [q3, q4, ← HXY.out.1, ← HXY.out.2, hxy]
    rw [hq] at hne
    clear HI hxy hq
    go_wp2_with fail
    go_quiet (fail)
    go_wp2_with fail
    have hu9 : (u + 1).toNat = u.toNat + 1 := by
      have hb := HU.out.2
      have hc := HC.out
      have e1 : (1 : UInt64).toNat = 1 := rfl
      rw [UInt64.toNat_add]; omega
    refine ⟨rfl, rfl, ⟨rfl, rfl, u + 1, by rw [hu9]; have := HU.out.1; omega, by rw [hu9]; have := HU.out.2; omega, rfl, HJ.out _⟩, ?_⟩
    show R1.past.closed.toNat + 1 - (intOf (Value.int .u64 (w64 (u + 1)))).toNat < R1.past.closed.toNat + 1 - (intOf (F 5)).toNat
    rw [H5.out]
    have := HU.out.2
    show R1.past.closed.toNat + 1 - (((u + 1).toNat : Int)).toNat < R1.past.closed.toNat + 1 - ((u.toNat : Int)).toNat
    rw [hu9]
    omega
  · have hq : eqA x y = false := eqA_ne hxy
    have HP : Hid (∀ k, Q (.returned (.bool false)) (V.drewN k)) := fun k => by
      show Q _ _
      rw [HQ.out, hisE_no (fun e => hxy (by
        have h9 := e.2 u.toNat HU.out.1 HU.out.2
        obtain ⟨q3, q4⟩ := HS.out u.toNat HI8.out.symm
        rw [q3, q4, ← HXY.out.1, ← HXY.out.2] at h9
        exact h9))]
      exact ⟨rfl, extends_drewN HI.out.1 k⟩
    rw [hq] at hne
    clear HI hxy hq
    go_wp2_with fail
    go_quiet (fail)
    go_wp2_with fail
    try (first | go_ret | go_ret2 | go_ret3 | go_end0)
    exact HP.out _
end Go.Proofs.Qxb6500786aGreat
