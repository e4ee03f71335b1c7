import Derived.Test.Qxb6500786aGreatBj

import Derived.StillTailTactics
import Derived.Deep.QuietTactic
import Derived.BigQuiet
import Derived.Deep.RegionHeld
import Derived.Deep.CutRange
import Derived.Laws.ResultCell
import Derived.Laws.Rows
import Derived.DeepKeys
import Derived.DataBytes
import Derived.Laws.StructEq
import Derived.Laws.AppendOwn
import Derived.Laws.MakeOwn
import Derived.Lib.AppendStr
set_option linter.unusedSimpArgs false
set_option linter.unusedVariables false
namespace Go.Proofs.Qxb6500786aGreat
open Go.RowKit Go.Blk
attribute [local go_sem ↓] execOp_load execOp_store execOp_alloc
attribute [local go_sem] Tryz.ld24 Tryz.st24 Tryz.ld36 Tryz.st36 Tryz.ld28 Tryz.st28 Tryz.ld32 Tryz.st32 Tryz.ld33 Tryz.st33 Tryz.ld34 Tryz.st34 Tryz.ld5 Tryz.st5 Tryz.ld31 Tryz.st31 Tryz.ld30 Tryz.st30 Tryz.ld41 Tryz.st41 Tryz.ld44 Tryz.st44 Tryz.ld4 Tryz.st4 Tryz.ld173 Tryz.st173 Tryz.ld174 Tryz.st174 Tryz.ld95 Tryz.st95 Tryz.ld45 Tryz.st45 Tryz.ld207 Tryz.st207 Tryz.ld3 Tryz.st3 Tryz.ld189 Tryz.st189 Tryz.ld2 Tryz.st2 Tryz.ld9 Tryz.st9 Tryz.ld12 Tryz.st12 Tryz.ld21 Tryz.st21 Tryz.ld22 Tryz.st22 Tryz.ld46 Tryz.st46 Tryz.ld92 Tryz.st92 Tryz.ld94 Tryz.st94 Tryz.ld96 Tryz.st96 Tryz.ld97 Tryz.st97 Tryz.ld105 Tryz.st105 Tryz.ld117 Tryz.st117 Tryz.ld122 Tryz.st122 Tryz.ld123 Tryz.st123 Tryz.ld133 Tryz.st133 Tryz.ld155 Tryz.st155 Tryz.ld163 Tryz.st163 Tryz.ld190 Tryz.st190 Tryz.ld197 Tryz.st197 Tryz.ld201 Tryz.st201 Tryz.ld202 Tryz.st202 Tryz.ld209 Tryz.st209 Tryz.ld216 Tryz.st216 Tryz.ld230 Tryz.st230 Tryz.ld238 Tryz.st238 Tryz.ld242 Tryz.st242 Tryz.ld251 Tryz.st251 Tryz.ld260 Tryz.st260 Tryz.ld286 Tryz.st286 Tryz.ld292 Tryz.st292 Tryz.ld298 Tryz.st298 Tryz.ld309 Tryz.st309 Tryz.ld35 Tryz.st35 Tryz.ld48 Tryz.st48 Tryz.ld47 Tryz.st47 Tryz.ld79 Tryz.st79 Tryz.ld177 Tryz.st177 Tryz.ld180 Tryz.st180 Tryz.ld231 Tryz.st231 Tryz.ld232 Tryz.st232 Tryz.ld26 Tryz.st26 Tryz.ld38 Tryz.st38 Tryz.ld40 Tryz.st40 Tryz.ld43 Tryz.st43 Tryz.ld50 Tryz.st50 Tryz.ld52 Tryz.st52 Tryz.ld54 Tryz.st54 Tryz.ld81 Tryz.st81 Tryz.ld112 Tryz.st112 Tryz.ld120 Tryz.st120 Tryz.ld176 Tryz.st176 Tryz.ld179 Tryz.st179 Tryz.ld182 Tryz.st182 Tryz.ld184 Tryz.st184 Tryz.ld234 Tryz.st234 Tryz.ld236 Tryz.st236 Tryz.ld240 Tryz.st240 Tryz.ld246 Tryz.st246 Tryz.ld249 Tryz.st249 Tryz.al35 Tryz.al48 Tryz.al47 Tryz.al79 Tryz.al177 Tryz.al180 Tryz.al231 Tryz.al232 Tryz.al26 Tryz.al38 Tryz.al40 Tryz.al43 Tryz.al50 Tryz.al52 Tryz.al54 Tryz.al81 Tryz.al112 Tryz.al120 Tryz.al176 Tryz.al179 Tryz.al182 Tryz.al184 Tryz.al234 Tryz.al236 Tryz.al240 Tryz.al246 Tryz.al249
attribute [local go_sem] Player.length_enc Player.ok_enc Player.all_get Player.all_set Player.hand_get Player.hand_set Player.aside_get Player.aside_set Message.length_enc Message.ok_enc Message.all_get Message.all_set Message.kind_get Message.kind_set Message.from__get Message.from__set Message.to__get Message.to__set Message.sender_get Message.sender_set Message.receiver_get Message.receiver_set Message.seq_get Message.seq_set Message.token_get Message.token_set Message.amount_get Message.amount_set Message.size_get Message.size_set Message.payload_get Message.payload_set Tx.length_enc Tx.ok_enc Tx.all_get Tx.all_set Tx.kind_get Tx.kind_set Tx.chain_get Tx.chain_set Tx.from__get Tx.from__set Tx.nonce_get Tx.nonce_set Tx.fee_get Tx.fee_set Tx.to__get Tx.to__set Tx.dest_get Tx.dest_set Tx.token_get Tx.token_set Tx.amount_get Tx.amount_set Tx.size_get Tx.size_set Tx.payload_get Tx.payload_set Tx.msg_get Tx.msg_set Tx.msg_kind_get Tx.msg_kind_set Tx.msg_from__get Tx.msg_from__set Tx.msg_to__get Tx.msg_to__set Tx.msg_sender_get Tx.msg_sender_set Tx.msg_receiver_get Tx.msg_receiver_set Tx.msg_seq_get Tx.msg_seq_set Tx.msg_token_get Tx.msg_token_set Tx.msg_amount_get Tx.msg_amount_set Tx.msg_size_get Tx.msg_size_set Tx.msg_payload_get Tx.msg_payload_set GOp.length_enc GOp.ok_enc GOp.all_get GOp.all_set GOp.kind_get GOp.kind_set GOp.tx_get GOp.tx_set GOp.txs_get GOp.txs_set GOp.gas_get GOp.gas_set GOp.acct_get GOp.acct_set GOp.token_get GOp.token_set GOp.chain_get GOp.chain_set GOp.seq_get GOp.seq_set GOp.tx_kind_get GOp.tx_kind_set GOp.tx_chain_get GOp.tx_chain_set GOp.tx_from__get GOp.tx_from__set GOp.tx_nonce_get GOp.tx_nonce_set GOp.tx_fee_get GOp.tx_fee_set GOp.tx_to__get GOp.tx_to__set GOp.tx_dest_get GOp.tx_dest_set GOp.tx_token_get GOp.tx_token_set GOp.tx_amount_get GOp.tx_amount_set GOp.tx_size_get GOp.tx_size_set GOp.tx_payload_get GOp.tx_payload_set GOp.tx_msg_get GOp.tx_msg_set GOp.tx_msg_kind_get GOp.tx_msg_kind_set GOp.tx_msg_from__get GOp.tx_msg_from__set GOp.tx_msg_to__get GOp.tx_msg_to__set GOp.tx_msg_sender_get GOp.tx_msg_sender_set GOp.tx_msg_receiver_get GOp.tx_msg_receiver_set GOp.tx_msg_seq_get GOp.tx_msg_seq_set GOp.tx_msg_token_get GOp.tx_msg_token_set GOp.tx_msg_amount_get GOp.tx_msg_amount_set GOp.tx_msg_size_get GOp.tx_msg_size_set GOp.tx_msg_payload_get GOp.tx_msg_payload_set Summary.length_enc Summary.ok_enc Summary.all_get Summary.all_set Summary.height_get Summary.height_set Summary.txs_get Summary.txs_set Summary.gas_get Summary.gas_set Summary.fees_get Summary.fees_set Summary.sent_get Summary.sent_set Summary.took_get Summary.took_set Summary.minted_get Summary.minted_set Summary.burned_get Summary.burned_set Summary.root_get Summary.root_set Detail.length_enc Detail.ok_enc Detail.all_get Detail.all_set Detail.code_get Detail.code_set Detail.have__get Detail.have__set Detail.need_get Detail.need_set Slot.length_enc Slot.ok_enc Slot.all_get Slot.all_set Slot.nonce_get Slot.nonce_set Slot.balances_get Slot.balances_set Tree.length_enc Tree.ok_enc Tree.all_get Tree.all_set Tree.leaves_get Tree.leaves_set Mark.length_enc Mark.ok_enc Mark.all_get Mark.all_set Mark.from__get Mark.from__set Mark.seq_get Mark.seq_set Receipt.length_enc Receipt.ok_enc Receipt.all_get Receipt.all_set Receipt.code_get Receipt.code_set Receipt.hash_get Receipt.hash_set Receipt.index_get Receipt.index_set Receipt.gas_get Receipt.gas_set Receipt.fee_get Receipt.fee_set Receipt.hasSent_get Receipt.hasSent_set Receipt.sent_get Receipt.sent_set Receipt.hasTook_get Receipt.hasTook_set Receipt.took_get Receipt.took_set Receipt.sent_kind_get Receipt.sent_kind_set Receipt.sent_from__get Receipt.sent_from__set Receipt.sent_to__get Receipt.sent_to__set Receipt.sent_sender_get Receipt.sent_sender_set Receipt.sent_receiver_get Receipt.sent_receiver_set Receipt.sent_seq_get Receipt.sent_seq_set Receipt.sent_token_get Receipt.sent_token_set Receipt.sent_amount_get Receipt.sent_amount_set Receipt.sent_size_get Receipt.sent_size_set Receipt.sent_payload_get Receipt.sent_payload_set Receipt.took_kind_get Receipt.took_kind_set Receipt.took_from__get Receipt.took_from__set Receipt.took_to__get Receipt.took_to__set Receipt.took_sender_get Receipt.took_sender_set Receipt.took_receiver_get Receipt.took_receiver_set Receipt.took_seq_get Receipt.took_seq_set Receipt.took_token_get Receipt.took_token_set Receipt.took_amount_get Receipt.took_amount_set Receipt.took_size_get Receipt.took_size_set Receipt.took_payload_get Receipt.took_payload_set Store.length_enc Store.ok_enc Store.all_get Store.all_set Store.now_get Store.now_set Store.saved_get Store.saved_set GState.length_enc GState.ok_enc GState.all_get GState.all_set GState.kv_get GState.kv_set GState.tree_get GState.tree_set GState.stale_get GState.stale_set GState.touched_get GState.touched_set GState.kv_now_get GState.kv_now_set GState.kv_saved_get GState.kv_saved_set GState.tree_leaves_get GState.tree_leaves_set History.length_enc History.ok_enc History.all_get History.all_set History.ring_get History.ring_set History.closed_get History.closed_set Ledger.length_enc Ledger.ok_enc Ledger.all_get Ledger.all_set Ledger.chain_get Ledger.chain_set Ledger.st_get Ledger.st_set Ledger.height_get Ledger.height_set Ledger.open__get Ledger.open__set Ledger.gasLimit_get Ledger.gasLimit_set Ledger.past_get Ledger.past_set Ledger.begun_get Ledger.begun_set Ledger.sent_get Ledger.sent_set Ledger.took_get Ledger.took_set Ledger.receipts_get Ledger.receipts_set Ledger.st_kv_get Ledger.st_kv_set Ledger.st_tree_get Ledger.st_tree_set Ledger.st_stale_get Ledger.st_stale_set Ledger.st_touched_get Ledger.st_touched_set Ledger.st_kv_now_get Ledger.st_kv_now_set Ledger.st_kv_saved_get Ledger.st_kv_saved_set Ledger.st_tree_leaves_get Ledger.st_tree_leaves_set Ledger.past_ring_get Ledger.past_ring_set Ledger.past_closed_get Ledger.past_closed_set Ledger.begun_kv_get Ledger.begun_kv_set Ledger.begun_tree_get Ledger.begun_tree_set Ledger.begun_stale_get Ledger.begun_stale_set Ledger.begun_touched_get Ledger.begun_touched_set Ledger.begun_kv_now_get Ledger.begun_kv_now_set Ledger.begun_kv_saved_get Ledger.begun_kv_saved_set Ledger.begun_tree_leaves_get Ledger.begun_tree_leaves_set Purse.length_enc Purse.ok_enc Purse.all_get Purse.all_set Purse.st_get Purse.st_set Purse.n_get Purse.n_set Purse.account_get Purse.account_set Purse.token_get Purse.token_set Purse.amount_get Purse.amount_set Plan.length_enc Plan.ok_enc Plan.all_get Plan.all_set Plan.purse_get Plan.purse_set Plan.nonce_get Plan.nonce_set Plan.gasUsed_get Plan.gasUsed_set Plan.fees_get Plan.fees_set Plan.hasSupply_get Plan.hasSupply_set Plan.token_get Plan.token_set Plan.supply_get Plan.supply_set Plan.flowAt_get Plan.flowAt_set Plan.flow_get Plan.flow_set Plan.receipt_get Plan.receipt_set Plan.purse_st_get Plan.purse_st_set Plan.purse_n_get Plan.purse_n_set Plan.purse_account_get Plan.purse_account_set Plan.purse_token_get Plan.purse_token_set Plan.purse_amount_get Plan.purse_amount_set Plan.receipt_code_get Plan.receipt_code_set Plan.receipt_hash_get Plan.receipt_hash_set Plan.receipt_index_get Plan.receipt_index_set Plan.receipt_gas_get Plan.receipt_gas_set Plan.receipt_fee_get Plan.receipt_fee_set Plan.receipt_hasSent_get Plan.receipt_hasSent_set Plan.receipt_sent_get Plan.receipt_sent_set Plan.receipt_hasTook_get Plan.receipt_hasTook_set Plan.receipt_took_get Plan.receipt_took_set Plan.receipt_sent_kind_get Plan.receipt_sent_kind_set Plan.receipt_sent_from__get Plan.receipt_sent_from__set Plan.receipt_sent_to__get Plan.receipt_sent_to__set Plan.receipt_sent_sender_get Plan.receipt_sent_sender_set Plan.receipt_sent_receiver_get Plan.receipt_sent_receiver_set Plan.receipt_sent_seq_get Plan.receipt_sent_seq_set Plan.receipt_sent_token_get Plan.receipt_sent_token_set Plan.receipt_sent_amount_get Plan.receipt_sent_amount_set Plan.receipt_sent_size_get Plan.receipt_sent_size_set Plan.receipt_sent_payload_get Plan.receipt_sent_payload_set Plan.receipt_took_kind_get Plan.receipt_took_kind_set Plan.receipt_took_from__get Plan.receipt_took_from__set Plan.receipt_took_to__get Plan.receipt_took_to__set Plan.receipt_took_sender_get Plan.receipt_took_sender_set Plan.receipt_took_receiver_get Plan.receipt_took_receiver_set Plan.receipt_took_seq_get Plan.receipt_took_seq_set Plan.receipt_took_token_get Plan.receipt_took_token_set Plan.receipt_took_amount_get Plan.receipt_took_amount_set Plan.receipt_took_size_get Plan.receipt_took_size_set Plan.receipt_took_payload_get Plan.receipt_took_payload_set Move.length_enc Move.ok_enc Move.all_get Move.all_set Move.account_get Move.account_set Move.token_get Move.token_set Move.down_get Move.down_set Move.amount_get Move.amount_set Books.length_enc Books.ok_enc Books.all_get Books.all_set Books.sums_get Books.sums_set Books.stored_get Books.stored_set Books.marks_get Books.marks_set Pair.length_enc Pair.ok_enc Pair.all_get Pair.all_set Pair.key_get Pair.key_set Pair.value_get Pair.value_set
attribute [local go_sem] size_put size_ext blk_put free_put blk_alloc free_alloc blk_drew free_drew blk_ext free_ext lookOr_some putOr_some segAt_some cellAt_some storeIn_some put_put put_alloc_new length_arr ok_arr_u8 ok_arr_u32 ok_arr_u64 ok_arr_i64 ok_arr_sl cellsV_agg cellsV_int cellsV_bool cellsV_string cellsV_pointer cellsV_slice cellsV_sl ok_int ok_bool ok_string ok_pointer ok_slice ok_sl toList_arr seg_arr set_arr nth_splice nth_splice0 seg_splice seg_splice0 splice_splice splice_splice0 length_splice_if
attribute [local go_sem ↓] execOp_box
attribute [local go_sem] box_run nth_arr_u8 put_arr_u8 blk_drewN free_drewN put_drewN blk_raw free_raw
attribute [local go_sem] x64_or x64_and x64_andNot
/-- The leaf of a slot. -/
def leafF (now : List Pair) (a : Nat) : Dig := if slH now (UInt8.ofNat a) 4 ≠ 0 then tagF 2 (slB now (UInt8.ofNat a) 4) else empL
/-- The leaves with the first a slots brought up to date. -/
def updL (S : PSt) (a : Nat) : Vector Dig 64 := Vector.ofFn fun j : Fin 64 => if j.val < a ∧ S.stale.toNat.testBit j.val = true then leafF S.now j.val else S.leaves[j.val]
def rtS (S : PSt) (a : Nat) : PSt := { S with stale := clrS S.stale a, leaves := updL S a }
theorem updL_zero (S : PSt) : updL S 0 = S.leaves := by
  apply Vector.ext
  intro i hi
  unfold updL
  simp
theorem rtS_zero (S : PSt) : rtS S 0 = S := by unfold rtS; rw [updL_zero, clrS_zero]
theorem updL_skip (S : PSt) (a : Nat) (h : S.stale.toNat.testBit a = false) : updL S (a + 1) = updL S a := by
  apply Vector.ext
  intro i hi
  unfold updL
  rw [Vector.getElem_ofFn, Vector.getElem_ofFn]
  dsimp only
  by_cases hia : i = a
  · subst hia
    rw [if_neg (by rw [h]; simp), if_neg (by omega)]
  · by_cases h1 : i < a
    · by_cases h2 : S.stale.toNat.testBit i = true
      · rw [if_pos ⟨by omega, h2⟩, if_pos ⟨h1, h2⟩]
      · rw [if_neg (fun e => h2 e.2), if_neg (fun e => h2 e.2)]
    · rw [if_neg (by omega), if_neg (by omega)]
theorem updL_set (S : PSt) (a : Nat) (ha : a < 64) (h : S.stale.toNat.testBit a = true) : updL S (a + 1) = setL (updL S a) a (leafF S.now a) := by
  rw [← setL_at _ _ _ ha]
  apply Vector.ext
  intro i hi
  rw [Vector.getElem_set]
  unfold updL
  rw [Vector.getElem_ofFn, Vector.getElem_ofFn]
  dsimp only
  by_cases hia : a = i
  · subst hia
    rw [if_pos ⟨by omega, h⟩, if_pos rfl]
  · rw [if_neg hia]
    by_cases h1 : i < a
    · by_cases h2 : S.stale.toNat.testBit i = true
      · rw [if_pos ⟨by omega, h2⟩, if_pos ⟨h1, h2⟩]
      · rw [if_neg (fun e => h2 e.2), if_neg (fun e => h2 e.2)]
    · rw [if_neg (by omega), if_neg (by omega)]
theorem updL_end (S : PSt) (a : Nat) (h : clrS S.stale a = 0) : updL S a = updL S 64 := by
  apply Vector.ext
  intro i hi
  unfold updL
  rw [Vector.getElem_ofFn, Vector.getElem_ofFn]
  dsimp only
  by_cases h2 : S.stale.toNat.testBit i = true
  · have h1 : i < a := Nat.lt_of_not_le fun h3 => by
      rw [clr_none S.stale a h i h3] at h2; cases h2
    rw [if_pos ⟨h1, h2⟩, if_pos ⟨hi, h2⟩]
  · rw [if_neg (fun e => h2 e.2), if_neg (fun e => h2 e.2)]
/-- After the root is asked for. -/
def rootS (S : PSt) : PSt := { S with stale := 0, leaves := updL S 64 }
def rootD (S : PSt) : Dig := topD (updL S 64)
theorem rtS_end (S : PSt) (a : Nat) (h : clrS S.stale a = 0) : rtS S a = rootS S := by unfold rtS rootS; rw [h, updL_end S a h]
theorem rtS_skip (S : PSt) (a : Nat) (h : S.stale.toNat.testBit a = false) : rtS S (a + 1) = rtS S a := by unfold rtS; rw [updL_skip S a h, clr_same S.stale a h]
theorem rtS_set (S : PSt) (a : Nat) (ha : a < 64) (h : S.stale.toNat.testBit a = true) : rtS S (a + 1) = { rtS S a with stale := clrS S.stale (a + 1), leaves := setL (updL S a) a (leafF S.now a) } := by unfold rtS; rw [updL_set S a ha h]
theorem g_leaf {C : List Value} {o : Nat} (hf : o + 2060 ≤ C.length) (S : PSt) (sn ss : Sl) (i : Nat) (hi : i < 64) (x : Dig) : splice (splice C o (gOf S sn ss).enc) (o + 2 + i * 32) (arr u8v x) = splice C o (gOf { S with leaves := setL S.leaves i x } sn ss).enc := by
  have hl : (arrS encD S.leaves).length = 2048 := leaves_len _
  have h2 : splice (gOf S sn ss).enc (2 + i * 32) (encD x) = (gOf { S with leaves := setL S.leaves i x } sn ss).enc := by
    rw [splice_sub (GState.tree_leaves_get (gOf S sn ss)) (by rw [GState.length_enc]; omega) (by rw [encD_len]; omega)]
    have := leaves_put S.leaves i hi x
    rw [show splice (arrS (fun x => arr u8v x) (gOf S sn ss).tree.leaves) (i * 32) (encD x) = arrS encD (setL S.leaves i x) from this]
    exact GState.tree_leaves_set (gOf S sn ss) (setL S.leaves i x)
  rw [Nat.add_assoc, splice_splice (by rw [GState.length_enc]; exact hf) (by rw [GState.length_enc, length_arr]; omega)]
  exact congrArg (splice C o) h2
theorem rt_eq (S : PSt) (a : Nat) (ha : a < 64) (hb : S.stale.toNat.testBit a = true) : ({ ({ rtS S a with stale := clrS S.stale (a + 1) } : PSt) with leaves := setL (updL S a) a (leafF S.now a) } : PSt) = rtS S (a + 1) := by
  rw [rtS_set S a ha hb]
theorem rt_leaf {C : List Value} {o : Nat} (hf : o + 2060 ≤ C.length) (S : PSt) (sn ss : Sl) (a : Nat) (ha : a < 64) (hb : S.stale.toNat.testBit a = true) (D : List Value) (hD : D = splice C o (gOf { rtS S a with stale := clrS S.stale (a + 1) } sn ss).enc) : splice D (o + 2 + a * 32) (arr u8v (leafF S.now a)) = splice C o (gOf (rtS S (a + 1)) sn ss).enc := by
  subst hD
  generalize hx : leafF S.now a = x
  rw [← rt_eq S a ha hb, hx]
  exact g_leaf hf { rtS S a with stale := clrS S.stale (a + 1) } sn ss a ha x
theorem g_tree {C : List Value} {o : Nat} (hf : o + 2060 ≤ C.length) (S : PSt) (sn ss : Sl) : seg (splice C o (gOf S sn ss).enc) (o + 2) 2048 = arrS encD S.leaves := by
  rw [seg_splice (by rw [GState.length_enc]; exact hf) (by rw [GState.length_enc]; omega), GState.tree_leaves_get]; rfl
theorem g_hn {C : List Value} {o : Nat} (hf : o + 2060 ≤ C.length) (S : PSt) (sn ss : Sl) : nth (splice C o (gOf S sn ss).enc) o = some (Sl.val sn) := by
  rw [nth_splice0 (by rw [GState.length_enc]; exact hf) (by rw [GState.length_enc]; omega), GState.kv_now_get]; rfl
def rtI (W : World) (b o : Nat) (C : List Value) (S : PSt) (sn ss : Sl) (F : Nat → Value) (V : World) : Prop := F 0 = .pointer (some ⟨b, o, none⟩) ∧ F 2 = .pointer (some ⟨W.heap.size, 0, none⟩) ∧ ∃ a : Nat, a ≤ 64 ∧ F 3 = .int .u8 (a : Nat) ∧ blk V b = some (splice C o (gOf (rtS S a) sn ss).enc) ∧ free V b = true ∧ blk V W.heap.size = some (arr u8v zD) ∧ free V W.heap.size = true ∧ Hid (Wb b W V)
set_option maxRecDepth 100000 in
theorem frame56 (f : Nat → Value) : frameN 56 f = #[f 0, f 1, f 2, f 3, f 4, f 5, f 6, f 7, f 8, f 9, f 10, f 11, f 12, f 13, f 14, f 15, f 16, f 17, f 18, f 19, f 20, f 21, f 22, f 23, f 24, f 25, f 26, f 27, f 28, f 29, f 30, f 31, f 32, f 33, f 34, f 35, f 36, f 37, f 38, f 39, f 40, f 41, f 42, f 43, f 44, f 45, f 46, f 47, f 48, f 49, f 50, f 51, f 52, f 53, f 54, f 55] := by kernel_rfl
set_option maxRecDepth 20000 in
set_option maxHeartbeats 4000000 in
theorem root_any (W : World) (b o : Nat) (C : List Value) (S : PSt) (sn ss : Sl) (hb : blk W b = some (splice C o (gOf S sn ss).enc)) (hf : free W b = true) (hfit : o + 2060 ≤ C.length) (hR : ∀ V, Wb b W V → Rw Pair.enc 2 V sn.a sn.len S.now) (hm : S.now.length ≤ 1000000000) : Calls Tryz.prog 117 #[.pointer (some ⟨b, o, none⟩)] W fun e V => e = .returned (.agg (arr u8v (rootD S)).toArray) ∧ blk V b = some (splice C o (gOf (rootS S) sn ss).enc) ∧ free V b = true ∧ Wb b W V := by
  have HF := hid_of hfit
  have HR := hid_of hR
  have HM := hid_of hm
  have hlt := blk_lt hb
  have hsl : sn.len = S.now.length := (hR W (Wb.refl b W)).1.symm
  have HSL := hid_of hsl
  obtain ⟨Q, hQ⟩ : ∃ Q : Ending → World → Prop, Q = fun e V => e = .returned (.agg (arr u8v (rootD S)).toArray) ∧ blk V b = some (splice C o (gOf (rootS S) sn ss).enc) ∧ free V b = true ∧ Wb b W V := ⟨_, rfl⟩
  rw [← hQ]
  have HQ := hid_of hQ
  have hb0 : blk W b = some (splice C o (gOf (rtS S 0) sn ss).enc) := by rw [rtS_zero]; exact hb
  have hne : ¬ b = W.heap.size := by omega
  clear hQ hfit hR hm hsl hb
  go_enter Tryz.func117, Tryz.ntmps117
  go_wp2_with fail
  refine wp_loop_f 56 (rtI W b o C S sn ss) (fun f _ => 64 - (intOf (f 3)).toNat) rfl ⟨rfl, rfl, 0, by omega, rfl, by rw [blk_alloc, if_neg hne]; exact hb0, by rw [free_alloc, if_neg hne]; exact hf, by rw [blk_alloc, if_pos rfl]; rfl, by rw [free_alloc, if_pos rfl], Wb.of (extends_alloc (ext_Ext (Ext.refl _)) _)⟩ ?_
  clear hb0 hf
  intro F V hrel
  obtain ⟨f0, f2, a, ha, f3, hb, hf, hr, hrf, HWB⟩ := hrel
  have H3 := hid_of f3
  rw [frame56, f0, f2, f3]
  clear f0 f2 f3
  have n1 := g_sn HF.out (rtS S a) sn ss
  have hst : (rtS S a).stale = clrS S.stale a := rfl
  rw [hst] at n1
  have hsz : W.heap.size < V.heap.size := blk_lt hr
  have hltV : b < V.heap.size := by omega
  by_cases hz : clrS S.stale a = 0
  · have hmr := mroot_any V b (o + 2) _ hb (rtS S a).leaves (g_tree HF.out (rtS S a) sn ss) (by rw [g_len HF.out]; have := HF.out; omega)
    have e1 : topD (rtS S a).leaves = rootD S := by rw [rtS_end S a hz]; rfl
    rw [e1] at hmr
    have e2 : rtS S a = rootS S := rtS_end S a hz
    have hz2 : w64 (clrS S.stale a) = 0 := by rw [hz]; rfl
    have HB := hid_of hb
    have HFR := hid_of hf
    have HE2 := hid_of e2
    generalize splice C o (gOf (rtS S a) sn ss).enc = D0 at hb n1
    clear hz hst e1 e2
    go_wp2_with fail
    refine hmr.mono ?_
    rintro e V2 ⟨rfl, hx2⟩
    have hr2 : blk V2 W.heap.size = some (arr u8v zD) := (hx2.blk hsz).trans hr
    have hrf2 : free V2 W.heap.size = true := (free_of_heap (hx2.block _ hsz)).trans hrf
    have HP : Hid (Q (.returned (.agg (arr u8v (rootD S)).toArray)) (put V2 W.heap.size (arr u8v (rootD S)))) := by
      show Q _ _
      rw [HQ.out]
      refine ⟨rfl, ?_, ?_, (HWB.out.trans (Wb.of hx2)).put_new (Nat.le_refl _) _⟩
      · rw [blk_put, if_neg hne, hx2.blk hltV, HB.out, HE2.out]
      · rw [free_put, free_of_heap (hx2.block b hltV)]; exact HFR.out
    clear hx2 hmr
    dsimp only
    go_wp2_with fail
    refine ret_cell (C := arr u8v (rootD S)) rfl rfl (by rw [blk_put, if_pos rfl, hr2]; rfl) (by kernel_rfl) (by rw [length_arr]; kernel_rfl) rfl ?_
    exact HP.out
  have ha64 : a < 64 := Nat.lt_of_not_le fun h => hz (clrS_all S.stale a h)
  have hz2 : ¬ w64 (clrS S.stale a) = 0 := fun e => hz (w64_inj (b := 0) e)
  have hz3 : (w64 (clrS S.stale a) != 0) = true := by simp [hz2]
  have hbit : IntKind.u64.wrap (2 ^ min ((a : Int)).toNat 64) = w64 (bitN a) := by
    have h9 := bit_any (UInt8.ofNat a) (by rw [UInt8.toNat_ofNat']; omega)
    rw [w8_ofNat a (by omega), UInt8.toNat_ofNat', Nat.mod_eq_of_lt (by omega), Int.one_mul] at h9
    exact h9
  have hbit2 : IntKind.u64.wrap (2 ^ a) = w64 (bitN a) := by
    rw [show ((a : Int)).toNat = a from by omega, Nat.min_eq_left (by omega)] at hbit
    exact hbit
  have p0 : (0 : Int) ≤ (a : Int) := by omega
  have p2 : ((a : Int)).toNat = a := by omega
  have hmin : min a 64 = a := Nat.min_eq_left (by omega)
  have wa : IntKind.i64.wrap (a : Int) = (a : Int) := wraps_i64 _ (by omega) (by omega)
  have hcn := clr_and S.stale a ha64
  by_cases hbt : S.stale.toNat.testBit a = false
  · have hc : w64 (clrS S.stale a &&& bitN a) = 0 := by rw [hcn.2 hbt]; rfl
    have HSK := hid_of (rtS_skip S a hbt)
    generalize hD0 : splice C o (gOf (rtS S a) sn ss).enc = D0 at hb n1
    have HD0 := hid_of hD0
    clear hz hst hcn hbt hD0
    generalize clrS S.stale a = cl at n1 hz2 hz3 hc
    generalize bitN a = bt at hbit hbit2 hc
    go_wp2_with fail
    refine ⟨rfl, rfl, ⟨rfl, rfl, a + 1, by omega, ?_, ?_, hf, hr, hrf, HWB.out⟩, ?_⟩
    · show Value.int .u8 _ = _
      go_num
    · rw [HSK.out, HD0.out]; exact hb
    · show 64 - (intOf (Value.int .u8 _)).toNat < 64 - (intOf (F 3)).toNat
      rw [H3.out]
      simp [intOf]; omega
  have hbt1 : S.stale.toNat.testBit a = true := by simpa using hbt
  have hc : ¬ w64 (clrS S.stale a &&& bitN a) = 0 := fun e => hbt (hcn.1 (w64_inj (b := 0) e))
  have s1 := g_ss HF.out (rtS S a) sn ss (clrS S.stale (a + 1))
  have hnx := clr_next S.stale a ha64
  obtain ⟨D1, hD1⟩ : ∃ D1, D1 = splice C o (gOf { rtS S a with stale := clrS S.stale (a + 1) } sn ss).enc := ⟨_, rfl⟩
  rw [← hD1] at s1
  have HDL : Hid (D1.length = C.length) := by rw [hD1]; exact g_len HF.out _ _ _
  have HSET : Hid (splice D1 (o + 2 + a * 32) (arr u8v (leafF S.now a)) = splice C o (gOf (rtS S (a + 1)) sn ss).enc) := by
    show _ = _
    exact rt_leaf HF.out S sn ss a ha64 hbt1 D1 hD1
  have hn1 : nth D1 o = some (Sl.val sn) := by rw [hD1]; exact g_hn HF.out _ _ _
  have l1 : o + 2050 + 1 ≤ (splice C o (gOf (rtS S a) sn ss).enc).length := by rw [g_len HF.out]; have := HF.out; omega
  generalize splice C o (gOf (rtS S a) sn ss).enc = D0 at hb n1 s1 l1
  have hbP : blk (put V b D1) b = some D1 := by rw [blk_put, if_pos rfl, hb]; rfl
  have HWB1 : Hid (Wb b W (put V b D1)) := HWB.out.put _
  have hrd : KvRd (put V b D1) b o S.now := by
    obtain ⟨na, nl, nc⟩ := sn
    exact ⟨D1, na, nl, nc, hbP, hn1, HR.out _ HWB1.out, by have h8 := HSL.out; have := HM.out; dsimp only at h8; omega⟩
  have hsb := slotBytes_any (put V b D1) b o S.now hrd (UInt8.ofNat a)
  have hwa : w8 (UInt8.ofNat a) = (a : Int) := w8_ofNat a (by omega)
  rw [hwa] at hsb
  have hrP : blk (put V b D1) W.heap.size = some (arr u8v zD) := by rw [blk_put, if_neg (by omega)]; exact hr
  have hrfP : free (put V b D1) W.heap.size = true := by rw [free_put]; exact hrf
  have hfP : free (put V b D1) b = true := by rw [free_put]; exact hf
  rw [← hnx] at s1
  clear hz hst hcn hbt hbt1 hD1 hn1 hrd hnx hwa
  generalize clrS S.stale a = cl at n1 hz2 hz3 hc s1
  generalize bitN a = bt at hbit hbit2 hc s1
  go_wp2_with fail
  refine hsb.mono ?_
  rintro e V3 ⟨p3, n3, c3, rfl, hO3⟩
  have hx3 := hO3.2.1
  have hlt3 : b < V3.heap.size := by have := blk_lt hbP; have := hx3.size; omega
  have hb3 : blk V3 b = some D1 := (hx3.blk (blk_lt hbP)).trans hbP
  have hf3 : free V3 b = true := (free_of_heap (hx3.block b (blk_lt hbP))).trans hfP
  have hr3 : blk V3 W.heap.size = some (arr u8v zD) := (hx3.blk (blk_lt hrP)).trans hrP
  have hrf3 : free V3 W.heap.size = true := (free_of_heap (hx3.block _ (blk_lt hrP))).trans hrfP
  have HWB3 : Hid (Wb b W V3) := HWB1.out.trans (Wb.of hx3)
  have hBs := hO3.bs
  have hn3 : n3 = 41 := by rw [hO3.2.2, slB_len]
  clear hsb hx3 hO3 hbP hrP hrfP hfP hf hr hrf hb s1 l1 n1
  by_cases hh : slH S.now (UInt8.ofNat a) 4 ≠ 0
  · have hd : decide (slH S.now (UInt8.ofNat a) 4 ≠ 0) = true := decide_eq_true hh
    have htag : Calls Tryz.prog 115 #[.int .u8 2, .slice p3 n3 c3] V3.drew fun e V => e = .returned (.agg (arr u8v (leafF S.now a)).toArray) ∧ V3.drew.Extends V := by
      have h9 := tagged_any V3.drew 2 p3 n3 c3 _ (hBs.grow (extends_drewN (ext_Ext (Ext.refl _)) 1)) (by omega)
      have h8 : leafF S.now a = tagF 2 (slB S.now (UInt8.ofNat a) 4) := by unfold leafF; rw [if_pos hh]
      rw [h8]
      exact h9
    have hlt3' : b < V3.drew.heap.size := hlt3
    rw [hd]
    clear hd hh hBs hn3
    dsimp only
    go_upto_region 9 with fail
    repeat go_step
    refine wp_region_held_drew (S := fun W' => True) (by kernel_rfl) trivial (fun hHeld => ?_)
    refine wpAnyH_take (i := 0) (oi := ⟨_, _, _, _, _, _⟩) (v := ?_) rfl (by kernel_rfl) (by kernel_rfl) (by kernel_rfl) (fun _ _ _ h => h) (Or.inl ⟨by rfl, ?_⟩) (by assumption) ?_
    rotate_left 1
    · intro W' hSw
      go_simp
      try with_reducible rfl
    try simp only [Act.put, List.setIfInBounds_toArray, List.set_cons_zero, List.set_cons_succ]
    refine wpAnyH_take (i := 1) (oi := ⟨_, _, _, _, _, _⟩) (v := ?_) rfl (by kernel_rfl) (by kernel_rfl) (by kernel_rfl) (fun _ _ _ h => h) (Or.inl ⟨by rfl, ?_⟩) (by assumption) ?_
    rotate_left 1
    · intro W' hSw
      go_simp
      try with_reducible rfl
    try simp only [Act.put, List.setIfInBounds_toArray, List.set_cons_zero, List.set_cons_succ]
    refine wpAnyH_take (i := 2) (oi := ⟨_, _, _, _, _, _⟩) (v := ?_) rfl (by kernel_rfl) (by kernel_rfl) (by kernel_rfl) (fun _ _ _ h => h) (Or.inl ⟨by rfl, ?_⟩) (by assumption) ?_
    rotate_left 1
    · intro W' hSw
      go_simp
      try with_reducible rfl
    try simp only [Act.put, List.setIfInBounds_toArray, List.set_cons_zero, List.set_cons_succ]
    refine wpAnyH_take (i := 3) (oi := ⟨_, _, _, _, _, _⟩) (v := ?_) rfl (by kernel_rfl) (by kernel_rfl) (by kernel_rfl) (fun _ _ _ h => h) (Or.inl ⟨by rfl, ?_⟩) (by assumption) ?_
    rotate_left 1
    · intro W' hSw
      go_simp
      try with_reducible rfl
    try simp only [Act.put, List.setIfInBounds_toArray, List.set_cons_zero, List.set_cons_succ]
    refine wpAnyH_take (i := 4) (oi := ⟨_, _, _, _, _, _⟩) (v := ?_) rfl (by kernel_rfl) (by kernel_rfl) (by kernel_rfl) (fun _ _ _ h => h) (Or.inl ⟨by rfl, ?_⟩) (by assumption) ?_
    rotate_left 1
    · intro W' hSw
      go_simp
      try with_reducible rfl
    try simp only [Act.put, List.setIfInBounds_toArray, List.set_cons_zero, List.set_cons_succ]
    refine wpAnyH_take (i := 5) (oi := ⟨_, _, _, _, _, _⟩) (v := ?_) rfl (by kernel_rfl) (by kernel_rfl) (by kernel_rfl) (fun _ _ _ h => h) (Or.inl ⟨by rfl, ?_⟩) (by assumption) ?_
    rotate_left 1
    · intro W' hSw
      go_simp
      try with_reducible rfl
    try simp only [Act.put, List.setIfInBounds_toArray, List.set_cons_zero, List.set_cons_succ]
    refine wpAnyH_ready (rs := [6]) (by kernel_rfl) (by simp) ?_
    refine AllReadyH.cons (o := ⟨_, _, _, _, _, _⟩) rfl (fun K' hK => ?_) AllReadyH.nil
    go_simp
    refine htag.mono ?_
    rintro e V4 ⟨rfl, hx4⟩
    dsimp only
    have hb4 : blk V4 b = some D1 := (hx4.blk hlt3').trans hb3
    have hf4 : free V4 b = true := (free_of_heap (hx4.block b hlt3')).trans hf3
    have hset := set_any V4 b (o + 2) D1 hb4 hf4 a ha64 (by rw [HDL.out]; have := HF.out; omega) (leafF S.now a)
    have hr4 : blk V4 W.heap.size = some (arr u8v zD) := (hx4.blk (blk_lt hr3)).trans hr3
    have hrf4 : free V4 W.heap.size = true := (free_of_heap (hx4.block _ (blk_lt hr3))).trans hrf3
    have HX4 : Hid (Wb b W V4) := HWB3.out.trans ((Wb.of (extends_drewN (ext_Ext (Ext.refl _)) 1)).trans (Wb.of hx4))
    clear hx4 htag hb4 hf4
    refine hK.out _ _ trivial (fun hHeld => ?_)
    clear hK K'
    try simp only [Act.put, List.setIfInBounds_toArray, List.set_cons_zero, List.set_cons_succ]
    refine wpAnyH_ready (rs := [7]) (by kernel_rfl) (by simp) ?_
    refine AllReadyH.cons (o := ⟨_, _, _, _, _, _⟩) rfl (fun K' hK => ?_) AllReadyH.nil
    go_simp
    refine hset.mono ?_
    rintro e V5 ⟨rfl, hb5, hf5, hw5⟩
    dsimp only
    have hr5 : blk V5 W.heap.size = some (arr u8v zD) := hw5.blk hr4 (by omega)
    have hrf5 : free V5 W.heap.size = true := hw5.free hr4 hrf4 (by omega)
    have HX5 : Hid (Wb b W V5) := HX4.out.trans hw5
    clear hw5 hset
    refine hK.out _ _ trivial (fun hHeld => ?_)
    clear hK K'
    try simp only [Act.put, List.setIfInBounds_toArray, List.set_cons_zero, List.set_cons_succ]
    refine wpAnyH_done (by kernel_rfl) ?_ _
    clear hHeld
    go_wp2_with fail
    refine ⟨rfl, rfl, ⟨rfl, rfl, a + 1, by omega, ?_, ?_, hf5, hr5, hrf5, HX5.out⟩, ?_⟩
    · show Value.int .u8 _ = _
      go_num
    · rw [hb5, HSET.out]
    · show 64 - (intOf (Value.int .u8 _)).toNat < 64 - (intOf (F 3)).toNat
      rw [H3.out]
      simp [intOf]; omega
  · have hd : decide (slH S.now (UInt8.ofNat a) 4 ≠ 0) = false := decide_eq_false hh
    have hcl := clear_any V3 b (o + 2) D1 hb3 hf3 a ha64 (by rw [HDL.out]; have := HF.out; omega)
    have h8 : leafF S.now a = empL := by unfold leafF; rw [if_neg hh]
    rw [← h8] at hcl
    rw [hd]
    clear hd hh hBs hn3 h8
    dsimp only
    go_wp2_with fail
    refine hcl.mono ?_
    rintro e V5 ⟨rfl, hb5, hf5, hw5⟩
    have hr5 : blk V5 W.heap.size = some (arr u8v zD) := hw5.blk hr3 (by omega)
    have hrf5 : free V5 W.heap.size = true := hw5.free hr3 hrf3 (by omega)
    have HX5 : Hid (Wb b W V5) := HWB3.out.trans hw5
    clear hw5 hcl
    dsimp only
    go_wp2_with fail
    refine ⟨rfl, rfl, ⟨rfl, rfl, a + 1, by omega, ?_, ?_, hf5, hr5, hrf5, HX5.out⟩, ?_⟩
    · show Value.int .u8 _ = _
      go_num
    · rw [hb5, HSET.out]
    · show 64 - (intOf (Value.int .u8 _)).toNat < 64 - (intOf (F 3)).toNat
      rw [H3.out]
      simp [intOf]; omega
end Go.Proofs.Qxb6500786aGreat
