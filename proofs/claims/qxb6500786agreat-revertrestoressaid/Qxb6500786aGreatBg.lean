import Derived.Test.Qxb6500786aGreatBf

import Derived.StillTailTactics
import Derived.Deep.QuietTactic
import Derived.BigQuiet
import Derived.Deep.RegionHeld
import Derived.Deep.CutRange
import Derived.Laws.ResultCell
import Derived.Laws.Rows
import Derived.DeepKeys
import Derived.DataBytes
import Derived.Laws.StructEq
import Derived.Laws.AppendOwn
import Derived.Laws.MakeOwn
import Derived.Lib.AppendStr
set_option linter.unusedSimpArgs false
set_option linter.unusedVariables false
namespace Go.Proofs.Qxb6500786aGreat
open Go.RowKit Go.Blk
attribute [local go_sem ↓] execOp_load execOp_store execOp_alloc
attribute [local go_sem] Tryz.ld24 Tryz.st24 Tryz.ld36 Tryz.st36 Tryz.ld28 Tryz.st28 Tryz.ld32 Tryz.st32 Tryz.ld33 Tryz.st33 Tryz.ld34 Tryz.st34 Tryz.ld5 Tryz.st5 Tryz.ld31 Tryz.st31 Tryz.ld30 Tryz.st30 Tryz.ld41 Tryz.st41 Tryz.ld44 Tryz.st44 Tryz.ld4 Tryz.st4 Tryz.ld173 Tryz.st173 Tryz.ld174 Tryz.st174 Tryz.ld95 Tryz.st95 Tryz.ld45 Tryz.st45 Tryz.ld207 Tryz.st207 Tryz.ld3 Tryz.st3 Tryz.ld189 Tryz.st189 Tryz.ld2 Tryz.st2 Tryz.ld9 Tryz.st9 Tryz.ld12 Tryz.st12 Tryz.ld21 Tryz.st21 Tryz.ld22 Tryz.st22 Tryz.ld46 Tryz.st46 Tryz.ld92 Tryz.st92 Tryz.ld94 Tryz.st94 Tryz.ld96 Tryz.st96 Tryz.ld97 Tryz.st97 Tryz.ld105 Tryz.st105 Tryz.ld117 Tryz.st117 Tryz.ld122 Tryz.st122 Tryz.ld123 Tryz.st123 Tryz.ld133 Tryz.st133 Tryz.ld155 Tryz.st155 Tryz.ld163 Tryz.st163 Tryz.ld190 Tryz.st190 Tryz.ld197 Tryz.st197 Tryz.ld201 Tryz.st201 Tryz.ld202 Tryz.st202 Tryz.ld209 Tryz.st209 Tryz.ld216 Tryz.st216 Tryz.ld230 Tryz.st230 Tryz.ld238 Tryz.st238 Tryz.ld242 Tryz.st242 Tryz.ld251 Tryz.st251 Tryz.ld260 Tryz.st260 Tryz.ld286 Tryz.st286 Tryz.ld292 Tryz.st292 Tryz.ld298 Tryz.st298 Tryz.ld309 Tryz.st309 Tryz.ld35 Tryz.st35 Tryz.ld48 Tryz.st48 Tryz.ld47 Tryz.st47 Tryz.ld79 Tryz.st79 Tryz.ld177 Tryz.st177 Tryz.ld180 Tryz.st180 Tryz.ld231 Tryz.st231 Tryz.ld232 Tryz.st232 Tryz.ld26 Tryz.st26 Tryz.ld38 Tryz.st38 Tryz.ld40 Tryz.st40 Tryz.ld43 Tryz.st43 Tryz.ld50 Tryz.st50 Tryz.ld52 Tryz.st52 Tryz.ld54 Tryz.st54 Tryz.ld81 Tryz.st81 Tryz.ld112 Tryz.st112 Tryz.ld120 Tryz.st120 Tryz.ld176 Tryz.st176 Tryz.ld179 Tryz.st179 Tryz.ld182 Tryz.st182 Tryz.ld184 Tryz.st184 Tryz.ld234 Tryz.st234 Tryz.ld236 Tryz.st236 Tryz.ld240 Tryz.st240 Tryz.ld246 Tryz.st246 Tryz.ld249 Tryz.st249 Tryz.al35 Tryz.al48 Tryz.al47 Tryz.al79 Tryz.al177 Tryz.al180 Tryz.al231 Tryz.al232 Tryz.al26 Tryz.al38 Tryz.al40 Tryz.al43 Tryz.al50 Tryz.al52 Tryz.al54 Tryz.al81 Tryz.al112 Tryz.al120 Tryz.al176 Tryz.al179 Tryz.al182 Tryz.al184 Tryz.al234 Tryz.al236 Tryz.al240 Tryz.al246 Tryz.al249
attribute [local go_sem] Player.length_enc Player.ok_enc Player.all_get Player.all_set Player.hand_get Player.hand_set Player.aside_get Player.aside_set Message.length_enc Message.ok_enc Message.all_get Message.all_set Message.kind_get Message.kind_set Message.from__get Message.from__set Message.to__get Message.to__set Message.sender_get Message.sender_set Message.receiver_get Message.receiver_set Message.seq_get Message.seq_set Message.token_get Message.token_set Message.amount_get Message.amount_set Message.size_get Message.size_set Message.payload_get Message.payload_set Tx.length_enc Tx.ok_enc Tx.all_get Tx.all_set Tx.kind_get Tx.kind_set Tx.chain_get Tx.chain_set Tx.from__get Tx.from__set Tx.nonce_get Tx.nonce_set Tx.fee_get Tx.fee_set Tx.to__get Tx.to__set Tx.dest_get Tx.dest_set Tx.token_get Tx.token_set Tx.amount_get Tx.amount_set Tx.size_get Tx.size_set Tx.payload_get Tx.payload_set Tx.msg_get Tx.msg_set Tx.msg_kind_get Tx.msg_kind_set Tx.msg_from__get Tx.msg_from__set Tx.msg_to__get Tx.msg_to__set Tx.msg_sender_get Tx.msg_sender_set Tx.msg_receiver_get Tx.msg_receiver_set Tx.msg_seq_get Tx.msg_seq_set Tx.msg_token_get Tx.msg_token_set Tx.msg_amount_get Tx.msg_amount_set Tx.msg_size_get Tx.msg_size_set Tx.msg_payload_get Tx.msg_payload_set GOp.length_enc GOp.ok_enc GOp.all_get GOp.all_set GOp.kind_get GOp.kind_set GOp.tx_get GOp.tx_set GOp.txs_get GOp.txs_set GOp.gas_get GOp.gas_set GOp.acct_get GOp.acct_set GOp.token_get GOp.token_set GOp.chain_get GOp.chain_set GOp.seq_get GOp.seq_set GOp.tx_kind_get GOp.tx_kind_set GOp.tx_chain_get GOp.tx_chain_set GOp.tx_from__get GOp.tx_from__set GOp.tx_nonce_get GOp.tx_nonce_set GOp.tx_fee_get GOp.tx_fee_set GOp.tx_to__get GOp.tx_to__set GOp.tx_dest_get GOp.tx_dest_set GOp.tx_token_get GOp.tx_token_set GOp.tx_amount_get GOp.tx_amount_set GOp.tx_size_get GOp.tx_size_set GOp.tx_payload_get GOp.tx_payload_set GOp.tx_msg_get GOp.tx_msg_set GOp.tx_msg_kind_get GOp.tx_msg_kind_set GOp.tx_msg_from__get GOp.tx_msg_from__set GOp.tx_msg_to__get GOp.tx_msg_to__set GOp.tx_msg_sender_get GOp.tx_msg_sender_set GOp.tx_msg_receiver_get GOp.tx_msg_receiver_set GOp.tx_msg_seq_get GOp.tx_msg_seq_set GOp.tx_msg_token_get GOp.tx_msg_token_set GOp.tx_msg_amount_get GOp.tx_msg_amount_set GOp.tx_msg_size_get GOp.tx_msg_size_set GOp.tx_msg_payload_get GOp.tx_msg_payload_set Summary.length_enc Summary.ok_enc Summary.all_get Summary.all_set Summary.height_get Summary.height_set Summary.txs_get Summary.txs_set Summary.gas_get Summary.gas_set Summary.fees_get Summary.fees_set Summary.sent_get Summary.sent_set Summary.took_get Summary.took_set Summary.minted_get Summary.minted_set Summary.burned_get Summary.burned_set Summary.root_get Summary.root_set Detail.length_enc Detail.ok_enc Detail.all_get Detail.all_set Detail.code_get Detail.code_set Detail.have__get Detail.have__set Detail.need_get Detail.need_set Slot.length_enc Slot.ok_enc Slot.all_get Slot.all_set Slot.nonce_get Slot.nonce_set Slot.balances_get Slot.balances_set Tree.length_enc Tree.ok_enc Tree.all_get Tree.all_set Tree.leaves_get Tree.leaves_set Mark.length_enc Mark.ok_enc Mark.all_get Mark.all_set Mark.from__get Mark.from__set Mark.seq_get Mark.seq_set Receipt.length_enc Receipt.ok_enc Receipt.all_get Receipt.all_set Receipt.code_get Receipt.code_set Receipt.hash_get Receipt.hash_set Receipt.index_get Receipt.index_set Receipt.gas_get Receipt.gas_set Receipt.fee_get Receipt.fee_set Receipt.hasSent_get Receipt.hasSent_set Receipt.sent_get Receipt.sent_set Receipt.hasTook_get Receipt.hasTook_set Receipt.took_get Receipt.took_set Receipt.sent_kind_get Receipt.sent_kind_set Receipt.sent_from__get Receipt.sent_from__set Receipt.sent_to__get Receipt.sent_to__set Receipt.sent_sender_get Receipt.sent_sender_set Receipt.sent_receiver_get Receipt.sent_receiver_set Receipt.sent_seq_get Receipt.sent_seq_set Receipt.sent_token_get Receipt.sent_token_set Receipt.sent_amount_get Receipt.sent_amount_set Receipt.sent_size_get Receipt.sent_size_set Receipt.sent_payload_get Receipt.sent_payload_set Receipt.took_kind_get Receipt.took_kind_set Receipt.took_from__get Receipt.took_from__set Receipt.took_to__get Receipt.took_to__set Receipt.took_sender_get Receipt.took_sender_set Receipt.took_receiver_get Receipt.took_receiver_set Receipt.took_seq_get Receipt.took_seq_set Receipt.took_token_get Receipt.took_token_set Receipt.took_amount_get Receipt.took_amount_set Receipt.took_size_get Receipt.took_size_set Receipt.took_payload_get Receipt.took_payload_set Store.length_enc Store.ok_enc Store.all_get Store.all_set Store.now_get Store.now_set Store.saved_get Store.saved_set GState.length_enc GState.ok_enc GState.all_get GState.all_set GState.kv_get GState.kv_set GState.tree_get GState.tree_set GState.stale_get GState.stale_set GState.touched_get GState.touched_set GState.kv_now_get GState.kv_now_set GState.kv_saved_get GState.kv_saved_set GState.tree_leaves_get GState.tree_leaves_set History.length_enc History.ok_enc History.all_get History.all_set History.ring_get History.ring_set History.closed_get History.closed_set Ledger.length_enc Ledger.ok_enc Ledger.all_get Ledger.all_set Ledger.chain_get Ledger.chain_set Ledger.st_get Ledger.st_set Ledger.height_get Ledger.height_set Ledger.open__get Ledger.open__set Ledger.gasLimit_get Ledger.gasLimit_set Ledger.past_get Ledger.past_set Ledger.begun_get Ledger.begun_set Ledger.sent_get Ledger.sent_set Ledger.took_get Ledger.took_set Ledger.receipts_get Ledger.receipts_set Ledger.st_kv_get Ledger.st_kv_set Ledger.st_tree_get Ledger.st_tree_set Ledger.st_stale_get Ledger.st_stale_set Ledger.st_touched_get Ledger.st_touched_set Ledger.st_kv_now_get Ledger.st_kv_now_set Ledger.st_kv_saved_get Ledger.st_kv_saved_set Ledger.st_tree_leaves_get Ledger.st_tree_leaves_set Ledger.past_ring_get Ledger.past_ring_set Ledger.past_closed_get Ledger.past_closed_set Ledger.begun_kv_get Ledger.begun_kv_set Ledger.begun_tree_get Ledger.begun_tree_set Ledger.begun_stale_get Ledger.begun_stale_set Ledger.begun_touched_get Ledger.begun_touched_set Ledger.begun_kv_now_get Ledger.begun_kv_now_set Ledger.begun_kv_saved_get Ledger.begun_kv_saved_set Ledger.begun_tree_leaves_get Ledger.begun_tree_leaves_set Purse.length_enc Purse.ok_enc Purse.all_get Purse.all_set Purse.st_get Purse.st_set Purse.n_get Purse.n_set Purse.account_get Purse.account_set Purse.token_get Purse.token_set Purse.amount_get Purse.amount_set Plan.length_enc Plan.ok_enc Plan.all_get Plan.all_set Plan.purse_get Plan.purse_set Plan.nonce_get Plan.nonce_set Plan.gasUsed_get Plan.gasUsed_set Plan.fees_get Plan.fees_set Plan.hasSupply_get Plan.hasSupply_set Plan.token_get Plan.token_set Plan.supply_get Plan.supply_set Plan.flowAt_get Plan.flowAt_set Plan.flow_get Plan.flow_set Plan.receipt_get Plan.receipt_set Plan.purse_st_get Plan.purse_st_set Plan.purse_n_get Plan.purse_n_set Plan.purse_account_get Plan.purse_account_set Plan.purse_token_get Plan.purse_token_set Plan.purse_amount_get Plan.purse_amount_set Plan.receipt_code_get Plan.receipt_code_set Plan.receipt_hash_get Plan.receipt_hash_set Plan.receipt_index_get Plan.receipt_index_set Plan.receipt_gas_get Plan.receipt_gas_set Plan.receipt_fee_get Plan.receipt_fee_set Plan.receipt_hasSent_get Plan.receipt_hasSent_set Plan.receipt_sent_get Plan.receipt_sent_set Plan.receipt_hasTook_get Plan.receipt_hasTook_set Plan.receipt_took_get Plan.receipt_took_set Plan.receipt_sent_kind_get Plan.receipt_sent_kind_set Plan.receipt_sent_from__get Plan.receipt_sent_from__set Plan.receipt_sent_to__get Plan.receipt_sent_to__set Plan.receipt_sent_sender_get Plan.receipt_sent_sender_set Plan.receipt_sent_receiver_get Plan.receipt_sent_receiver_set Plan.receipt_sent_seq_get Plan.receipt_sent_seq_set Plan.receipt_sent_token_get Plan.receipt_sent_token_set Plan.receipt_sent_amount_get Plan.receipt_sent_amount_set Plan.receipt_sent_size_get Plan.receipt_sent_size_set Plan.receipt_sent_payload_get Plan.receipt_sent_payload_set Plan.receipt_took_kind_get Plan.receipt_took_kind_set Plan.receipt_took_from__get Plan.receipt_took_from__set Plan.receipt_took_to__get Plan.receipt_took_to__set Plan.receipt_took_sender_get Plan.receipt_took_sender_set Plan.receipt_took_receiver_get Plan.receipt_took_receiver_set Plan.receipt_took_seq_get Plan.receipt_took_seq_set Plan.receipt_took_token_get Plan.receipt_took_token_set Plan.receipt_took_amount_get Plan.receipt_took_amount_set Plan.receipt_took_size_get Plan.receipt_took_size_set Plan.receipt_took_payload_get Plan.receipt_took_payload_set Move.length_enc Move.ok_enc Move.all_get Move.all_set Move.account_get Move.account_set Move.token_get Move.token_set Move.down_get Move.down_set Move.amount_get Move.amount_set Books.length_enc Books.ok_enc Books.all_get Books.all_set Books.sums_get Books.sums_set Books.stored_get Books.stored_set Books.marks_get Books.marks_set Pair.length_enc Pair.ok_enc Pair.all_get Pair.all_set Pair.key_get Pair.key_set Pair.value_get Pair.value_set
attribute [local go_sem] size_put size_ext blk_put free_put blk_alloc free_alloc blk_drew free_drew blk_ext free_ext lookOr_some putOr_some segAt_some cellAt_some storeIn_some put_put put_alloc_new length_arr ok_arr_u8 ok_arr_u32 ok_arr_u64 ok_arr_i64 ok_arr_sl cellsV_agg cellsV_int cellsV_bool cellsV_string cellsV_pointer cellsV_slice cellsV_sl ok_int ok_bool ok_string ok_pointer ok_slice ok_sl toList_arr seg_arr set_arr nth_splice nth_splice0 seg_splice seg_splice0 splice_splice splice_splice0 length_splice_if
attribute [local go_sem ↓] execOp_box
attribute [local go_sem] box_run nth_arr_u8 put_arr_u8 blk_drewN free_drewN put_drewN blk_raw free_raw
attribute [local go_sem ↓] execOp_bslice execOp_slice
attribute [local go_sem] bslice197 slice47 slice35 slice79
theorem flat_put {α : Type} {en : α → List Value} {sz : Nat} (hln : ∀ x, (en x).length = sz) (K : List α) (i : Nat) (hi : i < K.length) (x : α) : splice (K.flatMap en) (i * sz) (en x) = (K.set i x).flatMap en := by
  induction K generalizing i with
  | nil => simp at hi
  | cons y K ih =>
    cases i with
    | zero =>
      unfold splice
      rw [List.set_cons_zero, List.flatMap_cons, List.flatMap_cons, Nat.zero_mul, List.take_zero, List.nil_append, Nat.zero_add, hln, List.drop_append, hln, Nat.sub_self, List.drop_zero, List.drop_of_length_le (by rw [hln]; omega), List.nil_append]
    | succ i =>
      have h := ih i (by simpa using hi)
      unfold splice at h ⊢
      rw [List.set_cons_succ, List.flatMap_cons, List.flatMap_cons, ← h, hln]
      have e1 : (i + 1) * sz = sz + i * sz := by rw [Nat.add_mul, Nat.one_mul, Nat.add_comm]
      rw [e1, List.take_append, hln, Nat.add_sub_cancel_left, List.take_of_length_le (by rw [hln]; omega), List.drop_append, hln, List.drop_of_length_le (by rw [hln]; omega), List.nil_append, show sz + i * sz + sz - sz = i * sz + sz from by omega, List.append_assoc, List.append_assoc, List.append_assoc]
abbrev Dig := Vector UInt8 32
def encD (x : Dig) : List Value := arr u8v x
theorem encD_len (x : Dig) : (encD x).length = 32 := length_arr _ _
theorem encD_one (x : Dig) : (encD x).all (fun v => v.oneCell') = true := one_arr_u8 x
def setL (L : Vector Dig 64) (i : Nat) (x : Dig) : Vector Dig 64 := if h : i < 64 then L.set i x h else L
theorem setL_at (L : Vector Dig 64) (i : Nat) (x : Dig) (h : i < 64) : L.set i x h = setL L i x := by unfold setL; rw [dif_pos h]
theorem leaves_len (L : Vector Dig 64) : (arrS encD L).length = 2048 := length_arrS (m := 32) _ _ encD_len
theorem leaves_put (L : Vector Dig 64) (i : Nat) (hi : i < 64) (x : Dig) : splice (arrS encD L) (i * 32) (encD x) = arrS encD (setL L i x) := by
  rw [← setL_at L i x hi]
  unfold arrS
  rw [flat_put encD_len L.toList i (by simpa using hi) x, Vector.toList_set]
theorem leaves_at (L : Vector Dig 64) (i : Nat) (x : Dig) (hx : L.toList[i]? = some x) : seg (arrS encD L) (i * 32) 32 = encD x := seg_flatG encD 32 encD_len L.toList i x hx
/-- Only block b is written, and new ones made. -/
structure Wb (b : Nat) (W V : World) : Prop where
  os : V.os = W.os
  tape : V.tape = W.tape
  output : V.output = W.output
  size : W.heap.size ≤ V.heap.size
  block : ∀ k, k < W.heap.size → k ≠ b → V.heap[k]? = W.heap[k]?
theorem Wb.refl (b : Nat) (W : World) : Wb b W W := ⟨rfl, rfl, rfl, Nat.le_refl _, fun _ _ _ => rfl⟩
theorem Wb.trans {b : Nat} {W V U : World} (h : Wb b W V) (h' : Wb b V U) : Wb b W U := ⟨h'.os.trans h.os, h'.tape.trans h.tape, h'.output.trans h.output, Nat.le_trans h.size h'.size, fun k hk hn => (h'.block k (Nat.lt_of_lt_of_le hk h.size) hn).trans (h.block k hk hn)⟩
theorem Wb.of {b : Nat} {W V : World} (h : W.Extends V) : Wb b W V := ⟨h.os, h.tape, h.output, h.size, fun k hk _ => h.block k hk⟩
theorem Wb.put {b : Nat} {W V : World} (h : Wb b W V) (C : List Value) : Wb b W (put V b C) := ⟨h.os, h.tape, h.output, by rw [size_put]; exact h.size, fun k hk hn => by rw [heap_put, if_neg hn]; exact h.block k hk hn⟩
theorem Wb.put_new {b c : Nat} {W V : World} (h : Wb b W V) (hc : W.heap.size ≤ c) (C : List Value) : Wb b W (Blk.put V c C) := ⟨h.os, h.tape, h.output, by rw [size_put]; exact h.size, fun k hk hn => by rw [heap_put, if_neg (by omega)]; exact h.block k hk hn⟩
theorem Wb.drewN {b : Nat} {W V : World} (h : Wb b W V) (n : Nat) : Wb b W (V.drewN n) := ⟨h.os, h.tape, h.output, h.size, h.block⟩
theorem Wb.blk {b k : Nat} {W V : World} (h : Wb b W V) {C : List Value} (hk : blk W k = some C) (hn : k ≠ b) : Blk.blk V k = some C := (blk_of_heap (h.block k (blk_lt hk) hn)).trans hk
theorem Wb.free {b k : Nat} {W V : World} (h : Wb b W V) {C : List Value} (hk : Blk.blk W k = some C) (hf : Blk.free W k = true) (hn : k ≠ b) : Blk.free V k = true := (free_of_heap (h.block k (blk_lt hk) hn)).trans hf
theorem Wb.lg {b : Nat} {W V : World} (h : Wb b W V) (O : Own) {l : Lab} (hO : O b = l) : Lg (fun x => x = l) O W (lab O W.heap.size .no) V := ⟨h.os, h.tape, h.output, h.size, fun k hk hp => ⟨lab_lt hk, h.block k hk (fun e => hp (by rw [e]; exact hO))⟩, fun k hk hp => by rw [lab_lt hk]; exact hp⟩
/-- After a leaf is set. -/
def SetPost (W : World) (b : Nat) (C : List Value) (e : Ending) (V : World) : Prop := e = .returned (.tuple #[]) ∧ blk V b = some C ∧ free V b = true ∧ Wb b W V
set_option maxRecDepth 20000 in
theorem set_any (W : World) (b o : Nat) (C : List Value) (hb : blk W b = some C) (hf : free W b = true) (i : Nat) (hi : i < 64) (hl : o + 2048 ≤ C.length) (x : Dig) : Calls Tryz.prog 39 #[.pointer (some ⟨b, o, none⟩), .int .i64 (i : Nat), .agg (arr u8v x).toArray] W (SetPost W b (splice C (o + i * 32) (arr u8v x))) := by
  have hlt := blk_lt hb
  have p0 : (0 : Int) ≤ (i : Int) := by omega
  have p1 : (i : Int) < 64 := by omega
  have p2 : ((i : Int)).toNat = i := by omega
  have hne : ¬ b = W.heap.size := by omega
  have hl2 : o + i * 32 + 32 ≤ C.length := by omega
  have HP : Hid (SetPost W b (splice C (o + i * 32) (arr u8v x)) (.returned (.tuple #[])) (put (W.alloc (.cells (arr u8v x).toArray 47)).drew b (splice C (o + i * 32) (arr u8v x)))) := by
    refine ⟨rfl, ?_, ?_, Wb.put ((Wb.of (extends_alloc (ext_Ext (Ext.refl _)) _)).drewN 1) _⟩
    · rw [blk_put, if_pos rfl, blk_drew, blk_alloc, if_neg hne, hb]; rfl
    · rw [free_put, free_drew, free_alloc, if_neg hne]; exact hf
  clear hlt hi
  go_enter Tryz.func39, Tryz.ntmps39
  go_wp2_with fail
  refine wp_region_still_tail 6 Tryz.mixed (by kernel_rfl) ?_
  simp only [List.take_succ_cons, List.take_zero, List.drop_succ_cons, List.drop_zero]
  iterate 6 still_step
  refine wpStill_nil ?_
  go_wp2_with fail
  try (first | go_ret | go_ret2 | go_end0)
  exact HP.out
theorem clear_any (W : World) (b o : Nat) (C : List Value) (hb : blk W b = some C) (hf : free W b = true) (i : Nat) (hi : i < 64) (hl : o + 2048 ≤ C.length) : Calls Tryz.prog 199 #[.pointer (some ⟨b, o, none⟩), .int .i64 (i : Nat)] W (SetPost W b (splice C (o + i * 32) (arr u8v empL))) := by
  have he := emptyLeaf_any W
  have HB := hid_of hb
  have HF := hid_of hf
  have HI := hid_of hi
  have HL := hid_of hl
  clear hb hf hi hl
  go_enter Tryz.func199, Tryz.ntmps199
  go_wp2_with fail
  refine he.mono ?_
  rintro e V ⟨rfl, hx⟩
  have hs := set_any V b o C ((hx.blk (blk_lt HB.out)).trans HB.out) ((free_of_heap (hx.block b (blk_lt HB.out))).trans HF.out) i HI.out HL.out empL
  have HX := hid_of hx
  clear hx he
  dsimp only
  go_wp2_with fail
  refine hs.mono ?_
  rintro e V2 ⟨rfl, h1, h2, h3⟩
  have HP : Hid (SetPost W b (splice C (o + i * 32) (arr u8v empL)) (.returned (.tuple #[])) V2) := ⟨rfl, h1, h2, (Wb.of HX.out).trans h3⟩
  clear hs h1 h2 h3
  dsimp only
  go_wp2_with fail
  try (first | go_ret | go_ret2 | go_end0)
  exact HP.out
end Go.Proofs.Qxb6500786aGreat
