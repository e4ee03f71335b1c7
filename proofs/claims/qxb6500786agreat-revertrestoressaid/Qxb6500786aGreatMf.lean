import Derived.DeepKeys2
import Derived.OwnWalk
import Derived.Laws.CopyRow
import Derived.Test.Qxb6500786aGreatMe

import Derived.StillTailTactics
import Derived.Deep.QuietTactic
import Derived.BigQuiet
import Derived.Deep.RegionHeld
import Derived.Deep.CutRange
import Derived.Laws.ResultCell
import Derived.Laws.Rows
import Derived.DeepKeys
import Derived.DataBytes
import Derived.Laws.StructEq
import Derived.Laws.AppendOwn
import Derived.Laws.MakeOwn
import Derived.Lib.AppendStr
set_option linter.unusedSimpArgs false
set_option linter.unusedVariables false
namespace Go.Proofs.Qxb6500786aGreat
open Go.RowKit Go.Blk
attribute [local go_sem ↓] execOp_load execOp_store execOp_alloc
attribute [local go_sem] Tryz.ld24 Tryz.st24 Tryz.ld36 Tryz.st36 Tryz.ld28 Tryz.st28 Tryz.ld32 Tryz.st32 Tryz.ld33 Tryz.st33 Tryz.ld34 Tryz.st34 Tryz.ld5 Tryz.st5 Tryz.ld31 Tryz.st31 Tryz.ld30 Tryz.st30 Tryz.ld41 Tryz.st41 Tryz.ld44 Tryz.st44 Tryz.ld4 Tryz.st4 Tryz.ld173 Tryz.st173 Tryz.ld174 Tryz.st174 Tryz.ld95 Tryz.st95 Tryz.ld45 Tryz.st45 Tryz.ld207 Tryz.st207 Tryz.ld3 Tryz.st3 Tryz.ld189 Tryz.st189 Tryz.ld2 Tryz.st2 Tryz.ld9 Tryz.st9 Tryz.ld12 Tryz.st12 Tryz.ld21 Tryz.st21 Tryz.ld22 Tryz.st22 Tryz.ld46 Tryz.st46 Tryz.ld92 Tryz.st92 Tryz.ld94 Tryz.st94 Tryz.ld96 Tryz.st96 Tryz.ld97 Tryz.st97 Tryz.ld105 Tryz.st105 Tryz.ld117 Tryz.st117 Tryz.ld122 Tryz.st122 Tryz.ld123 Tryz.st123 Tryz.ld133 Tryz.st133 Tryz.ld155 Tryz.st155 Tryz.ld163 Tryz.st163 Tryz.ld190 Tryz.st190 Tryz.ld197 Tryz.st197 Tryz.ld201 Tryz.st201 Tryz.ld202 Tryz.st202 Tryz.ld209 Tryz.st209 Tryz.ld216 Tryz.st216 Tryz.ld230 Tryz.st230 Tryz.ld238 Tryz.st238 Tryz.ld242 Tryz.st242 Tryz.ld251 Tryz.st251 Tryz.ld260 Tryz.st260 Tryz.ld286 Tryz.st286 Tryz.ld292 Tryz.st292 Tryz.ld298 Tryz.st298 Tryz.ld309 Tryz.st309 Tryz.ld35 Tryz.st35 Tryz.ld48 Tryz.st48 Tryz.ld47 Tryz.st47 Tryz.ld79 Tryz.st79 Tryz.ld177 Tryz.st177 Tryz.ld180 Tryz.st180 Tryz.ld231 Tryz.st231 Tryz.ld232 Tryz.st232 Tryz.ld26 Tryz.st26 Tryz.ld38 Tryz.st38 Tryz.ld40 Tryz.st40 Tryz.ld43 Tryz.st43 Tryz.ld50 Tryz.st50 Tryz.ld52 Tryz.st52 Tryz.ld54 Tryz.st54 Tryz.ld81 Tryz.st81 Tryz.ld112 Tryz.st112 Tryz.ld120 Tryz.st120 Tryz.ld176 Tryz.st176 Tryz.ld179 Tryz.st179 Tryz.ld182 Tryz.st182 Tryz.ld184 Tryz.st184 Tryz.ld234 Tryz.st234 Tryz.ld236 Tryz.st236 Tryz.ld240 Tryz.st240 Tryz.ld246 Tryz.st246 Tryz.ld249 Tryz.st249 Tryz.al35 Tryz.al48 Tryz.al47 Tryz.al79 Tryz.al177 Tryz.al180 Tryz.al231 Tryz.al232 Tryz.al26 Tryz.al38 Tryz.al40 Tryz.al43 Tryz.al50 Tryz.al52 Tryz.al54 Tryz.al81 Tryz.al112 Tryz.al120 Tryz.al176 Tryz.al179 Tryz.al182 Tryz.al184 Tryz.al234 Tryz.al236 Tryz.al240 Tryz.al246 Tryz.al249
attribute [local go_sem] Player.length_enc Player.ok_enc Player.all_get Player.all_set Player.hand_get Player.hand_set Player.aside_get Player.aside_set Message.length_enc Message.ok_enc Message.all_get Message.all_set Message.kind_get Message.kind_set Message.from__get Message.from__set Message.to__get Message.to__set Message.sender_get Message.sender_set Message.receiver_get Message.receiver_set Message.seq_get Message.seq_set Message.token_get Message.token_set Message.amount_get Message.amount_set Message.size_get Message.size_set Message.payload_get Message.payload_set Tx.length_enc Tx.ok_enc Tx.all_get Tx.all_set Tx.kind_get Tx.kind_set Tx.chain_get Tx.chain_set Tx.from__get Tx.from__set Tx.nonce_get Tx.nonce_set Tx.fee_get Tx.fee_set Tx.to__get Tx.to__set Tx.dest_get Tx.dest_set Tx.token_get Tx.token_set Tx.amount_get Tx.amount_set Tx.size_get Tx.size_set Tx.payload_get Tx.payload_set Tx.msg_get Tx.msg_set Tx.msg_kind_get Tx.msg_kind_set Tx.msg_from__get Tx.msg_from__set Tx.msg_to__get Tx.msg_to__set Tx.msg_sender_get Tx.msg_sender_set Tx.msg_receiver_get Tx.msg_receiver_set Tx.msg_seq_get Tx.msg_seq_set Tx.msg_token_get Tx.msg_token_set Tx.msg_amount_get Tx.msg_amount_set Tx.msg_size_get Tx.msg_size_set Tx.msg_payload_get Tx.msg_payload_set GOp.length_enc GOp.ok_enc GOp.all_get GOp.all_set GOp.kind_get GOp.kind_set GOp.tx_get GOp.tx_set GOp.txs_get GOp.txs_set GOp.gas_get GOp.gas_set GOp.acct_get GOp.acct_set GOp.token_get GOp.token_set GOp.chain_get GOp.chain_set GOp.seq_get GOp.seq_set GOp.tx_kind_get GOp.tx_kind_set GOp.tx_chain_get GOp.tx_chain_set GOp.tx_from__get GOp.tx_from__set GOp.tx_nonce_get GOp.tx_nonce_set GOp.tx_fee_get GOp.tx_fee_set GOp.tx_to__get GOp.tx_to__set GOp.tx_dest_get GOp.tx_dest_set GOp.tx_token_get GOp.tx_token_set GOp.tx_amount_get GOp.tx_amount_set GOp.tx_size_get GOp.tx_size_set GOp.tx_payload_get GOp.tx_payload_set GOp.tx_msg_get GOp.tx_msg_set GOp.tx_msg_kind_get GOp.tx_msg_kind_set GOp.tx_msg_from__get GOp.tx_msg_from__set GOp.tx_msg_to__get GOp.tx_msg_to__set GOp.tx_msg_sender_get GOp.tx_msg_sender_set GOp.tx_msg_receiver_get GOp.tx_msg_receiver_set GOp.tx_msg_seq_get GOp.tx_msg_seq_set GOp.tx_msg_token_get GOp.tx_msg_token_set GOp.tx_msg_amount_get GOp.tx_msg_amount_set GOp.tx_msg_size_get GOp.tx_msg_size_set GOp.tx_msg_payload_get GOp.tx_msg_payload_set Summary.length_enc Summary.ok_enc Summary.all_get Summary.all_set Summary.height_get Summary.height_set Summary.txs_get Summary.txs_set Summary.gas_get Summary.gas_set Summary.fees_get Summary.fees_set Summary.sent_get Summary.sent_set Summary.took_get Summary.took_set Summary.minted_get Summary.minted_set Summary.burned_get Summary.burned_set Summary.root_get Summary.root_set Detail.length_enc Detail.ok_enc Detail.all_get Detail.all_set Detail.code_get Detail.code_set Detail.have__get Detail.have__set Detail.need_get Detail.need_set Slot.length_enc Slot.ok_enc Slot.all_get Slot.all_set Slot.nonce_get Slot.nonce_set Slot.balances_get Slot.balances_set Tree.length_enc Tree.ok_enc Tree.all_get Tree.all_set Tree.leaves_get Tree.leaves_set Mark.length_enc Mark.ok_enc Mark.all_get Mark.all_set Mark.from__get Mark.from__set Mark.seq_get Mark.seq_set Receipt.length_enc Receipt.ok_enc Receipt.all_get Receipt.all_set Receipt.code_get Receipt.code_set Receipt.hash_get Receipt.hash_set Receipt.index_get Receipt.index_set Receipt.gas_get Receipt.gas_set Receipt.fee_get Receipt.fee_set Receipt.hasSent_get Receipt.hasSent_set Receipt.sent_get Receipt.sent_set Receipt.hasTook_get Receipt.hasTook_set Receipt.took_get Receipt.took_set Receipt.sent_kind_get Receipt.sent_kind_set Receipt.sent_from__get Receipt.sent_from__set Receipt.sent_to__get Receipt.sent_to__set Receipt.sent_sender_get Receipt.sent_sender_set Receipt.sent_receiver_get Receipt.sent_receiver_set Receipt.sent_seq_get Receipt.sent_seq_set Receipt.sent_token_get Receipt.sent_token_set Receipt.sent_amount_get Receipt.sent_amount_set Receipt.sent_size_get Receipt.sent_size_set Receipt.sent_payload_get Receipt.sent_payload_set Receipt.took_kind_get Receipt.took_kind_set Receipt.took_from__get Receipt.took_from__set Receipt.took_to__get Receipt.took_to__set Receipt.took_sender_get Receipt.took_sender_set Receipt.took_receiver_get Receipt.took_receiver_set Receipt.took_seq_get Receipt.took_seq_set Receipt.took_token_get Receipt.took_token_set Receipt.took_amount_get Receipt.took_amount_set Receipt.took_size_get Receipt.took_size_set Receipt.took_payload_get Receipt.took_payload_set Store.length_enc Store.ok_enc Store.all_get Store.all_set Store.now_get Store.now_set Store.saved_get Store.saved_set GState.length_enc GState.ok_enc GState.all_get GState.all_set GState.kv_get GState.kv_set GState.tree_get GState.tree_set GState.stale_get GState.stale_set GState.touched_get GState.touched_set GState.kv_now_get GState.kv_now_set GState.kv_saved_get GState.kv_saved_set GState.tree_leaves_get GState.tree_leaves_set History.length_enc History.ok_enc History.all_get History.all_set History.ring_get History.ring_set History.closed_get History.closed_set Ledger.length_enc Ledger.ok_enc Ledger.all_get Ledger.all_set Ledger.chain_get Ledger.chain_set Ledger.st_get Ledger.st_set Ledger.height_get Ledger.height_set Ledger.open__get Ledger.open__set Ledger.gasLimit_get Ledger.gasLimit_set Ledger.past_get Ledger.past_set Ledger.begun_get Ledger.begun_set Ledger.sent_get Ledger.sent_set Ledger.took_get Ledger.took_set Ledger.receipts_get Ledger.receipts_set Ledger.st_kv_get Ledger.st_kv_set Ledger.st_tree_get Ledger.st_tree_set Ledger.st_stale_get Ledger.st_stale_set Ledger.st_touched_get Ledger.st_touched_set Ledger.st_kv_now_get Ledger.st_kv_now_set Ledger.st_kv_saved_get Ledger.st_kv_saved_set Ledger.st_tree_leaves_get Ledger.st_tree_leaves_set Ledger.past_ring_get Ledger.past_ring_set Ledger.past_closed_get Ledger.past_closed_set Ledger.begun_kv_get Ledger.begun_kv_set Ledger.begun_tree_get Ledger.begun_tree_set Ledger.begun_stale_get Ledger.begun_stale_set Ledger.begun_touched_get Ledger.begun_touched_set Ledger.begun_kv_now_get Ledger.begun_kv_now_set Ledger.begun_kv_saved_get Ledger.begun_kv_saved_set Ledger.begun_tree_leaves_get Ledger.begun_tree_leaves_set Purse.length_enc Purse.ok_enc Purse.all_get Purse.all_set Purse.st_get Purse.st_set Purse.n_get Purse.n_set Purse.account_get Purse.account_set Purse.token_get Purse.token_set Purse.amount_get Purse.amount_set Plan.length_enc Plan.ok_enc Plan.all_get Plan.all_set Plan.purse_get Plan.purse_set Plan.nonce_get Plan.nonce_set Plan.gasUsed_get Plan.gasUsed_set Plan.fees_get Plan.fees_set Plan.hasSupply_get Plan.hasSupply_set Plan.token_get Plan.token_set Plan.supply_get Plan.supply_set Plan.flowAt_get Plan.flowAt_set Plan.flow_get Plan.flow_set Plan.receipt_get Plan.receipt_set Plan.purse_st_get Plan.purse_st_set Plan.purse_n_get Plan.purse_n_set Plan.purse_account_get Plan.purse_account_set Plan.purse_token_get Plan.purse_token_set Plan.purse_amount_get Plan.purse_amount_set Plan.receipt_code_get Plan.receipt_code_set Plan.receipt_hash_get Plan.receipt_hash_set Plan.receipt_index_get Plan.receipt_index_set Plan.receipt_gas_get Plan.receipt_gas_set Plan.receipt_fee_get Plan.receipt_fee_set Plan.receipt_hasSent_get Plan.receipt_hasSent_set Plan.receipt_sent_get Plan.receipt_sent_set Plan.receipt_hasTook_get Plan.receipt_hasTook_set Plan.receipt_took_get Plan.receipt_took_set Plan.receipt_sent_kind_get Plan.receipt_sent_kind_set Plan.receipt_sent_from__get Plan.receipt_sent_from__set Plan.receipt_sent_to__get Plan.receipt_sent_to__set Plan.receipt_sent_sender_get Plan.receipt_sent_sender_set Plan.receipt_sent_receiver_get Plan.receipt_sent_receiver_set Plan.receipt_sent_seq_get Plan.receipt_sent_seq_set Plan.receipt_sent_token_get Plan.receipt_sent_token_set Plan.receipt_sent_amount_get Plan.receipt_sent_amount_set Plan.receipt_sent_size_get Plan.receipt_sent_size_set Plan.receipt_sent_payload_get Plan.receipt_sent_payload_set Plan.receipt_took_kind_get Plan.receipt_took_kind_set Plan.receipt_took_from__get Plan.receipt_took_from__set Plan.receipt_took_to__get Plan.receipt_took_to__set Plan.receipt_took_sender_get Plan.receipt_took_sender_set Plan.receipt_took_receiver_get Plan.receipt_took_receiver_set Plan.receipt_took_seq_get Plan.receipt_took_seq_set Plan.receipt_took_token_get Plan.receipt_took_token_set Plan.receipt_took_amount_get Plan.receipt_took_amount_set Plan.receipt_took_size_get Plan.receipt_took_size_set Plan.receipt_took_payload_get Plan.receipt_took_payload_set Move.length_enc Move.ok_enc Move.all_get Move.all_set Move.account_get Move.account_set Move.token_get Move.token_set Move.down_get Move.down_set Move.amount_get Move.amount_set Books.length_enc Books.ok_enc Books.all_get Books.all_set Books.sums_get Books.sums_set Books.stored_get Books.stored_set Books.marks_get Books.marks_set Pair.length_enc Pair.ok_enc Pair.all_get Pair.all_set Pair.key_get Pair.key_set Pair.value_get Pair.value_set
attribute [local go_sem] size_put size_ext blk_put free_put blk_alloc free_alloc blk_drew free_drew blk_ext free_ext lookOr_some putOr_some segAt_some cellAt_some storeIn_some put_put put_alloc_new length_arr ok_arr_u8 ok_arr_u32 ok_arr_u64 ok_arr_i64 ok_arr_sl cellsV_agg cellsV_int cellsV_bool cellsV_string cellsV_pointer cellsV_slice cellsV_sl ok_int ok_bool ok_string ok_pointer ok_slice ok_sl toList_arr seg_arr set_arr nth_splice nth_splice0 seg_splice seg_splice0 splice_splice splice_splice0 length_splice_if
attribute [local go_sem ↓] execOp_box
attribute [local go_sem] box_run nth_arr_u8 put_arr_u8 blk_drewN free_drewN put_drewN blk_raw free_raw
theorem wpList_copy_run {w : World} {ops : Array Oper} {rest : List Oper} {o : Oper} {a : Act} {Q : Exit → Act → World → Prop} (hgd : o.guard = none) (s x : Operand) (t : TypeId)
    (ho : o.op = .call { callee := .builtin .copy, args := #[s, x], argTypes := #[t, t] }) (v u v' : Value) (w' : World) (hs : a.eval s = v) (hx : a.eval x = u) (hr : (Builtin.copy_ #[t, t] o.type #[v, u]).run Tryz.prog w = .ok v' w')
    (hK : wpList Tryz.prog ops Q rest (a.put o.dst v') w') : wpList Tryz.prog ops Q (o :: rest) a w := by
  refine wpList_plain hgd fun K hK' => ?_
  unfold Oper.wp
  simp [execOp, ho, resolve, invoke, builtin, hs, hx, hr, Result.andThen]
  exact hK' _ _ hK
theorem made_row {W V : World} {e : TypeId} {z : Array Value} {n sz : Nat} {xs : List Value} (he : W.Extends V) (hx : xs.length = n * sz) (hn : n ≤ 1000000000) : (put (V.alloc (.cells (madeCells z (n * sz)) e)) V.heap.size xs).ownsRow W.heap.size e sz (.slice (some ⟨V.heap.size, 0, none⟩) n n) n xs := by
  have hg : (V.alloc (.cells (madeCells z (n * sz)) e)).heap[V.heap.size]? = some (.cells (madeCells z (n * sz)) e (0, 0)) := by show (V.heap.push _)[V.heap.size]? = _; rw [Array.getElem?_push, if_pos rfl]
  refine ⟨hx, .inr ⟨V.heap.size, n, xs.toArray, rfl, he.size, setRow_heap _ _ _ _ _ _ hg, Nat.le_refl _, by unfold maxLen; omega, by rw [List.size_toArray]; exact hx, ?_⟩⟩
  rw [List.take_of_length_le (by rw [hx]; exact Nat.le_refl _)]
theorem flat_len {α : Type} {en : α → List Value} {sz : Nat} (h : ∀ x, (en x).length = sz) (K : List α) : (K.flatMap en).length = K.length * sz := by
  induction K with
  | nil => simp
  | cons x K ih => rw [List.flatMap_cons, List.length_append, h, ih, List.length_cons, Nat.succ_mul, Nat.add_comm]
theorem makeU95 (w : World) (n : UInt64) (hn : n.toNat ≤ 1000000000) : (makeOp 95 (.int .u64 (w64 n)) (.int .u64 (w64 n))).run Tryz.prog w = .ok (.value (.slice (some ⟨w.heap.size, 0, none⟩) n.toNat n.toNat)) (w.alloc (.cells (madeCells Message.zero.enc.toArray (n.toNat * 41)) 38)) := by
  obtain ⟨i, hi, hz, hsz, hby⟩ : ∃ i, Tryz.prog.info? 38 = some i ∧ i.zero = some (.agg Message.zero.enc.toArray) ∧ i.size = 41 ∧ i.bytes = 72 := by
    have hq : (Tryz.prog.info? 38).map (fun i => (i.zero, i.size, i.bytes)) = some (some (.agg Message.zero.enc.toArray), 41, 72) := by kernel_rfl
    cases hx : Tryz.prog.info? 38 with
    | none => rw [hx] at hq; simp at hq
    | some i =>
      rw [hx] at hq
      simp only [Option.map_some, Option.some.injEq, Prod.mk.injEq] at hq
      exact ⟨i, rfl, hq.1, hq.2.1, hq.2.2⟩
  have hw : w64 n = (n.toNat : Int) := rfl
  have hr := run_make (P := Tryz.prog) w 95 38 i _ und95 hi hz .u64 .u64 (w64 n) (w64 n) (by rw [hw]; omega) (by omega) (by rw [hby, hw]; omega) (by rw [hw]; omega)
  unfold makeOp
  rw [Sem.run_bind, hr, hsz, hw, Int.toNat_natCast]
  rfl
attribute [local go_sem ↓] execOp_build execOp_bslice execOp_slice execOp_make
set_option maxRecDepth 20000 in
set_option maxHeartbeats 1000000 in
theorem sent_any (O : Own) (W : World) (bl : Nat) (L : PLg) (hL : LedA O W bl L) (hc : (ldF L.st.now (keyC 4)).toNat ≤ L.sent.length) (hl : L.sent.length ≤ 1000000000) : Calls Tryz.prog 52 #[.pointer (some ⟨bl, 0, none⟩)] W fun e V => ∃ a c, e = .returned (.slice a (ldF L.st.now (keyC 4)).toNat c) ∧ OutG Message.enc 41 38 W V a (ldF L.st.now (keyC 4)).toNat c (L.sent.take (ldF L.st.now (keyC 4)).toNat) := by
  obtain ⟨Q, hQ⟩ : ∃ Q : Ending → World → Prop, Q = fun e V => ∃ a c, e = .returned (.slice a (ldF L.st.now (keyC 4)).toNat c) ∧ OutG Message.enc 41 38 W V a (ldF L.st.now (keyC 4)).toNat c (L.sent.take (ldF L.st.now (keyC 4)).toNat) := ⟨_, rfl⟩
  rw [← hQ]
  have HQ := hid_of hQ
  have hct := counter_any W bl 1 L.st.now hL.rd 4 (by decide)
  obtain ⟨n, hn⟩ : ∃ n, n = ldF L.st.now (keyC 4) := ⟨_, rfl⟩
  rw [← hn] at hct hc
  have HN := hid_of hn
  have HL := hid_of hL
  have HC := hid_of hc
  have HX := hid_of hl
  clear hL hQ hn hc hl
  go_enter Tryz.func52, Tryz.ntmps52
  go_wp2_with fail
  refine hct.mono ?_
  clear hct
  rintro e V1 ⟨rfl, he1⟩
  dsimp only
  obtain ⟨sn, ss, bn, ⟨a, ln, c⟩, mt, mr, h⟩ := HL.out.ext he1
  have hcap : n.toNat ≤ c := Nat.le_trans HC.out (cap_le h.msn)
  have hsl : ∀ w, (sliceOp 95 (.slice a ln c) none (some (.int .u64 (w64 n))) none).run Tryz.prog w = .ok (.value (.slice a n.toNat c)) w := fun w => slice_hiU und95 (by kernel_rfl) w a ln c n hcap
  have hmk := makeU95 V1 n (by have := HC.out; have := HX.out; omega)
  have hln : L.sent.length = ln := (RowL.rw Message.length_enc h.msn).1.1
  have hrw1 := (RowL.rw Message.length_enc (RowL.shrink Message.length_enc h.msn (n' := n.toNat) (show n.toNat ≤ ln by rw [← hln]; exact HC.out))).1
  obtain ⟨V2, hV2⟩ : ∃ V2 : World, V2 = V1.alloc (.cells (madeCells Message.zero.enc.toArray (n.toNat * 41)) 38) := ⟨_, rfl⟩
  have hx2 : V1.Extends V2 := by rw [hV2]; exact extends_alloc (ext_Ext (Ext.refl _)) _
  have hb2 : blk V2 V1.heap.size = some (madeCells Message.zero.enc.toArray (n.toNat * 41)).toList := by rw [hV2, blk_alloc, if_pos rfl]
  have hf2 : free V2 V1.heap.size = true := by rw [hV2, free_alloc, if_pos rfl]
  have hcp := fun ty => copy_row el95 V2 ty (L.sent.take n.toNat) n.toNat a c n.toNat V1.heap.size _ hb2 hf2 (hrw1.grow hx2) (by rw [Array.length_toList, size_madeCells])
  have hKl : (L.sent.take n.toNat).length = n.toNat := by rw [List.length_take]; have := HC.out; omega
  have kl : blk V2 bl = some (lgOf L sn ss bn ⟨a, ln, c⟩ mt mr).enc := (hx2.blk (blk_lt h.hblk)).trans h.hblk
  obtain ⟨LE, hLE⟩ : ∃ LE, LE = (lgOf L sn ss bn ⟨a, ln, c⟩ mt mr).enc := ⟨_, rfl⟩
  rw [← hLE] at kl
  have kn : nth LE 4493 = some (.slice a ln c) := by rw [hLE]; exact Ledger.sent_get _
  have HP : Hid (Q (.returned (.slice (some ⟨V1.heap.size, 0, none⟩) n.toNat n.toNat)) (put V2 V1.heap.size ((L.sent.take n.toNat).flatMap Message.enc))) := by
    show Q _ _
    rw [HQ.out, ← HN.out]
    refine ⟨_, _, rfl, ?_, extends_put (he1.trans hx2) he1.size _, hKl.symm⟩
    rw [hV2, hKl]
    exact made_row he1 (by rw [flat_len Message.length_enc, hKl]) (by have := HC.out; have := HX.out; omega)
  rw [← hV2] at hmk
  generalize hnn : n.toNat = nn at hsl hmk hcp HP
  generalize (L.sent.take nn).flatMap Message.enc = XS at hcp HP
  clear hV2 hx2 hb2 hf2 hrw1 h hcap hKl hLE hln HQ HN HC HX HL he1 hnn
  go_wp2_with (at_builtin; refine wpList_copy_run rfl _ _ 95 rfl _ _ _ _ rfl rfl (hcp _) ?_)
  try (first | go_ret | go_ret2 | go_ret3 | go_end0)
  exact HP.out
attribute [local go_sem ↓] execOp_build execOp_bslice execOp_slice execOp_make
set_option maxRecDepth 20000 in
set_option maxHeartbeats 1000000 in
theorem took_any (O : Own) (W : World) (bl : Nat) (L : PLg) (hL : LedA O W bl L) (hc : (ldF L.st.now (keyC 5)).toNat ≤ L.took.length) (hl : L.took.length ≤ 1000000000) : Calls Tryz.prog 53 #[.pointer (some ⟨bl, 0, none⟩)] W fun e V => ∃ a c, e = .returned (.slice a (ldF L.st.now (keyC 5)).toNat c) ∧ OutG Message.enc 41 38 W V a (ldF L.st.now (keyC 5)).toNat c (L.took.take (ldF L.st.now (keyC 5)).toNat) := by
  obtain ⟨Q, hQ⟩ : ∃ Q : Ending → World → Prop, Q = fun e V => ∃ a c, e = .returned (.slice a (ldF L.st.now (keyC 5)).toNat c) ∧ OutG Message.enc 41 38 W V a (ldF L.st.now (keyC 5)).toNat c (L.took.take (ldF L.st.now (keyC 5)).toNat) := ⟨_, rfl⟩
  rw [← hQ]
  have HQ := hid_of hQ
  have hct := counter_any W bl 1 L.st.now hL.rd 5 (by decide)
  obtain ⟨n, hn⟩ : ∃ n, n = ldF L.st.now (keyC 5) := ⟨_, rfl⟩
  rw [← hn] at hct hc
  have HN := hid_of hn
  have HL := hid_of hL
  have HC := hid_of hc
  have HX := hid_of hl
  clear hL hQ hn hc hl
  go_enter Tryz.func53, Tryz.ntmps53
  go_wp2_with fail
  refine hct.mono ?_
  clear hct
  rintro e V1 ⟨rfl, he1⟩
  dsimp only
  obtain ⟨sn, ss, bn, ms, ⟨a, ln, c⟩, mr, h⟩ := HL.out.ext he1
  have hcap : n.toNat ≤ c := Nat.le_trans HC.out (cap_le h.mtk)
  have hsl : ∀ w, (sliceOp 95 (.slice a ln c) none (some (.int .u64 (w64 n))) none).run Tryz.prog w = .ok (.value (.slice a n.toNat c)) w := fun w => slice_hiU und95 (by kernel_rfl) w a ln c n hcap
  have hmk := makeU95 V1 n (by have := HC.out; have := HX.out; omega)
  have hln : L.took.length = ln := (RowL.rw Message.length_enc h.mtk).1.1
  have hrw1 := (RowL.rw Message.length_enc (RowL.shrink Message.length_enc h.mtk (n' := n.toNat) (show n.toNat ≤ ln by rw [← hln]; exact HC.out))).1
  obtain ⟨V2, hV2⟩ : ∃ V2 : World, V2 = V1.alloc (.cells (madeCells Message.zero.enc.toArray (n.toNat * 41)) 38) := ⟨_, rfl⟩
  have hx2 : V1.Extends V2 := by rw [hV2]; exact extends_alloc (ext_Ext (Ext.refl _)) _
  have hb2 : blk V2 V1.heap.size = some (madeCells Message.zero.enc.toArray (n.toNat * 41)).toList := by rw [hV2, blk_alloc, if_pos rfl]
  have hf2 : free V2 V1.heap.size = true := by rw [hV2, free_alloc, if_pos rfl]
  have hcp := fun ty => copy_row el95 V2 ty (L.took.take n.toNat) n.toNat a c n.toNat V1.heap.size _ hb2 hf2 (hrw1.grow hx2) (by rw [Array.length_toList, size_madeCells])
  have hKl : (L.took.take n.toNat).length = n.toNat := by rw [List.length_take]; have := HC.out; omega
  have kl : blk V2 bl = some (lgOf L sn ss bn ms ⟨a, ln, c⟩ mr).enc := (hx2.blk (blk_lt h.hblk)).trans h.hblk
  obtain ⟨LE, hLE⟩ : ∃ LE, LE = (lgOf L sn ss bn ms ⟨a, ln, c⟩ mr).enc := ⟨_, rfl⟩
  rw [← hLE] at kl
  have kn : nth LE 4494 = some (.slice a ln c) := by rw [hLE]; exact Ledger.took_get _
  have HP : Hid (Q (.returned (.slice (some ⟨V1.heap.size, 0, none⟩) n.toNat n.toNat)) (put V2 V1.heap.size ((L.took.take n.toNat).flatMap Message.enc))) := by
    show Q _ _
    rw [HQ.out, ← HN.out]
    refine ⟨_, _, rfl, ?_, extends_put (he1.trans hx2) he1.size _, hKl.symm⟩
    rw [hV2, hKl]
    exact made_row he1 (by rw [flat_len Message.length_enc, hKl]) (by have := HC.out; have := HX.out; omega)
  rw [← hV2] at hmk
  generalize hnn : n.toNat = nn at hsl hmk hcp HP
  generalize (L.took.take nn).flatMap Message.enc = XS at hcp HP
  clear hV2 hx2 hb2 hf2 hrw1 h hcap hKl hLE hln HQ HN HC HX HL he1 hnn
  go_wp2_with (at_builtin; refine wpList_copy_run rfl _ _ 95 rfl _ _ _ _ rfl rfl (hcp _) ?_)
  try (first | go_ret | go_ret2 | go_ret3 | go_end0)
  exact HP.out
theorem makeU45 (w : World) (n : UInt64) (hn : n.toNat ≤ 1000000000) : (makeOp 45 (.int .u64 (w64 n)) (.int .u64 (w64 n))).run Tryz.prog w = .ok (.value (.slice (some ⟨w.heap.size, 0, none⟩) n.toNat n.toNat)) (w.alloc (.cells (madeCells Receipt.zero.enc.toArray (n.toNat * 120)) 120)) := by
  obtain ⟨i, hi, hz, hsz, hby⟩ : ∃ i, Tryz.prog.info? 120 = some i ∧ i.zero = some (.agg Receipt.zero.enc.toArray) ∧ i.size = 120 ∧ i.bytes = 224 := by
    have hq : (Tryz.prog.info? 120).map (fun i => (i.zero, i.size, i.bytes)) = some (some (.agg Receipt.zero.enc.toArray), 120, 224) := by kernel_rfl
    cases hx : Tryz.prog.info? 120 with
    | none => rw [hx] at hq; simp at hq
    | some i =>
      rw [hx] at hq
      simp only [Option.map_some, Option.some.injEq, Prod.mk.injEq] at hq
      exact ⟨i, rfl, hq.1, hq.2.1, hq.2.2⟩
  have hw : w64 n = (n.toNat : Int) := rfl
  have hr := run_make (P := Tryz.prog) w 45 120 i _ und45 hi hz .u64 .u64 (w64 n) (w64 n) (by rw [hw]; omega) (by omega) (by rw [hby, hw]; omega) (by rw [hw]; omega)
  unfold makeOp
  rw [Sem.run_bind, hr, hsz, hw, Int.toNat_natCast]
  rfl
attribute [local go_sem ↓] execOp_build execOp_bslice execOp_slice execOp_make
set_option maxRecDepth 20000 in
set_option maxHeartbeats 1000000 in
theorem receipts_any (O : Own) (W : World) (bl : Nat) (L : PLg) (hL : LedA O W bl L) (hc : (ldF L.st.now (keyC 3)).toNat ≤ L.receipts.length) (hl : L.receipts.length ≤ 1000000000) : Calls Tryz.prog 119 #[.pointer (some ⟨bl, 0, none⟩)] W fun e V => ∃ a c, e = .returned (.slice a (ldF L.st.now (keyC 3)).toNat c) ∧ OutG Receipt.enc 120 120 W V a (ldF L.st.now (keyC 3)).toNat c (L.receipts.take (ldF L.st.now (keyC 3)).toNat) := by
  obtain ⟨Q, hQ⟩ : ∃ Q : Ending → World → Prop, Q = fun e V => ∃ a c, e = .returned (.slice a (ldF L.st.now (keyC 3)).toNat c) ∧ OutG Receipt.enc 120 120 W V a (ldF L.st.now (keyC 3)).toNat c (L.receipts.take (ldF L.st.now (keyC 3)).toNat) := ⟨_, rfl⟩
  rw [← hQ]
  have HQ := hid_of hQ
  have hct := counter_any W bl 1 L.st.now hL.rd 3 (by decide)
  obtain ⟨n, hn⟩ : ∃ n, n = ldF L.st.now (keyC 3) := ⟨_, rfl⟩
  rw [← hn] at hct hc
  have HN := hid_of hn
  have HL := hid_of hL
  have HC := hid_of hc
  have HX := hid_of hl
  clear hL hQ hn hc hl
  go_enter Tryz.func119, Tryz.ntmps119
  go_wp2_with fail
  refine hct.mono ?_
  clear hct
  rintro e V1 ⟨rfl, he1⟩
  dsimp only
  obtain ⟨sn, ss, bn, ms, mt, ⟨a, ln, c⟩, h⟩ := HL.out.ext he1
  have hcap : n.toNat ≤ c := Nat.le_trans HC.out (cap_le h.mrc)
  have hsl : ∀ w, (sliceOp 45 (.slice a ln c) none (some (.int .u64 (w64 n))) none).run Tryz.prog w = .ok (.value (.slice a n.toNat c)) w := fun w => slice_hiU und45 (by kernel_rfl) w a ln c n hcap
  have hmk := makeU45 V1 n (by have := HC.out; have := HX.out; omega)
  have hln : L.receipts.length = ln := (RowL.rw Receipt.length_enc h.mrc).1.1
  have hrw1 := (RowL.rw Receipt.length_enc (RowL.shrink Receipt.length_enc h.mrc (n' := n.toNat) (show n.toNat ≤ ln by rw [← hln]; exact HC.out))).1
  obtain ⟨V2, hV2⟩ : ∃ V2 : World, V2 = V1.alloc (.cells (madeCells Receipt.zero.enc.toArray (n.toNat * 120)) 120) := ⟨_, rfl⟩
  have hx2 : V1.Extends V2 := by rw [hV2]; exact extends_alloc (ext_Ext (Ext.refl _)) _
  have hb2 : blk V2 V1.heap.size = some (madeCells Receipt.zero.enc.toArray (n.toNat * 120)).toList := by rw [hV2, blk_alloc, if_pos rfl]
  have hf2 : free V2 V1.heap.size = true := by rw [hV2, free_alloc, if_pos rfl]
  have hcp := fun ty => copy_row el45 V2 ty (L.receipts.take n.toNat) n.toNat a c n.toNat V1.heap.size _ hb2 hf2 (hrw1.grow hx2) (by rw [Array.length_toList, size_madeCells])
  have hKl : (L.receipts.take n.toNat).length = n.toNat := by rw [List.length_take]; have := HC.out; omega
  have kl : blk V2 bl = some (lgOf L sn ss bn ms mt ⟨a, ln, c⟩).enc := (hx2.blk (blk_lt h.hblk)).trans h.hblk
  obtain ⟨LE, hLE⟩ : ∃ LE, LE = (lgOf L sn ss bn ms mt ⟨a, ln, c⟩).enc := ⟨_, rfl⟩
  rw [← hLE] at kl
  have kn : nth LE 4495 = some (.slice a ln c) := by rw [hLE]; exact Ledger.receipts_get _
  have HP : Hid (Q (.returned (.slice (some ⟨V1.heap.size, 0, none⟩) n.toNat n.toNat)) (put V2 V1.heap.size ((L.receipts.take n.toNat).flatMap Receipt.enc))) := by
    show Q _ _
    rw [HQ.out, ← HN.out]
    refine ⟨_, _, rfl, ?_, extends_put (he1.trans hx2) he1.size _, hKl.symm⟩
    rw [hV2, hKl]
    exact made_row he1 (by rw [flat_len Receipt.length_enc, hKl]) (by have := HC.out; have := HX.out; omega)
  rw [← hV2] at hmk
  generalize hnn : n.toNat = nn at hsl hmk hcp HP
  generalize (L.receipts.take nn).flatMap Receipt.enc = XS at hcp HP
  clear hV2 hx2 hb2 hf2 hrw1 h hcap hKl hLE hln HQ HN HC HX HL he1 hnn
  go_wp2_with (at_builtin; refine wpList_copy_run rfl _ _ 45 rfl _ _ _ _ rfl rfl (hcp _) ?_)
  try (first | go_ret | go_ret2 | go_ret3 | go_end0)
  exact HP.out
end Go.Proofs.Qxb6500786aGreat
