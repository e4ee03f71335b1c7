import Derived.DeepKeys2
import Derived.Test.Qxb6500786aGreatYc

import Derived.StillTailTactics
import Derived.Deep.QuietTactic
import Derived.BigQuiet
import Derived.Deep.RegionHeld
import Derived.Deep.CutRange
import Derived.Laws.ResultCell
import Derived.Laws.Rows
import Derived.DeepKeys
import Derived.DataBytes
import Derived.Laws.StructEq
import Derived.Laws.AppendOwn
import Derived.Laws.MakeOwn
import Derived.Lib.AppendStr
set_option linter.unusedSimpArgs false
set_option linter.unusedVariables false
namespace Go.Proofs.Qxb6500786aGreat
open Go.RowKit Go.Blk
attribute [local go_sem ↓] execOp_load execOp_store execOp_alloc
attribute [local go_sem] Tryz.ld24 Tryz.st24 Tryz.ld36 Tryz.st36 Tryz.ld28 Tryz.st28 Tryz.ld32 Tryz.st32 Tryz.ld33 Tryz.st33 Tryz.ld34 Tryz.st34 Tryz.ld5 Tryz.st5 Tryz.ld31 Tryz.st31 Tryz.ld30 Tryz.st30 Tryz.ld41 Tryz.st41 Tryz.ld44 Tryz.st44 Tryz.ld4 Tryz.st4 Tryz.ld173 Tryz.st173 Tryz.ld174 Tryz.st174 Tryz.ld95 Tryz.st95 Tryz.ld45 Tryz.st45 Tryz.ld207 Tryz.st207 Tryz.ld3 Tryz.st3 Tryz.ld189 Tryz.st189 Tryz.ld2 Tryz.st2 Tryz.ld9 Tryz.st9 Tryz.ld12 Tryz.st12 Tryz.ld21 Tryz.st21 Tryz.ld22 Tryz.st22 Tryz.ld46 Tryz.st46 Tryz.ld92 Tryz.st92 Tryz.ld94 Tryz.st94 Tryz.ld96 Tryz.st96 Tryz.ld97 Tryz.st97 Tryz.ld105 Tryz.st105 Tryz.ld117 Tryz.st117 Tryz.ld122 Tryz.st122 Tryz.ld123 Tryz.st123 Tryz.ld133 Tryz.st133 Tryz.ld155 Tryz.st155 Tryz.ld163 Tryz.st163 Tryz.ld190 Tryz.st190 Tryz.ld197 Tryz.st197 Tryz.ld201 Tryz.st201 Tryz.ld202 Tryz.st202 Tryz.ld209 Tryz.st209 Tryz.ld216 Tryz.st216 Tryz.ld230 Tryz.st230 Tryz.ld238 Tryz.st238 Tryz.ld242 Tryz.st242 Tryz.ld251 Tryz.st251 Tryz.ld260 Tryz.st260 Tryz.ld286 Tryz.st286 Tryz.ld292 Tryz.st292 Tryz.ld298 Tryz.st298 Tryz.ld309 Tryz.st309 Tryz.ld35 Tryz.st35 Tryz.ld48 Tryz.st48 Tryz.ld47 Tryz.st47 Tryz.ld79 Tryz.st79 Tryz.ld177 Tryz.st177 Tryz.ld180 Tryz.st180 Tryz.ld231 Tryz.st231 Tryz.ld232 Tryz.st232 Tryz.ld26 Tryz.st26 Tryz.ld38 Tryz.st38 Tryz.ld40 Tryz.st40 Tryz.ld43 Tryz.st43 Tryz.ld50 Tryz.st50 Tryz.ld52 Tryz.st52 Tryz.ld54 Tryz.st54 Tryz.ld81 Tryz.st81 Tryz.ld112 Tryz.st112 Tryz.ld120 Tryz.st120 Tryz.ld176 Tryz.st176 Tryz.ld179 Tryz.st179 Tryz.ld182 Tryz.st182 Tryz.ld184 Tryz.st184 Tryz.ld234 Tryz.st234 Tryz.ld236 Tryz.st236 Tryz.ld240 Tryz.st240 Tryz.ld246 Tryz.st246 Tryz.ld249 Tryz.st249 Tryz.al35 Tryz.al48 Tryz.al47 Tryz.al79 Tryz.al177 Tryz.al180 Tryz.al231 Tryz.al232 Tryz.al26 Tryz.al38 Tryz.al40 Tryz.al43 Tryz.al50 Tryz.al52 Tryz.al54 Tryz.al81 Tryz.al112 Tryz.al120 Tryz.al176 Tryz.al179 Tryz.al182 Tryz.al184 Tryz.al234 Tryz.al236 Tryz.al240 Tryz.al246 Tryz.al249
attribute [local go_sem] Player.length_enc Player.ok_enc Player.all_get Player.all_set Player.hand_get Player.hand_set Player.aside_get Player.aside_set Message.length_enc Message.ok_enc Message.all_get Message.all_set Message.kind_get Message.kind_set Message.from__get Message.from__set Message.to__get Message.to__set Message.sender_get Message.sender_set Message.receiver_get Message.receiver_set Message.seq_get Message.seq_set Message.token_get Message.token_set Message.amount_get Message.amount_set Message.size_get Message.size_set Message.payload_get Message.payload_set Tx.length_enc Tx.ok_enc Tx.all_get Tx.all_set Tx.kind_get Tx.kind_set Tx.chain_get Tx.chain_set Tx.from__get Tx.from__set Tx.nonce_get Tx.nonce_set Tx.fee_get Tx.fee_set Tx.to__get Tx.to__set Tx.dest_get Tx.dest_set Tx.token_get Tx.token_set Tx.amount_get Tx.amount_set Tx.size_get Tx.size_set Tx.payload_get Tx.payload_set Tx.msg_get Tx.msg_set Tx.msg_kind_get Tx.msg_kind_set Tx.msg_from__get Tx.msg_from__set Tx.msg_to__get Tx.msg_to__set Tx.msg_sender_get Tx.msg_sender_set Tx.msg_receiver_get Tx.msg_receiver_set Tx.msg_seq_get Tx.msg_seq_set Tx.msg_token_get Tx.msg_token_set Tx.msg_amount_get Tx.msg_amount_set Tx.msg_size_get Tx.msg_size_set Tx.msg_payload_get Tx.msg_payload_set GOp.length_enc GOp.ok_enc GOp.all_get GOp.all_set GOp.kind_get GOp.kind_set GOp.tx_get GOp.tx_set GOp.txs_get GOp.txs_set GOp.gas_get GOp.gas_set GOp.acct_get GOp.acct_set GOp.token_get GOp.token_set GOp.chain_get GOp.chain_set GOp.seq_get GOp.seq_set GOp.tx_kind_get GOp.tx_kind_set GOp.tx_chain_get GOp.tx_chain_set GOp.tx_from__get GOp.tx_from__set GOp.tx_nonce_get GOp.tx_nonce_set GOp.tx_fee_get GOp.tx_fee_set GOp.tx_to__get GOp.tx_to__set GOp.tx_dest_get GOp.tx_dest_set GOp.tx_token_get GOp.tx_token_set GOp.tx_amount_get GOp.tx_amount_set GOp.tx_size_get GOp.tx_size_set GOp.tx_payload_get GOp.tx_payload_set GOp.tx_msg_get GOp.tx_msg_set GOp.tx_msg_kind_get GOp.tx_msg_kind_set GOp.tx_msg_from__get GOp.tx_msg_from__set GOp.tx_msg_to__get GOp.tx_msg_to__set GOp.tx_msg_sender_get GOp.tx_msg_sender_set GOp.tx_msg_receiver_get GOp.tx_msg_receiver_set GOp.tx_msg_seq_get GOp.tx_msg_seq_set GOp.tx_msg_token_get GOp.tx_msg_token_set GOp.tx_msg_amount_get GOp.tx_msg_amount_set GOp.tx_msg_size_get GOp.tx_msg_size_set GOp.tx_msg_payload_get GOp.tx_msg_payload_set Summary.length_enc Summary.ok_enc Summary.all_get Summary.all_set Summary.height_get Summary.height_set Summary.txs_get Summary.txs_set Summary.gas_get Summary.gas_set Summary.fees_get Summary.fees_set Summary.sent_get Summary.sent_set Summary.took_get Summary.took_set Summary.minted_get Summary.minted_set Summary.burned_get Summary.burned_set Summary.root_get Summary.root_set Detail.length_enc Detail.ok_enc Detail.all_get Detail.all_set Detail.code_get Detail.code_set Detail.have__get Detail.have__set Detail.need_get Detail.need_set Slot.length_enc Slot.ok_enc Slot.all_get Slot.all_set Slot.nonce_get Slot.nonce_set Slot.balances_get Slot.balances_set Tree.length_enc Tree.ok_enc Tree.all_get Tree.all_set Tree.leaves_get Tree.leaves_set Mark.length_enc Mark.ok_enc Mark.all_get Mark.all_set Mark.from__get Mark.from__set Mark.seq_get Mark.seq_set Receipt.length_enc Receipt.ok_enc Receipt.all_get Receipt.all_set Receipt.code_get Receipt.code_set Receipt.hash_get Receipt.hash_set Receipt.index_get Receipt.index_set Receipt.gas_get Receipt.gas_set Receipt.fee_get Receipt.fee_set Receipt.hasSent_get Receipt.hasSent_set Receipt.sent_get Receipt.sent_set Receipt.hasTook_get Receipt.hasTook_set Receipt.took_get Receipt.took_set Receipt.sent_kind_get Receipt.sent_kind_set Receipt.sent_from__get Receipt.sent_from__set Receipt.sent_to__get Receipt.sent_to__set Receipt.sent_sender_get Receipt.sent_sender_set Receipt.sent_receiver_get Receipt.sent_receiver_set Receipt.sent_seq_get Receipt.sent_seq_set Receipt.sent_token_get Receipt.sent_token_set Receipt.sent_amount_get Receipt.sent_amount_set Receipt.sent_size_get Receipt.sent_size_set Receipt.sent_payload_get Receipt.sent_payload_set Receipt.took_kind_get Receipt.took_kind_set Receipt.took_from__get Receipt.took_from__set Receipt.took_to__get Receipt.took_to__set Receipt.took_sender_get Receipt.took_sender_set Receipt.took_receiver_get Receipt.took_receiver_set Receipt.took_seq_get Receipt.took_seq_set Receipt.took_token_get Receipt.took_token_set Receipt.took_amount_get Receipt.took_amount_set Receipt.took_size_get Receipt.took_size_set Receipt.took_payload_get Receipt.took_payload_set Store.length_enc Store.ok_enc Store.all_get Store.all_set Store.now_get Store.now_set Store.saved_get Store.saved_set GState.length_enc GState.ok_enc GState.all_get GState.all_set GState.kv_get GState.kv_set GState.tree_get GState.tree_set GState.stale_get GState.stale_set GState.touched_get GState.touched_set GState.kv_now_get GState.kv_now_set GState.kv_saved_get GState.kv_saved_set GState.tree_leaves_get GState.tree_leaves_set History.length_enc History.ok_enc History.all_get History.all_set History.ring_get History.ring_set History.closed_get History.closed_set Ledger.length_enc Ledger.ok_enc Ledger.all_get Ledger.all_set Ledger.chain_get Ledger.chain_set Ledger.st_get Ledger.st_set Ledger.height_get Ledger.height_set Ledger.open__get Ledger.open__set Ledger.gasLimit_get Ledger.gasLimit_set Ledger.past_get Ledger.past_set Ledger.begun_get Ledger.begun_set Ledger.sent_get Ledger.sent_set Ledger.took_get Ledger.took_set Ledger.receipts_get Ledger.receipts_set Ledger.st_kv_get Ledger.st_kv_set Ledger.st_tree_get Ledger.st_tree_set Ledger.st_stale_get Ledger.st_stale_set Ledger.st_touched_get Ledger.st_touched_set Ledger.st_kv_now_get Ledger.st_kv_now_set Ledger.st_kv_saved_get Ledger.st_kv_saved_set Ledger.st_tree_leaves_get Ledger.st_tree_leaves_set Ledger.past_ring_get Ledger.past_ring_set Ledger.past_closed_get Ledger.past_closed_set Ledger.begun_kv_get Ledger.begun_kv_set Ledger.begun_tree_get Ledger.begun_tree_set Ledger.begun_stale_get Ledger.begun_stale_set Ledger.begun_touched_get Ledger.begun_touched_set Ledger.begun_kv_now_get Ledger.begun_kv_now_set Ledger.begun_kv_saved_get Ledger.begun_kv_saved_set Ledger.begun_tree_leaves_get Ledger.begun_tree_leaves_set Purse.length_enc Purse.ok_enc Purse.all_get Purse.all_set Purse.st_get Purse.st_set Purse.n_get Purse.n_set Purse.account_get Purse.account_set Purse.token_get Purse.token_set Purse.amount_get Purse.amount_set Plan.length_enc Plan.ok_enc Plan.all_get Plan.all_set Plan.purse_get Plan.purse_set Plan.nonce_get Plan.nonce_set Plan.gasUsed_get Plan.gasUsed_set Plan.fees_get Plan.fees_set Plan.hasSupply_get Plan.hasSupply_set Plan.token_get Plan.token_set Plan.supply_get Plan.supply_set Plan.flowAt_get Plan.flowAt_set Plan.flow_get Plan.flow_set Plan.receipt_get Plan.receipt_set Plan.purse_st_get Plan.purse_st_set Plan.purse_n_get Plan.purse_n_set Plan.purse_account_get Plan.purse_account_set Plan.purse_token_get Plan.purse_token_set Plan.purse_amount_get Plan.purse_amount_set Plan.receipt_code_get Plan.receipt_code_set Plan.receipt_hash_get Plan.receipt_hash_set Plan.receipt_index_get Plan.receipt_index_set Plan.receipt_gas_get Plan.receipt_gas_set Plan.receipt_fee_get Plan.receipt_fee_set Plan.receipt_hasSent_get Plan.receipt_hasSent_set Plan.receipt_sent_get Plan.receipt_sent_set Plan.receipt_hasTook_get Plan.receipt_hasTook_set Plan.receipt_took_get Plan.receipt_took_set Plan.receipt_sent_kind_get Plan.receipt_sent_kind_set Plan.receipt_sent_from__get Plan.receipt_sent_from__set Plan.receipt_sent_to__get Plan.receipt_sent_to__set Plan.receipt_sent_sender_get Plan.receipt_sent_sender_set Plan.receipt_sent_receiver_get Plan.receipt_sent_receiver_set Plan.receipt_sent_seq_get Plan.receipt_sent_seq_set Plan.receipt_sent_token_get Plan.receipt_sent_token_set Plan.receipt_sent_amount_get Plan.receipt_sent_amount_set Plan.receipt_sent_size_get Plan.receipt_sent_size_set Plan.receipt_sent_payload_get Plan.receipt_sent_payload_set Plan.receipt_took_kind_get Plan.receipt_took_kind_set Plan.receipt_took_from__get Plan.receipt_took_from__set Plan.receipt_took_to__get Plan.receipt_took_to__set Plan.receipt_took_sender_get Plan.receipt_took_sender_set Plan.receipt_took_receiver_get Plan.receipt_took_receiver_set Plan.receipt_took_seq_get Plan.receipt_took_seq_set Plan.receipt_took_token_get Plan.receipt_took_token_set Plan.receipt_took_amount_get Plan.receipt_took_amount_set Plan.receipt_took_size_get Plan.receipt_took_size_set Plan.receipt_took_payload_get Plan.receipt_took_payload_set Move.length_enc Move.ok_enc Move.all_get Move.all_set Move.account_get Move.account_set Move.token_get Move.token_set Move.down_get Move.down_set Move.amount_get Move.amount_set Books.length_enc Books.ok_enc Books.all_get Books.all_set Books.sums_get Books.sums_set Books.stored_get Books.stored_set Books.marks_get Books.marks_set Pair.length_enc Pair.ok_enc Pair.all_get Pair.all_set Pair.key_get Pair.key_set Pair.value_get Pair.value_set
attribute [local go_sem] size_put size_ext blk_put free_put blk_alloc free_alloc blk_drew free_drew blk_ext free_ext lookOr_some putOr_some segAt_some cellAt_some storeIn_some put_put put_alloc_new length_arr ok_arr_u8 ok_arr_u32 ok_arr_u64 ok_arr_i64 ok_arr_sl cellsV_agg cellsV_int cellsV_bool cellsV_string cellsV_pointer cellsV_slice cellsV_sl ok_int ok_bool ok_string ok_pointer ok_slice ok_sl toList_arr seg_arr set_arr nth_splice nth_splice0 seg_splice seg_splice0 splice_splice splice_splice0 length_splice_if
attribute [local go_sem ↓] execOp_box
attribute [local go_sem] box_run nth_arr_u8 put_arr_u8 blk_drewN free_drewN put_drewN blk_raw free_raw
theorem und41x : Tryz.prog.underlying 41 = some (.slice 40) := by kernel_rfl
theorem make41 (w : World) (n : Nat) (hn : n ≤ 1000000000) : (makeOp 41 (.int .i64 (n : Int)) (.int .i64 (n : Int))).run Tryz.prog w = .ok (.value (.slice (some ⟨w.heap.size, 0, none⟩) n n)) (w.alloc (.cells (madeCells Tx.zero.enc.toArray (n * 83)) 40)) := by
  obtain ⟨i, hi, hz, hsz, hby⟩ : ∃ i, Tryz.prog.info? 40 = some i ∧ i.zero = some (.agg Tx.zero.enc.toArray) ∧ i.size = 83 ∧ i.bytes ≤ 100000 := by
    have hq : (Tryz.prog.info? 40).map (fun i => (i.zero, i.size, decide (i.bytes ≤ 100000))) = some (some (.agg Tx.zero.enc.toArray), 83, true) := by kernel_rfl
    cases hx : Tryz.prog.info? 40 with
    | none => rw [hx] at hq; simp at hq
    | some i =>
      rw [hx] at hq
      simp only [Option.map_some, Option.some.injEq, Prod.mk.injEq, decide_eq_true_eq] at hq
      exact ⟨i, rfl, hq.1, hq.2.1, hq.2.2⟩
  have hb : (i.bytes : Int) * (n : Int) ≤ 281474976710656 := by
    have h1 : i.bytes * n ≤ 100000 * 1000000000 := Nat.mul_le_mul hby hn
    have h2 : ((i.bytes * n : Nat) : Int) = (i.bytes : Int) * (n : Int) := by simp
    omega
  have hr := run_make (P := Tryz.prog) w 41 40 i _ und41x hi hz .i64 .i64 n n (by omega) (Int.le_refl _) hb (by omega)
  unfold makeOp
  rw [Sem.run_bind, hr, hsz]
  rfl
attribute [local go_sem ↓] execOp_make
attribute [local go_sem] Tryz.al59
def rnuI (W : World) (bl be bo : Nat) (s : Sl) (L : PLg) (X : List Tx) (F : Nat → Value) (V : World) : Prop := F 0 = .pointer (some ⟨bl, 0, none⟩) ∧ F 1 = .slice s.a s.len s.cap ∧ F 5 = .slice (some ⟨bo, 0, none⟩) s.len s.len ∧ F 6 = .pointer (some ⟨be, 0, none⟩) ∧ ∃ i : Nat, F 7 = .int .i64 (i : Nat) ∧ Hid (i ≤ X.length ∧ ∃ (er : Vector UInt64 64) (C : List Value) (D : List Tx), BxI W [(be, arr u64v er), (bo, C)] V ∧ C.length = X.length * 83 ∧ D.length = i ∧ (∀ j y, D[j]? = some y → seg C (j * 83) 83 = y.enc) ∧ rnN (fun a => ldF L.st.now (keyN a)) X (Vector.replicate 64 0) = D ++ rnN (fun a => ldF L.st.now (keyN a)) (X.drop i) er)
theorem seg_rows {C : List Value} {n i : Nat} {D : List Tx} {y : Tx} (hC : C.length = n * 83) (hi : i < n) (hD : D.length = i) (h : ∀ j z, D[j]? = some z → seg C (j * 83) 83 = z.enc) : (splice C (i * 83) y.enc).length = n * 83 ∧ ∀ j z, (D ++ [y])[j]? = some z → seg (splice C (i * 83) y.enc) (j * 83) 83 = z.enc := by
  have hy : y.enc.length = 83 := Tx.length_enc y
  have hb : i * 83 + y.enc.length ≤ C.length := by
    rw [hy, hC]
    have : (i + 1) * 83 ≤ n * 83 := Nat.mul_le_mul_right _ hi
    omega
  refine ⟨by rw [length_splice _ _ _ hb]; exact hC, fun j z hz => ?_⟩
  by_cases hj : j < D.length
  · rw [List.getElem?_append_left hj] at hz
    rw [seg_off hb (.inl ?_)]
    · exact h j z hz
    · have : (j + 1) * 83 ≤ i * 83 := Nat.mul_le_mul_right _ (by omega)
      omega
  · rw [List.getElem?_append_right (by omega)] at hz
    have e : j - D.length = 0 := by
      rcases Nat.lt_or_ge (j - D.length) 1 with q | q
      · omega
      · rw [List.getElem?_eq_none (by simpa using q)] at hz; cases hz
    rw [e] at hz
    have ez : y = z := Option.some.inj hz
    have ej : j = i := by omega
    subst ez
    rw [ej, seg_splice0 hb (by omega), seg_all _ _ hy]
set_option maxRecDepth 100000 in
theorem frame51L (f : Nat → Value) : frameN 51 f = #[f 0, f 1, f 2, f 3, f 4, f 5, f 6, f 7, f 8, f 9, f 10, f 11, f 12, f 13, f 14, f 15, f 16, f 17, f 18, f 19, f 20, f 21, f 22, f 23, f 24, f 25, f 26, f 27, f 28, f 29, f 30, f 31, f 32, f 33, f 34, f 35, f 36, f 37, f 38, f 39, f 40, f 41, f 42, f 43, f 44, f 45, f 46, f 47, f 48, f 49, f 50] := by kernel_rfl
set_option maxRecDepth 20000 in
set_option maxHeartbeats 2000000 in
theorem renumber_any (O : Own) (W : World) (bl : Nat) (L : PLg) (s : Sl) (X : List Tx) (hL : LedA O W bl L) (hT : TxsIn W s X) (hX : X.length ≤ 1000000) : Calls Tryz.prog 73 #[.pointer (some ⟨bl, 0, none⟩), .slice s.a s.len s.cap] W fun e V => ∃ a n c, e = .returned (.slice a n c) ∧ W.Extends V ∧ TxsIn V ⟨a, n, c⟩ (rnF L X) := by
  obtain ⟨Q, hQ⟩ : ∃ Q : Ending → World → Prop, Q = fun e V => ∃ a n c, e = .returned (.slice a n c) ∧ W.Extends V ∧ TxsIn V ⟨a, n, c⟩ (rnF L X) := ⟨_, rfl⟩
  rw [← hQ]
  have HQ := hid_of hQ
  have hlen : X.length = s.len := hT.1
  have HR := hid_of hL.rd
  have HT := hid_of hT
  have HLN := hid_of hlen
  obtain ⟨sn, hsn⟩ : ∃ sn, sn = s.len := ⟨_, rfl⟩
  have hmk := fun w => make41 w sn (by rw [hsn, ← hlen]; omega)
  obtain ⟨MC, hMC⟩ : ∃ MC : List Value, MC.toArray = madeCells Tx.zero.enc.toArray (sn * 83) := ⟨(madeCells Tx.zero.enc.toArray (sn * 83)).toList, by simp⟩
  have HMC : Hid (MC.length = sn * 83) := by
    show MC.length = sn * 83
    have := congrArg Array.size hMC
    rw [size_madeCells] at this
    simpa using this
  rw [← hMC] at hmk
  have h1 := (BxI.start W).box MC 40
  obtain ⟨V1, hV1⟩ : ∃ V1 : World, V1 = W.alloc (.cells MC.toArray 40) := ⟨_, rfl⟩
  obtain ⟨bo, hbo⟩ : ∃ bo, bo = W.heap.size := ⟨_, rfl⟩
  rw [← hV1, ← hbo] at h1
  have h2 := h1.box (arr u64v (Vector.replicate 64 0)) 59
  obtain ⟨V2, hV2⟩ : ∃ V2 : World, V2 = V1.alloc (.cells (arr u64v ((Vector.replicate 64 0) : Vector UInt64 64)).toArray 59) := ⟨_, rfl⟩
  obtain ⟨be, hbe⟩ : ∃ be, be = V1.heap.size := ⟨_, rfl⟩
  have h2' : BxI W [(be, arr u64v (Vector.replicate 64 0)), (bo, MC)] V2 := by
    rw [hV2, hbe]
    exact h2
  have HI0 : Hid (0 ≤ X.length ∧ ∃ (er : Vector UInt64 64) (C : List Value) (D : List Tx), BxI W [(be, arr u64v er), (bo, C)] V2 ∧ C.length = X.length * 83 ∧ D.length = 0 ∧ (∀ j y, D[j]? = some y → seg C (j * 83) 83 = y.enc) ∧ rnN (fun a => ldF L.st.now (keyN a)) X (Vector.replicate 64 0) = D ++ rnN (fun a => ldF L.st.now (keyN a)) (X.drop 0) er) := ⟨Nat.zero_le _, _, MC, [], h2', by rw [HMC.out, hsn, hlen], rfl, fun j y hy => by simp at hy, rfl⟩
  have HNE : Hid (bo ≠ be) := by
    show bo ≠ be
    have := blk_lt (h1.at (b := bo) (C := MC) (by simp)).1
    omega
  have HV1 := hid_of hV1
  have HBO := hid_of hbo
  have HV2 := hid_of hV2
  have HBE := hid_of hbe
  have HSN := hid_of hsn
  rw [← hsn]
  clear hQ hL hT h1 h2 h2' hV1 hbo hV2 hbe hMC hlen hsn
  go_enter Tryz.func73, Tryz.ntmps73
  go_upto_region 2 with fail
  rw [← HV1.out, ← HBO.out]
  clear HV1 HBO
  go_upto_region 3 with fail
  rw [← HV2.out, ← HBE.out]
  clear HV2 HBE hmk
  go_wp2_with fail
  rw [HSN.out]
  refine wp_loop_f 51 (rnuI W bl be bo s L X) (fun f _ => X.length - (intOf (f 7)).toNat) rfl ⟨rfl, rfl, rfl, rfl, 0, rfl, HI0⟩ ?_
  clear HI0
  intro F V hrel
  obtain ⟨f0, f1, f5, f6, i, f7, HI⟩ := hrel
  have H7 := hid_of f7
  rw [frame51L, f0, f1, f5, f6, f7]
  clear f0 f1 f5 f6 f7
  obtain ⟨hil, er, C, D, hB, hC, hD, hseg, hrn⟩ := HI.out
  clear HI
  have hlen := HLN.out
  by_cases hin : i < s.len
  rotate_left 1
  · have hin' : ¬ (i : Int) < (s.len : Int) := by omega
    have HP : Hid (Q (.returned (.slice (some ⟨bo, 0, none⟩) s.len s.len)) V) := by
      show Q _ _
      rw [HQ.out]
      rw [List.drop_of_length_le (by omega)] at hrn
      have hrn' : rnF L X = D := by
        show rnN _ X _ = D
        rw [hrn]
        show D ++ [] = D
        rw [List.append_nil]
      refine ⟨_, _, _, rfl, hB.1, ?_, Nat.le_refl _, ?_, fun _ => ⟨bo, 0, C, rfl, (hB.at (b := bo) (C := C) (by simp)).1, ?_, fun j y hy => ?_⟩⟩
      · rw [hrn', hD]
        show i = s.len
        omega
      · show s.len ≤ maxLen
        unfold maxLen
        omega
      · show 0 + s.len * 83 ≤ C.length
        rw [hC, hlen]
        omega
      · rw [hrn'] at hy
        rw [Nat.zero_add]
        exact hseg j y hy
    clear hin hil hB hC hD hseg hrn HQ hlen
    go_wp2_with fail
    try (first | go_ret | go_ret2 | go_ret3 | go_end0)
    exact HP.out
  have hin' : (i : Int) < (s.len : Int) := by omega
  have p0 : (0 : Int) ≤ (i : Int) := by omega
  have p2 : ((i : Int)).toNat = i := by omega
  have hi9 : (i : Int) + 1 ≤ 1000001 := by omega
  obtain ⟨x, hx⟩ : ∃ x, X[i]? = some x := ⟨_, List.getElem?_eq_getElem (by omega)⟩
  obtain ⟨bt, ot, CT, ea, kt0, lt', st'⟩ := HT.out.2.2.2 (by omega)
  have kt : blk V bt = some CT := (hB.1.blk (blk_lt kt0)).trans kt0
  have hsg := st' i x hx
  have gt : ot + i * 83 + 83 ≤ CT.length := Nat.le_trans (by have : (i + 1) * 83 ≤ s.len * 83 := Nat.mul_le_mul_right _ hin; omega) lt'
  have hdr : X.drop i = x :: X.drop (i + 1) := by
    obtain ⟨g1, g2⟩ := List.getElem?_eq_some_iff.1 hx
    rw [List.drop_eq_getElem_cons g1, g2]
  rw [hdr] at hrn
  have go : i * 83 + 83 ≤ C.length := by
    rw [hC]
    have : (i + 1) * 83 ≤ X.length * 83 := Nat.mul_le_mul_right _ (by omega)
    omega
  have ko := (hB.at (b := bo) (C := C) (by simp)).1
  have fo := (hB.at (b := bo) (C := C) (by simp)).2
  have lx : x.enc.length = 83 := Tx.length_enc x
  have nf : nth CT (ot + i * 83 + 2) = some (.int .u8 (w8 x.from_)) := nth_in hsg (Tx.from__get x) (by omega)
  obtain ⟨C1, hC1⟩ : ∃ C1, C1 = splice C (i * 83) x.enc := ⟨_, rfl⟩
  obtain ⟨V3, hV3⟩ : ∃ V3 : World, V3 = put V bo C1 := ⟨_, rfl⟩
  have hbt : ¬ bt = bo := by
    have h1 := blk_lt kt0
    have h2 : W.heap.size ≤ bo := (hB.2 (bo, C) (by simp)).2.2
    omega
  have h3 : BxI W [(bo, C1), (be, arr u64v er)] V3 := by
    rw [hV3]
    exact (hB.sub (bs' := [(bo, C), (be, arr u64v er)]) (fun p hp => by simp only [List.mem_cons, List.not_mem_nil, or_false] at hp ⊢; rcases hp with rfl | rfl <;> simp)).put (fun p hp => by rw [List.mem_singleton] at hp; rw [hp]; exact HNE.out.symm)
  have kt3 : blk V3 bt = some CT := by rw [hV3, blk_put, if_neg hbt]; exact kt
  have HS1 := hid_of (seg_rows (y := x) hC (show i < X.length by omega) hD hseg)
  have HV3 := hid_of hV3
  have HC1 := hid_of hC1
  have HRN := hid_of hrn
  have HDD : Hid (C.length = X.length * 83 ∧ D.length = i ∧ ∀ j y, D[j]? = some y → seg C (j * 83) 83 = y.enc) := ⟨hC, hD, hseg⟩
  have HIN : Hid (i < X.length) := by show i < X.length; omega
  rw [ea]
  clear hB hC hD hseg hrn hx st' lt' hdr kt0 hil hin hV3 hC1
  go_upto_region 7 with fail
  rw [← HC1.out, ← HV3.out]
  clear HV3 kt hsg ko fo
  by_cases hf : 64 ≤ w8 x.from_
  · have HJ : Hid (i + 1 ≤ X.length ∧ ∃ (er : Vector UInt64 64) (C : List Value) (D : List Tx), BxI W [(be, arr u64v er), (bo, C)] V3 ∧ C.length = X.length * 83 ∧ D.length = i + 1 ∧ (∀ j y, D[j]? = some y → seg C (j * 83) 83 = y.enc) ∧ rnN (fun a => ldF L.st.now (keyN a)) X (Vector.replicate 64 0) = D ++ rnN (fun a => ldF L.st.now (keyN a)) (X.drop (i + 1)) er) := by
      refine ⟨HIN.out, er, C1, D ++ [x], h3.sub (fun p hp => by simp only [List.mem_cons, List.not_mem_nil, or_false] at hp ⊢; rcases hp with rfl | rfl <;> simp), by rw [HC1.out]; exact HS1.out.1, by rw [List.length_append, HDD.out.2.1]; rfl, by rw [HC1.out]; exact HS1.out.2, ?_⟩
      rw [HRN.out]
      show D ++ (if 64 ≤ x.from_.toNat then _ else _) = _
      rw [if_pos (by unfold w8 at hf; omega), List.append_assoc]
      rfl
    clear h3 HQ
    go_wp2_with fail
    refine ⟨rfl, rfl, ⟨rfl, by show Value.slice (some ⟨bt, ot, none⟩) s.len s.cap = _; rw [ea], rfl, rfl, i + 1, rfl, HJ⟩, ?_⟩
    show X.length - ((i : Int) + 1).toNat < X.length - (intOf (F 7)).toNat
    rw [H7.out]
    show X.length - (i + 1) < X.length - i
    have := HIN.out
    omega
  have hfr : x.from_.toNat < 64 := by unfold w8 at hf; omega
  have h4 := h3.ext (extends_drewN (ext_Ext (Ext.refl V3)) 1)
  have ke4 := (h4.at (b := be) (C := arr u64v er) (by simp)).1
  have ko4 := (h4.at (b := bo) (C := C1) (by simp)).1
  have hno := nonce_any V3.drew bl 1 L.st.now (HR.out.ext h4.1) x.from_
  obtain ⟨nn, hnn⟩ : ∃ nn, nn = ldF L.st.now (keyN x.from_) := ⟨_, rfl⟩
  rw [← hnn] at hno
  have HNN := hid_of hnn
  obtain ⟨fa, hfa⟩ : ∃ fa : Nat, fa = x.from_.toNat := ⟨_, rfl⟩
  have hfi : w8 x.from_ = (fa : Int) := by rw [hfa]; rfl
  have hf64 : fa < 64 := by rw [hfa]; exact hfr
  obtain ⟨ev, hev⟩ : ∃ ev, ev = erA er x.from_ := ⟨_, rfl⟩
  have HEV := hid_of hev
  have nfa : nth (arr u64v er) fa = some (.int .u64 (w64 ev)) := by
    rw [nth_arr_u64 er hf64]
    congr 2
    rw [hev, ← erA_at er hfr]
    congr 1
    subst hfa
    rfl
  have pfa : splice (arr u64v er) fa [.int .u64 (w64 (ev + 1))] = arr u64v (erS er x.from_) := by
    rw [put_arr_u64 er (ev + 1) hf64, hev, ← erS_set er hfr]
    congr 1
    subst hfa
    rfl
  have lea : (arr u64v er).length = 64 := length_arr _ _
  have hf0 : (0 : Int) ≤ (fa : Int) := by omega
  have hf6 : (fa : Int) < 64 := by omega
  have hf6' : ¬ (64 : Int) ≤ (fa : Int) := by omega
  have hadd : IntKind.u64.wrap (w64 nn + w64 ev) = w64 (nn + ev) := x64_add nn ev
  obtain ⟨wt, hwt⟩ : ∃ wt, wt = nn + ev := ⟨_, rfl⟩
  rw [← hwt] at hadd
  have HWT := hid_of hwt
  have hinc : IntKind.u64.wrap (w64 ev + 1) = w64 (ev + 1) := x64_add ev 1
  have lC1 : i * 83 + 83 ≤ C1.length := by rw [HC1.out, length_splice _ _ _ (by rw [lx]; exact go)]; exact go
  have lC3 : i * 83 + 3 + 1 ≤ C1.length := by omega
  obtain ⟨x2, hx2⟩ : ∃ x2 : Tx, x2 = { x with nonce := wt } := ⟨_, rfl⟩
  obtain ⟨C2, hC2⟩ : ∃ C2, C2 = splice C (i * 83) x2.enc := ⟨_, rfl⟩
  have hsp : splice C1 (i * 83 + 3) [.int .u64 (w64 wt)] = C2 := by
    rw [HC1.out, splice_splice (by rw [lx]; exact go) (by rw [lx]; show 3 + 1 ≤ 83; omega), Tx.nonce_set, hC2, hx2]
  have HS2 := hid_of (seg_rows (y := x2) HDD.out.1 HIN.out HDD.out.2.1 HDD.out.2.2)
  have HC2 := hid_of hC2
  have HX2 := hid_of hx2
  have HFR := hid_of hfr
  rw [hfi] at hno nf
  have H4 := hid_of h4
  clear hnn hev hwt hx2 hC2 h3 hf hfr
  have HFA := hid_of hfa
  clear hfa
  go_upto_region 9 with fail
  repeat go_step
  refine wp_region_F 13 (fun W' => blk W' be = some (arr u64v er)) (by kernel_rfl) ke4 (fun hHeld => ?_)
  refine wpAnyF_take (i := 0) (oi := ⟨_, _, _, _, _, _⟩) (v := ?_) rfl (by kernel_rfl) (by kernel_rfl) (by kernel_rfl) (by kernel_rfl) (by kernel_rfl) (fun _ _ _ h => h) (Or.inl ⟨by rfl, ?_⟩) (by assumption) ?_
  rotate_left 1
  · intro W' hSw
    go_simp
    try with_reducible rfl
  try simp only [Act.put, List.setIfInBounds_toArray, List.set_cons_zero, List.set_cons_succ]
  refine wpAnyF_take (i := 1) (oi := ⟨_, _, _, _, _, _⟩) (v := ?_) rfl (by kernel_rfl) (by kernel_rfl) (by kernel_rfl) (by kernel_rfl) (by kernel_rfl) (fun _ _ _ h => h) (Or.inl ⟨by rfl, ?_⟩) (by assumption) ?_
  rotate_left 1
  · intro W' hSw
    go_simp
    try with_reducible rfl
  try simp only [Act.put, List.setIfInBounds_toArray, List.set_cons_zero, List.set_cons_succ]
  refine wpAnyF_take (i := 2) (oi := ⟨_, _, _, _, _, _⟩) (v := ?_) rfl (by kernel_rfl) (by kernel_rfl) (by kernel_rfl) (by kernel_rfl) (by kernel_rfl) (fun _ _ _ h => h) (Or.inl ⟨by rfl, ?_⟩) (by assumption) ?_
  rotate_left 1
  · intro W' hSw
    go_simp
    try with_reducible rfl
  try simp only [Act.put, List.setIfInBounds_toArray, List.set_cons_zero, List.set_cons_succ]
  refine wpAnyF_take (i := 3) (oi := ⟨_, _, _, _, _, _⟩) (v := ?_) rfl (by kernel_rfl) (by kernel_rfl) (by kernel_rfl) (by kernel_rfl) (by kernel_rfl) (fun _ _ _ h => h) (Or.inl ⟨by rfl, ?_⟩) (by assumption) ?_
  rotate_left 1
  · intro W' hSw
    go_simp
    try with_reducible rfl
  try simp only [Act.put, List.setIfInBounds_toArray, List.set_cons_zero, List.set_cons_succ]
  refine wpAnyF_take (i := 4) (oi := ⟨_, _, _, _, _, _⟩) (v := ?_) rfl (by kernel_rfl) (by kernel_rfl) (by kernel_rfl) (by kernel_rfl) (by kernel_rfl) (fun _ _ _ h => h) (Or.inl ⟨by rfl, ?_⟩) (by assumption) ?_
  rotate_left 1
  · intro W' hSw
    go_simp
    try with_reducible rfl
  try simp only [Act.put, List.setIfInBounds_toArray, List.set_cons_zero, List.set_cons_succ]
  refine wpAnyF_take (i := 5) (oi := ⟨_, _, _, _, _, _⟩) (v := ?_) rfl (by kernel_rfl) (by kernel_rfl) (by kernel_rfl) (by kernel_rfl) (by kernel_rfl) (fun _ _ _ h => h) (Or.inl ⟨by rfl, ?_⟩) (by assumption) ?_
  rotate_left 1
  · intro W' hSw
    go_simp
    try with_reducible rfl
  try simp only [Act.put, List.setIfInBounds_toArray, List.set_cons_zero, List.set_cons_succ]
  refine wpAnyF_take (i := 7) (oi := ⟨_, _, _, _, _, _⟩) (v := ?_) rfl (by kernel_rfl) (by kernel_rfl) (by kernel_rfl) (by kernel_rfl) (by kernel_rfl) (fun _ _ _ h => h) (Or.inl ⟨by rfl, ?_⟩) (by assumption) ?_
  rotate_left 1
  · intro W' hSw
    go_simp
    try with_reducible rfl
  try simp only [Act.put, List.setIfInBounds_toArray, List.set_cons_zero, List.set_cons_succ]
  refine wpAnyF_take (i := 8) (oi := ⟨_, _, _, _, _, _⟩) (v := ?_) rfl (by kernel_rfl) (by kernel_rfl) (by kernel_rfl) (by kernel_rfl) (by kernel_rfl) (fun _ _ _ h => h) (Or.inl ⟨by rfl, ?_⟩) (by assumption) ?_
  rotate_left 1
  · intro W' hSw
    go_simp
    try with_reducible rfl
  try simp only [Act.put, List.setIfInBounds_toArray, List.set_cons_zero, List.set_cons_succ]
  refine wpAnyF_take (i := 9) (oi := ⟨_, _, _, _, _, _⟩) (v := ?_) rfl (by kernel_rfl) (by kernel_rfl) (by kernel_rfl) (by kernel_rfl) (by kernel_rfl) (fun _ _ _ h => h) (Or.inl ⟨by rfl, ?_⟩) (by assumption) ?_
  rotate_left 1
  · intro W' hSw
    go_simp
    try with_reducible rfl
  try simp only [Act.put, List.setIfInBounds_toArray, List.set_cons_zero, List.set_cons_succ]
  refine wpAnyF_one (o := ⟨_, _, _, _, _, _⟩) (i := 6) (by kernel_rfl) rfl rfl (fun K' hK => ?_)
  go_simp
  refine hno.mono ?_
  clear hno
  rintro e V5 ⟨rfl, hx5⟩
  dsimp only
  have h5 := H4.out.ext hx5
  have ke5 := (h5.at (b := be) (C := arr u64v er) (by simp)).1
  have fe5 := (h5.at (b := be) (C := arr u64v er) (by simp)).2
  have ko5 := (h5.at (b := bo) (C := C1) (by simp)).1
  have fo5 := (h5.at (b := bo) (C := C1) (by simp)).2
  refine hK.out _ _ ke5 (fun hHeld => ?_)
  clear hK K'
  try simp only [Act.put, List.setIfInBounds_toArray, List.set_cons_zero, List.set_cons_succ]
  refine wpAnyF_take (i := 10) (oi := ⟨_, _, _, _, _, _⟩) (v := ?_) rfl (by kernel_rfl) (by kernel_rfl) (by kernel_rfl) (by kernel_rfl) (by kernel_rfl) (fun _ _ _ h => h) (Or.inl ⟨by rfl, ?_⟩) (by assumption) ?_
  rotate_left 1
  · intro W' hSw
    go_simp
    try with_reducible rfl
  try simp only [Act.put, List.setIfInBounds_toArray, List.set_cons_zero, List.set_cons_succ]
  refine wpAnyF_take (i := 11) (oi := ⟨_, _, _, _, _, _⟩) (v := ?_) rfl (by kernel_rfl) (by kernel_rfl) (by kernel_rfl) (by kernel_rfl) (by kernel_rfl) (fun _ _ _ h => h) (Or.inl ⟨by rfl, ?_⟩) (by assumption) ?_
  rotate_left 1
  · intro W' hSw
    go_simp
    try with_reducible rfl
  try simp only [Act.put, List.setIfInBounds_toArray, List.set_cons_zero, List.set_cons_succ]
  refine wpAnyF_take (i := 12) (oi := ⟨_, _, _, _, _, _⟩) (v := ?_) rfl (by kernel_rfl) (by kernel_rfl) (by kernel_rfl) (by kernel_rfl) (by kernel_rfl) (fun _ _ _ h => h) (Or.inl ⟨by rfl, ?_⟩) (by assumption) ?_
  rotate_left 1
  · intro W' hSw
    go_simp
    try with_reducible rfl
  try simp only [Act.put, List.setIfInBounds_toArray, List.set_cons_zero, List.set_cons_succ]
  refine wpAnyF_last (o := ⟨_, _, _, _, _, _⟩) (by kernel_rfl) rfl (fun K' hK => ?_)
  go_simp
  refine hK.out _ _ ?_
  clear hK K'
  try simp only [Act.put, List.setIfInBounds_toArray, List.set_cons_zero, List.set_cons_succ]
  refine wpAnyF_done (by kernel_rfl) ?_ _
  clear hHeld ke4 ko4 hx5 H4
  obtain ⟨V6, hV6⟩ : ∃ V6 : World, V6 = put V5 bo C2 := ⟨_, rfl⟩
  have h6 : BxI W [(be, arr u64v er), (bo, C2)] V6 := by
    rw [hV6]
    exact (h5.put (fun p hp => by rw [List.mem_singleton] at hp; rw [hp]; exact HNE.out.symm)).sub (fun p hp => by simp only [List.mem_cons, List.not_mem_nil, or_false] at hp ⊢; rcases hp with rfl | rfl <;> simp)
  have ke6 := (h6.at (b := be) (C := arr u64v er) (by simp)).1
  have fe6 := (h6.at (b := be) (C := arr u64v er) (by simp)).2
  have HJ : Hid (i + 1 ≤ X.length ∧ ∃ (er' : Vector UInt64 64) (C : List Value) (D : List Tx), BxI W [(be, arr u64v er'), (bo, C)] (put V6 be (arr u64v (erS er x.from_))) ∧ C.length = X.length * 83 ∧ D.length = i + 1 ∧ (∀ j y, D[j]? = some y → seg C (j * 83) 83 = y.enc) ∧ rnN (fun a => ldF L.st.now (keyN a)) X (Vector.replicate 64 0) = D ++ rnN (fun a => ldF L.st.now (keyN a)) (X.drop (i + 1)) er') := by
    refine ⟨HIN.out, erS er x.from_, C2, D ++ [x2], h6.put (fun p hp => by rw [List.mem_singleton] at hp; rw [hp]; exact HNE.out), by rw [HC2.out]; exact HS2.out.1, by rw [List.length_append, HDD.out.2.1]; rfl, by rw [HC2.out]; exact HS2.out.2, ?_⟩
    rw [HRN.out]
    show D ++ (if 64 ≤ x.from_.toNat then _ else _) = _
    have := HFR.out
    rw [if_neg (by omega), List.append_assoc, HX2.out, HWT.out, HNN.out, HEV.out]
    rfl
  have HV6 := hid_of hV6
  clear h5 h6 hV6 HQ ke5 fe5 ko5 fo5
  rw [← HV6.out]
  clear HV6
  go_wp2_with fail
  refine ⟨rfl, rfl, ⟨rfl, by show Value.slice (some ⟨bt, ot, none⟩) s.len s.cap = _; rw [ea], rfl, rfl, i + 1, rfl, HJ⟩, ?_⟩
  show s.len - ((i : Int) + 1).toNat < s.len - (intOf (F 7)).toNat
  rw [H7.out]
  show s.len - (i + 1) < s.len - i
  have := HIN.out
  omega
end Go.Proofs.Qxb6500786aGreat
