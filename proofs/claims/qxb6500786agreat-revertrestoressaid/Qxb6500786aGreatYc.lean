import Derived.DeepKeys2
import Derived.Test.Qxb6500786aGreatYb
import Derived.Test.Qxb6500786aGreatNn
import Derived.Test.Qxb6500786aGreatNj

import Derived.StillTailTactics
import Derived.Deep.QuietTactic
import Derived.BigQuiet
import Derived.Deep.RegionHeld
import Derived.Deep.CutRange
import Derived.Laws.ResultCell
import Derived.Laws.Rows
import Derived.DeepKeys
import Derived.DataBytes
import Derived.Laws.StructEq
import Derived.Laws.AppendOwn
import Derived.Laws.MakeOwn
import Derived.Lib.AppendStr
set_option linter.unusedSimpArgs false
set_option linter.unusedVariables false
namespace Go.Proofs.Qxb6500786aGreat
open Go.RowKit Go.Blk
attribute [local go_sem ↓] execOp_load execOp_store execOp_alloc
attribute [local go_sem] Tryz.ld24 Tryz.st24 Tryz.ld36 Tryz.st36 Tryz.ld28 Tryz.st28 Tryz.ld32 Tryz.st32 Tryz.ld33 Tryz.st33 Tryz.ld34 Tryz.st34 Tryz.ld5 Tryz.st5 Tryz.ld31 Tryz.st31 Tryz.ld30 Tryz.st30 Tryz.ld41 Tryz.st41 Tryz.ld44 Tryz.st44 Tryz.ld4 Tryz.st4 Tryz.ld173 Tryz.st173 Tryz.ld174 Tryz.st174 Tryz.ld95 Tryz.st95 Tryz.ld45 Tryz.st45 Tryz.ld207 Tryz.st207 Tryz.ld3 Tryz.st3 Tryz.ld189 Tryz.st189 Tryz.ld2 Tryz.st2 Tryz.ld9 Tryz.st9 Tryz.ld12 Tryz.st12 Tryz.ld21 Tryz.st21 Tryz.ld22 Tryz.st22 Tryz.ld46 Tryz.st46 Tryz.ld92 Tryz.st92 Tryz.ld94 Tryz.st94 Tryz.ld96 Tryz.st96 Tryz.ld97 Tryz.st97 Tryz.ld105 Tryz.st105 Tryz.ld117 Tryz.st117 Tryz.ld122 Tryz.st122 Tryz.ld123 Tryz.st123 Tryz.ld133 Tryz.st133 Tryz.ld155 Tryz.st155 Tryz.ld163 Tryz.st163 Tryz.ld190 Tryz.st190 Tryz.ld197 Tryz.st197 Tryz.ld201 Tryz.st201 Tryz.ld202 Tryz.st202 Tryz.ld209 Tryz.st209 Tryz.ld216 Tryz.st216 Tryz.ld230 Tryz.st230 Tryz.ld238 Tryz.st238 Tryz.ld242 Tryz.st242 Tryz.ld251 Tryz.st251 Tryz.ld260 Tryz.st260 Tryz.ld286 Tryz.st286 Tryz.ld292 Tryz.st292 Tryz.ld298 Tryz.st298 Tryz.ld309 Tryz.st309 Tryz.ld35 Tryz.st35 Tryz.ld48 Tryz.st48 Tryz.ld47 Tryz.st47 Tryz.ld79 Tryz.st79 Tryz.ld177 Tryz.st177 Tryz.ld180 Tryz.st180 Tryz.ld231 Tryz.st231 Tryz.ld232 Tryz.st232 Tryz.ld26 Tryz.st26 Tryz.ld38 Tryz.st38 Tryz.ld40 Tryz.st40 Tryz.ld43 Tryz.st43 Tryz.ld50 Tryz.st50 Tryz.ld52 Tryz.st52 Tryz.ld54 Tryz.st54 Tryz.ld81 Tryz.st81 Tryz.ld112 Tryz.st112 Tryz.ld120 Tryz.st120 Tryz.ld176 Tryz.st176 Tryz.ld179 Tryz.st179 Tryz.ld182 Tryz.st182 Tryz.ld184 Tryz.st184 Tryz.ld234 Tryz.st234 Tryz.ld236 Tryz.st236 Tryz.ld240 Tryz.st240 Tryz.ld246 Tryz.st246 Tryz.ld249 Tryz.st249 Tryz.al35 Tryz.al48 Tryz.al47 Tryz.al79 Tryz.al177 Tryz.al180 Tryz.al231 Tryz.al232 Tryz.al26 Tryz.al38 Tryz.al40 Tryz.al43 Tryz.al50 Tryz.al52 Tryz.al54 Tryz.al81 Tryz.al112 Tryz.al120 Tryz.al176 Tryz.al179 Tryz.al182 Tryz.al184 Tryz.al234 Tryz.al236 Tryz.al240 Tryz.al246 Tryz.al249
attribute [local go_sem] Player.length_enc Player.ok_enc Player.all_get Player.all_set Player.hand_get Player.hand_set Player.aside_get Player.aside_set Message.length_enc Message.ok_enc Message.all_get Message.all_set Message.kind_get Message.kind_set Message.from__get Message.from__set Message.to__get Message.to__set Message.sender_get Message.sender_set Message.receiver_get Message.receiver_set Message.seq_get Message.seq_set Message.token_get Message.token_set Message.amount_get Message.amount_set Message.size_get Message.size_set Message.payload_get Message.payload_set Tx.length_enc Tx.ok_enc Tx.all_get Tx.all_set Tx.kind_get Tx.kind_set Tx.chain_get Tx.chain_set Tx.from__get Tx.from__set Tx.nonce_get Tx.nonce_set Tx.fee_get Tx.fee_set Tx.to__get Tx.to__set Tx.dest_get Tx.dest_set Tx.token_get Tx.token_set Tx.amount_get Tx.amount_set Tx.size_get Tx.size_set Tx.payload_get Tx.payload_set Tx.msg_get Tx.msg_set Tx.msg_kind_get Tx.msg_kind_set Tx.msg_from__get Tx.msg_from__set Tx.msg_to__get Tx.msg_to__set Tx.msg_sender_get Tx.msg_sender_set Tx.msg_receiver_get Tx.msg_receiver_set Tx.msg_seq_get Tx.msg_seq_set Tx.msg_token_get Tx.msg_token_set Tx.msg_amount_get Tx.msg_amount_set Tx.msg_size_get Tx.msg_size_set Tx.msg_payload_get Tx.msg_payload_set GOp.length_enc GOp.ok_enc GOp.all_get GOp.all_set GOp.kind_get GOp.kind_set GOp.tx_get GOp.tx_set GOp.txs_get GOp.txs_set GOp.gas_get GOp.gas_set GOp.acct_get GOp.acct_set GOp.token_get GOp.token_set GOp.chain_get GOp.chain_set GOp.seq_get GOp.seq_set GOp.tx_kind_get GOp.tx_kind_set GOp.tx_chain_get GOp.tx_chain_set GOp.tx_from__get GOp.tx_from__set GOp.tx_nonce_get GOp.tx_nonce_set GOp.tx_fee_get GOp.tx_fee_set GOp.tx_to__get GOp.tx_to__set GOp.tx_dest_get GOp.tx_dest_set GOp.tx_token_get GOp.tx_token_set GOp.tx_amount_get GOp.tx_amount_set GOp.tx_size_get GOp.tx_size_set GOp.tx_payload_get GOp.tx_payload_set GOp.tx_msg_get GOp.tx_msg_set GOp.tx_msg_kind_get GOp.tx_msg_kind_set GOp.tx_msg_from__get GOp.tx_msg_from__set GOp.tx_msg_to__get GOp.tx_msg_to__set GOp.tx_msg_sender_get GOp.tx_msg_sender_set GOp.tx_msg_receiver_get GOp.tx_msg_receiver_set GOp.tx_msg_seq_get GOp.tx_msg_seq_set GOp.tx_msg_token_get GOp.tx_msg_token_set GOp.tx_msg_amount_get GOp.tx_msg_amount_set GOp.tx_msg_size_get GOp.tx_msg_size_set GOp.tx_msg_payload_get GOp.tx_msg_payload_set Summary.length_enc Summary.ok_enc Summary.all_get Summary.all_set Summary.height_get Summary.height_set Summary.txs_get Summary.txs_set Summary.gas_get Summary.gas_set Summary.fees_get Summary.fees_set Summary.sent_get Summary.sent_set Summary.took_get Summary.took_set Summary.minted_get Summary.minted_set Summary.burned_get Summary.burned_set Summary.root_get Summary.root_set Detail.length_enc Detail.ok_enc Detail.all_get Detail.all_set Detail.code_get Detail.code_set Detail.have__get Detail.have__set Detail.need_get Detail.need_set Slot.length_enc Slot.ok_enc Slot.all_get Slot.all_set Slot.nonce_get Slot.nonce_set Slot.balances_get Slot.balances_set Tree.length_enc Tree.ok_enc Tree.all_get Tree.all_set Tree.leaves_get Tree.leaves_set Mark.length_enc Mark.ok_enc Mark.all_get Mark.all_set Mark.from__get Mark.from__set Mark.seq_get Mark.seq_set Receipt.length_enc Receipt.ok_enc Receipt.all_get Receipt.all_set Receipt.code_get Receipt.code_set Receipt.hash_get Receipt.hash_set Receipt.index_get Receipt.index_set Receipt.gas_get Receipt.gas_set Receipt.fee_get Receipt.fee_set Receipt.hasSent_get Receipt.hasSent_set Receipt.sent_get Receipt.sent_set Receipt.hasTook_get Receipt.hasTook_set Receipt.took_get Receipt.took_set Receipt.sent_kind_get Receipt.sent_kind_set Receipt.sent_from__get Receipt.sent_from__set Receipt.sent_to__get Receipt.sent_to__set Receipt.sent_sender_get Receipt.sent_sender_set Receipt.sent_receiver_get Receipt.sent_receiver_set Receipt.sent_seq_get Receipt.sent_seq_set Receipt.sent_token_get Receipt.sent_token_set Receipt.sent_amount_get Receipt.sent_amount_set Receipt.sent_size_get Receipt.sent_size_set Receipt.sent_payload_get Receipt.sent_payload_set Receipt.took_kind_get Receipt.took_kind_set Receipt.took_from__get Receipt.took_from__set Receipt.took_to__get Receipt.took_to__set Receipt.took_sender_get Receipt.took_sender_set Receipt.took_receiver_get Receipt.took_receiver_set Receipt.took_seq_get Receipt.took_seq_set Receipt.took_token_get Receipt.took_token_set Receipt.took_amount_get Receipt.took_amount_set Receipt.took_size_get Receipt.took_size_set Receipt.took_payload_get Receipt.took_payload_set Store.length_enc Store.ok_enc Store.all_get Store.all_set Store.now_get Store.now_set Store.saved_get Store.saved_set GState.length_enc GState.ok_enc GState.all_get GState.all_set GState.kv_get GState.kv_set GState.tree_get GState.tree_set GState.stale_get GState.stale_set GState.touched_get GState.touched_set GState.kv_now_get GState.kv_now_set GState.kv_saved_get GState.kv_saved_set GState.tree_leaves_get GState.tree_leaves_set History.length_enc History.ok_enc History.all_get History.all_set History.ring_get History.ring_set History.closed_get History.closed_set Ledger.length_enc Ledger.ok_enc Ledger.all_get Ledger.all_set Ledger.chain_get Ledger.chain_set Ledger.st_get Ledger.st_set Ledger.height_get Ledger.height_set Ledger.open__get Ledger.open__set Ledger.gasLimit_get Ledger.gasLimit_set Ledger.past_get Ledger.past_set Ledger.begun_get Ledger.begun_set Ledger.sent_get Ledger.sent_set Ledger.took_get Ledger.took_set Ledger.receipts_get Ledger.receipts_set Ledger.st_kv_get Ledger.st_kv_set Ledger.st_tree_get Ledger.st_tree_set Ledger.st_stale_get Ledger.st_stale_set Ledger.st_touched_get Ledger.st_touched_set Ledger.st_kv_now_get Ledger.st_kv_now_set Ledger.st_kv_saved_get Ledger.st_kv_saved_set Ledger.st_tree_leaves_get Ledger.st_tree_leaves_set Ledger.past_ring_get Ledger.past_ring_set Ledger.past_closed_get Ledger.past_closed_set Ledger.begun_kv_get Ledger.begun_kv_set Ledger.begun_tree_get Ledger.begun_tree_set Ledger.begun_stale_get Ledger.begun_stale_set Ledger.begun_touched_get Ledger.begun_touched_set Ledger.begun_kv_now_get Ledger.begun_kv_now_set Ledger.begun_kv_saved_get Ledger.begun_kv_saved_set Ledger.begun_tree_leaves_get Ledger.begun_tree_leaves_set Purse.length_enc Purse.ok_enc Purse.all_get Purse.all_set Purse.st_get Purse.st_set Purse.n_get Purse.n_set Purse.account_get Purse.account_set Purse.token_get Purse.token_set Purse.amount_get Purse.amount_set Plan.length_enc Plan.ok_enc Plan.all_get Plan.all_set Plan.purse_get Plan.purse_set Plan.nonce_get Plan.nonce_set Plan.gasUsed_get Plan.gasUsed_set Plan.fees_get Plan.fees_set Plan.hasSupply_get Plan.hasSupply_set Plan.token_get Plan.token_set Plan.supply_get Plan.supply_set Plan.flowAt_get Plan.flowAt_set Plan.flow_get Plan.flow_set Plan.receipt_get Plan.receipt_set Plan.purse_st_get Plan.purse_st_set Plan.purse_n_get Plan.purse_n_set Plan.purse_account_get Plan.purse_account_set Plan.purse_token_get Plan.purse_token_set Plan.purse_amount_get Plan.purse_amount_set Plan.receipt_code_get Plan.receipt_code_set Plan.receipt_hash_get Plan.receipt_hash_set Plan.receipt_index_get Plan.receipt_index_set Plan.receipt_gas_get Plan.receipt_gas_set Plan.receipt_fee_get Plan.receipt_fee_set Plan.receipt_hasSent_get Plan.receipt_hasSent_set Plan.receipt_sent_get Plan.receipt_sent_set Plan.receipt_hasTook_get Plan.receipt_hasTook_set Plan.receipt_took_get Plan.receipt_took_set Plan.receipt_sent_kind_get Plan.receipt_sent_kind_set Plan.receipt_sent_from__get Plan.receipt_sent_from__set Plan.receipt_sent_to__get Plan.receipt_sent_to__set Plan.receipt_sent_sender_get Plan.receipt_sent_sender_set Plan.receipt_sent_receiver_get Plan.receipt_sent_receiver_set Plan.receipt_sent_seq_get Plan.receipt_sent_seq_set Plan.receipt_sent_token_get Plan.receipt_sent_token_set Plan.receipt_sent_amount_get Plan.receipt_sent_amount_set Plan.receipt_sent_size_get Plan.receipt_sent_size_set Plan.receipt_sent_payload_get Plan.receipt_sent_payload_set Plan.receipt_took_kind_get Plan.receipt_took_kind_set Plan.receipt_took_from__get Plan.receipt_took_from__set Plan.receipt_took_to__get Plan.receipt_took_to__set Plan.receipt_took_sender_get Plan.receipt_took_sender_set Plan.receipt_took_receiver_get Plan.receipt_took_receiver_set Plan.receipt_took_seq_get Plan.receipt_took_seq_set Plan.receipt_took_token_get Plan.receipt_took_token_set Plan.receipt_took_amount_get Plan.receipt_took_amount_set Plan.receipt_took_size_get Plan.receipt_took_size_set Plan.receipt_took_payload_get Plan.receipt_took_payload_set Move.length_enc Move.ok_enc Move.all_get Move.all_set Move.account_get Move.account_set Move.token_get Move.token_set Move.down_get Move.down_set Move.amount_get Move.amount_set Books.length_enc Books.ok_enc Books.all_get Books.all_set Books.sums_get Books.sums_set Books.stored_get Books.stored_set Books.marks_get Books.marks_set Pair.length_enc Pair.ok_enc Pair.all_get Pair.all_set Pair.key_get Pair.key_set Pair.value_get Pair.value_set
attribute [local go_sem] size_put size_ext blk_put free_put blk_alloc free_alloc blk_drew free_drew blk_ext free_ext lookOr_some putOr_some segAt_some cellAt_some storeIn_some put_put put_alloc_new length_arr ok_arr_u8 ok_arr_u32 ok_arr_u64 ok_arr_i64 ok_arr_sl cellsV_agg cellsV_int cellsV_bool cellsV_string cellsV_pointer cellsV_slice cellsV_sl ok_int ok_bool ok_string ok_pointer ok_slice ok_sl toList_arr seg_arr set_arr nth_splice nth_splice0 seg_splice seg_splice0 splice_splice splice_splice0 length_splice_if
attribute [local go_sem ↓] execOp_box
attribute [local go_sem] box_run nth_arr_u8 put_arr_u8 blk_drewN free_drewN put_drewN blk_raw free_raw
theorem Tryz.al59 (w : World) : (allocOp 59).run Tryz.prog w = .ok (.value (.pointer (some ⟨w.heap.size, 0, none⟩))) (w.alloc (.cells (arr u64v ((Vector.replicate 64 0) : (Vector UInt64 64))).toArray 59)) := alloc_any (v := .agg (arr u64v ((Vector.replicate 64 0) : (Vector UInt64 64))).toArray) (by kernel_rfl) w
attribute [local go_sem] Tryz.al59 put_arr_u64 nth_arr_u64
theorem TxsIn.ext {W V : World} {s : Sl} {X : List Tx} (h : TxsIn W s X) (he : W.Extends V) : TxsIn V s X := by
  obtain ⟨t1, t2, t3, t4⟩ := h
  refine ⟨t1, t2, t3, fun hn => ?_⟩
  obtain ⟨b, o, C, g1, g2, g3, g4⟩ := t4 hn
  exact ⟨b, o, C, g1, (he.blk (blk_lt g2)).trans g2, g3, g4⟩
theorem erA_at (er : Vector UInt64 64) {a : UInt8} (h : a.toNat < 64) : er[a.toNat] = erA er a := by
  unfold erA
  rw [Vector.getElem?_eq_getElem h]
  rfl
theorem erS_set (er : Vector UInt64 64) {a : UInt8} (h : a.toNat < 64) : er.set a.toNat (erA er a + 1) h = erS er a := by
  unfold erS
  apply Vector.ext
  intro j hj
  rw [Vector.getElem_set, Vector.getElem_setIfInBounds]
def pfI (W : World) (bl be : Nat) (s : Sl) (L : PLg) (X : List Tx) (F : Nat → Value) (V : World) : Prop := F 0 = .pointer (some ⟨bl, 0, none⟩) ∧ F 1 = .slice s.a s.len s.cap ∧ F 8 = .pointer (some ⟨be, 0, none⟩) ∧ ∃ gl : UInt64, F 7 = .int .u64 (w64 gl) ∧ ∃ i : Nat, F 9 = .int .i64 (i : Nat) ∧ Hid (i ≤ X.length ∧ ∃ er : Vector UInt64 64, BxI W [(be, arr u64v er)] V ∧ pfN L.chain (fun a => ldF L.st.now (keyN a)) X 0 (L.gasLimit - ldF L.st.now (keyC 1)) (Vector.replicate 64 0) = pfN L.chain (fun a => ldF L.st.now (keyN a)) (X.drop i) i gl er)
set_option maxRecDepth 100000 in
theorem frame77L (f : Nat → Value) : frameN 77 f = #[f 0, f 1, f 2, f 3, f 4, f 5, f 6, f 7, f 8, f 9, f 10, f 11, f 12, f 13, f 14, f 15, f 16, f 17, f 18, f 19, f 20, f 21, f 22, f 23, f 24, f 25, f 26, f 27, f 28, f 29, f 30, f 31, f 32, f 33, f 34, f 35, f 36, f 37, f 38, f 39, f 40, f 41, f 42, f 43, f 44, f 45, f 46, f 47, f 48, f 49, f 50, f 51, f 52, f 53, f 54, f 55, f 56, f 57, f 58, f 59, f 60, f 61, f 62, f 63, f 64, f 65, f 66, f 67, f 68, f 69, f 70, f 71, f 72, f 73, f 74, f 75, f 76] := by kernel_rfl
set_option maxRecDepth 20000 in
set_option maxHeartbeats 2000000 in
theorem preflight_any (O : Own) (W : World) (bl : Nat) (L : PLg) (s : Sl) (X : List Tx) (hL : LedA O W bl L) (hT : TxsIn W s X) : Calls Tryz.prog 71 #[.pointer (some ⟨bl, 0, none⟩), .slice s.a s.len s.cap] W fun e V => e = .returned (.tuple #[.int .i64 (pfF L X).1, .int .i64 (pfF L X).2]) ∧ W.Extends V := by
  obtain ⟨Q, hQ⟩ : ∃ Q : Ending → World → Prop, Q = fun e V => e = .returned (.tuple #[.int .i64 (pfF L X).1, .int .i64 (pfF L X).2]) ∧ W.Extends V := ⟨_, rfl⟩
  rw [← hQ]
  have HQ := hid_of hQ
  have hcb := checkBatch_any O W bl L hL s.a s.len s.cap
  have hlen : X.length = s.len := hT.1
  rw [← hlen] at hcb
  have hgl := gasLeft_any O W bl L hL
  have HR := hid_of hL.rd
  have HT := hid_of hT
  have HC : Hid (∃ LE, blk W bl = some LE ∧ nth LE 0 = some (.int .u8 (w8 L.chain)) ∧ LE.length = 4496) := by
    obtain ⟨LE, q1, q2, -, -, -, q3, -⟩ := hL.cells
    exact ⟨LE, q1, q2, q3⟩
  clear hQ hL hT
  go_enter Tryz.func71, Tryz.ntmps71
  rw [hlen] at hcb
  go_wp2_with fail
  refine hcb.mono ?_
  clear hcb
  rintro e V1 ⟨rfl, hv1⟩
  obtain rfl := hv1.symm
  dsimp only
  rw [← hlen]
  by_cases h0 : cbF L X.length = 0
  rotate_left 1
  · have HP : Hid (Q (.returned (.tuple #[.int .i64 (-1), .int .i64 (cbF L X.length)])) W) := by
      show Q _ _
      rw [HQ.out]
      unfold pfF
      rw [if_neg h0]
      exact ⟨rfl, ext_Ext (Ext.refl _)⟩
    generalize cbF L X.length = cc at h0 HP ⊢
    have hcc : (cc != 0) = true := by simp [h0]
    clear hgl HQ h0
    go_wp2_with fail
    try (first | go_ret | go_ret2 | go_ret3 | go_end0)
    exact HP.out
  have HPF : Hid (pfF L X = pfN L.chain (fun a => ldF L.st.now (keyN a)) X 0 (L.gasLimit - ldF L.st.now (keyC 1)) (Vector.replicate 64 0)) := by
    show _ = _
    unfold pfF
    rw [if_pos h0]
  have HX16 : Hid (X.length ≤ 16) := by
    show X.length ≤ 16
    obtain ⟨q, -, -, -⟩ := ckF_ok h0
    unfold cbF at h0
    split at h0
    · cases h0
    · split at h0
      · cases h0
      · omega
  rw [h0]
  obtain ⟨gl0, hgl0⟩ : ∃ gl0, gl0 = L.gasLimit - ldF L.st.now (keyC 1) := ⟨_, rfl⟩
  rw [← hgl0] at hgl
  rw [hlen]
  have HGL := hid_of hgl0
  clear h0 hgl0
  go_wp2_with fail
  refine hgl.mono ?_
  clear hgl
  rintro e V2 ⟨rfl, hx2⟩
  dsimp only
  have h3 := ((BxI.start W).ext hx2).box (arr u64v (Vector.replicate 64 0)) 59
  obtain ⟨V3, hV3⟩ : ∃ V3 : World, V3 = V2.alloc (.cells (arr u64v ((Vector.replicate 64 0) : Vector UInt64 64)).toArray 59) := ⟨_, rfl⟩
  obtain ⟨be, hbe⟩ : ∃ be, be = V2.heap.size := ⟨_, rfl⟩
  have h3' : BxI W [(be, arr u64v (Vector.replicate 64 0))] V3 := by
    rw [hV3, hbe]
    exact h3
  have HI0 : Hid (0 ≤ X.length ∧ ∃ er : Vector UInt64 64, BxI W [(be, arr u64v er)] V3 ∧ pfN L.chain (fun a => ldF L.st.now (keyN a)) X 0 (L.gasLimit - ldF L.st.now (keyC 1)) (Vector.replicate 64 0) = pfN L.chain (fun a => ldF L.st.now (keyN a)) (X.drop 0) 0 gl0 er) := ⟨Nat.zero_le _, _, h3', by rw [HGL.out]; rfl⟩
  have HV3 := hid_of hV3
  have HBE := hid_of hbe
  clear hx2 h3 h3' hV3 hbe
  go_upto_region 6 with fail
  rw [← HV3.out, ← HBE.out]
  clear HV3 HBE HGL
  go_wp2_with fail
  refine wp_loop_f 77 (pfI W bl be s L X) (fun f _ => X.length - (intOf (f 9)).toNat) rfl ⟨rfl, rfl, rfl, _, rfl, 0, rfl, HI0⟩ ?_
  clear HI0
  intro F V hrel
  obtain ⟨f0, f1, f8, gl, f7, i, f9, HI⟩ := hrel
  have H9 := hid_of f9
  rw [frame77L, f0, f1, f8, f7, f9]
  clear f0 f1 f8 f7 f9
  obtain ⟨hil, er, hB, hp⟩ := HI.out
  clear HI
  by_cases hin : i < s.len
  rotate_left 1
  · have hin' : ¬ (i : Int) < (s.len : Int) := by omega
    have HP : Hid (Q (.returned (.tuple #[.int .i64 (-1), .int .i64 0])) V) := by
      show Q _ _
      rw [HQ.out, HPF.out, hp, List.drop_of_length_le (by omega)]
      exact ⟨rfl, hB.1⟩
    clear hin hil hB hp HQ
    go_wp2_with fail
    try (first | go_ret | go_ret2 | go_ret3 | go_end0)
    exact HP.out
  have hin' : (i : Int) < (s.len : Int) := by omega
  have p0 : (0 : Int) ≤ (i : Int) := by omega
  have p2 : ((i : Int)).toNat = i := by omega
  have hi9 : (i : Int) + 1 ≤ 1000001 := by have := HX16.out; omega
  obtain ⟨x, hx⟩ : ∃ x, X[i]? = some x := ⟨_, List.getElem?_eq_getElem (by omega)⟩
  obtain ⟨bt, ot, CT, ea, kt, lt', st'⟩ := (HT.out.ext hB.1).2.2.2 (by omega)
  have hsg := st' i x hx
  have gt : ot + i * 83 + 83 ≤ CT.length := Nat.le_trans (by have : (i + 1) * 83 ≤ s.len * 83 := Nat.mul_le_mul_right _ hin; omega) lt'
  have hdr : X.drop i = x :: X.drop (i + 1) := by
    obtain ⟨g1, g2⟩ := List.getElem?_eq_some_iff.1 hx
    rw [List.drop_eq_getElem_cons g1, g2]
  rw [hdr] at hp
  have h4 := hB.box x.enc 40
  obtain ⟨V4, hV4⟩ : ∃ V4 : World, V4 = V.alloc (.cells x.enc.toArray 40) := ⟨_, rfl⟩
  obtain ⟨bx, hbx⟩ : ∃ bx, bx = V.heap.size := ⟨_, rfl⟩
  rw [← hV4, ← hbx] at h4
  obtain ⟨LE, kl0, nl0, ll0⟩ := HC.out
  have h5 := h4.ext (extends_drewN (ext_Ext (Ext.refl V4)) 1)
  have kl5 : blk V4.drew bl = some LE := (h5.1.blk (blk_lt kl0)).trans kl0
  have kx5 := (h5.at (b := bx) (C := x.enc) (by simp)).1
  have HBN : Hid (be < bx) := by
    show be < bx
    have := blk_lt (hB.at (b := be) (C := arr u64v er) (by simp)).1
    omega
  have hsh := checkShape_any V4.drew L.chain x
  obtain ⟨sh, hsh0⟩ : ∃ sh, sh = shpF L.chain x := ⟨_, rfl⟩
  rw [← hsh0] at hsh
  have HSH := hid_of hsh0
  have HPN := hid_of hp
  have HV4 := hid_of hV4
  have HBX := hid_of hbx
  have HIN : Hid (i < X.length) := by show i < X.length; omega
  rw [ea]
  clear hV4 hbx h4 hB hp hdr hx hsh0 st' lt' hil hin kl0
  go_upto_region 10 with fail
  rw [← HV4.out, ← HBX.out]
  clear HV4 HBX kt hsg gt
  repeat go_step
  refine wp_region_F 6 (fun W' => blk W' bl = some LE ∧ blk W' bx = some x.enc) (by kernel_rfl) ⟨kl5, kx5⟩ (fun hHeld => ?_)
  refine wpAnyF_take (i := 0) (oi := ⟨_, _, _, _, _, _⟩) (v := ?_) rfl (by kernel_rfl) (by kernel_rfl) (by kernel_rfl) (by kernel_rfl) (by kernel_rfl) (fun _ _ _ h => h) (Or.inl ⟨by rfl, ?_⟩) (by assumption) ?_
  rotate_left 1
  · intro W' hSw
    obtain ⟨hS1, hS2⟩ := hSw
    go_simp
    try with_reducible rfl
  try simp only [Act.put, List.setIfInBounds_toArray, List.set_cons_zero, List.set_cons_succ]
  refine wpAnyF_take (i := 1) (oi := ⟨_, _, _, _, _, _⟩) (v := ?_) rfl (by kernel_rfl) (by kernel_rfl) (by kernel_rfl) (by kernel_rfl) (by kernel_rfl) (fun _ _ _ h => h) (Or.inl ⟨by rfl, ?_⟩) (by assumption) ?_
  rotate_left 1
  · intro W' hSw
    obtain ⟨hS1, hS2⟩ := hSw
    go_simp
    try with_reducible rfl
  try simp only [Act.put, List.setIfInBounds_toArray, List.set_cons_zero, List.set_cons_succ]
  refine wpAnyF_take (i := 2) (oi := ⟨_, _, _, _, _, _⟩) (v := ?_) rfl (by kernel_rfl) (by kernel_rfl) (by kernel_rfl) (by kernel_rfl) (by kernel_rfl) (fun _ _ _ h => h) (Or.inl ⟨by rfl, ?_⟩) (by assumption) ?_
  rotate_left 1
  · intro W' hSw
    obtain ⟨hS1, hS2⟩ := hSw
    go_simp
    try with_reducible rfl
  try simp only [Act.put, List.setIfInBounds_toArray, List.set_cons_zero, List.set_cons_succ]
  refine wpAnyF_take (i := 3) (oi := ⟨_, _, _, _, _, _⟩) (v := ?_) rfl (by kernel_rfl) (by kernel_rfl) (by kernel_rfl) (by kernel_rfl) (by kernel_rfl) (fun _ _ _ h => h) (Or.inl ⟨by rfl, ?_⟩) (by assumption) ?_
  rotate_left 1
  · intro W' hSw
    obtain ⟨hS1, hS2⟩ := hSw
    go_simp
    try with_reducible rfl
  try simp only [Act.put, List.setIfInBounds_toArray, List.set_cons_zero, List.set_cons_succ]
  refine wpAnyF_take (i := 4) (oi := ⟨_, _, _, _, _, _⟩) (v := ?_) rfl (by kernel_rfl) (by kernel_rfl) (by kernel_rfl) (by kernel_rfl) (by kernel_rfl) (fun _ _ _ h => h) (Or.inl ⟨by rfl, ?_⟩) (by assumption) ?_
  rotate_left 1
  · intro W' hSw
    obtain ⟨hS1, hS2⟩ := hSw
    go_simp
    try with_reducible rfl
  try simp only [Act.put, List.setIfInBounds_toArray, List.set_cons_zero, List.set_cons_succ]
  refine wpAnyF_one (o := ⟨_, _, _, _, _, _⟩) (i := 5) (by kernel_rfl) rfl rfl (fun K' hK => ?_)
  go_simp
  refine hsh.mono ?_
  clear hsh
  rintro e V6 ⟨rfl, hx6⟩
  dsimp only
  have h6 := h5.ext hx6
  have kl6 : blk V6 bl = some LE := (hx6.blk (blk_lt kl5)).trans kl5
  have kx6 := (h6.at (b := bx) (C := x.enc) (by simp)).1
  refine hK.out _ _ ⟨kl6, kx6⟩ (fun hHeld => ?_)
  clear hK K'
  try simp only [Act.put, List.setIfInBounds_toArray, List.set_cons_zero, List.set_cons_succ]
  refine wpAnyF_last (o := ⟨_, _, _, _, _, _⟩) (by kernel_rfl) rfl (fun K' hK => ?_)
  go_simp
  refine hK.out _ _ ?_
  clear hK K'
  try simp only [Act.put, List.setIfInBounds_toArray, List.set_cons_zero, List.set_cons_succ]
  refine wpAnyF_done (by kernel_rfl) ?_ _
  clear hHeld kl5 kx5 hx6 h5
  by_cases hs0 : sh = 0
  rotate_left 1
  · have HP : Hid (Q (.returned (.tuple #[.int .i64 (i : Nat), .int .i64 sh])) V6) := by
      show Q _ _
      rw [HQ.out, HPF.out, HPN.out]
      unfold pfN
      rw [if_neg (by rw [← HSH.out]; exact hs0), HSH.out]
      exact ⟨rfl, h6.1⟩
    have hsb : (sh != 0) = true := by simp [hs0]
    clear hs0 HQ h6 HPN
    go_wp2_with fail
    try (first | go_ret | go_ret2 | go_ret3 | go_end0)
    exact HP.out
  subst hs0
  have hfr := (shp_ok HSH.out.symm).from_
  have hga := gasOf_any V6 x
  rw [gasU_w] at hga
  obtain ⟨gu, hgu⟩ : ∃ gu, gu = gasU x := ⟨_, rfl⟩
  rw [← hgu] at hga
  have HGU : Hid (gasF x = w64 gu ∧ gu = gasU x) := ⟨by rw [hgu]; exact gasU_w x, hgu⟩
  have H6 := hid_of h6
  have HFR := hid_of hfr
  clear hgu h6 hfr
  go_wp2_with fail
  refine hga.mono ?_
  clear hga
  rintro e V7 ⟨rfl, hx7⟩
  dsimp only
  have h7 := H6.out.ext hx7
  have kx7 := (h7.at (b := bx) (C := x.enc) (by simp)).1
  have ke7 := (h7.at (b := be) (C := arr u64v er) (by simp)).1
  clear kx6 kl6 hx7 H6
  by_cases hg : w64 gl < w64 gu
  · have HP : Hid (Q (.returned (.tuple #[.int .i64 (i : Nat), .int .i64 24])) V7) := by
      show Q _ _
      rw [HQ.out, HPF.out, HPN.out]
      unfold pfN
      rw [if_pos HSH.out.symm, if_pos (by rw [HGU.out.1]; exact hg)]
      exact ⟨rfl, h7.1⟩
    clear HQ h7 HPN kx7 ke7
    go_wp2_with fail
    try (first | go_ret | go_ret2 | go_ret3 | go_end0)
    exact HP.out
  have hsub : IntKind.u64.wrap (w64 gl - w64 gu) = w64 (gl - gu) := x64_sub gl gu
  obtain ⟨gl2, hgl2⟩ : ∃ gl2, gl2 = gl - gu := ⟨_, rfl⟩
  rw [← hgl2] at hsub
  have HG2 := hid_of hgl2
  have h8 := h7.ext (extends_drewN (ext_Ext (Ext.refl V7)) 1)
  have kx8 := (h8.at (b := bx) (C := x.enc) (by simp)).1
  have ke8 := (h8.at (b := be) (C := arr u64v er) (by simp)).1
  have hno := nonce_any V7.drew bl 1 L.st.now (HR.out.ext h8.1) x.from_
  obtain ⟨nn, hnn⟩ : ∃ nn, nn = ldF L.st.now (keyN x.from_) := ⟨_, rfl⟩
  rw [← hnn] at hno
  have HNN := hid_of hnn
  obtain ⟨fa, hfa⟩ : ∃ fa : Nat, fa = x.from_.toNat := ⟨_, rfl⟩
  have hfi : w8 x.from_ = (fa : Int) := by rw [hfa]; rfl
  have hft : (w8 x.from_).toNat = fa := by rw [hfi]; omega
  have hf64 : fa < 64 := by rw [hfa]; exact HFR.out
  obtain ⟨ev, hev⟩ : ∃ ev, ev = erA er x.from_ := ⟨_, rfl⟩
  have HEV := hid_of hev
  have nfa : nth (arr u64v er) fa = some (.int .u64 (w64 ev)) := by
    rw [nth_arr_u64 er hf64]
    congr 2
    rw [hev, ← erA_at er HFR.out]
    congr 1
    subst hfa
    rfl
  have pfa : splice (arr u64v er) fa [.int .u64 (w64 (ev + 1))] = arr u64v (erS er x.from_) := by
    rw [put_arr_u64 er (ev + 1) hf64, hev, ← erS_set er HFR.out]
    congr 1
    subst hfa
    rfl
  have lea : (arr u64v er).length = 64 := length_arr _ _
  have hf0 : (0 : Int) ≤ (fa : Int) := by omega
  have hf6 : (fa : Int) < 64 := by omega
  have hadd : IntKind.u64.wrap (w64 nn + w64 ev) = w64 (nn + ev) := x64_add nn ev
  obtain ⟨wt, hwt⟩ : ∃ wt, wt = nn + ev := ⟨_, rfl⟩
  rw [← hwt] at hadd
  have HWT := hid_of hwt
  have hinc : IntKind.u64.wrap (w64 ev + 1) = w64 (ev + 1) := x64_add ev 1
  clear hgl2 hnn hfa hev hwt kx7 ke7
  have H7 := hid_of h7
  clear h7
  rw [hfi] at hno
  go_upto_region 17 with fail
  repeat go_step
  refine wp_region_F 11 (fun W' => blk W' bx = some x.enc ∧ blk W' be = some (arr u64v er)) (by kernel_rfl) ⟨kx8, ke8⟩ (fun hHeld => ?_)
  refine wpAnyF_take (i := 0) (oi := ⟨_, _, _, _, _, _⟩) (v := ?_) rfl (by kernel_rfl) (by kernel_rfl) (by kernel_rfl) (by kernel_rfl) (by kernel_rfl) (fun _ _ _ h => h) (Or.inl ⟨by rfl, ?_⟩) (by assumption) ?_
  rotate_left 1
  · intro W' hSw
    obtain ⟨hS1, hS2⟩ := hSw
    go_simp
    try with_reducible rfl
  try simp only [Act.put, List.setIfInBounds_toArray, List.set_cons_zero, List.set_cons_succ]
  refine wpAnyF_take (i := 1) (oi := ⟨_, _, _, _, _, _⟩) (v := ?_) rfl (by kernel_rfl) (by kernel_rfl) (by kernel_rfl) (by kernel_rfl) (by kernel_rfl) (fun _ _ _ h => h) (Or.inl ⟨by rfl, ?_⟩) (by assumption) ?_
  rotate_left 1
  · intro W' hSw
    obtain ⟨hS1, hS2⟩ := hSw
    go_simp
    try with_reducible rfl
  try simp only [Act.put, List.setIfInBounds_toArray, List.set_cons_zero, List.set_cons_succ]
  refine wpAnyF_take (i := 2) (oi := ⟨_, _, _, _, _, _⟩) (v := ?_) rfl (by kernel_rfl) (by kernel_rfl) (by kernel_rfl) (by kernel_rfl) (by kernel_rfl) (fun _ _ _ h => h) (Or.inl ⟨by rfl, ?_⟩) (by assumption) ?_
  rotate_left 1
  · intro W' hSw
    obtain ⟨hS1, hS2⟩ := hSw
    go_simp
    try with_reducible rfl
  try simp only [Act.put, List.setIfInBounds_toArray, List.set_cons_zero, List.set_cons_succ]
  refine wpAnyF_take (i := 3) (oi := ⟨_, _, _, _, _, _⟩) (v := ?_) rfl (by kernel_rfl) (by kernel_rfl) (by kernel_rfl) (by kernel_rfl) (by kernel_rfl) (fun _ _ _ h => h) (Or.inl ⟨by rfl, ?_⟩) (by assumption) ?_
  rotate_left 1
  · intro W' hSw
    obtain ⟨hS1, hS2⟩ := hSw
    go_simp
    try with_reducible rfl
  try simp only [Act.put, List.setIfInBounds_toArray, List.set_cons_zero, List.set_cons_succ]
  refine wpAnyF_take (i := 4) (oi := ⟨_, _, _, _, _, _⟩) (v := ?_) rfl (by kernel_rfl) (by kernel_rfl) (by kernel_rfl) (by kernel_rfl) (by kernel_rfl) (fun _ _ _ h => h) (Or.inl ⟨by rfl, ?_⟩) (by assumption) ?_
  rotate_left 1
  · intro W' hSw
    obtain ⟨hS1, hS2⟩ := hSw
    go_simp
    try with_reducible rfl
  try simp only [Act.put, List.setIfInBounds_toArray, List.set_cons_zero, List.set_cons_succ]
  refine wpAnyF_take (i := 6) (oi := ⟨_, _, _, _, _, _⟩) (v := ?_) rfl (by kernel_rfl) (by kernel_rfl) (by kernel_rfl) (by kernel_rfl) (by kernel_rfl) (fun _ _ _ h => h) (Or.inl ⟨by rfl, ?_⟩) (by assumption) ?_
  rotate_left 1
  · intro W' hSw
    obtain ⟨hS1, hS2⟩ := hSw
    go_simp
    try with_reducible rfl
  try simp only [Act.put, List.setIfInBounds_toArray, List.set_cons_zero, List.set_cons_succ]
  refine wpAnyF_take (i := 7) (oi := ⟨_, _, _, _, _, _⟩) (v := ?_) rfl (by kernel_rfl) (by kernel_rfl) (by kernel_rfl) (by kernel_rfl) (by kernel_rfl) (fun _ _ _ h => h) (Or.inl ⟨by rfl, ?_⟩) (by assumption) ?_
  rotate_left 1
  · intro W' hSw
    obtain ⟨hS1, hS2⟩ := hSw
    go_simp
    try with_reducible rfl
  try simp only [Act.put, List.setIfInBounds_toArray, List.set_cons_zero, List.set_cons_succ]
  refine wpAnyF_take (i := 8) (oi := ⟨_, _, _, _, _, _⟩) (v := ?_) rfl (by kernel_rfl) (by kernel_rfl) (by kernel_rfl) (by kernel_rfl) (by kernel_rfl) (fun _ _ _ h => h) (Or.inl ⟨by rfl, ?_⟩) (by assumption) ?_
  rotate_left 1
  · intro W' hSw
    obtain ⟨hS1, hS2⟩ := hSw
    go_simp
    try with_reducible rfl
  try simp only [Act.put, List.setIfInBounds_toArray, List.set_cons_zero, List.set_cons_succ]
  refine wpAnyF_take (i := 9) (oi := ⟨_, _, _, _, _, _⟩) (v := ?_) rfl (by kernel_rfl) (by kernel_rfl) (by kernel_rfl) (by kernel_rfl) (by kernel_rfl) (fun _ _ _ h => h) (Or.inl ⟨by rfl, ?_⟩) (by assumption) ?_
  rotate_left 1
  · intro W' hSw
    obtain ⟨hS1, hS2⟩ := hSw
    go_simp
    try with_reducible rfl
  try simp only [Act.put, List.setIfInBounds_toArray, List.set_cons_zero, List.set_cons_succ]
  refine wpAnyF_one (o := ⟨_, _, _, _, _, _⟩) (i := 5) (by kernel_rfl) rfl rfl (fun K' hK => ?_)
  go_simp
  refine hno.mono ?_
  clear hno
  rintro e V9 ⟨rfl, hx9⟩
  dsimp only
  have h9 := h8.ext hx9
  have kx9 := (h9.at (b := bx) (C := x.enc) (by simp)).1
  have ke9 := (h9.at (b := be) (C := arr u64v er) (by simp)).1
  have fe9 := (h9.at (b := be) (C := arr u64v er) (by simp)).2
  refine hK.out _ _ ⟨kx9, ke9⟩ (fun hHeld => ?_)
  clear hK K'
  try simp only [Act.put, List.setIfInBounds_toArray, List.set_cons_zero, List.set_cons_succ]
  refine wpAnyF_take (i := 10) (oi := ⟨_, _, _, _, _, _⟩) (v := ?_) rfl (by kernel_rfl) (by kernel_rfl) (by kernel_rfl) (by kernel_rfl) (by kernel_rfl) (fun _ _ _ h => h) (Or.inl ⟨by rfl, ?_⟩) (by assumption) ?_
  rotate_left 1
  · intro W' hSw
    obtain ⟨hS1, hS2⟩ := hSw
    go_simp
    try with_reducible rfl
  try simp only [Act.put, List.setIfInBounds_toArray, List.set_cons_zero, List.set_cons_succ]
  refine wpAnyF_last (o := ⟨_, _, _, _, _, _⟩) (by kernel_rfl) rfl (fun K' hK => ?_)
  go_simp
  refine hK.out _ _ ?_
  clear hK K'
  try simp only [Act.put, List.setIfInBounds_toArray, List.set_cons_zero, List.set_cons_succ]
  refine wpAnyF_done (by kernel_rfl) ?_ _
  clear hHeld kx8 ke8 hx9 h8 H7
  by_cases hlo : w64 x.nonce < w64 wt
  · have HP : Hid (Q (.returned (.tuple #[.int .i64 (i : Nat), .int .i64 25])) V9) := by
      show Q _ _
      rw [HQ.out, HPF.out, HPN.out]
      unfold pfN
      rw [if_pos HSH.out.symm, if_neg (by rw [HGU.out.1]; exact hg), if_pos (by rw [← HNN.out, ← HEV.out, ← HWT.out]; exact hlo)]
      exact ⟨rfl, h9.1⟩
    clear HQ h9 HPN ke9 nfa pfa
    go_wp2_with fail
    try (first | go_ret | go_ret2 | go_ret3 | go_end0)
    exact HP.out
  by_cases hhi : w64 wt < w64 x.nonce
  · have HP : Hid (Q (.returned (.tuple #[.int .i64 (i : Nat), .int .i64 26])) V9) := by
      show Q _ _
      rw [HQ.out, HPF.out, HPN.out]
      unfold pfN
      rw [if_pos HSH.out.symm, if_neg (by rw [HGU.out.1]; exact hg), if_neg (by rw [← HNN.out, ← HEV.out, ← HWT.out]; exact hlo), if_pos (by rw [← HNN.out, ← HEV.out, ← HWT.out]; exact hhi)]
      exact ⟨rfl, h9.1⟩
    clear HQ h9 HPN ke9 nfa pfa
    go_wp2_with fail
    try (first | go_ret | go_ret2 | go_ret3 | go_end0)
    exact HP.out
  have HJ : Hid (i + 1 ≤ X.length ∧ ∃ er' : Vector UInt64 64, BxI W [(be, arr u64v er')] (put V9 be (arr u64v (erS er x.from_))) ∧ pfN L.chain (fun a => ldF L.st.now (keyN a)) X 0 (L.gasLimit - ldF L.st.now (keyC 1)) (Vector.replicate 64 0) = pfN L.chain (fun a => ldF L.st.now (keyN a)) (X.drop (i + 1)) (i + 1) gl2 er') := by
    refine ⟨HIN.out, erS er x.from_, (h9.sub (bs' := [(be, arr u64v er)]) (fun p hp => by rw [List.mem_singleton] at hp; rw [hp]; simp)).put (fun p hp => by cases hp), ?_⟩
    rw [HPN.out]
    show (if shpF L.chain x = 0 then _ else _) = _
    rw [if_pos HSH.out.symm, if_neg (by rw [HGU.out.1]; exact hg), if_neg (by dsimp only; rw [← HNN.out, ← HEV.out, ← HWT.out]; exact hlo), if_neg (by dsimp only; rw [← HNN.out, ← HEV.out, ← HWT.out]; exact hhi), HG2.out, HGU.out.2]
  clear h9 HPN HQ hg hsub hadd
  go_wp2_with fail
  refine ⟨rfl, rfl, ⟨rfl, by show Value.slice (some ⟨bt, ot, none⟩) s.len s.cap = _; rw [ea], rfl, gl2, rfl, i + 1, rfl, HJ⟩, ?_⟩
  show s.len - ((i : Int) + 1).toNat < s.len - (intOf (F 9)).toNat
  rw [H9.out]
  show s.len - (i + 1) < s.len - i
  have := HIN.out
  omega
end Go.Proofs.Qxb6500786aGreat
