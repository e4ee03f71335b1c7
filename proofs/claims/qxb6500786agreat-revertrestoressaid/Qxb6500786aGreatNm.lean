import Derived.DeepKeys2
import Derived.Test.Qxb6500786aGreatNl
import Derived.Test.Qxb6500786aGreatLv

import Derived.StillTailTactics
import Derived.Deep.QuietTactic
import Derived.BigQuiet
import Derived.Deep.RegionHeld
import Derived.Deep.CutRange
import Derived.Laws.ResultCell
import Derived.Laws.Rows
import Derived.DeepKeys
import Derived.DataBytes
import Derived.Laws.StructEq
import Derived.Laws.AppendOwn
import Derived.Laws.MakeOwn
import Derived.Lib.AppendStr
set_option linter.unusedSimpArgs false
set_option linter.unusedVariables false
namespace Go.Proofs.Qxb6500786aGreat
open Go.RowKit Go.Blk
attribute [local go_sem ↓] execOp_load execOp_store execOp_alloc
attribute [local go_sem] Tryz.ld24 Tryz.st24 Tryz.ld36 Tryz.st36 Tryz.ld28 Tryz.st28 Tryz.ld32 Tryz.st32 Tryz.ld33 Tryz.st33 Tryz.ld34 Tryz.st34 Tryz.ld5 Tryz.st5 Tryz.ld31 Tryz.st31 Tryz.ld30 Tryz.st30 Tryz.ld41 Tryz.st41 Tryz.ld44 Tryz.st44 Tryz.ld4 Tryz.st4 Tryz.ld173 Tryz.st173 Tryz.ld174 Tryz.st174 Tryz.ld95 Tryz.st95 Tryz.ld45 Tryz.st45 Tryz.ld207 Tryz.st207 Tryz.ld3 Tryz.st3 Tryz.ld189 Tryz.st189 Tryz.ld2 Tryz.st2 Tryz.ld9 Tryz.st9 Tryz.ld12 Tryz.st12 Tryz.ld21 Tryz.st21 Tryz.ld22 Tryz.st22 Tryz.ld46 Tryz.st46 Tryz.ld92 Tryz.st92 Tryz.ld94 Tryz.st94 Tryz.ld96 Tryz.st96 Tryz.ld97 Tryz.st97 Tryz.ld105 Tryz.st105 Tryz.ld117 Tryz.st117 Tryz.ld122 Tryz.st122 Tryz.ld123 Tryz.st123 Tryz.ld133 Tryz.st133 Tryz.ld155 Tryz.st155 Tryz.ld163 Tryz.st163 Tryz.ld190 Tryz.st190 Tryz.ld197 Tryz.st197 Tryz.ld201 Tryz.st201 Tryz.ld202 Tryz.st202 Tryz.ld209 Tryz.st209 Tryz.ld216 Tryz.st216 Tryz.ld230 Tryz.st230 Tryz.ld238 Tryz.st238 Tryz.ld242 Tryz.st242 Tryz.ld251 Tryz.st251 Tryz.ld260 Tryz.st260 Tryz.ld286 Tryz.st286 Tryz.ld292 Tryz.st292 Tryz.ld298 Tryz.st298 Tryz.ld309 Tryz.st309 Tryz.ld35 Tryz.st35 Tryz.ld48 Tryz.st48 Tryz.ld47 Tryz.st47 Tryz.ld79 Tryz.st79 Tryz.ld177 Tryz.st177 Tryz.ld180 Tryz.st180 Tryz.ld231 Tryz.st231 Tryz.ld232 Tryz.st232 Tryz.ld26 Tryz.st26 Tryz.ld38 Tryz.st38 Tryz.ld40 Tryz.st40 Tryz.ld43 Tryz.st43 Tryz.ld50 Tryz.st50 Tryz.ld52 Tryz.st52 Tryz.ld54 Tryz.st54 Tryz.ld81 Tryz.st81 Tryz.ld112 Tryz.st112 Tryz.ld120 Tryz.st120 Tryz.ld176 Tryz.st176 Tryz.ld179 Tryz.st179 Tryz.ld182 Tryz.st182 Tryz.ld184 Tryz.st184 Tryz.ld234 Tryz.st234 Tryz.ld236 Tryz.st236 Tryz.ld240 Tryz.st240 Tryz.ld246 Tryz.st246 Tryz.ld249 Tryz.st249 Tryz.al35 Tryz.al48 Tryz.al47 Tryz.al79 Tryz.al177 Tryz.al180 Tryz.al231 Tryz.al232 Tryz.al26 Tryz.al38 Tryz.al40 Tryz.al43 Tryz.al50 Tryz.al52 Tryz.al54 Tryz.al81 Tryz.al112 Tryz.al120 Tryz.al176 Tryz.al179 Tryz.al182 Tryz.al184 Tryz.al234 Tryz.al236 Tryz.al240 Tryz.al246 Tryz.al249
attribute [local go_sem] Player.length_enc Player.ok_enc Player.all_get Player.all_set Player.hand_get Player.hand_set Player.aside_get Player.aside_set Message.length_enc Message.ok_enc Message.all_get Message.all_set Message.kind_get Message.kind_set Message.from__get Message.from__set Message.to__get Message.to__set Message.sender_get Message.sender_set Message.receiver_get Message.receiver_set Message.seq_get Message.seq_set Message.token_get Message.token_set Message.amount_get Message.amount_set Message.size_get Message.size_set Message.payload_get Message.payload_set Tx.length_enc Tx.ok_enc Tx.all_get Tx.all_set Tx.kind_get Tx.kind_set Tx.chain_get Tx.chain_set Tx.from__get Tx.from__set Tx.nonce_get Tx.nonce_set Tx.fee_get Tx.fee_set Tx.to__get Tx.to__set Tx.dest_get Tx.dest_set Tx.token_get Tx.token_set Tx.amount_get Tx.amount_set Tx.size_get Tx.size_set Tx.payload_get Tx.payload_set Tx.msg_get Tx.msg_set Tx.msg_kind_get Tx.msg_kind_set Tx.msg_from__get Tx.msg_from__set Tx.msg_to__get Tx.msg_to__set Tx.msg_sender_get Tx.msg_sender_set Tx.msg_receiver_get Tx.msg_receiver_set Tx.msg_seq_get Tx.msg_seq_set Tx.msg_token_get Tx.msg_token_set Tx.msg_amount_get Tx.msg_amount_set Tx.msg_size_get Tx.msg_size_set Tx.msg_payload_get Tx.msg_payload_set GOp.length_enc GOp.ok_enc GOp.all_get GOp.all_set GOp.kind_get GOp.kind_set GOp.tx_get GOp.tx_set GOp.txs_get GOp.txs_set GOp.gas_get GOp.gas_set GOp.acct_get GOp.acct_set GOp.token_get GOp.token_set GOp.chain_get GOp.chain_set GOp.seq_get GOp.seq_set GOp.tx_kind_get GOp.tx_kind_set GOp.tx_chain_get GOp.tx_chain_set GOp.tx_from__get GOp.tx_from__set GOp.tx_nonce_get GOp.tx_nonce_set GOp.tx_fee_get GOp.tx_fee_set GOp.tx_to__get GOp.tx_to__set GOp.tx_dest_get GOp.tx_dest_set GOp.tx_token_get GOp.tx_token_set GOp.tx_amount_get GOp.tx_amount_set GOp.tx_size_get GOp.tx_size_set GOp.tx_payload_get GOp.tx_payload_set GOp.tx_msg_get GOp.tx_msg_set GOp.tx_msg_kind_get GOp.tx_msg_kind_set GOp.tx_msg_from__get GOp.tx_msg_from__set GOp.tx_msg_to__get GOp.tx_msg_to__set GOp.tx_msg_sender_get GOp.tx_msg_sender_set GOp.tx_msg_receiver_get GOp.tx_msg_receiver_set GOp.tx_msg_seq_get GOp.tx_msg_seq_set GOp.tx_msg_token_get GOp.tx_msg_token_set GOp.tx_msg_amount_get GOp.tx_msg_amount_set GOp.tx_msg_size_get GOp.tx_msg_size_set GOp.tx_msg_payload_get GOp.tx_msg_payload_set Summary.length_enc Summary.ok_enc Summary.all_get Summary.all_set Summary.height_get Summary.height_set Summary.txs_get Summary.txs_set Summary.gas_get Summary.gas_set Summary.fees_get Summary.fees_set Summary.sent_get Summary.sent_set Summary.took_get Summary.took_set Summary.minted_get Summary.minted_set Summary.burned_get Summary.burned_set Summary.root_get Summary.root_set Detail.length_enc Detail.ok_enc Detail.all_get Detail.all_set Detail.code_get Detail.code_set Detail.have__get Detail.have__set Detail.need_get Detail.need_set Slot.length_enc Slot.ok_enc Slot.all_get Slot.all_set Slot.nonce_get Slot.nonce_set Slot.balances_get Slot.balances_set Tree.length_enc Tree.ok_enc Tree.all_get Tree.all_set Tree.leaves_get Tree.leaves_set Mark.length_enc Mark.ok_enc Mark.all_get Mark.all_set Mark.from__get Mark.from__set Mark.seq_get Mark.seq_set Receipt.length_enc Receipt.ok_enc Receipt.all_get Receipt.all_set Receipt.code_get Receipt.code_set Receipt.hash_get Receipt.hash_set Receipt.index_get Receipt.index_set Receipt.gas_get Receipt.gas_set Receipt.fee_get Receipt.fee_set Receipt.hasSent_get Receipt.hasSent_set Receipt.sent_get Receipt.sent_set Receipt.hasTook_get Receipt.hasTook_set Receipt.took_get Receipt.took_set Receipt.sent_kind_get Receipt.sent_kind_set Receipt.sent_from__get Receipt.sent_from__set Receipt.sent_to__get Receipt.sent_to__set Receipt.sent_sender_get Receipt.sent_sender_set Receipt.sent_receiver_get Receipt.sent_receiver_set Receipt.sent_seq_get Receipt.sent_seq_set Receipt.sent_token_get Receipt.sent_token_set Receipt.sent_amount_get Receipt.sent_amount_set Receipt.sent_size_get Receipt.sent_size_set Receipt.sent_payload_get Receipt.sent_payload_set Receipt.took_kind_get Receipt.took_kind_set Receipt.took_from__get Receipt.took_from__set Receipt.took_to__get Receipt.took_to__set Receipt.took_sender_get Receipt.took_sender_set Receipt.took_receiver_get Receipt.took_receiver_set Receipt.took_seq_get Receipt.took_seq_set Receipt.took_token_get Receipt.took_token_set Receipt.took_amount_get Receipt.took_amount_set Receipt.took_size_get Receipt.took_size_set Receipt.took_payload_get Receipt.took_payload_set Store.length_enc Store.ok_enc Store.all_get Store.all_set Store.now_get Store.now_set Store.saved_get Store.saved_set GState.length_enc GState.ok_enc GState.all_get GState.all_set GState.kv_get GState.kv_set GState.tree_get GState.tree_set GState.stale_get GState.stale_set GState.touched_get GState.touched_set GState.kv_now_get GState.kv_now_set GState.kv_saved_get GState.kv_saved_set GState.tree_leaves_get GState.tree_leaves_set History.length_enc History.ok_enc History.all_get History.all_set History.ring_get History.ring_set History.closed_get History.closed_set Ledger.length_enc Ledger.ok_enc Ledger.all_get Ledger.all_set Ledger.chain_get Ledger.chain_set Ledger.st_get Ledger.st_set Ledger.height_get Ledger.height_set Ledger.open__get Ledger.open__set Ledger.gasLimit_get Ledger.gasLimit_set Ledger.past_get Ledger.past_set Ledger.begun_get Ledger.begun_set Ledger.sent_get Ledger.sent_set Ledger.took_get Ledger.took_set Ledger.receipts_get Ledger.receipts_set Ledger.st_kv_get Ledger.st_kv_set Ledger.st_tree_get Ledger.st_tree_set Ledger.st_stale_get Ledger.st_stale_set Ledger.st_touched_get Ledger.st_touched_set Ledger.st_kv_now_get Ledger.st_kv_now_set Ledger.st_kv_saved_get Ledger.st_kv_saved_set Ledger.st_tree_leaves_get Ledger.st_tree_leaves_set Ledger.past_ring_get Ledger.past_ring_set Ledger.past_closed_get Ledger.past_closed_set Ledger.begun_kv_get Ledger.begun_kv_set Ledger.begun_tree_get Ledger.begun_tree_set Ledger.begun_stale_get Ledger.begun_stale_set Ledger.begun_touched_get Ledger.begun_touched_set Ledger.begun_kv_now_get Ledger.begun_kv_now_set Ledger.begun_kv_saved_get Ledger.begun_kv_saved_set Ledger.begun_tree_leaves_get Ledger.begun_tree_leaves_set Purse.length_enc Purse.ok_enc Purse.all_get Purse.all_set Purse.st_get Purse.st_set Purse.n_get Purse.n_set Purse.account_get Purse.account_set Purse.token_get Purse.token_set Purse.amount_get Purse.amount_set Plan.length_enc Plan.ok_enc Plan.all_get Plan.all_set Plan.purse_get Plan.purse_set Plan.nonce_get Plan.nonce_set Plan.gasUsed_get Plan.gasUsed_set Plan.fees_get Plan.fees_set Plan.hasSupply_get Plan.hasSupply_set Plan.token_get Plan.token_set Plan.supply_get Plan.supply_set Plan.flowAt_get Plan.flowAt_set Plan.flow_get Plan.flow_set Plan.receipt_get Plan.receipt_set Plan.purse_st_get Plan.purse_st_set Plan.purse_n_get Plan.purse_n_set Plan.purse_account_get Plan.purse_account_set Plan.purse_token_get Plan.purse_token_set Plan.purse_amount_get Plan.purse_amount_set Plan.receipt_code_get Plan.receipt_code_set Plan.receipt_hash_get Plan.receipt_hash_set Plan.receipt_index_get Plan.receipt_index_set Plan.receipt_gas_get Plan.receipt_gas_set Plan.receipt_fee_get Plan.receipt_fee_set Plan.receipt_hasSent_get Plan.receipt_hasSent_set Plan.receipt_sent_get Plan.receipt_sent_set Plan.receipt_hasTook_get Plan.receipt_hasTook_set Plan.receipt_took_get Plan.receipt_took_set Plan.receipt_sent_kind_get Plan.receipt_sent_kind_set Plan.receipt_sent_from__get Plan.receipt_sent_from__set Plan.receipt_sent_to__get Plan.receipt_sent_to__set Plan.receipt_sent_sender_get Plan.receipt_sent_sender_set Plan.receipt_sent_receiver_get Plan.receipt_sent_receiver_set Plan.receipt_sent_seq_get Plan.receipt_sent_seq_set Plan.receipt_sent_token_get Plan.receipt_sent_token_set Plan.receipt_sent_amount_get Plan.receipt_sent_amount_set Plan.receipt_sent_size_get Plan.receipt_sent_size_set Plan.receipt_sent_payload_get Plan.receipt_sent_payload_set Plan.receipt_took_kind_get Plan.receipt_took_kind_set Plan.receipt_took_from__get Plan.receipt_took_from__set Plan.receipt_took_to__get Plan.receipt_took_to__set Plan.receipt_took_sender_get Plan.receipt_took_sender_set Plan.receipt_took_receiver_get Plan.receipt_took_receiver_set Plan.receipt_took_seq_get Plan.receipt_took_seq_set Plan.receipt_took_token_get Plan.receipt_took_token_set Plan.receipt_took_amount_get Plan.receipt_took_amount_set Plan.receipt_took_size_get Plan.receipt_took_size_set Plan.receipt_took_payload_get Plan.receipt_took_payload_set Move.length_enc Move.ok_enc Move.all_get Move.all_set Move.account_get Move.account_set Move.token_get Move.token_set Move.down_get Move.down_set Move.amount_get Move.amount_set Books.length_enc Books.ok_enc Books.all_get Books.all_set Books.sums_get Books.sums_set Books.stored_get Books.stored_set Books.marks_get Books.marks_set Pair.length_enc Pair.ok_enc Pair.all_get Pair.all_set Pair.key_get Pair.key_set Pair.value_get Pair.value_set
attribute [local go_sem] size_put size_ext blk_put free_put blk_alloc free_alloc blk_drew free_drew blk_ext free_ext lookOr_some putOr_some segAt_some cellAt_some storeIn_some put_put put_alloc_new length_arr ok_arr_u8 ok_arr_u32 ok_arr_u64 ok_arr_i64 ok_arr_sl cellsV_agg cellsV_int cellsV_bool cellsV_string cellsV_pointer cellsV_slice cellsV_sl ok_int ok_bool ok_string ok_pointer ok_slice ok_sl toList_arr seg_arr set_arr nth_splice nth_splice0 seg_splice seg_splice0 splice_splice splice_splice0 length_splice_if
attribute [local go_sem ↓] execOp_box
attribute [local go_sem] box_run nth_arr_u8 put_arr_u8 blk_drewN free_drewN put_drewN blk_raw free_raw
theorem Wb.ext {b : Nat} {W V U : World} (h : Wb b V U) (he : W.Extends V) (hb : W.heap.size ≤ b) : W.Extends U := (h.lg (fun k => if k < W.heap.size then .no else .a 0 0) (l := .a 0 0) (by rw [if_neg (by omega)])).extends he (fun k hk => by rw [if_pos hk]; simp)
/-- The move that an entry of a purse makes. -/
def mvOf (now : List Pair) (e : PE) : Option Move := if w64 e.v = w64 (ldF now (keyB e.a e.t)) then none else if w64 e.v < w64 (ldF now (keyB e.a e.t)) then some ⟨e.a, e.t, true, ldF now (keyB e.a e.t) - e.v⟩ else some ⟨e.a, e.t, false, e.v - ldF now (keyB e.a e.t)⟩
def mvL (now : List Pair) (l : List PE) : List Move := l.filterMap (mvOf now)
/-- Moves, plainly. -/
noncomputable def movF (L : PLg) (x : Tx) : List Move × Int := if (judR L 0 x).1 = 0 then (srtF mvB (mvL L.st.now (purL L.st.now x)), 0) else ([], (judR L 0 x).1)
def movI (W : World) (bl bp : Nat) (E : List Value) (now : List Pair) (l : List PE) (F : Nat → Value) (V : World) : Prop := F 0 = .pointer (some ⟨bl, 0, none⟩) ∧ F 6 = .pointer (some ⟨bp, 0, none⟩) ∧ ∃ a n c, F 8 = .slice a n c ∧ ∃ i : Nat, F 9 = .int .i64 (i : Nat) ∧ Hid (i ≤ l.length ∧ OutG Move.enc 4 240 W V a n c (mvL now (l.take i)) ∧ blk V bp = some E ∧ ∀ k, (Value.slice a n c).ownBlock = some k → bp < k)
theorem build240 (w : World) (a t : UInt8) : (buildOp 240 #[(0, .int .u8 (w8 a)), (1, .int .u8 (w8 t))]).run Tryz.prog w = .ok (.value (.agg (Move.mk a t false 0).enc.toArray)) w := by kernel_rfl
theorem make46 (w : World) : (makeOp 46 (.int .i64 0) (.int .i64 4)).run Tryz.prog w = .ok (.value (.slice (some ⟨w.heap.size, 0, none⟩) 0 4)) (w.alloc (.cells (madeCells Move.zero.enc.toArray (4 * 4)) 240)) := by
  obtain ⟨i, hi, hz, hsz, hby⟩ : ∃ i, Tryz.prog.info? 240 = some i ∧ i.zero = some (.agg Move.zero.enc.toArray) ∧ i.size = 4 ∧ i.bytes = 16 := by
    have hq : (Tryz.prog.info? 240).map (fun i => (i.zero, i.size, i.bytes)) = some (some (.agg Move.zero.enc.toArray), 4, 16) := by kernel_rfl
    cases hx : Tryz.prog.info? 240 with
    | none => rw [hx] at hq; simp at hq
    | some i =>
      rw [hx] at hq
      simp only [Option.map_some, Option.some.injEq, Prod.mk.injEq] at hq
      exact ⟨i, rfl, hq.1, hq.2.1, hq.2.2⟩
  have hr := run_make (P := Tryz.prog) w 46 240 i _ und46x hi hz .i64 .i64 0 4 (by omega) (by omega) (by rw [hby]; omega) (by omega)
  unfold makeOp
  rw [Sem.run_bind, hr, hsz]
  rfl
theorem bslice46 (w : World) (x : Move) : (bsliceOp 46 1 #[(0, .agg x.enc.toArray)]).run Tryz.prog w = .ok (.value (.slice (some ⟨w.heap.size, 0, none⟩) 1 1)) (w.alloc (.cells x.enc.toArray 240)) := bslice_one elMove (by omega) w x
set_option maxRecDepth 100000 in
theorem frame79m (f : Nat → Value) : frameN 79 f = #[f 0, f 1, f 2, f 3, f 4, f 5, f 6, f 7, f 8, f 9, f 10, f 11, f 12, f 13, f 14, f 15, f 16, f 17, f 18, f 19, f 20, f 21, f 22, f 23, f 24, f 25, f 26, f 27, f 28, f 29, f 30, f 31, f 32, f 33, f 34, f 35, f 36, f 37, f 38, f 39, f 40, f 41, f 42, f 43, f 44, f 45, f 46, f 47, f 48, f 49, f 50, f 51, f 52, f 53, f 54, f 55, f 56, f 57, f 58, f 59, f 60, f 61, f 62, f 63, f 64, f 65, f 66, f 67, f 68, f 69, f 70, f 71, f 72, f 73, f 74, f 75, f 76, f 77, f 78] := by kernel_rfl
attribute [local go_sem ↓] execOp_build execOp_bslice execOp_slice execOp_make
attribute [local go_sem] build240 make46 bslice46 x64_wrap
set_option maxRecDepth 20000 in
set_option maxHeartbeats 1000000 in
theorem moves_any (O : Own) (W : World) (bl : Nat) (L : PLg) (x : Tx) (hL : LedA O W bl L) : Calls Tryz.prog 62 #[.pointer (some ⟨bl, 0, none⟩), .agg x.enc.toArray] W fun e V => ∃ a n c, e = .returned (.tuple #[.slice a n c, .int .i64 (movF L x).2]) ∧ OutG Move.enc 4 240 W V a n c (movF L x).1 := by
  obtain ⟨Q, hQ⟩ : ∃ Q : Ending → World → Prop, Q = fun e V => ∃ a n c, e = .returned (.tuple #[.slice a n c, .int .i64 (movF L x).2]) ∧ OutG Move.enc 4 240 W V a n c (movF L x).1 := ⟨_, rfl⟩
  rw [← hQ]
  have HQ := hid_of hQ
  have HR := hid_of hL.rd
  obtain ⟨V3, hV3⟩ : ∃ V3 : World, V3 = (W.alloc (.cells x.enc.toArray 40)).alloc (.cells Plan.zero.enc.toArray 236) := ⟨_, rfl⟩
  have hx3 : W.Extends V3 := by rw [hV3]; exact extends_alloc (extends_alloc (ext_Ext (Ext.refl _)) _) _
  obtain ⟨O3, hO3⟩ : ∃ O3 : Own, O3 = lab (lab O W.heap.size .no) (W.heap.size + 1) (.a bl 8) := ⟨_, rfl⟩
  have hO : ∀ k, k < W.heap.size → O3 k = O k := fun k hk => by rw [hO3, lab_lt (by omega), lab_lt hk]
  have o2 : O3 (W.heap.size + 1) = .a bl 8 := by rw [hO3, lab_ge (by omega)]
  have kx3 : blk V3 W.heap.size = some x.enc := by rw [hV3, blk_alloc, if_neg (by simp only [World.size_alloc]; omega), blk_alloc, if_pos rfl]
  obtain ⟨bp, hbp⟩ : ∃ bp, bp = W.heap.size + 1 := ⟨_, rfl⟩
  have kp3 : blk V3 bp = some Plan.zero.enc := by rw [hV3, blk_alloc, if_pos (by rw [hbp]; simp only [World.size_alloc])]
  have kf3 : free V3 bp = true := by rw [hV3, free_alloc, if_pos (by rw [hbp]; simp only [World.size_alloc])]
  rw [← hbp] at o2
  have hL3 : LedA O3 V3 bl L := hL.grow hx3 hO
  have hju := judge_any V3 bl bp L (hL3.jrd o2) kp3 kf3 x
  have HBP : Hid (bp = W.heap.size + 1) := hbp
  have HX3 := hid_of hx3
  have HV3 := hid_of hV3
  clear hL hx3 hO3 hO hL3 hQ hV3 o2 kp3 kf3 hbp
  go_enter Tryz.func62, Tryz.ntmps62
  go_upto_region 2 with fail
  rw [← HV3.out, ← HBP.out]
  clear HV3
  go_wp2_with fail
  refine hju.mono ?_
  clear hju
  rintro e V4 ⟨rfl, kp4, kf4, hw4⟩
  dsimp only
  have hz : (judR L bl x).1 = (judR L 0 x).1 := by rw [judR_sw]; rfl
  have hx4 : W.Extends V4 := hw4.ext HX3.out (by have := HBP.out; omega)
  have HX4 := hid_of hx4
  clear hw4 hx4 kx3
  by_cases h0 : (judR L 0 x).1 = 0
  rotate_left 1
  · have HP : Hid (Q (.returned (.tuple #[.slice none 0 0, .int .i64 (judR L bl x).1])) V4) := by
      show Q _ _
      rw [HQ.out, hz]
      refine ⟨none, 0, 0, ?_, ?_⟩
      · rw [show movF L x = ([], (judR L 0 x).1) from if_neg h0]
      · rw [show movF L x = ([], (judR L 0 x).1) from if_neg h0]
        exact OutG.nil HX4.out
    have hc0 : (judR L bl x).1 ≠ 0 := by rw [hz]; exact h0
    clear hz h0 HQ kp4
    generalize (judR L bl x).1 = cc at HP hc0 ⊢
    have hcb : (cc != 0) = true := by simp [hc0]
    go_wp2_with fail
    try (first | go_ret | go_ret2 | go_ret3 | go_end0)
    exact HP.out
  have hjb : (judR L bl x).1 = 0 := hz.trans h0
  have hpl := (judR_ok hjb).2
  have hmv : movF L x = (srtF mvB (mvL L.st.now (purL L.st.now x)), 0) := if_pos h0
  obtain ⟨l, hl⟩ : ∃ l, l = purL L.st.now x := ⟨_, rfl⟩
  have hl4 : l.length ≤ 4 := by rw [hl]; exact purL_len _ _
  obtain ⟨E, hE⟩ : ∃ E, E = (judR L bl x).2.enc := ⟨_, rfl⟩
  have hpu : (judR L bl x).2.purse = pOf (some ⟨bl, 1, none⟩) l := by rw [hpl, plnF_purse, hl]
  have n1 : nth E 1 = some (.int .i64 (l.length : Nat)) := by rw [hE, Plan.purse_n_get, hpu]; rfl
  have hsE : E = splice E 0 (pOf (some ⟨bl, 1, none⟩) l).enc := by
    rw [hE, Plan.purse_set, ← hpu]
  have lE : E.length = (judR L bl x).2.enc.length := by rw [hE]
  rw [Plan.length_enc] at lE
  have hD : 14 ≤ E.length := by rw [lE]; omega
  have HC : Hid (∀ (i : Nat) (e : PE), l[i]? = some e → nth E (2 + i) = some (.int .u8 (w8 e.a)) ∧ nth E (6 + i) = some (.int .u8 (w8 e.t)) ∧ nth E (10 + i) = some (.int .u64 (w64 e.v))) := by
    intro i e he
    have hi4 : i < 4 := by have := (List.getElem?_eq_some_iff.1 he).1; omega
    refine ⟨?_, ?_, ?_⟩
    · rw [hsE, p_nth hD _ _ (by omega), Purse.account_at _ _ hi4]
      show some (Value.int .u8 (w8 (veA l)[i])) = _
      rw [veA_at he]
    · rw [hsE, p_nth hD _ _ (by omega), Purse.token_at _ _ hi4]
      show some (Value.int .u8 (w8 (veT l)[i])) = _
      rw [veT_at he]
    · rw [hsE, p_nth hD _ _ (by omega), Purse.amount_at _ _ hi4]
      show some (Value.int .u64 (w64 (veV l)[i])) = _
      rw [veV_at he]
  rw [← hE] at kp4
  rw [hjb]
  have HQ2 : Hid (∀ a n c V, OutG Move.enc 4 240 W V a n c (srtF mvB (mvL L.st.now l)) → Q (.returned (.tuple #[.slice a n c, .int .i64 0])) V) := by
    intro a n c V h
    rw [HQ.out, hmv, ← hl]
    exact ⟨a, n, c, rfl, h⟩
  clear hz h0 HQ hjb hpl hmv hl hE hpu hsE
  have hM := OutG.made (en := Move.enc) (sz := 4) (e := 240) W V4 HX4.out (madeCells Move.zero.enc.toArray (4 * 4)) 4 (size_madeCells _ _) (by omega)
  obtain ⟨V5, hV5⟩ : ∃ V5 : World, V5 = V4.alloc (.cells (madeCells Move.zero.enc.toArray (4 * 4)) 240) := ⟨_, rfl⟩
  have hx5 : V4.Extends V5 := by rw [hV5]; exact extends_alloc (ext_Ext (Ext.refl _)) _
  rw [← hV5] at hM
  have HI0 : Hid (0 ≤ l.length ∧ OutG Move.enc 4 240 W V5 (some ⟨V4.heap.size, 0, none⟩) 0 4 (mvL L.st.now (l.take 0)) ∧ blk V5 bp = some E ∧ ∀ k, (Value.slice (some ⟨V4.heap.size, 0, none⟩) 0 4).ownBlock = some k → bp < k) := by
    refine ⟨Nat.zero_le _, hM, (hx5.blk (blk_lt kp4)).trans kp4, fun k hk => ?_⟩
    have : V4.heap.size = k := Option.some.inj hk
    rw [← this]
    exact blk_lt kp4
  have HV5 := hid_of hV5
  clear hM hx5 hV5 kp4 kf4
  go_upto_region 6 with fail
  rw [← HV5.out]
  clear HV5
  go_wp2_with fail
  refine wp_loop_f 79 (movI W bl bp E L.st.now l) (fun f _ => l.length - (intOf (f 9)).toNat) rfl ⟨rfl, rfl, _, _, _, rfl, 0, rfl, HI0⟩ ?_
  clear HI0
  intro F V hrel
  obtain ⟨f0, f6, a, n, c, f8, i, f9, HI⟩ := hrel
  have H9 := hid_of f9
  rw [frame79m, f0, f6, f8, f9]
  clear f0 f6 f8 f9
  obtain ⟨hil, hO, kp, hown⟩ := HI.out
  clear HI
  by_cases hin : i < l.length
  rotate_left 1
  · have hin' : ¬ (i : Int) < (l.length : Int) := by omega
    have hO2 : OutG Move.enc 4 240 W V a n c (mvL L.st.now l) := by
      rw [List.take_of_length_le (by omega)] at hO; exact hO
    have hso := mvSort_any W V a n c _ hO2 (by rw [hO2.2.2]; unfold mvL; have := List.length_filterMap_le (mvOf L.st.now) l; omega)
    clear hO hO2 hin hil hown H9 HC
    generalize l.length = ll at n1 hin' hl4
    go_wp2_with fail
    refine hso.mono ?_
    clear hso
    rintro e V6 ⟨rfl, hO6, -⟩
    dsimp only
    have HP := hid_of (HQ2.out _ _ _ _ hO6)
    clear hO6
    go_wp2_with fail
    try (first | go_ret | go_ret2 | go_ret3 | go_end0)
    exact HP.out
  obtain ⟨e0, he0⟩ : ∃ e, l[i]? = some e := ⟨_, List.getElem?_eq_getElem hin⟩
  obtain ⟨c1, c2, c3⟩ := HC.out i e0 he0
  have hin' : (i : Int) < (l.length : Int) := by omega
  have hi4 : (i : Int) < 4 := by omega
  have p0 : (0 : Int) ≤ (i : Int) := by omega
  have p2 : ((i : Int)).toNat = i := by omega
  have hi9 : (i : Int) + 1 ≤ 1000001 := by omega
  have HL : Hid (i < l.length ∧ l.length ≤ 4) := ⟨hin, hl4⟩
  have htk : l.take (i + 1) = l.take i ++ [e0] := by
    obtain ⟨g1, g2⟩ := List.getElem?_eq_some_iff.1 he0
    rw [← List.take_append_getElem g1, g2]
  have HWE : Hid (W.Extends V) := hO.2.1
  have HO := hid_of hO
  have HOWN := hid_of hown
  have HTK := hid_of htk
  have k4 := kp
  obtain ⟨bf, hbf⟩ : ∃ bf, bf = ldF L.st.now (keyB e0.a e0.t) := ⟨_, rfl⟩
  have HBF := hid_of hbf
  have hml : (mvL L.st.now (l.take i)).length ≤ 4 := by
    unfold mvL
    have := List.length_filterMap_le (mvOf L.st.now) (l.take i)
    rw [List.length_take] at this
    omega
  have HML := hid_of hml
  clear hO hown htk he0 hil hin hbf hml kp
  go_upto_region 9 with fail
  repeat go_step
  refine wp_region_F 14 (fun W' => blk W' bp = some E) (by kernel_rfl) k4 (fun hHeld => ?_)
  refine wpAnyF_take (i := 0) (oi := ⟨_, _, _, _, _, _⟩) (v := ?_) rfl (by kernel_rfl) (by kernel_rfl) (by kernel_rfl) (by kernel_rfl) (by kernel_rfl) (fun _ _ _ h => h) (Or.inl ⟨by rfl, ?_⟩) (by assumption) ?_
  rotate_left 1
  · intro W' hSw
    go_simp
    try with_reducible rfl
  try simp only [Act.put, List.setIfInBounds_toArray, List.set_cons_zero, List.set_cons_succ]
  refine wpAnyF_take (i := 1) (oi := ⟨_, _, _, _, _, _⟩) (v := ?_) rfl (by kernel_rfl) (by kernel_rfl) (by kernel_rfl) (by kernel_rfl) (by kernel_rfl) (fun _ _ _ h => h) (Or.inl ⟨by rfl, ?_⟩) (by assumption) ?_
  rotate_left 1
  · intro W' hSw
    go_simp
    try with_reducible rfl
  try simp only [Act.put, List.setIfInBounds_toArray, List.set_cons_zero, List.set_cons_succ]
  refine wpAnyF_take (i := 2) (oi := ⟨_, _, _, _, _, _⟩) (v := ?_) rfl (by kernel_rfl) (by kernel_rfl) (by kernel_rfl) (by kernel_rfl) (by kernel_rfl) (fun _ _ _ h => h) (Or.inl ⟨by rfl, ?_⟩) (by assumption) ?_
  rotate_left 1
  · intro W' hSw
    go_simp
    try with_reducible rfl
  try simp only [Act.put, List.setIfInBounds_toArray, List.set_cons_zero, List.set_cons_succ]
  refine wpAnyF_take (i := 3) (oi := ⟨_, _, _, _, _, _⟩) (v := ?_) rfl (by kernel_rfl) (by kernel_rfl) (by kernel_rfl) (by kernel_rfl) (by kernel_rfl) (fun _ _ _ h => h) (Or.inl ⟨by rfl, ?_⟩) (by assumption) ?_
  rotate_left 1
  · intro W' hSw
    go_simp
    try with_reducible rfl
  try simp only [Act.put, List.setIfInBounds_toArray, List.set_cons_zero, List.set_cons_succ]
  refine wpAnyF_take (i := 4) (oi := ⟨_, _, _, _, _, _⟩) (v := ?_) rfl (by kernel_rfl) (by kernel_rfl) (by kernel_rfl) (by kernel_rfl) (by kernel_rfl) (fun _ _ _ h => h) (Or.inl ⟨by rfl, ?_⟩) (by assumption) ?_
  rotate_left 1
  · intro W' hSw
    go_simp
    try with_reducible rfl
  try simp only [Act.put, List.setIfInBounds_toArray, List.set_cons_zero, List.set_cons_succ]
  refine wpAnyF_take (i := 5) (oi := ⟨_, _, _, _, _, _⟩) (v := ?_) rfl (by kernel_rfl) (by kernel_rfl) (by kernel_rfl) (by kernel_rfl) (by kernel_rfl) (fun _ _ _ h => h) (Or.inl ⟨by rfl, ?_⟩) (by assumption) ?_
  rotate_left 1
  · intro W' hSw
    go_simp
    try with_reducible rfl
  try simp only [Act.put, List.setIfInBounds_toArray, List.set_cons_zero, List.set_cons_succ]
  refine wpAnyF_take (i := 6) (oi := ⟨_, _, _, _, _, _⟩) (v := ?_) rfl (by kernel_rfl) (by kernel_rfl) (by kernel_rfl) (by kernel_rfl) (by kernel_rfl) (fun _ _ _ h => h) (Or.inl ⟨by rfl, ?_⟩) (by assumption) ?_
  rotate_left 1
  · intro W' hSw
    go_simp
    try with_reducible rfl
  try simp only [Act.put, List.setIfInBounds_toArray, List.set_cons_zero, List.set_cons_succ]
  refine wpAnyF_take (i := 7) (oi := ⟨_, _, _, _, _, _⟩) (v := ?_) rfl (by kernel_rfl) (by kernel_rfl) (by kernel_rfl) (by kernel_rfl) (by kernel_rfl) (fun _ _ _ h => h) (Or.inl ⟨by rfl, ?_⟩) (by assumption) ?_
  rotate_left 1
  · intro W' hSw
    go_simp
    try with_reducible rfl
  try simp only [Act.put, List.setIfInBounds_toArray, List.set_cons_zero, List.set_cons_succ]
  refine wpAnyF_take (i := 8) (oi := ⟨_, _, _, _, _, _⟩) (v := ?_) rfl (by kernel_rfl) (by kernel_rfl) (by kernel_rfl) (by kernel_rfl) (by kernel_rfl) (fun _ _ _ h => h) (Or.inl ⟨by rfl, ?_⟩) (by assumption) ?_
  rotate_left 1
  · intro W' hSw
    go_simp
    try with_reducible rfl
  try simp only [Act.put, List.setIfInBounds_toArray, List.set_cons_zero, List.set_cons_succ]
  refine wpAnyF_take (i := 9) (oi := ⟨_, _, _, _, _, _⟩) (v := ?_) rfl (by kernel_rfl) (by kernel_rfl) (by kernel_rfl) (by kernel_rfl) (by kernel_rfl) (fun _ _ _ h => h) (Or.inl ⟨by rfl, ?_⟩) (by assumption) ?_
  rotate_left 1
  · intro W' hSw
    go_simp
    try with_reducible rfl
  try simp only [Act.put, List.setIfInBounds_toArray, List.set_cons_zero, List.set_cons_succ]
  refine wpAnyF_take (i := 10) (oi := ⟨_, _, _, _, _, _⟩) (v := ?_) rfl (by kernel_rfl) (by kernel_rfl) (by kernel_rfl) (by kernel_rfl) (by kernel_rfl) (fun _ _ _ h => h) (Or.inl ⟨by rfl, ?_⟩) (by assumption) ?_
  rotate_left 1
  · intro W' hSw
    go_simp
    try with_reducible rfl
  try simp only [Act.put, List.setIfInBounds_toArray, List.set_cons_zero, List.set_cons_succ]
  refine wpAnyF_take (i := 11) (oi := ⟨_, _, _, _, _, _⟩) (v := ?_) rfl (by kernel_rfl) (by kernel_rfl) (by kernel_rfl) (by kernel_rfl) (by kernel_rfl) (fun _ _ _ h => h) (Or.inl ⟨by rfl, ?_⟩) (by assumption) ?_
  rotate_left 1
  · intro W' hSw
    go_simp
    try with_reducible rfl
  try simp only [Act.put, List.setIfInBounds_toArray, List.set_cons_zero, List.set_cons_succ]
  refine wpAnyF_take (i := 12) (oi := ⟨_, _, _, _, _, _⟩) (v := ?_) rfl (by kernel_rfl) (by kernel_rfl) (by kernel_rfl) (by kernel_rfl) (by kernel_rfl) (fun _ _ _ h => h) (Or.inl ⟨by rfl, ?_⟩) (by assumption) ?_
  rotate_left 1
  · intro W' hSw
    go_simp
    try with_reducible rfl
  try simp only [Act.put, List.setIfInBounds_toArray, List.set_cons_zero, List.set_cons_succ]
  refine wpAnyF_one (o := ⟨_, _, _, _, _, _⟩) (i := 13) (by kernel_rfl) rfl rfl (fun K' hK => ?_)
  go_simp
  refine (balance_any _ bl 1 L.st.now (HR.out.ext (HWE.out.trans (extends_drewN (ext_Ext (Ext.refl _)) 1))) e0.a e0.t).mono ?_
  rintro e9 V5 ⟨rfl, he5⟩
  dsimp only
  have k5 := (he5.blk (blk_lt k4)).trans k4
  have HX5 := hid_of he5
  clear he5
  refine hK.out _ _ k5 (fun hHeld => ?_)
  clear hK K'
  try simp only [Act.put, List.setIfInBounds_toArray, List.set_cons_zero, List.set_cons_succ]
  refine wpAnyF_last (o := ⟨_, _, _, _, _, _⟩) (by kernel_rfl) rfl (fun K' hK => ?_)
  go_simp
  refine hK.out _ _ ?_
  clear hK K'
  try simp only [Act.put, List.setIfInBounds_toArray, List.set_cons_zero, List.set_cons_succ]
  refine wpAnyF_done (by kernel_rfl) ?_ _
  clear hHeld k4
  rw [← HBF.out]
  have HX5 := hid_of ((extends_drewN (ext_Ext (Ext.refl V)) 1).trans HX5.out)
  by_cases hq : w64 e0.v = w64 bf
  · have hqb : (w64 e0.v == w64 bf) = true := by simp [hq]
    have HI1 : Hid (i + 1 ≤ l.length ∧ OutG Move.enc 4 240 W V5 a n c (mvL L.st.now (l.take (i + 1))) ∧ blk V5 bp = some E ∧ ∀ k, (Value.slice a n c).ownBlock = some k → bp < k) := by
      refine ⟨HL.out.1, ?_, k5, HOWN.out⟩
      have e1 : mvL L.st.now (l.take (i + 1)) = mvL L.st.now (l.take i) := by
        unfold mvL
        rw [HTK.out, List.filterMap_append]
        have : mvOf L.st.now e0 = none := by unfold mvOf; rw [← HBF.out]; exact if_pos hq
        simp [this]
      rw [e1]
      exact HO.out.ext HX5.out
    clear HX5
    go_wp2_with fail
    refine ⟨rfl, rfl, ⟨rfl, rfl, a, n, c, rfl, i + 1, rfl, HI1⟩, ?_⟩
    show l.length - ((i : Int) + 1).toNat < l.length - (intOf (F 9)).toNat
    rw [H9.out]
    show l.length - (i + 1) < l.length - i
    have := HL.out.1
    omega
  have hqb : (w64 e0.v == w64 bf) = false := by simp [hq]
  obtain ⟨bm, hbm⟩ : ∃ bm, bm = V5.heap.size := ⟨_, rfl⟩
  obtain ⟨m, hm⟩ : ∃ m : Move, m = if w64 e0.v < w64 bf then ⟨e0.a, e0.t, true, bf - e0.v⟩ else ⟨e0.a, e0.t, false, e0.v - bf⟩ := ⟨_, rfl⟩
  obtain ⟨V6, hV6⟩ : ∃ V6 : World, V6 = (V5.alloc (.cells Move.zero.enc.toArray 240)).drew := ⟨_, rfl⟩
  have hx6 : V5.Extends V6 := by rw [hV6]; exact extends_drewN (extends_alloc (ext_Ext (Ext.refl _)) _) 1
  have hbm6 : blk V6 bm = some Move.zero.enc := by rw [hV6]; show blk (V5.alloc _) bm = _; rw [blk_alloc, if_pos hbm]
  have hfm6 : free V6 bm = true := by rw [hV6]; show free (V5.alloc _) bm = _; rw [free_alloc, if_pos hbm]
  have hne : ¬ bp = bm := by rw [hbm]; have := blk_lt k5; omega
  have k7 : blk V6 bp = some E := (hx6.blk (blk_lt k5)).trans k5
  have HV6 := hid_of hV6
  have HBM := hid_of hbm
  have k8 : blk V5.drew bp = some E := k5
  -- the row behind the store of the move
  have HAP : Hid (∀ V7, V7 = put V6 bm m.enc → ∃ a' c' V8, (Builtin.append_ #[46, 46] 46 #[.slice a n c, .slice (some ⟨V7.heap.size, 0, none⟩) 1 1]).run Tryz.prog (V7.alloc (.cells m.enc.toArray 240)) = .ok (.slice a' (n + 1) c') V8 ∧ i + 1 ≤ l.length ∧ OutG Move.enc 4 240 W V8 a' (n + 1) c' (mvL L.st.now (l.take (i + 1))) ∧ blk V8 bp = some E ∧ ∀ k, (Value.slice a' (n + 1) c').ownBlock = some k → bp < k) := by
    intro V7 h7
    have hx7 : V5.Extends V7 := by rw [h7]; exact extends_put hx6 (by rw [hbm]; exact Nat.le_refl _) _
    have hO7 := (HO.out.ext HX5.out).ext hx7
    obtain ⟨a', c', V8, hr8, hO8, hg8⟩ := hO7.app elMove m (by have := HML.out; omega) m.enc.toArray rfl 1
    have kp7 : blk V7 bp = some E := by rw [h7, blk_put, if_neg hne]; exact k7
    refine ⟨a', c', V8, hr8, HL.out.1, ?_, ?_, fun k hk => ?_⟩
    · have e1 : mvL L.st.now (l.take (i + 1)) = mvL L.st.now (l.take i) ++ [m] := by
        unfold mvL
        rw [HTK.out, List.filterMap_append]
        have : mvOf L.st.now e0 = some m := by
          unfold mvOf
          rw [← HBF.out, if_neg hq, hm]
          split <;> rfl
        simp [this]
      rw [e1]
      exact hO8
    · refine (blk_of_heap (hg8.block bp (blk_lt kp7) (fun e => ?_))).trans kp7
      exact Nat.lt_irrefl _ (HOWN.out bp e)
    · rcases hg8.own k hk with g | g
      · exact HOWN.out k g
      · have := blk_lt kp7
        omega
  clear HO HOWN HX5 hx6 hV6 hbm HTK HBF hD
  go_upto_region 12 with fail
  repeat go_step
  refine wp_region_F 12 (fun W' => blk W' bp = some E) (by kernel_rfl) k8 (fun hHeld => ?_)
  refine wpAnyF_take (i := 0) (oi := ⟨_, _, _, _, _, _⟩) (v := ?_) rfl (by kernel_rfl) (by kernel_rfl) (by kernel_rfl) (by kernel_rfl) (by kernel_rfl) (fun _ _ _ h => h) (Or.inl ⟨by rfl, ?_⟩) (by assumption) ?_
  rotate_left 1
  · intro W' hSw
    go_simp
    try with_reducible rfl
  try simp only [Act.put, List.setIfInBounds_toArray, List.set_cons_zero, List.set_cons_succ]
  refine wpAnyF_take (i := 1) (oi := ⟨_, _, _, _, _, _⟩) (v := ?_) rfl (by kernel_rfl) (by kernel_rfl) (by kernel_rfl) (by kernel_rfl) (by kernel_rfl) (fun _ _ _ h => h) (Or.inl ⟨by rfl, ?_⟩) (by assumption) ?_
  rotate_left 1
  · intro W' hSw
    go_simp
    try with_reducible rfl
  try simp only [Act.put, List.setIfInBounds_toArray, List.set_cons_zero, List.set_cons_succ]
  refine wpAnyF_take (i := 2) (oi := ⟨_, _, _, _, _, _⟩) (v := ?_) rfl (by kernel_rfl) (by kernel_rfl) (by kernel_rfl) (by kernel_rfl) (by kernel_rfl) (fun _ _ _ h => h) (Or.inl ⟨by rfl, ?_⟩) (by assumption) ?_
  rotate_left 1
  · intro W' hSw
    go_simp
    try with_reducible rfl
  try simp only [Act.put, List.setIfInBounds_toArray, List.set_cons_zero, List.set_cons_succ]
  refine wpAnyF_take (i := 3) (oi := ⟨_, _, _, _, _, _⟩) (v := ?_) rfl (by kernel_rfl) (by kernel_rfl) (by kernel_rfl) (by kernel_rfl) (by kernel_rfl) (fun _ _ _ h => h) (Or.inl ⟨by rfl, ?_⟩) (by assumption) ?_
  rotate_left 1
  · intro W' hSw
    go_simp
    try with_reducible rfl
  try simp only [Act.put, List.setIfInBounds_toArray, List.set_cons_zero, List.set_cons_succ]
  refine wpAnyF_take (i := 4) (oi := ⟨_, _, _, _, _, _⟩) (v := ?_) rfl (by kernel_rfl) (by kernel_rfl) (by kernel_rfl) (by kernel_rfl) (by kernel_rfl) (fun _ _ _ h => h) (Or.inl ⟨by rfl, ?_⟩) (by assumption) ?_
  rotate_left 1
  · intro W' hSw
    go_simp
    try with_reducible rfl
  try simp only [Act.put, List.setIfInBounds_toArray, List.set_cons_zero, List.set_cons_succ]
  refine wpAnyF_take (i := 5) (oi := ⟨_, _, _, _, _, _⟩) (v := ?_) rfl (by kernel_rfl) (by kernel_rfl) (by kernel_rfl) (by kernel_rfl) (by kernel_rfl) (fun _ _ _ h => h) (Or.inl ⟨by rfl, ?_⟩) (by assumption) ?_
  rotate_left 1
  · intro W' hSw
    go_simp
    try with_reducible rfl
  try simp only [Act.put, List.setIfInBounds_toArray, List.set_cons_zero, List.set_cons_succ]
  refine wpAnyF_take (i := 6) (oi := ⟨_, _, _, _, _, _⟩) (v := ?_) rfl (by kernel_rfl) (by kernel_rfl) (by kernel_rfl) (by kernel_rfl) (by kernel_rfl) (fun _ _ _ h => h) (Or.inl ⟨by rfl, ?_⟩) (by assumption) ?_
  rotate_left 1
  · intro W' hSw
    go_simp
    try with_reducible rfl
  try simp only [Act.put, List.setIfInBounds_toArray, List.set_cons_zero, List.set_cons_succ]
  refine wpAnyF_take (i := 7) (oi := ⟨_, _, _, _, _, _⟩) (v := ?_) rfl (by kernel_rfl) (by kernel_rfl) (by kernel_rfl) (by kernel_rfl) (by kernel_rfl) (fun _ _ _ h => h) (Or.inl ⟨by rfl, ?_⟩) (by assumption) ?_
  rotate_left 1
  · intro W' hSw
    go_simp
    try with_reducible rfl
  try simp only [Act.put, List.setIfInBounds_toArray, List.set_cons_zero, List.set_cons_succ]
  refine wpAnyF_take (i := 8) (oi := ⟨_, _, _, _, _, _⟩) (v := ?_) rfl (by kernel_rfl) (by kernel_rfl) (by kernel_rfl) (by kernel_rfl) (by kernel_rfl) (fun _ _ _ h => h) (Or.inl ⟨by rfl, ?_⟩) (by assumption) ?_
  rotate_left 1
  · intro W' hSw
    go_simp
    try with_reducible rfl
  try simp only [Act.put, List.setIfInBounds_toArray, List.set_cons_zero, List.set_cons_succ]
  refine wpAnyF_take (i := 9) (oi := ⟨_, _, _, _, _, _⟩) (v := ?_) rfl (by kernel_rfl) (by kernel_rfl) (by kernel_rfl) (by kernel_rfl) (by kernel_rfl) (fun _ _ _ h => h) (Or.inl ⟨by rfl, ?_⟩) (by assumption) ?_
  rotate_left 1
  · intro W' hSw
    go_simp
    try with_reducible rfl
  try simp only [Act.put, List.setIfInBounds_toArray, List.set_cons_zero, List.set_cons_succ]
  refine wpAnyF_take (i := 10) (oi := ⟨_, _, _, _, _, _⟩) (v := ?_) rfl (by kernel_rfl) (by kernel_rfl) (by kernel_rfl) (by kernel_rfl) (by kernel_rfl) (fun _ _ _ h => h) (Or.inl ⟨by rfl, ?_⟩) (by assumption) ?_
  rotate_left 1
  · intro W' hSw
    go_simp
    try with_reducible rfl
  try simp only [Act.put, List.setIfInBounds_toArray, List.set_cons_zero, List.set_cons_succ]
  refine wpAnyF_one (o := ⟨_, _, _, _, _, _⟩) (i := 11) (by kernel_rfl) rfl rfl (fun K' hK => ?_)
  go_simp
  rw [← HV6.out, ← HBM.out]
  refine hK.out _ _ k7 (fun hHeld => ?_)
  clear hK K'
  try simp only [Act.put, List.setIfInBounds_toArray, List.set_cons_zero, List.set_cons_succ]
  refine wpAnyF_last (o := ⟨_, _, _, _, _, _⟩) (by kernel_rfl) rfl (fun K' hK => ?_)
  go_simp
  refine hK.out _ _ ?_
  clear hK K'
  try simp only [Act.put, List.setIfInBounds_toArray, List.set_cons_zero, List.set_cons_succ]
  refine wpAnyF_done (by kernel_rfl) ?_ _
  clear hHeld k8
  by_cases hlt : w64 e0.v < w64 bf
  · have hme : m = ⟨e0.a, e0.t, true, bf - e0.v⟩ := by rw [hm, if_pos hlt]
    have hsb : IntKind.u64.wrap (w64 bf - w64 e0.v) = w64 (bf - e0.v) := x64_sub bf e0.v
    obtain ⟨a', c', V8, hr8, h8⟩ := HAP.out _ rfl
    have HI1 := hid_of h8
    clear h8 HAP hm
    subst hme
    obtain ⟨V7, hV7⟩ : ∃ V7 : World, V7 = put V6 bm (Move.mk e0.a e0.t true (bf - e0.v)).enc := ⟨_, rfl⟩
    rw [← hV7] at hr8
    have k7b : blk V7 bm = some (Move.mk e0.a e0.t true (bf - e0.v)).enc := by rw [hV7, blk_put, if_pos rfl, hbm6]; rfl
    have HV7 := hid_of hV7
    clear hV7
    go_upto_region 17 with fail
    rw [← HV7.out]
    clear HV7
    go_wp2_with (at_builtin; refine wpList_append_run rfl _ _ 46 rfl _ _ _ _ rfl rfl hr8 ?_)
    refine ⟨rfl, rfl, ⟨rfl, rfl, a', n + 1, c', rfl, i + 1, rfl, HI1⟩, ?_⟩
    show l.length - ((i : Int) + 1).toNat < l.length - (intOf (F 9)).toNat
    rw [H9.out]
    show l.length - (i + 1) < l.length - i
    have := HL.out.1
    omega
  · have hme : m = ⟨e0.a, e0.t, false, e0.v - bf⟩ := by rw [hm, if_neg hlt]
    have hsb : IntKind.u64.wrap (w64 e0.v - w64 bf) = w64 (e0.v - bf) := x64_sub e0.v bf
    obtain ⟨a', c', V8, hr8, h8⟩ := HAP.out _ rfl
    have HI1 := hid_of h8
    clear h8 HAP hm
    subst hme
    obtain ⟨V7, hV7⟩ : ∃ V7 : World, V7 = put V6 bm (Move.mk e0.a e0.t false (e0.v - bf)).enc := ⟨_, rfl⟩
    rw [← hV7] at hr8
    have k7b : blk V7 bm = some (Move.mk e0.a e0.t false (e0.v - bf)).enc := by rw [hV7, blk_put, if_pos rfl, hbm6]; rfl
    have HV7 := hid_of hV7
    clear hV7
    go_upto_region 17 with fail
    rw [← HV7.out]
    clear HV7
    go_wp2_with (at_builtin; refine wpList_append_run rfl _ _ 46 rfl _ _ _ _ rfl rfl hr8 ?_)
    refine ⟨rfl, rfl, ⟨rfl, rfl, a', n + 1, c', rfl, i + 1, rfl, HI1⟩, ?_⟩
    show l.length - ((i : Int) + 1).toNat < l.length - (intOf (F 9)).toNat
    rw [H9.out]
    show l.length - (i + 1) < l.length - i
    have := HL.out.1
    omega
end Go.Proofs.Qxb6500786aGreat
