import Derived.Test.Qxb6500786aGreatKb

import Derived.StillTailTactics
import Derived.Deep.QuietTactic
import Derived.BigQuiet
import Derived.Deep.RegionHeld
import Derived.Deep.CutRange
import Derived.Laws.ResultCell
import Derived.Laws.Rows
import Derived.DeepKeys
import Derived.DataBytes
import Derived.Laws.StructEq
import Derived.Laws.AppendOwn
import Derived.Laws.MakeOwn
import Derived.Lib.AppendStr
set_option linter.unusedSimpArgs false
set_option linter.unusedVariables false
namespace Go.Proofs.Qxb6500786aGreat
open Go.RowKit Go.Blk
attribute [local go_sem ↓] execOp_load execOp_store execOp_alloc
attribute [local go_sem] Tryz.ld24 Tryz.st24 Tryz.ld36 Tryz.st36 Tryz.ld28 Tryz.st28 Tryz.ld32 Tryz.st32 Tryz.ld33 Tryz.st33 Tryz.ld34 Tryz.st34 Tryz.ld5 Tryz.st5 Tryz.ld31 Tryz.st31 Tryz.ld30 Tryz.st30 Tryz.ld41 Tryz.st41 Tryz.ld44 Tryz.st44 Tryz.ld4 Tryz.st4 Tryz.ld173 Tryz.st173 Tryz.ld174 Tryz.st174 Tryz.ld95 Tryz.st95 Tryz.ld45 Tryz.st45 Tryz.ld207 Tryz.st207 Tryz.ld3 Tryz.st3 Tryz.ld189 Tryz.st189 Tryz.ld2 Tryz.st2 Tryz.ld9 Tryz.st9 Tryz.ld12 Tryz.st12 Tryz.ld21 Tryz.st21 Tryz.ld22 Tryz.st22 Tryz.ld46 Tryz.st46 Tryz.ld92 Tryz.st92 Tryz.ld94 Tryz.st94 Tryz.ld96 Tryz.st96 Tryz.ld97 Tryz.st97 Tryz.ld105 Tryz.st105 Tryz.ld117 Tryz.st117 Tryz.ld122 Tryz.st122 Tryz.ld123 Tryz.st123 Tryz.ld133 Tryz.st133 Tryz.ld155 Tryz.st155 Tryz.ld163 Tryz.st163 Tryz.ld190 Tryz.st190 Tryz.ld197 Tryz.st197 Tryz.ld201 Tryz.st201 Tryz.ld202 Tryz.st202 Tryz.ld209 Tryz.st209 Tryz.ld216 Tryz.st216 Tryz.ld230 Tryz.st230 Tryz.ld238 Tryz.st238 Tryz.ld242 Tryz.st242 Tryz.ld251 Tryz.st251 Tryz.ld260 Tryz.st260 Tryz.ld286 Tryz.st286 Tryz.ld292 Tryz.st292 Tryz.ld298 Tryz.st298 Tryz.ld309 Tryz.st309 Tryz.ld35 Tryz.st35 Tryz.ld48 Tryz.st48 Tryz.ld47 Tryz.st47 Tryz.ld79 Tryz.st79 Tryz.ld177 Tryz.st177 Tryz.ld180 Tryz.st180 Tryz.ld231 Tryz.st231 Tryz.ld232 Tryz.st232 Tryz.ld26 Tryz.st26 Tryz.ld38 Tryz.st38 Tryz.ld40 Tryz.st40 Tryz.ld43 Tryz.st43 Tryz.ld50 Tryz.st50 Tryz.ld52 Tryz.st52 Tryz.ld54 Tryz.st54 Tryz.ld81 Tryz.st81 Tryz.ld112 Tryz.st112 Tryz.ld120 Tryz.st120 Tryz.ld176 Tryz.st176 Tryz.ld179 Tryz.st179 Tryz.ld182 Tryz.st182 Tryz.ld184 Tryz.st184 Tryz.ld234 Tryz.st234 Tryz.ld236 Tryz.st236 Tryz.ld240 Tryz.st240 Tryz.ld246 Tryz.st246 Tryz.ld249 Tryz.st249 Tryz.al35 Tryz.al48 Tryz.al47 Tryz.al79 Tryz.al177 Tryz.al180 Tryz.al231 Tryz.al232 Tryz.al26 Tryz.al38 Tryz.al40 Tryz.al43 Tryz.al50 Tryz.al52 Tryz.al54 Tryz.al81 Tryz.al112 Tryz.al120 Tryz.al176 Tryz.al179 Tryz.al182 Tryz.al184 Tryz.al234 Tryz.al236 Tryz.al240 Tryz.al246 Tryz.al249
attribute [local go_sem] Player.length_enc Player.ok_enc Player.all_get Player.all_set Player.hand_get Player.hand_set Player.aside_get Player.aside_set Message.length_enc Message.ok_enc Message.all_get Message.all_set Message.kind_get Message.kind_set Message.from__get Message.from__set Message.to__get Message.to__set Message.sender_get Message.sender_set Message.receiver_get Message.receiver_set Message.seq_get Message.seq_set Message.token_get Message.token_set Message.amount_get Message.amount_set Message.size_get Message.size_set Message.payload_get Message.payload_set Tx.length_enc Tx.ok_enc Tx.all_get Tx.all_set Tx.kind_get Tx.kind_set Tx.chain_get Tx.chain_set Tx.from__get Tx.from__set Tx.nonce_get Tx.nonce_set Tx.fee_get Tx.fee_set Tx.to__get Tx.to__set Tx.dest_get Tx.dest_set Tx.token_get Tx.token_set Tx.amount_get Tx.amount_set Tx.size_get Tx.size_set Tx.payload_get Tx.payload_set Tx.msg_get Tx.msg_set Tx.msg_kind_get Tx.msg_kind_set Tx.msg_from__get Tx.msg_from__set Tx.msg_to__get Tx.msg_to__set Tx.msg_sender_get Tx.msg_sender_set Tx.msg_receiver_get Tx.msg_receiver_set Tx.msg_seq_get Tx.msg_seq_set Tx.msg_token_get Tx.msg_token_set Tx.msg_amount_get Tx.msg_amount_set Tx.msg_size_get Tx.msg_size_set Tx.msg_payload_get Tx.msg_payload_set GOp.length_enc GOp.ok_enc GOp.all_get GOp.all_set GOp.kind_get GOp.kind_set GOp.tx_get GOp.tx_set GOp.txs_get GOp.txs_set GOp.gas_get GOp.gas_set GOp.acct_get GOp.acct_set GOp.token_get GOp.token_set GOp.chain_get GOp.chain_set GOp.seq_get GOp.seq_set GOp.tx_kind_get GOp.tx_kind_set GOp.tx_chain_get GOp.tx_chain_set GOp.tx_from__get GOp.tx_from__set GOp.tx_nonce_get GOp.tx_nonce_set GOp.tx_fee_get GOp.tx_fee_set GOp.tx_to__get GOp.tx_to__set GOp.tx_dest_get GOp.tx_dest_set GOp.tx_token_get GOp.tx_token_set GOp.tx_amount_get GOp.tx_amount_set GOp.tx_size_get GOp.tx_size_set GOp.tx_payload_get GOp.tx_payload_set GOp.tx_msg_get GOp.tx_msg_set GOp.tx_msg_kind_get GOp.tx_msg_kind_set GOp.tx_msg_from__get GOp.tx_msg_from__set GOp.tx_msg_to__get GOp.tx_msg_to__set GOp.tx_msg_sender_get GOp.tx_msg_sender_set GOp.tx_msg_receiver_get GOp.tx_msg_receiver_set GOp.tx_msg_seq_get GOp.tx_msg_seq_set GOp.tx_msg_token_get GOp.tx_msg_token_set GOp.tx_msg_amount_get GOp.tx_msg_amount_set GOp.tx_msg_size_get GOp.tx_msg_size_set GOp.tx_msg_payload_get GOp.tx_msg_payload_set Summary.length_enc Summary.ok_enc Summary.all_get Summary.all_set Summary.height_get Summary.height_set Summary.txs_get Summary.txs_set Summary.gas_get Summary.gas_set Summary.fees_get Summary.fees_set Summary.sent_get Summary.sent_set Summary.took_get Summary.took_set Summary.minted_get Summary.minted_set Summary.burned_get Summary.burned_set Summary.root_get Summary.root_set Detail.length_enc Detail.ok_enc Detail.all_get Detail.all_set Detail.code_get Detail.code_set Detail.have__get Detail.have__set Detail.need_get Detail.need_set Slot.length_enc Slot.ok_enc Slot.all_get Slot.all_set Slot.nonce_get Slot.nonce_set Slot.balances_get Slot.balances_set Tree.length_enc Tree.ok_enc Tree.all_get Tree.all_set Tree.leaves_get Tree.leaves_set Mark.length_enc Mark.ok_enc Mark.all_get Mark.all_set Mark.from__get Mark.from__set Mark.seq_get Mark.seq_set Receipt.length_enc Receipt.ok_enc Receipt.all_get Receipt.all_set Receipt.code_get Receipt.code_set Receipt.hash_get Receipt.hash_set Receipt.index_get Receipt.index_set Receipt.gas_get Receipt.gas_set Receipt.fee_get Receipt.fee_set Receipt.hasSent_get Receipt.hasSent_set Receipt.sent_get Receipt.sent_set Receipt.hasTook_get Receipt.hasTook_set Receipt.took_get Receipt.took_set Receipt.sent_kind_get Receipt.sent_kind_set Receipt.sent_from__get Receipt.sent_from__set Receipt.sent_to__get Receipt.sent_to__set Receipt.sent_sender_get Receipt.sent_sender_set Receipt.sent_receiver_get Receipt.sent_receiver_set Receipt.sent_seq_get Receipt.sent_seq_set Receipt.sent_token_get Receipt.sent_token_set Receipt.sent_amount_get Receipt.sent_amount_set Receipt.sent_size_get Receipt.sent_size_set Receipt.sent_payload_get Receipt.sent_payload_set Receipt.took_kind_get Receipt.took_kind_set Receipt.took_from__get Receipt.took_from__set Receipt.took_to__get Receipt.took_to__set Receipt.took_sender_get Receipt.took_sender_set Receipt.took_receiver_get Receipt.took_receiver_set Receipt.took_seq_get Receipt.took_seq_set Receipt.took_token_get Receipt.took_token_set Receipt.took_amount_get Receipt.took_amount_set Receipt.took_size_get Receipt.took_size_set Receipt.took_payload_get Receipt.took_payload_set Store.length_enc Store.ok_enc Store.all_get Store.all_set Store.now_get Store.now_set Store.saved_get Store.saved_set GState.length_enc GState.ok_enc GState.all_get GState.all_set GState.kv_get GState.kv_set GState.tree_get GState.tree_set GState.stale_get GState.stale_set GState.touched_get GState.touched_set GState.kv_now_get GState.kv_now_set GState.kv_saved_get GState.kv_saved_set GState.tree_leaves_get GState.tree_leaves_set History.length_enc History.ok_enc History.all_get History.all_set History.ring_get History.ring_set History.closed_get History.closed_set Ledger.length_enc Ledger.ok_enc Ledger.all_get Ledger.all_set Ledger.chain_get Ledger.chain_set Ledger.st_get Ledger.st_set Ledger.height_get Ledger.height_set Ledger.open__get Ledger.open__set Ledger.gasLimit_get Ledger.gasLimit_set Ledger.past_get Ledger.past_set Ledger.begun_get Ledger.begun_set Ledger.sent_get Ledger.sent_set Ledger.took_get Ledger.took_set Ledger.receipts_get Ledger.receipts_set Ledger.st_kv_get Ledger.st_kv_set Ledger.st_tree_get Ledger.st_tree_set Ledger.st_stale_get Ledger.st_stale_set Ledger.st_touched_get Ledger.st_touched_set Ledger.st_kv_now_get Ledger.st_kv_now_set Ledger.st_kv_saved_get Ledger.st_kv_saved_set Ledger.st_tree_leaves_get Ledger.st_tree_leaves_set Ledger.past_ring_get Ledger.past_ring_set Ledger.past_closed_get Ledger.past_closed_set Ledger.begun_kv_get Ledger.begun_kv_set Ledger.begun_tree_get Ledger.begun_tree_set Ledger.begun_stale_get Ledger.begun_stale_set Ledger.begun_touched_get Ledger.begun_touched_set Ledger.begun_kv_now_get Ledger.begun_kv_now_set Ledger.begun_kv_saved_get Ledger.begun_kv_saved_set Ledger.begun_tree_leaves_get Ledger.begun_tree_leaves_set Purse.length_enc Purse.ok_enc Purse.all_get Purse.all_set Purse.st_get Purse.st_set Purse.n_get Purse.n_set Purse.account_get Purse.account_set Purse.token_get Purse.token_set Purse.amount_get Purse.amount_set Plan.length_enc Plan.ok_enc Plan.all_get Plan.all_set Plan.purse_get Plan.purse_set Plan.nonce_get Plan.nonce_set Plan.gasUsed_get Plan.gasUsed_set Plan.fees_get Plan.fees_set Plan.hasSupply_get Plan.hasSupply_set Plan.token_get Plan.token_set Plan.supply_get Plan.supply_set Plan.flowAt_get Plan.flowAt_set Plan.flow_get Plan.flow_set Plan.receipt_get Plan.receipt_set Plan.purse_st_get Plan.purse_st_set Plan.purse_n_get Plan.purse_n_set Plan.purse_account_get Plan.purse_account_set Plan.purse_token_get Plan.purse_token_set Plan.purse_amount_get Plan.purse_amount_set Plan.receipt_code_get Plan.receipt_code_set Plan.receipt_hash_get Plan.receipt_hash_set Plan.receipt_index_get Plan.receipt_index_set Plan.receipt_gas_get Plan.receipt_gas_set Plan.receipt_fee_get Plan.receipt_fee_set Plan.receipt_hasSent_get Plan.receipt_hasSent_set Plan.receipt_sent_get Plan.receipt_sent_set Plan.receipt_hasTook_get Plan.receipt_hasTook_set Plan.receipt_took_get Plan.receipt_took_set Plan.receipt_sent_kind_get Plan.receipt_sent_kind_set Plan.receipt_sent_from__get Plan.receipt_sent_from__set Plan.receipt_sent_to__get Plan.receipt_sent_to__set Plan.receipt_sent_sender_get Plan.receipt_sent_sender_set Plan.receipt_sent_receiver_get Plan.receipt_sent_receiver_set Plan.receipt_sent_seq_get Plan.receipt_sent_seq_set Plan.receipt_sent_token_get Plan.receipt_sent_token_set Plan.receipt_sent_amount_get Plan.receipt_sent_amount_set Plan.receipt_sent_size_get Plan.receipt_sent_size_set Plan.receipt_sent_payload_get Plan.receipt_sent_payload_set Plan.receipt_took_kind_get Plan.receipt_took_kind_set Plan.receipt_took_from__get Plan.receipt_took_from__set Plan.receipt_took_to__get Plan.receipt_took_to__set Plan.receipt_took_sender_get Plan.receipt_took_sender_set Plan.receipt_took_receiver_get Plan.receipt_took_receiver_set Plan.receipt_took_seq_get Plan.receipt_took_seq_set Plan.receipt_took_token_get Plan.receipt_took_token_set Plan.receipt_took_amount_get Plan.receipt_took_amount_set Plan.receipt_took_size_get Plan.receipt_took_size_set Plan.receipt_took_payload_get Plan.receipt_took_payload_set Move.length_enc Move.ok_enc Move.all_get Move.all_set Move.account_get Move.account_set Move.token_get Move.token_set Move.down_get Move.down_set Move.amount_get Move.amount_set Books.length_enc Books.ok_enc Books.all_get Books.all_set Books.sums_get Books.sums_set Books.stored_get Books.stored_set Books.marks_get Books.marks_set Pair.length_enc Pair.ok_enc Pair.all_get Pair.all_set Pair.key_get Pair.key_set Pair.value_get Pair.value_set
attribute [local go_sem] size_put size_ext blk_put free_put blk_alloc free_alloc blk_drew free_drew blk_ext free_ext lookOr_some putOr_some segAt_some cellAt_some storeIn_some put_put put_alloc_new length_arr ok_arr_u8 ok_arr_u32 ok_arr_u64 ok_arr_i64 ok_arr_sl cellsV_agg cellsV_int cellsV_bool cellsV_string cellsV_pointer cellsV_slice cellsV_sl ok_int ok_bool ok_string ok_pointer ok_slice ok_sl toList_arr seg_arr set_arr nth_splice nth_splice0 seg_splice seg_splice0 splice_splice splice_splice0 length_splice_if
attribute [local go_sem ↓] execOp_box
attribute [local go_sem] box_run nth_arr_u8 put_arr_u8 blk_drewN free_drewN put_drewN blk_raw free_raw
theorem build249 (w : World) (x y : Int) : (buildOp 249 #[(0, .int .u64 x), (1, .int .u64 y)]).run Tryz.prog w = .ok (.value (.agg #[.int .u64 x, .int .u64 y])) w := by kernel_rfl
theorem bslice173 (w : World) (x y : Int) : (bsliceOp 173 1 #[(0, .agg #[.int .u64 x, .int .u64 y])]).run Tryz.prog w = .ok (.value (.slice (some ⟨w.heap.size, 0, none⟩) 1 1)) (w.alloc (.cells #[.int .u64 x, .int .u64 y] 249)) := by kernel_rfl
theorem bslice173e (w : World) (p : Pair) : (bsliceOp 173 1 #[(0, .agg p.enc.toArray)]).run Tryz.prog w = .ok (.value (.slice (some ⟨w.heap.size, 0, none⟩) 1 1)) (w.alloc (.cells p.enc.toArray 249)) := bslice173 w _ _
theorem bslice174 (w : World) (a : Option Addr) (n c : Nat) : (bsliceOp 174 1 #[(0, .slice a n c)]).run Tryz.prog w = .ok (.value (.slice (some ⟨w.heap.size, 0, none⟩) 1 1)) (w.alloc (.cells #[.slice a n c] 173)) := by kernel_rfl
attribute [local go_sem ↓] execOp_build execOp_bslice
attribute [local go_sem] build249 bslice173 bslice173e bslice174
set_option maxRecDepth 100000 in
theorem frame46 (f : Nat → Value) : frameN 46 f = #[f 0, f 1, f 2, f 3, f 4, f 5, f 6, f 7, f 8, f 9, f 10, f 11, f 12, f 13, f 14, f 15, f 16, f 17, f 18, f 19, f 20, f 21, f 22, f 23, f 24, f 25, f 26, f 27, f 28, f 29, f 30, f 31, f 32, f 33, f 34, f 35, f 36, f 37, f 38, f 39, f 40, f 41, f 42, f 43, f 44, f 45] := by kernel_rfl
def putI (W : World) (b o : Nat) (n : Nat) (now : List Pair) (k v : UInt64) (F : Nat → Value) (V : World) : Prop := F 0 = .pointer (some ⟨b, o, none⟩) ∧ F 1 = .int .u64 (w64 k) ∧ F 2 = .int .u64 (w64 v) ∧ F 11 = .int .i64 (n : Nat) ∧ ∃ i : Nat, i ≤ n ∧ F 12 = .int .i64 (i : Nat) ∧ Hid (V = W ∧ ∀ (j : Nat) (y : Pair), j < i → now[j]? = some y → y.key ≠ k)
/-- After a write to the store. -/
def KvPost (O : Own) (W : World) (m b o : Nat) (C : List Value) (now' : List Pair) (e : Ending) (V : World) : Prop := e = .returned (.tuple #[]) ∧ ∃ O' sn, blk V b = some (splice C o [Sl.val sn]) ∧ free V b = true ∧ O' b = .a m 0 ∧ PRow O' V (.a m 1) sn now' ∧ Lg (fun l => l = .a m 0 ∨ l = .a m 1) O W O' V
theorem splice_id {C : List Value} {o : Nat} {v : Value} (h : nth C o = some v) : splice C o [v] = C := by
  refine splice_self (m := 1) (seg_nth1 h) ?_
  have := (List.getElem?_eq_some_iff.1 h).1
  omega
theorem nth_lt {C : List Value} {o : Nat} {v : Value} (h : nth C o = some v) : o < C.length := (List.getElem?_eq_some_iff.1 h).1
set_option maxRecDepth 20000 in
set_option maxHeartbeats 2000000 in
theorem put_any (O : Own) (W : World) (m b o : Nat) (C : List Value) (sn : Sl) (now : List Pair) (k v : UInt64) (hb : blk W b = some C) (hn : nth C o = some (Sl.val sn)) (hf : free W b = true) (hO : O b = .a m 0) (hr : PRow O W (.a m 1) sn now) (hm : now.length ≤ 1000000000) : Calls Tryz.prog 234 #[.pointer (some ⟨b, o, none⟩), .int .u64 (w64 k), .int .u64 (w64 v)] W (KvPost O W m b o C (putF now k v)) := by
  obtain ⟨a, n, c⟩ := sn
  change nth C o = some (.slice a n c) at hn
  change RowL 0 O (.a m 1) W 249 2 (.slice a n c) now.length (now.flatMap Pair.enc) at hr
  have hR := (hr.rw Pair.length_enc).1
  have hl : now.length = n := hR.1
  have hol := nth_lt hn
  have HR := hid_of hR
  have HROW := hid_of hr
  have HL := hid_of hl
  have HO := hid_of hO
  have HM := hid_of hm
  have hnm : n ≤ 1000000000 := by omega
  obtain ⟨Q, hQ⟩ : ∃ Q : Ending → World → Prop, Q = KvPost O W m b o C (putF now k v) := ⟨_, rfl⟩
  rw [← hQ]
  have HQ := hid_of hQ
  clear hQ hR hr hl hO hm
  go_enter Tryz.func234, Tryz.ntmps234
  go_wp2_with fail
  refine wp_loop_f 46 (putI W b o n now k v) (fun f _ => n - (intOf (f 12)).toNat) rfl ⟨rfl, rfl, rfl, rfl, 0, by omega, rfl, ⟨rfl, fun j y hj => by omega⟩⟩ ?_
  intro F V hrel
  obtain ⟨f0, f1, f2, f11, i, hi, f12, HI⟩ := hrel
  have H12 := hid_of f12
  obtain rfl : V = W := HI.out.1
  rw [frame46, f0, f1, f2, f11, f12]
  clear f0 f1 f2 f11 f12
  by_cases hin : i < n
  rotate_left 1
  · obtain rfl : i = n := by omega
    have hin' : ¬ (i : Int) < (i : Int) := by omega
    obtain ⟨a2, c2, V2, hrun, hrow, hfr⟩ := appLB el173 173 ⟨k, v⟩ HROW.out (Nat.zero_le _) (by have := HM.out; omega) (by have := HM.out; omega) #[.int .u64 (w64 k), .int .u64 (w64 v)] rfl 1
    have n01 : ¬ (Lab.a m 0 = .a m 1) := fun e => by have := (Lab.a.inj e).2; omega
    have hb2 : blk V2 b = some C := hfr.blk hb (by rw [HO.out]; exact n01)
    have hf2 : free V2 b = true := hfr.free hb hf (by rw [HO.out]; exact n01)
    have hO2 : lab O V.heap.size (.a m 1) b = .a m 0 := by rw [lab_lt (blk_lt hb)]; exact HO.out
    have HP : Hid (Q (.returned (.tuple #[])) (put V2 b (splice C o [.slice a2 (i + 1) c2]))) := by
      show Q _ _
      rw [HQ.out]
      have hne : ∀ (j : Nat) (y : Pair), now[j]? = some y → y.key ≠ k := fun j y hy => HI.out.2 j y (by rw [← HL.out]; exact (List.getElem?_eq_some_iff.1 hy).1) hy
      refine ⟨rfl, lab O V.heap.size (.a m 1), ⟨a2, i + 1, c2⟩, ?_, by rw [free_put]; exact hf2, hO2, ?_, ?_⟩
      · rw [blk_put, if_pos rfl, hb2]; rfl
      · rw [putF_new hne]
        exact hrow.keep (fun k' _ hk => ⟨by rw [heap_put, if_neg (fun e => by rw [e, hO2] at hk; exact n01 hk)], rfl⟩)
      · exact Lg.put ((Lg.of_fr hfr).mono (fun l h => .inr h)) (.inl HO.out) _
    clear HI hfr hrow hO2 hf
    go_wp2_with (at_builtin; refine wpList_append_run rfl _ _ 173 rfl _ _ _ _ rfl rfl hrun ?_)
    try (first | go_ret | go_ret2 | go_end0)
    exact HP.out
  have hin' : (i : Int) < (n : Int) := by omega
  have p0 : (0 : Int) ≤ (i : Int) := by omega
  have p2 : ((i : Int)).toNat = i := by omega
  obtain ⟨x, g, C1, hx, rfl, h1, h2, h3⟩ := HR.out.at hin
  have hsl : i * 2 + 2 ≤ C1.length := by omega
  have k1 : nth C1 (i * 2) = some (.int .u64 (w64 x.key)) := nth_in (j := 0) h3 (Pair.key_get x) (by omega)
  have k2 : nth C1 (i * 2 + 1) = some (.int .u64 (w64 x.value)) := nth_in (j := 1) h3 (Pair.value_get x) (by omega)
  by_cases hk : x.key = k
  · have hk2 : (w64 x.key = w64 k) := by rw [hk]
    obtain ⟨g', C1', e1, e2, e3, e4, _, e5, _, e7⟩ := HROW.out.set Pair.length_enc hin ⟨x.key, v⟩
    have eg : g' = g := by cases e1; rfl
    subst eg
    have eC : C1' = C1 := by rw [h1] at e2; exact (Option.some.inj e2).symm
    subst eC
    have es : splice C1' (i * 2) (Pair.enc ⟨x.key, v⟩) = splice C1' (i * 2 + 1) [.int .u64 (w64 v)] := by
      have := splice_sub (L := C1') (X := Pair.enc x) (vs := [.int .u64 (w64 v)]) (a := i * 2) (m := 2) (j := 1) h3 (by omega) (by simp)
      rw [this, Pair.value_set]
    rw [es] at e7
    have hgb : ¬ b = g' := fun e => by
      rw [← e, HO.out] at e4
      have := (Lab.a.inj e4).2
      omega
    have HP : Hid (Q (.returned (.tuple #[])) (put V g' (splice C1' (i * 2 + 1) [.int .u64 (w64 v)]))) := by
      show Q _ _
      rw [HQ.out]
      refine ⟨rfl, O, ⟨some ⟨g', 0, none⟩, n, c⟩, ?_, by rw [free_put]; exact hf, HO.out, ?_, Lg.put (Lg.refl _ _ _) (.inr e4) _⟩
      · rw [blk_put, if_neg hgb, hb]
        exact congrArg some (splice_id hn).symm
      · rw [putF_at hx hk HI.out.2]
        exact e7
    clear HI e7 e1 e4 hx HROW HR
    go_wp2_with fail
    try (first | go_ret | go_ret2 | go_end0)
    exact HP.out
  · have hk2 : ¬ (w64 x.key = w64 k) := by rw [w64_eq]; exact hk
    have HJ : Hid (∀ (j : Nat) (y : Pair), j < i + 1 → now[j]? = some y → y.key ≠ k) := fun j y hj hy => by
      by_cases hji : j = i
      · subst hji
        rw [hx] at hy
        rw [← Option.some.inj hy]
        exact hk
      · exact HI.out.2 j y (by omega) hy
    clear HI hk hx
    go_wp2_with fail
    refine ⟨rfl, rfl, ⟨rfl, rfl, rfl, rfl, i + 1, by omega, ?_, ⟨rfl, HJ.out⟩⟩, ?_⟩
    · show Value.int .i64 _ = _
      go_num
    · show n - (intOf (Value.int .i64 _)).toNat < n - (intOf (F 12)).toNat
      rw [H12.out]
      simp [intOf]; omega
set_option maxRecDepth 100000 in
theorem frame29 (f : Nat → Value) : frameN 29 f = #[f 0, f 1, f 2, f 3, f 4, f 5, f 6, f 7, f 8, f 9, f 10, f 11, f 12, f 13, f 14, f 15, f 16, f 17, f 18, f 19, f 20, f 21, f 22, f 23, f 24, f 25, f 26, f 27, f 28] := by kernel_rfl
def delI (W : World) (a : Option Addr) (b o n c : Nat) (now : List Pair) (k : UInt64) (F : Nat → Value) (V : World) : Prop := F 0 = .pointer (some ⟨b, o, none⟩) ∧ F 1 = .int .u64 (w64 k) ∧ F 10 = .slice a n c ∧ F 11 = .int .i64 (n : Nat) ∧ ∃ (i : Nat) (a2 : Option Addr) (n2 c2 : Nat), i ≤ n ∧ F 12 = .int .i64 (i : Nat) ∧ F 4 = .slice a2 n2 c2 ∧ Hid (OutG Pair.enc 2 249 W V a2 n2 c2 (delF (now.take i) k))
theorem take_snoc {α : Type} {l : List α} {i : Nat} {x : α} (h : l[i]? = some x) : l.take (i + 1) = l.take i ++ [x] := by
  obtain ⟨h1, h2⟩ := List.getElem?_eq_some_iff.1 h
  rw [List.take_add_one, h]; rfl
set_option maxRecDepth 20000 in
set_option maxHeartbeats 2000000 in
theorem delete_any (O : Own) (W : World) (m b o : Nat) (C : List Value) (sn : Sl) (now : List Pair) (k : UInt64) (hb : blk W b = some C) (hn : nth C o = some (Sl.val sn)) (hf : free W b = true) (hO : O b = .a m 0) (hr : PRow O W (.a m 1) sn now) (hm : now.length ≤ 1000000000) : Calls Tryz.prog 233 #[.pointer (some ⟨b, o, none⟩), .int .u64 (w64 k)] W (KvPost O W m b o C (delF now k)) := by
  obtain ⟨a, n, c⟩ := sn
  change nth C o = some (.slice a n c) at hn
  change RowL 0 O (.a m 1) W 249 2 (.slice a n c) now.length (now.flatMap Pair.enc) at hr
  have hR := (hr.rw Pair.length_enc).1
  have hl : now.length = n := hR.1
  have hol := nth_lt hn
  have hlt := blk_lt hb
  have HR := hid_of hR
  have HL := hid_of hl
  have HO := hid_of hO
  have HM := hid_of hm
  have hnm : n ≤ 1000000000 := by omega
  have HB := hid_of hb
  have HF := hid_of hf
  obtain ⟨Q, hQ⟩ : ∃ Q : Ending → World → Prop, Q = KvPost O W m b o C (delF now k) := ⟨_, rfl⟩
  rw [← hQ]
  have HQ := hid_of hQ
  clear hQ hR hr hl hO hm
  go_enter Tryz.func233, Tryz.ntmps233
  go_wp2_with fail
  refine wp_loop_f 29 (delI W a b o n c now k) (fun f _ => n - (intOf (f 12)).toNat) rfl ⟨rfl, rfl, rfl, rfl, 0, none, 0, 0, by omega, rfl, rfl, OutG.nil (ext_Ext (Ext.refl W))⟩ ?_
  clear hb hf
  intro F V hrel
  obtain ⟨f0, f1, f10, f11, i, a2, n2, c2, hi, f12, f4, HI⟩ := hrel
  have H12 := hid_of f12
  rw [frame29, f0, f1, f10, f11, f12, f4]
  clear f0 f1 f10 f11 f12 f4
  have hbV : blk V b = some C := (HI.out.2.1.blk hlt).trans HB.out
  have hfV : free V b = true := (free_of_heap (HI.out.2.1.block b hlt)).trans HF.out
  by_cases hin : i < n
  rotate_left 1
  · obtain rfl : i = n := by omega
    have hin' : ¬ (i : Int) < (i : Int) := by omega
    have HP : Hid (Q (.returned (.tuple #[])) (put V b (splice C o [.slice a2 n2 c2]))) := by
      show Q _ _
      rw [HQ.out]
      have h9 := HI.out
      rw [List.take_of_length_le (by rw [HL.out]; omega)] at h9
      have hO2 : lab O W.heap.size (.a m 1) b = .a m 0 := by rw [lab_lt hlt]; exact HO.out
      have n01 : ¬ (Lab.a m 0 = .a m 1) := fun e => by have := (Lab.a.inj e).2; omega
      refine ⟨rfl, lab O W.heap.size (.a m 1), ⟨a2, n2, c2⟩, ?_, by rw [free_put]; exact hfV, hO2, ?_, ?_⟩
      · rw [blk_put, if_pos rfl, hbV]; rfl
      · have hrow : RowL 0 (lab O W.heap.size (.a m 1)) (.a m 1) V 249 2 (.slice a2 n2 c2) (delF now k).length ((delF now k).flatMap Pair.enc) := ⟨row_base h9.1 (Nat.zero_le _), fun k' hk' => lab_ge (row_at h9.1 k' hk').1⟩
        exact hrow.keep (fun k' _ hk => ⟨by rw [heap_put, if_neg (fun e => by rw [e, hO2] at hk; exact n01 hk)], rfl⟩)
      · have e9 := h9.2.1
        exact Lg.put ⟨e9.os, e9.tape, e9.output, e9.size, fun k' hk' _ => ⟨lab_lt hk', e9.block k' hk'⟩, fun k' hk' hp => by rw [lab_lt hk']; exact hp⟩ (.inl HO.out) _
    clear HI
    go_wp2_with fail
    try (first | go_ret | go_ret2 | go_end0)
    exact HP.out
  have hin' : (i : Int) < (n : Int) := by omega
  have p0 : (0 : Int) ≤ (i : Int) := by omega
  have p2 : ((i : Int)).toNat = i := by omega
  obtain ⟨x, b1, C1, hx, rfl, h1, h2, h3⟩ := (HR.out.grow HI.out.2.1).at hin
  have hlt1 := blk_lt h1
  have hne : ¬ b1 = V.heap.size := by omega
  have hne2 : ¬ b = V.heap.size := by have := blk_lt hbV; omega
  have hsl : i * 2 + 2 ≤ C1.length := by omega
  have HX := hid_of hx
  have HN2 : Hid (n2 ≤ 1000000000) := by
    show n2 ≤ _
    have h8 := delF_len (now.take i) k
    rw [List.length_take] at h8
    have := HI.out.2.2
    have := HM.out
    omega
  clear hx
  by_cases hk : x.key = k
  · have hk2 : (w64 x.key = w64 k) := by rw [hk]
    have HJ : ∀ V', V.Extends V' → Hid (OutG Pair.enc 2 249 W V' a2 n2 c2 (delF (now.take (i + 1)) k)) := fun V' he => by
      have h9 := HI.out.ext he
      rw [take_snoc HX.out]
      unfold delF at h9 ⊢
      rw [List.filter_append, List.filter_cons_of_neg (by simp [hk]), List.filter_nil, List.append_nil]
      exact h9
    have HV := hid_of HJ
    clear HI hk HJ
    go_wp2_with fail
    refine ⟨rfl, rfl, ⟨rfl, rfl, rfl, rfl, i + 1, a2, n2, c2, by omega, ?_, rfl, (HV.out _ ?_).out⟩, ?_⟩
    · show Value.int .i64 _ = _
      go_num
    · repeat (first | exact ext_Ext (Ext.refl _) | refine extends_drewN ?_ _ | refine extends_drew ?_ | refine extends_alloc ?_ _ | refine extends_put ?_ (Nat.le_refl _) _)
    · show n - (intOf (Value.int .i64 _)).toNat < n - (intOf (F 12)).toNat
      rw [H12.out]
      simp [intOf]; omega
  · have hk2 : ¬ (w64 x.key = w64 k) := by rw [w64_eq]; exact hk
    have hO1 : OutG Pair.enc 2 249 W (V.alloc (.cells x.enc.toArray 249)) a2 n2 c2 (delF (now.take i) k) := HI.out.ext (extends_alloc (ext_Ext (Ext.refl _)) _)
    obtain ⟨a3, c3, V3, hrun, hO3, hgro⟩ := hO1.app el173 x (by have := HN2.out; have := hO1.2.2; omega) x.enc.toArray rfl 1
    rw [World.size_alloc] at hrun
    have HJ : Hid (OutG Pair.enc 2 249 W V3 a3 (n2 + 1) c3 (delF (now.take (i + 1)) k)) := by
      show OutG _ _ _ _ _ _ _ _ _
      rw [take_snoc HX.out]
      unfold delF at hO3 ⊢
      rw [List.filter_append, List.filter_cons_of_pos (by simp [hk]), List.filter_nil]
      exact hO3
    clear HI hk hO1 hO3 hgro
    go_wp2_with (at_builtin; refine wpList_append_run rfl _ _ 173 rfl _ _ _ _ rfl rfl hrun ?_)
    refine ⟨rfl, rfl, ⟨rfl, rfl, rfl, rfl, i + 1, a3, n2 + 1, c3, by omega, ?_, rfl, HJ.out⟩, ?_⟩
    · show Value.int .i64 _ = _
      go_num
    · show n - (intOf (Value.int .i64 _)).toNat < n - (intOf (F 12)).toNat
      rw [H12.out]
      simp [intOf]; omega
end Go.Proofs.Qxb6500786aGreat
