import Derived.Test.Qxb6500786aGreatBh

import Derived.StillTailTactics
import Derived.Deep.QuietTactic
import Derived.BigQuiet
import Derived.Deep.RegionHeld
import Derived.Deep.CutRange
import Derived.Laws.ResultCell
import Derived.Laws.Rows
import Derived.DeepKeys
import Derived.DataBytes
import Derived.Laws.StructEq
import Derived.Laws.AppendOwn
import Derived.Laws.MakeOwn
import Derived.Lib.AppendStr
set_option linter.unusedSimpArgs false
set_option linter.unusedVariables false
namespace Go.Proofs.Qxb6500786aGreat
open Go.RowKit Go.Blk
attribute [local go_sem ↓] execOp_load execOp_store execOp_alloc
attribute [local go_sem] Tryz.ld24 Tryz.st24 Tryz.ld36 Tryz.st36 Tryz.ld28 Tryz.st28 Tryz.ld32 Tryz.st32 Tryz.ld33 Tryz.st33 Tryz.ld34 Tryz.st34 Tryz.ld5 Tryz.st5 Tryz.ld31 Tryz.st31 Tryz.ld30 Tryz.st30 Tryz.ld41 Tryz.st41 Tryz.ld44 Tryz.st44 Tryz.ld4 Tryz.st4 Tryz.ld173 Tryz.st173 Tryz.ld174 Tryz.st174 Tryz.ld95 Tryz.st95 Tryz.ld45 Tryz.st45 Tryz.ld207 Tryz.st207 Tryz.ld3 Tryz.st3 Tryz.ld189 Tryz.st189 Tryz.ld2 Tryz.st2 Tryz.ld9 Tryz.st9 Tryz.ld12 Tryz.st12 Tryz.ld21 Tryz.st21 Tryz.ld22 Tryz.st22 Tryz.ld46 Tryz.st46 Tryz.ld92 Tryz.st92 Tryz.ld94 Tryz.st94 Tryz.ld96 Tryz.st96 Tryz.ld97 Tryz.st97 Tryz.ld105 Tryz.st105 Tryz.ld117 Tryz.st117 Tryz.ld122 Tryz.st122 Tryz.ld123 Tryz.st123 Tryz.ld133 Tryz.st133 Tryz.ld155 Tryz.st155 Tryz.ld163 Tryz.st163 Tryz.ld190 Tryz.st190 Tryz.ld197 Tryz.st197 Tryz.ld201 Tryz.st201 Tryz.ld202 Tryz.st202 Tryz.ld209 Tryz.st209 Tryz.ld216 Tryz.st216 Tryz.ld230 Tryz.st230 Tryz.ld238 Tryz.st238 Tryz.ld242 Tryz.st242 Tryz.ld251 Tryz.st251 Tryz.ld260 Tryz.st260 Tryz.ld286 Tryz.st286 Tryz.ld292 Tryz.st292 Tryz.ld298 Tryz.st298 Tryz.ld309 Tryz.st309 Tryz.ld35 Tryz.st35 Tryz.ld48 Tryz.st48 Tryz.ld47 Tryz.st47 Tryz.ld79 Tryz.st79 Tryz.ld177 Tryz.st177 Tryz.ld180 Tryz.st180 Tryz.ld231 Tryz.st231 Tryz.ld232 Tryz.st232 Tryz.ld26 Tryz.st26 Tryz.ld38 Tryz.st38 Tryz.ld40 Tryz.st40 Tryz.ld43 Tryz.st43 Tryz.ld50 Tryz.st50 Tryz.ld52 Tryz.st52 Tryz.ld54 Tryz.st54 Tryz.ld81 Tryz.st81 Tryz.ld112 Tryz.st112 Tryz.ld120 Tryz.st120 Tryz.ld176 Tryz.st176 Tryz.ld179 Tryz.st179 Tryz.ld182 Tryz.st182 Tryz.ld184 Tryz.st184 Tryz.ld234 Tryz.st234 Tryz.ld236 Tryz.st236 Tryz.ld240 Tryz.st240 Tryz.ld246 Tryz.st246 Tryz.ld249 Tryz.st249 Tryz.al35 Tryz.al48 Tryz.al47 Tryz.al79 Tryz.al177 Tryz.al180 Tryz.al231 Tryz.al232 Tryz.al26 Tryz.al38 Tryz.al40 Tryz.al43 Tryz.al50 Tryz.al52 Tryz.al54 Tryz.al81 Tryz.al112 Tryz.al120 Tryz.al176 Tryz.al179 Tryz.al182 Tryz.al184 Tryz.al234 Tryz.al236 Tryz.al240 Tryz.al246 Tryz.al249
attribute [local go_sem] Player.length_enc Player.ok_enc Player.all_get Player.all_set Player.hand_get Player.hand_set Player.aside_get Player.aside_set Message.length_enc Message.ok_enc Message.all_get Message.all_set Message.kind_get Message.kind_set Message.from__get Message.from__set Message.to__get Message.to__set Message.sender_get Message.sender_set Message.receiver_get Message.receiver_set Message.seq_get Message.seq_set Message.token_get Message.token_set Message.amount_get Message.amount_set Message.size_get Message.size_set Message.payload_get Message.payload_set Tx.length_enc Tx.ok_enc Tx.all_get Tx.all_set Tx.kind_get Tx.kind_set Tx.chain_get Tx.chain_set Tx.from__get Tx.from__set Tx.nonce_get Tx.nonce_set Tx.fee_get Tx.fee_set Tx.to__get Tx.to__set Tx.dest_get Tx.dest_set Tx.token_get Tx.token_set Tx.amount_get Tx.amount_set Tx.size_get Tx.size_set Tx.payload_get Tx.payload_set Tx.msg_get Tx.msg_set Tx.msg_kind_get Tx.msg_kind_set Tx.msg_from__get Tx.msg_from__set Tx.msg_to__get Tx.msg_to__set Tx.msg_sender_get Tx.msg_sender_set Tx.msg_receiver_get Tx.msg_receiver_set Tx.msg_seq_get Tx.msg_seq_set Tx.msg_token_get Tx.msg_token_set Tx.msg_amount_get Tx.msg_amount_set Tx.msg_size_get Tx.msg_size_set Tx.msg_payload_get Tx.msg_payload_set GOp.length_enc GOp.ok_enc GOp.all_get GOp.all_set GOp.kind_get GOp.kind_set GOp.tx_get GOp.tx_set GOp.txs_get GOp.txs_set GOp.gas_get GOp.gas_set GOp.acct_get GOp.acct_set GOp.token_get GOp.token_set GOp.chain_get GOp.chain_set GOp.seq_get GOp.seq_set GOp.tx_kind_get GOp.tx_kind_set GOp.tx_chain_get GOp.tx_chain_set GOp.tx_from__get GOp.tx_from__set GOp.tx_nonce_get GOp.tx_nonce_set GOp.tx_fee_get GOp.tx_fee_set GOp.tx_to__get GOp.tx_to__set GOp.tx_dest_get GOp.tx_dest_set GOp.tx_token_get GOp.tx_token_set GOp.tx_amount_get GOp.tx_amount_set GOp.tx_size_get GOp.tx_size_set GOp.tx_payload_get GOp.tx_payload_set GOp.tx_msg_get GOp.tx_msg_set GOp.tx_msg_kind_get GOp.tx_msg_kind_set GOp.tx_msg_from__get GOp.tx_msg_from__set GOp.tx_msg_to__get GOp.tx_msg_to__set GOp.tx_msg_sender_get GOp.tx_msg_sender_set GOp.tx_msg_receiver_get GOp.tx_msg_receiver_set GOp.tx_msg_seq_get GOp.tx_msg_seq_set GOp.tx_msg_token_get GOp.tx_msg_token_set GOp.tx_msg_amount_get GOp.tx_msg_amount_set GOp.tx_msg_size_get GOp.tx_msg_size_set GOp.tx_msg_payload_get GOp.tx_msg_payload_set Summary.length_enc Summary.ok_enc Summary.all_get Summary.all_set Summary.height_get Summary.height_set Summary.txs_get Summary.txs_set Summary.gas_get Summary.gas_set Summary.fees_get Summary.fees_set Summary.sent_get Summary.sent_set Summary.took_get Summary.took_set Summary.minted_get Summary.minted_set Summary.burned_get Summary.burned_set Summary.root_get Summary.root_set Detail.length_enc Detail.ok_enc Detail.all_get Detail.all_set Detail.code_get Detail.code_set Detail.have__get Detail.have__set Detail.need_get Detail.need_set Slot.length_enc Slot.ok_enc Slot.all_get Slot.all_set Slot.nonce_get Slot.nonce_set Slot.balances_get Slot.balances_set Tree.length_enc Tree.ok_enc Tree.all_get Tree.all_set Tree.leaves_get Tree.leaves_set Mark.length_enc Mark.ok_enc Mark.all_get Mark.all_set Mark.from__get Mark.from__set Mark.seq_get Mark.seq_set Receipt.length_enc Receipt.ok_enc Receipt.all_get Receipt.all_set Receipt.code_get Receipt.code_set Receipt.hash_get Receipt.hash_set Receipt.index_get Receipt.index_set Receipt.gas_get Receipt.gas_set Receipt.fee_get Receipt.fee_set Receipt.hasSent_get Receipt.hasSent_set Receipt.sent_get Receipt.sent_set Receipt.hasTook_get Receipt.hasTook_set Receipt.took_get Receipt.took_set Receipt.sent_kind_get Receipt.sent_kind_set Receipt.sent_from__get Receipt.sent_from__set Receipt.sent_to__get Receipt.sent_to__set Receipt.sent_sender_get Receipt.sent_sender_set Receipt.sent_receiver_get Receipt.sent_receiver_set Receipt.sent_seq_get Receipt.sent_seq_set Receipt.sent_token_get Receipt.sent_token_set Receipt.sent_amount_get Receipt.sent_amount_set Receipt.sent_size_get Receipt.sent_size_set Receipt.sent_payload_get Receipt.sent_payload_set Receipt.took_kind_get Receipt.took_kind_set Receipt.took_from__get Receipt.took_from__set Receipt.took_to__get Receipt.took_to__set Receipt.took_sender_get Receipt.took_sender_set Receipt.took_receiver_get Receipt.took_receiver_set Receipt.took_seq_get Receipt.took_seq_set Receipt.took_token_get Receipt.took_token_set Receipt.took_amount_get Receipt.took_amount_set Receipt.took_size_get Receipt.took_size_set Receipt.took_payload_get Receipt.took_payload_set Store.length_enc Store.ok_enc Store.all_get Store.all_set Store.now_get Store.now_set Store.saved_get Store.saved_set GState.length_enc GState.ok_enc GState.all_get GState.all_set GState.kv_get GState.kv_set GState.tree_get GState.tree_set GState.stale_get GState.stale_set GState.touched_get GState.touched_set GState.kv_now_get GState.kv_now_set GState.kv_saved_get GState.kv_saved_set GState.tree_leaves_get GState.tree_leaves_set History.length_enc History.ok_enc History.all_get History.all_set History.ring_get History.ring_set History.closed_get History.closed_set Ledger.length_enc Ledger.ok_enc Ledger.all_get Ledger.all_set Ledger.chain_get Ledger.chain_set Ledger.st_get Ledger.st_set Ledger.height_get Ledger.height_set Ledger.open__get Ledger.open__set Ledger.gasLimit_get Ledger.gasLimit_set Ledger.past_get Ledger.past_set Ledger.begun_get Ledger.begun_set Ledger.sent_get Ledger.sent_set Ledger.took_get Ledger.took_set Ledger.receipts_get Ledger.receipts_set Ledger.st_kv_get Ledger.st_kv_set Ledger.st_tree_get Ledger.st_tree_set Ledger.st_stale_get Ledger.st_stale_set Ledger.st_touched_get Ledger.st_touched_set Ledger.st_kv_now_get Ledger.st_kv_now_set Ledger.st_kv_saved_get Ledger.st_kv_saved_set Ledger.st_tree_leaves_get Ledger.st_tree_leaves_set Ledger.past_ring_get Ledger.past_ring_set Ledger.past_closed_get Ledger.past_closed_set Ledger.begun_kv_get Ledger.begun_kv_set Ledger.begun_tree_get Ledger.begun_tree_set Ledger.begun_stale_get Ledger.begun_stale_set Ledger.begun_touched_get Ledger.begun_touched_set Ledger.begun_kv_now_get Ledger.begun_kv_now_set Ledger.begun_kv_saved_get Ledger.begun_kv_saved_set Ledger.begun_tree_leaves_get Ledger.begun_tree_leaves_set Purse.length_enc Purse.ok_enc Purse.all_get Purse.all_set Purse.st_get Purse.st_set Purse.n_get Purse.n_set Purse.account_get Purse.account_set Purse.token_get Purse.token_set Purse.amount_get Purse.amount_set Plan.length_enc Plan.ok_enc Plan.all_get Plan.all_set Plan.purse_get Plan.purse_set Plan.nonce_get Plan.nonce_set Plan.gasUsed_get Plan.gasUsed_set Plan.fees_get Plan.fees_set Plan.hasSupply_get Plan.hasSupply_set Plan.token_get Plan.token_set Plan.supply_get Plan.supply_set Plan.flowAt_get Plan.flowAt_set Plan.flow_get Plan.flow_set Plan.receipt_get Plan.receipt_set Plan.purse_st_get Plan.purse_st_set Plan.purse_n_get Plan.purse_n_set Plan.purse_account_get Plan.purse_account_set Plan.purse_token_get Plan.purse_token_set Plan.purse_amount_get Plan.purse_amount_set Plan.receipt_code_get Plan.receipt_code_set Plan.receipt_hash_get Plan.receipt_hash_set Plan.receipt_index_get Plan.receipt_index_set Plan.receipt_gas_get Plan.receipt_gas_set Plan.receipt_fee_get Plan.receipt_fee_set Plan.receipt_hasSent_get Plan.receipt_hasSent_set Plan.receipt_sent_get Plan.receipt_sent_set Plan.receipt_hasTook_get Plan.receipt_hasTook_set Plan.receipt_took_get Plan.receipt_took_set Plan.receipt_sent_kind_get Plan.receipt_sent_kind_set Plan.receipt_sent_from__get Plan.receipt_sent_from__set Plan.receipt_sent_to__get Plan.receipt_sent_to__set Plan.receipt_sent_sender_get Plan.receipt_sent_sender_set Plan.receipt_sent_receiver_get Plan.receipt_sent_receiver_set Plan.receipt_sent_seq_get Plan.receipt_sent_seq_set Plan.receipt_sent_token_get Plan.receipt_sent_token_set Plan.receipt_sent_amount_get Plan.receipt_sent_amount_set Plan.receipt_sent_size_get Plan.receipt_sent_size_set Plan.receipt_sent_payload_get Plan.receipt_sent_payload_set Plan.receipt_took_kind_get Plan.receipt_took_kind_set Plan.receipt_took_from__get Plan.receipt_took_from__set Plan.receipt_took_to__get Plan.receipt_took_to__set Plan.receipt_took_sender_get Plan.receipt_took_sender_set Plan.receipt_took_receiver_get Plan.receipt_took_receiver_set Plan.receipt_took_seq_get Plan.receipt_took_seq_set Plan.receipt_took_token_get Plan.receipt_took_token_set Plan.receipt_took_amount_get Plan.receipt_took_amount_set Plan.receipt_took_size_get Plan.receipt_took_size_set Plan.receipt_took_payload_get Plan.receipt_took_payload_set Move.length_enc Move.ok_enc Move.all_get Move.all_set Move.account_get Move.account_set Move.token_get Move.token_set Move.down_get Move.down_set Move.amount_get Move.amount_set Books.length_enc Books.ok_enc Books.all_get Books.all_set Books.sums_get Books.sums_set Books.stored_get Books.stored_set Books.marks_get Books.marks_set Pair.length_enc Pair.ok_enc Pair.all_get Pair.all_set Pair.key_get Pair.key_set Pair.value_get Pair.value_set
attribute [local go_sem] size_put size_ext blk_put free_put blk_alloc free_alloc blk_drew free_drew blk_ext free_ext lookOr_some putOr_some segAt_some cellAt_some storeIn_some put_put put_alloc_new length_arr ok_arr_u8 ok_arr_u32 ok_arr_u64 ok_arr_i64 ok_arr_sl cellsV_agg cellsV_int cellsV_bool cellsV_string cellsV_pointer cellsV_slice cellsV_sl ok_int ok_bool ok_string ok_pointer ok_slice ok_sl toList_arr seg_arr set_arr nth_splice nth_splice0 seg_splice seg_splice0 splice_splice splice_splice0 length_splice_if
attribute [local go_sem ↓] execOp_box
attribute [local go_sem] box_run nth_arr_u8 put_arr_u8 blk_drewN free_drewN put_drewN blk_raw free_raw
theorem info47 : ∃ i z, Tryz.prog.info? 47 = some i ∧ i.zero = some z ∧ i.size = 32 ∧ i.bytes = 32 ∧ z.cells.size = 32 := by
  have hq : (Tryz.prog.info? 47).map (fun i => (i.zero, i.size, i.bytes)) = some (some (.agg (arr u8v (Vector.replicate 32 (0 : UInt8))).toArray), 32, 32) := by kernel_rfl
  cases hx : Tryz.prog.info? 47 with
  | none => rw [hx] at hq; simp at hq
  | some i =>
    rw [hx] at hq
    simp only [Option.map_some, Option.some.injEq, Prod.mk.injEq] at hq
    exact ⟨i, _, rfl, hq.1, hq.2.1, hq.2.2, by rfl⟩
theorem und123 : Tryz.prog.underlying 123 = some (.slice 47) := by kernel_rfl
theorem el123 : ElT encD 32 32 123 47 := ⟨und123, info47, encD_len, encD_one, by omega, by omega⟩
theorem bslice123 (w : World) (x : Dig) : (bsliceOp 123 1 #[(0, .agg (arr u8v x).toArray)]).run Tryz.prog w = .ok (.value (.slice (some ⟨w.heap.size, 0, none⟩) 1 1)) (w.alloc (.cells (arr u8v x).toArray 47)) := bslice_one el123 (by omega) w x
/-- The level above. -/
def zD : Dig := Vector.replicate 32 0
def pairUp (L : List Dig) : List Dig := (List.range (L.length / 2)).map fun j => nodF (L.getD (2 * j) zD) (L.getD (2 * j + 1) zD)
theorem pairUp_len (L : List Dig) : (pairUp L).length = L.length / 2 := by unfold pairUp; simp
def topK (L : List Dig) : Nat → List Dig
  | 0 => L
  | k + 1 => pairUp (topK L k)
/-- The root of sixty-four leaves. -/
def topD (L : Vector Dig 64) : Dig := (topK L.toList 6).getD 0 zD
/-- A row of digests, somewhere. -/
def DRow (V : World) (a : Option Addr) (n : Nat) (L : List Dig) : Prop := L.length = n ∧ ∃ b o C, a = some ⟨b, o, none⟩ ∧ blk V b = some C ∧ o + n * 32 ≤ C.length ∧ ∀ i x, L[i]? = some x → seg C (o + i * 32) 32 = encD x
theorem DRow.ext {V V' : World} {a : Option Addr} {n : Nat} {L : List Dig} (h : DRow V a n L) (he : V.Extends V') : DRow V' a n L := by
  obtain ⟨h1, b, o, C, h2, h3, h4⟩ := h
  exact ⟨h1, b, o, C, h2, (he.blk (blk_lt h3)).trans h3, h4⟩
theorem DRow.of {V : World} {a : Option Addr} {n : Nat} {L : List Dig} (h : Rw encD 32 V a n L) (hn : 0 < n) : DRow V a n L := by
  refine ⟨h.1, ?_⟩
  obtain ⟨x, b, C, hx, e1, e2, e3, e4⟩ := h.at (i := 0) hn
  refine ⟨b, 0, C, e1, e2, by omega, fun i y hy => ?_⟩
  obtain ⟨b', C', f1, f2, f3, f4⟩ := h.2 i y hy
  have eb : b' = b := by rw [e1] at f1; cases f1; rfl
  rw [eb, e2] at f2
  cases f2
  rw [Nat.zero_add]
  exact f4
theorem topK_len (L : List Dig) (h : L.length = 64) (k : Nat) (hk : k ≤ 6) : (topK L k).length = 2 ^ (6 - k) := by
  induction k with
  | zero => exact h
  | succ k ih =>
    have h1 := ih (by omega)
    show (pairUp (topK L k)).length = _
    rw [pairUp_len, h1, show 6 - k = (6 - (k + 1)) + 1 from by omega, Nat.pow_succ]
    omega
attribute [local go_sem ↓] execOp_bslice execOp_slice
attribute [local go_sem] bslice123 slice47 slice35 slice79
theorem pairUp_take (L : List Dig) (j : Nat) (h : 2 * j + 1 < L.length) : ((pairUp L).take (j + 1)) = (pairUp L).take j ++ [nodF (L.getD (2 * j) zD) (L.getD (2 * j + 1) zD)] := by
  refine take_snoc ?_
  unfold pairUp
  rw [List.getElem?_map, List.getElem?_range (by omega)]
  rfl
def mrI (W : World) (L0 : List Dig) (F : Nat → Value) (V : World) : Prop := F 2 = .pointer (some ⟨W.heap.size, 0, none⟩) ∧ ∃ (k n : Nat) (a : Option Addr) (c : Nat), k ≤ 6 ∧ n = 2 ^ (6 - k) ∧ F 3 = .slice a n c ∧ blk V W.heap.size = some (arr u8v zD) ∧ free V W.heap.size = true ∧ Hid (W.Extends V ∧ DRow V a n (topK L0 k))
def mrJ (W V0 : World) (a : Option Addr) (n c : Nat) (L : List Dig) (F : Nat → Value) (V : World) : Prop := F 2 = .pointer (some ⟨W.heap.size, 0, none⟩) ∧ F 3 = .slice a n c ∧ ∃ (j : Nat) (b : Option Addr) (m d : Nat), 2 * j ≤ n ∧ F 5 = .int .i64 ((2 * j : Nat) : Int) ∧ F 4 = .slice b m d ∧ Hid (OutG encD 32 47 V0 V b m d ((pairUp L).take j))
set_option maxRecDepth 100000 in
theorem frame36 (f : Nat → Value) : frameN 36 f = #[f 0, f 1, f 2, f 3, f 4, f 5, f 6, f 7, f 8, f 9, f 10, f 11, f 12, f 13, f 14, f 15, f 16, f 17, f 18, f 19, f 20, f 21, f 22, f 23, f 24, f 25, f 26, f 27, f 28, f 29, f 30, f 31, f 32, f 33, f 34, f 35] := by kernel_rfl
set_option maxRecDepth 20000 in
set_option maxHeartbeats 4000000 in
theorem mroot_any (W : World) (b o : Nat) (C : List Value) (hb : blk W b = some C) (L : Vector Dig 64) (hs : seg C o 2048 = arrS encD L) (hl : o + 2048 ≤ C.length) : Calls Tryz.prog 40 #[.pointer (some ⟨b, o, none⟩)] W fun e V => e = .returned (.agg (arr u8v (topD L)).toArray) ∧ W.Extends V := by
  have hL64 : L.toList.length = 64 := by simp
  obtain ⟨Q, hQ⟩ : ∃ Q : Ending → World → Prop, Q = fun e V => e = .returned (.agg (arr u8v (topD L)).toArray) ∧ W.Extends V := ⟨_, rfl⟩
  rw [← hQ]
  have HQ := hid_of hQ
  have hlt := blk_lt hb
  have HI0 : Hid (W.Extends (W.alloc (.cells (arr u8v zD).toArray 47)) ∧ DRow (W.alloc (.cells (arr u8v zD).toArray 47)) (some ⟨b, o, none⟩) 64 (topK L.toList 0)) := by
    refine ⟨extends_alloc (ext_Ext (Ext.refl _)) _, hL64, b, o, C, rfl, by rw [blk_alloc, if_neg (by omega)]; exact hb, by omega, fun i x hx => ?_⟩
    have hi : i < 64 := by
      have := (List.getElem?_eq_some_iff.1 hx).1
      rw [show topK L.toList 0 = L.toList from rfl, hL64] at this
      exact this
    rw [seg_in hs (by omega)]
    exact leaves_at L i x hx
  have HTL : Hid (∀ k, k ≤ 6 → (topK L.toList k).length = 2 ^ (6 - k)) := fun k hk => topK_len L.toList hL64 k hk
  clear hQ hs hl
  go_enter Tryz.func40, Tryz.ntmps40
  go_wp2_with fail
  refine wp_loop_f 36 (mrI W L.toList) (fun f _ => lenV (f 3)) rfl ⟨rfl, 0, 64, some ⟨b, o, none⟩, 64, by omega, rfl, rfl, by rw [blk_alloc, if_pos rfl]; rfl, by rw [free_alloc, if_pos rfl], HI0⟩ ?_
  clear HI0 hb
  intro F V hrel
  obtain ⟨f2, k, n, a, c, hk, hn, f3, hr, hrf, HI⟩ := hrel
  have H3 := hid_of f3
  rw [frame36, f2, f3]
  clear f2 f3
  obtain ⟨LK, hLK⟩ : ∃ LK, LK = topK L.toList k := ⟨_, rfl⟩
  have hLKl : LK.length = n := by rw [hLK, hn]; exact HTL.out k hk
  have hsz : W.heap.size < V.heap.size := blk_lt hr
  by_cases hn1 : n ≤ 1
  · have hk6 : k = 6 := by
      have hkc : k = 0 ∨ k = 1 ∨ k = 2 ∨ k = 3 ∨ k = 4 ∨ k = 5 ∨ k = 6 := by omega
      rcases hkc with rfl | rfl | rfl | rfl | rfl | rfl | rfl <;> first | rfl | (exfalso; simp at hn; omega)
    subst hk6
    obtain rfl : n = 1 := by simpa using hn
    obtain ⟨-, lb, lo, C2, rfl, e2, e3, e4⟩ := HI.out.2
    have hx0 : (topK L.toList 6)[0]? = some (topD L) := by
      unfold topD
      rw [List.getD_eq_getElem?_getD, List.getElem?_eq_getElem (by rw [HTL.out 6 (by omega)]; decide)]
      rfl
    have e5 : seg C2 lo 32 = arr u8v (topD L) := by
      have := e4 0 _ hx0
      rw [Nat.zero_mul, Nat.add_zero] at this
      exact this
    have e6 : lo + 32 ≤ C2.length := by omega
    have HP : Hid (Q (.returned (.agg (arr u8v (topD L)).toArray)) (put V W.heap.size (arr u8v (topD L)))) := by
      show Q _ _
      rw [HQ.out]
      exact ⟨rfl, extends_put HI.out.1 (Nat.le_refl _) _⟩
    clear HI e4 hx0 hLK hLKl hn hk hn1
    go_wp2_with fail
    refine ret_cell (C := arr u8v (topD L)) rfl rfl (by rw [blk_put, if_pos rfl, hr]; rfl) (by kernel_rfl) (by rw [length_arr]; kernel_rfl) rfl ?_
    exact HP.out
  have hn64 : n ≤ 64 := by
    rw [hn]
    exact Nat.pow_le_pow_right (n := 2) (by omega) (show 6 - k ≤ 6 by omega)
  have hev : 2 * (n / 2) = n := by
    have hkc : k = 0 ∨ k = 1 ∨ k = 2 ∨ k = 3 ∨ k = 4 ∨ k = 5 ∨ k = 6 := by omega
    rcases hkc with rfl | rfl | rfl | rfl | rfl | rfl | rfl <;> (simp at hn; omega)
  have hk5 : k + 1 ≤ 6 := by
    have hkc : k = 0 ∨ k = 1 ∨ k = 2 ∨ k = 3 ∨ k = 4 ∨ k = 5 ∨ k = 6 := by omega
    rcases hkc with rfl | rfl | rfl | rfl | rfl | rfl | rfl <;> first | omega | (exfalso; simp at hn; omega)
  have hn2 : n / 2 = 2 ^ (6 - (k + 1)) := by
    rw [hn, show 6 - k = (6 - (k + 1)) + 1 from by omega, Nat.pow_succ]; omega
  have hgt : (1 : Int) < (n : Int) := by omega
  have HLK := hid_of hLK
  have HLL := hid_of hLKl
  have HN2 := hid_of hn2
  have HRW : Hid (DRow V a n LK) := by rw [hLK]; exact HI.out.2
  have HE := hid_of HI.out.1
  have hR := hr
  have hRF := hrf
  clear HI hn hLK hLKl hn2
  go_wp2_with fail
  refine wp_loop_f 36 (mrJ W V a n c LK) (fun f _ => n - (intOf (f 5)).toNat) rfl ⟨rfl, rfl, 0, none, 0, 0, by omega, rfl, rfl, OutG.nil (ext_Ext (Ext.refl V))⟩ ?_
  intro F2 V2 hrel
  obtain ⟨f2, f3, j, b2, m, d, hj, f5, f4, HI⟩ := hrel
  have H5 := hid_of f5
  rw [frame36, f2, f3, f4, f5]
  clear f2 f3 f4 f5
  obtain ⟨i, hi⟩ : ∃ i, i = 2 * j := ⟨_, rfl⟩
  rw [← hi] at hj ⊢
  have HII := hid_of hi
  by_cases hin : i < n
  rotate_left 1
  · obtain rfl : i = n := by omega
    have hin' : ¬ (i : Int) < (i : Int) := by omega
    have hm : m = i / 2 := by
      rw [HI.out.2.2, List.length_take, pairUp_len, HLL.out]; omega
    have HR9 : Hid (W.Extends V2 ∧ DRow V2 b2 m (topK L.toList (k + 1))) := by
      refine ⟨HE.out.trans HI.out.2.1, ?_⟩
      have h9 := (HI.out.rw el123)
      rw [List.take_of_length_le (by rw [pairUp_len, HLL.out]; omega), HLK.out] at h9
      exact DRow.of h9 (by omega)
    have hr2 : blk V2 W.heap.size = some (arr u8v zD) := (HI.out.2.1.blk hsz).trans hR
    have hrf2 : free V2 W.heap.size = true := (free_of_heap (HI.out.2.1.block _ hsz)).trans hRF
    have HM : Hid (m = i / 2) := hm
    clear HI hi hm hev
    go_wp2_with fail
    refine ⟨rfl, rfl, ⟨rfl, k + 1, m, b2, d, hk5, by rw [HM.out]; exact HN2.out, rfl, hr2, hrf2, HR9.out⟩, ?_⟩
    show m < lenV (F 3)
    rw [H3.out, HM.out]
    show _ < i
    omega
  have hj2 : i + 1 < n := by omega
  have hin' : (i : Int) < (n : Int) := by omega
  obtain ⟨-, lb, lo, C, rfl, hbV, hcl, hseg⟩ := HRW.out
  have hS0 : blk V2.drew lb = some C := (HI.out.2.1.blk (blk_lt hbV)).trans hbV
  have HLB := hid_of hbV
  obtain ⟨x, hx⟩ : ∃ x, LK[i]? = some x := ⟨_, List.getElem?_eq_getElem (by rw [HLL.out]; omega)⟩
  obtain ⟨y, hy⟩ : ∃ y, LK[i + 1]? = some y := ⟨_, List.getElem?_eq_getElem (by rw [HLL.out]; omega)⟩
  obtain ⟨i1, hi1⟩ : ∃ i1, i1 = i + 1 := ⟨_, rfl⟩
  have s1 : seg C (lo + i * 32) 32 = arr u8v x := hseg i x hx
  have s2 : seg C (lo + i1 * 32) 32 = arr u8v y := by rw [hi1]; exact hseg (i + 1) y hy
  have l1 : lo + i * 32 + 32 ≤ C.length := by omega
  have l2 : lo + i1 * 32 + 32 ≤ C.length := by omega
  have p0 : (0 : Int) ≤ (i : Int) := by omega
  have p2 : ((i : Int)).toNat = i := by omega
  have q0 : (0 : Int) ≤ (i1 : Int) := by omega
  have q1 : (i1 : Int) < (n : Int) := by omega
  have q2 : ((i1 : Int)).toNat = i1 := by omega
  have w1 : IntKind.i64.wrap ((i : Int) + 1) = (i1 : Int) := by rw [wraps_i64 _ (by omega) (by omega)]; omega
  have w2 : IntKind.i64.wrap ((i : Int) + 2) = ((2 * (j + 1) : Nat) : Int) := by rw [wraps_i64 _ (by omega) (by omega)]; omega
  have HXG : Hid (LK.getD (2 * j) zD = x ∧ LK.getD (2 * j + 1) zD = y) := by
    rw [← hi]
    exact ⟨by rw [List.getD_eq_getElem?_getD, hx]; rfl, by rw [List.getD_eq_getElem?_getD, hy]; rfl⟩
  have HJ2 : Hid (2 * (j + 1) ≤ n) := by show _ ≤ _; omega
  have hm64 : m ≤ 64 := by rw [HI.out.2.2, List.length_take]; omega
  have HW2 := hid_of w2
  have hjb : j ≤ 64 := by omega
  clear hx hy hi1 hseg hbV hi w2 hev HRW
  go_upto_region 7 with fail
  repeat go_step
  refine wp_region_held_drew (S := fun W' => blk W' lb = some C) (by kernel_rfl) hS0 (fun hHeld => ?_)
  refine wpAnyH_take (i := 0) (oi := ⟨_, _, _, _, _, _⟩) (v := ?_) rfl (by kernel_rfl) (by kernel_rfl) (by kernel_rfl) (fun _ _ _ h => h) (Or.inl ⟨by rfl, ?_⟩) (by assumption) ?_
  rotate_left 1
  · intro W' hSw
    go_simp
    try with_reducible rfl
  try simp only [Act.put, List.setIfInBounds_toArray, List.set_cons_zero, List.set_cons_succ]
  refine wpAnyH_take (i := 1) (oi := ⟨_, _, _, _, _, _⟩) (v := ?_) rfl (by kernel_rfl) (by kernel_rfl) (by kernel_rfl) (fun _ _ _ h => h) (Or.inl ⟨by rfl, ?_⟩) (by assumption) ?_
  rotate_left 1
  · intro W' hSw
    go_simp
    try with_reducible rfl
  try simp only [Act.put, List.setIfInBounds_toArray, List.set_cons_zero, List.set_cons_succ]
  refine wpAnyH_take (i := 2) (oi := ⟨_, _, _, _, _, _⟩) (v := ?_) rfl (by kernel_rfl) (by kernel_rfl) (by kernel_rfl) (fun _ _ _ h => h) (Or.inl ⟨by rfl, ?_⟩) (by assumption) ?_
  rotate_left 1
  · intro W' hSw
    go_simp
    try with_reducible rfl
  try simp only [Act.put, List.setIfInBounds_toArray, List.set_cons_zero, List.set_cons_succ]
  refine wpAnyH_take (i := 3) (oi := ⟨_, _, _, _, _, _⟩) (v := ?_) rfl (by kernel_rfl) (by kernel_rfl) (by kernel_rfl) (fun _ _ _ h => h) (Or.inl ⟨by rfl, ?_⟩) (by assumption) ?_
  rotate_left 1
  · intro W' hSw
    go_simp
    try with_reducible rfl
  try simp only [Act.put, List.setIfInBounds_toArray, List.set_cons_zero, List.set_cons_succ]
  refine wpAnyH_take (i := 4) (oi := ⟨_, _, _, _, _, _⟩) (v := ?_) rfl (by kernel_rfl) (by kernel_rfl) (by kernel_rfl) (fun _ _ _ h => h) (Or.inl ⟨by rfl, ?_⟩) (by assumption) ?_
  rotate_left 1
  · intro W' hSw
    go_simp
    try with_reducible rfl
  try simp only [Act.put, List.setIfInBounds_toArray, List.set_cons_zero, List.set_cons_succ]
  refine wpAnyH_take (i := 5) (oi := ⟨_, _, _, _, _, _⟩) (v := ?_) rfl (by kernel_rfl) (by kernel_rfl) (by kernel_rfl) (fun _ _ _ h => h) (Or.inl ⟨by rfl, ?_⟩) (by assumption) ?_
  rotate_left 1
  · intro W' hSw
    go_simp
    try with_reducible rfl
  try simp only [Act.put, List.setIfInBounds_toArray, List.set_cons_zero, List.set_cons_succ]
  refine wpAnyH_take (i := 6) (oi := ⟨_, _, _, _, _, _⟩) (v := ?_) rfl (by kernel_rfl) (by kernel_rfl) (by kernel_rfl) (fun _ _ _ h => h) (Or.inl ⟨by rfl, ?_⟩) (by assumption) ?_
  rotate_left 1
  · intro W' hSw
    go_simp
    try with_reducible rfl
  try simp only [Act.put, List.setIfInBounds_toArray, List.set_cons_zero, List.set_cons_succ]
  refine wpAnyH_take (i := 7) (oi := ⟨_, _, _, _, _, _⟩) (v := ?_) rfl (by kernel_rfl) (by kernel_rfl) (by kernel_rfl) (fun _ _ _ h => h) (Or.inl ⟨by rfl, ?_⟩) (by assumption) ?_
  rotate_left 1
  · intro W' hSw
    go_simp
    try with_reducible rfl
  try simp only [Act.put, List.setIfInBounds_toArray, List.set_cons_zero, List.set_cons_succ]
  refine wpAnyH_take (i := 8) (oi := ⟨_, _, _, _, _, _⟩) (v := ?_) rfl (by kernel_rfl) (by kernel_rfl) (by kernel_rfl) (fun _ _ _ h => h) (Or.inl ⟨by rfl, ?_⟩) (by assumption) ?_
  rotate_left 1
  · intro W' hSw
    go_simp
    try with_reducible rfl
  try simp only [Act.put, List.setIfInBounds_toArray, List.set_cons_zero, List.set_cons_succ]
  refine wpAnyH_take (i := 9) (oi := ⟨_, _, _, _, _, _⟩) (v := ?_) rfl (by kernel_rfl) (by kernel_rfl) (by kernel_rfl) (fun _ _ _ h => h) (Or.inl ⟨by rfl, ?_⟩) (by assumption) ?_
  rotate_left 1
  · intro W' hSw
    go_simp
    try with_reducible rfl
  try simp only [Act.put, List.setIfInBounds_toArray, List.set_cons_zero, List.set_cons_succ]
  refine wpAnyH_ready (rs := [10]) (by kernel_rfl) (by simp) ?_
  refine AllReadyH.cons (o := ⟨_, _, _, _, _, _⟩) rfl (fun K' hK => ?_) AllReadyH.nil
  go_simp
  refine (node_any V2.drew x y).mono ?_
  rintro e V6 ⟨rfl, hx6⟩
  dsimp only
  have hOb : OutG encD 32 47 V V6 b2 m d ((pairUp LK).take j) := HI.out.ext ((extends_drewN (ext_Ext (Ext.refl _)) 1).trans hx6)
  obtain ⟨a7, c7, V7, hrun, hO7, -⟩ := hOb.app el123 (nodF x y) (by rw [List.length_take]; omega) (arr u8v (nodF x y)).toArray rfl 1
  have hS6 : blk V6 lb = some C := (hx6.blk (blk_lt hS0)).trans hS0
  have hS6a : blk (V6.alloc (.cells (arr u8v (nodF x y)).toArray 47)) lb = some C := by rw [blk_alloc, if_neg (by have := blk_lt hS6; omega)]; exact hS6
  have hS7 : blk V7 lb = some C := (hO7.2.1.blk (blk_lt HLB.out)).trans HLB.out
  have HJ : Hid (OutG encD 32 47 V V7 a7 (m + 1) c7 ((pairUp LK).take (j + 1))) := by
    show OutG _ _ _ _ _ _ _ _ _
    rw [pairUp_take LK j (by have h9 := HII.out; rw [HLL.out]; omega), HXG.out.1, HXG.out.2]
    exact hO7
  clear hOb hO7 hx6
  refine hK.out _ _ hS6 (fun hHeld => ?_)
  clear hK K'
  try simp only [Act.put, List.setIfInBounds_toArray, List.set_cons_zero, List.set_cons_succ]
  refine wpAnyH_ready (rs := [11]) (by kernel_rfl) (by simp) ?_
  refine AllReadyH.cons (o := ⟨_, _, _, _, _, _⟩) rfl (fun K' hK => ?_) AllReadyH.nil
  go_simp
  refine hK.out _ _ hS6a (fun hHeld => ?_)
  clear hK K'
  try simp only [Act.put, List.setIfInBounds_toArray, List.set_cons_zero, List.set_cons_succ]
  refine wpAnyH_ready (rs := [12]) (by kernel_rfl) (by simp) ?_
  refine AllReadyH.cons (o := ⟨_, _, _, _, _, _⟩) rfl (fun K' hK => ?_) AllReadyH.nil
  refine wp_append_run _ _ 123 rfl _ _ _ _ rfl rfl hrun ?_
  refine hK.out _ _ hS7 (fun hHeld => ?_)
  clear hK K'
  try simp only [Act.put, List.setIfInBounds_toArray, List.set_cons_zero, List.set_cons_succ]
  refine wpAnyH_take (i := 13) (oi := ⟨_, _, _, _, _, _⟩) (v := ?_) rfl (by kernel_rfl) (by kernel_rfl) (by kernel_rfl) (fun _ _ _ h => h) (Or.inl ⟨by rfl, ?_⟩) (by assumption) ?_
  rotate_left 1
  · intro W' hSw
    go_simp
    try with_reducible rfl
  try simp only [Act.put, List.setIfInBounds_toArray, List.set_cons_zero, List.set_cons_succ]
  refine wpAnyH_done (by kernel_rfl) ?_ _
  clear hHeld
  go_wp2_with fail
  refine ⟨rfl, rfl, ⟨rfl, rfl, j + 1, a7, m + 1, c7, HJ2.out, ?_, rfl, HJ.out⟩, ?_⟩
  · show Value.int .i64 _ = _
    have h9 := HII.out

    first | rw [HW2.out] | (refine congrArg (Value.int .i64) ?_; omega) | go_num
  · show n - (intOf (Value.int .i64 _)).toNat < n - (intOf (F2 5)).toNat
    rw [H5.out]
    have := HII.out
    have := HW2.out
    simp [intOf]
    omega
end Go.Proofs.Qxb6500786aGreat
