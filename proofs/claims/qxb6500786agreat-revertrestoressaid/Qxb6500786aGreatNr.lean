import Derived.DeepKeys2
import Derived.Test.Qxb6500786aGreatNq

import Derived.StillTailTactics
import Derived.Deep.QuietTactic
import Derived.BigQuiet
import Derived.Deep.RegionHeld
import Derived.Deep.CutRange
import Derived.Laws.ResultCell
import Derived.Laws.Rows
import Derived.DeepKeys
import Derived.DataBytes
import Derived.Laws.StructEq
import Derived.Laws.AppendOwn
import Derived.Laws.MakeOwn
import Derived.Lib.AppendStr
set_option linter.unusedSimpArgs false
set_option linter.unusedVariables false
namespace Go.Proofs.Qxb6500786aGreat
open Go.RowKit Go.Blk
attribute [local go_sem ↓] execOp_load execOp_store execOp_alloc
attribute [local go_sem] Tryz.ld24 Tryz.st24 Tryz.ld36 Tryz.st36 Tryz.ld28 Tryz.st28 Tryz.ld32 Tryz.st32 Tryz.ld33 Tryz.st33 Tryz.ld34 Tryz.st34 Tryz.ld5 Tryz.st5 Tryz.ld31 Tryz.st31 Tryz.ld30 Tryz.st30 Tryz.ld41 Tryz.st41 Tryz.ld44 Tryz.st44 Tryz.ld4 Tryz.st4 Tryz.ld173 Tryz.st173 Tryz.ld174 Tryz.st174 Tryz.ld95 Tryz.st95 Tryz.ld45 Tryz.st45 Tryz.ld207 Tryz.st207 Tryz.ld3 Tryz.st3 Tryz.ld189 Tryz.st189 Tryz.ld2 Tryz.st2 Tryz.ld9 Tryz.st9 Tryz.ld12 Tryz.st12 Tryz.ld21 Tryz.st21 Tryz.ld22 Tryz.st22 Tryz.ld46 Tryz.st46 Tryz.ld92 Tryz.st92 Tryz.ld94 Tryz.st94 Tryz.ld96 Tryz.st96 Tryz.ld97 Tryz.st97 Tryz.ld105 Tryz.st105 Tryz.ld117 Tryz.st117 Tryz.ld122 Tryz.st122 Tryz.ld123 Tryz.st123 Tryz.ld133 Tryz.st133 Tryz.ld155 Tryz.st155 Tryz.ld163 Tryz.st163 Tryz.ld190 Tryz.st190 Tryz.ld197 Tryz.st197 Tryz.ld201 Tryz.st201 Tryz.ld202 Tryz.st202 Tryz.ld209 Tryz.st209 Tryz.ld216 Tryz.st216 Tryz.ld230 Tryz.st230 Tryz.ld238 Tryz.st238 Tryz.ld242 Tryz.st242 Tryz.ld251 Tryz.st251 Tryz.ld260 Tryz.st260 Tryz.ld286 Tryz.st286 Tryz.ld292 Tryz.st292 Tryz.ld298 Tryz.st298 Tryz.ld309 Tryz.st309 Tryz.ld35 Tryz.st35 Tryz.ld48 Tryz.st48 Tryz.ld47 Tryz.st47 Tryz.ld79 Tryz.st79 Tryz.ld177 Tryz.st177 Tryz.ld180 Tryz.st180 Tryz.ld231 Tryz.st231 Tryz.ld232 Tryz.st232 Tryz.ld26 Tryz.st26 Tryz.ld38 Tryz.st38 Tryz.ld40 Tryz.st40 Tryz.ld43 Tryz.st43 Tryz.ld50 Tryz.st50 Tryz.ld52 Tryz.st52 Tryz.ld54 Tryz.st54 Tryz.ld81 Tryz.st81 Tryz.ld112 Tryz.st112 Tryz.ld120 Tryz.st120 Tryz.ld176 Tryz.st176 Tryz.ld179 Tryz.st179 Tryz.ld182 Tryz.st182 Tryz.ld184 Tryz.st184 Tryz.ld234 Tryz.st234 Tryz.ld236 Tryz.st236 Tryz.ld240 Tryz.st240 Tryz.ld246 Tryz.st246 Tryz.ld249 Tryz.st249 Tryz.al35 Tryz.al48 Tryz.al47 Tryz.al79 Tryz.al177 Tryz.al180 Tryz.al231 Tryz.al232 Tryz.al26 Tryz.al38 Tryz.al40 Tryz.al43 Tryz.al50 Tryz.al52 Tryz.al54 Tryz.al81 Tryz.al112 Tryz.al120 Tryz.al176 Tryz.al179 Tryz.al182 Tryz.al184 Tryz.al234 Tryz.al236 Tryz.al240 Tryz.al246 Tryz.al249
attribute [local go_sem] Player.length_enc Player.ok_enc Player.all_get Player.all_set Player.hand_get Player.hand_set Player.aside_get Player.aside_set Message.length_enc Message.ok_enc Message.all_get Message.all_set Message.kind_get Message.kind_set Message.from__get Message.from__set Message.to__get Message.to__set Message.sender_get Message.sender_set Message.receiver_get Message.receiver_set Message.seq_get Message.seq_set Message.token_get Message.token_set Message.amount_get Message.amount_set Message.size_get Message.size_set Message.payload_get Message.payload_set Tx.length_enc Tx.ok_enc Tx.all_get Tx.all_set Tx.kind_get Tx.kind_set Tx.chain_get Tx.chain_set Tx.from__get Tx.from__set Tx.nonce_get Tx.nonce_set Tx.fee_get Tx.fee_set Tx.to__get Tx.to__set Tx.dest_get Tx.dest_set Tx.token_get Tx.token_set Tx.amount_get Tx.amount_set Tx.size_get Tx.size_set Tx.payload_get Tx.payload_set Tx.msg_get Tx.msg_set Tx.msg_kind_get Tx.msg_kind_set Tx.msg_from__get Tx.msg_from__set Tx.msg_to__get Tx.msg_to__set Tx.msg_sender_get Tx.msg_sender_set Tx.msg_receiver_get Tx.msg_receiver_set Tx.msg_seq_get Tx.msg_seq_set Tx.msg_token_get Tx.msg_token_set Tx.msg_amount_get Tx.msg_amount_set Tx.msg_size_get Tx.msg_size_set Tx.msg_payload_get Tx.msg_payload_set GOp.length_enc GOp.ok_enc GOp.all_get GOp.all_set GOp.kind_get GOp.kind_set GOp.tx_get GOp.tx_set GOp.txs_get GOp.txs_set GOp.gas_get GOp.gas_set GOp.acct_get GOp.acct_set GOp.token_get GOp.token_set GOp.chain_get GOp.chain_set GOp.seq_get GOp.seq_set GOp.tx_kind_get GOp.tx_kind_set GOp.tx_chain_get GOp.tx_chain_set GOp.tx_from__get GOp.tx_from__set GOp.tx_nonce_get GOp.tx_nonce_set GOp.tx_fee_get GOp.tx_fee_set GOp.tx_to__get GOp.tx_to__set GOp.tx_dest_get GOp.tx_dest_set GOp.tx_token_get GOp.tx_token_set GOp.tx_amount_get GOp.tx_amount_set GOp.tx_size_get GOp.tx_size_set GOp.tx_payload_get GOp.tx_payload_set GOp.tx_msg_get GOp.tx_msg_set GOp.tx_msg_kind_get GOp.tx_msg_kind_set GOp.tx_msg_from__get GOp.tx_msg_from__set GOp.tx_msg_to__get GOp.tx_msg_to__set GOp.tx_msg_sender_get GOp.tx_msg_sender_set GOp.tx_msg_receiver_get GOp.tx_msg_receiver_set GOp.tx_msg_seq_get GOp.tx_msg_seq_set GOp.tx_msg_token_get GOp.tx_msg_token_set GOp.tx_msg_amount_get GOp.tx_msg_amount_set GOp.tx_msg_size_get GOp.tx_msg_size_set GOp.tx_msg_payload_get GOp.tx_msg_payload_set Summary.length_enc Summary.ok_enc Summary.all_get Summary.all_set Summary.height_get Summary.height_set Summary.txs_get Summary.txs_set Summary.gas_get Summary.gas_set Summary.fees_get Summary.fees_set Summary.sent_get Summary.sent_set Summary.took_get Summary.took_set Summary.minted_get Summary.minted_set Summary.burned_get Summary.burned_set Summary.root_get Summary.root_set Detail.length_enc Detail.ok_enc Detail.all_get Detail.all_set Detail.code_get Detail.code_set Detail.have__get Detail.have__set Detail.need_get Detail.need_set Slot.length_enc Slot.ok_enc Slot.all_get Slot.all_set Slot.nonce_get Slot.nonce_set Slot.balances_get Slot.balances_set Tree.length_enc Tree.ok_enc Tree.all_get Tree.all_set Tree.leaves_get Tree.leaves_set Mark.length_enc Mark.ok_enc Mark.all_get Mark.all_set Mark.from__get Mark.from__set Mark.seq_get Mark.seq_set Receipt.length_enc Receipt.ok_enc Receipt.all_get Receipt.all_set Receipt.code_get Receipt.code_set Receipt.hash_get Receipt.hash_set Receipt.index_get Receipt.index_set Receipt.gas_get Receipt.gas_set Receipt.fee_get Receipt.fee_set Receipt.hasSent_get Receipt.hasSent_set Receipt.sent_get Receipt.sent_set Receipt.hasTook_get Receipt.hasTook_set Receipt.took_get Receipt.took_set Receipt.sent_kind_get Receipt.sent_kind_set Receipt.sent_from__get Receipt.sent_from__set Receipt.sent_to__get Receipt.sent_to__set Receipt.sent_sender_get Receipt.sent_sender_set Receipt.sent_receiver_get Receipt.sent_receiver_set Receipt.sent_seq_get Receipt.sent_seq_set Receipt.sent_token_get Receipt.sent_token_set Receipt.sent_amount_get Receipt.sent_amount_set Receipt.sent_size_get Receipt.sent_size_set Receipt.sent_payload_get Receipt.sent_payload_set Receipt.took_kind_get Receipt.took_kind_set Receipt.took_from__get Receipt.took_from__set Receipt.took_to__get Receipt.took_to__set Receipt.took_sender_get Receipt.took_sender_set Receipt.took_receiver_get Receipt.took_receiver_set Receipt.took_seq_get Receipt.took_seq_set Receipt.took_token_get Receipt.took_token_set Receipt.took_amount_get Receipt.took_amount_set Receipt.took_size_get Receipt.took_size_set Receipt.took_payload_get Receipt.took_payload_set Store.length_enc Store.ok_enc Store.all_get Store.all_set Store.now_get Store.now_set Store.saved_get Store.saved_set GState.length_enc GState.ok_enc GState.all_get GState.all_set GState.kv_get GState.kv_set GState.tree_get GState.tree_set GState.stale_get GState.stale_set GState.touched_get GState.touched_set GState.kv_now_get GState.kv_now_set GState.kv_saved_get GState.kv_saved_set GState.tree_leaves_get GState.tree_leaves_set History.length_enc History.ok_enc History.all_get History.all_set History.ring_get History.ring_set History.closed_get History.closed_set Ledger.length_enc Ledger.ok_enc Ledger.all_get Ledger.all_set Ledger.chain_get Ledger.chain_set Ledger.st_get Ledger.st_set Ledger.height_get Ledger.height_set Ledger.open__get Ledger.open__set Ledger.gasLimit_get Ledger.gasLimit_set Ledger.past_get Ledger.past_set Ledger.begun_get Ledger.begun_set Ledger.sent_get Ledger.sent_set Ledger.took_get Ledger.took_set Ledger.receipts_get Ledger.receipts_set Ledger.st_kv_get Ledger.st_kv_set Ledger.st_tree_get Ledger.st_tree_set Ledger.st_stale_get Ledger.st_stale_set Ledger.st_touched_get Ledger.st_touched_set Ledger.st_kv_now_get Ledger.st_kv_now_set Ledger.st_kv_saved_get Ledger.st_kv_saved_set Ledger.st_tree_leaves_get Ledger.st_tree_leaves_set Ledger.past_ring_get Ledger.past_ring_set Ledger.past_closed_get Ledger.past_closed_set Ledger.begun_kv_get Ledger.begun_kv_set Ledger.begun_tree_get Ledger.begun_tree_set Ledger.begun_stale_get Ledger.begun_stale_set Ledger.begun_touched_get Ledger.begun_touched_set Ledger.begun_kv_now_get Ledger.begun_kv_now_set Ledger.begun_kv_saved_get Ledger.begun_kv_saved_set Ledger.begun_tree_leaves_get Ledger.begun_tree_leaves_set Purse.length_enc Purse.ok_enc Purse.all_get Purse.all_set Purse.st_get Purse.st_set Purse.n_get Purse.n_set Purse.account_get Purse.account_set Purse.token_get Purse.token_set Purse.amount_get Purse.amount_set Plan.length_enc Plan.ok_enc Plan.all_get Plan.all_set Plan.purse_get Plan.purse_set Plan.nonce_get Plan.nonce_set Plan.gasUsed_get Plan.gasUsed_set Plan.fees_get Plan.fees_set Plan.hasSupply_get Plan.hasSupply_set Plan.token_get Plan.token_set Plan.supply_get Plan.supply_set Plan.flowAt_get Plan.flowAt_set Plan.flow_get Plan.flow_set Plan.receipt_get Plan.receipt_set Plan.purse_st_get Plan.purse_st_set Plan.purse_n_get Plan.purse_n_set Plan.purse_account_get Plan.purse_account_set Plan.purse_token_get Plan.purse_token_set Plan.purse_amount_get Plan.purse_amount_set Plan.receipt_code_get Plan.receipt_code_set Plan.receipt_hash_get Plan.receipt_hash_set Plan.receipt_index_get Plan.receipt_index_set Plan.receipt_gas_get Plan.receipt_gas_set Plan.receipt_fee_get Plan.receipt_fee_set Plan.receipt_hasSent_get Plan.receipt_hasSent_set Plan.receipt_sent_get Plan.receipt_sent_set Plan.receipt_hasTook_get Plan.receipt_hasTook_set Plan.receipt_took_get Plan.receipt_took_set Plan.receipt_sent_kind_get Plan.receipt_sent_kind_set Plan.receipt_sent_from__get Plan.receipt_sent_from__set Plan.receipt_sent_to__get Plan.receipt_sent_to__set Plan.receipt_sent_sender_get Plan.receipt_sent_sender_set Plan.receipt_sent_receiver_get Plan.receipt_sent_receiver_set Plan.receipt_sent_seq_get Plan.receipt_sent_seq_set Plan.receipt_sent_token_get Plan.receipt_sent_token_set Plan.receipt_sent_amount_get Plan.receipt_sent_amount_set Plan.receipt_sent_size_get Plan.receipt_sent_size_set Plan.receipt_sent_payload_get Plan.receipt_sent_payload_set Plan.receipt_took_kind_get Plan.receipt_took_kind_set Plan.receipt_took_from__get Plan.receipt_took_from__set Plan.receipt_took_to__get Plan.receipt_took_to__set Plan.receipt_took_sender_get Plan.receipt_took_sender_set Plan.receipt_took_receiver_get Plan.receipt_took_receiver_set Plan.receipt_took_seq_get Plan.receipt_took_seq_set Plan.receipt_took_token_get Plan.receipt_took_token_set Plan.receipt_took_amount_get Plan.receipt_took_amount_set Plan.receipt_took_size_get Plan.receipt_took_size_set Plan.receipt_took_payload_get Plan.receipt_took_payload_set Move.length_enc Move.ok_enc Move.all_get Move.all_set Move.account_get Move.account_set Move.token_get Move.token_set Move.down_get Move.down_set Move.amount_get Move.amount_set Books.length_enc Books.ok_enc Books.all_get Books.all_set Books.sums_get Books.sums_set Books.stored_get Books.stored_set Books.marks_get Books.marks_set Pair.length_enc Pair.ok_enc Pair.all_get Pair.all_set Pair.key_get Pair.key_set Pair.value_get Pair.value_set
attribute [local go_sem] size_put size_ext blk_put free_put blk_alloc free_alloc blk_drew free_drew blk_ext free_ext lookOr_some putOr_some segAt_some cellAt_some storeIn_some put_put put_alloc_new length_arr ok_arr_u8 ok_arr_u32 ok_arr_u64 ok_arr_i64 ok_arr_sl cellsV_agg cellsV_int cellsV_bool cellsV_string cellsV_pointer cellsV_slice cellsV_sl ok_int ok_bool ok_string ok_pointer ok_slice ok_sl toList_arr seg_arr set_arr nth_splice nth_splice0 seg_splice seg_splice0 splice_splice splice_splice0 length_splice_if
attribute [local go_sem ↓] execOp_box
attribute [local go_sem] box_run nth_arr_u8 put_arr_u8 blk_drewN free_drewN put_drewN blk_raw free_raw
attribute [local go_sem] Tryz.ld148 Tryz.st148 Tryz.al148 Dump.length_enc Dump.ok_enc Dump.all_get Dump.all_set Dump.chain_get Dump.height_get Dump.balances_get Dump.nonces_get Dump.marks_get Dump.history_get
/-- The last root spoilt. -/
def spS (x : Summary) : Summary := { x with root := x.root.set 0 (x.root[0] ^^^ 1) }
def spL (h : List Summary) : List Summary := match h[h.length - 1]? with
  | some x => h.set (h.length - 1) (spS x)
  | none => h
def sumH (h : UInt64) : Summary := { Summary.zero with height := h }
/-- spoil, plainly. -/
def splF (d : PDump) (k : Nat) : PDump :=
  if k = 1 then { d with chain := 3 } else if k = 2 then { d with bal := d.bal.set 7 9223372036854775808 } else if k = 3 then { d with bal := (d.bal.set 1 9223372036854775807).set 5 9223372036854775807 }
  else if k = 4 then { d with marks := d.marks ++ [⟨3, 5⟩, ⟨3, 5⟩] } else if k = 5 then { d with marks := d.marks ++ [⟨d.chain, 1⟩] } else if k = 6 then { d with marks := d.marks ++ [⟨3, 281474976710656⟩] }
  else if k = 7 then { d with non := d.non.set 3 9223372036854775808 } else if k = 8 then { d with hist := d.hist ++ [sumH (d.height + 1)] } else if k = 9 then { d with hist := spL d.hist } else d
section
variable {α : Type} {en : α → List Value} {sz bytes : Nat} {t e : TypeId} {W V : World} {a : Option Addr} {n c : Nat} {K : List α}
theorem OutG.ty (h : OutG en sz e W V a n c K) {b : Nat} {C : Array Value} {t' : TypeId} {fz : Nat × Nat} (hb : V.heap[b]? = some (.cells C t' fz)) (hne : e ≠ t') : (Value.slice a n c).ownBlock ≠ some b := fun q => by
  obtain ⟨-, -, cur, fz', h2⟩ := row_at h.1 b q
  rw [hb] at h2
  injection h2 with h2
  injection h2 with h3 h4 h5
  exact hne h4.symm
theorem OutG.app2 (hE : ElT en sz bytes t e) (h : OutG en sz e W V a n c K) (x y : α) (hl : K.length ≤ 1000000000) (A : Array Value) (hA : A = (en x ++ en y).toArray) :
    ∃ a' c' V', (Builtin.append_ #[t, t] t #[.slice a n c, .slice (some ⟨V.heap.size, 0, none⟩) 2 2]).run Tryz.prog (V.alloc (.cells A e)) = .ok (.slice a' (n + 2) c') V' ∧ OutG en sz e W V' a' (n + 2) c' (K ++ [x, y]) ∧ ∀ k, k < V.heap.size → (Value.slice a n c).ownBlock ≠ some k → V'.heap[k]? = V.heap[k]? := by
  subst hA
  have hx1 : V.Extends (V.alloc (.cells (en x ++ en y).toArray e)) := extends_alloc (ext_Ext (Ext.refl _)) _
  have h1 := h.ext hx1
  have hbk : blk (V.alloc (.cells (en x ++ en y).toArray e)) V.heap.size = some (en x ++ en y) := (blk_alloc _ _ _ _).trans (if_pos rfl)
  have hM : Rw en sz (V.alloc (.cells (en x ++ en y).toArray e)) (some ⟨V.heap.size, 0, none⟩) [x, y].length [x, y] := by
    refine ⟨rfl, fun i z hz => ⟨V.heap.size, _, rfl, hbk, ?_, ?_⟩⟩
    · rw [List.length_append, hE.len, hE.len]; show 2 * sz ≤ _; omega
    · have := seg_flatG en sz hE.len [x, y] i z hz
      simpa using this
  obtain ⟨a', n', c', V', hr, ho, hg⟩ := appM hE W.heap.size (V.alloc (.cells (en x ++ en y).toArray e)) t (.slice a n c) K [x, y] (some ⟨V.heap.size, 0, none⟩) 2 h1.1 hM h1.2.1.size (by show K.length + 2 ≤ _; omega)
  have hm : (K ++ [x, y]).length = n + 2 := by rw [List.length_append, h.2.2]; rfl
  obtain ⟨a2, c2, e2⟩ := row_val ho
  injection e2 with e3 e4 e5
  have en' : n' = n + 2 := by rw [e4, hm]
  subst en'
  refine ⟨a', c', V', hr, ⟨ho, grown_ext h1.2.1 hg (fun k hk => (row_at h1.1 k hk).1), hm.symm⟩, fun k hk hn => ?_⟩
  exact (hg.block k (Nat.lt_of_lt_of_le hk hx1.size) (fun q => hn q.symm)).trans (hx1.block k hk)
end
/-- A dump in a block of its own, with its rows, in memory newer than W. -/
def DmS (W : World) (bd : Nat) (d : PDump) (V : World) : Prop := ∃ (ma : Option Addr) (ml mc : Nat) (ha : Option Addr) (hl hc : Nat), V.heap[bd]? = some (.cells (dE d ⟨ma, ml, mc⟩ ⟨ha, hl, hc⟩).enc.toArray 148 (0, 0)) ∧ W.heap.size ≤ bd ∧ OutG Mark.enc 2 112 W V ma ml mc d.marks ∧ OutG Summary.enc 46 50 W V ha hl hc d.hist
theorem heap_blk {V : World} {b : Nat} {C : List Value} {t : TypeId} (h : V.heap[b]? = some (.cells C.toArray t (0, 0))) : blk V b = some C ∧ free V b = true := by
  unfold blk free
  rw [h]
  exact ⟨rfl, rfl⟩
theorem heap_put_ty {V : World} {b : Nat} {C C' : List Value} {t : TypeId} (h : V.heap[b]? = some (.cells C.toArray t (0, 0))) : (put V b C').heap[b]? = some (.cells C'.toArray t (0, 0)) := by
  rw [heap_put, if_pos rfl, h]; rfl
theorem bslice94b (w : World) (x y : Mark) : (bsliceOp 94 2 #[(0, .agg x.enc.toArray), (1, .agg y.enc.toArray)]).run Tryz.prog w = .ok (.value (.slice (some ⟨w.heap.size, 0, none⟩) 2 2)) (w.alloc (.cells (x.enc ++ y.enc).toArray 112)) := by kernel_rfl
theorem build50h (w : World) (h : UInt64) : (buildOp 50 #[(0, .int .u64 (w64 h))]).run Tryz.prog w = .ok (.value (.agg (sumH h).enc.toArray)) w := by kernel_rfl
theorem build112a (w : World) : (buildOp 112 #[(0, .int .u8 3), (1, .int .u64 5)]).run Tryz.prog w = .ok (.value (.agg (Mark.mk 3 5).enc.toArray)) w := by kernel_rfl
theorem build112b (w : World) : (buildOp 112 #[(0, .int .u8 3), (1, .int .u64 281474976710656)]).run Tryz.prog w = .ok (.value (.agg (Mark.mk 3 281474976710656).enc.toArray)) w := by kernel_rfl
theorem build112c (w : World) (a : UInt8) : (buildOp 112 #[(0, .int .u8 (w8 a)), (1, .int .u64 1)]).run Tryz.prog w = .ok (.value (.agg (Mark.mk a 1).enc.toArray)) w := by kernel_rfl
attribute [local go_sem ↓] execOp_build execOp_bslice execOp_slice
attribute [local go_sem] bslice94b bslice94 bslice96 build50h build112a build112b build112c x64_inc
set_option maxRecDepth 20000 in
set_option maxHeartbeats 1000000 in
theorem spoil1_any (W V : World) (bd : Nat) (d : PDump) (hD : DmS W bd d V) (hs : d.marks.length ≤ 1000000 ∧ d.hist.length ≤ 1000000) : Calls Tryz.prog 92 #[.pointer (some ⟨bd, 0, none⟩), .int .u64 1] V fun e V' => e = .returned (.tuple #[]) ∧ DmS W bd (splF d 1) V' := by
  obtain ⟨Q, hQ⟩ : ∃ Q : Ending → World → Prop, Q = fun e V' => e = .returned (.tuple #[]) ∧ DmS W bd (splF d 1) V' := ⟨_, rfl⟩
  rw [← hQ]
  have HQ := hid_of hQ
  obtain ⟨ma, ml, mc, ha, hl, hc, hb, hw, hM, hH⟩ := hD
  obtain ⟨kb, kf⟩ := heap_blk hb
  have hnm := hM.ty hb (by decide)
  have hnh := hH.ty hb (by decide)
  obtain ⟨D0, hD0⟩ : ∃ D0, D0 = dE d ⟨ma, ml, mc⟩ ⟨ha, hl, hc⟩ := ⟨_, rfl⟩
  rw [← hD0] at hb kb
  obtain ⟨D1, hD1⟩ : ∃ D : Dump, D = { D0 with chain := 3 } := ⟨_, rfl⟩
  have s1 : splice D0.enc 0 [.int .u8 3] = D1.enc := by rw [hD1]; exact Dump.chain_set D0 3
  have l0 : D0.enc.length = 324 := Dump.length_enc _
  have HP : Hid (Q (.returned (.tuple #[])) (put V bd D1.enc)) := by
    show Q _ _
    rw [HQ.out]
    refine ⟨rfl, ma, ml, mc, ha, hl, hc, ?_, hw, ?_, ?_⟩
    · rw [heap_put_ty hb, hD1, hD0]; rfl
    · exact hM.put hw hnm _
    · exact hH.put hw hnh _
  clear hM hH hnm hnh hb HQ hQ hD0 hD1
  go_enter Tryz.func92, Tryz.ntmps92
  go_wp2_with fail
  try (first | go_ret | go_ret2 | go_ret3 | go_end0)
  exact HP.out
set_option maxRecDepth 20000 in
set_option maxHeartbeats 1000000 in
theorem spoil2_any (W V : World) (bd : Nat) (d : PDump) (hD : DmS W bd d V) (hs : d.marks.length ≤ 1000000 ∧ d.hist.length ≤ 1000000) : Calls Tryz.prog 92 #[.pointer (some ⟨bd, 0, none⟩), .int .u64 2] V fun e V' => e = .returned (.tuple #[]) ∧ DmS W bd (splF d 2) V' := by
  obtain ⟨Q, hQ⟩ : ∃ Q : Ending → World → Prop, Q = fun e V' => e = .returned (.tuple #[]) ∧ DmS W bd (splF d 2) V' := ⟨_, rfl⟩
  rw [← hQ]
  have HQ := hid_of hQ
  obtain ⟨ma, ml, mc, ha, hl, hc, hb, hw, hM, hH⟩ := hD
  obtain ⟨kb, kf⟩ := heap_blk hb
  have hnm := hM.ty hb (by decide)
  have hnh := hH.ty hb (by decide)
  obtain ⟨D0, hD0⟩ : ∃ D0, D0 = dE d ⟨ma, ml, mc⟩ ⟨ha, hl, hc⟩ := ⟨_, rfl⟩
  rw [← hD0] at hb kb
  obtain ⟨D1, hD1⟩ : ∃ D : Dump, D = { D0 with balances := D0.balances.set 7 9223372036854775808 } := ⟨_, rfl⟩
  have s1 : splice D0.enc 9 [.int .u64 9223372036854775808] = D1.enc := by rw [hD1]; exact Dump.balances_put D0 7 9223372036854775808 (by decide)
  have l0 : D0.enc.length = 324 := Dump.length_enc _
  have HP : Hid (Q (.returned (.tuple #[])) (put V bd D1.enc)) := by
    show Q _ _
    rw [HQ.out]
    refine ⟨rfl, ma, ml, mc, ha, hl, hc, ?_, hw, ?_, ?_⟩
    · rw [heap_put_ty hb, hD1, hD0]; rfl
    · exact hM.put hw hnm _
    · exact hH.put hw hnh _
  clear hM hH hnm hnh hb HQ hQ hD0 hD1
  go_enter Tryz.func92, Tryz.ntmps92
  go_wp2_with fail
  try (first | go_ret | go_ret2 | go_ret3 | go_end0)
  exact HP.out
set_option maxRecDepth 20000 in
set_option maxHeartbeats 1000000 in
theorem spoil3_any (W V : World) (bd : Nat) (d : PDump) (hD : DmS W bd d V) (hs : d.marks.length ≤ 1000000 ∧ d.hist.length ≤ 1000000) : Calls Tryz.prog 92 #[.pointer (some ⟨bd, 0, none⟩), .int .u64 3] V fun e V' => e = .returned (.tuple #[]) ∧ DmS W bd (splF d 3) V' := by
  obtain ⟨Q, hQ⟩ : ∃ Q : Ending → World → Prop, Q = fun e V' => e = .returned (.tuple #[]) ∧ DmS W bd (splF d 3) V' := ⟨_, rfl⟩
  rw [← hQ]
  have HQ := hid_of hQ
  obtain ⟨ma, ml, mc, ha, hl, hc, hb, hw, hM, hH⟩ := hD
  obtain ⟨kb, kf⟩ := heap_blk hb
  have hnm := hM.ty hb (by decide)
  have hnh := hH.ty hb (by decide)
  obtain ⟨D0, hD0⟩ : ∃ D0, D0 = dE d ⟨ma, ml, mc⟩ ⟨ha, hl, hc⟩ := ⟨_, rfl⟩
  rw [← hD0] at hb kb
  obtain ⟨D1, hD1⟩ : ∃ D : Dump, D = { D0 with balances := D0.balances.set 1 9223372036854775807 } := ⟨_, rfl⟩
  have s1 : splice D0.enc 3 [.int .u64 9223372036854775807] = D1.enc := by rw [hD1]; exact Dump.balances_put D0 1 9223372036854775807 (by decide)
  have l0 : D0.enc.length = 324 := Dump.length_enc _
  obtain ⟨D2, hD2⟩ : ∃ D : Dump, D = { D1 with balances := D1.balances.set 5 9223372036854775807 } := ⟨_, rfl⟩
  have s2 : splice D1.enc 7 [.int .u64 9223372036854775807] = D2.enc := by rw [hD2]; exact Dump.balances_put D1 5 9223372036854775807 (by decide)
  have l1 : D1.enc.length = 324 := Dump.length_enc _
  have HP : Hid (Q (.returned (.tuple #[])) (put V bd D2.enc)) := by
    show Q _ _
    rw [HQ.out]
    refine ⟨rfl, ma, ml, mc, ha, hl, hc, ?_, hw, ?_, ?_⟩
    · rw [heap_put_ty hb, hD2, hD1, hD0]; rfl
    · exact hM.put hw hnm _
    · exact hH.put hw hnh _
  clear hM hH hnm hnh hb HQ hQ hD0 hD1 hD2
  go_enter Tryz.func92, Tryz.ntmps92
  go_wp2_with fail
  try (first | go_ret | go_ret2 | go_ret3 | go_end0)
  exact HP.out
set_option maxRecDepth 20000 in
set_option maxHeartbeats 1000000 in
theorem spoil7_any (W V : World) (bd : Nat) (d : PDump) (hD : DmS W bd d V) (hs : d.marks.length ≤ 1000000 ∧ d.hist.length ≤ 1000000) : Calls Tryz.prog 92 #[.pointer (some ⟨bd, 0, none⟩), .int .u64 7] V fun e V' => e = .returned (.tuple #[]) ∧ DmS W bd (splF d 7) V' := by
  obtain ⟨Q, hQ⟩ : ∃ Q : Ending → World → Prop, Q = fun e V' => e = .returned (.tuple #[]) ∧ DmS W bd (splF d 7) V' := ⟨_, rfl⟩
  rw [← hQ]
  have HQ := hid_of hQ
  obtain ⟨ma, ml, mc, ha, hl, hc, hb, hw, hM, hH⟩ := hD
  obtain ⟨kb, kf⟩ := heap_blk hb
  have hnm := hM.ty hb (by decide)
  have hnh := hH.ty hb (by decide)
  obtain ⟨D0, hD0⟩ : ∃ D0, D0 = dE d ⟨ma, ml, mc⟩ ⟨ha, hl, hc⟩ := ⟨_, rfl⟩
  rw [← hD0] at hb kb
  obtain ⟨D1, hD1⟩ : ∃ D : Dump, D = { D0 with nonces := D0.nonces.set 3 9223372036854775808 } := ⟨_, rfl⟩
  have s1 : splice D0.enc 261 [.int .u64 9223372036854775808] = D1.enc := by rw [hD1]; exact Dump.nonces_put D0 3 9223372036854775808 (by decide)
  have l0 : D0.enc.length = 324 := Dump.length_enc _
  have HP : Hid (Q (.returned (.tuple #[])) (put V bd D1.enc)) := by
    show Q _ _
    rw [HQ.out]
    refine ⟨rfl, ma, ml, mc, ha, hl, hc, ?_, hw, ?_, ?_⟩
    · rw [heap_put_ty hb, hD1, hD0]; rfl
    · exact hM.put hw hnm _
    · exact hH.put hw hnh _
  clear hM hH hnm hnh hb HQ hQ hD0 hD1
  go_enter Tryz.func92, Tryz.ntmps92
  go_wp2_with fail
  try (first | go_ret | go_ret2 | go_ret3 | go_end0)
  exact HP.out
set_option maxRecDepth 20000 in
set_option maxHeartbeats 1000000 in
theorem spoil4_any (W V : World) (bd : Nat) (d : PDump) (hD : DmS W bd d V) (hs : d.marks.length ≤ 1000000 ∧ d.hist.length ≤ 1000000) : Calls Tryz.prog 92 #[.pointer (some ⟨bd, 0, none⟩), .int .u64 4] V fun e V' => e = .returned (.tuple #[]) ∧ DmS W bd (splF d 4) V' := by
  obtain ⟨Q, hQ⟩ : ∃ Q : Ending → World → Prop, Q = fun e V' => e = .returned (.tuple #[]) ∧ DmS W bd (splF d 4) V' := ⟨_, rfl⟩
  rw [← hQ]
  have HQ := hid_of hQ
  obtain ⟨ma, ml, mc, ha, hl, hc, hb, hw, hM, hH⟩ := hD
  obtain ⟨kb, kf⟩ := heap_blk hb
  have hnm := hM.ty hb (by decide)
  have hnh := hH.ty hb (by decide)
  obtain ⟨E, hE⟩ : ∃ E, E = (dE d ⟨ma, ml, mc⟩ ⟨ha, hl, hc⟩).enc := ⟨_, rfl⟩
  have n0 : nth E 0 = some (.int .u8 (w8 d.chain)) := by rw [hE]; exact Dump.chain_get _
  have n1 : nth E 1 = some (.int .u64 (w64 d.height)) := by rw [hE]; exact Dump.height_get _
  have n22 : nth E 322 = some (.slice ma ml mc) := by rw [hE]; exact Dump.marks_get _
  have n23 : nth E 323 = some (.slice ha hl hc) := by rw [hE]; exact Dump.history_get _
  have lE : E.length = 324 := by rw [hE]; exact Dump.length_enc _
  rw [← hE] at kb hb
  have hM9 := hM
  have hH9 := hH
  obtain ⟨a', c', V7, hr7, hO7, hg7⟩ := hM9.app2 elMark (⟨3, 5⟩) (⟨3, 5⟩) (by omega) ((⟨3, 5⟩ : Mark).enc ++ (⟨3, 5⟩ : Mark).enc).toArray rfl
  have hg8 := hg7
  have hb7 : V7.heap[bd]? = some (.cells E.toArray 148 (0, 0)) := (hg8 bd (blk_lt kb) hnm).trans hb
  obtain ⟨kb7, kf7⟩ := heap_blk hb7
  have hX : OutG Summary.enc 46 50 W V7 ha hl hc d.hist := by
    refine ⟨row_keep hH9.1 (fun k hk => ?_), hO7.2.1, hH9.2.2⟩
    obtain ⟨-, hk2, cur, fz, hk3⟩ := row_at hH9.1 k hk
    exact hg8 k hk2 (hM9.ty hk3 (by decide))
  have s1 : splice E 322 [.slice a' (ml + 2) c'] = (dE (splF d 4) ⟨a', ml + 2, c'⟩ ⟨ha, hl, hc⟩).enc := by rw [hE]; exact Dump.marks_set _ ⟨a', ml + 2, c'⟩
  have HP : Hid (Q (.returned (.tuple #[])) (put V7 bd (dE (splF d 4) ⟨a', ml + 2, c'⟩ ⟨ha, hl, hc⟩).enc)) := by
    show Q _ _
    rw [HQ.out]
    refine ⟨rfl, a', ml + 2, c', ha, hl, hc, heap_put_ty hb7, hw, ?_, ?_⟩
    · exact hO7.put hw (hO7.ty hb7 (by decide)) _
    · exact hX.put hw (hX.ty hb7 (by decide)) _
  clear hM hH hM9 hH9 hnm hnh hb HQ hQ hE hO7 hX hg7 hg8 hb7
  go_enter Tryz.func92, Tryz.ntmps92
  go_wp2_with (at_builtin; refine wpList_append_run rfl _ _ 94 rfl _ _ _ _ rfl rfl hr7 ?_)
  try (first | go_ret | go_ret2 | go_ret3 | go_end0)
  exact HP.out
set_option maxRecDepth 20000 in
set_option maxHeartbeats 1000000 in
theorem spoil6_any (W V : World) (bd : Nat) (d : PDump) (hD : DmS W bd d V) (hs : d.marks.length ≤ 1000000 ∧ d.hist.length ≤ 1000000) : Calls Tryz.prog 92 #[.pointer (some ⟨bd, 0, none⟩), .int .u64 6] V fun e V' => e = .returned (.tuple #[]) ∧ DmS W bd (splF d 6) V' := by
  obtain ⟨Q, hQ⟩ : ∃ Q : Ending → World → Prop, Q = fun e V' => e = .returned (.tuple #[]) ∧ DmS W bd (splF d 6) V' := ⟨_, rfl⟩
  rw [← hQ]
  have HQ := hid_of hQ
  obtain ⟨ma, ml, mc, ha, hl, hc, hb, hw, hM, hH⟩ := hD
  obtain ⟨kb, kf⟩ := heap_blk hb
  have hnm := hM.ty hb (by decide)
  have hnh := hH.ty hb (by decide)
  obtain ⟨E, hE⟩ : ∃ E, E = (dE d ⟨ma, ml, mc⟩ ⟨ha, hl, hc⟩).enc := ⟨_, rfl⟩
  have n0 : nth E 0 = some (.int .u8 (w8 d.chain)) := by rw [hE]; exact Dump.chain_get _
  have n1 : nth E 1 = some (.int .u64 (w64 d.height)) := by rw [hE]; exact Dump.height_get _
  have n22 : nth E 322 = some (.slice ma ml mc) := by rw [hE]; exact Dump.marks_get _
  have n23 : nth E 323 = some (.slice ha hl hc) := by rw [hE]; exact Dump.history_get _
  have lE : E.length = 324 := by rw [hE]; exact Dump.length_enc _
  rw [← hE] at kb hb
  have hM9 := hM
  have hH9 := hH
  obtain ⟨a', c', V7, hr7, hO7, hg7⟩ := hM9.app elMark (⟨3, 281474976710656⟩) (by omega) ((⟨3, 281474976710656⟩ : Mark)).enc.toArray rfl 1
  have hg8 := hg7.block
  have hb7 : V7.heap[bd]? = some (.cells E.toArray 148 (0, 0)) := (hg8 bd (blk_lt kb) hnm).trans hb
  obtain ⟨kb7, kf7⟩ := heap_blk hb7
  have hX : OutG Summary.enc 46 50 W V7 ha hl hc d.hist := by
    refine ⟨row_keep hH9.1 (fun k hk => ?_), hO7.2.1, hH9.2.2⟩
    obtain ⟨-, hk2, cur, fz, hk3⟩ := row_at hH9.1 k hk
    exact hg8 k hk2 (hM9.ty hk3 (by decide))
  have s1 : splice E 322 [.slice a' (ml + 1) c'] = (dE (splF d 6) ⟨a', ml + 1, c'⟩ ⟨ha, hl, hc⟩).enc := by rw [hE]; exact Dump.marks_set _ ⟨a', ml + 1, c'⟩
  have HP : Hid (Q (.returned (.tuple #[])) (put V7 bd (dE (splF d 6) ⟨a', ml + 1, c'⟩ ⟨ha, hl, hc⟩).enc)) := by
    show Q _ _
    rw [HQ.out]
    refine ⟨rfl, a', ml + 1, c', ha, hl, hc, heap_put_ty hb7, hw, ?_, ?_⟩
    · exact hO7.put hw (hO7.ty hb7 (by decide)) _
    · exact hX.put hw (hX.ty hb7 (by decide)) _
  clear hM hH hM9 hH9 hnm hnh hb HQ hQ hE hO7 hX hg7 hg8 hb7
  go_enter Tryz.func92, Tryz.ntmps92
  go_wp2_with (at_builtin; refine wpList_append_run rfl _ _ 94 rfl _ _ _ _ rfl rfl hr7 ?_)
  try (first | go_ret | go_ret2 | go_ret3 | go_end0)
  exact HP.out
set_option maxRecDepth 20000 in
set_option maxHeartbeats 1000000 in
theorem spoil5_any (W V : World) (bd : Nat) (d : PDump) (hD : DmS W bd d V) (hs : d.marks.length ≤ 1000000 ∧ d.hist.length ≤ 1000000) : Calls Tryz.prog 92 #[.pointer (some ⟨bd, 0, none⟩), .int .u64 5] V fun e V' => e = .returned (.tuple #[]) ∧ DmS W bd (splF d 5) V' := by
  obtain ⟨Q, hQ⟩ : ∃ Q : Ending → World → Prop, Q = fun e V' => e = .returned (.tuple #[]) ∧ DmS W bd (splF d 5) V' := ⟨_, rfl⟩
  rw [← hQ]
  have HQ := hid_of hQ
  obtain ⟨ma, ml, mc, ha, hl, hc, hb, hw, hM, hH⟩ := hD
  obtain ⟨kb, kf⟩ := heap_blk hb
  have hnm := hM.ty hb (by decide)
  have hnh := hH.ty hb (by decide)
  obtain ⟨E, hE⟩ : ∃ E, E = (dE d ⟨ma, ml, mc⟩ ⟨ha, hl, hc⟩).enc := ⟨_, rfl⟩
  have n0 : nth E 0 = some (.int .u8 (w8 d.chain)) := by rw [hE]; exact Dump.chain_get _
  have n1 : nth E 1 = some (.int .u64 (w64 d.height)) := by rw [hE]; exact Dump.height_get _
  have n22 : nth E 322 = some (.slice ma ml mc) := by rw [hE]; exact Dump.marks_get _
  have n23 : nth E 323 = some (.slice ha hl hc) := by rw [hE]; exact Dump.history_get _
  have lE : E.length = 324 := by rw [hE]; exact Dump.length_enc _
  rw [← hE] at kb hb
  have hM9 : OutG Mark.enc 2 112 W V.drew ma ml mc d.marks := hM.ext (extends_drewN (ext_Ext (Ext.refl V)) 1)
  have hH9 : OutG Summary.enc 46 50 W V.drew ha hl hc d.hist := hH.ext (extends_drewN (ext_Ext (Ext.refl V)) 1)
  obtain ⟨a', c', V7, hr7, hO7, hg7⟩ := hM9.app elMark (⟨d.chain, 1⟩) (by omega) ((⟨d.chain, 1⟩ : Mark)).enc.toArray rfl 1
  have hg8 := hg7.block
  have hb7 : V7.heap[bd]? = some (.cells E.toArray 148 (0, 0)) := (hg8 bd (blk_lt kb) hnm).trans hb
  obtain ⟨kb7, kf7⟩ := heap_blk hb7
  have hX : OutG Summary.enc 46 50 W V7 ha hl hc d.hist := by
    refine ⟨row_keep hH9.1 (fun k hk => ?_), hO7.2.1, hH9.2.2⟩
    obtain ⟨-, hk2, cur, fz, hk3⟩ := row_at hH9.1 k hk
    exact hg8 k hk2 (hM9.ty hk3 (by decide))
  have s1 : splice E 322 [.slice a' (ml + 1) c'] = (dE (splF d 5) ⟨a', ml + 1, c'⟩ ⟨ha, hl, hc⟩).enc := by rw [hE]; exact Dump.marks_set _ ⟨a', ml + 1, c'⟩
  have HP : Hid (Q (.returned (.tuple #[])) (put V7 bd (dE (splF d 5) ⟨a', ml + 1, c'⟩ ⟨ha, hl, hc⟩).enc)) := by
    show Q _ _
    rw [HQ.out]
    refine ⟨rfl, a', ml + 1, c', ha, hl, hc, heap_put_ty hb7, hw, ?_, ?_⟩
    · exact hO7.put hw (hO7.ty hb7 (by decide)) _
    · exact hX.put hw (hX.ty hb7 (by decide)) _
  obtain ⟨V6, hV6⟩ : ∃ V6 : World, V6 = (V.drew).alloc (.cells (⟨d.chain, 1⟩ : Mark).enc.toArray 112) := ⟨_, rfl⟩
  have hV6b : (V.alloc (.cells (⟨d.chain, 1⟩ : Mark).enc.toArray 112)).drew = V6 := by rw [hV6]; rfl
  have k6 : blk V6 bd = some E := by rw [hV6, blk_alloc, if_neg (Nat.ne_of_lt (by exact blk_lt kb))]; exact kb
  rw [← hV6] at hr7
  have HV6 := hid_of hV6b.symm
  have k4 : blk V.drew bd = some E := kb
  have hsz : V.drew.heap.size = V.heap.size := rfl
  rw [hsz] at hr7
  clear hM hH hM9 hH9 hnm hnh hb HQ hQ hE hO7 hX hg7 hg8 hb7 hV6 hV6b hsz
  go_enter Tryz.func92, Tryz.ntmps92
  go_upto_region 11 with fail
  repeat go_step
  refine wp_region_F 14 (fun W' => blk W' bd = some E) (by kernel_rfl) k4 (fun hHeld => ?_)
  refine wpAnyF_take (i := 0) (oi := ⟨_, _, _, _, _, _⟩) (v := ?_) rfl (by kernel_rfl) (by kernel_rfl) (by kernel_rfl) (by kernel_rfl) (by kernel_rfl) (fun _ _ _ h => h) (Or.inl ⟨by rfl, ?_⟩) (by assumption) ?_
  rotate_left 1
  · intro W' hSw
    go_simp
    try with_reducible rfl
  try simp only [Act.put, List.setIfInBounds_toArray, List.set_cons_zero, List.set_cons_succ]
  refine wpAnyF_take (i := 1) (oi := ⟨_, _, _, _, _, _⟩) (v := ?_) rfl (by kernel_rfl) (by kernel_rfl) (by kernel_rfl) (by kernel_rfl) (by kernel_rfl) (fun _ _ _ h => h) (Or.inl ⟨by rfl, ?_⟩) (by assumption) ?_
  rotate_left 1
  · intro W' hSw
    go_simp
    try with_reducible rfl
  try simp only [Act.put, List.setIfInBounds_toArray, List.set_cons_zero, List.set_cons_succ]
  refine wpAnyF_take (i := 2) (oi := ⟨_, _, _, _, _, _⟩) (v := ?_) rfl (by kernel_rfl) (by kernel_rfl) (by kernel_rfl) (by kernel_rfl) (by kernel_rfl) (fun _ _ _ h => h) (Or.inl ⟨by rfl, ?_⟩) (by assumption) ?_
  rotate_left 1
  · intro W' hSw
    go_simp
    try with_reducible rfl
  try simp only [Act.put, List.setIfInBounds_toArray, List.set_cons_zero, List.set_cons_succ]
  refine wpAnyF_take (i := 3) (oi := ⟨_, _, _, _, _, _⟩) (v := ?_) rfl (by kernel_rfl) (by kernel_rfl) (by kernel_rfl) (by kernel_rfl) (by kernel_rfl) (fun _ _ _ h => h) (Or.inl ⟨by rfl, ?_⟩) (by assumption) ?_
  rotate_left 1
  · intro W' hSw
    go_simp
    try with_reducible rfl
  try simp only [Act.put, List.setIfInBounds_toArray, List.set_cons_zero, List.set_cons_succ]
  refine wpAnyF_take (i := 4) (oi := ⟨_, _, _, _, _, _⟩) (v := ?_) rfl (by kernel_rfl) (by kernel_rfl) (by kernel_rfl) (by kernel_rfl) (by kernel_rfl) (fun _ _ _ h => h) (Or.inl ⟨by rfl, ?_⟩) (by assumption) ?_
  rotate_left 1
  · intro W' hSw
    go_simp
    try with_reducible rfl
  try simp only [Act.put, List.setIfInBounds_toArray, List.set_cons_zero, List.set_cons_succ]
  refine wpAnyF_take (i := 5) (oi := ⟨_, _, _, _, _, _⟩) (v := ?_) rfl (by kernel_rfl) (by kernel_rfl) (by kernel_rfl) (by kernel_rfl) (by kernel_rfl) (fun _ _ _ h => h) (Or.inl ⟨by rfl, ?_⟩) (by assumption) ?_
  rotate_left 1
  · intro W' hSw
    go_simp
    try with_reducible rfl
  try simp only [Act.put, List.setIfInBounds_toArray, List.set_cons_zero, List.set_cons_succ]
  refine wpAnyF_take (i := 6) (oi := ⟨_, _, _, _, _, _⟩) (v := ?_) rfl (by kernel_rfl) (by kernel_rfl) (by kernel_rfl) (by kernel_rfl) (by kernel_rfl) (fun _ _ _ h => h) (Or.inl ⟨by rfl, ?_⟩) (by assumption) ?_
  rotate_left 1
  · intro W' hSw
    go_simp
    try with_reducible rfl
  try simp only [Act.put, List.setIfInBounds_toArray, List.set_cons_zero, List.set_cons_succ]
  refine wpAnyF_take (i := 7) (oi := ⟨_, _, _, _, _, _⟩) (v := ?_) rfl (by kernel_rfl) (by kernel_rfl) (by kernel_rfl) (by kernel_rfl) (by kernel_rfl) (fun _ _ _ h => h) (Or.inl ⟨by rfl, ?_⟩) (by assumption) ?_
  rotate_left 1
  · intro W' hSw
    go_simp
    try with_reducible rfl
  try simp only [Act.put, List.setIfInBounds_toArray, List.set_cons_zero, List.set_cons_succ]
  refine wpAnyF_take (i := 8) (oi := ⟨_, _, _, _, _, _⟩) (v := ?_) rfl (by kernel_rfl) (by kernel_rfl) (by kernel_rfl) (by kernel_rfl) (by kernel_rfl) (fun _ _ _ h => h) (Or.inl ⟨by rfl, ?_⟩) (by assumption) ?_
  rotate_left 1
  · intro W' hSw
    go_simp
    try with_reducible rfl
  try simp only [Act.put, List.setIfInBounds_toArray, List.set_cons_zero, List.set_cons_succ]
  refine wpAnyF_take (i := 9) (oi := ⟨_, _, _, _, _, _⟩) (v := ?_) rfl (by kernel_rfl) (by kernel_rfl) (by kernel_rfl) (by kernel_rfl) (by kernel_rfl) (fun _ _ _ h => h) (Or.inl ⟨by rfl, ?_⟩) (by assumption) ?_
  rotate_left 1
  · intro W' hSw
    go_simp
    try with_reducible rfl
  try simp only [Act.put, List.setIfInBounds_toArray, List.set_cons_zero, List.set_cons_succ]
  refine wpAnyF_one (o := ⟨_, _, _, _, _, _⟩) (i := 10) (by kernel_rfl) rfl rfl (fun K' hK => ?_)
  go_simp
  rw [← HV6.out]
  refine hK.out _ _ k6 (fun hHeld => ?_)
  clear hK K'
  try simp only [Act.put, List.setIfInBounds_toArray, List.set_cons_zero, List.set_cons_succ]
  refine wpAnyF_one (o := ⟨_, _, _, _, _, _⟩) (i := 11) (by kernel_rfl) rfl rfl (fun K' hK => ?_)
  refine wp_append_run _ _ 94 rfl _ _ _ _ rfl rfl hr7 ?_
  refine hK.out _ _ kb7 (fun hHeld => ?_)
  clear hK K'
  try simp only [Act.put, List.setIfInBounds_toArray, List.set_cons_zero, List.set_cons_succ]
  refine wpAnyF_take (i := 12) (oi := ⟨_, _, _, _, _, _⟩) (v := ?_) rfl (by kernel_rfl) (by kernel_rfl) (by kernel_rfl) (by kernel_rfl) (by kernel_rfl) (fun _ _ _ h => h) (Or.inl ⟨by rfl, ?_⟩) (by assumption) ?_
  rotate_left 1
  · intro W' hSw
    go_simp
    try with_reducible rfl
  try simp only [Act.put, List.setIfInBounds_toArray, List.set_cons_zero, List.set_cons_succ]
  refine wpAnyF_take (i := 13) (oi := ⟨_, _, _, _, _, _⟩) (v := ?_) rfl (by kernel_rfl) (by kernel_rfl) (by kernel_rfl) (by kernel_rfl) (by kernel_rfl) (fun _ _ _ h => h) (Or.inl ⟨by rfl, ?_⟩) (by assumption) ?_
  rotate_left 1
  · intro W' hSw
    go_simp
    try with_reducible rfl
  try simp only [Act.put, List.setIfInBounds_toArray, List.set_cons_zero, List.set_cons_succ]
  refine wpAnyF_last (o := ⟨_, _, _, _, _, _⟩) (by kernel_rfl) rfl (fun K' hK => ?_)
  go_simp
  refine hK.out _ _ ?_
  clear hK K'
  try simp only [Act.put, List.setIfInBounds_toArray, List.set_cons_zero, List.set_cons_succ]
  refine wpAnyF_done (by kernel_rfl) ?_ _
  clear hHeld
  try rw [s1]
  go_wp2_with fail
  try (first | go_ret | go_ret2 | go_ret3 | go_end0)
  exact HP.out
set_option maxRecDepth 20000 in
set_option maxHeartbeats 1000000 in
theorem spoil8_any (W V : World) (bd : Nat) (d : PDump) (hD : DmS W bd d V) (hs : d.marks.length ≤ 1000000 ∧ d.hist.length ≤ 1000000) : Calls Tryz.prog 92 #[.pointer (some ⟨bd, 0, none⟩), .int .u64 8] V fun e V' => e = .returned (.tuple #[]) ∧ DmS W bd (splF d 8) V' := by
  obtain ⟨Q, hQ⟩ : ∃ Q : Ending → World → Prop, Q = fun e V' => e = .returned (.tuple #[]) ∧ DmS W bd (splF d 8) V' := ⟨_, rfl⟩
  rw [← hQ]
  have HQ := hid_of hQ
  obtain ⟨ma, ml, mc, ha, hl, hc, hb, hw, hM, hH⟩ := hD
  obtain ⟨kb, kf⟩ := heap_blk hb
  have hnm := hM.ty hb (by decide)
  have hnh := hH.ty hb (by decide)
  obtain ⟨E, hE⟩ : ∃ E, E = (dE d ⟨ma, ml, mc⟩ ⟨ha, hl, hc⟩).enc := ⟨_, rfl⟩
  have n0 : nth E 0 = some (.int .u8 (w8 d.chain)) := by rw [hE]; exact Dump.chain_get _
  have n1 : nth E 1 = some (.int .u64 (w64 d.height)) := by rw [hE]; exact Dump.height_get _
  have n22 : nth E 322 = some (.slice ma ml mc) := by rw [hE]; exact Dump.marks_get _
  have n23 : nth E 323 = some (.slice ha hl hc) := by rw [hE]; exact Dump.history_get _
  have lE : E.length = 324 := by rw [hE]; exact Dump.length_enc _
  rw [← hE] at kb hb
  have hM9 : OutG Mark.enc 2 112 W V.drew ma ml mc d.marks := hM.ext (extends_drewN (ext_Ext (Ext.refl V)) 1)
  have hH9 : OutG Summary.enc 46 50 W V.drew ha hl hc d.hist := hH.ext (extends_drewN (ext_Ext (Ext.refl V)) 1)
  obtain ⟨a', c', V7, hr7, hO7, hg7⟩ := hH9.app elSummary (sumH (d.height + 1)) (by omega) ((sumH (d.height + 1) : Summary)).enc.toArray rfl 1
  have hg8 := hg7.block
  have hb7 : V7.heap[bd]? = some (.cells E.toArray 148 (0, 0)) := (hg8 bd (blk_lt kb) hnh).trans hb
  obtain ⟨kb7, kf7⟩ := heap_blk hb7
  have hX : OutG Mark.enc 2 112 W V7 ma ml mc d.marks := by
    refine ⟨row_keep hM9.1 (fun k hk => ?_), hO7.2.1, hM9.2.2⟩
    obtain ⟨-, hk2, cur, fz, hk3⟩ := row_at hM9.1 k hk
    exact hg8 k hk2 (hH9.ty hk3 (by decide))
  have s1 : splice E 323 [.slice a' (hl + 1) c'] = (dE (splF d 8) ⟨ma, ml, mc⟩ ⟨a', hl + 1, c'⟩).enc := by rw [hE]; exact Dump.history_set _ ⟨a', hl + 1, c'⟩
  have HP : Hid (Q (.returned (.tuple #[])) (put V7 bd (dE (splF d 8) ⟨ma, ml, mc⟩ ⟨a', hl + 1, c'⟩).enc)) := by
    show Q _ _
    rw [HQ.out]
    refine ⟨rfl, ma, ml, mc, a', hl + 1, c', heap_put_ty hb7, hw, ?_, ?_⟩
    · exact hX.put hw (hX.ty hb7 (by decide)) _
    · exact hO7.put hw (hO7.ty hb7 (by decide)) _
  obtain ⟨V6, hV6⟩ : ∃ V6 : World, V6 = (V.drew).alloc (.cells (sumH (d.height + 1) : Summary).enc.toArray 50) := ⟨_, rfl⟩
  have hV6b : (V.alloc (.cells (sumH (d.height + 1) : Summary).enc.toArray 50)).drew = V6 := by rw [hV6]; rfl
  have k6 : blk V6 bd = some E := by rw [hV6, blk_alloc, if_neg (Nat.ne_of_lt (by exact blk_lt kb))]; exact kb
  rw [← hV6] at hr7
  have HV6 := hid_of hV6b.symm
  have k4 : blk V.drew bd = some E := kb
  have hsz : V.drew.heap.size = V.heap.size := rfl
  rw [hsz] at hr7
  clear hM hH hM9 hH9 hnm hnh hb HQ hQ hE hO7 hX hg7 hg8 hb7 hV6 hV6b hsz
  go_enter Tryz.func92, Tryz.ntmps92
  go_upto_region 17 with fail
  repeat go_step
  refine wp_region_F 15 (fun W' => blk W' bd = some E) (by kernel_rfl) k4 (fun hHeld => ?_)
  refine wpAnyF_take (i := 0) (oi := ⟨_, _, _, _, _, _⟩) (v := ?_) rfl (by kernel_rfl) (by kernel_rfl) (by kernel_rfl) (by kernel_rfl) (by kernel_rfl) (fun _ _ _ h => h) (Or.inl ⟨by rfl, ?_⟩) (by assumption) ?_
  rotate_left 1
  · intro W' hSw
    go_simp
    try with_reducible rfl
  try simp only [Act.put, List.setIfInBounds_toArray, List.set_cons_zero, List.set_cons_succ]
  refine wpAnyF_take (i := 1) (oi := ⟨_, _, _, _, _, _⟩) (v := ?_) rfl (by kernel_rfl) (by kernel_rfl) (by kernel_rfl) (by kernel_rfl) (by kernel_rfl) (fun _ _ _ h => h) (Or.inl ⟨by rfl, ?_⟩) (by assumption) ?_
  rotate_left 1
  · intro W' hSw
    go_simp
    try with_reducible rfl
  try simp only [Act.put, List.setIfInBounds_toArray, List.set_cons_zero, List.set_cons_succ]
  refine wpAnyF_take (i := 2) (oi := ⟨_, _, _, _, _, _⟩) (v := ?_) rfl (by kernel_rfl) (by kernel_rfl) (by kernel_rfl) (by kernel_rfl) (by kernel_rfl) (fun _ _ _ h => h) (Or.inl ⟨by rfl, ?_⟩) (by assumption) ?_
  rotate_left 1
  · intro W' hSw
    go_simp
    try with_reducible rfl
  try simp only [Act.put, List.setIfInBounds_toArray, List.set_cons_zero, List.set_cons_succ]
  refine wpAnyF_take (i := 3) (oi := ⟨_, _, _, _, _, _⟩) (v := ?_) rfl (by kernel_rfl) (by kernel_rfl) (by kernel_rfl) (by kernel_rfl) (by kernel_rfl) (fun _ _ _ h => h) (Or.inl ⟨by rfl, ?_⟩) (by assumption) ?_
  rotate_left 1
  · intro W' hSw
    go_simp
    try with_reducible rfl
  try simp only [Act.put, List.setIfInBounds_toArray, List.set_cons_zero, List.set_cons_succ]
  refine wpAnyF_take (i := 4) (oi := ⟨_, _, _, _, _, _⟩) (v := ?_) rfl (by kernel_rfl) (by kernel_rfl) (by kernel_rfl) (by kernel_rfl) (by kernel_rfl) (fun _ _ _ h => h) (Or.inl ⟨by rfl, ?_⟩) (by assumption) ?_
  rotate_left 1
  · intro W' hSw
    go_simp
    try with_reducible rfl
  try simp only [Act.put, List.setIfInBounds_toArray, List.set_cons_zero, List.set_cons_succ]
  refine wpAnyF_take (i := 5) (oi := ⟨_, _, _, _, _, _⟩) (v := ?_) rfl (by kernel_rfl) (by kernel_rfl) (by kernel_rfl) (by kernel_rfl) (by kernel_rfl) (fun _ _ _ h => h) (Or.inl ⟨by rfl, ?_⟩) (by assumption) ?_
  rotate_left 1
  · intro W' hSw
    go_simp
    try with_reducible rfl
  try simp only [Act.put, List.setIfInBounds_toArray, List.set_cons_zero, List.set_cons_succ]
  refine wpAnyF_take (i := 6) (oi := ⟨_, _, _, _, _, _⟩) (v := ?_) rfl (by kernel_rfl) (by kernel_rfl) (by kernel_rfl) (by kernel_rfl) (by kernel_rfl) (fun _ _ _ h => h) (Or.inl ⟨by rfl, ?_⟩) (by assumption) ?_
  rotate_left 1
  · intro W' hSw
    go_simp
    try with_reducible rfl
  try simp only [Act.put, List.setIfInBounds_toArray, List.set_cons_zero, List.set_cons_succ]
  refine wpAnyF_take (i := 7) (oi := ⟨_, _, _, _, _, _⟩) (v := ?_) rfl (by kernel_rfl) (by kernel_rfl) (by kernel_rfl) (by kernel_rfl) (by kernel_rfl) (fun _ _ _ h => h) (Or.inl ⟨by rfl, ?_⟩) (by assumption) ?_
  rotate_left 1
  · intro W' hSw
    go_simp
    try with_reducible rfl
  try simp only [Act.put, List.setIfInBounds_toArray, List.set_cons_zero, List.set_cons_succ]
  refine wpAnyF_take (i := 8) (oi := ⟨_, _, _, _, _, _⟩) (v := ?_) rfl (by kernel_rfl) (by kernel_rfl) (by kernel_rfl) (by kernel_rfl) (by kernel_rfl) (fun _ _ _ h => h) (Or.inl ⟨by rfl, ?_⟩) (by assumption) ?_
  rotate_left 1
  · intro W' hSw
    go_simp
    try with_reducible rfl
  try simp only [Act.put, List.setIfInBounds_toArray, List.set_cons_zero, List.set_cons_succ]
  refine wpAnyF_take (i := 9) (oi := ⟨_, _, _, _, _, _⟩) (v := ?_) rfl (by kernel_rfl) (by kernel_rfl) (by kernel_rfl) (by kernel_rfl) (by kernel_rfl) (fun _ _ _ h => h) (Or.inl ⟨by rfl, ?_⟩) (by assumption) ?_
  rotate_left 1
  · intro W' hSw
    go_simp
    try with_reducible rfl
  try simp only [Act.put, List.setIfInBounds_toArray, List.set_cons_zero, List.set_cons_succ]
  refine wpAnyF_take (i := 10) (oi := ⟨_, _, _, _, _, _⟩) (v := ?_) rfl (by kernel_rfl) (by kernel_rfl) (by kernel_rfl) (by kernel_rfl) (by kernel_rfl) (fun _ _ _ h => h) (Or.inl ⟨by rfl, ?_⟩) (by assumption) ?_
  rotate_left 1
  · intro W' hSw
    go_simp
    try with_reducible rfl
  try simp only [Act.put, List.setIfInBounds_toArray, List.set_cons_zero, List.set_cons_succ]
  refine wpAnyF_one (o := ⟨_, _, _, _, _, _⟩) (i := 11) (by kernel_rfl) rfl rfl (fun K' hK => ?_)
  go_simp
  rw [← HV6.out]
  refine hK.out _ _ k6 (fun hHeld => ?_)
  clear hK K'
  try simp only [Act.put, List.setIfInBounds_toArray, List.set_cons_zero, List.set_cons_succ]
  refine wpAnyF_one (o := ⟨_, _, _, _, _, _⟩) (i := 12) (by kernel_rfl) rfl rfl (fun K' hK => ?_)
  refine wp_append_run _ _ 96 rfl _ _ _ _ rfl rfl hr7 ?_
  refine hK.out _ _ kb7 (fun hHeld => ?_)
  clear hK K'
  try simp only [Act.put, List.setIfInBounds_toArray, List.set_cons_zero, List.set_cons_succ]
  refine wpAnyF_take (i := 13) (oi := ⟨_, _, _, _, _, _⟩) (v := ?_) rfl (by kernel_rfl) (by kernel_rfl) (by kernel_rfl) (by kernel_rfl) (by kernel_rfl) (fun _ _ _ h => h) (Or.inl ⟨by rfl, ?_⟩) (by assumption) ?_
  rotate_left 1
  · intro W' hSw
    go_simp
    try with_reducible rfl
  try simp only [Act.put, List.setIfInBounds_toArray, List.set_cons_zero, List.set_cons_succ]
  refine wpAnyF_take (i := 14) (oi := ⟨_, _, _, _, _, _⟩) (v := ?_) rfl (by kernel_rfl) (by kernel_rfl) (by kernel_rfl) (by kernel_rfl) (by kernel_rfl) (fun _ _ _ h => h) (Or.inl ⟨by rfl, ?_⟩) (by assumption) ?_
  rotate_left 1
  · intro W' hSw
    go_simp
    try with_reducible rfl
  try simp only [Act.put, List.setIfInBounds_toArray, List.set_cons_zero, List.set_cons_succ]
  refine wpAnyF_last (o := ⟨_, _, _, _, _, _⟩) (by kernel_rfl) rfl (fun K' hK => ?_)
  go_simp
  refine hK.out _ _ ?_
  clear hK K'
  try simp only [Act.put, List.setIfInBounds_toArray, List.set_cons_zero, List.set_cons_succ]
  refine wpAnyF_done (by kernel_rfl) ?_ _
  clear hHeld
  try rw [s1]
  go_wp2_with fail
  try (first | go_ret | go_ret2 | go_ret3 | go_end0)
  exact HP.out
set_option maxRecDepth 20000 in
set_option maxHeartbeats 1000000 in
theorem spoil0_any (W V : World) (bd : Nat) (d : PDump) (hD : DmS W bd d V) (hs : d.marks.length ≤ 1000000 ∧ d.hist.length ≤ 1000000) : Calls Tryz.prog 92 #[.pointer (some ⟨bd, 0, none⟩), .int .u64 0] V fun e V' => e = .returned (.tuple #[]) ∧ DmS W bd (splF d 0) V' := by
  obtain ⟨Q, hQ⟩ : ∃ Q : Ending → World → Prop, Q = fun e V' => e = .returned (.tuple #[]) ∧ DmS W bd (splF d 0) V' := ⟨_, rfl⟩
  rw [← hQ]
  have HQ := hid_of hQ
  obtain ⟨ma, ml, mc, ha, hl, hc, hb, hw, hM, hH⟩ := hD
  obtain ⟨kb, kf⟩ := heap_blk hb
  have hnm := hM.ty hb (by decide)
  have hnh := hH.ty hb (by decide)
  have HP : Hid (Q (.returned (.tuple #[])) V) := by
    show Q _ _
    rw [HQ.out]
    exact ⟨rfl, ma, ml, mc, ha, hl, hc, hb, hw, hM, hH⟩
  clear hM hH hnm hnh hb HQ hQ
  go_enter Tryz.func92, Tryz.ntmps92
  go_wp2_with fail
  try (first | go_ret | go_ret2 | go_ret3 | go_end0)
  exact HP.out
theorem u8_xor1 (a : UInt8) : bits .xor .u8 (w8 a) 1 = w8 (a ^^^ 1) := w8_xor a 1
attribute [local go_sem] u8_xor1
set_option maxRecDepth 20000 in
set_option maxHeartbeats 1000000 in
theorem spoil9_any (W V : World) (bd : Nat) (d : PDump) (hD : DmS W bd d V) (hs : d.marks.length ≤ 1000000 ∧ d.hist.length ≤ 1000000) : Calls Tryz.prog 92 #[.pointer (some ⟨bd, 0, none⟩), .int .u64 9] V fun e V' => e = .returned (.tuple #[]) ∧ DmS W bd (splF d 9) V' := by
  obtain ⟨Q, hQ⟩ : ∃ Q : Ending → World → Prop, Q = fun e V' => e = .returned (.tuple #[]) ∧ DmS W bd (splF d 9) V' := ⟨_, rfl⟩
  rw [← hQ]
  have HQ := hid_of hQ
  obtain ⟨ma, ml, mc, ha, hl, hc, hb, hw, hM, hH⟩ := hD
  obtain ⟨kb, kf⟩ := heap_blk hb
  have hnm := hM.ty hb (by decide)
  have hnh := hH.ty hb (by decide)
  have n23 : nth (dE d ⟨ma, ml, mc⟩ ⟨ha, hl, hc⟩).enc 323 = some (.slice ha hl hc) := Dump.history_get _
  have lE : (dE d ⟨ma, ml, mc⟩ ⟨ha, hl, hc⟩).enc.length = 324 := Dump.length_enc _
  by_cases h0 : hl = 0
  · have hn : d.hist = [] := List.length_eq_zero_iff.1 (by rw [← hH.2.2]; exact h0)
    have HP : Hid (Q (.returned (.tuple #[])) V) := by
      show Q _ _
      rw [HQ.out]
      have e : splF d 9 = d := by
        show ({ d with hist := spL d.hist } : PDump) = d
        rw [hn]
        obtain ⟨d1, d2, d3, d4, d5, d6⟩ := d
        dsimp only at hn
        subst hn
        rfl
      rw [e]
      exact ⟨rfl, ma, ml, mc, ha, hl, hc, hb, hw, hM, hH⟩
    generalize (dE d ⟨ma, ml, mc⟩ ⟨ha, hl, hc⟩).enc = E at kb n23 lE
    clear hM hH hnm hnh hb HQ hQ hn
    subst h0
    go_enter Tryz.func92, Tryz.ntmps92
    go_wp2_with fail
    try (first | go_ret | go_ret2 | go_ret3 | go_end0)
    exact HP.out
  obtain ⟨k, rfl⟩ : ∃ k, hl = k + 1 := ⟨hl - 1, by omega⟩
  have hlen : d.hist.length = k + 1 := hH.2.2.symm
  obtain ⟨x, hx⟩ : ∃ x, d.hist[k]? = some x := ⟨_, List.getElem?_eq_getElem (by omega)⟩
  obtain ⟨bh, C, hae, kh, hbl, hsg⟩ := (hH.rw elSummary).2 _ _ hx
  subst hae
  have hfh := hH.own.2.1
  have hbh : bh ≠ bd := fun e => hnh (by rw [e]; rfl)
  have g1 : k * 46 + 46 ≤ C.length := Nat.le_trans (by rw [← Nat.succ_mul]; exact Nat.le_refl _) hbl
  have n14 : nth C (k * 46 + 14) = some (.int .u8 (w8 x.root[0])) := by
    have h1 : seg C (k * 46 + 14) 32 = arr u8v x.root := (seg_in hsg (p := 14) (m := 32) (by omega)).trans (Summary.root_get x)
    have h2 := seg_nth C (k * 46 + 14) 32 0
    rw [h1, if_pos (by omega), Nat.add_zero] at h2
    rw [← h2]
    exact nth_arr_u8 x.root (by omega)
  have s1 : splice C (k * 46 + 14) [.int .u8 (w8 (x.root[0] ^^^ 1))] = splice C (k * 46) (spS x).enc := by
    rw [splice_sub (L := C) (a := k * 46) (m := 46) (j := 14) hsg (by omega) (by show 14 + 1 ≤ 46; omega)]
    congr 1
    exact Summary.root_put x 0 (x.root[0] ^^^ 1) (by omega)
  have HP : Hid (Q (.returned (.tuple #[])) ((put V bh (splice C (k * 46) (spS x).enc)).drewN 1)) := by
    show Q _ _
    rw [HQ.out]
    have e : (splF d 9).hist = d.hist.set k (spS x) := by
      show spL d.hist = _
      unfold spL
      rw [hlen, Nat.add_sub_cancel, hx]
    have hO := hH.set Summary.length_enc kh (i := k) (by omega) (spS x)
    have hx9 : (put V bh (splice C (k * 46) (spS x).enc)).Extends ((put V bh (splice C (k * 46) (spS x).enc)).drewN 1) := extends_drewN (ext_Ext (Ext.refl _)) 1
    refine ⟨rfl, ma, ml, mc, some ⟨bh, 0, none⟩, k + 1, hc, ?_, hw, ?_, ?_⟩
    · show (put V bh _).heap[bd]? = _
      rw [heap_put, if_neg hbh.symm]
      exact hb
    · refine OutG.ext (OutG.put hM hH.own.1 (fun q => ?_) _) hx9
      obtain ⟨-, -, cur, fz, h3⟩ := row_at hH.1 bh rfl
      exact hM.ty h3 (by decide) q
    · rw [e]
      exact hO.ext hx9
  have kw : IntKind.i64.wrap (((k + 1 : Nat) : Int) - 1) = (k : Int) := by rw [IntKind.wrap_i64]; omega
  have kw2 : IntKind.i64.wrap (k : Int) = (k : Int) := by rw [IntKind.wrap_i64]; omega
  have k0' : (0 : Int) < ((k + 1 : Nat) : Int) := by omega
  have kk0 : (0 : Int) ≤ (k : Int) := by omega
  have kk1 : (k : Int) < ((k + 1 : Nat) : Int) := by omega
  have kk2 : ((k : Int)).toNat = k := by omega
  have kk3 : (k : Int) < (k : Int) + 1 := by omega
  have g2 : k * 46 + 14 + 1 ≤ C.length := by omega
  have q1 : blk V.drew bd = some (dE d ⟨ma, ml, mc⟩ ⟨some ⟨bh, 0, none⟩, k + 1, hc⟩).enc := kb
  have q2 : blk V.drew bh = some C := kh
  have q3 : free V.drew bh = true := hfh
  generalize (dE d ⟨ma, ml, mc⟩ ⟨some ⟨bh, 0, none⟩, k + 1, hc⟩).enc = E at kb n23 lE q1
  clear hM hH hnm hnh hb HQ hQ hsg hbl hx hlen hs g1
  go_enter Tryz.func92, Tryz.ntmps92
  go_upto_region 20 with fail
  repeat go_step
  refine wp_region_F 18 (fun W' => blk W' bd = some E ∧ blk W' bh = some C) (by kernel_rfl) ⟨q1, q2⟩ (fun hHeld => ?_)
  refine wpAnyF_take (i := 0) (oi := ⟨_, _, _, _, _, _⟩) (v := ?_) rfl (by kernel_rfl) (by kernel_rfl) (by kernel_rfl) (by kernel_rfl) (by kernel_rfl) (fun _ _ _ h => h) (Or.inl ⟨by rfl, ?_⟩) (by assumption) ?_
  rotate_left 1
  · intro W' hSw
    obtain ⟨hS1, hS2⟩ := hSw
    go_simp
    try with_reducible rfl
  try simp only [Act.put, List.setIfInBounds_toArray, List.set_cons_zero, List.set_cons_succ]
  refine wpAnyF_take (i := 1) (oi := ⟨_, _, _, _, _, _⟩) (v := ?_) rfl (by kernel_rfl) (by kernel_rfl) (by kernel_rfl) (by kernel_rfl) (by kernel_rfl) (fun _ _ _ h => h) (Or.inl ⟨by rfl, ?_⟩) (by assumption) ?_
  rotate_left 1
  · intro W' hSw
    obtain ⟨hS1, hS2⟩ := hSw
    go_simp
    try with_reducible rfl
  try simp only [Act.put, List.setIfInBounds_toArray, List.set_cons_zero, List.set_cons_succ]
  refine wpAnyF_take (i := 2) (oi := ⟨_, _, _, _, _, _⟩) (v := ?_) rfl (by kernel_rfl) (by kernel_rfl) (by kernel_rfl) (by kernel_rfl) (by kernel_rfl) (fun _ _ _ h => h) (Or.inl ⟨by rfl, ?_⟩) (by assumption) ?_
  rotate_left 1
  · intro W' hSw
    obtain ⟨hS1, hS2⟩ := hSw
    go_simp
    try with_reducible rfl
  try simp only [Act.put, List.setIfInBounds_toArray, List.set_cons_zero, List.set_cons_succ]
  refine wpAnyF_take (i := 3) (oi := ⟨_, _, _, _, _, _⟩) (v := ?_) rfl (by kernel_rfl) (by kernel_rfl) (by kernel_rfl) (by kernel_rfl) (by kernel_rfl) (fun _ _ _ h => h) (Or.inl ⟨by rfl, ?_⟩) (by assumption) ?_
  rotate_left 1
  · intro W' hSw
    obtain ⟨hS1, hS2⟩ := hSw
    go_simp
    try with_reducible rfl
  try simp only [Act.put, List.setIfInBounds_toArray, List.set_cons_zero, List.set_cons_succ]
  refine wpAnyF_take (i := 4) (oi := ⟨_, _, _, _, _, _⟩) (v := ?_) rfl (by kernel_rfl) (by kernel_rfl) (by kernel_rfl) (by kernel_rfl) (by kernel_rfl) (fun _ _ _ h => h) (Or.inl ⟨by rfl, ?_⟩) (by assumption) ?_
  rotate_left 1
  · intro W' hSw
    obtain ⟨hS1, hS2⟩ := hSw
    go_simp
    try with_reducible rfl
  try simp only [Act.put, List.setIfInBounds_toArray, List.set_cons_zero, List.set_cons_succ]
  refine wpAnyF_take (i := 5) (oi := ⟨_, _, _, _, _, _⟩) (v := ?_) rfl (by kernel_rfl) (by kernel_rfl) (by kernel_rfl) (by kernel_rfl) (by kernel_rfl) (fun _ _ _ h => h) (Or.inl ⟨by rfl, ?_⟩) (by assumption) ?_
  rotate_left 1
  · intro W' hSw
    obtain ⟨hS1, hS2⟩ := hSw
    go_simp
    try with_reducible rfl
  try simp only [Act.put, List.setIfInBounds_toArray, List.set_cons_zero, List.set_cons_succ]
  refine wpAnyF_take (i := 6) (oi := ⟨_, _, _, _, _, _⟩) (v := ?_) rfl (by kernel_rfl) (by kernel_rfl) (by kernel_rfl) (by kernel_rfl) (by kernel_rfl) (fun _ _ _ h => h) (Or.inl ⟨by rfl, ?_⟩) (by assumption) ?_
  rotate_left 1
  · intro W' hSw
    obtain ⟨hS1, hS2⟩ := hSw
    go_simp
    try with_reducible rfl
  try simp only [Act.put, List.setIfInBounds_toArray, List.set_cons_zero, List.set_cons_succ]
  refine wpAnyF_take (i := 7) (oi := ⟨_, _, _, _, _, _⟩) (v := ?_) rfl (by kernel_rfl) (by kernel_rfl) (by kernel_rfl) (by kernel_rfl) (by kernel_rfl) (fun _ _ _ h => h) (Or.inl ⟨by rfl, ?_⟩) (by assumption) ?_
  rotate_left 1
  · intro W' hSw
    obtain ⟨hS1, hS2⟩ := hSw
    go_simp
    try with_reducible rfl
  try simp only [Act.put, List.setIfInBounds_toArray, List.set_cons_zero, List.set_cons_succ]
  refine wpAnyF_take (i := 8) (oi := ⟨_, _, _, _, _, _⟩) (v := ?_) rfl (by kernel_rfl) (by kernel_rfl) (by kernel_rfl) (by kernel_rfl) (by kernel_rfl) (fun _ _ _ h => h) (Or.inl ⟨by rfl, ?_⟩) (by assumption) ?_
  rotate_left 1
  · intro W' hSw
    obtain ⟨hS1, hS2⟩ := hSw
    go_simp
    try with_reducible rfl
  try simp only [Act.put, List.setIfInBounds_toArray, List.set_cons_zero, List.set_cons_succ]
  refine wpAnyF_take (i := 9) (oi := ⟨_, _, _, _, _, _⟩) (v := ?_) rfl (by kernel_rfl) (by kernel_rfl) (by kernel_rfl) (by kernel_rfl) (by kernel_rfl) (fun _ _ _ h => h) (Or.inl ⟨by rfl, ?_⟩) (by assumption) ?_
  rotate_left 1
  · intro W' hSw
    obtain ⟨hS1, hS2⟩ := hSw
    go_simp
    try with_reducible rfl
  try simp only [Act.put, List.setIfInBounds_toArray, List.set_cons_zero, List.set_cons_succ]
  refine wpAnyF_take (i := 10) (oi := ⟨_, _, _, _, _, _⟩) (v := ?_) rfl (by kernel_rfl) (by kernel_rfl) (by kernel_rfl) (by kernel_rfl) (by kernel_rfl) (fun _ _ _ h => h) (Or.inl ⟨by rfl, ?_⟩) (by assumption) ?_
  rotate_left 1
  · intro W' hSw
    obtain ⟨hS1, hS2⟩ := hSw
    go_simp
    try with_reducible rfl
  try simp only [Act.put, List.setIfInBounds_toArray, List.set_cons_zero, List.set_cons_succ]
  refine wpAnyF_take (i := 11) (oi := ⟨_, _, _, _, _, _⟩) (v := ?_) rfl (by kernel_rfl) (by kernel_rfl) (by kernel_rfl) (by kernel_rfl) (by kernel_rfl) (fun _ _ _ h => h) (Or.inl ⟨by rfl, ?_⟩) (by assumption) ?_
  rotate_left 1
  · intro W' hSw
    obtain ⟨hS1, hS2⟩ := hSw
    go_simp
    try with_reducible rfl
  try simp only [Act.put, List.setIfInBounds_toArray, List.set_cons_zero, List.set_cons_succ]
  refine wpAnyF_take (i := 12) (oi := ⟨_, _, _, _, _, _⟩) (v := ?_) rfl (by kernel_rfl) (by kernel_rfl) (by kernel_rfl) (by kernel_rfl) (by kernel_rfl) (fun _ _ _ h => h) (Or.inl ⟨by rfl, ?_⟩) (by assumption) ?_
  rotate_left 1
  · intro W' hSw
    obtain ⟨hS1, hS2⟩ := hSw
    go_simp
    try with_reducible rfl
  try simp only [Act.put, List.setIfInBounds_toArray, List.set_cons_zero, List.set_cons_succ]
  refine wpAnyF_take (i := 13) (oi := ⟨_, _, _, _, _, _⟩) (v := ?_) rfl (by kernel_rfl) (by kernel_rfl) (by kernel_rfl) (by kernel_rfl) (by kernel_rfl) (fun _ _ _ h => h) (Or.inl ⟨by rfl, ?_⟩) (by assumption) ?_
  rotate_left 1
  · intro W' hSw
    obtain ⟨hS1, hS2⟩ := hSw
    go_simp
    try with_reducible rfl
  try simp only [Act.put, List.setIfInBounds_toArray, List.set_cons_zero, List.set_cons_succ]
  refine wpAnyF_take (i := 14) (oi := ⟨_, _, _, _, _, _⟩) (v := ?_) rfl (by kernel_rfl) (by kernel_rfl) (by kernel_rfl) (by kernel_rfl) (by kernel_rfl) (fun _ _ _ h => h) (Or.inl ⟨by rfl, ?_⟩) (by assumption) ?_
  rotate_left 1
  · intro W' hSw
    obtain ⟨hS1, hS2⟩ := hSw
    go_simp
    try with_reducible rfl
  try simp only [Act.put, List.setIfInBounds_toArray, List.set_cons_zero, List.set_cons_succ]
  refine wpAnyF_take (i := 15) (oi := ⟨_, _, _, _, _, _⟩) (v := ?_) rfl (by kernel_rfl) (by kernel_rfl) (by kernel_rfl) (by kernel_rfl) (by kernel_rfl) (fun _ _ _ h => h) (Or.inl ⟨by rfl, ?_⟩) (by assumption) ?_
  rotate_left 1
  · intro W' hSw
    obtain ⟨hS1, hS2⟩ := hSw
    go_simp
    try with_reducible rfl
  try simp only [Act.put, List.setIfInBounds_toArray, List.set_cons_zero, List.set_cons_succ]
  refine wpAnyF_take (i := 16) (oi := ⟨_, _, _, _, _, _⟩) (v := ?_) rfl (by kernel_rfl) (by kernel_rfl) (by kernel_rfl) (by kernel_rfl) (by kernel_rfl) (fun _ _ _ h => h) (Or.inl ⟨by rfl, ?_⟩) (by assumption) ?_
  rotate_left 1
  · intro W' hSw
    obtain ⟨hS1, hS2⟩ := hSw
    go_simp
    try with_reducible rfl
  try simp only [Act.put, List.setIfInBounds_toArray, List.set_cons_zero, List.set_cons_succ]
  refine wpAnyF_take (i := 17) (oi := ⟨_, _, _, _, _, _⟩) (v := ?_) rfl (by kernel_rfl) (by kernel_rfl) (by kernel_rfl) (by kernel_rfl) (by kernel_rfl) (fun _ _ _ h => h) (Or.inl ⟨by rfl, ?_⟩) (by assumption) ?_
  rotate_left 1
  · intro W' hSw
    obtain ⟨hS1, hS2⟩ := hSw
    go_simp
    try with_reducible rfl
  try simp only [Act.put, List.setIfInBounds_toArray, List.set_cons_zero, List.set_cons_succ]
  refine wpAnyF_last (o := ⟨_, _, _, _, _, _⟩) (by kernel_rfl) rfl (fun K' hK => ?_)
  go_simp
  refine hK.out _ _ ?_
  clear hK K'
  try simp only [Act.put, List.setIfInBounds_toArray, List.set_cons_zero, List.set_cons_succ]
  refine wpAnyF_done (by kernel_rfl) ?_ _
  clear hHeld
  go_wp2_with fail
  try (first | go_ret | go_ret2 | go_ret3 | go_end0)
  exact HP.out
theorem spoil_any (W V : World) (bd : Nat) (d : PDump) (hD : DmS W bd d V) (hs : d.marks.length ≤ 1000000 ∧ d.hist.length ≤ 1000000) (k : UInt64) (hk : k.toNat < 10) : Calls Tryz.prog 92 #[.pointer (some ⟨bd, 0, none⟩), .int .u64 (w64 k)] V fun e V' => e = .returned (.tuple #[]) ∧ DmS W bd (splF d k.toNat) V' := by
  have h : k = 0 ∨ k = 1 ∨ k = 2 ∨ k = 3 ∨ k = 4 ∨ k = 5 ∨ k = 6 ∨ k = 7 ∨ k = 8 ∨ k = 9 := by
    have g : ∀ j : UInt64, k.toNat = j.toNat → k = j := fun j e => UInt64.toNat_inj.1 e
    have h : k.toNat = 0 ∨ k.toNat = 1 ∨ k.toNat = 2 ∨ k.toNat = 3 ∨ k.toNat = 4 ∨ k.toNat = 5 ∨ k.toNat = 6 ∨ k.toNat = 7 ∨ k.toNat = 8 ∨ k.toNat = 9 := by omega
    rcases h with h | h | h | h | h | h | h | h | h | h
    · exact .inl (g 0 h)
    · exact .inr (.inl (g 1 h))
    · exact .inr (.inr (.inl (g 2 h)))
    · exact .inr (.inr (.inr (.inl (g 3 h))))
    · exact .inr (.inr (.inr (.inr (.inl (g 4 h)))))
    · exact .inr (.inr (.inr (.inr (.inr (.inl (g 5 h))))))
    · exact .inr (.inr (.inr (.inr (.inr (.inr (.inl (g 6 h)))))))
    · exact .inr (.inr (.inr (.inr (.inr (.inr (.inr (.inl (g 7 h))))))))
    · exact .inr (.inr (.inr (.inr (.inr (.inr (.inr (.inr (.inl (g 8 h)))))))))
    · exact .inr (.inr (.inr (.inr (.inr (.inr (.inr (.inr (.inr (g 9 h)))))))))
  rcases h with rfl | rfl | rfl | rfl | rfl | rfl | rfl | rfl | rfl | rfl
  · exact spoil0_any W V bd d hD hs
  · exact spoil1_any W V bd d hD hs
  · exact spoil2_any W V bd d hD hs
  · exact spoil3_any W V bd d hD hs
  · exact spoil4_any W V bd d hD hs
  · exact spoil5_any W V bd d hD hs
  · exact spoil6_any W V bd d hD hs
  · exact spoil7_any W V bd d hD hs
  · exact spoil8_any W V bd d hD hs
  · exact spoil9_any W V bd d hD hs
end Go.Proofs.Qxb6500786aGreat
