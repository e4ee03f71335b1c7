import Derived.DeepKeys2
import Derived.Test.Qxb6500786aGreatNp

import Derived.StillTailTactics
import Derived.Deep.QuietTactic
import Derived.BigQuiet
import Derived.Deep.RegionHeld
import Derived.Deep.CutRange
import Derived.Laws.ResultCell
import Derived.Laws.Rows
import Derived.DeepKeys
import Derived.DataBytes
import Derived.Laws.StructEq
import Derived.Laws.AppendOwn
import Derived.Laws.MakeOwn
import Derived.Lib.AppendStr
set_option linter.unusedSimpArgs false
set_option linter.unusedVariables false
namespace Go.Proofs.Qxb6500786aGreat
open Go.RowKit Go.Blk
attribute [local go_sem ↓] execOp_load execOp_store execOp_alloc
attribute [local go_sem] Tryz.ld24 Tryz.st24 Tryz.ld36 Tryz.st36 Tryz.ld28 Tryz.st28 Tryz.ld32 Tryz.st32 Tryz.ld33 Tryz.st33 Tryz.ld34 Tryz.st34 Tryz.ld5 Tryz.st5 Tryz.ld31 Tryz.st31 Tryz.ld30 Tryz.st30 Tryz.ld41 Tryz.st41 Tryz.ld44 Tryz.st44 Tryz.ld4 Tryz.st4 Tryz.ld173 Tryz.st173 Tryz.ld174 Tryz.st174 Tryz.ld95 Tryz.st95 Tryz.ld45 Tryz.st45 Tryz.ld207 Tryz.st207 Tryz.ld3 Tryz.st3 Tryz.ld189 Tryz.st189 Tryz.ld2 Tryz.st2 Tryz.ld9 Tryz.st9 Tryz.ld12 Tryz.st12 Tryz.ld21 Tryz.st21 Tryz.ld22 Tryz.st22 Tryz.ld46 Tryz.st46 Tryz.ld92 Tryz.st92 Tryz.ld94 Tryz.st94 Tryz.ld96 Tryz.st96 Tryz.ld97 Tryz.st97 Tryz.ld105 Tryz.st105 Tryz.ld117 Tryz.st117 Tryz.ld122 Tryz.st122 Tryz.ld123 Tryz.st123 Tryz.ld133 Tryz.st133 Tryz.ld155 Tryz.st155 Tryz.ld163 Tryz.st163 Tryz.ld190 Tryz.st190 Tryz.ld197 Tryz.st197 Tryz.ld201 Tryz.st201 Tryz.ld202 Tryz.st202 Tryz.ld209 Tryz.st209 Tryz.ld216 Tryz.st216 Tryz.ld230 Tryz.st230 Tryz.ld238 Tryz.st238 Tryz.ld242 Tryz.st242 Tryz.ld251 Tryz.st251 Tryz.ld260 Tryz.st260 Tryz.ld286 Tryz.st286 Tryz.ld292 Tryz.st292 Tryz.ld298 Tryz.st298 Tryz.ld309 Tryz.st309 Tryz.ld35 Tryz.st35 Tryz.ld48 Tryz.st48 Tryz.ld47 Tryz.st47 Tryz.ld79 Tryz.st79 Tryz.ld177 Tryz.st177 Tryz.ld180 Tryz.st180 Tryz.ld231 Tryz.st231 Tryz.ld232 Tryz.st232 Tryz.ld26 Tryz.st26 Tryz.ld38 Tryz.st38 Tryz.ld40 Tryz.st40 Tryz.ld43 Tryz.st43 Tryz.ld50 Tryz.st50 Tryz.ld52 Tryz.st52 Tryz.ld54 Tryz.st54 Tryz.ld81 Tryz.st81 Tryz.ld112 Tryz.st112 Tryz.ld120 Tryz.st120 Tryz.ld176 Tryz.st176 Tryz.ld179 Tryz.st179 Tryz.ld182 Tryz.st182 Tryz.ld184 Tryz.st184 Tryz.ld234 Tryz.st234 Tryz.ld236 Tryz.st236 Tryz.ld240 Tryz.st240 Tryz.ld246 Tryz.st246 Tryz.ld249 Tryz.st249 Tryz.al35 Tryz.al48 Tryz.al47 Tryz.al79 Tryz.al177 Tryz.al180 Tryz.al231 Tryz.al232 Tryz.al26 Tryz.al38 Tryz.al40 Tryz.al43 Tryz.al50 Tryz.al52 Tryz.al54 Tryz.al81 Tryz.al112 Tryz.al120 Tryz.al176 Tryz.al179 Tryz.al182 Tryz.al184 Tryz.al234 Tryz.al236 Tryz.al240 Tryz.al246 Tryz.al249
attribute [local go_sem] Player.length_enc Player.ok_enc Player.all_get Player.all_set Player.hand_get Player.hand_set Player.aside_get Player.aside_set Message.length_enc Message.ok_enc Message.all_get Message.all_set Message.kind_get Message.kind_set Message.from__get Message.from__set Message.to__get Message.to__set Message.sender_get Message.sender_set Message.receiver_get Message.receiver_set Message.seq_get Message.seq_set Message.token_get Message.token_set Message.amount_get Message.amount_set Message.size_get Message.size_set Message.payload_get Message.payload_set Tx.length_enc Tx.ok_enc Tx.all_get Tx.all_set Tx.kind_get Tx.kind_set Tx.chain_get Tx.chain_set Tx.from__get Tx.from__set Tx.nonce_get Tx.nonce_set Tx.fee_get Tx.fee_set Tx.to__get Tx.to__set Tx.dest_get Tx.dest_set Tx.token_get Tx.token_set Tx.amount_get Tx.amount_set Tx.size_get Tx.size_set Tx.payload_get Tx.payload_set Tx.msg_get Tx.msg_set Tx.msg_kind_get Tx.msg_kind_set Tx.msg_from__get Tx.msg_from__set Tx.msg_to__get Tx.msg_to__set Tx.msg_sender_get Tx.msg_sender_set Tx.msg_receiver_get Tx.msg_receiver_set Tx.msg_seq_get Tx.msg_seq_set Tx.msg_token_get Tx.msg_token_set Tx.msg_amount_get Tx.msg_amount_set Tx.msg_size_get Tx.msg_size_set Tx.msg_payload_get Tx.msg_payload_set GOp.length_enc GOp.ok_enc GOp.all_get GOp.all_set GOp.kind_get GOp.kind_set GOp.tx_get GOp.tx_set GOp.txs_get GOp.txs_set GOp.gas_get GOp.gas_set GOp.acct_get GOp.acct_set GOp.token_get GOp.token_set GOp.chain_get GOp.chain_set GOp.seq_get GOp.seq_set GOp.tx_kind_get GOp.tx_kind_set GOp.tx_chain_get GOp.tx_chain_set GOp.tx_from__get GOp.tx_from__set GOp.tx_nonce_get GOp.tx_nonce_set GOp.tx_fee_get GOp.tx_fee_set GOp.tx_to__get GOp.tx_to__set GOp.tx_dest_get GOp.tx_dest_set GOp.tx_token_get GOp.tx_token_set GOp.tx_amount_get GOp.tx_amount_set GOp.tx_size_get GOp.tx_size_set GOp.tx_payload_get GOp.tx_payload_set GOp.tx_msg_get GOp.tx_msg_set GOp.tx_msg_kind_get GOp.tx_msg_kind_set GOp.tx_msg_from__get GOp.tx_msg_from__set GOp.tx_msg_to__get GOp.tx_msg_to__set GOp.tx_msg_sender_get GOp.tx_msg_sender_set GOp.tx_msg_receiver_get GOp.tx_msg_receiver_set GOp.tx_msg_seq_get GOp.tx_msg_seq_set GOp.tx_msg_token_get GOp.tx_msg_token_set GOp.tx_msg_amount_get GOp.tx_msg_amount_set GOp.tx_msg_size_get GOp.tx_msg_size_set GOp.tx_msg_payload_get GOp.tx_msg_payload_set Summary.length_enc Summary.ok_enc Summary.all_get Summary.all_set Summary.height_get Summary.height_set Summary.txs_get Summary.txs_set Summary.gas_get Summary.gas_set Summary.fees_get Summary.fees_set Summary.sent_get Summary.sent_set Summary.took_get Summary.took_set Summary.minted_get Summary.minted_set Summary.burned_get Summary.burned_set Summary.root_get Summary.root_set Detail.length_enc Detail.ok_enc Detail.all_get Detail.all_set Detail.code_get Detail.code_set Detail.have__get Detail.have__set Detail.need_get Detail.need_set Slot.length_enc Slot.ok_enc Slot.all_get Slot.all_set Slot.nonce_get Slot.nonce_set Slot.balances_get Slot.balances_set Tree.length_enc Tree.ok_enc Tree.all_get Tree.all_set Tree.leaves_get Tree.leaves_set Mark.length_enc Mark.ok_enc Mark.all_get Mark.all_set Mark.from__get Mark.from__set Mark.seq_get Mark.seq_set Receipt.length_enc Receipt.ok_enc Receipt.all_get Receipt.all_set Receipt.code_get Receipt.code_set Receipt.hash_get Receipt.hash_set Receipt.index_get Receipt.index_set Receipt.gas_get Receipt.gas_set Receipt.fee_get Receipt.fee_set Receipt.hasSent_get Receipt.hasSent_set Receipt.sent_get Receipt.sent_set Receipt.hasTook_get Receipt.hasTook_set Receipt.took_get Receipt.took_set Receipt.sent_kind_get Receipt.sent_kind_set Receipt.sent_from__get Receipt.sent_from__set Receipt.sent_to__get Receipt.sent_to__set Receipt.sent_sender_get Receipt.sent_sender_set Receipt.sent_receiver_get Receipt.sent_receiver_set Receipt.sent_seq_get Receipt.sent_seq_set Receipt.sent_token_get Receipt.sent_token_set Receipt.sent_amount_get Receipt.sent_amount_set Receipt.sent_size_get Receipt.sent_size_set Receipt.sent_payload_get Receipt.sent_payload_set Receipt.took_kind_get Receipt.took_kind_set Receipt.took_from__get Receipt.took_from__set Receipt.took_to__get Receipt.took_to__set Receipt.took_sender_get Receipt.took_sender_set Receipt.took_receiver_get Receipt.took_receiver_set Receipt.took_seq_get Receipt.took_seq_set Receipt.took_token_get Receipt.took_token_set Receipt.took_amount_get Receipt.took_amount_set Receipt.took_size_get Receipt.took_size_set Receipt.took_payload_get Receipt.took_payload_set Store.length_enc Store.ok_enc Store.all_get Store.all_set Store.now_get Store.now_set Store.saved_get Store.saved_set GState.length_enc GState.ok_enc GState.all_get GState.all_set GState.kv_get GState.kv_set GState.tree_get GState.tree_set GState.stale_get GState.stale_set GState.touched_get GState.touched_set GState.kv_now_get GState.kv_now_set GState.kv_saved_get GState.kv_saved_set GState.tree_leaves_get GState.tree_leaves_set History.length_enc History.ok_enc History.all_get History.all_set History.ring_get History.ring_set History.closed_get History.closed_set Ledger.length_enc Ledger.ok_enc Ledger.all_get Ledger.all_set Ledger.chain_get Ledger.chain_set Ledger.st_get Ledger.st_set Ledger.height_get Ledger.height_set Ledger.open__get Ledger.open__set Ledger.gasLimit_get Ledger.gasLimit_set Ledger.past_get Ledger.past_set Ledger.begun_get Ledger.begun_set Ledger.sent_get Ledger.sent_set Ledger.took_get Ledger.took_set Ledger.receipts_get Ledger.receipts_set Ledger.st_kv_get Ledger.st_kv_set Ledger.st_tree_get Ledger.st_tree_set Ledger.st_stale_get Ledger.st_stale_set Ledger.st_touched_get Ledger.st_touched_set Ledger.st_kv_now_get Ledger.st_kv_now_set Ledger.st_kv_saved_get Ledger.st_kv_saved_set Ledger.st_tree_leaves_get Ledger.st_tree_leaves_set Ledger.past_ring_get Ledger.past_ring_set Ledger.past_closed_get Ledger.past_closed_set Ledger.begun_kv_get Ledger.begun_kv_set Ledger.begun_tree_get Ledger.begun_tree_set Ledger.begun_stale_get Ledger.begun_stale_set Ledger.begun_touched_get Ledger.begun_touched_set Ledger.begun_kv_now_get Ledger.begun_kv_now_set Ledger.begun_kv_saved_get Ledger.begun_kv_saved_set Ledger.begun_tree_leaves_get Ledger.begun_tree_leaves_set Purse.length_enc Purse.ok_enc Purse.all_get Purse.all_set Purse.st_get Purse.st_set Purse.n_get Purse.n_set Purse.account_get Purse.account_set Purse.token_get Purse.token_set Purse.amount_get Purse.amount_set Plan.length_enc Plan.ok_enc Plan.all_get Plan.all_set Plan.purse_get Plan.purse_set Plan.nonce_get Plan.nonce_set Plan.gasUsed_get Plan.gasUsed_set Plan.fees_get Plan.fees_set Plan.hasSupply_get Plan.hasSupply_set Plan.token_get Plan.token_set Plan.supply_get Plan.supply_set Plan.flowAt_get Plan.flowAt_set Plan.flow_get Plan.flow_set Plan.receipt_get Plan.receipt_set Plan.purse_st_get Plan.purse_st_set Plan.purse_n_get Plan.purse_n_set Plan.purse_account_get Plan.purse_account_set Plan.purse_token_get Plan.purse_token_set Plan.purse_amount_get Plan.purse_amount_set Plan.receipt_code_get Plan.receipt_code_set Plan.receipt_hash_get Plan.receipt_hash_set Plan.receipt_index_get Plan.receipt_index_set Plan.receipt_gas_get Plan.receipt_gas_set Plan.receipt_fee_get Plan.receipt_fee_set Plan.receipt_hasSent_get Plan.receipt_hasSent_set Plan.receipt_sent_get Plan.receipt_sent_set Plan.receipt_hasTook_get Plan.receipt_hasTook_set Plan.receipt_took_get Plan.receipt_took_set Plan.receipt_sent_kind_get Plan.receipt_sent_kind_set Plan.receipt_sent_from__get Plan.receipt_sent_from__set Plan.receipt_sent_to__get Plan.receipt_sent_to__set Plan.receipt_sent_sender_get Plan.receipt_sent_sender_set Plan.receipt_sent_receiver_get Plan.receipt_sent_receiver_set Plan.receipt_sent_seq_get Plan.receipt_sent_seq_set Plan.receipt_sent_token_get Plan.receipt_sent_token_set Plan.receipt_sent_amount_get Plan.receipt_sent_amount_set Plan.receipt_sent_size_get Plan.receipt_sent_size_set Plan.receipt_sent_payload_get Plan.receipt_sent_payload_set Plan.receipt_took_kind_get Plan.receipt_took_kind_set Plan.receipt_took_from__get Plan.receipt_took_from__set Plan.receipt_took_to__get Plan.receipt_took_to__set Plan.receipt_took_sender_get Plan.receipt_took_sender_set Plan.receipt_took_receiver_get Plan.receipt_took_receiver_set Plan.receipt_took_seq_get Plan.receipt_took_seq_set Plan.receipt_took_token_get Plan.receipt_took_token_set Plan.receipt_took_amount_get Plan.receipt_took_amount_set Plan.receipt_took_size_get Plan.receipt_took_size_set Plan.receipt_took_payload_get Plan.receipt_took_payload_set Move.length_enc Move.ok_enc Move.all_get Move.all_set Move.account_get Move.account_set Move.token_get Move.token_set Move.down_get Move.down_set Move.amount_get Move.amount_set Books.length_enc Books.ok_enc Books.all_get Books.all_set Books.sums_get Books.sums_set Books.stored_get Books.stored_set Books.marks_get Books.marks_set Pair.length_enc Pair.ok_enc Pair.all_get Pair.all_set Pair.key_get Pair.key_set Pair.value_get Pair.value_set
attribute [local go_sem] size_put size_ext blk_put free_put blk_alloc free_alloc blk_drew free_drew blk_ext free_ext lookOr_some putOr_some segAt_some cellAt_some storeIn_some put_put put_alloc_new length_arr ok_arr_u8 ok_arr_u32 ok_arr_u64 ok_arr_i64 ok_arr_sl cellsV_agg cellsV_int cellsV_bool cellsV_string cellsV_pointer cellsV_slice cellsV_sl ok_int ok_bool ok_string ok_pointer ok_slice ok_sl toList_arr seg_arr set_arr nth_splice nth_splice0 seg_splice seg_splice0 splice_splice splice_splice0 length_splice_if
attribute [local go_sem ↓] execOp_box
attribute [local go_sem] box_run nth_arr_u8 put_arr_u8 blk_drewN free_drewN put_drewN blk_raw free_raw
attribute [local go_sem] Tryz.ld148 Tryz.st148 Tryz.al148 Dump.length_enc Dump.ok_enc Dump.all_get Dump.all_set Dump.chain_get Dump.height_get Dump.balances_get Dump.nonces_get Dump.marks_get Dump.history_get
/-- A dump, plainly. -/
structure PDump where
  chain : UInt8
  height : UInt64
  bal : Vector UInt64 256
  non : Vector UInt64 64
  marks : List Mark
  hist : List Summary
def dmp0 (c : UInt8) (h : UInt64) : PDump := ⟨c, h, Vector.replicate 256 0, Vector.replicate 64 0, [], []⟩
def bix (r : UInt64) : Nat := r.toNat / 256 * 4 + r.toNat % 256
/-- A row of the store entered in a dump. -/
def dmpP (d : PDump) (p : Pair) : PDump :=
  if tbl p.key = 1 then (if h : (rowU p.key).toNat < 64 then { d with non := d.non.set (rowU p.key).toNat p.value h } else d)
  else if tbl p.key = 2 then (if h : bix (rowU p.key) < 256 then { d with bal := d.bal.set (bix (rowU p.key)) p.value h } else d)
  else if tbl p.key = 4 then { d with marks := d.marks ++ [mkR (rowU p.key)] } else d
def dmpN (L : PLg) (k : Nat) : PDump := (L.st.now.take k).foldl dmpP (dmp0 L.chain L.height)
def dmpD (L : PLg) : PDump := { dmpN L L.st.now.length with marks := srtF mkB (dmpN L L.st.now.length).marks, hist := hisL L.past }
/-- Dump, plainly. -/
def dmpF (L : PLg) : PDump × Int := if L.open_ = true then (dmp0 0 0, 31) else (dmpD L, 0)
theorem dmpN_succ {L : PLg} {i : Nat} {p : Pair} (h : L.st.now[i]? = some p) : dmpN L (i + 1) = dmpP (dmpN L i) p := by
  unfold dmpN
  obtain ⟨g1, g2⟩ := List.getElem?_eq_some_iff.1 h
  rw [← List.take_append_getElem g1, g2, List.foldl_append]; rfl
theorem dmpP_f (d : PDump) (p : Pair) : (dmpP d p).chain = d.chain ∧ (dmpP d p).height = d.height ∧ (dmpP d p).hist = d.hist ∧ (dmpP d p).marks.length ≤ d.marks.length + 1 := by
  unfold dmpP
  split
  · split <;> exact ⟨rfl, rfl, rfl, Nat.le_succ _⟩
  · split
    · split <;> exact ⟨rfl, rfl, rfl, Nat.le_succ _⟩
    · split
      · exact ⟨rfl, rfl, rfl, by show (d.marks ++ [_]).length ≤ _; rw [List.length_append]; exact Nat.le_refl _⟩
      · exact ⟨rfl, rfl, rfl, Nat.le_succ _⟩
theorem dmpN_f (L : PLg) : ∀ k, (dmpN L k).hist = [] ∧ (dmpN L k).marks.length ≤ k
  | 0 => ⟨rfl, Nat.le_refl _⟩
  | k + 1 => by
    obtain ⟨h1, h2⟩ := dmpN_f L k
    cases hp : L.st.now[k]? with
    | some p =>
      rw [dmpN_succ hp]
      obtain ⟨-, -, q1, q2⟩ := dmpP_f (dmpN L k) p
      exact ⟨q1.trans h1, by omega⟩
    | none =>
      have e : dmpN L (k + 1) = dmpN L k := by
        have := List.getElem?_eq_none_iff.1 hp
        unfold dmpN
        rw [List.take_of_length_le (by omega), List.take_of_length_le (by omega)]
      rw [e]
      exact ⟨h1, by omega⟩
/-- A dump in memory. -/
def dE (d : PDump) (m h : Sl) : Dump := ⟨d.chain, d.height, d.bal, d.non, m, h⟩
section
variable {α : Type} {en : α → List Value} {sz : Nat} {e : TypeId} {W V : World} {a : Option Addr} {n c : Nat} {K : List α}
theorem OutG.put {b : Nat} (h : OutG en sz e W V a n c K) (hb : W.heap.size ≤ b) (hn : (Value.slice a n c).ownBlock ≠ some b) (C : List Value) : OutG en sz e W (Blk.put V b C) a n c K := by
  refine ⟨row_keep h.1 (fun k hk => ?_), extends_put h.2.1 hb _, h.2.2⟩
  rw [heap_put, if_neg (fun q => hn (by rw [← q]; exact hk))]
end
/-- The dump while it is being made. -/
def DuS (W : World) (bd br : Nat) (d : PDump) (V : World) : Prop := ∃ a n c, BxI W [(bd, (dE d ⟨a, n, c⟩ nilS).enc), (br, Dump.zero.enc)] V ∧ OutG Mark.enc 2 112 W V a n c d.marks ∧ ∀ k, (Value.slice a n c).ownBlock = some k → bd < k ∧ br < k
def duI (W : World) (bl br bd : Nat) (L : PLg) (F : Nat → Value) (V : World) : Prop := F 0 = .pointer (some ⟨bl, 0, none⟩) ∧ F 2 = .pointer (some ⟨br, 0, none⟩) ∧ F 4 = .pointer (some ⟨bd, 0, none⟩) ∧ ∃ i : Nat, F 5 = .int .i64 (i : Nat) ∧ Hid (i ≤ L.st.now.length ∧ DuS W bd br (dmpN L i) V)
theorem build148z (w : World) : (buildOp 148 #[]).run Tryz.prog w = .ok (.value (.agg (Dump.zero : Dump).enc.toArray)) w := by kernel_rfl
set_option maxRecDepth 100000 in
theorem frame81d (f : Nat → Value) : frameN 81 f = #[f 0, f 1, f 2, f 3, f 4, f 5, f 6, f 7, f 8, f 9, f 10, f 11, f 12, f 13, f 14, f 15, f 16, f 17, f 18, f 19, f 20, f 21, f 22, f 23, f 24, f 25, f 26, f 27, f 28, f 29, f 30, f 31, f 32, f 33, f 34, f 35, f 36, f 37, f 38, f 39, f 40, f 41, f 42, f 43, f 44, f 45, f 46, f 47, f 48, f 49, f 50, f 51, f 52, f 53, f 54, f 55, f 56, f 57, f 58, f 59, f 60, f 61, f 62, f 63, f 64, f 65, f 66, f 67, f 68, f 69, f 70, f 71, f 72, f 73, f 74, f 75, f 76, f 77, f 78, f 79, f 80] := by kernel_rfl
attribute [local go_sem ↓] execOp_build execOp_bslice execOp_slice
attribute [local go_sem] build148z bslice94 x64_wrap
set_option maxRecDepth 20000 in
set_option maxHeartbeats 2000000 in
theorem dump_any (O : Own) (W : World) (bl : Nat) (L : PLg) (hL : LedA O W bl L) (hw : L.open_ = false → ∃ c, WfS c L.st.now) (hm : L.st.now.length ≤ 1000000000) (hc : L.past.closed.toNat < 9223372036854775807) : Calls Tryz.prog 78 #[.pointer (some ⟨bl, 0, none⟩)] W fun e V => ∃ a n c a' n' c', e = .returned (.tuple #[.agg (dE (dmpF L).1 ⟨a, n, c⟩ ⟨a', n', c'⟩).enc.toArray, .int .i64 (dmpF L).2]) ∧ OutG Mark.enc 2 112 W V a n c (dmpF L).1.marks ∧ OutG Summary.enc 46 50 W V a' n' c' (dmpF L).1.hist := by
  obtain ⟨Q, hQ⟩ : ∃ Q : Ending → World → Prop, Q = fun e V => ∃ a n c a' n' c', e = .returned (.tuple #[.agg (dE (dmpF L).1 ⟨a, n, c⟩ ⟨a', n', c'⟩).enc.toArray, .int .i64 (dmpF L).2]) ∧ OutG Mark.enc 2 112 W V a n c (dmpF L).1.marks ∧ OutG Summary.enc 46 50 W V a' n' c' (dmpF L).1.hist := ⟨_, rfl⟩
  rw [← hQ]
  have HQ := hid_of hQ
  have HR := hid_of hL.rd
  have HLL := hid_of hL
  obtain ⟨LE, kl, n0, n61, n62, n63, lle, ss, n2, hss⟩ := hL.cells
  have HKL := hid_of kl
  have HM : Hid (L.st.now.length ≤ 1000000000 ∧ L.past.closed.toNat < 9223372036854775807) := ⟨hm, hc⟩
  have hB := (BxI.start W).box Dump.zero.enc 148
  obtain ⟨W1, hW1⟩ : ∃ W1 : World, W1 = W.alloc (.cells Dump.zero.enc.toArray 148) := ⟨_, rfl⟩
  obtain ⟨br, hbr⟩ : ∃ br, br = W.heap.size := ⟨_, rfl⟩
  rw [← hW1, ← hbr] at hB
  have hnr : ¬ bl = br := by have := blk_lt kl; omega
  have lz : Dump.zero.enc.length = 324 := Dump.length_enc _
  have kl1 := (hB.1.blk (blk_lt kl)).trans kl
  have kr1 := (hB.at (List.mem_cons_self ..)).1
  have qr1 := (hB.at (List.mem_cons_self ..)).2
  have HB := hid_of hB
  have HW1 := hid_of hW1
  have HBR := hid_of hbr
  clear hL hss kl hW1 hbr hB hQ hm hc
  cases ho : L.open_ with
  | true =>
    rw [ho] at n62
    have HP : Hid (Q (.returned (.tuple #[.agg Dump.zero.enc.toArray, .int .i64 31])) (put W1 br Dump.zero.enc)) := by
      show Q _ _
      rw [HQ.out, show dmpF L = (dmp0 0 0, 31) from if_pos ho]
      have hx := (HB.out.put (C' := Dump.zero.enc) (fun p hp => by cases hp)).1
      exact ⟨none, 0, 0, none, 0, 0, rfl, OutG.nil hx, OutG.nil hx⟩
    clear HQ HB ho hw
    go_enter Tryz.func78, Tryz.ntmps78
    go_upto_region 1 with fail
    rw [← HW1.out, ← HBR.out]
    clear HW1 HBR
    go_wp2_with fail
    refine ret_cell_tmp (C := Dump.zero.enc) rfl rfl rfl (by rw [blk_put, if_pos rfl, kr1]; rfl) (by kernel_rfl) (by rw [Dump.length_enc]; kernel_rfl) rfl ?_
    exact HP.out
  | false =>
    rw [ho] at n62
    obtain ⟨cw, hwf⟩ := hw ho
    have HWF := hid_of hwf
    have HDF : Hid (dmpF L = (dmpD L, 0)) := if_neg (by rw [ho]; simp)
    clear hwf hw ho
    have hB2 := HB.out.box Dump.zero.enc 148
    obtain ⟨W2, hW2⟩ : ∃ W2 : World, W2 = W1.alloc (.cells Dump.zero.enc.toArray 148) := ⟨_, rfl⟩
    obtain ⟨bd, hbd⟩ : ∃ bd, bd = W1.heap.size := ⟨_, rfl⟩
    rw [← hW2, ← hbd] at hB2
    have hne : br ≠ bd := by rw [hbd]; exact Nat.ne_of_lt (blk_lt kr1)
    have hnd : ¬ bl = bd := by rw [hbd]; exact Nat.ne_of_lt (blk_lt kl1)
    have HNE : Hid (br ≠ bd ∧ W.heap.size ≤ bd) := ⟨hne, by rw [hbd]; exact HB.out.1.size⟩
    have kl2 := (hB2.1.blk (blk_lt HKL.out)).trans HKL.out
    have kd2 := (hB2.at (List.mem_cons_self ..)).1
    have qd2 := (hB2.at (List.mem_cons_self ..)).2
    obtain ⟨d1, hd1⟩ : ∃ d1 : Dump, d1 = { Dump.zero with chain := L.chain } := ⟨_, rfl⟩
    obtain ⟨d2, hd2⟩ : ∃ d2 : Dump, d2 = { d1 with height := L.height } := ⟨_, rfl⟩
    have hs1 : splice Dump.zero.enc 0 [.int .u8 (w8 L.chain)] = d1.enc := by rw [hd1]; exact Dump.chain_set _ _
    have hs2 : splice d1.enc 1 [.int .u64 (w64 L.height)] = d2.enc := by rw [hd2]; exact Dump.height_set _ _
    have ld1 : d1.enc.length = 324 := Dump.length_enc _
    have HI0 : Hid (0 ≤ L.st.now.length ∧ DuS W bd br (dmpN L 0) (put W2 bd d2.enc)) := by
      refine ⟨Nat.zero_le _, none, 0, 0, ?_, OutG.nil (hB2.put (C' := d2.enc) (fun p hp => by rw [List.mem_singleton] at hp; rw [hp]; exact hne)).1, fun k hk => by cases hk⟩
      have e : d2 = dE (dmpN L 0) ⟨none, 0, 0⟩ nilS := by rw [hd2, hd1]; rfl
      rw [← e]
      exact hB2.put (fun p hp => by rw [List.mem_singleton] at hp; rw [hp]; exact hne)
    have HW2 := hid_of hW2
    have HBD := hid_of hbd
    clear hB2 hW2 hbd hne hd1 hd2 HB
    go_enter Tryz.func78, Tryz.ntmps78
    go_upto_region 1 with fail
    rw [← HW1.out, ← HBR.out]
    clear HW1 HBR
    go_upto_region 4 with fail
    rw [← HW2.out, ← HBD.out]
    clear HW2 HBD
    go_wp2_with fail
    refine wp_loop_f 81 (duI W bl br bd L) (fun f _ => L.st.now.length - (intOf (f 5)).toNat) rfl ⟨rfl, rfl, rfl, 0, rfl, HI0⟩ ?_
    clear HI0 kl1 kr1 qr1 kl2 kd2 qd2 hs1 hs2 ld1
    intro F V hrel
    obtain ⟨f0, f2, f4, i, f5, HI⟩ := hrel
    have H5 := hid_of f5
    rw [frame81d, f0, f2, f4, f5]
    clear f0 f2 f4 f5
    obtain ⟨hil, a, n, c, hV, hO, hown⟩ := HI.out
    clear HI
    have hlen := len_any V bl 1 L.st.now (HR.out.ext hV.1)
    by_cases hin : i < L.st.now.length
    rotate_left 1
    · have hin' : ¬ (i : Int) < (L.st.now.length : Int) := by omega
      have ei : dmpN L i = dmpN L L.st.now.length := by rw [show i = L.st.now.length by omega]
      rw [ei] at hV hO
      obtain ⟨D, hD⟩ : ∃ D, D = dmpN L L.st.now.length := ⟨_, rfl⟩
      rw [← hD] at hV hO
      have hml : D.marks.length ≤ 1000000000 := by have := (dmpN_f L L.st.now.length).2; rw [← hD] at this; have := HM.out.1; omega
      have hso := mkSort_any W V a n c D.marks hO (by rw [hO.2.2]; exact hml)
      have HD := hid_of hD
      have kd := (hV.at (b := bd) (C := (dE D ⟨a, n, c⟩ nilS).enc) (by simp)).1
      have n22 : nth (dE D ⟨a, n, c⟩ nilS).enc 322 = some (.slice a n c) := Dump.marks_get _
      have lde : (dE D ⟨a, n, c⟩ nilS).enc.length = 324 := Dump.length_enc _
      have HV := hid_of hV
      have HOWN := hid_of hown
      clear hV hO hown hin hil ei hD hml
      generalize L.st.now.length = ll at hlen hin'
      go_wp2_with fail
      refine hlen.mono ?_
      clear hlen
      rintro e V1 ⟨rfl, rfl⟩
      dsimp only
      go_wp2_with fail
      refine hso.mono ?_
      clear hso kd
      rintro e V2 ⟨rfl, hO2, hkp⟩
      dsimp only
      have hV2 : BxI W [(bd, (dE D ⟨a, n, c⟩ nilS).enc), (br, Dump.zero.enc)] V2 := by
        refine ⟨hO2.2.1, fun p hp => ?_⟩
        obtain ⟨g1, g2, g3⟩ := HV.out.2 p hp
        have hn : (Value.slice a n c).ownBlock ≠ some p.1 := fun e => by
          obtain ⟨q1, q2⟩ := HOWN.out _ e
          simp at hp
          rcases hp with rfl | rfl
          · exact Nat.lt_irrefl _ q1
          · exact Nat.lt_irrefl _ q2
        obtain ⟨q1, q2⟩ := hkp _ _ g1 hn
        exact ⟨q1, q2 g2, g3⟩
      clear hkp
      obtain ⟨O2, hL2⟩ : ∃ O2, LedA O2 V2 bl L := ⟨_, HLL.out.ext hV2.1⟩
      have hq : Calls Tryz.prog 174 #[.pointer (some ⟨bl, 2064, none⟩)] V2 fun e V => ∃ a n c, e = .returned (.slice a n c) ∧ OutG Summary.enc 46 50 V2 V a n c (hisL L.past) := by
        obtain ⟨sn, ss, bn, ms, mt, mr, h0⟩ := hL2
        exact histList_any V2 bl _ h0.hblk HM.out.2
      have HV2 := hid_of hV2
      have HO2 := hid_of hO2
      clear hL2 hV2 hO2 HV
      go_wp2_with fail
      refine hq.mono ?_
      clear hq
      rintro e V3 ⟨a', n', c', rfl, hO3⟩
      dsimp only
      have hV3 := HV2.out.ext hO3.2.1
      have hO3m := HO2.out.ext hO3.2.1
      have kd := (hV3.at (b := bd) (C := (dE D ⟨a, n, c⟩ nilS).enc) (by simp)).1
      have qd := (hV3.at (b := bd) (C := (dE D ⟨a, n, c⟩ nilS).enc) (by simp)).2
      have kr := (hV3.at (b := br) (C := Dump.zero.enc) (by simp)).1
      have qr := (hV3.at (b := br) (C := Dump.zero.enc) (by simp)).2
      have hs3 : splice (dE D ⟨a, n, c⟩ nilS).enc 323 [.slice a' n' c'] = (dE D ⟨a, n, c⟩ ⟨a', n', c'⟩).enc := Dump.history_set _ ⟨a', n', c'⟩
      have ld3 : (dE D ⟨a, n, c⟩ ⟨a', n', c'⟩).enc.length = 324 := Dump.length_enc _
      have hnn : ¬ br = bd := HNE.out.1
      have HP : Hid (Q (.returned (.tuple #[.agg (dE D ⟨a, n, c⟩ ⟨a', n', c'⟩).enc.toArray, .int .i64 0])) (put (put V3 bd (dE D ⟨a, n, c⟩ ⟨a', n', c'⟩).enc) br (dE D ⟨a, n, c⟩ ⟨a', n', c'⟩).enc)) := by
        show Q _ _
        rw [HQ.out, HDF.out]
        have e1 : dE (dmpD L) ⟨a, n, c⟩ ⟨a', n', c'⟩ = dE D ⟨a, n, c⟩ ⟨a', n', c'⟩ := by
          unfold dmpD
          rw [← HD.out]
          rfl
        have e2 : (dmpD L).marks = srtF mkB D.marks := by
          unfold dmpD
          rw [← HD.out]
        have hbd3 : bd < V2.heap.size := by
          have := (HV2.out.at (b := bd) (C := (dE D ⟨a, n, c⟩ nilS).enc) (by simp)).1
          exact blk_lt this
        have hbr3 : br < V2.heap.size := by
          have := (HV2.out.at (b := br) (C := Dump.zero.enc) (by simp)).1
          exact blk_lt this
        have wr : W.heap.size ≤ br := (hV3.2 (br, Dump.zero.enc) (by simp)).2.2
        refine ⟨a, n, c, a', n', c', by rw [e1], ?_, ?_⟩
        · rw [e2]
          refine OutG.put (OutG.put hO3m HNE.out.2 (fun e => ?_) _) wr (fun e => ?_) _
          · exact Nat.lt_irrefl _ (HOWN.out _ e).1
          · exact Nat.lt_irrefl _ (HOWN.out _ e).2
        · have h9 : OutG Summary.enc 46 50 W V3 a' n' c' (hisL L.past) := hO3.base HV2.out.1
          refine OutG.put (OutG.put h9 HNE.out.2 (fun e => ?_) _) wr (fun e => ?_) _
          · have := (row_at hO3.1 _ e).1
            omega
          · have := (row_at hO3.1 _ e).1
            omega
      clear hV3 hO3m hO3 HV2 HO2 HQ HDF HD HOWN
      generalize hE1 : (dE D ⟨a, n, c⟩ nilS) = E1 at *
      generalize hE2 : (dE D ⟨a, n, c⟩ ⟨a', n', c'⟩) = E2 at *
      go_wp2_with fail
      refine ret_cell_tmp (C := E2.enc) rfl rfl rfl (by rw [blk_put, if_pos rfl, blk_put, if_neg hnn, kr]; rfl) (by kernel_rfl) (by rw [Dump.length_enc]; kernel_rfl) rfl ?_
      exact HP.out
    have hin' : (i : Int) < (L.st.now.length : Int) := by omega
    obtain ⟨p, hp⟩ : ∃ p, L.st.now[i]? = some p := ⟨_, List.getElem?_eq_getElem hin⟩
    have hat := at_any V bl 1 L.st.now (HR.out.ext hV.1) i p hp
    have hko := (HWF.out.ok p (List.mem_of_getElem? hp)).1
    have HNX := hid_of (dmpN_succ hp)
    have hi9 : (i : Int) + 1 ≤ 1000000001 := by have := HM.out.1; omega
    have HIN : Hid (i + 1 ≤ L.st.now.length) := hin
    have HV := hid_of hV
    have HO := hid_of hO
    have HOWN := hid_of hown
    have HKO := hid_of hko
    have HLEN := hid_of ((dmpN_f L i).2)
    clear hV hO hown hin hil hp hko
    obtain ⟨ll, hll⟩ : ∃ ll, ll = L.st.now.length := ⟨_, rfl⟩
    rw [← hll] at hlen hin'
    clear hll
    go_wp2_with fail
    refine hlen.mono ?_
    clear hlen
    rintro e V1 ⟨rfl, rfl⟩
    dsimp only
    go_wp2_with fail
    refine hat.mono ?_
    clear hat
    rintro e V2 ⟨rfl, he2⟩
    dsimp only
    have hV2 := (HV.out.ext he2).box p.enc 249
    have hO2 := HO.out.ext he2
    obtain ⟨V3, hV3⟩ : ∃ V3 : World, V3 = V2.alloc (.cells p.enc.toArray 249) := ⟨_, rfl⟩
    obtain ⟨bq, hbq⟩ : ∃ bq, bq = V2.heap.size := ⟨_, rfl⟩
    have hx3 : V2.Extends V3 := by rw [hV3]; exact extends_alloc (ext_Ext (Ext.refl _)) _
    rw [← hV3, ← hbq] at hV2
    have hO3 := hO2.ext hx3
    have hdq : ¬ bd = bq := by rw [hbq]; exact Nat.ne_of_lt (blk_lt ((HV.out.ext he2).at (b := bd) (List.mem_cons_self ..)).1)
    have hrq : br ≠ bq := by rw [hbq]; exact Nat.ne_of_lt (blk_lt ((HV.out.ext he2).at (b := br) (C := Dump.zero.enc) (by simp)).1)
    obtain ⟨E, hE⟩ : ∃ E, E = (dE (dmpN L i) ⟨a, n, c⟩ nilS).enc := ⟨_, rfl⟩
    have kq := (hV2.at (b := bq) (C := p.enc) (by simp)).1
    have kd := (hV2.at (b := bd) (C := (dE (dmpN L i) ⟨a, n, c⟩ nilS).enc) (by simp)).1
    have qd := (hV2.at (b := bd) (C := (dE (dmpN L i) ⟨a, n, c⟩ nilS).enc) (by simp)).2
    have lE : E.length = 324 := by rw [hE]; exact Dump.length_enc _
    have n22 : nth E 322 = some (.slice a n c) := by rw [hE]; exact Dump.marks_get _
    have hVd : BxI W [(bd, E), (br, Dump.zero.enc)] V3 := by rw [hE]; exact hV2.sub (fun q hq => List.mem_cons_of_mem _ hq)
    rw [← hE] at kd
    have hro := rowOf_any V3 p.key
    have hta := tableOf_any V3 p.key
    obtain ⟨r, hr⟩ : ∃ r, r = rowU p.key := ⟨_, rfl⟩
    obtain ⟨tb, htb⟩ : ∃ tb, tb = tblU p.key := ⟨_, rfl⟩
    rw [← hr] at hro
    rw [← htb] at hta
    have HE := hid_of hE
    have HRT : Hid (r = rowU p.key ∧ tb = tblU p.key) := ⟨hr, htb⟩
    have HRB : Hid (r.toNat < 72057594037927936) := by rw [Hid, hr, rowU_nat]; exact Nat.mod_lt _ (by decide)
    have HV3 := hid_of hV3
    have HBQ := hid_of hbq
    have HDQ : Hid (bd ≠ bq ∧ br ≠ bd) := ⟨hdq, HNE.out.1⟩
    have HVD := hid_of hVd
    have HO3 := hid_of hO3
    clear hV2 hO2 hV3 hbq hx3 he2 hVd hO3 hE hr htb hrq HV HO
    go_upto_region 10 with fail
    rw [← HV3.out, ← HBQ.out]
    clear HV3 HBQ
    go_wp2_with fail
    refine hro.mono ?_
    clear hro
    rintro e V4 ⟨rfl, rfl⟩
    dsimp only
    go_wp2_with fail
    refine hta.mono ?_
    clear hta
    rintro e V4 ⟨rfl, rfl⟩
    dsimp only
    -- how a round ends
    have HEN : Hid (∀ V9, DuS W bd br (dmpP (dmpN L i) p) V9 → i + 1 ≤ L.st.now.length ∧ DuS W bd br (dmpN L (i + 1)) V9) := fun V9 h9 => ⟨HIN.out, by rw [HNX.out]; exact h9⟩
    rcases HKO.out with ⟨ka, ha, hk⟩ | ⟨ka, kt, ha, ht, hk⟩ | ⟨kt, ht, hk⟩ | ⟨kf, ks, hf1, hf2, hf3, hk⟩ | ⟨kc, h1, h2, hk⟩
    · have t1 : tbl p.key = 1 := by rw [hk]; exact tbl_N ka
      have tw : w64 tb = 1 := by unfold w64; rw [HRT.out.2, tblU_nat, t1]; rfl
      have rn : r.toNat = ka.toNat := by
        rw [HRT.out.1, rowU_nat, hk, keyN_nat]
        have := ka.toNat_lt
        omega
      have hr64 : r.toNat < 64 := by omega
      have p0 : (0 : Int) ≤ w64 r := by unfold w64; omega
      have p1 : w64 r < 64 := by unfold w64; omega
      have p2 : (w64 r).toNat = r.toNat := by unfold w64; omega
      have hs := Dump.nonces_put (dE (dmpN L i) ⟨a, n, c⟩ nilS) r.toNat p.value hr64
      rw [← HE.out] at hs
      obtain ⟨E2, hE2⟩ : ∃ E2 : List Value, E2 = (dE (dmpP (dmpN L i) p) ⟨a, n, c⟩ nilS).enc := ⟨_, rfl⟩
      have hd : dmpP (dmpN L i) p = { dmpN L i with non := (dmpN L i).non.set r.toNat p.value hr64 } := by
        unfold dmpP
        rw [if_pos t1]
        simp only [← HRT.out.1]
        rw [dif_pos hr64]
      have hs2 : splice E (258 + r.toNat) [.int .u64 (w64 p.value)] = E2 := by rw [hs, hE2, hd]; rfl
      have k9 : 258 + r.toNat + 1 ≤ 324 := by omega
      have HI1 : Hid (i + 1 ≤ L.st.now.length ∧ DuS W bd br (dmpN L (i + 1)) (put V4 bd E2)) := by
        refine HEN.out _ ⟨a, n, c, ?_, ?_, HOWN.out⟩
        · rw [← hE2]
          exact HVD.out.put (fun q hq => by rw [List.mem_singleton] at hq; rw [hq]; exact HDQ.out.2)
        · rw [show (dmpP (dmpN L i) p).marks = (dmpN L i).marks by rw [hd]]
          exact OutG.put HO3.out HNE.out.2 (fun e => Nat.lt_irrefl _ (HOWN.out _ e).1) _
      clear HEN HVD HO3 hs hE2 hd hk t1 rn hr64 HKO ha
      go_wp2_with fail
      refine ⟨rfl, rfl, ⟨rfl, rfl, rfl, i + 1, rfl, HI1⟩, ?_⟩
      show L.st.now.length - ((i : Int) + 1).toNat < L.st.now.length - (intOf (F 5)).toNat
      rw [H5.out]
      show L.st.now.length - (i + 1) < L.st.now.length - i
      have := HIN.out
      omega
    · have t1 : tbl p.key = 2 := by rw [hk]; exact tbl_B ka kt
      have tw : w64 tb = 2 := by unfold w64; rw [HRT.out.2, tblU_nat, t1]; rfl
      have rn : r.toNat = ka.toNat * 256 + kt.toNat := by
        rw [HRT.out.1, rowU_nat, hk, keyB_nat]
        have := ka.toNat_lt
        have := kt.toNat_lt
        omega
      obtain ⟨z, hz⟩ : ∃ z, z = bix r := ⟨_, rfl⟩
      have hz2 : z = ka.toNat * 4 + kt.toNat := by
        rw [hz]
        unfold bix
        rw [rn]
        have := kt.toNat_lt
        omega
      have hz6 : z < 256 := by omega
      have e1 : w64 r / 256 = (ka.toNat : Int) := by unfold w64; rw [rn]; have := kt.toNat_lt; omega
      have e2 : bits .and .u64 (w64 r) 255 = (kt.toNat : Int) := by rw [u64_mask r 8 (by omega) 255 rfl, rn]; have := kt.toNat_lt; omega
      have e3 : IntKind.u64.wrap ((ka.toNat : Int) * 4) = (ka.toNat : Int) * 4 := by rw [IntKind.wrap_u64]; omega
      have e4 : IntKind.u64.wrap ((ka.toNat : Int) * 4 + (kt.toNat : Int)) = (z : Int) := by rw [IntKind.wrap_u64]; omega
      have z2 : (0 : Int) ≤ (z : Int) := by omega
      have z3 : ((z : Int)).toNat = z := by omega
      have z4 : (z : Int) < 256 := by omega
      have hs := Dump.balances_put (dE (dmpN L i) ⟨a, n, c⟩ nilS) z p.value hz6
      rw [← HE.out] at hs
      obtain ⟨E2, hE2⟩ : ∃ E2 : List Value, E2 = (dE (dmpP (dmpN L i) p) ⟨a, n, c⟩ nilS).enc := ⟨_, rfl⟩
      have hd : dmpP (dmpN L i) p = { dmpN L i with bal := (dmpN L i).bal.set z p.value hz6 } := by
        unfold dmpP
        rw [if_neg (by rw [t1]; decide), if_pos t1]
        simp only [← HRT.out.1, ← hz]
        rw [dif_pos hz6]
      have hs2 : splice E (2 + z) [.int .u64 (w64 p.value)] = E2 := by rw [hs, hE2, hd]; rfl
      have k9 : 2 + z + 1 ≤ 324 := by omega
      have HI1 : Hid (i + 1 ≤ L.st.now.length ∧ DuS W bd br (dmpN L (i + 1)) (put V4 bd E2)) := by
        refine HEN.out _ ⟨a, n, c, ?_, ?_, HOWN.out⟩
        · rw [← hE2]
          exact HVD.out.put (fun q hq => by rw [List.mem_singleton] at hq; rw [hq]; exact HDQ.out.2)
        · rw [show (dmpP (dmpN L i) p).marks = (dmpN L i).marks by rw [hd]]
          exact OutG.put HO3.out HNE.out.2 (fun e => Nat.lt_irrefl _ (HOWN.out _ e).1) _
      clear HEN HVD HO3 hs hE2 hd hk t1 rn hz6 HKO ha ht hz hz2
      go_wp2_with fail
      refine ⟨rfl, rfl, ⟨rfl, rfl, rfl, i + 1, rfl, HI1⟩, ?_⟩
      show L.st.now.length - ((i : Int) + 1).toNat < L.st.now.length - (intOf (F 5)).toNat
      rw [H5.out]
      show L.st.now.length - (i + 1) < L.st.now.length - i
      have := HIN.out
      omega
    · have t1 : tbl p.key = 3 := by rw [hk]; exact tbl_S kt
      have tw : w64 tb = 3 := by unfold w64; rw [HRT.out.2, tblU_nat, t1]; rfl
      have HI1 : Hid (i + 1 ≤ L.st.now.length ∧ DuS W bd br (dmpN L (i + 1)) V4) := by
        have hd : dmpP (dmpN L i) p = dmpN L i := by
          unfold dmpP
          rw [if_neg (by rw [t1]; decide), if_neg (by rw [t1]; decide), if_neg (by rw [t1]; decide)]
        refine HEN.out _ ?_
        rw [hd]
        exact ⟨a, n, c, by rw [← HE.out]; exact HVD.out, HO3.out, HOWN.out⟩
      clear HEN HVD HO3 hk t1 HKO ht
      go_wp2_with fail
      refine ⟨rfl, rfl, ⟨rfl, rfl, rfl, i + 1, rfl, HI1⟩, ?_⟩
      show L.st.now.length - ((i : Int) + 1).toNat < L.st.now.length - (intOf (F 5)).toNat
      rw [H5.out]
      show L.st.now.length - (i + 1) < L.st.now.length - i
      have := HIN.out
      omega
    · have t1 : tbl p.key = 4 := by rw [hk]; exact tbl_M kf ks
      have tw : w64 tb = 4 := by unfold w64; rw [HRT.out.2, tblU_nat, t1]; rfl
      have hd : dmpP (dmpN L i) p = { dmpN L i with marks := (dmpN L i).marks ++ [mkR r] } := by
        unfold dmpP
        rw [if_neg (by rw [t1]; decide), if_neg (by rw [t1]; decide), if_pos t1, ← HRT.out.1]
      have k4 : blk V4.drew bd = some E := kd
      have HAP : Hid (∀ V5, V4.drew.Extends V5 → ∃ a' c' V7, (Builtin.append_ #[94, 94] 94 #[.slice a n c, .slice (some ⟨V5.heap.size, 0, none⟩) 1 1]).run Tryz.prog (V5.alloc (.cells (mkR r).enc.toArray 112)) = .ok (.slice a' (n + 1) c') V7 ∧ Hid (i + 1 ≤ L.st.now.length ∧ DuS W bd br (dmpN L (i + 1)) (put V7 bd (dE (dmpP (dmpN L i) p) ⟨a', n + 1, c'⟩ nilS).enc)) ∧ blk V7 bd = some E ∧ free V7 bd = true) := by
        intro V5 h5
        have h45 : V4.Extends V5 := (extends_drewN (ext_Ext (Ext.refl V4)) 1).trans h5
        have hO5 := HO3.out.ext h45
        have hV5 := HVD.out.ext h45
        obtain ⟨a', c', V7, hr7, hO7, hg7⟩ := hO5.app elMark (mkR r) (by have := HLEN.out; have := HIN.out; have := HM.out.1; omega) (mkR r).enc.toArray rfl 1
        have hV7 : BxI W [(bd, E), (br, Dump.zero.enc)] V7 := by
          refine ⟨hO7.2.1, fun q hq => ?_⟩
          obtain ⟨g1, g2, g3⟩ := hV5.2 q hq
          have hn : (Value.slice a n c).ownBlock ≠ some q.1 := fun e => by
            obtain ⟨q1, q2⟩ := HOWN.out _ e
            simp at hq
            rcases hq with rfl | rfl
            · exact Nat.lt_irrefl _ q1
            · exact Nat.lt_irrefl _ q2
          have hh := hg7.block q.1 (blk_lt g1) hn
          exact ⟨(blk_of_heap hh).trans g1, (free_of_heap hh).trans g2, g3⟩
        have kb7 := (hV7.at (b := bd) (List.mem_cons_self ..))
        have hown7 : ∀ k, (Value.slice a' (n + 1) c').ownBlock = some k → bd < k ∧ br < k := fun k hk => by
          rcases hg7.own k hk with g | g
          · exact HOWN.out k g
          · have := blk_lt (hV5.at (b := bd) (List.mem_cons_self ..)).1
            have := blk_lt (hV5.at (b := br) (C := Dump.zero.enc) (by simp)).1
            omega
        refine ⟨a', c', V7, hr7, HEN.out _ ⟨a', n + 1, c', hV7.put (fun q hq => by rw [List.mem_singleton] at hq; rw [hq]; exact HDQ.out.2), ?_, hown7⟩, kb7.1, kb7.2⟩
        rw [show (dmpP (dmpN L i) p).marks = (dmpN L i).marks ++ [mkR r] by rw [hd]]
        exact OutG.put hO7 HNE.out.2 (fun e => Nat.lt_irrefl _ (hown7 _ e).1) _
      have HS : Hid (∀ (a' : Option Addr) (n' c' : Nat), splice E 322 [.slice a' n' c'] = (dE (dmpP (dmpN L i) p) ⟨a', n', c'⟩ nilS).enc) := fun a' n' c' => by
        rw [HE.out, hd]
        exact Dump.marks_set _ ⟨a', n', c'⟩
      clear HEN HVD HO3 hk t1 hd HKO
      go_upto_region 17 with fail
      repeat go_step
      refine wp_region_F 7 (fun W' => blk W' bd = some E) (by kernel_rfl) k4 (fun hHeld => ?_)
      refine wpAnyF_take (i := 0) (oi := ⟨_, _, _, _, _, _⟩) (v := ?_) rfl (by kernel_rfl) (by kernel_rfl) (by kernel_rfl) (by kernel_rfl) (by kernel_rfl) (fun _ _ _ h => h) (Or.inl ⟨by rfl, ?_⟩) (by assumption) ?_
      rotate_left 1
      · intro W' hSw
        go_simp
        try with_reducible rfl
      try simp only [Act.put, List.setIfInBounds_toArray, List.set_cons_zero, List.set_cons_succ]
      refine wpAnyF_take (i := 1) (oi := ⟨_, _, _, _, _, _⟩) (v := ?_) rfl (by kernel_rfl) (by kernel_rfl) (by kernel_rfl) (by kernel_rfl) (by kernel_rfl) (fun _ _ _ h => h) (Or.inl ⟨by rfl, ?_⟩) (by assumption) ?_
      rotate_left 1
      · intro W' hSw
        go_simp
        try with_reducible rfl
      try simp only [Act.put, List.setIfInBounds_toArray, List.set_cons_zero, List.set_cons_succ]
      refine wpAnyF_take (i := 2) (oi := ⟨_, _, _, _, _, _⟩) (v := ?_) rfl (by kernel_rfl) (by kernel_rfl) (by kernel_rfl) (by kernel_rfl) (by kernel_rfl) (fun _ _ _ h => h) (Or.inl ⟨by rfl, ?_⟩) (by assumption) ?_
      rotate_left 1
      · intro W' hSw
        go_simp
        try with_reducible rfl
      try simp only [Act.put, List.setIfInBounds_toArray, List.set_cons_zero, List.set_cons_succ]
      refine wpAnyF_one (o := ⟨_, _, _, _, _, _⟩) (i := 3) (by kernel_rfl) rfl rfl (fun K' hK => ?_)
      go_simp
      refine (markOf_any _ r HRB.out).mono ?_
      rintro e9 V5 ⟨rfl, he5⟩
      dsimp only
      have k5 := (he5.blk (blk_lt k4)).trans k4
      have HX5 := hid_of he5
      clear he5
      obtain ⟨a', c', V7, hr7, HJ7, k7⟩ := HAP.out V5 HX5.out
      obtain ⟨V6, hV6⟩ : ∃ V6 : World, V6 = V5.alloc (.cells (mkR r).enc.toArray 112) := ⟨_, rfl⟩
      have k6 : blk V6 bd = some E := by rw [hV6, blk_alloc, if_neg (Nat.ne_of_lt (blk_lt k5))]; exact k5
      rw [← hV6] at hr7
      have HV6 := hid_of hV6
      clear hV6
      refine hK.out _ _ k5 (fun hHeld => ?_)
      clear hK K'
      try simp only [Act.put, List.setIfInBounds_toArray, List.set_cons_zero, List.set_cons_succ]
      refine wpAnyF_one (o := ⟨_, _, _, _, _, _⟩) (i := 4) (by kernel_rfl) rfl rfl (fun K' hK => ?_)
      go_simp
      rw [← HV6.out]
      refine hK.out _ _ k6 (fun hHeld => ?_)
      clear hK K'
      try simp only [Act.put, List.setIfInBounds_toArray, List.set_cons_zero, List.set_cons_succ]
      refine wpAnyF_one (o := ⟨_, _, _, _, _, _⟩) (i := 5) (by kernel_rfl) rfl rfl (fun K' hK => ?_)
      refine wp_append_run _ _ 94 rfl _ _ _ _ rfl rfl hr7 ?_
      refine hK.out _ _ k7.1 (fun hHeld => ?_)
      clear hK K'
      try simp only [Act.put, List.setIfInBounds_toArray, List.set_cons_zero, List.set_cons_succ]
      refine wpAnyF_take (i := 6) (oi := ⟨_, _, _, _, _, _⟩) (v := ?_) rfl (by kernel_rfl) (by kernel_rfl) (by kernel_rfl) (by kernel_rfl) (by kernel_rfl) (fun _ _ _ h => h) (Or.inl ⟨by rfl, ?_⟩) (by assumption) ?_
      rotate_left 1
      · intro W' hSw
        go_simp
        try with_reducible rfl
      try simp only [Act.put, List.setIfInBounds_toArray, List.set_cons_zero, List.set_cons_succ]
      refine wpAnyF_last (o := ⟨_, _, _, _, _, _⟩) (by kernel_rfl) rfl (fun K' hK => ?_)
      go_simp
      refine hK.out _ _ ?_
      clear hK K'
      try simp only [Act.put, List.setIfInBounds_toArray, List.set_cons_zero, List.set_cons_succ]
      refine wpAnyF_done (by kernel_rfl) ?_ _
      clear hHeld
      rw [HS.out]
      clear HS HAP
      go_wp2_with fail
      refine ⟨rfl, rfl, ⟨rfl, rfl, rfl, i + 1, rfl, HJ7⟩, ?_⟩
      show L.st.now.length - ((i : Int) + 1).toNat < L.st.now.length - (intOf (F 5)).toNat
      rw [H5.out]
      show L.st.now.length - (i + 1) < L.st.now.length - i
      have := HIN.out
      omega
    · have t1 : tbl p.key = 5 := by rw [hk]; exact tbl_C kc
      have tw : w64 tb = 5 := by unfold w64; rw [HRT.out.2, tblU_nat, t1]; rfl
      have HI1 : Hid (i + 1 ≤ L.st.now.length ∧ DuS W bd br (dmpN L (i + 1)) V4) := by
        have hd : dmpP (dmpN L i) p = dmpN L i := by
          unfold dmpP
          rw [if_neg (by rw [t1]; decide), if_neg (by rw [t1]; decide), if_neg (by rw [t1]; decide)]
        refine HEN.out _ ?_
        rw [hd]
        exact ⟨a, n, c, by rw [← HE.out]; exact HVD.out, HO3.out, HOWN.out⟩
      clear HEN HVD HO3 hk t1 HKO h1 h2
      go_wp2_with fail
      refine ⟨rfl, rfl, ⟨rfl, rfl, rfl, i + 1, rfl, HI1⟩, ?_⟩
      show L.st.now.length - ((i : Int) + 1).toNat < L.st.now.length - (intOf (F 5)).toNat
      rw [H5.out]
      show L.st.now.length - (i + 1) < L.st.now.length - i
      have := HIN.out
      omega
end Go.Proofs.Qxb6500786aGreat
