import Derived.Test.Qxb6500786aGreatWd

import Derived.StillTailTactics
import Derived.Deep.QuietTactic
import Derived.BigQuiet
import Derived.Deep.RegionHeld
import Derived.Deep.CutRange
import Derived.Laws.ResultCell
import Derived.Laws.Rows
import Derived.DeepKeys
import Derived.DataBytes
import Derived.Laws.StructEq
import Derived.Laws.AppendOwn
import Derived.Laws.MakeOwn
import Derived.Lib.AppendStr
set_option linter.unusedSimpArgs false
set_option linter.unusedVariables false
namespace Go.Proofs.Qxb6500786aGreat
open Go.RowKit Go.Blk
attribute [local go_sem ↓] execOp_load execOp_store execOp_alloc
attribute [local go_sem] Tryz.ld24 Tryz.st24 Tryz.ld36 Tryz.st36 Tryz.ld28 Tryz.st28 Tryz.ld32 Tryz.st32 Tryz.ld33 Tryz.st33 Tryz.ld34 Tryz.st34 Tryz.ld5 Tryz.st5 Tryz.ld31 Tryz.st31 Tryz.ld30 Tryz.st30 Tryz.ld41 Tryz.st41 Tryz.ld44 Tryz.st44 Tryz.ld4 Tryz.st4 Tryz.ld173 Tryz.st173 Tryz.ld174 Tryz.st174 Tryz.ld95 Tryz.st95 Tryz.ld45 Tryz.st45 Tryz.ld207 Tryz.st207 Tryz.ld3 Tryz.st3 Tryz.ld189 Tryz.st189 Tryz.ld2 Tryz.st2 Tryz.ld9 Tryz.st9 Tryz.ld12 Tryz.st12 Tryz.ld21 Tryz.st21 Tryz.ld22 Tryz.st22 Tryz.ld46 Tryz.st46 Tryz.ld92 Tryz.st92 Tryz.ld94 Tryz.st94 Tryz.ld96 Tryz.st96 Tryz.ld97 Tryz.st97 Tryz.ld105 Tryz.st105 Tryz.ld117 Tryz.st117 Tryz.ld122 Tryz.st122 Tryz.ld123 Tryz.st123 Tryz.ld133 Tryz.st133 Tryz.ld155 Tryz.st155 Tryz.ld163 Tryz.st163 Tryz.ld190 Tryz.st190 Tryz.ld197 Tryz.st197 Tryz.ld201 Tryz.st201 Tryz.ld202 Tryz.st202 Tryz.ld209 Tryz.st209 Tryz.ld216 Tryz.st216 Tryz.ld230 Tryz.st230 Tryz.ld238 Tryz.st238 Tryz.ld242 Tryz.st242 Tryz.ld251 Tryz.st251 Tryz.ld260 Tryz.st260 Tryz.ld286 Tryz.st286 Tryz.ld292 Tryz.st292 Tryz.ld298 Tryz.st298 Tryz.ld309 Tryz.st309 Tryz.ld35 Tryz.st35 Tryz.ld48 Tryz.st48 Tryz.ld47 Tryz.st47 Tryz.ld79 Tryz.st79 Tryz.ld177 Tryz.st177 Tryz.ld180 Tryz.st180 Tryz.ld231 Tryz.st231 Tryz.ld232 Tryz.st232 Tryz.ld26 Tryz.st26 Tryz.ld38 Tryz.st38 Tryz.ld40 Tryz.st40 Tryz.ld43 Tryz.st43 Tryz.ld50 Tryz.st50 Tryz.ld52 Tryz.st52 Tryz.ld54 Tryz.st54 Tryz.ld81 Tryz.st81 Tryz.ld112 Tryz.st112 Tryz.ld120 Tryz.st120 Tryz.ld176 Tryz.st176 Tryz.ld179 Tryz.st179 Tryz.ld182 Tryz.st182 Tryz.ld184 Tryz.st184 Tryz.ld234 Tryz.st234 Tryz.ld236 Tryz.st236 Tryz.ld240 Tryz.st240 Tryz.ld246 Tryz.st246 Tryz.ld249 Tryz.st249 Tryz.al35 Tryz.al48 Tryz.al47 Tryz.al79 Tryz.al177 Tryz.al180 Tryz.al231 Tryz.al232 Tryz.al26 Tryz.al38 Tryz.al40 Tryz.al43 Tryz.al50 Tryz.al52 Tryz.al54 Tryz.al81 Tryz.al112 Tryz.al120 Tryz.al176 Tryz.al179 Tryz.al182 Tryz.al184 Tryz.al234 Tryz.al236 Tryz.al240 Tryz.al246 Tryz.al249
attribute [local go_sem] Player.length_enc Player.ok_enc Player.all_get Player.all_set Player.hand_get Player.hand_set Player.aside_get Player.aside_set Message.length_enc Message.ok_enc Message.all_get Message.all_set Message.kind_get Message.kind_set Message.from__get Message.from__set Message.to__get Message.to__set Message.sender_get Message.sender_set Message.receiver_get Message.receiver_set Message.seq_get Message.seq_set Message.token_get Message.token_set Message.amount_get Message.amount_set Message.size_get Message.size_set Message.payload_get Message.payload_set Tx.length_enc Tx.ok_enc Tx.all_get Tx.all_set Tx.kind_get Tx.kind_set Tx.chain_get Tx.chain_set Tx.from__get Tx.from__set Tx.nonce_get Tx.nonce_set Tx.fee_get Tx.fee_set Tx.to__get Tx.to__set Tx.dest_get Tx.dest_set Tx.token_get Tx.token_set Tx.amount_get Tx.amount_set Tx.size_get Tx.size_set Tx.payload_get Tx.payload_set Tx.msg_get Tx.msg_set Tx.msg_kind_get Tx.msg_kind_set Tx.msg_from__get Tx.msg_from__set Tx.msg_to__get Tx.msg_to__set Tx.msg_sender_get Tx.msg_sender_set Tx.msg_receiver_get Tx.msg_receiver_set Tx.msg_seq_get Tx.msg_seq_set Tx.msg_token_get Tx.msg_token_set Tx.msg_amount_get Tx.msg_amount_set Tx.msg_size_get Tx.msg_size_set Tx.msg_payload_get Tx.msg_payload_set GOp.length_enc GOp.ok_enc GOp.all_get GOp.all_set GOp.kind_get GOp.kind_set GOp.tx_get GOp.tx_set GOp.txs_get GOp.txs_set GOp.gas_get GOp.gas_set GOp.acct_get GOp.acct_set GOp.token_get GOp.token_set GOp.chain_get GOp.chain_set GOp.seq_get GOp.seq_set GOp.tx_kind_get GOp.tx_kind_set GOp.tx_chain_get GOp.tx_chain_set GOp.tx_from__get GOp.tx_from__set GOp.tx_nonce_get GOp.tx_nonce_set GOp.tx_fee_get GOp.tx_fee_set GOp.tx_to__get GOp.tx_to__set GOp.tx_dest_get GOp.tx_dest_set GOp.tx_token_get GOp.tx_token_set GOp.tx_amount_get GOp.tx_amount_set GOp.tx_size_get GOp.tx_size_set GOp.tx_payload_get GOp.tx_payload_set GOp.tx_msg_get GOp.tx_msg_set GOp.tx_msg_kind_get GOp.tx_msg_kind_set GOp.tx_msg_from__get GOp.tx_msg_from__set GOp.tx_msg_to__get GOp.tx_msg_to__set GOp.tx_msg_sender_get GOp.tx_msg_sender_set GOp.tx_msg_receiver_get GOp.tx_msg_receiver_set GOp.tx_msg_seq_get GOp.tx_msg_seq_set GOp.tx_msg_token_get GOp.tx_msg_token_set GOp.tx_msg_amount_get GOp.tx_msg_amount_set GOp.tx_msg_size_get GOp.tx_msg_size_set GOp.tx_msg_payload_get GOp.tx_msg_payload_set Summary.length_enc Summary.ok_enc Summary.all_get Summary.all_set Summary.height_get Summary.height_set Summary.txs_get Summary.txs_set Summary.gas_get Summary.gas_set Summary.fees_get Summary.fees_set Summary.sent_get Summary.sent_set Summary.took_get Summary.took_set Summary.minted_get Summary.minted_set Summary.burned_get Summary.burned_set Summary.root_get Summary.root_set Detail.length_enc Detail.ok_enc Detail.all_get Detail.all_set Detail.code_get Detail.code_set Detail.have__get Detail.have__set Detail.need_get Detail.need_set Slot.length_enc Slot.ok_enc Slot.all_get Slot.all_set Slot.nonce_get Slot.nonce_set Slot.balances_get Slot.balances_set Tree.length_enc Tree.ok_enc Tree.all_get Tree.all_set Tree.leaves_get Tree.leaves_set Mark.length_enc Mark.ok_enc Mark.all_get Mark.all_set Mark.from__get Mark.from__set Mark.seq_get Mark.seq_set Receipt.length_enc Receipt.ok_enc Receipt.all_get Receipt.all_set Receipt.code_get Receipt.code_set Receipt.hash_get Receipt.hash_set Receipt.index_get Receipt.index_set Receipt.gas_get Receipt.gas_set Receipt.fee_get Receipt.fee_set Receipt.hasSent_get Receipt.hasSent_set Receipt.sent_get Receipt.sent_set Receipt.hasTook_get Receipt.hasTook_set Receipt.took_get Receipt.took_set Receipt.sent_kind_get Receipt.sent_kind_set Receipt.sent_from__get Receipt.sent_from__set Receipt.sent_to__get Receipt.sent_to__set Receipt.sent_sender_get Receipt.sent_sender_set Receipt.sent_receiver_get Receipt.sent_receiver_set Receipt.sent_seq_get Receipt.sent_seq_set Receipt.sent_token_get Receipt.sent_token_set Receipt.sent_amount_get Receipt.sent_amount_set Receipt.sent_size_get Receipt.sent_size_set Receipt.sent_payload_get Receipt.sent_payload_set Receipt.took_kind_get Receipt.took_kind_set Receipt.took_from__get Receipt.took_from__set Receipt.took_to__get Receipt.took_to__set Receipt.took_sender_get Receipt.took_sender_set Receipt.took_receiver_get Receipt.took_receiver_set Receipt.took_seq_get Receipt.took_seq_set Receipt.took_token_get Receipt.took_token_set Receipt.took_amount_get Receipt.took_amount_set Receipt.took_size_get Receipt.took_size_set Receipt.took_payload_get Receipt.took_payload_set Store.length_enc Store.ok_enc Store.all_get Store.all_set Store.now_get Store.now_set Store.saved_get Store.saved_set GState.length_enc GState.ok_enc GState.all_get GState.all_set GState.kv_get GState.kv_set GState.tree_get GState.tree_set GState.stale_get GState.stale_set GState.touched_get GState.touched_set GState.kv_now_get GState.kv_now_set GState.kv_saved_get GState.kv_saved_set GState.tree_leaves_get GState.tree_leaves_set History.length_enc History.ok_enc History.all_get History.all_set History.ring_get History.ring_set History.closed_get History.closed_set Ledger.length_enc Ledger.ok_enc Ledger.all_get Ledger.all_set Ledger.chain_get Ledger.chain_set Ledger.st_get Ledger.st_set Ledger.height_get Ledger.height_set Ledger.open__get Ledger.open__set Ledger.gasLimit_get Ledger.gasLimit_set Ledger.past_get Ledger.past_set Ledger.begun_get Ledger.begun_set Ledger.sent_get Ledger.sent_set Ledger.took_get Ledger.took_set Ledger.receipts_get Ledger.receipts_set Ledger.st_kv_get Ledger.st_kv_set Ledger.st_tree_get Ledger.st_tree_set Ledger.st_stale_get Ledger.st_stale_set Ledger.st_touched_get Ledger.st_touched_set Ledger.st_kv_now_get Ledger.st_kv_now_set Ledger.st_kv_saved_get Ledger.st_kv_saved_set Ledger.st_tree_leaves_get Ledger.st_tree_leaves_set Ledger.past_ring_get Ledger.past_ring_set Ledger.past_closed_get Ledger.past_closed_set Ledger.begun_kv_get Ledger.begun_kv_set Ledger.begun_tree_get Ledger.begun_tree_set Ledger.begun_stale_get Ledger.begun_stale_set Ledger.begun_touched_get Ledger.begun_touched_set Ledger.begun_kv_now_get Ledger.begun_kv_now_set Ledger.begun_kv_saved_get Ledger.begun_kv_saved_set Ledger.begun_tree_leaves_get Ledger.begun_tree_leaves_set Purse.length_enc Purse.ok_enc Purse.all_get Purse.all_set Purse.st_get Purse.st_set Purse.n_get Purse.n_set Purse.account_get Purse.account_set Purse.token_get Purse.token_set Purse.amount_get Purse.amount_set Plan.length_enc Plan.ok_enc Plan.all_get Plan.all_set Plan.purse_get Plan.purse_set Plan.nonce_get Plan.nonce_set Plan.gasUsed_get Plan.gasUsed_set Plan.fees_get Plan.fees_set Plan.hasSupply_get Plan.hasSupply_set Plan.token_get Plan.token_set Plan.supply_get Plan.supply_set Plan.flowAt_get Plan.flowAt_set Plan.flow_get Plan.flow_set Plan.receipt_get Plan.receipt_set Plan.purse_st_get Plan.purse_st_set Plan.purse_n_get Plan.purse_n_set Plan.purse_account_get Plan.purse_account_set Plan.purse_token_get Plan.purse_token_set Plan.purse_amount_get Plan.purse_amount_set Plan.receipt_code_get Plan.receipt_code_set Plan.receipt_hash_get Plan.receipt_hash_set Plan.receipt_index_get Plan.receipt_index_set Plan.receipt_gas_get Plan.receipt_gas_set Plan.receipt_fee_get Plan.receipt_fee_set Plan.receipt_hasSent_get Plan.receipt_hasSent_set Plan.receipt_sent_get Plan.receipt_sent_set Plan.receipt_hasTook_get Plan.receipt_hasTook_set Plan.receipt_took_get Plan.receipt_took_set Plan.receipt_sent_kind_get Plan.receipt_sent_kind_set Plan.receipt_sent_from__get Plan.receipt_sent_from__set Plan.receipt_sent_to__get Plan.receipt_sent_to__set Plan.receipt_sent_sender_get Plan.receipt_sent_sender_set Plan.receipt_sent_receiver_get Plan.receipt_sent_receiver_set Plan.receipt_sent_seq_get Plan.receipt_sent_seq_set Plan.receipt_sent_token_get Plan.receipt_sent_token_set Plan.receipt_sent_amount_get Plan.receipt_sent_amount_set Plan.receipt_sent_size_get Plan.receipt_sent_size_set Plan.receipt_sent_payload_get Plan.receipt_sent_payload_set Plan.receipt_took_kind_get Plan.receipt_took_kind_set Plan.receipt_took_from__get Plan.receipt_took_from__set Plan.receipt_took_to__get Plan.receipt_took_to__set Plan.receipt_took_sender_get Plan.receipt_took_sender_set Plan.receipt_took_receiver_get Plan.receipt_took_receiver_set Plan.receipt_took_seq_get Plan.receipt_took_seq_set Plan.receipt_took_token_get Plan.receipt_took_token_set Plan.receipt_took_amount_get Plan.receipt_took_amount_set Plan.receipt_took_size_get Plan.receipt_took_size_set Plan.receipt_took_payload_get Plan.receipt_took_payload_set Move.length_enc Move.ok_enc Move.all_get Move.all_set Move.account_get Move.account_set Move.token_get Move.token_set Move.down_get Move.down_set Move.amount_get Move.amount_set Books.length_enc Books.ok_enc Books.all_get Books.all_set Books.sums_get Books.sums_set Books.stored_get Books.stored_set Books.marks_get Books.marks_set Pair.length_enc Pair.ok_enc Pair.all_get Pair.all_set Pair.key_get Pair.key_set Pair.value_get Pair.value_set
attribute [local go_sem] size_put size_ext blk_put free_put blk_alloc free_alloc blk_drew free_drew blk_ext free_ext lookOr_some putOr_some segAt_some cellAt_some storeIn_some put_put put_alloc_new length_arr ok_arr_u8 ok_arr_u32 ok_arr_u64 ok_arr_i64 ok_arr_sl cellsV_agg cellsV_int cellsV_bool cellsV_string cellsV_pointer cellsV_slice cellsV_sl ok_int ok_bool ok_string ok_pointer ok_slice ok_sl toList_arr seg_arr set_arr nth_splice nth_splice0 seg_splice seg_splice0 splice_splice splice_splice0 length_splice_if
attribute [local go_sem ↓] execOp_box
attribute [local go_sem] box_run nth_arr_u8 put_arr_u8 blk_drewN free_drewN put_drewN blk_raw free_raw
attribute [local go_sem] kn_or ks_or kb_or1 kb_or2 km_or1 x64_wrap x64_w8 x64_add x64_sub
set_option maxRecDepth 20000 in
theorem keyNonce_any (W : World) (a : UInt8) : Calls Tryz.prog 191 #[.int .u8 (w8 a)] W fun e V => e = .returned (.int .u64 (w64 (keyN a))) ∧ V = W := by
  go_enter Tryz.func191, Tryz.ntmps191
  go_wp2_with fail
  try (first | go_ret | go_ret2)
  first | exact ⟨rfl, rfl⟩ | trivial
theorem keyBalance_any (W : World) (a t : UInt8) : Calls Tryz.prog 192 #[.int .u8 (w8 a), .int .u8 (w8 t)] W fun e V => e = .returned (.int .u64 (w64 (keyB a t))) ∧ V = W := by
  go_enter Tryz.func192, Tryz.ntmps192
  go_wp2_with fail
  try (first | go_ret | go_ret2)
  first | exact ⟨rfl, rfl⟩ | trivial
theorem keySupply_any (W : World) (t : UInt8) : Calls Tryz.prog 193 #[.int .u8 (w8 t)] W fun e V => e = .returned (.int .u64 (w64 (keyS t))) ∧ V = W := by
  go_enter Tryz.func193, Tryz.ntmps193
  go_wp2_with fail
  try (first | go_ret | go_ret2)
  first | exact ⟨rfl, rfl⟩ | trivial
theorem keyCounter_any (W : World) (c : UInt64) (hc : c.toNat < 72057594037927936) : Calls Tryz.prog 194 #[.int .u64 (w64 c)] W fun e V => e = .returned (.int .u64 (w64 (keyC c))) ∧ V = W := by
  have hk := kc_or c hc
  go_enter Tryz.func194, Tryz.ntmps194
  go_wp2_with fail
  try (first | go_ret | go_ret2)
  first | exact ⟨rfl, rfl⟩ | trivial
theorem keyMark_any (W : World) (f : UInt8) (s : UInt64) (hs : s.toNat < 281474976710656) : Calls Tryz.prog 206 #[.int .u8 (w8 f), .int .u64 (w64 s)] W fun e V => e = .returned (.int .u64 (w64 (keyM f s))) ∧ V = W := by
  have hk := km_or2 f s hs
  go_enter Tryz.func206, Tryz.ntmps206
  go_wp2_with fail
  try (first | go_ret | go_ret2)
  first | exact ⟨rfl, rfl⟩ | trivial
/-- Checked arithmetic. -/
def addO (a b : UInt64) : Option UInt64 := if a.toNat + b.toNat ≤ 9223372036854775807 then some (a + b) else none
def subO (a b : UInt64) : Option UInt64 := if a.toNat ≤ 9223372036854775807 ∧ b.toNat ≤ a.toNat then some (a - b) else none
def optV (x : Option UInt64) : Value := .tuple #[.int .u64 (w64 (x.getD 0)), .bool x.isSome]
theorem optV_none : optV none = .tuple #[.int .u64 0, .bool false] := rfl
theorem optV_some (x : UInt64) : optV (some x) = .tuple #[.int .u64 (w64 x), .bool true] := rfl
theorem add_any (W : World) (a b : UInt64) : Calls Tryz.prog 112 #[.int .u64 (w64 a), .int .u64 (w64 b)] W fun e V => e = .returned (optV (addO a b)) ∧ V = W := by
  have ba := w64_lt a
  have bb := w64_lt b
  have hs : (a + b).toNat = (a.toNat + b.toNat) % 18446744073709551616 := UInt64.toNat_add a b
  by_cases h1 : 9223372036854775807 < a.toNat
  · have h2 : (9223372036854775807 : Int) < w64 a := by unfold w64; omega
    rw [show addO a b = none from if_neg (by omega), optV_none]
    clear hs ba bb h1
    go_enter Tryz.func112, Tryz.ntmps112
    go_wp2_with fail
    try (first | go_ret | go_ret2)
    first | exact ⟨rfl, rfl⟩ | trivial
  have h2 : ¬ (9223372036854775807 : Int) < w64 a := by unfold w64; omega
  by_cases h3 : 9223372036854775807 < b.toNat
  · have h4 : (9223372036854775807 : Int) < w64 b := by unfold w64; omega
    rw [show addO a b = none from if_neg (by omega), optV_none]
    clear hs ba bb h1 h3
    go_enter Tryz.func112, Tryz.ntmps112
    go_wp2_with fail
    try (first | go_ret | go_ret2)
    first | exact ⟨rfl, rfl⟩ | trivial
  have h4 : ¬ (9223372036854775807 : Int) < w64 b := by unfold w64; omega
  by_cases h5 : 9223372036854775807 < a.toNat + b.toNat
  · have h6 : (9223372036854775807 : Int) < w64 (a + b) := by unfold w64; omega
    rw [show addO a b = none from if_neg (by omega), optV_none]
    clear hs ba bb h1 h3 h5
    go_enter Tryz.func112, Tryz.ntmps112
    go_wp2_with fail
    try (first | go_ret | go_ret2)
    first | exact ⟨rfl, rfl⟩ | trivial
  · have h6 : ¬ (9223372036854775807 : Int) < w64 (a + b) := by unfold w64; omega
    rw [show addO a b = some (a + b) from if_pos (by omega), optV_some]
    clear hs ba bb h1 h3 h5
    go_enter Tryz.func112, Tryz.ntmps112
    go_wp2_with fail
    try (first | go_ret | go_ret2)
    first | exact ⟨rfl, rfl⟩ | trivial
theorem sub_any (W : World) (a b : UInt64) : Calls Tryz.prog 196 #[.int .u64 (w64 a), .int .u64 (w64 b)] W fun e V => e = .returned (optV (subO a b)) ∧ V = W := by
  by_cases h1 : 9223372036854775807 < a.toNat
  · have h2 : (9223372036854775807 : Int) < w64 a := by unfold w64; omega
    rw [show subO a b = none from if_neg (by omega), optV_none]
    clear h1
    go_enter Tryz.func196, Tryz.ntmps196
    go_wp2_with fail
    try (first | go_ret | go_ret2)
    first | exact ⟨rfl, rfl⟩ | trivial
  have h2 : ¬ (9223372036854775807 : Int) < w64 a := by unfold w64; omega
  by_cases h3 : a.toNat < b.toNat
  · have h4 : w64 a < w64 b := by unfold w64; omega
    rw [show subO a b = none from if_neg (by omega), optV_none]
    clear h1 h3
    go_enter Tryz.func196, Tryz.ntmps196
    go_wp2_with fail
    try (first | go_ret | go_ret2)
    first | exact ⟨rfl, rfl⟩ | trivial
  · have h4 : ¬ w64 a < w64 b := by unfold w64; omega
    rw [show subO a b = some (a - b) from if_pos (by omega), optV_some]
    clear h1 h3
    go_enter Tryz.func196, Tryz.ntmps196
    go_wp2_with fail
    try (first | go_ret | go_ret2)
    first | exact ⟨rfl, rfl⟩ | trivial
/-- The store read plainly. -/
def getO : List Pair → UInt64 → Option UInt64
  | [], _ => none
  | p :: r, k => if p.key = k then some p.value else getO r k
def ldF (l : List Pair) (k : UInt64) : UInt64 := (getO l k).getD 0
/-- A store that can be read: its header at block b, place o. -/
def KvRd (V : World) (b o : Nat) (now : List Pair) : Prop := ∃ C a n c, blk V b = some C ∧ nth C o = some (.slice a n c) ∧ Rw Pair.enc 2 V a n now ∧ n ≤ 1000000000000
theorem KvRd.ext {V V' : World} {b o : Nat} {now : List Pair} (h : KvRd V b o now) (he : V.Extends V') : KvRd V' b o now := by
  obtain ⟨C, a, n, c, h1, h2, h3, h4⟩ := h
  exact ⟨C, a, n, c, (he.blk (blk_lt h1)).trans h1, h2, h3.grow he, h4⟩
def kvI (V0 : World) (a : Option Addr) (n c : Nat) (now : List Pair) (k : UInt64) (F : Nat → Value) (V : World) : Prop := F 1 = .int .u64 (w64 k) ∧ F 11 = .slice a n c ∧ F 12 = .int .i64 (n : Nat) ∧ ∃ i : Nat, i ≤ n ∧ F 13 = .int .i64 (i : Nat) ∧ Hid (V0.Extends V ∧ getO now k = getO (now.drop i) k)
set_option maxRecDepth 100000 in
theorem frame24 (f : Nat → Value) : frameN 24 f = #[f 0, f 1, f 2, f 3, f 4, f 5, f 6, f 7, f 8, f 9, f 10, f 11, f 12, f 13, f 14, f 15, f 16, f 17, f 18, f 19, f 20, f 21, f 22, f 23] := by kernel_rfl
set_option maxRecDepth 20000 in
set_option maxHeartbeats 1000000 in
theorem get_any (W : World) (b o : Nat) (now : List Pair) (hr : KvRd W b o now) (k : UInt64) : Calls Tryz.prog 201 #[.pointer (some ⟨b, o, none⟩), .int .u64 (w64 k)] W fun e V => e = .returned (optV (getO now k)) ∧ W.Extends V := by
  obtain ⟨C, a, n, c, hb, hn, hR, hm⟩ := hr
  have HR := hid_of hR
  have HL := hid_of hR.1
  clear hR
  obtain ⟨Q, hQ⟩ : ∃ Q : Ending → World → Prop, Q = fun e V => e = .returned (optV (getO now k)) ∧ W.Extends V := ⟨_, rfl⟩
  rw [← hQ]
  have HQ := hid_of hQ
  clear hQ
  go_enter Tryz.func201, Tryz.ntmps201
  go_wp2_with fail
  refine wp_loop_f 24 (kvI W a n c now k) (fun f _ => n - (intOf (f 13)).toNat) rfl ⟨rfl, rfl, rfl, 0, by omega, rfl, ⟨ext_Ext (Ext.refl W), rfl⟩⟩ ?_
  clear hb hn
  intro F V hrel
  obtain ⟨f1, f11, f12, i, hi, f13, HI⟩ := hrel
  have H13 := hid_of f13
  rw [frame24, f1, f11, f12, f13]
  clear f1 f11 f12 f13
  by_cases hin : i < n
  rotate_left 1
  · obtain rfl : i = n := by omega
    have hin' : ¬ (i : Int) < (i : Int) := by omega
    have HP : Hid (Q (.returned (.tuple #[.int .u64 0, .bool false])) V) := by
      show Q _ _
      rw [HQ.out]
      have h9 := HI.out.2
      rw [List.drop_of_length_le (by rw [HL.out]; omega)] at h9
      exact ⟨by rw [h9]; rfl, HI.out.1⟩
    clear HI
    go_wp2_with fail
    try (first | go_ret | go_ret2)
    exact HP.out
  have hin' : (i : Int) < (n : Int) := by omega
  have p0 : (0 : Int) ≤ (i : Int) := by omega
  have p2 : ((i : Int)).toNat = i := by omega
  obtain ⟨x, b1, C1, hx, rfl, h1, h2, h3⟩ := (HR.out.grow HI.out.1).at hin
  have hlt1 := blk_lt h1
  have hne : ¬ b1 = V.heap.size := by omega
  have hsl : i * 2 + 2 ≤ C1.length := by omega
  have HX := hid_of hx
  have HD : Hid (getO now k = if x.key = k then some x.value else getO (now.drop (i + 1)) k) := by
    show _ = _
    have h9 := HI.out.2
    have hd : now.drop i = x :: now.drop (i + 1) := by
      have hil : i < now.length := (List.getElem?_eq_some_iff.1 hx).1
      rw [List.drop_eq_getElem_cons hil]
      rw [List.getElem?_eq_getElem hil] at hx
      rw [Option.some.inj hx]
    rw [hd] at h9
    exact h9
  clear hx
  by_cases hk : x.key = k
  · have hk2 : (w64 x.key = w64 k) := by rw [hk]
    have HP : ∀ V', V.Extends V' → Hid (Q (.returned (.tuple #[.int .u64 (w64 x.value), .bool true])) V') := fun V' he => by
      show Q _ _
      rw [HQ.out]
      have h9 := HD.out
      rw [if_pos hk] at h9
      exact ⟨by rw [h9]; rfl, HI.out.1.trans he⟩
    have HV := hid_of HP
    clear HI HD hk HP
    go_wp2_with fail
    try (first | go_ret | go_ret2)
    refine (HV.out _ ?_).out
    repeat (first | exact ext_Ext (Ext.refl _) | refine extends_drewN ?_ _ | refine extends_drew ?_ | refine extends_alloc ?_ _ | refine extends_put ?_ (Nat.le_refl _) _)
  · have hk2 : ¬ (w64 x.key = w64 k) := by rw [w64_eq]; exact hk
    have HJ : ∀ V', V.Extends V' → Hid (W.Extends V' ∧ getO now k = getO (now.drop (i + 1)) k) := fun V' he => by
      have h9 := HD.out
      rw [if_neg hk] at h9
      exact ⟨HI.out.1.trans he, h9⟩
    have HV := hid_of HJ
    clear HI HD hk HJ
    go_wp2_with fail
    refine ⟨rfl, rfl, ⟨rfl, rfl, rfl, i + 1, by omega, ?_, HV.out _ ?_⟩, ?_⟩
    · show Value.int .i64 _ = _
      go_num
    · repeat (first | exact ext_Ext (Ext.refl _) | refine extends_drewN ?_ _ | refine extends_drew ?_ | refine extends_alloc ?_ _ | refine extends_put ?_ (Nat.le_refl _) _)
    · show n - (intOf (Value.int .i64 _)).toNat < n - (intOf (F 13)).toNat
      rw [H13.out]
      simp [intOf]; omega
end Go.Proofs.Qxb6500786aGreat
