import Derived.DeepKeys2
import Derived.Test.Qxb6500786aGreatZc

import Derived.StillTailTactics
import Derived.Deep.QuietTactic
import Derived.BigQuiet
import Derived.Deep.RegionHeld
import Derived.Deep.CutRange
import Derived.Laws.ResultCell
import Derived.Laws.Rows
import Derived.DeepKeys
import Derived.DataBytes
import Derived.Laws.StructEq
import Derived.Laws.AppendOwn
import Derived.Laws.MakeOwn
import Derived.Lib.AppendStr
set_option linter.unusedSimpArgs false
set_option linter.unusedVariables false
namespace Go.Proofs.Qxb6500786aGreat
open Go.RowKit Go.Blk
attribute [local go_sem ↓] execOp_load execOp_store execOp_alloc
attribute [local go_sem] Tryz.ld24 Tryz.st24 Tryz.ld36 Tryz.st36 Tryz.ld28 Tryz.st28 Tryz.ld32 Tryz.st32 Tryz.ld33 Tryz.st33 Tryz.ld34 Tryz.st34 Tryz.ld5 Tryz.st5 Tryz.ld31 Tryz.st31 Tryz.ld30 Tryz.st30 Tryz.ld41 Tryz.st41 Tryz.ld44 Tryz.st44 Tryz.ld4 Tryz.st4 Tryz.ld173 Tryz.st173 Tryz.ld174 Tryz.st174 Tryz.ld95 Tryz.st95 Tryz.ld45 Tryz.st45 Tryz.ld207 Tryz.st207 Tryz.ld3 Tryz.st3 Tryz.ld189 Tryz.st189 Tryz.ld2 Tryz.st2 Tryz.ld9 Tryz.st9 Tryz.ld12 Tryz.st12 Tryz.ld21 Tryz.st21 Tryz.ld22 Tryz.st22 Tryz.ld46 Tryz.st46 Tryz.ld92 Tryz.st92 Tryz.ld94 Tryz.st94 Tryz.ld96 Tryz.st96 Tryz.ld97 Tryz.st97 Tryz.ld105 Tryz.st105 Tryz.ld117 Tryz.st117 Tryz.ld122 Tryz.st122 Tryz.ld123 Tryz.st123 Tryz.ld133 Tryz.st133 Tryz.ld155 Tryz.st155 Tryz.ld163 Tryz.st163 Tryz.ld190 Tryz.st190 Tryz.ld197 Tryz.st197 Tryz.ld201 Tryz.st201 Tryz.ld202 Tryz.st202 Tryz.ld209 Tryz.st209 Tryz.ld216 Tryz.st216 Tryz.ld230 Tryz.st230 Tryz.ld238 Tryz.st238 Tryz.ld242 Tryz.st242 Tryz.ld251 Tryz.st251 Tryz.ld260 Tryz.st260 Tryz.ld286 Tryz.st286 Tryz.ld292 Tryz.st292 Tryz.ld298 Tryz.st298 Tryz.ld309 Tryz.st309 Tryz.ld35 Tryz.st35 Tryz.ld48 Tryz.st48 Tryz.ld47 Tryz.st47 Tryz.ld79 Tryz.st79 Tryz.ld177 Tryz.st177 Tryz.ld180 Tryz.st180 Tryz.ld231 Tryz.st231 Tryz.ld232 Tryz.st232 Tryz.ld26 Tryz.st26 Tryz.ld38 Tryz.st38 Tryz.ld40 Tryz.st40 Tryz.ld43 Tryz.st43 Tryz.ld50 Tryz.st50 Tryz.ld52 Tryz.st52 Tryz.ld54 Tryz.st54 Tryz.ld81 Tryz.st81 Tryz.ld112 Tryz.st112 Tryz.ld120 Tryz.st120 Tryz.ld176 Tryz.st176 Tryz.ld179 Tryz.st179 Tryz.ld182 Tryz.st182 Tryz.ld184 Tryz.st184 Tryz.ld234 Tryz.st234 Tryz.ld236 Tryz.st236 Tryz.ld240 Tryz.st240 Tryz.ld246 Tryz.st246 Tryz.ld249 Tryz.st249 Tryz.al35 Tryz.al48 Tryz.al47 Tryz.al79 Tryz.al177 Tryz.al180 Tryz.al231 Tryz.al232 Tryz.al26 Tryz.al38 Tryz.al40 Tryz.al43 Tryz.al50 Tryz.al52 Tryz.al54 Tryz.al81 Tryz.al112 Tryz.al120 Tryz.al176 Tryz.al179 Tryz.al182 Tryz.al184 Tryz.al234 Tryz.al236 Tryz.al240 Tryz.al246 Tryz.al249
attribute [local go_sem] Player.length_enc Player.ok_enc Player.all_get Player.all_set Player.hand_get Player.hand_set Player.aside_get Player.aside_set Message.length_enc Message.ok_enc Message.all_get Message.all_set Message.kind_get Message.kind_set Message.from__get Message.from__set Message.to__get Message.to__set Message.sender_get Message.sender_set Message.receiver_get Message.receiver_set Message.seq_get Message.seq_set Message.token_get Message.token_set Message.amount_get Message.amount_set Message.size_get Message.size_set Message.payload_get Message.payload_set Tx.length_enc Tx.ok_enc Tx.all_get Tx.all_set Tx.kind_get Tx.kind_set Tx.chain_get Tx.chain_set Tx.from__get Tx.from__set Tx.nonce_get Tx.nonce_set Tx.fee_get Tx.fee_set Tx.to__get Tx.to__set Tx.dest_get Tx.dest_set Tx.token_get Tx.token_set Tx.amount_get Tx.amount_set Tx.size_get Tx.size_set Tx.payload_get Tx.payload_set Tx.msg_get Tx.msg_set Tx.msg_kind_get Tx.msg_kind_set Tx.msg_from__get Tx.msg_from__set Tx.msg_to__get Tx.msg_to__set Tx.msg_sender_get Tx.msg_sender_set Tx.msg_receiver_get Tx.msg_receiver_set Tx.msg_seq_get Tx.msg_seq_set Tx.msg_token_get Tx.msg_token_set Tx.msg_amount_get Tx.msg_amount_set Tx.msg_size_get Tx.msg_size_set Tx.msg_payload_get Tx.msg_payload_set GOp.length_enc GOp.ok_enc GOp.all_get GOp.all_set GOp.kind_get GOp.kind_set GOp.tx_get GOp.tx_set GOp.txs_get GOp.txs_set GOp.gas_get GOp.gas_set GOp.acct_get GOp.acct_set GOp.token_get GOp.token_set GOp.chain_get GOp.chain_set GOp.seq_get GOp.seq_set GOp.tx_kind_get GOp.tx_kind_set GOp.tx_chain_get GOp.tx_chain_set GOp.tx_from__get GOp.tx_from__set GOp.tx_nonce_get GOp.tx_nonce_set GOp.tx_fee_get GOp.tx_fee_set GOp.tx_to__get GOp.tx_to__set GOp.tx_dest_get GOp.tx_dest_set GOp.tx_token_get GOp.tx_token_set GOp.tx_amount_get GOp.tx_amount_set GOp.tx_size_get GOp.tx_size_set GOp.tx_payload_get GOp.tx_payload_set GOp.tx_msg_get GOp.tx_msg_set GOp.tx_msg_kind_get GOp.tx_msg_kind_set GOp.tx_msg_from__get GOp.tx_msg_from__set GOp.tx_msg_to__get GOp.tx_msg_to__set GOp.tx_msg_sender_get GOp.tx_msg_sender_set GOp.tx_msg_receiver_get GOp.tx_msg_receiver_set GOp.tx_msg_seq_get GOp.tx_msg_seq_set GOp.tx_msg_token_get GOp.tx_msg_token_set GOp.tx_msg_amount_get GOp.tx_msg_amount_set GOp.tx_msg_size_get GOp.tx_msg_size_set GOp.tx_msg_payload_get GOp.tx_msg_payload_set Summary.length_enc Summary.ok_enc Summary.all_get Summary.all_set Summary.height_get Summary.height_set Summary.txs_get Summary.txs_set Summary.gas_get Summary.gas_set Summary.fees_get Summary.fees_set Summary.sent_get Summary.sent_set Summary.took_get Summary.took_set Summary.minted_get Summary.minted_set Summary.burned_get Summary.burned_set Summary.root_get Summary.root_set Detail.length_enc Detail.ok_enc Detail.all_get Detail.all_set Detail.code_get Detail.code_set Detail.have__get Detail.have__set Detail.need_get Detail.need_set Slot.length_enc Slot.ok_enc Slot.all_get Slot.all_set Slot.nonce_get Slot.nonce_set Slot.balances_get Slot.balances_set Tree.length_enc Tree.ok_enc Tree.all_get Tree.all_set Tree.leaves_get Tree.leaves_set Mark.length_enc Mark.ok_enc Mark.all_get Mark.all_set Mark.from__get Mark.from__set Mark.seq_get Mark.seq_set Receipt.length_enc Receipt.ok_enc Receipt.all_get Receipt.all_set Receipt.code_get Receipt.code_set Receipt.hash_get Receipt.hash_set Receipt.index_get Receipt.index_set Receipt.gas_get Receipt.gas_set Receipt.fee_get Receipt.fee_set Receipt.hasSent_get Receipt.hasSent_set Receipt.sent_get Receipt.sent_set Receipt.hasTook_get Receipt.hasTook_set Receipt.took_get Receipt.took_set Receipt.sent_kind_get Receipt.sent_kind_set Receipt.sent_from__get Receipt.sent_from__set Receipt.sent_to__get Receipt.sent_to__set Receipt.sent_sender_get Receipt.sent_sender_set Receipt.sent_receiver_get Receipt.sent_receiver_set Receipt.sent_seq_get Receipt.sent_seq_set Receipt.sent_token_get Receipt.sent_token_set Receipt.sent_amount_get Receipt.sent_amount_set Receipt.sent_size_get Receipt.sent_size_set Receipt.sent_payload_get Receipt.sent_payload_set Receipt.took_kind_get Receipt.took_kind_set Receipt.took_from__get Receipt.took_from__set Receipt.took_to__get Receipt.took_to__set Receipt.took_sender_get Receipt.took_sender_set Receipt.took_receiver_get Receipt.took_receiver_set Receipt.took_seq_get Receipt.took_seq_set Receipt.took_token_get Receipt.took_token_set Receipt.took_amount_get Receipt.took_amount_set Receipt.took_size_get Receipt.took_size_set Receipt.took_payload_get Receipt.took_payload_set Store.length_enc Store.ok_enc Store.all_get Store.all_set Store.now_get Store.now_set Store.saved_get Store.saved_set GState.length_enc GState.ok_enc GState.all_get GState.all_set GState.kv_get GState.kv_set GState.tree_get GState.tree_set GState.stale_get GState.stale_set GState.touched_get GState.touched_set GState.kv_now_get GState.kv_now_set GState.kv_saved_get GState.kv_saved_set GState.tree_leaves_get GState.tree_leaves_set History.length_enc History.ok_enc History.all_get History.all_set History.ring_get History.ring_set History.closed_get History.closed_set Ledger.length_enc Ledger.ok_enc Ledger.all_get Ledger.all_set Ledger.chain_get Ledger.chain_set Ledger.st_get Ledger.st_set Ledger.height_get Ledger.height_set Ledger.open__get Ledger.open__set Ledger.gasLimit_get Ledger.gasLimit_set Ledger.past_get Ledger.past_set Ledger.begun_get Ledger.begun_set Ledger.sent_get Ledger.sent_set Ledger.took_get Ledger.took_set Ledger.receipts_get Ledger.receipts_set Ledger.st_kv_get Ledger.st_kv_set Ledger.st_tree_get Ledger.st_tree_set Ledger.st_stale_get Ledger.st_stale_set Ledger.st_touched_get Ledger.st_touched_set Ledger.st_kv_now_get Ledger.st_kv_now_set Ledger.st_kv_saved_get Ledger.st_kv_saved_set Ledger.st_tree_leaves_get Ledger.st_tree_leaves_set Ledger.past_ring_get Ledger.past_ring_set Ledger.past_closed_get Ledger.past_closed_set Ledger.begun_kv_get Ledger.begun_kv_set Ledger.begun_tree_get Ledger.begun_tree_set Ledger.begun_stale_get Ledger.begun_stale_set Ledger.begun_touched_get Ledger.begun_touched_set Ledger.begun_kv_now_get Ledger.begun_kv_now_set Ledger.begun_kv_saved_get Ledger.begun_kv_saved_set Ledger.begun_tree_leaves_get Ledger.begun_tree_leaves_set Purse.length_enc Purse.ok_enc Purse.all_get Purse.all_set Purse.st_get Purse.st_set Purse.n_get Purse.n_set Purse.account_get Purse.account_set Purse.token_get Purse.token_set Purse.amount_get Purse.amount_set Plan.length_enc Plan.ok_enc Plan.all_get Plan.all_set Plan.purse_get Plan.purse_set Plan.nonce_get Plan.nonce_set Plan.gasUsed_get Plan.gasUsed_set Plan.fees_get Plan.fees_set Plan.hasSupply_get Plan.hasSupply_set Plan.token_get Plan.token_set Plan.supply_get Plan.supply_set Plan.flowAt_get Plan.flowAt_set Plan.flow_get Plan.flow_set Plan.receipt_get Plan.receipt_set Plan.purse_st_get Plan.purse_st_set Plan.purse_n_get Plan.purse_n_set Plan.purse_account_get Plan.purse_account_set Plan.purse_token_get Plan.purse_token_set Plan.purse_amount_get Plan.purse_amount_set Plan.receipt_code_get Plan.receipt_code_set Plan.receipt_hash_get Plan.receipt_hash_set Plan.receipt_index_get Plan.receipt_index_set Plan.receipt_gas_get Plan.receipt_gas_set Plan.receipt_fee_get Plan.receipt_fee_set Plan.receipt_hasSent_get Plan.receipt_hasSent_set Plan.receipt_sent_get Plan.receipt_sent_set Plan.receipt_hasTook_get Plan.receipt_hasTook_set Plan.receipt_took_get Plan.receipt_took_set Plan.receipt_sent_kind_get Plan.receipt_sent_kind_set Plan.receipt_sent_from__get Plan.receipt_sent_from__set Plan.receipt_sent_to__get Plan.receipt_sent_to__set Plan.receipt_sent_sender_get Plan.receipt_sent_sender_set Plan.receipt_sent_receiver_get Plan.receipt_sent_receiver_set Plan.receipt_sent_seq_get Plan.receipt_sent_seq_set Plan.receipt_sent_token_get Plan.receipt_sent_token_set Plan.receipt_sent_amount_get Plan.receipt_sent_amount_set Plan.receipt_sent_size_get Plan.receipt_sent_size_set Plan.receipt_sent_payload_get Plan.receipt_sent_payload_set Plan.receipt_took_kind_get Plan.receipt_took_kind_set Plan.receipt_took_from__get Plan.receipt_took_from__set Plan.receipt_took_to__get Plan.receipt_took_to__set Plan.receipt_took_sender_get Plan.receipt_took_sender_set Plan.receipt_took_receiver_get Plan.receipt_took_receiver_set Plan.receipt_took_seq_get Plan.receipt_took_seq_set Plan.receipt_took_token_get Plan.receipt_took_token_set Plan.receipt_took_amount_get Plan.receipt_took_amount_set Plan.receipt_took_size_get Plan.receipt_took_size_set Plan.receipt_took_payload_get Plan.receipt_took_payload_set Move.length_enc Move.ok_enc Move.all_get Move.all_set Move.account_get Move.account_set Move.token_get Move.token_set Move.down_get Move.down_set Move.amount_get Move.amount_set Books.length_enc Books.ok_enc Books.all_get Books.all_set Books.sums_get Books.sums_set Books.stored_get Books.stored_set Books.marks_get Books.marks_set Pair.length_enc Pair.ok_enc Pair.all_get Pair.all_set Pair.key_get Pair.key_set Pair.value_get Pair.value_set
attribute [local go_sem] size_put size_ext blk_put free_put blk_alloc free_alloc blk_drew free_drew blk_ext free_ext lookOr_some putOr_some segAt_some cellAt_some storeIn_some put_put put_alloc_new length_arr ok_arr_u8 ok_arr_u32 ok_arr_u64 ok_arr_i64 ok_arr_sl cellsV_agg cellsV_int cellsV_bool cellsV_string cellsV_pointer cellsV_slice cellsV_sl ok_int ok_bool ok_string ok_pointer ok_slice ok_sl toList_arr seg_arr set_arr nth_splice nth_splice0 seg_splice seg_splice0 splice_splice splice_splice0 length_splice_if
attribute [local go_sem ↓] execOp_box
attribute [local go_sem] box_run nth_arr_u8 put_arr_u8 blk_drewN free_drewN put_drewN blk_raw free_raw
def abI1 (W : World) (bl : Nat) (F : Nat → Value) (V : World) : Prop := F 0 = .pointer (some ⟨bl, 0, none⟩) ∧ F 3 = .int .u64 0 ∧ F 4 = .int .u64 0 ∧ F 5 = .int .u64 0 ∧ F 6 = .int .u64 0 ∧ F 7 = .int .u64 0 ∧ ∃ c : Nat, 7 ≤ c ∧ c ≤ 15 ∧ F 8 = .int .u64 (c : Nat) ∧ Hid (W.Extends V)
def abI2 (W : World) (bl : Nat) (g1 g2 g3 g4 g5 : UInt64) (F : Nat → Value) (V : World) : Prop := F 0 = .pointer (some ⟨bl, 0, none⟩) ∧ F 3 = .int .u64 (w64 g1) ∧ F 4 = .int .u64 (w64 g2) ∧ F 5 = .int .u64 (w64 g3) ∧ F 6 = .int .u64 (w64 g4) ∧ F 7 = .int .u64 (w64 g5) ∧ ∃ t : Nat, t ≤ 4 ∧ F 9 = .int .u8 (t : Nat) ∧ Hid (W.Extends V)
set_option maxRecDepth 100000 in
theorem frame172L (f : Nat → Value) : frameN 172 f = #[f 0, f 1, f 2, f 3, f 4, f 5, f 6, f 7, f 8, f 9, f 10, f 11, f 12, f 13, f 14, f 15, f 16, f 17, f 18, f 19, f 20, f 21, f 22, f 23, f 24, f 25, f 26, f 27, f 28, f 29, f 30, f 31, f 32, f 33, f 34, f 35, f 36, f 37, f 38, f 39, f 40, f 41, f 42, f 43, f 44, f 45, f 46, f 47, f 48, f 49, f 50, f 51, f 52, f 53, f 54, f 55, f 56, f 57, f 58, f 59, f 60, f 61, f 62, f 63, f 64, f 65, f 66, f 67, f 68, f 69, f 70, f 71, f 72, f 73, f 74, f 75, f 76, f 77, f 78, f 79, f 80, f 81, f 82, f 83, f 84, f 85, f 86, f 87, f 88, f 89, f 90, f 91, f 92, f 93, f 94, f 95, f 96, f 97, f 98, f 99, f 100, f 101, f 102, f 103, f 104, f 105, f 106, f 107, f 108, f 109, f 110, f 111, f 112, f 113, f 114, f 115, f 116, f 117, f 118, f 119, f 120, f 121, f 122, f 123, f 124, f 125, f 126, f 127, f 128, f 129, f 130, f 131, f 132, f 133, f 134, f 135, f 136, f 137, f 138, f 139, f 140, f 141, f 142, f 143, f 144, f 145, f 146, f 147, f 148, f 149, f 150, f 151, f 152, f 153, f 154, f 155, f 156, f 157, f 158, f 159, f 160, f 161, f 162, f 163, f 164, f 165, f 166, f 167, f 168, f 169, f 170, f 171] := by kernel_rfl
set_option maxRecDepth 20000 in
set_option maxHeartbeats 2000000 in
theorem auditBlock_ok (O : Own) (W : World) (bl n : Nat) (L : PLg) (hL : LedA O W bl L) (hLI : LI n L) (hn : n ≤ 1000000) : Calls Tryz.prog 157 #[.pointer (some ⟨bl, 0, none⟩)] W fun e V => e = .returned (.bool true) ∧ W.Extends V := by
  obtain ⟨Q, hQ⟩ : ∃ Q : Ending → World → Prop, Q = fun e V => e = .returned (.bool true) ∧ W.Extends V := ⟨_, rfl⟩
  rw [← hQ]
  have HQ := hid_of hQ
  have HRD := hid_of hL.rd
  have hS := hLI.now
  have HLI := hid_of hLI
  have HBR : Hid (KvRd W bl 2433 L.begun.now) := by
    obtain ⟨sn, ss, bn, ms, mt, mr, hA⟩ := hL
    exact hA.brd (hLI.bgl (by omega))
  have HLA := hid_of hL
  obtain ⟨LE, kl, n61, n62, n63, s4, s5, ll⟩ : ∃ LE, blk W bl = some LE ∧ nth LE 2061 = some (.int .u64 (w64 L.height)) ∧ nth LE 2062 = some (.bool L.open_) ∧ nth LE 2063 = some (.int .u64 (w64 L.gasLimit)) ∧ (∃ a c, nth LE 4493 = some (.slice a L.sent.length c)) ∧ (∃ a c, nth LE 4494 = some (.slice a L.took.length c)) ∧ LE.length = 4496 := by
    obtain ⟨sn, ss, bn, ms, mt, mr, hA⟩ := hL
    have e1 : L.sent.length = ms.len := (RowL.rw Message.length_enc hA.msn).1.1
    have e2 : L.took.length = mt.len := (RowL.rw Message.length_enc hA.mtk).1.1
    refine ⟨_, hA.hblk, Ledger.height_get _, Ledger.open__get _, Ledger.gasLimit_get _, ⟨ms.a, ms.cap, ?_⟩, ⟨mt.a, mt.cap, ?_⟩, Ledger.length_enc _⟩
    · rw [Ledger.sent_get, e1]; rfl
    · rw [Ledger.took_get, e2]; rfl
  obtain ⟨sa, sc, n93⟩ := s4
  obtain ⟨ta, tc, n94⟩ := s5
  have HC : Hid (∀ V, W.Extends V → ∀ c : UInt64, c.toNat < 100 → Calls Tryz.prog 104 #[.pointer (some ⟨bl, 1, none⟩), .int .u64 (w64 c)] V fun e V' => e = .returned (.int .u64 (w64 (ldF L.st.now (keyC c)))) ∧ V.Extends V') := fun V hx c hc => counter_any V bl 1 L.st.now (HRD.out.ext hx) c (by omega)
  have HKL : Hid (∀ V, W.Extends V → blk V bl = some LE) := fun V hx => (hx.blk (blk_lt kl)).trans kl
  obtain ⟨g1, hg1⟩ : ∃ g, g = ldF L.st.now (keyC 1) := ⟨_, rfl⟩
  obtain ⟨g2, hg2⟩ : ∃ g, g = ldF L.st.now (keyC 2) := ⟨_, rfl⟩
  obtain ⟨g3, hg3⟩ : ∃ g, g = ldF L.st.now (keyC 3) := ⟨_, rfl⟩
  obtain ⟨g4, hg4⟩ : ∃ g, g = ldF L.st.now (keyC 4) := ⟨_, rfl⟩
  obtain ⟨g5, hg5⟩ : ∃ g, g = ldF L.st.now (keyC 5) := ⟨_, rfl⟩
  have HG : Hid (g1 = ldF L.st.now (keyC 1) ∧ g2 = ldF L.st.now (keyC 2) ∧ g3 = ldF L.st.now (keyC 3) ∧ g4 = ldF L.st.now (keyC 4) ∧ g5 = ldF L.st.now (keyC 5)) := ⟨hg1, hg2, hg3, hg4, hg5⟩
  have c1 : ∀ V, W.Extends V → Calls Tryz.prog 104 #[.pointer (some ⟨bl, 1, none⟩), .int .u64 1] V fun e V' => e = .returned (.int .u64 (w64 g1)) ∧ V.Extends V' := fun V hx => by rw [hg1]; exact HC.out V hx 1 (by decide)
  have c2 : ∀ V, W.Extends V → Calls Tryz.prog 104 #[.pointer (some ⟨bl, 1, none⟩), .int .u64 2] V fun e V' => e = .returned (.int .u64 (w64 g2)) ∧ V.Extends V' := fun V hx => by rw [hg2]; exact HC.out V hx 2 (by decide)
  have c3 : ∀ V, W.Extends V → Calls Tryz.prog 104 #[.pointer (some ⟨bl, 1, none⟩), .int .u64 3] V fun e V' => e = .returned (.int .u64 (w64 g3)) ∧ V.Extends V' := fun V hx => by rw [hg3]; exact HC.out V hx 3 (by decide)
  have c4 : ∀ V, W.Extends V → Calls Tryz.prog 104 #[.pointer (some ⟨bl, 1, none⟩), .int .u64 4] V fun e V' => e = .returned (.int .u64 (w64 g4)) ∧ V.Extends V' := fun V hx => by rw [hg4]; exact HC.out V hx 4 (by decide)
  have c5 : ∀ V, W.Extends V → Calls Tryz.prog 104 #[.pointer (some ⟨bl, 1, none⟩), .int .u64 5] V fun e V' => e = .returned (.int .u64 (w64 g5)) ∧ V.Extends V' := fun V hx => by rw [hg5]; exact HC.out V hx 5 (by decide)
  clear hQ hL hLI hS hg1 hg2 hg3 hg4 hg5
  go_enter Tryz.func157, Tryz.ntmps157
  go_wp2_with fail
  refine (c1 W (ext_Ext (Ext.refl W))).mono ?_
  clear c1
  rintro e U1 ⟨rfl, hx1⟩
  dsimp only
  have X1 := hid_of ((ext_Ext (Ext.refl W)).trans hx1)
  clear hx1
  go_wp2_with fail
  refine (c2 U1 X1.out).mono ?_
  clear c2
  rintro e U2 ⟨rfl, hx2⟩
  dsimp only
  have X2 := hid_of (X1.out.trans hx2)
  clear hx2
  go_wp2_with fail
  refine (c3 U2 X2.out).mono ?_
  clear c3
  rintro e U3 ⟨rfl, hx3⟩
  dsimp only
  have X3 := hid_of (X2.out.trans hx3)
  clear hx3
  go_wp2_with fail
  refine (c4 U3 X3.out).mono ?_
  clear c4
  rintro e U4 ⟨rfl, hx4⟩
  dsimp only
  have X4 := hid_of (X3.out.trans hx4)
  clear hx4
  go_wp2_with fail
  refine (c5 U4 X4.out).mono ?_
  clear c5
  rintro e U5 ⟨rfl, hx5⟩
  dsimp only
  have X5 := hid_of (X4.out.trans hx5)
  clear hx5
  have k5 := HKL.out U5 X5.out
  cases hop : L.open_ with
  | false =>
    obtain ⟨hz, hsv, hgl, -⟩ := HLI.out.cl hop
    have z1 : g1 = 0 := by rw [HG.out.1]; exact hz 1 (by decide) (by decide) (by decide)
    have z2 : g2 = 0 := by rw [HG.out.2.1]; exact hz 2 (by decide) (by decide) (by decide)
    have z3 : g3 = 0 := by rw [HG.out.2.2.1]; exact hz 3 (by decide) (by decide) (by decide)
    have z4 : g4 = 0 := by rw [HG.out.2.2.2.1]; exact hz 4 (by decide) (by decide) (by decide)
    have z5 : g5 = 0 := by rw [HG.out.2.2.2.2]; exact hz 5 (by decide) (by decide) (by decide)
    subst z1 z2 z3 z4 z5
    have hw0 : w64 0 = 0 := rfl
    have HZ := hid_of hz
    rw [hop] at n62
    rw [hgl] at n63
    have HSV := hid_of hsv
    clear hz hgl hop hsv
    simp only [hw0]
    simp only [hw0] at n63
    clear hw0
    go_wp2_with fail
    refine wp_loop_f 172 (abI1 W bl) (fun f _ => 15 - (intOf (f 8)).toNat) rfl ⟨rfl, rfl, rfl, rfl, rfl, rfl, 7, by omega, by omega, rfl, X5.out⟩ ?_
    intro F V hrel
    obtain ⟨f0, f3, f4, f5, f6, f7, cc, hc7, hc15, f8, HE⟩ := hrel
    have H8 := hid_of f8
    rw [frame172L, f0, f3, f4, f5, f6, f7, f8]
    clear f0 f3 f4 f5 f6 f7 f8
    have kV := HKL.out V HE.out
    by_cases hcl : cc ≤ 14
    rotate_left 1
    · have hcl' : ¬ (cc : Int) ≤ 14 := by omega
      have hdp : Calls Tryz.prog 105 #[.pointer (some ⟨bl, 1, none⟩)] V fun e V' => e = .returned (.int .i64 0) ∧ V' = V := by
        have q := (LbI.start (HLA.out.ext HE.out)).dep
        rw [HSV.out] at q
        exact q
      have HP : Hid (Q (.returned (.bool true)) V) := by
        show Q _ _
        rw [HQ.out]
        exact ⟨rfl, HE.out⟩
      clear hc7 hc15 hcl k5
      go_wp2_with fail
      refine hdp.mono ?_
      clear hdp
      rintro e V9 ⟨rfl, hv9⟩
      obtain rfl := hv9.symm
      dsimp only
      go_wp2_with fail
      try (first | go_ret | go_ret2 | go_ret3 | go_end0)
      exact HP.out
    have hcl' : (cc : Int) ≤ 14 := by omega
    have hcn : (UInt64.ofNat cc).toNat = cc := by rw [UInt64.toNat_ofNat']; omega
    have hct := HC.out V HE.out (UInt64.ofNat cc) (by omega)
    rw [HZ.out _ (by omega) (by omega) (fun e => by have := congrArg UInt64.toNat e; rw [hcn] at this; have e6 : (6 : UInt64).toNat = 6 := rfl; omega)] at hct
    have hcw : w64 (UInt64.ofNat cc) = (cc : Int) := by unfold w64; rw [hcn]
    rw [hcw] at hct
    have hct' : Calls Tryz.prog 104 #[.pointer (some ⟨bl, 1, none⟩), .int .u64 (cc : Int)] V fun e V' => e = .returned (.int .u64 0) ∧ V.Extends V' := hct
    have HCC : Hid (7 ≤ cc ∧ cc ≤ 14) := ⟨hc7, hcl⟩
    have hi9 : (cc : Int) + 1 ≤ 100 := by omega
    clear hct hcw hcn hc7 hc15 hcl k5
    go_wp2_with fail
    refine hct'.mono ?_
    clear hct'
    rintro e V9 ⟨rfl, hx9⟩
    dsimp only
    have HJ := hid_of (HE.out.trans hx9)
    clear hx9
    go_wp2_with fail
    refine ⟨rfl, rfl, ⟨rfl, rfl, rfl, rfl, rfl, rfl, cc + 1, by have := HCC.out; omega, by have := HCC.out; omega, ?_, HJ.out⟩, ?_⟩
    · show Value.int .u64 _ = _
      go_num
    · show 15 - (intOf (Value.int .u64 _)).toNat < 15 - (intOf (F 8)).toNat
      rw [H8.out]
      have := HCC.out
      simp [intOf]; omega
  | true =>
    obtain ⟨o1, o2, o3, o4, o5⟩ := HLI.out.op hop
    have hS := HLI.out.now
    rw [if_pos hop] at hS
    have hht : (w64 L.height == 0) = false := by
      have hp := HLI.out.pst
      rw [if_pos hop] at hp
      have : ¬ w64 L.height = 0 := by unfold w64; omega
      simp [this]
    have hgl0 : (w64 L.gasLimit == 0) = false := by
      have : ¬ w64 L.gasLimit = 0 := fun e => o3 (w64_inj (b := 0) e)
      simp [this]
    have hgl1 : ¬ 10000 < w64 L.gasLimit := by unfold w64; omega
    have hgg : ¬ w64 L.gasLimit < w64 g1 := by
      have q := hS.gas
      rw [← HG.out.1] at q
      unfold w64
      omega
    have hff : ¬ 9223372036854775807 < w64 g2 := by
      have q := hS.fee
      rw [← HG.out.2.1] at q
      unfold w64
      omega
    have hst : IntKind.u64.wrap (w64 g4 + w64 g5) = w64 (g4 + g5) := x64_add g4 g5
    have q3 := hS.txs
    have q4 := hS.c3n
    rw [← HG.out.2.2.1, ← HG.out.2.2.2.1, ← HG.out.2.2.2.2] at q3
    rw [← HG.out.2.2.1] at q4
    have hsum : ¬ w64 g3 < w64 (g4 + g5) := by
      have e : (g4 + g5).toNat = g4.toNat + g5.toNat := u64_add (by omega)
      unfold w64
      rw [e]
      omega
    obtain ⟨g6, hg6⟩ : ∃ g, g = ldF L.st.now (keyC 6) := ⟨_, rfl⟩
    have c6 : ∀ V, W.Extends V → Calls Tryz.prog 104 #[.pointer (some ⟨bl, 1, none⟩), .int .u64 6] V fun e V' => e = .returned (.int .u64 (w64 g6)) ∧ V.Extends V' := fun V hx => by rw [hg6]; exact HC.out V hx 6 (by decide)
    have hmk : ¬ w64 g6 < w64 g5 := by
      have q := hS.tk
      rw [← HG.out.2.2.2.2, ← hg6] at q
      unfold w64
      omega
    have l4 := HLI.out.l4
    have l5 := HLI.out.l5
    have hs1 : IntKind.u64.wrap ((L.sent.length : Nat) : Int) = ((L.sent.length : Nat) : Int) := by rw [IntKind.wrap_u64]; omega
    have hs2 : IntKind.u64.wrap ((L.took.length : Nat) : Int) = ((L.took.length : Nat) : Int) := by rw [IntKind.wrap_u64]; omega
    have hs3 : w64 g4 ≤ ((L.sent.length : Nat) : Int) := by
      have q := HLI.out.c4
      rw [← HG.out.2.2.2.1] at q
      unfold w64
      omega
    have hs4 : w64 g5 ≤ ((L.took.length : Nat) : Int) := by
      have q := HLI.out.c5
      rw [← HG.out.2.2.2.2] at q
      unfold w64
      omega
    have HFL : Hid (∀ t : UInt8, t.toNat < 4 → ldF L.st.now (keyS t) + ldF L.st.now (keyC (fU 11 t)) = ldF L.begun.now (keyS t) + ldF L.st.now (keyC (fU 7 t))) := fun t ht => by
      have q := hS.flw t ht
      apply UInt64.toNat_inj.1
      rw [UInt64.toNat_add, UInt64.toNat_add, q]
    rw [hop] at n62
    generalize L.height = LH at n61 hht
    generalize L.gasLimit = LG at n63 hgl0 hgl1 hgg
    generalize L.sent.length = LS at n93 hs1 hs3
    generalize L.took.length = LT at n94 hs2 hs4
    clear o1 o2 o3 o4 o5 hS q3 q4 hg6 l4 l5 hop
    go_wp2_with fail
    refine wp_loop_f 172 (abI2 W bl g1 g2 g3 g4 g5) (fun f _ => 4 - (intOf (f 9)).toNat) rfl ⟨rfl, rfl, rfl, rfl, rfl, rfl, 0, by omega, rfl, X5.out⟩ ?_
    intro F V hrel
    obtain ⟨f0, f3, f4, f5, f6, f7, t, ht4, f9, HE⟩ := hrel
    have H9 := hid_of f9
    rw [frame172L, f0, f3, f4, f5, f6, f7, f9]
    clear f0 f3 f4 f5 f6 f7 f9 k5
    have kV := HKL.out V HE.out
    by_cases htl : t < 4
    rotate_left 1
    · have htl' : ¬ (t : Int) < 4 := by omega
      have hc6 := c6 V HE.out
      clear htl ht4
      go_wp2_with fail
      refine hc6.mono ?_
      clear hc6
      rintro e V9 ⟨rfl, hx9⟩
      dsimp only
      have HX9 := hid_of (HE.out.trans hx9)
      have k9 := HKL.out V9 HX9.out
      have HP : Hid (Q (.returned (.bool true)) V9) := by
        show Q _ _
        rw [HQ.out]
        exact ⟨rfl, HX9.out⟩
      clear hx9 kV
      go_wp2_with fail
      try (first | go_ret | go_ret2 | go_ret3 | go_end0)
      exact HP.out
    have htl' : (t : Int) < 4 := by omega
    have ht0 : (0 : Int) ≤ (t : Int) := by omega
    have htn : (UInt8.ofNat t).toNat = t := ofN_lt4 htl
    obtain ⟨tt, htt⟩ : ∃ tt, tt = UInt8.ofNat t := ⟨_, rfl⟩
    have hwt : w8 tt = (t : Int) := by rw [htt]; unfold w8; rw [htn]
    have hcv : IntKind.u64.wrap (t : Int) = (t : Int) := by rw [IntKind.wrap_u64]; omega
    have f7 : (fU 7 tt).toNat = 7 + t := by rw [fU7_nt (by rw [htt, htn]; exact htl), htt, htn]
    have f11 : (fU 11 tt).toNat = 11 + t := by rw [fU11_nt (by rw [htt, htn]; exact htl), htt, htn]
    have a7 : IntKind.u64.wrap (7 + (t : Int)) = w64 (fU 7 tt) := by rw [IntKind.wrap_u64]; unfold w64; rw [f7]; omega
    have a11 : IntKind.u64.wrap (11 + (t : Int)) = w64 (fU 11 tt) := by rw [IntKind.wrap_u64]; unfold w64; rw [f11]; omega
    have hc7 := HC.out V HE.out (fU 7 tt) (by omega)
    have hfl := HFL.out tt (by rw [htt, htn]; exact htl)
    obtain ⟨mi, hmi⟩ : ∃ mi, mi = ldF L.st.now (keyC (fU 7 tt)) := ⟨_, rfl⟩
    obtain ⟨bu, hbu⟩ : ∃ bu, bu = ldF L.st.now (keyC (fU 11 tt)) := ⟨_, rfl⟩
    obtain ⟨sp, hsp⟩ : ∃ sp, sp = ldF L.st.now (keyS tt) := ⟨_, rfl⟩
    obtain ⟨s0, hs0⟩ : ∃ s0, s0 = ldF L.begun.now (keyS tt) := ⟨_, rfl⟩
    rw [← hmi, ← hbu, ← hsp, ← hs0] at hfl
    rw [← hmi] at hc7
    have HC11 : Hid (∀ V', W.Extends V' → Calls Tryz.prog 104 #[.pointer (some ⟨bl, 1, none⟩), .int .u64 (w64 (fU 11 tt))] V' fun e V'' => e = .returned (.int .u64 (w64 bu)) ∧ V'.Extends V'') := fun V' hx => by rw [hbu]; exact HC.out V' hx (fU 11 tt) (by omega)
    have HSP : Hid (∀ V', W.Extends V' → Calls Tryz.prog 103 #[.pointer (some ⟨bl, 1, none⟩), .int .u8 (t : Int)] V' fun e V'' => e = .returned (.int .u64 (w64 sp)) ∧ V'.Extends V'') := fun V' hx => by rw [hsp, ← hwt]; exact supply_any V' bl 1 L.st.now (HRD.out.ext hx) tt
    have HS0 : Hid (∀ V', W.Extends V' → Calls Tryz.prog 103 #[.pointer (some ⟨bl, 2433, none⟩), .int .u8 (t : Int)] V' fun e V'' => e = .returned (.int .u64 (w64 s0)) ∧ V'.Extends V'') := fun V' hx => by rw [hs0, ← hwt]; exact supply_any V' bl 2433 L.begun.now (HBR.out.ext hx) tt
    have ad1 : IntKind.u64.wrap (w64 sp + w64 bu) = w64 (sp + bu) := x64_add sp bu
    have ad2 : IntKind.u64.wrap (w64 s0 + w64 mi) = w64 (sp + bu) := by rw [hfl]; exact x64_add s0 mi
    have hbb : (w64 (sp + bu) != w64 (sp + bu)) = false := by simp
    have HTL := hid_of htl
    have hi9 : (t : Int) + 1 ≤ 5 := by omega
    clear hfl hmi hbu hsp hs0 htt hwt f7 f11 htn ht4 htl kV
    go_wp2_with fail
    refine hc7.mono ?_
    clear hc7
    rintro e V6 ⟨rfl, hx6⟩
    dsimp only
    have X6 := hid_of (HE.out.trans hx6)
    have hc11 := HC11.out V6 X6.out
    clear hx6
    go_wp2_with fail
    refine hc11.mono ?_
    clear hc11
    rintro e V7 ⟨rfl, hx7⟩
    dsimp only
    have X7 := hid_of (X6.out.trans (hx7.trans (extends_drewN (ext_Ext (Ext.refl V7)) 1)))
    have hsp := HSP.out V7.drew X7.out
    clear hx7
    go_upto_region 18 with fail
    repeat go_step
    refine wp_region_F 14 (fun W' => True) (by kernel_rfl) trivial (fun hHeld => ?_)
    refine wpAnyF_take (i := 0) (oi := ⟨_, _, _, _, _, _⟩) (v := ?_) rfl (by kernel_rfl) (by kernel_rfl) (by kernel_rfl) (by kernel_rfl) (by kernel_rfl) (fun _ _ _ h => h) (Or.inl ⟨by rfl, ?_⟩) (by assumption) ?_
    rotate_left 1
    · intro W' hSw
      go_simp
      try with_reducible rfl
    try simp only [Act.put, List.setIfInBounds_toArray, List.set_cons_zero, List.set_cons_succ]
    refine wpAnyF_take (i := 1) (oi := ⟨_, _, _, _, _, _⟩) (v := ?_) rfl (by kernel_rfl) (by kernel_rfl) (by kernel_rfl) (by kernel_rfl) (by kernel_rfl) (fun _ _ _ h => h) (Or.inl ⟨by rfl, ?_⟩) (by assumption) ?_
    rotate_left 1
    · intro W' hSw
      go_simp
      try with_reducible rfl
    try simp only [Act.put, List.setIfInBounds_toArray, List.set_cons_zero, List.set_cons_succ]
    refine wpAnyF_take (i := 2) (oi := ⟨_, _, _, _, _, _⟩) (v := ?_) rfl (by kernel_rfl) (by kernel_rfl) (by kernel_rfl) (by kernel_rfl) (by kernel_rfl) (fun _ _ _ h => h) (Or.inl ⟨by rfl, ?_⟩) (by assumption) ?_
    rotate_left 1
    · intro W' hSw
      go_simp
      try with_reducible rfl
    try simp only [Act.put, List.setIfInBounds_toArray, List.set_cons_zero, List.set_cons_succ]
    refine wpAnyF_take (i := 3) (oi := ⟨_, _, _, _, _, _⟩) (v := ?_) rfl (by kernel_rfl) (by kernel_rfl) (by kernel_rfl) (by kernel_rfl) (by kernel_rfl) (fun _ _ _ h => h) (Or.inl ⟨by rfl, ?_⟩) (by assumption) ?_
    rotate_left 1
    · intro W' hSw
      go_simp
      try with_reducible rfl
    try simp only [Act.put, List.setIfInBounds_toArray, List.set_cons_zero, List.set_cons_succ]
    refine wpAnyF_take (i := 5) (oi := ⟨_, _, _, _, _, _⟩) (v := ?_) rfl (by kernel_rfl) (by kernel_rfl) (by kernel_rfl) (by kernel_rfl) (by kernel_rfl) (fun _ _ _ h => h) (Or.inl ⟨by rfl, ?_⟩) (by assumption) ?_
    rotate_left 1
    · intro W' hSw
      go_simp
      try with_reducible rfl
    try simp only [Act.put, List.setIfInBounds_toArray, List.set_cons_zero, List.set_cons_succ]
    refine wpAnyF_take (i := 7) (oi := ⟨_, _, _, _, _, _⟩) (v := ?_) rfl (by kernel_rfl) (by kernel_rfl) (by kernel_rfl) (by kernel_rfl) (by kernel_rfl) (fun _ _ _ h => h) (Or.inl ⟨by rfl, ?_⟩) (by assumption) ?_
    rotate_left 1
    · intro W' hSw
      go_simp
      try with_reducible rfl
    try simp only [Act.put, List.setIfInBounds_toArray, List.set_cons_zero, List.set_cons_succ]
    refine wpAnyF_take (i := 8) (oi := ⟨_, _, _, _, _, _⟩) (v := ?_) rfl (by kernel_rfl) (by kernel_rfl) (by kernel_rfl) (by kernel_rfl) (by kernel_rfl) (fun _ _ _ h => h) (Or.inl ⟨by rfl, ?_⟩) (by assumption) ?_
    rotate_left 1
    · intro W' hSw
      go_simp
      try with_reducible rfl
    try simp only [Act.put, List.setIfInBounds_toArray, List.set_cons_zero, List.set_cons_succ]
    refine wpAnyF_take (i := 9) (oi := ⟨_, _, _, _, _, _⟩) (v := ?_) rfl (by kernel_rfl) (by kernel_rfl) (by kernel_rfl) (by kernel_rfl) (by kernel_rfl) (fun _ _ _ h => h) (Or.inl ⟨by rfl, ?_⟩) (by assumption) ?_
    rotate_left 1
    · intro W' hSw
      go_simp
      try with_reducible rfl
    try simp only [Act.put, List.setIfInBounds_toArray, List.set_cons_zero, List.set_cons_succ]
    refine wpAnyF_take (i := 10) (oi := ⟨_, _, _, _, _, _⟩) (v := ?_) rfl (by kernel_rfl) (by kernel_rfl) (by kernel_rfl) (by kernel_rfl) (by kernel_rfl) (fun _ _ _ h => h) (Or.inl ⟨by rfl, ?_⟩) (by assumption) ?_
    rotate_left 1
    · intro W' hSw
      go_simp
      try with_reducible rfl
    try simp only [Act.put, List.setIfInBounds_toArray, List.set_cons_zero, List.set_cons_succ]
    refine wpAnyF_take (i := 12) (oi := ⟨_, _, _, _, _, _⟩) (v := ?_) rfl (by kernel_rfl) (by kernel_rfl) (by kernel_rfl) (by kernel_rfl) (by kernel_rfl) (fun _ _ _ h => h) (Or.inl ⟨by rfl, ?_⟩) (by assumption) ?_
    rotate_left 1
    · intro W' hSw
      go_simp
      try with_reducible rfl
    try simp only [Act.put, List.setIfInBounds_toArray, List.set_cons_zero, List.set_cons_succ]
    refine wpAnyF_one (o := ⟨_, _, _, _, _, _⟩) (i := 4) (by kernel_rfl) rfl rfl (fun K' hK => ?_)
    go_simp
    refine hsp.mono ?_
    clear hsp
    rintro e V8 ⟨rfl, hx8⟩
    dsimp only
    refine hK.out _ _ trivial (fun hHeld => ?_)
    clear hK K'
    try simp only [Act.put, List.setIfInBounds_toArray, List.set_cons_zero, List.set_cons_succ]
    refine wpAnyF_take (i := 6) (oi := ⟨_, _, _, _, _, _⟩) (v := ?_) rfl (by kernel_rfl) (by kernel_rfl) (by kernel_rfl) (by kernel_rfl) (by kernel_rfl) (fun _ _ _ h => h) (Or.inl ⟨by rfl, ?_⟩) (by assumption) ?_
    rotate_left 1
    · intro W' hSw
      go_simp
      try with_reducible rfl
    try simp only [Act.put, List.setIfInBounds_toArray, List.set_cons_zero, List.set_cons_succ]
    refine wpAnyF_one (o := ⟨_, _, _, _, _, _⟩) (i := 11) (by kernel_rfl) rfl rfl (fun K' hK => ?_)
    go_simp
    refine (HS0.out V8 (X7.out.trans hx8)).mono ?_
    rintro e V9 ⟨rfl, hx9⟩
    dsimp only
    refine hK.out _ _ trivial (fun hHeld => ?_)
    clear hK K'
    try simp only [Act.put, List.setIfInBounds_toArray, List.set_cons_zero, List.set_cons_succ]
    refine wpAnyF_take (i := 13) (oi := ⟨_, _, _, _, _, _⟩) (v := ?_) rfl (by kernel_rfl) (by kernel_rfl) (by kernel_rfl) (by kernel_rfl) (by kernel_rfl) (fun _ _ _ h => h) (Or.inl ⟨by rfl, ?_⟩) (by assumption) ?_
    rotate_left 1
    · intro W' hSw
      go_simp
      try with_reducible rfl
    try simp only [Act.put, List.setIfInBounds_toArray, List.set_cons_zero, List.set_cons_succ]
    refine wpAnyF_last (o := ⟨_, _, _, _, _, _⟩) (by kernel_rfl) rfl (fun K' hK => ?_)
    go_simp
    refine hK.out _ _ ?_
    clear hK K'
    try simp only [Act.put, List.setIfInBounds_toArray, List.set_cons_zero, List.set_cons_succ]
    refine wpAnyF_done (by kernel_rfl) ?_ _
    clear hHeld
    have HJ := hid_of (X7.out.trans (hx8.trans hx9))
    clear hx8 hx9
    go_wp2_with fail
    refine ⟨rfl, rfl, ⟨rfl, rfl, rfl, rfl, rfl, rfl, t + 1, HTL.out, ?_, HJ.out⟩, ?_⟩
    · show Value.int .u8 _ = _
      go_num
    · show 4 - (intOf (Value.int .u8 _)).toNat < 4 - (intOf (F 9)).toNat
      rw [H9.out]
      have := HTL.out
      simp [intOf]; omega
end Go.Proofs.Qxb6500786aGreat
