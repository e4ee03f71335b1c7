import Derived.DeepKeys2
import Derived.Test.Qxb6500786aGreatQa

import Derived.StillTailTactics
import Derived.Deep.QuietTactic
import Derived.BigQuiet
import Derived.Deep.RegionHeld
import Derived.Deep.CutRange
import Derived.Laws.ResultCell
import Derived.Laws.Rows
import Derived.DeepKeys
import Derived.DataBytes
import Derived.Laws.StructEq
import Derived.Laws.AppendOwn
import Derived.Laws.MakeOwn
import Derived.Lib.AppendStr
set_option linter.unusedSimpArgs false
set_option linter.unusedVariables false
namespace Go.Proofs.Qxb6500786aGreat
open Go.RowKit Go.Blk
attribute [local go_sem ↓] execOp_load execOp_store execOp_alloc
attribute [local go_sem] Tryz.ld24 Tryz.st24 Tryz.ld36 Tryz.st36 Tryz.ld28 Tryz.st28 Tryz.ld32 Tryz.st32 Tryz.ld33 Tryz.st33 Tryz.ld34 Tryz.st34 Tryz.ld5 Tryz.st5 Tryz.ld31 Tryz.st31 Tryz.ld30 Tryz.st30 Tryz.ld41 Tryz.st41 Tryz.ld44 Tryz.st44 Tryz.ld4 Tryz.st4 Tryz.ld173 Tryz.st173 Tryz.ld174 Tryz.st174 Tryz.ld95 Tryz.st95 Tryz.ld45 Tryz.st45 Tryz.ld207 Tryz.st207 Tryz.ld3 Tryz.st3 Tryz.ld189 Tryz.st189 Tryz.ld2 Tryz.st2 Tryz.ld9 Tryz.st9 Tryz.ld12 Tryz.st12 Tryz.ld21 Tryz.st21 Tryz.ld22 Tryz.st22 Tryz.ld46 Tryz.st46 Tryz.ld92 Tryz.st92 Tryz.ld94 Tryz.st94 Tryz.ld96 Tryz.st96 Tryz.ld97 Tryz.st97 Tryz.ld105 Tryz.st105 Tryz.ld117 Tryz.st117 Tryz.ld122 Tryz.st122 Tryz.ld123 Tryz.st123 Tryz.ld133 Tryz.st133 Tryz.ld155 Tryz.st155 Tryz.ld163 Tryz.st163 Tryz.ld190 Tryz.st190 Tryz.ld197 Tryz.st197 Tryz.ld201 Tryz.st201 Tryz.ld202 Tryz.st202 Tryz.ld209 Tryz.st209 Tryz.ld216 Tryz.st216 Tryz.ld230 Tryz.st230 Tryz.ld238 Tryz.st238 Tryz.ld242 Tryz.st242 Tryz.ld251 Tryz.st251 Tryz.ld260 Tryz.st260 Tryz.ld286 Tryz.st286 Tryz.ld292 Tryz.st292 Tryz.ld298 Tryz.st298 Tryz.ld309 Tryz.st309 Tryz.ld35 Tryz.st35 Tryz.ld48 Tryz.st48 Tryz.ld47 Tryz.st47 Tryz.ld79 Tryz.st79 Tryz.ld177 Tryz.st177 Tryz.ld180 Tryz.st180 Tryz.ld231 Tryz.st231 Tryz.ld232 Tryz.st232 Tryz.ld26 Tryz.st26 Tryz.ld38 Tryz.st38 Tryz.ld40 Tryz.st40 Tryz.ld43 Tryz.st43 Tryz.ld50 Tryz.st50 Tryz.ld52 Tryz.st52 Tryz.ld54 Tryz.st54 Tryz.ld81 Tryz.st81 Tryz.ld112 Tryz.st112 Tryz.ld120 Tryz.st120 Tryz.ld176 Tryz.st176 Tryz.ld179 Tryz.st179 Tryz.ld182 Tryz.st182 Tryz.ld184 Tryz.st184 Tryz.ld234 Tryz.st234 Tryz.ld236 Tryz.st236 Tryz.ld240 Tryz.st240 Tryz.ld246 Tryz.st246 Tryz.ld249 Tryz.st249 Tryz.al35 Tryz.al48 Tryz.al47 Tryz.al79 Tryz.al177 Tryz.al180 Tryz.al231 Tryz.al232 Tryz.al26 Tryz.al38 Tryz.al40 Tryz.al43 Tryz.al50 Tryz.al52 Tryz.al54 Tryz.al81 Tryz.al112 Tryz.al120 Tryz.al176 Tryz.al179 Tryz.al182 Tryz.al184 Tryz.al234 Tryz.al236 Tryz.al240 Tryz.al246 Tryz.al249
attribute [local go_sem] Player.length_enc Player.ok_enc Player.all_get Player.all_set Player.hand_get Player.hand_set Player.aside_get Player.aside_set Message.length_enc Message.ok_enc Message.all_get Message.all_set Message.kind_get Message.kind_set Message.from__get Message.from__set Message.to__get Message.to__set Message.sender_get Message.sender_set Message.receiver_get Message.receiver_set Message.seq_get Message.seq_set Message.token_get Message.token_set Message.amount_get Message.amount_set Message.size_get Message.size_set Message.payload_get Message.payload_set Tx.length_enc Tx.ok_enc Tx.all_get Tx.all_set Tx.kind_get Tx.kind_set Tx.chain_get Tx.chain_set Tx.from__get Tx.from__set Tx.nonce_get Tx.nonce_set Tx.fee_get Tx.fee_set Tx.to__get Tx.to__set Tx.dest_get Tx.dest_set Tx.token_get Tx.token_set Tx.amount_get Tx.amount_set Tx.size_get Tx.size_set Tx.payload_get Tx.payload_set Tx.msg_get Tx.msg_set Tx.msg_kind_get Tx.msg_kind_set Tx.msg_from__get Tx.msg_from__set Tx.msg_to__get Tx.msg_to__set Tx.msg_sender_get Tx.msg_sender_set Tx.msg_receiver_get Tx.msg_receiver_set Tx.msg_seq_get Tx.msg_seq_set Tx.msg_token_get Tx.msg_token_set Tx.msg_amount_get Tx.msg_amount_set Tx.msg_size_get Tx.msg_size_set Tx.msg_payload_get Tx.msg_payload_set GOp.length_enc GOp.ok_enc GOp.all_get GOp.all_set GOp.kind_get GOp.kind_set GOp.tx_get GOp.tx_set GOp.txs_get GOp.txs_set GOp.gas_get GOp.gas_set GOp.acct_get GOp.acct_set GOp.token_get GOp.token_set GOp.chain_get GOp.chain_set GOp.seq_get GOp.seq_set GOp.tx_kind_get GOp.tx_kind_set GOp.tx_chain_get GOp.tx_chain_set GOp.tx_from__get GOp.tx_from__set GOp.tx_nonce_get GOp.tx_nonce_set GOp.tx_fee_get GOp.tx_fee_set GOp.tx_to__get GOp.tx_to__set GOp.tx_dest_get GOp.tx_dest_set GOp.tx_token_get GOp.tx_token_set GOp.tx_amount_get GOp.tx_amount_set GOp.tx_size_get GOp.tx_size_set GOp.tx_payload_get GOp.tx_payload_set GOp.tx_msg_get GOp.tx_msg_set GOp.tx_msg_kind_get GOp.tx_msg_kind_set GOp.tx_msg_from__get GOp.tx_msg_from__set GOp.tx_msg_to__get GOp.tx_msg_to__set GOp.tx_msg_sender_get GOp.tx_msg_sender_set GOp.tx_msg_receiver_get GOp.tx_msg_receiver_set GOp.tx_msg_seq_get GOp.tx_msg_seq_set GOp.tx_msg_token_get GOp.tx_msg_token_set GOp.tx_msg_amount_get GOp.tx_msg_amount_set GOp.tx_msg_size_get GOp.tx_msg_size_set GOp.tx_msg_payload_get GOp.tx_msg_payload_set Summary.length_enc Summary.ok_enc Summary.all_get Summary.all_set Summary.height_get Summary.height_set Summary.txs_get Summary.txs_set Summary.gas_get Summary.gas_set Summary.fees_get Summary.fees_set Summary.sent_get Summary.sent_set Summary.took_get Summary.took_set Summary.minted_get Summary.minted_set Summary.burned_get Summary.burned_set Summary.root_get Summary.root_set Detail.length_enc Detail.ok_enc Detail.all_get Detail.all_set Detail.code_get Detail.code_set Detail.have__get Detail.have__set Detail.need_get Detail.need_set Slot.length_enc Slot.ok_enc Slot.all_get Slot.all_set Slot.nonce_get Slot.nonce_set Slot.balances_get Slot.balances_set Tree.length_enc Tree.ok_enc Tree.all_get Tree.all_set Tree.leaves_get Tree.leaves_set Mark.length_enc Mark.ok_enc Mark.all_get Mark.all_set Mark.from__get Mark.from__set Mark.seq_get Mark.seq_set Receipt.length_enc Receipt.ok_enc Receipt.all_get Receipt.all_set Receipt.code_get Receipt.code_set Receipt.hash_get Receipt.hash_set Receipt.index_get Receipt.index_set Receipt.gas_get Receipt.gas_set Receipt.fee_get Receipt.fee_set Receipt.hasSent_get Receipt.hasSent_set Receipt.sent_get Receipt.sent_set Receipt.hasTook_get Receipt.hasTook_set Receipt.took_get Receipt.took_set Receipt.sent_kind_get Receipt.sent_kind_set Receipt.sent_from__get Receipt.sent_from__set Receipt.sent_to__get Receipt.sent_to__set Receipt.sent_sender_get Receipt.sent_sender_set Receipt.sent_receiver_get Receipt.sent_receiver_set Receipt.sent_seq_get Receipt.sent_seq_set Receipt.sent_token_get Receipt.sent_token_set Receipt.sent_amount_get Receipt.sent_amount_set Receipt.sent_size_get Receipt.sent_size_set Receipt.sent_payload_get Receipt.sent_payload_set Receipt.took_kind_get Receipt.took_kind_set Receipt.took_from__get Receipt.took_from__set Receipt.took_to__get Receipt.took_to__set Receipt.took_sender_get Receipt.took_sender_set Receipt.took_receiver_get Receipt.took_receiver_set Receipt.took_seq_get Receipt.took_seq_set Receipt.took_token_get Receipt.took_token_set Receipt.took_amount_get Receipt.took_amount_set Receipt.took_size_get Receipt.took_size_set Receipt.took_payload_get Receipt.took_payload_set Store.length_enc Store.ok_enc Store.all_get Store.all_set Store.now_get Store.now_set Store.saved_get Store.saved_set GState.length_enc GState.ok_enc GState.all_get GState.all_set GState.kv_get GState.kv_set GState.tree_get GState.tree_set GState.stale_get GState.stale_set GState.touched_get GState.touched_set GState.kv_now_get GState.kv_now_set GState.kv_saved_get GState.kv_saved_set GState.tree_leaves_get GState.tree_leaves_set History.length_enc History.ok_enc History.all_get History.all_set History.ring_get History.ring_set History.closed_get History.closed_set Ledger.length_enc Ledger.ok_enc Ledger.all_get Ledger.all_set Ledger.chain_get Ledger.chain_set Ledger.st_get Ledger.st_set Ledger.height_get Ledger.height_set Ledger.open__get Ledger.open__set Ledger.gasLimit_get Ledger.gasLimit_set Ledger.past_get Ledger.past_set Ledger.begun_get Ledger.begun_set Ledger.sent_get Ledger.sent_set Ledger.took_get Ledger.took_set Ledger.receipts_get Ledger.receipts_set Ledger.st_kv_get Ledger.st_kv_set Ledger.st_tree_get Ledger.st_tree_set Ledger.st_stale_get Ledger.st_stale_set Ledger.st_touched_get Ledger.st_touched_set Ledger.st_kv_now_get Ledger.st_kv_now_set Ledger.st_kv_saved_get Ledger.st_kv_saved_set Ledger.st_tree_leaves_get Ledger.st_tree_leaves_set Ledger.past_ring_get Ledger.past_ring_set Ledger.past_closed_get Ledger.past_closed_set Ledger.begun_kv_get Ledger.begun_kv_set Ledger.begun_tree_get Ledger.begun_tree_set Ledger.begun_stale_get Ledger.begun_stale_set Ledger.begun_touched_get Ledger.begun_touched_set Ledger.begun_kv_now_get Ledger.begun_kv_now_set Ledger.begun_kv_saved_get Ledger.begun_kv_saved_set Ledger.begun_tree_leaves_get Ledger.begun_tree_leaves_set Purse.length_enc Purse.ok_enc Purse.all_get Purse.all_set Purse.st_get Purse.st_set Purse.n_get Purse.n_set Purse.account_get Purse.account_set Purse.token_get Purse.token_set Purse.amount_get Purse.amount_set Plan.length_enc Plan.ok_enc Plan.all_get Plan.all_set Plan.purse_get Plan.purse_set Plan.nonce_get Plan.nonce_set Plan.gasUsed_get Plan.gasUsed_set Plan.fees_get Plan.fees_set Plan.hasSupply_get Plan.hasSupply_set Plan.token_get Plan.token_set Plan.supply_get Plan.supply_set Plan.flowAt_get Plan.flowAt_set Plan.flow_get Plan.flow_set Plan.receipt_get Plan.receipt_set Plan.purse_st_get Plan.purse_st_set Plan.purse_n_get Plan.purse_n_set Plan.purse_account_get Plan.purse_account_set Plan.purse_token_get Plan.purse_token_set Plan.purse_amount_get Plan.purse_amount_set Plan.receipt_code_get Plan.receipt_code_set Plan.receipt_hash_get Plan.receipt_hash_set Plan.receipt_index_get Plan.receipt_index_set Plan.receipt_gas_get Plan.receipt_gas_set Plan.receipt_fee_get Plan.receipt_fee_set Plan.receipt_hasSent_get Plan.receipt_hasSent_set Plan.receipt_sent_get Plan.receipt_sent_set Plan.receipt_hasTook_get Plan.receipt_hasTook_set Plan.receipt_took_get Plan.receipt_took_set Plan.receipt_sent_kind_get Plan.receipt_sent_kind_set Plan.receipt_sent_from__get Plan.receipt_sent_from__set Plan.receipt_sent_to__get Plan.receipt_sent_to__set Plan.receipt_sent_sender_get Plan.receipt_sent_sender_set Plan.receipt_sent_receiver_get Plan.receipt_sent_receiver_set Plan.receipt_sent_seq_get Plan.receipt_sent_seq_set Plan.receipt_sent_token_get Plan.receipt_sent_token_set Plan.receipt_sent_amount_get Plan.receipt_sent_amount_set Plan.receipt_sent_size_get Plan.receipt_sent_size_set Plan.receipt_sent_payload_get Plan.receipt_sent_payload_set Plan.receipt_took_kind_get Plan.receipt_took_kind_set Plan.receipt_took_from__get Plan.receipt_took_from__set Plan.receipt_took_to__get Plan.receipt_took_to__set Plan.receipt_took_sender_get Plan.receipt_took_sender_set Plan.receipt_took_receiver_get Plan.receipt_took_receiver_set Plan.receipt_took_seq_get Plan.receipt_took_seq_set Plan.receipt_took_token_get Plan.receipt_took_token_set Plan.receipt_took_amount_get Plan.receipt_took_amount_set Plan.receipt_took_size_get Plan.receipt_took_size_set Plan.receipt_took_payload_get Plan.receipt_took_payload_set Move.length_enc Move.ok_enc Move.all_get Move.all_set Move.account_get Move.account_set Move.token_get Move.token_set Move.down_get Move.down_set Move.amount_get Move.amount_set Books.length_enc Books.ok_enc Books.all_get Books.all_set Books.sums_get Books.sums_set Books.stored_get Books.stored_set Books.marks_get Books.marks_set Pair.length_enc Pair.ok_enc Pair.all_get Pair.all_set Pair.key_get Pair.key_set Pair.value_get Pair.value_set
attribute [local go_sem] size_put size_ext blk_put free_put blk_alloc free_alloc blk_drew free_drew blk_ext free_ext lookOr_some putOr_some segAt_some cellAt_some storeIn_some put_put put_alloc_new length_arr ok_arr_u8 ok_arr_u32 ok_arr_u64 ok_arr_i64 ok_arr_sl cellsV_agg cellsV_int cellsV_bool cellsV_string cellsV_pointer cellsV_slice cellsV_sl ok_int ok_bool ok_string ok_pointer ok_slice ok_sl toList_arr seg_arr set_arr nth_splice nth_splice0 seg_splice seg_splice0 splice_splice splice_splice0 length_splice_if
attribute [local go_sem ↓] execOp_box
attribute [local go_sem] box_run nth_arr_u8 put_arr_u8 blk_drewN free_drewN put_drewN blk_raw free_raw
theorem kNB (a : UInt8) (b s : UInt8) : (keyN a = keyB b s) = False := eq_false (tbl_ne (by rw [tbl_N, tbl_B]; decide))
theorem kNS (a : UInt8) (t : UInt8) : (keyN a = keyS t) = False := eq_false (tbl_ne (by rw [tbl_N, tbl_S]; decide))
theorem kNM (a : UInt8) (f : UInt8) (q : UInt64) : (keyN a = keyM f q) = False := eq_false (tbl_ne (by rw [tbl_N, tbl_M]; decide))
theorem kNC (a : UInt8) (c : UInt64) : (keyN a = keyC c) = False := eq_false (tbl_ne (by rw [tbl_N, tbl_C]; decide))
theorem kBN (b s : UInt8) (a : UInt8) : (keyB b s = keyN a) = False := eq_false (tbl_ne (by rw [tbl_B, tbl_N]; decide))
theorem kBS (b s : UInt8) (t : UInt8) : (keyB b s = keyS t) = False := eq_false (tbl_ne (by rw [tbl_B, tbl_S]; decide))
theorem kBM (b s : UInt8) (f : UInt8) (q : UInt64) : (keyB b s = keyM f q) = False := eq_false (tbl_ne (by rw [tbl_B, tbl_M]; decide))
theorem kBC (b s : UInt8) (c : UInt64) : (keyB b s = keyC c) = False := eq_false (tbl_ne (by rw [tbl_B, tbl_C]; decide))
theorem kSN (t : UInt8) (a : UInt8) : (keyS t = keyN a) = False := eq_false (tbl_ne (by rw [tbl_S, tbl_N]; decide))
theorem kSB (t : UInt8) (b s : UInt8) : (keyS t = keyB b s) = False := eq_false (tbl_ne (by rw [tbl_S, tbl_B]; decide))
theorem kSM (t : UInt8) (f : UInt8) (q : UInt64) : (keyS t = keyM f q) = False := eq_false (tbl_ne (by rw [tbl_S, tbl_M]; decide))
theorem kSC (t : UInt8) (c : UInt64) : (keyS t = keyC c) = False := eq_false (tbl_ne (by rw [tbl_S, tbl_C]; decide))
theorem kMN (f : UInt8) (q : UInt64) (a : UInt8) : (keyM f q = keyN a) = False := eq_false (tbl_ne (by rw [tbl_M, tbl_N]; decide))
theorem kMB (f : UInt8) (q : UInt64) (b s : UInt8) : (keyM f q = keyB b s) = False := eq_false (tbl_ne (by rw [tbl_M, tbl_B]; decide))
theorem kMS (f : UInt8) (q : UInt64) (t : UInt8) : (keyM f q = keyS t) = False := eq_false (tbl_ne (by rw [tbl_M, tbl_S]; decide))
theorem kMC (f : UInt8) (q : UInt64) (c : UInt64) : (keyM f q = keyC c) = False := eq_false (tbl_ne (by rw [tbl_M, tbl_C]; decide))
theorem kCN (c : UInt64) (a : UInt8) : (keyC c = keyN a) = False := eq_false (tbl_ne (by rw [tbl_C, tbl_N]; decide))
theorem kCB (c : UInt64) (b s : UInt8) : (keyC c = keyB b s) = False := eq_false (tbl_ne (by rw [tbl_C, tbl_B]; decide))
theorem kCS (c : UInt64) (t : UInt8) : (keyC c = keyS t) = False := eq_false (tbl_ne (by rw [tbl_C, tbl_S]; decide))
theorem kCM (c : UInt64) (f : UInt8) (q : UInt64) : (keyC c = keyM f q) = False := eq_false (tbl_ne (by rw [tbl_C, tbl_M]; decide))
theorem kCC {c d : UInt64} (hc : c.toNat < 300) (hd : d.toNat < 300) : (keyC c = keyC d) = (c = d) := by
  refine propext ⟨fun h => keyC_inj (by omega) (by omega) h, fun h => by rw [h]⟩
theorem kNN (a b : UInt8) : (keyN a = keyN b) = (a = b) := propext ⟨keyN_inj, fun h => by rw [h]⟩
theorem kSS (a b : UInt8) : (keyS a = keyS b) = (a = b) := propext ⟨keyS_inj, fun h => by rw [h]⟩
theorem kBB (a b s t : UInt8) : (keyB a s = keyB b t) = (a = b ∧ s = t) := propext ⟨keyB_inj, fun h => by rw [h.1, h.2]⟩
theorem keyM_inj {f g : UInt8} {s q : UInt64} (hs : s.toNat < 281474976710656) (hq : q.toNat < 281474976710656) (h : keyM f s = keyM g q) : f = g ∧ s = q := by
  have h1 := congrArg UInt64.toNat h
  have e1 : (keyM f s).toNat = 288230376151711744 + (f.toNat * 281474976710656 + s.toNat) := by
    unfold keyM
    rw [UInt64.toNat_ofNat', Nat.mod_eq_of_lt hs]
    have := f.toNat_lt
    omega
  have e2 : (keyM g q).toNat = 288230376151711744 + (g.toNat * 281474976710656 + q.toNat) := by
    unfold keyM
    rw [UInt64.toNat_ofNat', Nat.mod_eq_of_lt hq]
    have := g.toNat_lt
    omega
  rw [e1, e2] at h1
  exact ⟨UInt8.toNat_inj.1 (by omega), UInt64.toNat_inj.1 (by omega)⟩
theorem kMM {f g : UInt8} {s q : UInt64} (hs : s.toNat < 281474976710656) (hq : q.toNat < 281474976710656) : (keyM f s = keyM g q) = (f = g ∧ s = q) := propext ⟨keyM_inj hs hq, fun h => by rw [h.1, h.2]⟩
/-- An accepted transaction: what it leaves. -/
noncomputable def accL (L : PLg) (x : Tx) : PLg := { enactF L x (plnH L 0 x) (purL L.st.now x) with receipts := L.receipts.take (ldF L.st.now (keyC 3)).toNat ++ [appR L x] }
theorem appF_acc {L : PLg} {x : Tx} (h : (judR L 0 x).1 = 0) : appF L x = (accL L x, appR L x) := by
  unfold appF
  rw [if_pos h]; rfl
theorem appF_ref {L : PLg} {x : Tx} (h : (judR L 0 x).1 ≠ 0) : appF L x = (L, { Receipt.zero with code := (judR L 0 x).1, hash := hashF x }) := by
  unfold appF
  rw [if_neg h]
def isS (x : Tx) : Prop := w8 x.kind = 2 ∨ w8 x.kind = 4
def isT (x : Tx) : Prop := w8 x.kind = 3 ∨ w8 x.kind = 5
instance (x : Tx) : Decidable (isS x) := inferInstanceAs (Decidable (_ ∨ _))
instance (x : Tx) : Decidable (isT x) := inferInstanceAs (Decidable (_ ∨ _))
def accN0 (L : PLg) (x : Tx) : List Pair := saveF (flF L.st (purL L.st.now x)).now (keyN x.from_) (ldF L.st.now (keyN x.from_) + 1)
def accN1 (L : PLg) (x : Tx) : List Pair :=
  if w8 x.kind = 2 then saveF (saveF (accN0 L x) (keyS x.token) (ldF L.st.now (keyS x.token) - x.amount)) (keyC (fU 11 x.token)) (ldF L.st.now (keyC (fU 11 x.token)) + x.amount)
  else if w8 x.kind = 3 then saveF (saveF (accN0 L x) (keyS x.msg.token) (ldF L.st.now (keyS x.msg.token) + x.msg.amount)) (keyC (fU 7 x.msg.token)) (ldF L.st.now (keyC (fU 7 x.msg.token)) + x.msg.amount)
  else accN0 L x
def accN2 (L : PLg) (x : Tx) : List Pair := saveF (saveF (saveF (accN1 L x) (keyC 1) (ldF L.st.now (keyC 1) + gasU x)) (keyC 2) (ldF L.st.now (keyC 2) + x.fee)) (keyC 3) (ldF L.st.now (keyC 3) + 1)
def accN (L : PLg) (x : Tx) : List Pair :=
  if isS x then saveF (accN2 L x) (keyC 4) (ldF L.st.now (keyC 4) + 1)
  else if isT x then saveF (saveF (saveF (accN2 L x) (keyC 5) (ldF L.st.now (keyC 5) + 1)) (keyM x.msg.from_ x.msg.seq) 1) (keyC 6) (ldF L.st.now (keyC 6) + 1)
  else accN2 L x
theorem rcpF_S {L : PLg} {x : Tx} : (rcpF L x).hasSent = true ↔ isS x := by
  unfold rcpF isS
  by_cases h1 : w8 x.kind = 1
  · rw [if_pos h1]
    have : ¬ (w8 x.kind = 2 ∨ w8 x.kind = 4) := by omega
    simp only [this, iff_false]
    exact Bool.false_ne_true
  · rw [if_neg h1]
    by_cases h2 : w8 x.kind = 2
    · rw [if_pos h2]; simp [h2]
    · rw [if_neg h2]
      by_cases h4 : w8 x.kind = 4
      · rw [if_pos h4]; simp [h4]
      · rw [if_neg h4]
        simp only [h2, h4, or_self, iff_false]
        exact Bool.false_ne_true
theorem rcpF_T {L : PLg} {x : Tx} (h : JOk L x) : (rcpF L x).hasTook = true ↔ isT x := by
  have hk := shp_kind h.shp
  unfold rcpF isT
  by_cases h1 : w8 x.kind = 1
  · rw [if_pos h1]
    have : ¬ (w8 x.kind = 3 ∨ w8 x.kind = 5) := by omega
    simp only [this, iff_false]
    exact Bool.false_ne_true
  · rw [if_neg h1]
    by_cases h2 : w8 x.kind = 2
    · rw [if_pos h2]
      have : ¬ (w8 x.kind = 3 ∨ w8 x.kind = 5) := by omega
      simp only [this, iff_false]
      exact Bool.false_ne_true
    · rw [if_neg h2]
      by_cases h4 : w8 x.kind = 4
      · rw [if_pos h4]
        have : ¬ (w8 x.kind = 3 ∨ w8 x.kind = 5) := by omega
        simp only [this, iff_false]
        exact Bool.false_ne_true
      · rw [if_neg h4]
        have : (w8 x.kind = 3 ∨ w8 x.kind = 5) := by omega
        simp only [this]
theorem enS_now (L : PLg) (x : Tx) : (enS L.st x (plnH L 0 x) (purL L.st.now x)).now = accN2 L x := by
  have e0 : (enS0 L.st x (plnH L 0 x) (purL L.st.now x)).now = accN0 L x := by
    unfold enS0 accN0 plnH plnF pln0
    dsimp only
    congr 1
    (repeat' split) <;> rfl
  have e1 : (enS1 (enS0 L.st x (plnH L 0 x) (purL L.st.now x)) (plnH L 0 x)).now = accN1 L x := by
    unfold enS1 accN1
    rw [← e0]
    generalize (enS0 L.st x (plnH L 0 x) (purL L.st.now x)) = S
    unfold plnH plnF
    by_cases h2 : w8 x.kind = 2
    · rw [if_pos h2, if_pos h2]; rfl
    · rw [if_neg h2, if_neg h2]
      by_cases h3 : w8 x.kind = 3
      · rw [if_pos h3, if_pos h3]; rfl
      · rw [if_neg h3, if_neg h3]; rfl
  unfold enS enS2 accN2
  rw [← e1]
  generalize (enS1 (enS0 L.st x (plnH L 0 x) (purL L.st.now x)) (plnH L 0 x)) = S
  have g1 : (plnH L 0 x).gasUsed = ldF L.st.now (keyC 1) + gasU x := by
    unfold plnH plnF pln0
    (repeat' split) <;> rfl
  have g2 : (plnH L 0 x).fees = ldF L.st.now (keyC 2) + x.fee := by
    unfold plnH plnF pln0
    (repeat' split) <;> rfl
  have g3 : (plnH L 0 x).receipt.index = ldF L.st.now (keyC 3) := rcpF_index L x
  rw [g1, g2, g3]
theorem fU7_nt {t : UInt8} (h : t.toNat < 4) : (fU 7 t).toNat = 7 + t.toNat := fU_nat (by decide) t
theorem fU11_nt {t : UInt8} (h : t.toNat < 4) : (fU 11 t).toNat = 11 + t.toNat := fU_nat (by decide) t
theorem acc_now {L : PLg} {x : Tx} (h : JOk L x) : (accL L x).st.now = accN L x := by
  have hs := shp_ok h.shp
  show (enactF L x (plnH L 0 x) (purL L.st.now x)).st.now = _
  unfold enactF accN
  have e4 := ldF_enS_C (L := L) (bl := 0) (x := x) 4 (by decide)
  have e5 := ldF_enS_C (L := L) (bl := 0) (x := x) 5 (by decide)
  have e6 := ldF_enS_C (L := L) (bl := 0) (x := x) 6 (by decide)
  have eS : (plnH L 0 x).receipt.hasSent = (rcpF L x).hasSent := rfl
  have eT : (plnH L 0 x).receipt.hasTook = (rcpF L x).hasTook := rfl
  by_cases hS : isS x
  · rw [if_pos hS, if_pos (by rw [eS]; exact rcpF_S.2 hS)]
    dsimp only
    rw [e4, enS_now]
  · rw [if_neg hS, if_neg (by rw [eS]; exact fun q => hS (rcpF_S.1 q))]
    by_cases hT : isT x
    · rw [if_pos hT, if_pos (by rw [eT]; exact (rcpF_T h).2 hT)]
      have et : (plnH L 0 x).receipt.took = x.msg := (rcpF_took ((rcpF_T h).2 hT)).1
      unfold markF
      dsimp only
      rw [et, ldF_save, if_neg (by rw [kCM]; exact id), ldF_save, if_neg (by rw [kCC (by decide) (by decide)]; decide), e5, e6, enS_now]
    · rw [if_neg hT, if_neg (by rw [eT]; exact fun q => hT ((rcpF_T h).1 q))]
      dsimp only
      rw [enS_now]

theorem rd_N2 (L : PLg) (x : Tx) (k : UInt64) : ldF (accN2 L x) k = if k = keyC 3 then ldF L.st.now (keyC 3) + 1 else if k = keyC 2 then ldF L.st.now (keyC 2) + x.fee else if k = keyC 1 then ldF L.st.now (keyC 1) + gasU x else ldF (accN1 L x) k := by
  unfold accN2
  rw [ldF_save, ldF_save, ldF_save]
theorem rd_N (L : PLg) (x : Tx) (k : UInt64) (h4 : k ≠ keyC 4) (h5 : k ≠ keyC 5) (h6 : k ≠ keyC 6) (hM : isT x → k ≠ keyM x.msg.from_ x.msg.seq) : ldF (accN L x) k = ldF (accN2 L x) k := by
  unfold accN
  by_cases hS : isS x
  · rw [if_pos hS, ldF_save, if_neg h4]
  · rw [if_neg hS]
    by_cases hT : isT x
    · rw [if_pos hT, ldF_save, if_neg h6, ldF_save, if_neg (hM hT), ldF_save, if_neg h5]
    · rw [if_neg hT]
theorem rd_noC (L : PLg) (x : Tx) (k : UInt64) (hc : ∀ c, k ≠ keyC c) (hM : isT x → k ≠ keyM x.msg.from_ x.msg.seq) : ldF (accN L x) k = ldF (accN1 L x) k := by
  rw [rd_N L x k (hc 4) (hc 5) (hc 6) hM, rd_N2, if_neg (hc 3), if_neg (hc 2), if_neg (hc 1)]
theorem rd_N1 (L : PLg) (x : Tx) (k : UInt64) (hc : ∀ c, k ≠ keyC c) (hs : ∀ t, k ≠ keyS t) : ldF (accN1 L x) k = ldF (accN0 L x) k := by
  unfold accN1
  by_cases h2 : w8 x.kind = 2
  · rw [if_pos h2, ldF_save, if_neg (hc _), ldF_save, if_neg (hs _)]
  · rw [if_neg h2]
    by_cases h3 : w8 x.kind = 3
    · rw [if_pos h3, ldF_save, if_neg (hc _), ldF_save, if_neg (hs _)]
    · rw [if_neg h3]
theorem ne_of_false {p : Prop} (h : p = False) : ¬ p := by rw [h]; exact id
section
variable {L : PLg} {x : Tx}
/-- An accepted transaction's nonce. -/
theorem acc_N (h : JOk L x) (a : UInt8) : ldF (accL L x).st.now (keyN a) = if a = x.from_ then ldF L.st.now (keyN a) + 1 else ldF L.st.now (keyN a) := by
  rw [acc_now h, rd_noC _ _ _ (fun c => ne_of_false (kNC a c)) (fun _ => ne_of_false (kNM a _ _)), rd_N1 _ _ _ (fun c => ne_of_false (kNC a c)) (fun t => ne_of_false (kNS a t))]
  unfold accN0
  rw [ldF_save]
  by_cases e : a = x.from_
  · rw [if_pos (by rw [e]), if_pos e, e]
  · rw [if_neg (by rw [kNN]; exact e), if_neg e, ldF_fl _ _ _ (fun e _ => ne_of_false (kNB a _ _))]
theorem acc_B (h : JOk L x) (a t : UInt8) : ldF (accL L x).st.now (keyB a t) = finB (balB L.st.now) x a t := by
  rw [acc_now h, rd_noC _ _ _ (fun c => ne_of_false (kBC a t c)) (fun _ => ne_of_false (kBM a t _ _)), rd_N1 _ _ _ (fun c => ne_of_false (kBC a t c)) (fun s => ne_of_false (kBS a t s))]
  unfold accN0
  rw [ldF_save, if_neg (ne_of_false (kBN a t _)), ldF_flB _ _ (DistP.pur _ _), pv_pur h]
theorem acc_S (h : JOk L x) (t : UInt8) : ldF (accL L x).st.now (keyS t) = if w8 x.kind = 2 ∧ t = x.token then ldF L.st.now (keyS t) - x.amount else if w8 x.kind = 3 ∧ t = x.msg.token then ldF L.st.now (keyS t) + x.msg.amount else ldF L.st.now (keyS t) := by
  have e0 : ldF (accN0 L x) (keyS t) = ldF L.st.now (keyS t) := by
    unfold accN0
    rw [ldF_save, if_neg (ne_of_false (kSN t _)), ldF_fl _ _ _ (fun e _ => ne_of_false (kSB t _ _))]
  rw [acc_now h, rd_noC _ _ _ (fun c => ne_of_false (kSC t c)) (fun _ => ne_of_false (kSM t _ _))]
  unfold accN1
  by_cases h2 : w8 x.kind = 2
  · rw [if_pos h2, ldF_save, if_neg (ne_of_false (kSC t _)), ldF_save]
    by_cases e : t = x.token
    · rw [if_pos (by rw [e]), if_pos ⟨h2, e⟩, e]
    · rw [if_neg (by rw [kSS]; exact e), if_neg (fun q => e q.2), if_neg (fun q => by omega), e0]
  · rw [if_neg h2, if_neg (c := w8 x.kind = 2 ∧ t = x.token) (fun q => h2 q.1)]
    by_cases h3 : w8 x.kind = 3
    · rw [if_pos h3, ldF_save, if_neg (ne_of_false (kSC t _)), ldF_save]
      by_cases e : t = x.msg.token
      · rw [if_pos (by rw [e]), if_pos ⟨h3, e⟩, e]
      · rw [if_neg (by rw [kSS]; exact e), if_neg (fun q => e q.2), e0]
    · rw [if_neg h3, if_neg (c := w8 x.kind = 3 ∧ t = x.msg.token) (fun q => h3 q.1), e0]
theorem acc_M (h : JOk L x) (f : UInt8) (s : UInt64) (hs : s.toNat < 281474976710656) : ldF (accL L x).st.now (keyM f s) = if isT x ∧ f = x.msg.from_ ∧ s = x.msg.seq then 1 else ldF L.st.now (keyM f s) := by
  have e0 : ldF (accN2 L x) (keyM f s) = ldF L.st.now (keyM f s) := by
    rw [rd_N2, if_neg (ne_of_false (kMC f s _)), if_neg (ne_of_false (kMC f s _)), if_neg (ne_of_false (kMC f s _)), rd_N1 _ _ _ (fun c => ne_of_false (kMC f s c)) (fun t => ne_of_false (kMS f s t))]
    unfold accN0
    rw [ldF_save, if_neg (ne_of_false (kMN f s _)), ldF_fl _ _ _ (fun e _ => ne_of_false (kMB f s _ _))]
  rw [acc_now h]
  by_cases hT : isT x
  · have hq := (shp_ok h.shp).seq hT
    have hS : ¬ isS x := by unfold isS; unfold isT at hT; omega
    unfold accN
    rw [if_neg hS, if_pos hT, ldF_save, if_neg (ne_of_false (kMC f s _)), ldF_save]
    by_cases e : f = x.msg.from_ ∧ s = x.msg.seq
    · rw [if_pos (by rw [e.1, e.2]), if_pos ⟨hT, e⟩]
    · rw [if_neg (by rw [kMM hs hq]; exact e), if_neg (fun q => e q.2), ldF_save, if_neg (ne_of_false (kMC f s _)), e0]
  · rw [if_neg (fun q => hT q.1), rd_N _ _ _ (ne_of_false (kMC f s _)) (ne_of_false (kMC f s _)) (ne_of_false (kMC f s _)) (fun q => absurd q hT), e0]
/-- The counters 1 to 6. -/
theorem acc_lo (h : JOk L x) : ldF (accL L x).st.now (keyC 1) = ldF L.st.now (keyC 1) + gasU x ∧ ldF (accL L x).st.now (keyC 2) = ldF L.st.now (keyC 2) + x.fee ∧ ldF (accL L x).st.now (keyC 3) = ldF L.st.now (keyC 3) + 1 := by
  have nc : ∀ c d : UInt64, c.toNat < 300 → d.toNat < 300 → c ≠ d → keyC c ≠ keyC d := fun c d h1 h2 h3 => by rw [Ne, kCC h1 h2]; exact h3
  rw [acc_now h]
  refine ⟨?_, ?_, ?_⟩
  · rw [rd_N _ _ _ (nc _ _ (by decide) (by decide) (by decide)) (nc _ _ (by decide) (by decide) (by decide)) (nc _ _ (by decide) (by decide) (by decide)) (fun _ => ne_of_false (kCM _ _ _)), rd_N2, if_neg (nc _ _ (by decide) (by decide) (by decide)), if_neg (nc _ _ (by decide) (by decide) (by decide)), if_pos rfl]
  · rw [rd_N _ _ _ (nc _ _ (by decide) (by decide) (by decide)) (nc _ _ (by decide) (by decide) (by decide)) (nc _ _ (by decide) (by decide) (by decide)) (fun _ => ne_of_false (kCM _ _ _)), rd_N2, if_neg (nc _ _ (by decide) (by decide) (by decide)), if_pos rfl]
  · rw [rd_N _ _ _ (nc _ _ (by decide) (by decide) (by decide)) (nc _ _ (by decide) (by decide) (by decide)) (nc _ _ (by decide) (by decide) (by decide)) (fun _ => ne_of_false (kCM _ _ _)), rd_N2, if_pos rfl]
theorem rd_N2_C (c : UInt64) (hc : 4 ≤ c.toNat ∧ c.toNat < 7) : ldF (accN2 L x) (keyC c) = ldF L.st.now (keyC c) := by
  rw [← enS_now]
  exact ldF_enS_C c hc
theorem acc_mid (h : JOk L x) : ldF (accL L x).st.now (keyC 4) = (if isS x then ldF L.st.now (keyC 4) + 1 else ldF L.st.now (keyC 4)) ∧ ldF (accL L x).st.now (keyC 5) = (if isT x then ldF L.st.now (keyC 5) + 1 else ldF L.st.now (keyC 5)) ∧ ldF (accL L x).st.now (keyC 6) = (if isT x then ldF L.st.now (keyC 6) + 1 else ldF L.st.now (keyC 6)) := by
  have nc : ∀ c d : UInt64, c.toNat < 300 → d.toNat < 300 → c ≠ d → keyC c ≠ keyC d := fun c d h1 h2 h3 => by rw [Ne, kCC h1 h2]; exact h3
  rw [acc_now h]
  unfold accN
  by_cases hS : isS x
  · have hT : ¬ isT x := by unfold isT; unfold isS at hS; omega
    rw [if_pos hS, if_pos hS, if_neg hT, if_neg hT, ldF_same, ldF_ne _ _ _ (nc _ _ (by decide) (by decide) (by decide)), ldF_ne _ _ _ (nc _ _ (by decide) (by decide) (by decide)), rd_N2_C 5 (by decide), rd_N2_C 6 (by decide)]
    exact ⟨rfl, rfl, rfl⟩
  · rw [if_neg hS, if_neg hS]
    by_cases hT : isT x
    · rw [if_pos hT, if_pos hT, if_pos hT, ldF_same]
      rw [ldF_ne _ (keyC 6) _ (nc 4 _ (by decide) (by decide) (by decide)), ldF_ne _ (keyC 6) _ (nc 5 _ (by decide) (by decide) (by decide)), ldF_ne _ (keyM _ _) _ (ne_of_false (kCM 4 _ _)), ldF_ne _ (keyM _ _) _ (ne_of_false (kCM 5 _ _)), ldF_same, ldF_ne _ (keyC 5) _ (nc 4 _ (by decide) (by decide) (by decide)), rd_N2_C 4 (by decide)]
      exact ⟨rfl, rfl, rfl⟩
    · rw [if_neg hT, if_neg hT, if_neg hT, rd_N2_C 4 (by decide), rd_N2_C 5 (by decide), rd_N2_C 6 (by decide)]
      exact ⟨rfl, rfl, rfl⟩
/-- The counters from 7 on. -/
theorem acc_hi (h : JOk L x) (c : UInt64) (hc : 7 ≤ c.toNat ∧ c.toNat < 300) : ldF (accL L x).st.now (keyC c) = if w8 x.kind = 2 ∧ c = fU 11 x.token then ldF L.st.now (keyC c) + x.amount else if w8 x.kind = 3 ∧ c = fU 7 x.msg.token then ldF L.st.now (keyC c) + x.msg.amount else ldF L.st.now (keyC c) := by
  have nc : ∀ d : UInt64, d.toNat < 7 → keyC c ≠ keyC d := fun d h2 => by
    rw [Ne, kCC (by omega) (by omega)]
    rintro rfl
    omega
  have hs := shp_ok h.shp
  have e0 : ldF (accN0 L x) (keyC c) = ldF L.st.now (keyC c) := by
    unfold accN0
    rw [ldF_save, if_neg (ne_of_false (kCN c _)), ldF_fl _ _ _ (fun e _ => ne_of_false (kCB c _ _))]
  rw [acc_now h, rd_N _ _ _ (nc _ (by decide)) (nc _ (by decide)) (nc _ (by decide)) (fun _ => ne_of_false (kCM _ _ _)), rd_N2, if_neg (nc _ (by decide)), if_neg (nc _ (by decide)), if_neg (nc _ (by decide))]
  unfold accN1
  by_cases h2 : w8 x.kind = 2
  · have ht := hs.brn h2
    rw [if_pos h2, ldF_save]
    by_cases e : c = fU 11 x.token
    · rw [if_pos (by rw [e]), if_pos ⟨h2, e⟩, e]
    · rw [if_neg (by rw [kCC (by omega) (by rw [fU11_nt ht]; omega)]; exact e), if_neg (fun q => e q.2), if_neg (fun q => by omega), ldF_save, if_neg (ne_of_false (kCS c _)), e0]
  · rw [if_neg h2, if_neg (c := w8 x.kind = 2 ∧ c = fU 11 x.token) (fun q => h2 q.1)]
    by_cases h3 : w8 x.kind = 3
    · have ht := (hs.mnt h3).2
      rw [if_pos h3, ldF_save]
      by_cases e : c = fU 7 x.msg.token
      · rw [if_pos (by rw [e]), if_pos ⟨h3, e⟩, e]
      · rw [if_neg (by rw [kCC (by omega) (by rw [fU7_nt ht]; omega)]; exact e), if_neg (fun q => e q.2), ldF_save, if_neg (ne_of_false (kCS c _)), e0]
    · rw [if_neg h3, if_neg (c := w8 x.kind = 3 ∧ c = fU 7 x.msg.token) (fun q => h3 q.1), e0]
end
end Go.Proofs.Qxb6500786aGreat
