import Derived.DeepKeys2
import Derived.Test.Qxb6500786aGreatNu

import Derived.StillTailTactics
import Derived.Deep.QuietTactic
import Derived.BigQuiet
import Derived.Deep.RegionHeld
import Derived.Deep.CutRange
import Derived.Laws.ResultCell
import Derived.Laws.Rows
import Derived.DeepKeys
import Derived.DataBytes
import Derived.Laws.StructEq
import Derived.Laws.AppendOwn
import Derived.Laws.MakeOwn
import Derived.Lib.AppendStr
set_option linter.unusedSimpArgs false
set_option linter.unusedVariables false
namespace Go.Proofs.Qxb6500786aGreat
open Go.RowKit Go.Blk
attribute [local go_sem ↓] execOp_load execOp_store execOp_alloc
attribute [local go_sem] Tryz.ld24 Tryz.st24 Tryz.ld36 Tryz.st36 Tryz.ld28 Tryz.st28 Tryz.ld32 Tryz.st32 Tryz.ld33 Tryz.st33 Tryz.ld34 Tryz.st34 Tryz.ld5 Tryz.st5 Tryz.ld31 Tryz.st31 Tryz.ld30 Tryz.st30 Tryz.ld41 Tryz.st41 Tryz.ld44 Tryz.st44 Tryz.ld4 Tryz.st4 Tryz.ld173 Tryz.st173 Tryz.ld174 Tryz.st174 Tryz.ld95 Tryz.st95 Tryz.ld45 Tryz.st45 Tryz.ld207 Tryz.st207 Tryz.ld3 Tryz.st3 Tryz.ld189 Tryz.st189 Tryz.ld2 Tryz.st2 Tryz.ld9 Tryz.st9 Tryz.ld12 Tryz.st12 Tryz.ld21 Tryz.st21 Tryz.ld22 Tryz.st22 Tryz.ld46 Tryz.st46 Tryz.ld92 Tryz.st92 Tryz.ld94 Tryz.st94 Tryz.ld96 Tryz.st96 Tryz.ld97 Tryz.st97 Tryz.ld105 Tryz.st105 Tryz.ld117 Tryz.st117 Tryz.ld122 Tryz.st122 Tryz.ld123 Tryz.st123 Tryz.ld133 Tryz.st133 Tryz.ld155 Tryz.st155 Tryz.ld163 Tryz.st163 Tryz.ld190 Tryz.st190 Tryz.ld197 Tryz.st197 Tryz.ld201 Tryz.st201 Tryz.ld202 Tryz.st202 Tryz.ld209 Tryz.st209 Tryz.ld216 Tryz.st216 Tryz.ld230 Tryz.st230 Tryz.ld238 Tryz.st238 Tryz.ld242 Tryz.st242 Tryz.ld251 Tryz.st251 Tryz.ld260 Tryz.st260 Tryz.ld286 Tryz.st286 Tryz.ld292 Tryz.st292 Tryz.ld298 Tryz.st298 Tryz.ld309 Tryz.st309 Tryz.ld35 Tryz.st35 Tryz.ld48 Tryz.st48 Tryz.ld47 Tryz.st47 Tryz.ld79 Tryz.st79 Tryz.ld177 Tryz.st177 Tryz.ld180 Tryz.st180 Tryz.ld231 Tryz.st231 Tryz.ld232 Tryz.st232 Tryz.ld26 Tryz.st26 Tryz.ld38 Tryz.st38 Tryz.ld40 Tryz.st40 Tryz.ld43 Tryz.st43 Tryz.ld50 Tryz.st50 Tryz.ld52 Tryz.st52 Tryz.ld54 Tryz.st54 Tryz.ld81 Tryz.st81 Tryz.ld112 Tryz.st112 Tryz.ld120 Tryz.st120 Tryz.ld176 Tryz.st176 Tryz.ld179 Tryz.st179 Tryz.ld182 Tryz.st182 Tryz.ld184 Tryz.st184 Tryz.ld234 Tryz.st234 Tryz.ld236 Tryz.st236 Tryz.ld240 Tryz.st240 Tryz.ld246 Tryz.st246 Tryz.ld249 Tryz.st249 Tryz.al35 Tryz.al48 Tryz.al47 Tryz.al79 Tryz.al177 Tryz.al180 Tryz.al231 Tryz.al232 Tryz.al26 Tryz.al38 Tryz.al40 Tryz.al43 Tryz.al50 Tryz.al52 Tryz.al54 Tryz.al81 Tryz.al112 Tryz.al120 Tryz.al176 Tryz.al179 Tryz.al182 Tryz.al184 Tryz.al234 Tryz.al236 Tryz.al240 Tryz.al246 Tryz.al249
attribute [local go_sem] Player.length_enc Player.ok_enc Player.all_get Player.all_set Player.hand_get Player.hand_set Player.aside_get Player.aside_set Message.length_enc Message.ok_enc Message.all_get Message.all_set Message.kind_get Message.kind_set Message.from__get Message.from__set Message.to__get Message.to__set Message.sender_get Message.sender_set Message.receiver_get Message.receiver_set Message.seq_get Message.seq_set Message.token_get Message.token_set Message.amount_get Message.amount_set Message.size_get Message.size_set Message.payload_get Message.payload_set Tx.length_enc Tx.ok_enc Tx.all_get Tx.all_set Tx.kind_get Tx.kind_set Tx.chain_get Tx.chain_set Tx.from__get Tx.from__set Tx.nonce_get Tx.nonce_set Tx.fee_get Tx.fee_set Tx.to__get Tx.to__set Tx.dest_get Tx.dest_set Tx.token_get Tx.token_set Tx.amount_get Tx.amount_set Tx.size_get Tx.size_set Tx.payload_get Tx.payload_set Tx.msg_get Tx.msg_set Tx.msg_kind_get Tx.msg_kind_set Tx.msg_from__get Tx.msg_from__set Tx.msg_to__get Tx.msg_to__set Tx.msg_sender_get Tx.msg_sender_set Tx.msg_receiver_get Tx.msg_receiver_set Tx.msg_seq_get Tx.msg_seq_set Tx.msg_token_get Tx.msg_token_set Tx.msg_amount_get Tx.msg_amount_set Tx.msg_size_get Tx.msg_size_set Tx.msg_payload_get Tx.msg_payload_set GOp.length_enc GOp.ok_enc GOp.all_get GOp.all_set GOp.kind_get GOp.kind_set GOp.tx_get GOp.tx_set GOp.txs_get GOp.txs_set GOp.gas_get GOp.gas_set GOp.acct_get GOp.acct_set GOp.token_get GOp.token_set GOp.chain_get GOp.chain_set GOp.seq_get GOp.seq_set GOp.tx_kind_get GOp.tx_kind_set GOp.tx_chain_get GOp.tx_chain_set GOp.tx_from__get GOp.tx_from__set GOp.tx_nonce_get GOp.tx_nonce_set GOp.tx_fee_get GOp.tx_fee_set GOp.tx_to__get GOp.tx_to__set GOp.tx_dest_get GOp.tx_dest_set GOp.tx_token_get GOp.tx_token_set GOp.tx_amount_get GOp.tx_amount_set GOp.tx_size_get GOp.tx_size_set GOp.tx_payload_get GOp.tx_payload_set GOp.tx_msg_get GOp.tx_msg_set GOp.tx_msg_kind_get GOp.tx_msg_kind_set GOp.tx_msg_from__get GOp.tx_msg_from__set GOp.tx_msg_to__get GOp.tx_msg_to__set GOp.tx_msg_sender_get GOp.tx_msg_sender_set GOp.tx_msg_receiver_get GOp.tx_msg_receiver_set GOp.tx_msg_seq_get GOp.tx_msg_seq_set GOp.tx_msg_token_get GOp.tx_msg_token_set GOp.tx_msg_amount_get GOp.tx_msg_amount_set GOp.tx_msg_size_get GOp.tx_msg_size_set GOp.tx_msg_payload_get GOp.tx_msg_payload_set Summary.length_enc Summary.ok_enc Summary.all_get Summary.all_set Summary.height_get Summary.height_set Summary.txs_get Summary.txs_set Summary.gas_get Summary.gas_set Summary.fees_get Summary.fees_set Summary.sent_get Summary.sent_set Summary.took_get Summary.took_set Summary.minted_get Summary.minted_set Summary.burned_get Summary.burned_set Summary.root_get Summary.root_set Detail.length_enc Detail.ok_enc Detail.all_get Detail.all_set Detail.code_get Detail.code_set Detail.have__get Detail.have__set Detail.need_get Detail.need_set Slot.length_enc Slot.ok_enc Slot.all_get Slot.all_set Slot.nonce_get Slot.nonce_set Slot.balances_get Slot.balances_set Tree.length_enc Tree.ok_enc Tree.all_get Tree.all_set Tree.leaves_get Tree.leaves_set Mark.length_enc Mark.ok_enc Mark.all_get Mark.all_set Mark.from__get Mark.from__set Mark.seq_get Mark.seq_set Receipt.length_enc Receipt.ok_enc Receipt.all_get Receipt.all_set Receipt.code_get Receipt.code_set Receipt.hash_get Receipt.hash_set Receipt.index_get Receipt.index_set Receipt.gas_get Receipt.gas_set Receipt.fee_get Receipt.fee_set Receipt.hasSent_get Receipt.hasSent_set Receipt.sent_get Receipt.sent_set Receipt.hasTook_get Receipt.hasTook_set Receipt.took_get Receipt.took_set Receipt.sent_kind_get Receipt.sent_kind_set Receipt.sent_from__get Receipt.sent_from__set Receipt.sent_to__get Receipt.sent_to__set Receipt.sent_sender_get Receipt.sent_sender_set Receipt.sent_receiver_get Receipt.sent_receiver_set Receipt.sent_seq_get Receipt.sent_seq_set Receipt.sent_token_get Receipt.sent_token_set Receipt.sent_amount_get Receipt.sent_amount_set Receipt.sent_size_get Receipt.sent_size_set Receipt.sent_payload_get Receipt.sent_payload_set Receipt.took_kind_get Receipt.took_kind_set Receipt.took_from__get Receipt.took_from__set Receipt.took_to__get Receipt.took_to__set Receipt.took_sender_get Receipt.took_sender_set Receipt.took_receiver_get Receipt.took_receiver_set Receipt.took_seq_get Receipt.took_seq_set Receipt.took_token_get Receipt.took_token_set Receipt.took_amount_get Receipt.took_amount_set Receipt.took_size_get Receipt.took_size_set Receipt.took_payload_get Receipt.took_payload_set Store.length_enc Store.ok_enc Store.all_get Store.all_set Store.now_get Store.now_set Store.saved_get Store.saved_set GState.length_enc GState.ok_enc GState.all_get GState.all_set GState.kv_get GState.kv_set GState.tree_get GState.tree_set GState.stale_get GState.stale_set GState.touched_get GState.touched_set GState.kv_now_get GState.kv_now_set GState.kv_saved_get GState.kv_saved_set GState.tree_leaves_get GState.tree_leaves_set History.length_enc History.ok_enc History.all_get History.all_set History.ring_get History.ring_set History.closed_get History.closed_set Ledger.length_enc Ledger.ok_enc Ledger.all_get Ledger.all_set Ledger.chain_get Ledger.chain_set Ledger.st_get Ledger.st_set Ledger.height_get Ledger.height_set Ledger.open__get Ledger.open__set Ledger.gasLimit_get Ledger.gasLimit_set Ledger.past_get Ledger.past_set Ledger.begun_get Ledger.begun_set Ledger.sent_get Ledger.sent_set Ledger.took_get Ledger.took_set Ledger.receipts_get Ledger.receipts_set Ledger.st_kv_get Ledger.st_kv_set Ledger.st_tree_get Ledger.st_tree_set Ledger.st_stale_get Ledger.st_stale_set Ledger.st_touched_get Ledger.st_touched_set Ledger.st_kv_now_get Ledger.st_kv_now_set Ledger.st_kv_saved_get Ledger.st_kv_saved_set Ledger.st_tree_leaves_get Ledger.st_tree_leaves_set Ledger.past_ring_get Ledger.past_ring_set Ledger.past_closed_get Ledger.past_closed_set Ledger.begun_kv_get Ledger.begun_kv_set Ledger.begun_tree_get Ledger.begun_tree_set Ledger.begun_stale_get Ledger.begun_stale_set Ledger.begun_touched_get Ledger.begun_touched_set Ledger.begun_kv_now_get Ledger.begun_kv_now_set Ledger.begun_kv_saved_get Ledger.begun_kv_saved_set Ledger.begun_tree_leaves_get Ledger.begun_tree_leaves_set Purse.length_enc Purse.ok_enc Purse.all_get Purse.all_set Purse.st_get Purse.st_set Purse.n_get Purse.n_set Purse.account_get Purse.account_set Purse.token_get Purse.token_set Purse.amount_get Purse.amount_set Plan.length_enc Plan.ok_enc Plan.all_get Plan.all_set Plan.purse_get Plan.purse_set Plan.nonce_get Plan.nonce_set Plan.gasUsed_get Plan.gasUsed_set Plan.fees_get Plan.fees_set Plan.hasSupply_get Plan.hasSupply_set Plan.token_get Plan.token_set Plan.supply_get Plan.supply_set Plan.flowAt_get Plan.flowAt_set Plan.flow_get Plan.flow_set Plan.receipt_get Plan.receipt_set Plan.purse_st_get Plan.purse_st_set Plan.purse_n_get Plan.purse_n_set Plan.purse_account_get Plan.purse_account_set Plan.purse_token_get Plan.purse_token_set Plan.purse_amount_get Plan.purse_amount_set Plan.receipt_code_get Plan.receipt_code_set Plan.receipt_hash_get Plan.receipt_hash_set Plan.receipt_index_get Plan.receipt_index_set Plan.receipt_gas_get Plan.receipt_gas_set Plan.receipt_fee_get Plan.receipt_fee_set Plan.receipt_hasSent_get Plan.receipt_hasSent_set Plan.receipt_sent_get Plan.receipt_sent_set Plan.receipt_hasTook_get Plan.receipt_hasTook_set Plan.receipt_took_get Plan.receipt_took_set Plan.receipt_sent_kind_get Plan.receipt_sent_kind_set Plan.receipt_sent_from__get Plan.receipt_sent_from__set Plan.receipt_sent_to__get Plan.receipt_sent_to__set Plan.receipt_sent_sender_get Plan.receipt_sent_sender_set Plan.receipt_sent_receiver_get Plan.receipt_sent_receiver_set Plan.receipt_sent_seq_get Plan.receipt_sent_seq_set Plan.receipt_sent_token_get Plan.receipt_sent_token_set Plan.receipt_sent_amount_get Plan.receipt_sent_amount_set Plan.receipt_sent_size_get Plan.receipt_sent_size_set Plan.receipt_sent_payload_get Plan.receipt_sent_payload_set Plan.receipt_took_kind_get Plan.receipt_took_kind_set Plan.receipt_took_from__get Plan.receipt_took_from__set Plan.receipt_took_to__get Plan.receipt_took_to__set Plan.receipt_took_sender_get Plan.receipt_took_sender_set Plan.receipt_took_receiver_get Plan.receipt_took_receiver_set Plan.receipt_took_seq_get Plan.receipt_took_seq_set Plan.receipt_took_token_get Plan.receipt_took_token_set Plan.receipt_took_amount_get Plan.receipt_took_amount_set Plan.receipt_took_size_get Plan.receipt_took_size_set Plan.receipt_took_payload_get Plan.receipt_took_payload_set Move.length_enc Move.ok_enc Move.all_get Move.all_set Move.account_get Move.account_set Move.token_get Move.token_set Move.down_get Move.down_set Move.amount_get Move.amount_set Books.length_enc Books.ok_enc Books.all_get Books.all_set Books.sums_get Books.sums_set Books.stored_get Books.stored_set Books.marks_get Books.marks_set Pair.length_enc Pair.ok_enc Pair.all_get Pair.all_set Pair.key_get Pair.key_set Pair.value_get Pair.value_set
attribute [local go_sem] size_put size_ext blk_put free_put blk_alloc free_alloc blk_drew free_drew blk_ext free_ext lookOr_some putOr_some segAt_some cellAt_some storeIn_some put_put put_alloc_new length_arr ok_arr_u8 ok_arr_u32 ok_arr_u64 ok_arr_i64 ok_arr_sl cellsV_agg cellsV_int cellsV_bool cellsV_string cellsV_pointer cellsV_slice cellsV_sl ok_int ok_bool ok_string ok_pointer ok_slice ok_sl toList_arr seg_arr set_arr nth_splice nth_splice0 seg_splice seg_splice0 splice_splice splice_splice0 length_splice_if
attribute [local go_sem ↓] execOp_box
attribute [local go_sem] box_run nth_arr_u8 put_arr_u8 blk_drewN free_drewN put_drewN blk_raw free_raw
attribute [local go_sem] Tryz.ld148 Tryz.st148 Tryz.al148 Dump.length_enc Dump.ok_enc Dump.all_get Dump.all_set Dump.chain_get Dump.height_get Dump.balances_get Dump.nonces_get Dump.marks_get Dump.history_get
theorem lsetBalance (O : Own) (W : World) (bl : Nat) (L : PLg) (h : LedA O W bl L) (a t : UInt8) (ha : a.toNat < 64) (v : UInt64) (hs : L.st.now.length < 1000000000) : Calls Tryz.prog 178 #[.pointer (some ⟨bl, 1, none⟩), .int .u8 (w8 a), .int .u8 (w8 t), .int .u64 (w64 v)] W (LgPost O W bl { L with st := { touchF L.st a with now := saveF L.st.now (keyB a t) v } }) := by
  obtain ⟨sn, ss, bn, ms, mt, mr, h⟩ := h
  exact (setBalance_any O W bl bl 1 _ L.st ⟨sn, ss, h.st⟩ a t ha v hs).mono (fun e V hp => StPost.led h hp)
/-- The height is set. -/
theorem LbI.hgt {O : Own} {W V : World} {bl : Nat} {bs : List (Nat × List Value)} {L : PLg} (h : LbI O W bl bs L V) (x : UInt64) : ∃ (LE LE2 : List Value), blk V bl = some LE ∧ free V bl = true ∧ LE.length = 4496 ∧ splice LE 2061 [.int .u64 (w64 x)] = LE2 ∧ LbI O W bl bs { L with height := x } (Blk.put V bl LE2) := by
  have hne : ∀ p ∈ bs, p.1 ≠ bl := fun p hp => h.ne (b := p.1) (C := p.2) hp
  obtain ⟨O', ⟨sn, ss, bn, ms, mt, mr, h1⟩, h2, h3⟩ := h
  have hpk : Lg (fun l => l = .a bl 0) O' V O' (Blk.put V bl (lgOf { L with height := x } sn ss bn ms mt mr).enc) := Lg.put (P := fun l => l = .a bl 0) (Lg.refl _ _ _) h1.hlab _
  have nz : ∀ i, i ≠ 0 → ¬ (Lab.a bl i = .a bl 0) := fun i hi e => hi (Lab.a.inj e).2
  refine ⟨_, (lgOf { L with height := x } sn ss bn ms mt mr).enc, h1.hblk, h1.hfree, Ledger.length_enc _, ?_, O', ⟨sn, ss, bn, ms, mt, mr, ?_, by rw [free_put]; exact h1.hfree, h1.hlab, RowL.lg h1.now hpk (nz _ (by omega)), h1.sav.lg hpk (nz _ (by omega)) (fun i => nz _ (by omega)), RowL.lg h1.bgn hpk (nz _ (by omega)), h1.bgs, RowL.lg h1.msn hpk (nz _ (by omega)), RowL.lg h1.mtk hpk (nz _ (by omega)), RowL.lg h1.mrc hpk (nz _ (by omega)), h1.sml, h1.dep⟩, h2.trans (hpk.mono (fun l e => ⟨_, e⟩)), fun p hp => ?_⟩
  · rw [Ledger.height_set]; rfl
  · rw [blk_put, if_pos rfl, h1.hblk]; rfl
  · obtain ⟨g1, g2, g3, g4⟩ := h3 p hp
    exact ⟨by rw [blk_put, if_neg (hne p hp)]; exact g1, by rw [free_put]; exact g2, g3, g4⟩
/-- Load, plainly: the parts. -/
def lsN (L : PLg) (a : UInt8) (v : UInt64) : PLg := { L with st := { touchF L.st a with now := saveF L.st.now (keyN a) v } }
def lsB (L : PLg) (a t : UInt8) (v : UInt64) : PLg := { L with st := { touchF L.st a with now := saveF L.st.now (keyB a t) v } }
def lsS (L : PLg) (t : UInt8) (v : UInt64) : PLg := { L with st := { L.st with now := saveF L.st.now (keyS t) v } }
def ldNn (d : PDump) (a : Nat) (L : PLg) : PLg := if (d.non[a]?).getD 0 = 0 then L else lsN L (UInt8.ofNat a) ((d.non[a]?).getD 0)
def ldT (d : PDump) (a : Nat) (L : PLg) : Nat → PLg
  | 0 => L
  | t + 1 => if (d.bal[4 * a + t]?).getD 0 = 0 then ldT d a L t else lsB (ldT d a L t) (UInt8.ofNat a) (UInt8.ofNat t) ((d.bal[4 * a + t]?).getD 0)
def ldA (d : PDump) (L : PLg) : Nat → PLg
  | 0 => L
  | a + 1 => ldT d a (ldNn d a (ldA d L a)) 4
def ldS (v : Vector UInt64 4) (L : PLg) : Nat → PLg
  | 0 => L
  | t + 1 => lsS (ldS v L t) (UInt8.ofNat t) ((v[t]?).getD 0)
def ldM (K : List Mark) (L : PLg) : Nat → PLg
  | 0 => L
  | i + 1 => match K[i]? with
    | some m => { ldM K L i with st := markF (ldM K L i).st m.from_ m.seq }
    | none => ldM K L i
def ldL (d : PDump) (v : Vector UInt64 4) : PLg := ldM d.marks (ldS v (ldA d { newL d.chain with height := d.height } 64) 4) d.marks.length
/-- What Load asks. -/
def LdOk (d : PDump) (v : Vector UInt64 4) : Prop := rolB d.chain = true ∧ totN d.bal 256 = some v ∧ mkSnd (newL d.chain) d.marks = true ∧ (∀ (a : Nat) (h : a < 64), d.non[a].toNat ≤ 9223372036854775807) ∧ lhOk (ldL d v) d.hist
theorem ldM_succ {K : List Mark} {L : PLg} {i : Nat} {m : Mark} (h : K[i]? = some m) : ldM K L (i + 1) = { ldM K L i with st := markF (ldM K L i).st m.from_ m.seq } := by
  show (match K[i]? with | some m => { ldM K L i with st := markF (ldM K L i).st m.from_ m.seq } | none => ldM K L i) = _
  rw [h]
theorem lsN_len (L : PLg) (a : UInt8) (v : UInt64) : (lsN L a v).st.now.length ≤ L.st.now.length + 1 := saveF_len _ _ _
theorem lsB_len (L : PLg) (a t : UInt8) (v : UInt64) : (lsB L a t v).st.now.length ≤ L.st.now.length + 1 := saveF_len _ _ _
theorem lsS_len (L : PLg) (t : UInt8) (v : UInt64) : (lsS L t v).st.now.length ≤ L.st.now.length + 1 := saveF_len _ _ _
theorem ldNn_len (d : PDump) (a : Nat) (L : PLg) : (ldNn d a L).st.now.length ≤ L.st.now.length + 1 := by
  unfold ldNn
  split
  · exact Nat.le_succ _
  · exact lsN_len _ _ _
theorem ldT_len (d : PDump) (a : Nat) (L : PLg) : ∀ t, (ldT d a L t).st.now.length ≤ L.st.now.length + t
  | 0 => Nat.le_refl _
  | t + 1 => by
    have h := ldT_len d a L t
    unfold ldT
    split
    · omega
    · have := lsB_len (ldT d a L t) (UInt8.ofNat a) (UInt8.ofNat t) ((d.bal[4 * a + t]?).getD 0)
      omega
theorem ldA_len (d : PDump) (L : PLg) : ∀ a, (ldA d L a).st.now.length ≤ L.st.now.length + 5 * a
  | 0 => Nat.le_refl _
  | a + 1 => by
    have h := ldA_len d L a
    have h2 := ldNn_len d a (ldA d L a)
    have h3 := ldT_len d a (ldNn d a (ldA d L a)) 4
    show (ldT d a (ldNn d a (ldA d L a)) 4).st.now.length ≤ _
    omega
theorem ldS_len (v : Vector UInt64 4) (L : PLg) : ∀ t, (ldS v L t).st.now.length ≤ L.st.now.length + t
  | 0 => Nat.le_refl _
  | t + 1 => by
    have h := ldS_len v L t
    have := lsS_len (ldS v L t) (UInt8.ofNat t) ((v[t]?).getD 0)
    show (lsS (ldS v L t) (UInt8.ofNat t) ((v[t]?).getD 0)).st.now.length ≤ _
    omega
theorem markF_len (S : PSt) (f : UInt8) (s : UInt64) : (markF S f s).now.length ≤ S.now.length + 2 := by
  unfold markF
  dsimp only
  have h1 := saveF_len S.now (keyM f s) 1
  have h2 := saveF_len (saveF S.now (keyM f s) 1) (keyC 6) (ldF (saveF S.now (keyM f s) 1) (keyC 6) + 1)
  omega
theorem ldM_len (K : List Mark) (L : PLg) : ∀ i, (ldM K L i).st.now.length ≤ L.st.now.length + 2 * i
  | 0 => Nat.le_refl _
  | i + 1 => by
    have h := ldM_len K L i
    cases hm : K[i]? with
    | some m =>
      rw [ldM_succ hm]
      have := markF_len (ldM K L i).st m.from_ m.seq
      show (markF (ldM K L i).st m.from_ m.seq).now.length ≤ _
      omega
    | none =>
      have e : ldM K L (i + 1) = ldM K L i := by
        show (match K[i]? with | some m => { ldM K L i with st := markF (ldM K L i).st m.from_ m.seq } | none => ldM K L i) = _
        rw [hm]
      rw [e]; omega
set_option maxRecDepth 20000 in
theorem newBad_any (W : World) (c : UInt8) (hc : rolB c = false) : Calls Tryz.prog 81 #[.int .u8 (w8 c)] W fun e V => e = .returned (.tuple #[.pointer none, .int .i64 39]) ∧ W.Extends V := by
  have hr := isRollup_any W c
  rw [hc] at hr
  clear hc
  go_enter Tryz.func81, Tryz.ntmps81
  go_wp2_with fail
  refine hr.mono ?_
  clear hr
  rintro e V ⟨rfl, hx⟩
  dsimp only
  have HX := hid_of hx
  clear hx
  go_wp2_with fail
  try (first | go_ret | go_ret2 | go_ret3 | go_end0)
  exact ⟨rfl, HX.out⟩
/-- After Load. -/
def LdPost (W : World) (d : PDump) (e : Ending) (V : World) : Prop := W.Extends V ∧ ((∃ bl v, LdOk d v ∧ e = .returned (.tuple #[.pointer (some ⟨bl, 0, none⟩), .int .i64 0]) ∧ W.heap.size ≤ bl ∧ ∃ O', (∀ k, k < W.heap.size → O' k = .no) ∧ LedA O' V bl (lhL (ldL d v) d.hist)) ∨ ((∀ v, ¬ LdOk d v) ∧ e = .returned (.tuple #[.pointer none, .int .i64 40])))
def noO : Own := fun _ => .no
theorem LbI.we {W V : World} {bl : Nat} {bs : List (Nat × List Value)} {L : PLg} (h : LbI noO W bl bs L V) : W.Extends V := by
  obtain ⟨O', h1, h2, h3⟩ := h
  exact h2.extends (ext_Ext (Ext.refl _)) (fun k hk => lgP_no bl)
def ld1I (W : World) (bl bx bt : Nat) (E T : List Value) (L : PLg) (d : PDump) (V0 : World) (F : Nat → Value) (V : World) : Prop := F 1 = .pointer (some ⟨bx, 0, none⟩) ∧ F 4 = .pointer (some ⟨bl, 0, none⟩) ∧ F 6 = .pointer (some ⟨bt, 0, none⟩) ∧ V = V0 ∧ ∃ a : Nat, F 8 = .int .u8 (a : Nat) ∧ Hid (a ≤ 64 ∧ ∀ (j : Nat) (h : j < 64), j < a → d.non[j].toNat ≤ 9223372036854775807)
def ld2I (W : World) (bl bx bt : Nat) (E T : List Value) (L : PLg) (d : PDump) (F : Nat → Value) (V : World) : Prop := F 1 = .pointer (some ⟨bx, 0, none⟩) ∧ F 4 = .pointer (some ⟨bl, 0, none⟩) ∧ F 6 = .pointer (some ⟨bt, 0, none⟩) ∧ ∃ a : Nat, F 9 = .int .u8 (a : Nat) ∧ Hid (a ≤ 64 ∧ LbI noO W bl [(bt, T), (bx, E)] (ldA d L a) V)
def ld3I (W : World) (bl bx bt : Nat) (E T : List Value) (L : PLg) (d : PDump) (a : Nat) (F : Nat → Value) (V : World) : Prop := F 1 = .pointer (some ⟨bx, 0, none⟩) ∧ F 4 = .pointer (some ⟨bl, 0, none⟩) ∧ F 6 = .pointer (some ⟨bt, 0, none⟩) ∧ F 9 = .int .u8 (a : Nat) ∧ ∃ t : Nat, F 10 = .int .u8 (t : Nat) ∧ Hid (t ≤ 4 ∧ LbI noO W bl [(bt, T), (bx, E)] (ldT d a (ldNn d a (ldA d L a)) t) V)
def ld4I (W : World) (bl bx bt : Nat) (E T : List Value) (L : PLg) (v : Vector UInt64 4) (F : Nat → Value) (V : World) : Prop := F 1 = .pointer (some ⟨bx, 0, none⟩) ∧ F 4 = .pointer (some ⟨bl, 0, none⟩) ∧ F 6 = .pointer (some ⟨bt, 0, none⟩) ∧ ∃ t : Nat, F 12 = .int .u8 (t : Nat) ∧ Hid (t ≤ 4 ∧ LbI noO W bl [(bt, T), (bx, E)] (ldS v L t) V)
def ld5I (W : World) (bl bx bt : Nat) (E T : List Value) (L : PLg) (K : List Mark) (F : Nat → Value) (V : World) : Prop := F 1 = .pointer (some ⟨bx, 0, none⟩) ∧ F 4 = .pointer (some ⟨bl, 0, none⟩) ∧ F 6 = .pointer (some ⟨bt, 0, none⟩) ∧ ∃ i : Nat, F 13 = .int .i64 (i : Nat) ∧ Hid (i ≤ K.length ∧ LbI noO W bl [(bt, T), (bx, E)] (ldM K L i) V)
set_option maxRecDepth 100000 in
theorem frame131L (f : Nat → Value) : frameN 131 f = #[f 0, f 1, f 2, f 3, f 4, f 5, f 6, f 7, f 8, f 9, f 10, f 11, f 12, f 13, f 14, f 15, f 16, f 17, f 18, f 19, f 20, f 21, f 22, f 23, f 24, f 25, f 26, f 27, f 28, f 29, f 30, f 31, f 32, f 33, f 34, f 35, f 36, f 37, f 38, f 39, f 40, f 41, f 42, f 43, f 44, f 45, f 46, f 47, f 48, f 49, f 50, f 51, f 52, f 53, f 54, f 55, f 56, f 57, f 58, f 59, f 60, f 61, f 62, f 63, f 64, f 65, f 66, f 67, f 68, f 69, f 70, f 71, f 72, f 73, f 74, f 75, f 76, f 77, f 78, f 79, f 80, f 81, f 82, f 83, f 84, f 85, f 86, f 87, f 88, f 89, f 90, f 91, f 92, f 93, f 94, f 95, f 96, f 97, f 98, f 99, f 100, f 101, f 102, f 103, f 104, f 105, f 106, f 107, f 108, f 109, f 110, f 111, f 112, f 113, f 114, f 115, f 116, f 117, f 118, f 119, f 120, f 121, f 122, f 123, f 124, f 125, f 126, f 127, f 128, f 129, f 130] := by kernel_rfl
set_option maxRecDepth 20000 in
set_option maxHeartbeats 1000000 in
theorem load79_any (W : World) (d : PDump) (ma : Option Addr) (ml mc : Nat) (ha : Option Addr) (hl hc : Nat) (hM : Rw Mark.enc 2 W ma ml d.marks) (hH : Rw Summary.enc 46 W ha hl d.hist) (hs : ml ≤ 1000000 ∧ hl ≤ 1000000) : Calls Tryz.prog 79 #[.agg (dE d ⟨ma, ml, mc⟩ ⟨ha, hl, hc⟩).enc.toArray] W (LdPost W d) := by
  obtain ⟨Q, hQ⟩ : ∃ Q : Ending → World → Prop, Q = LdPost W d := ⟨_, rfl⟩
  rw [← hQ]
  have HQ := hid_of hQ
  have HM := hid_of hM
  have HH := hid_of hH
  have HS := hid_of hs
  obtain ⟨D, hD⟩ : ∃ D, D = dE d ⟨ma, ml, mc⟩ ⟨ha, hl, hc⟩ := ⟨_, rfl⟩
  rw [← hD]
  obtain ⟨E, hE⟩ : ∃ E, E = D.enc := ⟨_, rfl⟩
  have n0 : nth E 0 = some (.int .u8 (w8 d.chain)) := by rw [hE, hD]; exact Dump.chain_get _
  have n1 : nth E 1 = some (.int .u64 (w64 d.height)) := by rw [hE, hD]; exact Dump.height_get _
  have n22 : nth E 322 = some (.slice ma ml mc) := by rw [hE, hD]; exact Dump.marks_get _
  have n23 : nth E 323 = some (.slice ha hl hc) := by rw [hE, hD]; exact Dump.history_get _
  have lE : E.length = 324 := by rw [hE]; exact Dump.length_enc _
  have sgE : seg E 0 324 = E := seg_all _ _ lE
  have HEN : Hid (∀ (i : Nat) (hi : i < 64), nth E (258 + i) = some (.int .u64 (w64 d.non[i]))) := fun i hi => by rw [hE, hD]; exact Dump.nonces_at _ i hi
  have HEB : Hid (∀ (i : Nat) (hi : i < 256), nth E (2 + i) = some (.int .u64 (w64 d.bal[i]))) := fun i hi => by rw [hE, hD]; exact Dump.balances_at _ i hi
  have HDB : Hid (D.balances = d.bal) := by rw [hD]; rfl
  have hB := (BxI.start W).box D.enc 148
  obtain ⟨W1, hW1⟩ : ∃ W1 : World, W1 = W.alloc (.cells D.enc.toArray 148) := ⟨_, rfl⟩
  obtain ⟨bx, hbx⟩ : ∃ bx, bx = W.heap.size := ⟨_, rfl⟩
  rw [← hW1, ← hbx] at hB
  rw [← hE] at hB
  have kx := (hB.at (List.mem_cons_self ..)).1
  have HB := hid_of hB
  have HW1 := hid_of hW1
  have HBX := hid_of hbx
  have HDE := hid_of hE
  clear hQ hM hH hs hD hW1 hbx hB hE
  -- refusing
  have HNO : Hid (∀ V9, W.Extends V9 → (∀ v, ¬ LdOk d v) → Q (.returned (.tuple #[.pointer none, .int .i64 40])) V9) := fun V9 h9 hn => by
    rw [HQ.out]
    exact ⟨h9, .inr ⟨hn, rfl⟩⟩
  cases hro : rolB d.chain with
  | false =>
    have hnw := newBad_any W1 d.chain hro
    have HNO2 : Hid (∀ V9, W1.Extends V9 → Q (.returned (.tuple #[.pointer none, .int .i64 40])) V9) := fun V9 h9 => HNO.out V9 (HB.out.1.trans h9) (fun v q => by have := q.1; rw [hro] at this; cases this)
    clear hro HNO HQ HB HEN HEB
    go_enter Tryz.func79, Tryz.ntmps79
    go_upto_region 1 with fail
    rw [← HW1.out, ← HBX.out]
    clear HW1 HBX
    go_wp2_with fail
    refine hnw.mono ?_
    clear hnw
    rintro e V1 ⟨rfl, he1⟩
    dsimp only
    have HP := hid_of (HNO2.out V1 he1)
    clear he1 HNO2
    go_wp2_with fail
    try (first | go_ret | go_ret2 | go_ret3 | go_end0)
    exact HP.out
  | true =>
  have hnw := newLedger_any noO W1 d.chain hro
  have HRO := hid_of hro
  clear hro
  go_enter Tryz.func79, Tryz.ntmps79
  go_upto_region 1 with fail
  rw [← HW1.out, ← HBX.out]
  clear HW1
  go_wp2_with fail
  refine hnw.mono ?_
  clear hnw
  rintro e V1 ⟨bl, O1, rfl, he1, hbl1, hO1, hL1⟩
  dsimp only
  have hV1 : LbI noO W bl [(bx, E)] (newL d.chain) V1 := by
    have hwe := HB.out.1.trans he1
    refine ⟨O1, hL1, Lg.growO hwe (fun k hk => hO1 k (Nat.lt_of_lt_of_le hk HB.out.1.size)), fun p hp => ?_⟩
    rw [List.mem_singleton] at hp
    rw [hp]
    obtain ⟨g1, g2, g3⟩ := HB.out.2 (bx, E) (by simp)
    exact ⟨(he1.blk (blk_lt g1)).trans g1, (free_of_heap (he1.block _ (blk_lt g1))).trans g2, hO1 bx (blk_lt g1), g3⟩
  have hbw : W.heap.size ≤ bl := Nat.le_trans HB.out.1.size hbl1
  have HBW := hid_of hbw
  have kx1 := (hV1.at (b := bx) (C := E) (by simp)).1
  have hdt := dumpTotals_any V1 D
  rw [HDB.out] at hdt
  have HV1 := hid_of hV1
  clear hL1 hO1 hbl1 he1 hV1 hbw kx HB
  have hDE : D.enc = E := HDE.out.symm
  rw [hDE] at hdt
  clear hDE
  go_wp2_with fail
  refine hdt.mono ?_
  clear hdt kx1
  rintro e V2 ⟨he2, hcs⟩
  rcases hcs with ⟨v, hv, rfl⟩ | ⟨v, hv, rfl⟩
  rotate_left 1
  · dsimp only
    have HP0 : Hid (∀ V9, V2.Extends V9 → Q (.returned (.tuple #[.pointer none, .int .i64 40])) V9) := fun V9 h9 => HNO.out V9 (((HV1.out.ext he2).ext h9).we) (fun v q => by have := q.2.1; rw [hv] at this; cases this)
    have HP := hid_of (HP0.out (V2.alloc (.cells (arr u64v v).toArray 48)) (extends_alloc (ext_Ext (Ext.refl _)) _))
    clear HP0 HNO HQ HV1 HEN HEB he2 hv
    have okv : okCells 4 (arr u64v v) = true := ok_mk (length_arr _ _) (one_arr_u64 v)
    have spT : splice (arr u64v (Vector.replicate 4 0)) 0 (arr u64v v) = arr u64v v := splice_all _ _ (by rw [length_arr, length_arr])
    generalize arr u64v v = T at okv spT HP ⊢
    go_wp2_with fail
    try (first | go_ret | go_ret2 | go_ret3 | go_end0)
    exact HP.out
  dsimp only
  have hV2 := HV1.out.ext he2
  have hV3 := hV2.box (arr u64v v) 48 hV2.size
  obtain ⟨V3, hV3e⟩ : ∃ V3 : World, V3 = V2.alloc (.cells (arr u64v v).toArray 48) := ⟨_, rfl⟩
  obtain ⟨bt, hbt⟩ : ∃ bt, bt = V2.heap.size := ⟨_, rfl⟩
  rw [← hV3e, ← hbt] at hV3
  have okv : okCells 4 (arr u64v v) = true := ok_mk (length_arr _ _) (one_arr_u64 v)
  have ltv : (arr u64v v).length = 4 := length_arr _ _
  have spT : splice (arr u64v (Vector.replicate 4 0)) 0 (arr u64v v) = arr u64v v := splice_all _ _ (by rw [length_arr, length_arr])
  have HTV : Hid (∀ (t : Nat) (h : t < 4), nth (arr u64v v) t = some (.int .u64 (w64 v[t]))) := fun t h => nth_arr_u64 v h
  obtain ⟨T, hT⟩ : ∃ T, T = arr u64v v := ⟨_, rfl⟩
  rw [← hT] at hV3 okv ltv HTV hV3e spT
  have hms : Calls Tryz.prog 176 #[.pointer (some ⟨bl, 0, none⟩), .slice ma ml mc] V3 fun e V => e = .returned (.bool (mkSnd (newL d.chain) d.marks)) ∧ V3.Extends V := by
    have hwe3 := hV3.we
    obtain ⟨O3, hL3, -, -⟩ := hV3
    exact marksSound_any O3 V3 bl (newL d.chain) hL3 ma ml mc d.marks (HM.out.grow hwe3) (by have := HS.out.1; omega)
  have kx3 := (hV3.at (b := bx) (C := E) (by simp)).1
  have HV3 := hid_of hV3
  have HV3e := hid_of hV3e
  have HBT := hid_of hbt
  have HTT := hid_of hv
  rw [← hT]
  clear hV2 hV3 hV3e hbt hT hv he2 HV1
  go_upto_region 5 with fail
  rw [← HV3e.out, ← HBT.out]
  clear HV3e HBT
  go_wp2_with fail
  refine hms.mono ?_
  clear hms
  rintro e V4 ⟨rfl, he4⟩
  dsimp only
  have HV4 := hid_of (HV3.out.ext he4)
  clear he4 HV3 kx3
  cases hmk : mkSnd (newL d.chain) d.marks with
  | false =>
    have HP := hid_of (HNO.out V4 HV4.out.we (fun v q => by have := q.2.2.1; rw [hmk] at this; cases this))
    clear HNO HQ HV4 HEN HEB hmk
    go_wp2_with fail
    try (first | go_ret | go_ret2 | go_ret3 | go_end0)
    exact HP.out
  | true =>
  have HMK := hid_of hmk
  clear hmk
  have HI0 : Hid (0 ≤ 64 ∧ ∀ (j : Nat) (h : j < 64), j < 0 → d.non[j].toNat ≤ 9223372036854775807) := ⟨by omega, fun j _ h => absurd h (Nat.not_lt_zero _)⟩
  go_wp2_with fail
  refine wp_loop_f 131 (ld1I W bl bx bt E T (newL d.chain) d V4) (fun f _ => 64 - (intOf (f 8)).toNat) rfl ⟨rfl, rfl, rfl, rfl, 0, rfl, HI0⟩ ?_
  clear HI0
  intro F V hrel
  obtain ⟨f1, f4, f6, rfl, a, f8, HI⟩ := hrel
  have H8 := hid_of f8
  rw [frame131L, f1, f4, f6, f8]
  clear f1 f4 f6 f8
  obtain ⟨ha64, hok⟩ := HI.out
  clear HI
  have kx4 := (HV4.out.at (b := bx) (C := E) (by simp)).1
  by_cases hin : a < 64
  · have hin' : (a : Int) < 64 := by omega
    have p0 : (0 : Int) ≤ (a : Int) := by omega
    have p2 : ((a : Int)).toNat = a := by omega
    obtain ⟨u, nu, hu⟩ : ∃ u, nth E (258 + a) = some (.int .u64 (w64 u)) ∧ u = d.non[a]'hin := ⟨_, HEN.out a hin, rfl⟩
    have g1 : 258 + a < 324 := by omega
    by_cases c3 : u.toNat ≤ 9223372036854775807
    rotate_left 1
    · have d3 : (9223372036854775807 : Int) < w64 u := by unfold w64; omega
      have HP := hid_of (HNO.out V HV4.out.we (fun v q => c3 (by rw [hu]; exact q.2.2.2.1 a hin)))
      clear HNO HQ HV4 HEN HEB hok hu c3 hin ha64 H8
      go_wp2_with fail
      try (first | go_ret | go_ret2 | go_ret3 | go_end0)
      exact HP.out
    have d3 : ¬ (9223372036854775807 : Int) < w64 u := by unfold w64; omega
    have HI1 : Hid (a + 1 ≤ 64 ∧ ∀ (j : Nat) (h : j < 64), j < a + 1 → d.non[j].toNat ≤ 9223372036854775807) := by
      refine ⟨hin, fun j h hj => ?_⟩
      by_cases e : j = a
      · subst e
        rw [← hu]; exact c3
      · exact hok j h (by omega)
    have HA := hid_of hin
    clear hok hu c3 hin ha64
    go_wp2_with fail
    refine ⟨rfl, rfl, ⟨rfl, rfl, rfl, rfl, a + 1, ?_, HI1⟩, ?_⟩
    · show Value.int .u8 _ = _
      have := HA.out
      go_num
    · show 64 - (intOf (Value.int .u8 _)).toNat < 64 - (intOf (F 8)).toNat
      rw [H8.out]
      have := HA.out
      simp [intOf]; omega
  have hin' : ¬ (a : Int) < 64 := by omega
  have HNON : Hid (∀ (a : Nat) (h : a < 64), d.non[a].toNat ≤ 9223372036854775807) := fun j h => hok j h (by omega)
  obtain ⟨LE, LE2, kl, kf, lle, hs1, hV5⟩ := HV4.out.hgt d.height
  obtain ⟨L1, hL1⟩ : ∃ L1 : PLg, L1 = { newL d.chain with height := d.height } := ⟨_, rfl⟩
  have HI0 : Hid (0 ≤ 64 ∧ LbI noO W bl [(bt, T), (bx, E)] (ldA d L1 0) (put V bl LE2)) := ⟨by omega, by rw [hL1]; exact hV5⟩
  have HL1 := hid_of hL1
  clear hok hin ha64 H8 hV5 hL1 HV4
  go_wp2_with fail
  refine wp_loop_f 131 (ld2I W bl bx bt E T L1 d) (fun f _ => 64 - (intOf (f 9)).toNat) rfl ⟨rfl, rfl, rfl, 0, rfl, HI0⟩ ?_
  clear HI0 kl kf lle hs1 LE LE2 kx4 hin'
  intro F2 U hrel
  obtain ⟨f1, f4, f6, a, f9, HI⟩ := hrel
  have H9 := hid_of f9
  rw [frame131L, f1, f4, f6, f9]
  clear f1 f4 f6 f9
  obtain ⟨ha64, hU⟩ := HI.out
  clear HI
  have HLN : Hid (∀ a, a ≤ 64 → (ldA d L1 a).st.now.length ≤ 5 * a) := fun a _ => by have := ldA_len d L1 a; rw [HL1.out] at this ⊢; simpa [newL, newS] using this
  by_cases hin : a < 64
  · -- one account
    have hin' : (a : Int) < 64 := by omega
    have p0 : (0 : Int) ≤ (a : Int) := by omega
    have p2 : ((a : Int)).toNat = a := by omega
    obtain ⟨au, hau⟩ : ∃ au, au = UInt8.ofNat a := ⟨_, rfl⟩
    have hk : w8 au = (a : Int) := by rw [hau]; exact w8_ofNat a (by omega)
    have hau64 : au.toNat < 64 := by rw [hau, UInt8.toNat_ofNat']; omega
    obtain ⟨u, nu, hu⟩ : ∃ u, nth E (258 + a) = some (.int .u64 (w64 u)) ∧ u = d.non[a]'hin := ⟨_, HEN.out a hin, rfl⟩
    have hu2 : (d.non[a]?).getD 0 = u := by rw [hu, Vector.getElem?_eq_getElem hin]; rfl
    have g1 : 258 + a < 324 := by omega
    have kxU := (hU.at (b := bx) (C := E) (by simp)).1
    have HA : Hid (a < 64 ∧ au = UInt8.ofNat a ∧ w8 au = (a : Int) ∧ au.toNat < 64) := ⟨hin, hau, hk, hau64⟩
    have hlen5 := HLN.out a (by omega)
    have hlenN := ldNn_len d a (ldA d L1 a)
    have HLE : Hid ((ldNn d a (ldA d L1 a)).st.now.length ≤ 400) := by rw [Hid]; omega
    -- the four balances, from any world
    have HIN : Hid (∀ (G : Nat → Value) (V9 : World), LbI noO W bl [(bt, T), (bx, E)] (ldNn d a (ldA d L1 a)) V9 → 0 ≤ 4 ∧ LbI noO W bl [(bt, T), (bx, E)] (ldT d a (ldNn d a (ldA d L1 a)) 0) V9) := fun G V9 h9 => ⟨by omega, h9⟩
    have hcut : True := trivial
    by_cases hz : w64 u = 0
    · have hzb : (w64 u != 0) = false := by simp [hz]
      have hnn : ldNn d a (ldA d L1 a) = ldA d L1 a := by
        unfold ldNn
        rw [hu2, if_pos (w64_inj (b := 0) hz)]
      have HI0 := hid_of (HIN.out F2 U (by rw [hnn]; exact hU))
      clear hU hnn hu hu2 hin ha64 HIN hk hau hlen5 hlenN hz
      go_wp2_with fail
      refine wp_loop_f 131 (ld3I W bl bx bt E T L1 d a) (fun f _ => 4 - (intOf (f 10)).toNat) rfl ⟨rfl, rfl, rfl, rfl, 0, rfl, HI0⟩ ?_
      clear HI0 nu g1 kxU hzb
      intro F5 U5 hrel
      obtain ⟨f1, f4, f6, f9, t, f10, HI⟩ := hrel
      have H10 := hid_of f10
      rw [frame131L, f1, f4, f6, f9, f10]
      clear f1 f4 f6 f9 f10
      obtain ⟨ht4, hU5⟩ := HI.out
      clear HI
      by_cases htin : t < 4
      rotate_left 1
      · have ht : t = 4 := by omega
        subst ht
        have htin' : ¬ ((4 : Nat) : Int) < 4 := by omega
        have HI1 : Hid (a + 1 ≤ 64 ∧ LbI noO W bl [(bt, T), (bx, E)] (ldA d L1 (a + 1)) U5) := ⟨HA.out.1, hU5⟩
        clear hU5 htin ht4 H10
        go_wp2_with fail
        refine ⟨rfl, rfl, ⟨rfl, rfl, rfl, a + 1, ?_, HI1⟩, ?_⟩
        · show Value.int .u8 _ = _
          have := HA.out.1
          go_num
        · show 64 - (intOf (Value.int .u8 _)).toNat < 64 - (intOf (F2 9)).toNat
          rw [H9.out]
          have := HA.out.1
          simp [intOf]; omega
      have htin' : (t : Int) < 4 := by omega
      obtain ⟨tu, htu⟩ : ∃ tu, tu = UInt8.ofNat t := ⟨_, rfl⟩
      have hkt : w8 tu = (t : Int) := by rw [htu]; exact w8_ofNat t (by omega)
      obtain ⟨z, hz⟩ : ∃ z : Nat, z = 4 * a + t := ⟨_, rfl⟩
      have hz6 : z < 256 := by have := HA.out.1; omega
      obtain ⟨y, ny, hy⟩ : ∃ y, nth E (2 + z) = some (.int .u64 (w64 y)) ∧ y = d.bal[z]'hz6 := ⟨_, HEB.out z hz6, rfl⟩
      have hy2 : (d.bal[4 * a + t]?).getD 0 = y := by rw [hy, ← hz, Vector.getElem?_eq_getElem hz6]; rfl
      have z0 : IntKind.i64.wrap ((a : Int) * 4) = (a : Int) * 4 := by rw [IntKind.wrap_i64]; have := HA.out.1; omega
      have z1 : IntKind.i64.wrap ((a : Int) * 4 + (t : Int)) = (z : Int) := by rw [IntKind.wrap_i64]; have := HA.out.1; omega
      have za : IntKind.i64.wrap (a : Int) = (a : Int) := by rw [IntKind.wrap_i64]; have := HA.out.1; omega
      have zt : IntKind.i64.wrap (t : Int) = (t : Int) := by rw [IntKind.wrap_i64]; omega
      have zz2 : (0 : Int) ≤ (z : Int) := by omega
      have zz3 : ((z : Int)).toNat = z := by omega
      have zz4 : (z : Int) < 256 := by omega
      have zz5 : 2 + z < 324 := by omega
      have kx5 := (hU5.at (b := bx) (C := E) (by simp)).1
      have hlt5 := ldT_len d a (ldNn d a (ldA d L1 a)) t
      have HTI := hid_of htin
      by_cases hyz : w64 y = 0
      · have hyb : (w64 y != 0) = false := by simp [hyz]
        have HI1 : Hid (t + 1 ≤ 4 ∧ LbI noO W bl [(bt, T), (bx, E)] (ldT d a (ldNn d a (ldA d L1 a)) (t + 1)) U5) := by
          refine ⟨htin, ?_⟩
          have e : ldT d a (ldNn d a (ldA d L1 a)) (t + 1) = ldT d a (ldNn d a (ldA d L1 a)) t := by
            show (if (d.bal[4 * a + t]?).getD 0 = 0 then _ else _) = _
            rw [hy2, if_pos (w64_inj (b := 0) hyz)]
          rw [e]; exact hU5
        clear hU5 hy hy2 hz hz6 htin ht4 hlt5 htu hkt hyz
        go_wp2_with fail
        refine ⟨rfl, rfl, ⟨rfl, rfl, rfl, rfl, t + 1, ?_, HI1⟩, ?_⟩
        · show Value.int .u8 _ = _
          have := HTI.out
          go_num
        · show 4 - (intOf (Value.int .u8 _)).toNat < 4 - (intOf (F5 10)).toNat
          rw [H10.out]
          have := HTI.out
          simp [intOf]; omega
      have hyb : (w64 y != 0) = true := by simp [hyz]
      have hq := hU5.call (fun O' hO => (lsetBalance O' _ bl _ hO au tu HA.out.2.2.2 y (by have := HLE.out; omega)).mono (fun e V h => LgPost.lx h))
      rw [HA.out.2.2.1, hkt] at hq
      have HNN : Hid (∀ V9, LbI noO W bl [(bt, T), (bx, E)] (lsB (ldT d a (ldNn d a (ldA d L1 a)) t) au tu y) V9 → t + 1 ≤ 4 ∧ LbI noO W bl [(bt, T), (bx, E)] (ldT d a (ldNn d a (ldA d L1 a)) (t + 1)) V9) := fun V9 h9 => by
        refine ⟨htin, ?_⟩
        have e : ldT d a (ldNn d a (ldA d L1 a)) (t + 1) = lsB (ldT d a (ldNn d a (ldA d L1 a)) t) au tu y := by
          show (if (d.bal[4 * a + t]?).getD 0 = 0 then _ else _) = _
          rw [hy2, if_neg (fun e => hyz (by rw [e]; rfl)), HA.out.2.1, htu]
        rw [e]; exact h9
      clear hU5 hy hy2 hz hz6 htin ht4 hlt5 htu hkt
      go_wp2_with fail
      refine hq.mono ?_
      clear hq
      rintro e V7 ⟨rfl, hV7⟩
      dsimp only
      have HI1 := hid_of (HNN.out V7 hV7)
      clear HNN hV7
      go_wp2_with fail
      refine ⟨rfl, rfl, ⟨rfl, rfl, rfl, rfl, t + 1, ?_, HI1⟩, ?_⟩
      · show Value.int .u8 _ = _
        have := HTI.out
        go_num
      · show 4 - (intOf (Value.int .u8 _)).toNat < 4 - (intOf (F5 10)).toNat
        rw [H10.out]
        have := HTI.out
        simp [intOf]; omega
    · have hzb : (w64 u != 0) = true := by simp [hz]
      have hnn : ldNn d a (ldA d L1 a) = lsN (ldA d L1 a) au u := by
        unfold ldNn
        rw [hu2, if_neg (fun e => hz (by rw [e]; rfl)), hau]
      have hq := (hU.drewN 1).call (fun O' hO => (lsetNonce O' _ bl _ hO au hau64 u (by omega)).mono (fun e V h => LgPost.lx h))
      rw [hk] at hq
      have k4 : blk U.drew bx = some E := kxU
      have HNN : Hid (∀ V9, LbI noO W bl [(bt, T), (bx, E)] (lsN (ldA d L1 a) au u) V9 → 0 ≤ 4 ∧ LbI noO W bl [(bt, T), (bx, E)] (ldT d a (ldNn d a (ldA d L1 a)) 0) V9) := fun V9 h9 => HIN.out F2 V9 (by rw [hnn]; exact h9)
      clear hU hnn hu hu2 hin ha64 HIN hk hau hlen5 hlenN
      go_upto_region 17 with fail
      repeat go_step
      refine wp_region_F 8 (fun W' => blk W' bx = some E) (by kernel_rfl) k4 (fun hHeld => ?_)
      refine wpAnyF_take (i := 0) (oi := ⟨_, _, _, _, _, _⟩) (v := ?_) rfl (by kernel_rfl) (by kernel_rfl) (by kernel_rfl) (by kernel_rfl) (by kernel_rfl) (fun _ _ _ h => h) (Or.inl ⟨by rfl, ?_⟩) (by assumption) ?_
      rotate_left 1
      · intro W' hSw
        go_simp
        try with_reducible rfl
      try simp only [Act.put, List.setIfInBounds_toArray, List.set_cons_zero, List.set_cons_succ]
      refine wpAnyF_take (i := 1) (oi := ⟨_, _, _, _, _, _⟩) (v := ?_) rfl (by kernel_rfl) (by kernel_rfl) (by kernel_rfl) (by kernel_rfl) (by kernel_rfl) (fun _ _ _ h => h) (Or.inl ⟨by rfl, ?_⟩) (by assumption) ?_
      rotate_left 1
      · intro W' hSw
        go_simp
        try with_reducible rfl
      try simp only [Act.put, List.setIfInBounds_toArray, List.set_cons_zero, List.set_cons_succ]
      refine wpAnyF_take (i := 2) (oi := ⟨_, _, _, _, _, _⟩) (v := ?_) rfl (by kernel_rfl) (by kernel_rfl) (by kernel_rfl) (by kernel_rfl) (by kernel_rfl) (fun _ _ _ h => h) (Or.inl ⟨by rfl, ?_⟩) (by assumption) ?_
      rotate_left 1
      · intro W' hSw
        go_simp
        try with_reducible rfl
      try simp only [Act.put, List.setIfInBounds_toArray, List.set_cons_zero, List.set_cons_succ]
      refine wpAnyF_take (i := 3) (oi := ⟨_, _, _, _, _, _⟩) (v := ?_) rfl (by kernel_rfl) (by kernel_rfl) (by kernel_rfl) (by kernel_rfl) (by kernel_rfl) (fun _ _ _ h => h) (Or.inl ⟨by rfl, ?_⟩) (by assumption) ?_
      rotate_left 1
      · intro W' hSw
        go_simp
        try with_reducible rfl
      try simp only [Act.put, List.setIfInBounds_toArray, List.set_cons_zero, List.set_cons_succ]
      refine wpAnyF_take (i := 4) (oi := ⟨_, _, _, _, _, _⟩) (v := ?_) rfl (by kernel_rfl) (by kernel_rfl) (by kernel_rfl) (by kernel_rfl) (by kernel_rfl) (fun _ _ _ h => h) (Or.inl ⟨by rfl, ?_⟩) (by assumption) ?_
      rotate_left 1
      · intro W' hSw
        go_simp
        try with_reducible rfl
      try simp only [Act.put, List.setIfInBounds_toArray, List.set_cons_zero, List.set_cons_succ]
      refine wpAnyF_take (i := 5) (oi := ⟨_, _, _, _, _, _⟩) (v := ?_) rfl (by kernel_rfl) (by kernel_rfl) (by kernel_rfl) (by kernel_rfl) (by kernel_rfl) (fun _ _ _ h => h) (Or.inl ⟨by rfl, ?_⟩) (by assumption) ?_
      rotate_left 1
      · intro W' hSw
        go_simp
        try with_reducible rfl
      try simp only [Act.put, List.setIfInBounds_toArray, List.set_cons_zero, List.set_cons_succ]
      refine wpAnyF_take (i := 6) (oi := ⟨_, _, _, _, _, _⟩) (v := ?_) rfl (by kernel_rfl) (by kernel_rfl) (by kernel_rfl) (by kernel_rfl) (by kernel_rfl) (fun _ _ _ h => h) (Or.inl ⟨by rfl, ?_⟩) (by assumption) ?_
      rotate_left 1
      · intro W' hSw
        go_simp
        try with_reducible rfl
      try simp only [Act.put, List.setIfInBounds_toArray, List.set_cons_zero, List.set_cons_succ]
      refine wpAnyF_take (i := 7) (oi := ⟨_, _, _, _, _, _⟩) (v := ?_) rfl (by kernel_rfl) (by kernel_rfl) (by kernel_rfl) (by kernel_rfl) (by kernel_rfl) (fun _ _ _ h => h) (Or.inl ⟨by rfl, ?_⟩) (by assumption) ?_
      rotate_left 1
      · intro W' hSw
        go_simp
        try with_reducible rfl
      try simp only [Act.put, List.setIfInBounds_toArray, List.set_cons_zero, List.set_cons_succ]
      refine wpAnyF_last (o := ⟨_, _, _, _, _, _⟩) (by kernel_rfl) rfl (fun K' hK => ?_)
      go_simp
      refine hq.mono ?_
      clear hq
      rintro e9 V5 ⟨rfl, hV5⟩
      dsimp only
      refine hK.out _ _ ?_
      clear hK K'
      try simp only [Act.put, List.setIfInBounds_toArray, List.set_cons_zero, List.set_cons_succ]
      refine wpAnyF_done (by kernel_rfl) ?_ _
      clear hHeld
      have HI0 := hid_of (HNN.out V5 hV5)
      clear hV5 HNN
      go_wp2_with fail
      refine wp_loop_f 131 (ld3I W bl bx bt E T L1 d a) (fun f _ => 4 - (intOf (f 10)).toNat) rfl ⟨rfl, rfl, rfl, rfl, 0, rfl, HI0⟩ ?_
      clear HI0 nu g1 kxU hzb
      intro F5 U5 hrel
      obtain ⟨f1, f4, f6, f9, t, f10, HI⟩ := hrel
      have H10 := hid_of f10
      rw [frame131L, f1, f4, f6, f9, f10]
      clear f1 f4 f6 f9 f10
      obtain ⟨ht4, hU5⟩ := HI.out
      clear HI
      by_cases htin : t < 4
      rotate_left 1
      · have ht : t = 4 := by omega
        subst ht
        have htin' : ¬ ((4 : Nat) : Int) < 4 := by omega
        have HI1 : Hid (a + 1 ≤ 64 ∧ LbI noO W bl [(bt, T), (bx, E)] (ldA d L1 (a + 1)) U5) := ⟨HA.out.1, hU5⟩
        clear hU5 htin ht4 H10
        go_wp2_with fail
        refine ⟨rfl, rfl, ⟨rfl, rfl, rfl, a + 1, ?_, HI1⟩, ?_⟩
        · show Value.int .u8 _ = _
          have := HA.out.1
          go_num
        · show 64 - (intOf (Value.int .u8 _)).toNat < 64 - (intOf (F2 9)).toNat
          rw [H9.out]
          have := HA.out.1
          simp [intOf]; omega
      have htin' : (t : Int) < 4 := by omega
      obtain ⟨tu, htu⟩ : ∃ tu, tu = UInt8.ofNat t := ⟨_, rfl⟩
      have hkt : w8 tu = (t : Int) := by rw [htu]; exact w8_ofNat t (by omega)
      obtain ⟨z, hz⟩ : ∃ z : Nat, z = 4 * a + t := ⟨_, rfl⟩
      have hz6 : z < 256 := by have := HA.out.1; omega
      obtain ⟨y, ny, hy⟩ : ∃ y, nth E (2 + z) = some (.int .u64 (w64 y)) ∧ y = d.bal[z]'hz6 := ⟨_, HEB.out z hz6, rfl⟩
      have hy2 : (d.bal[4 * a + t]?).getD 0 = y := by rw [hy, ← hz, Vector.getElem?_eq_getElem hz6]; rfl
      have z0 : IntKind.i64.wrap ((a : Int) * 4) = (a : Int) * 4 := by rw [IntKind.wrap_i64]; have := HA.out.1; omega
      have z1 : IntKind.i64.wrap ((a : Int) * 4 + (t : Int)) = (z : Int) := by rw [IntKind.wrap_i64]; have := HA.out.1; omega
      have za : IntKind.i64.wrap (a : Int) = (a : Int) := by rw [IntKind.wrap_i64]; have := HA.out.1; omega
      have zt : IntKind.i64.wrap (t : Int) = (t : Int) := by rw [IntKind.wrap_i64]; omega
      have zz2 : (0 : Int) ≤ (z : Int) := by omega
      have zz3 : ((z : Int)).toNat = z := by omega
      have zz4 : (z : Int) < 256 := by omega
      have zz5 : 2 + z < 324 := by omega
      have kx5 := (hU5.at (b := bx) (C := E) (by simp)).1
      have hlt5 := ldT_len d a (ldNn d a (ldA d L1 a)) t
      have HTI := hid_of htin
      by_cases hyz : w64 y = 0
      · have hyb : (w64 y != 0) = false := by simp [hyz]
        have HI1 : Hid (t + 1 ≤ 4 ∧ LbI noO W bl [(bt, T), (bx, E)] (ldT d a (ldNn d a (ldA d L1 a)) (t + 1)) U5) := by
          refine ⟨htin, ?_⟩
          have e : ldT d a (ldNn d a (ldA d L1 a)) (t + 1) = ldT d a (ldNn d a (ldA d L1 a)) t := by
            show (if (d.bal[4 * a + t]?).getD 0 = 0 then _ else _) = _
            rw [hy2, if_pos (w64_inj (b := 0) hyz)]
          rw [e]; exact hU5
        clear hU5 hy hy2 hz hz6 htin ht4 hlt5 htu hkt hyz
        go_wp2_with fail
        refine ⟨rfl, rfl, ⟨rfl, rfl, rfl, rfl, t + 1, ?_, HI1⟩, ?_⟩
        · show Value.int .u8 _ = _
          have := HTI.out
          go_num
        · show 4 - (intOf (Value.int .u8 _)).toNat < 4 - (intOf (F5 10)).toNat
          rw [H10.out]
          have := HTI.out
          simp [intOf]; omega
      have hyb : (w64 y != 0) = true := by simp [hyz]
      have hq := hU5.call (fun O' hO => (lsetBalance O' _ bl _ hO au tu HA.out.2.2.2 y (by have := HLE.out; omega)).mono (fun e V h => LgPost.lx h))
      rw [HA.out.2.2.1, hkt] at hq
      have HNN : Hid (∀ V9, LbI noO W bl [(bt, T), (bx, E)] (lsB (ldT d a (ldNn d a (ldA d L1 a)) t) au tu y) V9 → t + 1 ≤ 4 ∧ LbI noO W bl [(bt, T), (bx, E)] (ldT d a (ldNn d a (ldA d L1 a)) (t + 1)) V9) := fun V9 h9 => by
        refine ⟨htin, ?_⟩
        have e : ldT d a (ldNn d a (ldA d L1 a)) (t + 1) = lsB (ldT d a (ldNn d a (ldA d L1 a)) t) au tu y := by
          show (if (d.bal[4 * a + t]?).getD 0 = 0 then _ else _) = _
          rw [hy2, if_neg (fun e => hyz (by rw [e]; rfl)), HA.out.2.1, htu]
        rw [e]; exact h9
      clear hU5 hy hy2 hz hz6 htin ht4 hlt5 htu hkt
      go_wp2_with fail
      refine hq.mono ?_
      clear hq
      rintro e V7 ⟨rfl, hV7⟩
      dsimp only
      have HI1 := hid_of (HNN.out V7 hV7)
      clear HNN hV7
      go_wp2_with fail
      refine ⟨rfl, rfl, ⟨rfl, rfl, rfl, rfl, t + 1, ?_, HI1⟩, ?_⟩
      · show Value.int .u8 _ = _
        have := HTI.out
        go_num
      · show 4 - (intOf (Value.int .u8 _)).toNat < 4 - (intOf (F5 10)).toNat
        rw [H10.out]
        have := HTI.out
        simp [intOf]; omega
  have hin' : ¬ (a : Int) < 64 := by omega
  have ha : a = 64 := by omega
  subst ha
  have hlenA := HLN.out 64 (Nat.le_refl _)
  have HI0 : Hid (0 ≤ 4 ∧ LbI noO W bl [(bt, T), (bx, E)] (ldS v (ldA d L1 64) 0) U) := ⟨by omega, hU⟩
  have HLA := hid_of hlenA
  clear hin ha64 H9 hU hlenA
  go_wp2_with fail
  refine wp_loop_f 131 (ld4I W bl bx bt E T (ldA d L1 64) v) (fun f _ => 4 - (intOf (f 12)).toNat) rfl ⟨rfl, rfl, rfl, 0, rfl, HI0⟩ ?_
  clear HI0 hin'
  intro F3 U3 hrel
  obtain ⟨f1, f4, f6, t, f12, HI⟩ := hrel
  have H12 := hid_of f12
  rw [frame131L, f1, f4, f6, f12]
  clear f1 f4 f6 f12
  obtain ⟨ht4, hU3⟩ := HI.out
  clear HI
  have hls := ldS_len v (ldA d L1 64) t
  by_cases hin : t < 4
  · have hin' : (t : Int) < 4 := by omega
    have p0 : (0 : Int) ≤ (t : Int) := by omega
    have p2 : ((t : Int)).toNat = t := by omega
    obtain ⟨tu, htu⟩ : ∃ tu, tu = UInt8.ofNat t := ⟨_, rfl⟩
    have hk : w8 tu = (t : Int) := by rw [htu]; exact w8_ofNat t (by omega)
    obtain ⟨u, nu, hu⟩ : ∃ u, nth T t = some (.int .u64 (w64 u)) ∧ u = v[t]'hin := ⟨_, HTV.out t hin, rfl⟩
    have hq := (hU3.drewN 1).call (fun O' hO => (lsetSupply O' _ bl _ hO tu u (by have := HLA.out; omega)).mono (fun e V h => LgPost.lx h))
    rw [hk] at hq
    have k4 : blk U3.drew bt = some T := (hU3.at (b := bt) (C := T) (by simp)).1
    have HNN : Hid (∀ V9, LbI noO W bl [(bt, T), (bx, E)] (lsS (ldS v (ldA d L1 64) t) tu u) V9 → t + 1 ≤ 4 ∧ LbI noO W bl [(bt, T), (bx, E)] (ldS v (ldA d L1 64) (t + 1)) V9) := fun V9 h9 => ⟨hin, by
      show LbI noO W bl [(bt, T), (bx, E)] (lsS (ldS v (ldA d L1 64) t) (UInt8.ofNat t) ((v[t]?).getD 0)) V9
      rw [Vector.getElem?_eq_getElem hin, Option.getD_some, ← hu, ← htu]
      exact h9⟩
    have HTN := hid_of hin
    clear hU3 hu htu hk hin ht4 hls
    go_upto_region 27 with fail
    repeat go_step
    refine wp_region_F 7 (fun W' => blk W' bt = some T) (by kernel_rfl) k4 (fun hHeld => ?_)
    refine wpAnyF_take (i := 0) (oi := ⟨_, _, _, _, _, _⟩) (v := ?_) rfl (by kernel_rfl) (by kernel_rfl) (by kernel_rfl) (by kernel_rfl) (by kernel_rfl) (fun _ _ _ h => h) (Or.inl ⟨by rfl, ?_⟩) (by assumption) ?_
    rotate_left 1
    · intro W' hSw
      go_simp
      try with_reducible rfl
    try simp only [Act.put, List.setIfInBounds_toArray, List.set_cons_zero, List.set_cons_succ]
    refine wpAnyF_take (i := 1) (oi := ⟨_, _, _, _, _, _⟩) (v := ?_) rfl (by kernel_rfl) (by kernel_rfl) (by kernel_rfl) (by kernel_rfl) (by kernel_rfl) (fun _ _ _ h => h) (Or.inl ⟨by rfl, ?_⟩) (by assumption) ?_
    rotate_left 1
    · intro W' hSw
      go_simp
      try with_reducible rfl
    try simp only [Act.put, List.setIfInBounds_toArray, List.set_cons_zero, List.set_cons_succ]
    refine wpAnyF_take (i := 2) (oi := ⟨_, _, _, _, _, _⟩) (v := ?_) rfl (by kernel_rfl) (by kernel_rfl) (by kernel_rfl) (by kernel_rfl) (by kernel_rfl) (fun _ _ _ h => h) (Or.inl ⟨by rfl, ?_⟩) (by assumption) ?_
    rotate_left 1
    · intro W' hSw
      go_simp
      try with_reducible rfl
    try simp only [Act.put, List.setIfInBounds_toArray, List.set_cons_zero, List.set_cons_succ]
    refine wpAnyF_take (i := 3) (oi := ⟨_, _, _, _, _, _⟩) (v := ?_) rfl (by kernel_rfl) (by kernel_rfl) (by kernel_rfl) (by kernel_rfl) (by kernel_rfl) (fun _ _ _ h => h) (Or.inl ⟨by rfl, ?_⟩) (by assumption) ?_
    rotate_left 1
    · intro W' hSw
      go_simp
      try with_reducible rfl
    try simp only [Act.put, List.setIfInBounds_toArray, List.set_cons_zero, List.set_cons_succ]
    refine wpAnyF_take (i := 4) (oi := ⟨_, _, _, _, _, _⟩) (v := ?_) rfl (by kernel_rfl) (by kernel_rfl) (by kernel_rfl) (by kernel_rfl) (by kernel_rfl) (fun _ _ _ h => h) (Or.inl ⟨by rfl, ?_⟩) (by assumption) ?_
    rotate_left 1
    · intro W' hSw
      go_simp
      try with_reducible rfl
    try simp only [Act.put, List.setIfInBounds_toArray, List.set_cons_zero, List.set_cons_succ]
    refine wpAnyF_take (i := 5) (oi := ⟨_, _, _, _, _, _⟩) (v := ?_) rfl (by kernel_rfl) (by kernel_rfl) (by kernel_rfl) (by kernel_rfl) (by kernel_rfl) (fun _ _ _ h => h) (Or.inl ⟨by rfl, ?_⟩) (by assumption) ?_
    rotate_left 1
    · intro W' hSw
      go_simp
      try with_reducible rfl
    try simp only [Act.put, List.setIfInBounds_toArray, List.set_cons_zero, List.set_cons_succ]
    refine wpAnyF_take (i := 6) (oi := ⟨_, _, _, _, _, _⟩) (v := ?_) rfl (by kernel_rfl) (by kernel_rfl) (by kernel_rfl) (by kernel_rfl) (by kernel_rfl) (fun _ _ _ h => h) (Or.inl ⟨by rfl, ?_⟩) (by assumption) ?_
    rotate_left 1
    · intro W' hSw
      go_simp
      try with_reducible rfl
    try simp only [Act.put, List.setIfInBounds_toArray, List.set_cons_zero, List.set_cons_succ]
    refine wpAnyF_last (o := ⟨_, _, _, _, _, _⟩) (by kernel_rfl) rfl (fun K' hK => ?_)
    go_simp
    refine hq.mono ?_
    clear hq
    rintro e9 V5 ⟨rfl, hV5⟩
    dsimp only
    refine hK.out _ _ ?_
    clear hK K'
    try simp only [Act.put, List.setIfInBounds_toArray, List.set_cons_zero, List.set_cons_succ]
    refine wpAnyF_done (by kernel_rfl) ?_ _
    clear hHeld
    have HI1 := hid_of (HNN.out V5 hV5)
    clear hV5 HNN
    go_wp2_with fail
    refine ⟨rfl, rfl, ⟨rfl, rfl, rfl, t + 1, ?_, HI1⟩, ?_⟩
    · show Value.int .u8 _ = _
      have := HTN.out
      go_num
    · show 4 - (intOf (Value.int .u8 _)).toNat < 4 - (intOf (F3 12)).toNat
      rw [H12.out]
      have := HTN.out
      simp [intOf]; omega
  have hin' : ¬ (t : Int) < 4 := by omega
  have ht : t = 4 := by omega
  subst ht
  obtain ⟨L2, hL2⟩ : ∃ L2 : PLg, L2 = ldS v (ldA d L1 64) 4 := ⟨_, rfl⟩
  rw [← hL2] at hU3 hls
  have HL2 := hid_of hL2
  have HLS : Hid (L2.st.now.length ≤ 400) := by rw [Hid]; have := HLA.out; omega
  have HI0 : Hid (0 ≤ d.marks.length ∧ LbI noO W bl [(bt, T), (bx, E)] (ldM d.marks L2 0) U3) := ⟨Nat.zero_le _, hU3⟩
  clear hin ht4 H12 hU3 hls hL2
  go_wp2_with fail
  refine wp_loop_f 131 (ld5I W bl bx bt E T L2 d.marks) (fun f _ => d.marks.length - (intOf (f 13)).toNat) rfl ⟨rfl, rfl, rfl, 0, rfl, HI0⟩ ?_
  clear HI0 hin'
  intro F4 U4 hrel
  obtain ⟨f1, f4, f6, i, f13, HI⟩ := hrel
  have H13 := hid_of f13
  rw [frame131L, f1, f4, f6, f13]
  clear f1 f4 f6 f13
  obtain ⟨hil, hU4⟩ := HI.out
  clear HI
  have hml : d.marks.length = ml := HM.out.1
  have kx4 := (hU4.at (b := bx) (C := E) (by simp)).1
  have hls := ldM_len d.marks L2 i
  by_cases hin : i < ml
  · have hin' : (i : Int) < (ml : Int) := by omega
    obtain ⟨m, hm⟩ : ∃ m, d.marks[i]? = some m := ⟨_, List.getElem?_eq_getElem (by omega)⟩
    obtain ⟨b, C, hae, kb, hbl, hsg⟩ := HM.out.2 _ _ hm
    subst hae
    have kbU := (hU4.we.blk (blk_lt kb)).trans kb
    have p0 : (0 : Int) ≤ (i : Int) := by omega
    have p2 : ((i : Int)).toNat = i := by omega
    have g1 : i * 2 + 2 ≤ C.length := Nat.le_trans (by rw [← Nat.succ_mul]; exact Nat.mul_le_mul_right _ hin) hbl
    have nf : nth C (i * 2) = some (.int .u8 (w8 m.from_)) := by
      have h2 := seg_nth C (i * 2) 2 0
      rw [hsg, if_pos (by omega), Nat.add_zero] at h2
      rw [← h2]
      exact Mark.from__get m
    have ns : nth C (i * 2 + 1) = some (.int .u64 (w64 m.seq)) := by
      have h2 := seg_nth C (i * 2) 2 1
      rw [hsg, if_pos (by omega)] at h2
      rw [← h2]
      exact Mark.seq_get m
    have hsq := ((mkSnd_iff _ _).1 HMK.out i (by omega) m hm).2.1
    have hq := (hU4.drewN 1).call (fun O' hO => (lmark O' _ bl _ hO m.from_ m.seq (by omega) (by have := HLS.out; have := HS.out.1; omega)).mono (fun e V h => LgPost.lx h))
    have HNN : Hid (∀ V9, LbI noO W bl [(bt, T), (bx, E)] { ldM d.marks L2 i with st := markF (ldM d.marks L2 i).st m.from_ m.seq } V9 → i + 1 ≤ d.marks.length ∧ LbI noO W bl [(bt, T), (bx, E)] (ldM d.marks L2 (i + 1)) V9) := fun V9 h9 => ⟨by omega, by rw [ldM_succ hm]; exact h9⟩
    have k4 : blk U4.drew bx = some E := kx4
    have k5 : blk U4.drew b = some C := kbU
    have hi9 : (i : Int) + 1 ≤ 1000000001 := by have := HS.out.1; omega
    have HIM : Hid (i < d.marks.length) := by rw [Hid]; omega
    clear hU4 hm hsg hbl hin hil hls hsq kb hml
    go_upto_region 31 with fail
    repeat go_step
    refine wp_region_F 15 (fun W' => blk W' bx = some E ∧ blk W' b = some C) (by kernel_rfl) ⟨k4, k5⟩ (fun hHeld => ?_)
    refine wpAnyF_take (i := 0) (oi := ⟨_, _, _, _, _, _⟩) (v := ?_) rfl (by kernel_rfl) (by kernel_rfl) (by kernel_rfl) (by kernel_rfl) (by kernel_rfl) (fun _ _ _ h => h) (Or.inl ⟨by rfl, ?_⟩) (by assumption) ?_
    rotate_left 1
    · intro W' hSw
      obtain ⟨hS1, hS2⟩ := hSw
      go_simp
      try with_reducible rfl
    try simp only [Act.put, List.setIfInBounds_toArray, List.set_cons_zero, List.set_cons_succ]
    refine wpAnyF_take (i := 1) (oi := ⟨_, _, _, _, _, _⟩) (v := ?_) rfl (by kernel_rfl) (by kernel_rfl) (by kernel_rfl) (by kernel_rfl) (by kernel_rfl) (fun _ _ _ h => h) (Or.inl ⟨by rfl, ?_⟩) (by assumption) ?_
    rotate_left 1
    · intro W' hSw
      obtain ⟨hS1, hS2⟩ := hSw
      go_simp
      try with_reducible rfl
    try simp only [Act.put, List.setIfInBounds_toArray, List.set_cons_zero, List.set_cons_succ]
    refine wpAnyF_take (i := 2) (oi := ⟨_, _, _, _, _, _⟩) (v := ?_) rfl (by kernel_rfl) (by kernel_rfl) (by kernel_rfl) (by kernel_rfl) (by kernel_rfl) (fun _ _ _ h => h) (Or.inl ⟨by rfl, ?_⟩) (by assumption) ?_
    rotate_left 1
    · intro W' hSw
      obtain ⟨hS1, hS2⟩ := hSw
      go_simp
      try with_reducible rfl
    try simp only [Act.put, List.setIfInBounds_toArray, List.set_cons_zero, List.set_cons_succ]
    refine wpAnyF_take (i := 3) (oi := ⟨_, _, _, _, _, _⟩) (v := ?_) rfl (by kernel_rfl) (by kernel_rfl) (by kernel_rfl) (by kernel_rfl) (by kernel_rfl) (fun _ _ _ h => h) (Or.inl ⟨by rfl, ?_⟩) (by assumption) ?_
    rotate_left 1
    · intro W' hSw
      obtain ⟨hS1, hS2⟩ := hSw
      go_simp
      try with_reducible rfl
    try simp only [Act.put, List.setIfInBounds_toArray, List.set_cons_zero, List.set_cons_succ]
    refine wpAnyF_take (i := 4) (oi := ⟨_, _, _, _, _, _⟩) (v := ?_) rfl (by kernel_rfl) (by kernel_rfl) (by kernel_rfl) (by kernel_rfl) (by kernel_rfl) (fun _ _ _ h => h) (Or.inl ⟨by rfl, ?_⟩) (by assumption) ?_
    rotate_left 1
    · intro W' hSw
      obtain ⟨hS1, hS2⟩ := hSw
      go_simp
      try with_reducible rfl
    try simp only [Act.put, List.setIfInBounds_toArray, List.set_cons_zero, List.set_cons_succ]
    refine wpAnyF_take (i := 5) (oi := ⟨_, _, _, _, _, _⟩) (v := ?_) rfl (by kernel_rfl) (by kernel_rfl) (by kernel_rfl) (by kernel_rfl) (by kernel_rfl) (fun _ _ _ h => h) (Or.inl ⟨by rfl, ?_⟩) (by assumption) ?_
    rotate_left 1
    · intro W' hSw
      obtain ⟨hS1, hS2⟩ := hSw
      go_simp
      try with_reducible rfl
    try simp only [Act.put, List.setIfInBounds_toArray, List.set_cons_zero, List.set_cons_succ]
    refine wpAnyF_take (i := 6) (oi := ⟨_, _, _, _, _, _⟩) (v := ?_) rfl (by kernel_rfl) (by kernel_rfl) (by kernel_rfl) (by kernel_rfl) (by kernel_rfl) (fun _ _ _ h => h) (Or.inl ⟨by rfl, ?_⟩) (by assumption) ?_
    rotate_left 1
    · intro W' hSw
      obtain ⟨hS1, hS2⟩ := hSw
      go_simp
      try with_reducible rfl
    try simp only [Act.put, List.setIfInBounds_toArray, List.set_cons_zero, List.set_cons_succ]
    refine wpAnyF_take (i := 7) (oi := ⟨_, _, _, _, _, _⟩) (v := ?_) rfl (by kernel_rfl) (by kernel_rfl) (by kernel_rfl) (by kernel_rfl) (by kernel_rfl) (fun _ _ _ h => h) (Or.inl ⟨by rfl, ?_⟩) (by assumption) ?_
    rotate_left 1
    · intro W' hSw
      obtain ⟨hS1, hS2⟩ := hSw
      go_simp
      try with_reducible rfl
    try simp only [Act.put, List.setIfInBounds_toArray, List.set_cons_zero, List.set_cons_succ]
    refine wpAnyF_take (i := 8) (oi := ⟨_, _, _, _, _, _⟩) (v := ?_) rfl (by kernel_rfl) (by kernel_rfl) (by kernel_rfl) (by kernel_rfl) (by kernel_rfl) (fun _ _ _ h => h) (Or.inl ⟨by rfl, ?_⟩) (by assumption) ?_
    rotate_left 1
    · intro W' hSw
      obtain ⟨hS1, hS2⟩ := hSw
      go_simp
      try with_reducible rfl
    try simp only [Act.put, List.setIfInBounds_toArray, List.set_cons_zero, List.set_cons_succ]
    refine wpAnyF_take (i := 9) (oi := ⟨_, _, _, _, _, _⟩) (v := ?_) rfl (by kernel_rfl) (by kernel_rfl) (by kernel_rfl) (by kernel_rfl) (by kernel_rfl) (fun _ _ _ h => h) (Or.inl ⟨by rfl, ?_⟩) (by assumption) ?_
    rotate_left 1
    · intro W' hSw
      obtain ⟨hS1, hS2⟩ := hSw
      go_simp
      try with_reducible rfl
    try simp only [Act.put, List.setIfInBounds_toArray, List.set_cons_zero, List.set_cons_succ]
    refine wpAnyF_take (i := 10) (oi := ⟨_, _, _, _, _, _⟩) (v := ?_) rfl (by kernel_rfl) (by kernel_rfl) (by kernel_rfl) (by kernel_rfl) (by kernel_rfl) (fun _ _ _ h => h) (Or.inl ⟨by rfl, ?_⟩) (by assumption) ?_
    rotate_left 1
    · intro W' hSw
      obtain ⟨hS1, hS2⟩ := hSw
      go_simp
      try with_reducible rfl
    try simp only [Act.put, List.setIfInBounds_toArray, List.set_cons_zero, List.set_cons_succ]
    refine wpAnyF_take (i := 11) (oi := ⟨_, _, _, _, _, _⟩) (v := ?_) rfl (by kernel_rfl) (by kernel_rfl) (by kernel_rfl) (by kernel_rfl) (by kernel_rfl) (fun _ _ _ h => h) (Or.inl ⟨by rfl, ?_⟩) (by assumption) ?_
    rotate_left 1
    · intro W' hSw
      obtain ⟨hS1, hS2⟩ := hSw
      go_simp
      try with_reducible rfl
    try simp only [Act.put, List.setIfInBounds_toArray, List.set_cons_zero, List.set_cons_succ]
    refine wpAnyF_take (i := 12) (oi := ⟨_, _, _, _, _, _⟩) (v := ?_) rfl (by kernel_rfl) (by kernel_rfl) (by kernel_rfl) (by kernel_rfl) (by kernel_rfl) (fun _ _ _ h => h) (Or.inl ⟨by rfl, ?_⟩) (by assumption) ?_
    rotate_left 1
    · intro W' hSw
      obtain ⟨hS1, hS2⟩ := hSw
      go_simp
      try with_reducible rfl
    try simp only [Act.put, List.setIfInBounds_toArray, List.set_cons_zero, List.set_cons_succ]
    refine wpAnyF_take (i := 13) (oi := ⟨_, _, _, _, _, _⟩) (v := ?_) rfl (by kernel_rfl) (by kernel_rfl) (by kernel_rfl) (by kernel_rfl) (by kernel_rfl) (fun _ _ _ h => h) (Or.inl ⟨by rfl, ?_⟩) (by assumption) ?_
    rotate_left 1
    · intro W' hSw
      obtain ⟨hS1, hS2⟩ := hSw
      go_simp
      try with_reducible rfl
    try simp only [Act.put, List.setIfInBounds_toArray, List.set_cons_zero, List.set_cons_succ]
    refine wpAnyF_take (i := 14) (oi := ⟨_, _, _, _, _, _⟩) (v := ?_) rfl (by kernel_rfl) (by kernel_rfl) (by kernel_rfl) (by kernel_rfl) (by kernel_rfl) (fun _ _ _ h => h) (Or.inl ⟨by rfl, ?_⟩) (by assumption) ?_
    rotate_left 1
    · intro W' hSw
      obtain ⟨hS1, hS2⟩ := hSw
      go_simp
      try with_reducible rfl
    try simp only [Act.put, List.setIfInBounds_toArray, List.set_cons_zero, List.set_cons_succ]
    refine wpAnyF_last (o := ⟨_, _, _, _, _, _⟩) (by kernel_rfl) rfl (fun K' hK => ?_)
    go_simp
    refine hq.mono ?_
    clear hq
    rintro e9 V5 ⟨rfl, hV5⟩
    dsimp only
    refine hK.out _ _ ?_
    clear hK K'
    try simp only [Act.put, List.setIfInBounds_toArray, List.set_cons_zero, List.set_cons_succ]
    refine wpAnyF_done (by kernel_rfl) ?_ _
    clear hHeld
    have HI1 := hid_of (HNN.out V5 hV5)
    clear hV5 HNN
    go_wp2_with fail
    refine ⟨rfl, rfl, ⟨rfl, rfl, rfl, i + 1, rfl, HI1⟩, ?_⟩
    show d.marks.length - ((i : Int) + 1).toNat < d.marks.length - (intOf (F4 13)).toNat
    rw [H13.out]
    show d.marks.length - (i + 1) < d.marks.length - i
    have := HIM.out
    omega
  have hin' : ¬ (i : Int) < (ml : Int) := by omega
  have hie : i = d.marks.length := by omega
  have hLL : ldM d.marks L2 i = ldL d v := by
    rw [hie]
    unfold ldL
    rw [← HL1.out, ← HL2.out]
  rw [hLL] at hU4
  have hlh : Calls Tryz.prog 181 #[.pointer (some ⟨bl, 0, none⟩), .slice ha hl hc] U4 fun e V => ∃ (b : Bool) (L' : PLg), e = .returned (.bool b) ∧ (b = true → lhOk (ldL d v) d.hist ∧ L' = lhL (ldL d v) d.hist) ∧ (b = false → ¬ lhOk (ldL d v) d.hist) ∧ LbI noO W bl [] L' V := by
    have hwe := hU4.we
    obtain ⟨O4, hL4, hg4, -⟩ := hU4
    refine (loadHistory_any O4 U4 bl (ldL d v) hL4 ha hl hc d.hist (HH.out.grow hwe) (fun b hne hb => ?_) (by have := HS.out.2; omega)).mono ?_
    · obtain ⟨s0, hs0⟩ : ∃ s0, d.hist[0]? = some s0 := ⟨_, List.getElem?_eq_getElem (List.length_pos_iff.2 hne)⟩
      obtain ⟨b', C', e1, kb', -⟩ := HH.out.2 _ _ hs0
      rw [hb] at e1
      injection e1 with e1
      injection e1 with e1
      subst e1
      rw [(hg4.keep b (blk_lt kb') (lgP_no bl)).1]
      exact lgP_no bl
    · rintro e V ⟨b, L', h1, h2, h3, O5, h4, h5, -⟩
      exact ⟨b, L', h1, h2, h3, O5, h4, hg4.trans h5, fun p hp => by cases hp⟩
  clear hU4 hin hil hls H13 hie hLL hml
  go_wp2_with fail
  refine hlh.mono ?_
  clear hlh
  rintro e V6 ⟨b, L', rfl, hb1, hb2, hV6⟩
  dsimp only
  cases b with
  | false =>
    have HP := hid_of (HNO.out V6 hV6.we (fun v' q => by
      have h1 := q.2.1
      rw [HTT.out] at h1
      injection h1 with h1
      rw [← h1] at q
      exact hb2 rfl q.2.2.2.2))
    clear HNO HQ hb1 hb2 hV6
    go_wp2_with fail
    try (first | go_ret | go_ret2 | go_ret3 | go_end0)
    exact HP.out
  | true =>
    obtain ⟨h1, h2⟩ := hb1 rfl
    have HP : Hid (Q (.returned (.tuple #[.pointer (some ⟨bl, 0, none⟩), .int .i64 0])) V6) := by
      show Q _ _
      rw [HQ.out]
      refine ⟨hV6.we, .inl ⟨bl, v, ⟨HRO.out, HTT.out, HMK.out, HNON.out, h1⟩, rfl, HBW.out, ?_⟩⟩
      obtain ⟨O6, h3, h4, -⟩ := hV6
      exact ⟨O6, fun k hk => (h4.keep k hk (lgP_no bl)).1, by rw [← h2]; exact h3⟩
    clear HNO HQ hb1 hb2 hV6 h1 h2
    go_wp2_with fail
    try (first | go_ret | go_ret2 | go_ret3 | go_end0)
    exact HP.out
end Go.Proofs.Qxb6500786aGreat
