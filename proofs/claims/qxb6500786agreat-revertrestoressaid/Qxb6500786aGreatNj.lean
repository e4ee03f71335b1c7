import Derived.DeepKeys2
import Derived.Test.Qxb6500786aGreatNe
import Derived.Test.Qxb6500786aGreatNg
import Derived.Test.Qxb6500786aGreatNi

import Derived.StillTailTactics
import Derived.Deep.QuietTactic
import Derived.BigQuiet
import Derived.Deep.RegionHeld
import Derived.Deep.CutRange
import Derived.Laws.ResultCell
import Derived.Laws.Rows
import Derived.DeepKeys
import Derived.DataBytes
import Derived.Laws.StructEq
import Derived.Laws.AppendOwn
import Derived.Laws.MakeOwn
import Derived.Lib.AppendStr
set_option linter.unusedSimpArgs false
set_option linter.unusedVariables false
namespace Go.Proofs.Qxb6500786aGreat
open Go.RowKit Go.Blk
attribute [local go_sem ↓] execOp_load execOp_store execOp_alloc
attribute [local go_sem] Tryz.ld24 Tryz.st24 Tryz.ld36 Tryz.st36 Tryz.ld28 Tryz.st28 Tryz.ld32 Tryz.st32 Tryz.ld33 Tryz.st33 Tryz.ld34 Tryz.st34 Tryz.ld5 Tryz.st5 Tryz.ld31 Tryz.st31 Tryz.ld30 Tryz.st30 Tryz.ld41 Tryz.st41 Tryz.ld44 Tryz.st44 Tryz.ld4 Tryz.st4 Tryz.ld173 Tryz.st173 Tryz.ld174 Tryz.st174 Tryz.ld95 Tryz.st95 Tryz.ld45 Tryz.st45 Tryz.ld207 Tryz.st207 Tryz.ld3 Tryz.st3 Tryz.ld189 Tryz.st189 Tryz.ld2 Tryz.st2 Tryz.ld9 Tryz.st9 Tryz.ld12 Tryz.st12 Tryz.ld21 Tryz.st21 Tryz.ld22 Tryz.st22 Tryz.ld46 Tryz.st46 Tryz.ld92 Tryz.st92 Tryz.ld94 Tryz.st94 Tryz.ld96 Tryz.st96 Tryz.ld97 Tryz.st97 Tryz.ld105 Tryz.st105 Tryz.ld117 Tryz.st117 Tryz.ld122 Tryz.st122 Tryz.ld123 Tryz.st123 Tryz.ld133 Tryz.st133 Tryz.ld155 Tryz.st155 Tryz.ld163 Tryz.st163 Tryz.ld190 Tryz.st190 Tryz.ld197 Tryz.st197 Tryz.ld201 Tryz.st201 Tryz.ld202 Tryz.st202 Tryz.ld209 Tryz.st209 Tryz.ld216 Tryz.st216 Tryz.ld230 Tryz.st230 Tryz.ld238 Tryz.st238 Tryz.ld242 Tryz.st242 Tryz.ld251 Tryz.st251 Tryz.ld260 Tryz.st260 Tryz.ld286 Tryz.st286 Tryz.ld292 Tryz.st292 Tryz.ld298 Tryz.st298 Tryz.ld309 Tryz.st309 Tryz.ld35 Tryz.st35 Tryz.ld48 Tryz.st48 Tryz.ld47 Tryz.st47 Tryz.ld79 Tryz.st79 Tryz.ld177 Tryz.st177 Tryz.ld180 Tryz.st180 Tryz.ld231 Tryz.st231 Tryz.ld232 Tryz.st232 Tryz.ld26 Tryz.st26 Tryz.ld38 Tryz.st38 Tryz.ld40 Tryz.st40 Tryz.ld43 Tryz.st43 Tryz.ld50 Tryz.st50 Tryz.ld52 Tryz.st52 Tryz.ld54 Tryz.st54 Tryz.ld81 Tryz.st81 Tryz.ld112 Tryz.st112 Tryz.ld120 Tryz.st120 Tryz.ld176 Tryz.st176 Tryz.ld179 Tryz.st179 Tryz.ld182 Tryz.st182 Tryz.ld184 Tryz.st184 Tryz.ld234 Tryz.st234 Tryz.ld236 Tryz.st236 Tryz.ld240 Tryz.st240 Tryz.ld246 Tryz.st246 Tryz.ld249 Tryz.st249 Tryz.al35 Tryz.al48 Tryz.al47 Tryz.al79 Tryz.al177 Tryz.al180 Tryz.al231 Tryz.al232 Tryz.al26 Tryz.al38 Tryz.al40 Tryz.al43 Tryz.al50 Tryz.al52 Tryz.al54 Tryz.al81 Tryz.al112 Tryz.al120 Tryz.al176 Tryz.al179 Tryz.al182 Tryz.al184 Tryz.al234 Tryz.al236 Tryz.al240 Tryz.al246 Tryz.al249
attribute [local go_sem] Player.length_enc Player.ok_enc Player.all_get Player.all_set Player.hand_get Player.hand_set Player.aside_get Player.aside_set Message.length_enc Message.ok_enc Message.all_get Message.all_set Message.kind_get Message.kind_set Message.from__get Message.from__set Message.to__get Message.to__set Message.sender_get Message.sender_set Message.receiver_get Message.receiver_set Message.seq_get Message.seq_set Message.token_get Message.token_set Message.amount_get Message.amount_set Message.size_get Message.size_set Message.payload_get Message.payload_set Tx.length_enc Tx.ok_enc Tx.all_get Tx.all_set Tx.kind_get Tx.kind_set Tx.chain_get Tx.chain_set Tx.from__get Tx.from__set Tx.nonce_get Tx.nonce_set Tx.fee_get Tx.fee_set Tx.to__get Tx.to__set Tx.dest_get Tx.dest_set Tx.token_get Tx.token_set Tx.amount_get Tx.amount_set Tx.size_get Tx.size_set Tx.payload_get Tx.payload_set Tx.msg_get Tx.msg_set Tx.msg_kind_get Tx.msg_kind_set Tx.msg_from__get Tx.msg_from__set Tx.msg_to__get Tx.msg_to__set Tx.msg_sender_get Tx.msg_sender_set Tx.msg_receiver_get Tx.msg_receiver_set Tx.msg_seq_get Tx.msg_seq_set Tx.msg_token_get Tx.msg_token_set Tx.msg_amount_get Tx.msg_amount_set Tx.msg_size_get Tx.msg_size_set Tx.msg_payload_get Tx.msg_payload_set GOp.length_enc GOp.ok_enc GOp.all_get GOp.all_set GOp.kind_get GOp.kind_set GOp.tx_get GOp.tx_set GOp.txs_get GOp.txs_set GOp.gas_get GOp.gas_set GOp.acct_get GOp.acct_set GOp.token_get GOp.token_set GOp.chain_get GOp.chain_set GOp.seq_get GOp.seq_set GOp.tx_kind_get GOp.tx_kind_set GOp.tx_chain_get GOp.tx_chain_set GOp.tx_from__get GOp.tx_from__set GOp.tx_nonce_get GOp.tx_nonce_set GOp.tx_fee_get GOp.tx_fee_set GOp.tx_to__get GOp.tx_to__set GOp.tx_dest_get GOp.tx_dest_set GOp.tx_token_get GOp.tx_token_set GOp.tx_amount_get GOp.tx_amount_set GOp.tx_size_get GOp.tx_size_set GOp.tx_payload_get GOp.tx_payload_set GOp.tx_msg_get GOp.tx_msg_set GOp.tx_msg_kind_get GOp.tx_msg_kind_set GOp.tx_msg_from__get GOp.tx_msg_from__set GOp.tx_msg_to__get GOp.tx_msg_to__set GOp.tx_msg_sender_get GOp.tx_msg_sender_set GOp.tx_msg_receiver_get GOp.tx_msg_receiver_set GOp.tx_msg_seq_get GOp.tx_msg_seq_set GOp.tx_msg_token_get GOp.tx_msg_token_set GOp.tx_msg_amount_get GOp.tx_msg_amount_set GOp.tx_msg_size_get GOp.tx_msg_size_set GOp.tx_msg_payload_get GOp.tx_msg_payload_set Summary.length_enc Summary.ok_enc Summary.all_get Summary.all_set Summary.height_get Summary.height_set Summary.txs_get Summary.txs_set Summary.gas_get Summary.gas_set Summary.fees_get Summary.fees_set Summary.sent_get Summary.sent_set Summary.took_get Summary.took_set Summary.minted_get Summary.minted_set Summary.burned_get Summary.burned_set Summary.root_get Summary.root_set Detail.length_enc Detail.ok_enc Detail.all_get Detail.all_set Detail.code_get Detail.code_set Detail.have__get Detail.have__set Detail.need_get Detail.need_set Slot.length_enc Slot.ok_enc Slot.all_get Slot.all_set Slot.nonce_get Slot.nonce_set Slot.balances_get Slot.balances_set Tree.length_enc Tree.ok_enc Tree.all_get Tree.all_set Tree.leaves_get Tree.leaves_set Mark.length_enc Mark.ok_enc Mark.all_get Mark.all_set Mark.from__get Mark.from__set Mark.seq_get Mark.seq_set Receipt.length_enc Receipt.ok_enc Receipt.all_get Receipt.all_set Receipt.code_get Receipt.code_set Receipt.hash_get Receipt.hash_set Receipt.index_get Receipt.index_set Receipt.gas_get Receipt.gas_set Receipt.fee_get Receipt.fee_set Receipt.hasSent_get Receipt.hasSent_set Receipt.sent_get Receipt.sent_set Receipt.hasTook_get Receipt.hasTook_set Receipt.took_get Receipt.took_set Receipt.sent_kind_get Receipt.sent_kind_set Receipt.sent_from__get Receipt.sent_from__set Receipt.sent_to__get Receipt.sent_to__set Receipt.sent_sender_get Receipt.sent_sender_set Receipt.sent_receiver_get Receipt.sent_receiver_set Receipt.sent_seq_get Receipt.sent_seq_set Receipt.sent_token_get Receipt.sent_token_set Receipt.sent_amount_get Receipt.sent_amount_set Receipt.sent_size_get Receipt.sent_size_set Receipt.sent_payload_get Receipt.sent_payload_set Receipt.took_kind_get Receipt.took_kind_set Receipt.took_from__get Receipt.took_from__set Receipt.took_to__get Receipt.took_to__set Receipt.took_sender_get Receipt.took_sender_set Receipt.took_receiver_get Receipt.took_receiver_set Receipt.took_seq_get Receipt.took_seq_set Receipt.took_token_get Receipt.took_token_set Receipt.took_amount_get Receipt.took_amount_set Receipt.took_size_get Receipt.took_size_set Receipt.took_payload_get Receipt.took_payload_set Store.length_enc Store.ok_enc Store.all_get Store.all_set Store.now_get Store.now_set Store.saved_get Store.saved_set GState.length_enc GState.ok_enc GState.all_get GState.all_set GState.kv_get GState.kv_set GState.tree_get GState.tree_set GState.stale_get GState.stale_set GState.touched_get GState.touched_set GState.kv_now_get GState.kv_now_set GState.kv_saved_get GState.kv_saved_set GState.tree_leaves_get GState.tree_leaves_set History.length_enc History.ok_enc History.all_get History.all_set History.ring_get History.ring_set History.closed_get History.closed_set Ledger.length_enc Ledger.ok_enc Ledger.all_get Ledger.all_set Ledger.chain_get Ledger.chain_set Ledger.st_get Ledger.st_set Ledger.height_get Ledger.height_set Ledger.open__get Ledger.open__set Ledger.gasLimit_get Ledger.gasLimit_set Ledger.past_get Ledger.past_set Ledger.begun_get Ledger.begun_set Ledger.sent_get Ledger.sent_set Ledger.took_get Ledger.took_set Ledger.receipts_get Ledger.receipts_set Ledger.st_kv_get Ledger.st_kv_set Ledger.st_tree_get Ledger.st_tree_set Ledger.st_stale_get Ledger.st_stale_set Ledger.st_touched_get Ledger.st_touched_set Ledger.st_kv_now_get Ledger.st_kv_now_set Ledger.st_kv_saved_get Ledger.st_kv_saved_set Ledger.st_tree_leaves_get Ledger.st_tree_leaves_set Ledger.past_ring_get Ledger.past_ring_set Ledger.past_closed_get Ledger.past_closed_set Ledger.begun_kv_get Ledger.begun_kv_set Ledger.begun_tree_get Ledger.begun_tree_set Ledger.begun_stale_get Ledger.begun_stale_set Ledger.begun_touched_get Ledger.begun_touched_set Ledger.begun_kv_now_get Ledger.begun_kv_now_set Ledger.begun_kv_saved_get Ledger.begun_kv_saved_set Ledger.begun_tree_leaves_get Ledger.begun_tree_leaves_set Purse.length_enc Purse.ok_enc Purse.all_get Purse.all_set Purse.st_get Purse.st_set Purse.n_get Purse.n_set Purse.account_get Purse.account_set Purse.token_get Purse.token_set Purse.amount_get Purse.amount_set Plan.length_enc Plan.ok_enc Plan.all_get Plan.all_set Plan.purse_get Plan.purse_set Plan.nonce_get Plan.nonce_set Plan.gasUsed_get Plan.gasUsed_set Plan.fees_get Plan.fees_set Plan.hasSupply_get Plan.hasSupply_set Plan.token_get Plan.token_set Plan.supply_get Plan.supply_set Plan.flowAt_get Plan.flowAt_set Plan.flow_get Plan.flow_set Plan.receipt_get Plan.receipt_set Plan.purse_st_get Plan.purse_st_set Plan.purse_n_get Plan.purse_n_set Plan.purse_account_get Plan.purse_account_set Plan.purse_token_get Plan.purse_token_set Plan.purse_amount_get Plan.purse_amount_set Plan.receipt_code_get Plan.receipt_code_set Plan.receipt_hash_get Plan.receipt_hash_set Plan.receipt_index_get Plan.receipt_index_set Plan.receipt_gas_get Plan.receipt_gas_set Plan.receipt_fee_get Plan.receipt_fee_set Plan.receipt_hasSent_get Plan.receipt_hasSent_set Plan.receipt_sent_get Plan.receipt_sent_set Plan.receipt_hasTook_get Plan.receipt_hasTook_set Plan.receipt_took_get Plan.receipt_took_set Plan.receipt_sent_kind_get Plan.receipt_sent_kind_set Plan.receipt_sent_from__get Plan.receipt_sent_from__set Plan.receipt_sent_to__get Plan.receipt_sent_to__set Plan.receipt_sent_sender_get Plan.receipt_sent_sender_set Plan.receipt_sent_receiver_get Plan.receipt_sent_receiver_set Plan.receipt_sent_seq_get Plan.receipt_sent_seq_set Plan.receipt_sent_token_get Plan.receipt_sent_token_set Plan.receipt_sent_amount_get Plan.receipt_sent_amount_set Plan.receipt_sent_size_get Plan.receipt_sent_size_set Plan.receipt_sent_payload_get Plan.receipt_sent_payload_set Plan.receipt_took_kind_get Plan.receipt_took_kind_set Plan.receipt_took_from__get Plan.receipt_took_from__set Plan.receipt_took_to__get Plan.receipt_took_to__set Plan.receipt_took_sender_get Plan.receipt_took_sender_set Plan.receipt_took_receiver_get Plan.receipt_took_receiver_set Plan.receipt_took_seq_get Plan.receipt_took_seq_set Plan.receipt_took_token_get Plan.receipt_took_token_set Plan.receipt_took_amount_get Plan.receipt_took_amount_set Plan.receipt_took_size_get Plan.receipt_took_size_set Plan.receipt_took_payload_get Plan.receipt_took_payload_set Move.length_enc Move.ok_enc Move.all_get Move.all_set Move.account_get Move.account_set Move.token_get Move.token_set Move.down_get Move.down_set Move.amount_get Move.amount_set Books.length_enc Books.ok_enc Books.all_get Books.all_set Books.sums_get Books.sums_set Books.stored_get Books.stored_set Books.marks_get Books.marks_set Pair.length_enc Pair.ok_enc Pair.all_get Pair.all_set Pair.key_get Pair.key_set Pair.value_get Pair.value_set
attribute [local go_sem] size_put size_ext blk_put free_put blk_alloc free_alloc blk_drew free_drew blk_ext free_ext lookOr_some putOr_some segAt_some cellAt_some storeIn_some put_put put_alloc_new length_arr ok_arr_u8 ok_arr_u32 ok_arr_u64 ok_arr_i64 ok_arr_sl cellsV_agg cellsV_int cellsV_bool cellsV_string cellsV_pointer cellsV_slice cellsV_sl ok_int ok_bool ok_string ok_pointer ok_slice ok_sl toList_arr seg_arr set_arr nth_splice nth_splice0 seg_splice seg_splice0 splice_splice splice_splice0 length_splice_if
attribute [local go_sem ↓] execOp_box
attribute [local go_sem] box_run nth_arr_u8 put_arr_u8 blk_drewN free_drewN put_drewN blk_raw free_raw
/-- What only reads old memory, with boxes of its own. -/
def BxI (W : World) (bs : List (Nat × List Value)) (V : World) : Prop := W.Extends V ∧ ∀ p ∈ bs, blk V p.1 = some p.2 ∧ free V p.1 = true ∧ W.heap.size ≤ p.1
section
variable {W V V' : World} {bs : List (Nat × List Value)}
theorem BxI.start (W : World) : BxI W [] W := ⟨ext_Ext (Ext.refl _), fun p hp => by cases hp⟩
theorem BxI.ext (h : BxI W bs V) (he : V.Extends V') : BxI W bs V' := by
  refine ⟨h.1.trans he, fun p hp => ?_⟩
  obtain ⟨g1, g2, g4⟩ := h.2 p hp
  exact ⟨(he.blk (blk_lt g1)).trans g1, (free_of_heap (he.block _ (blk_lt g1))).trans g2, g4⟩
theorem BxI.drewN (h : BxI W bs V) (n : Nat) : BxI W bs (V.drewN n) := ⟨extends_drewN h.1 n, h.2⟩
theorem BxI.box (h : BxI W bs V) (C : List Value) (ty : TypeId) : BxI W ((V.heap.size, C) :: bs) (V.alloc (.cells C.toArray ty)) := by
  have he : V.Extends (V.alloc (.cells C.toArray ty)) := extends_alloc (ext_Ext (Ext.refl _)) _
  refine ⟨h.1.trans he, fun p hp => ?_⟩
  rcases List.mem_cons.1 hp with rfl | hp
  · exact ⟨by rw [blk_alloc, if_pos rfl], by rw [free_alloc, if_pos rfl], h.1.size⟩
  · obtain ⟨g1, g2, g4⟩ := h.2 p hp
    exact ⟨(he.blk (blk_lt g1)).trans g1, (free_of_heap (he.block _ (blk_lt g1))).trans g2, g4⟩
theorem BxI.at (h : BxI W bs V) {b : Nat} {C : List Value} (hp : (b, C) ∈ bs) : blk V b = some C ∧ free V b = true := ⟨(h.2 _ hp).1, (h.2 _ hp).2.1⟩
theorem BxI.sub {bs' : List (Nat × List Value)} (h : BxI W bs V) (hs : ∀ p ∈ bs', p ∈ bs) : BxI W bs' V := ⟨h.1, fun p hp => h.2 p (hs p hp)⟩
theorem BxI.put {b : Nat} {C C' : List Value} (h : BxI W ((b, C) :: bs) V) (hn : ∀ p ∈ bs, p.1 ≠ b) : BxI W ((b, C') :: bs) (Blk.put V b C') := by
  obtain ⟨q1, q2, q4⟩ := h.2 _ (List.mem_cons_self ..)
  refine ⟨extends_put h.1 q4 _, fun p hp => ?_⟩
  rcases List.mem_cons.1 hp with rfl | hp
  · exact ⟨by rw [blk_put, if_pos rfl, q1]; rfl, by rw [free_put]; exact q2, q4⟩
  · obtain ⟨g1, g2, g4⟩ := h.2 p (List.mem_cons_of_mem _ hp)
    exact ⟨by rw [blk_put, if_neg (hn p hp)]; exact g1, by rw [free_put]; exact g2, g4⟩
/-- A function that only reads runs. -/
theorem BxI.call {f : FuncId} {args : Array Value} {R : Ending → Prop} (h : BxI W bs V) (hc : Calls Tryz.prog f args V (fun e V' => R e ∧ V.Extends V')) : Calls Tryz.prog f args V (fun e V' => R e ∧ BxI W bs V') := hc.mono (fun e V' q => ⟨q.1, h.ext q.2⟩)
end
theorem frame25t (f : Nat → Value) : frameN 25 f = #[f 0, f 1, f 2, f 3, f 4, f 5, f 6, f 7, f 8, f 9, f 10, f 11, f 12, f 13, f 14, f 15, f 16, f 17, f 18, f 19, f 20, f 21, f 22, f 23, f 24] := by kernel_rfl
/-- RevertTo, plainly. -/
def rvN (S : PSt) : Nat → PSt
  | 0 => S
  | k + 1 => rvN (rvF S).2 k
def rvTo (L : PLg) (d : Int) : Int × PLg := if d < 0 ∨ (L.st.saved.length : Int) < d then (35, L) else (0, { L with st := rvN L.st (L.st.saved.length - d.toNat) })
def rvI (O : Own) (W : World) (bl : Nat) (d : Int) (T : PLg) (n : Nat) (F : Nat → Value) (V : World) : Prop := F 0 = .pointer (some ⟨bl, 0, none⟩) ∧ F 1 = .int .i64 d ∧ Hid (∃ L', LbI O W bl [] L' V ∧ L'.st.saved.length = d.toNat + n ∧ L'.st.saved.length ≤ 8 ∧ (∀ l ∈ L'.st.saved, l.length ≤ 1000000000) ∧ T = { L' with st := rvN L'.st n })
theorem rvF_pos {S : PSt} {k : Nat} (h : S.saved.length = k + 1) (h8 : S.saved.length ≤ 8) : (rvF S).1 = 0 ∧ (rvF S).2.saved.length = k ∧ ∀ l ∈ (rvF S).2.saved, l ∈ S.saved := by
  unfold rvF
  rw [dif_pos ⟨by omega, by omega⟩]
  refine ⟨rfl, ?_, fun l hl => List.mem_of_mem_take hl⟩
  show (S.saved.take _).length = k
  rw [List.length_take]
  omega
set_option maxRecDepth 20000 in
set_option maxHeartbeats 1000000 in
theorem rvTo_any (O : Own) (W : World) (bl : Nat) (L : PLg) (d : Int) (hL : LedA O W bl L) (hm : ∀ l ∈ L.st.saved, l.length ≤ 1000000000) (hd8 : L.st.saved.length ≤ 8) : Calls Tryz.prog 98 #[.pointer (some ⟨bl, 0, none⟩), .int .i64 d] W (LxPost O W bl (.int .i64 (rvTo L d).1) (rvTo L d).2) := by
  have hb := LbI.start hL
  clear hL
  by_cases h0 : d < 0
  · have e : rvTo L d = (35, L) := if_pos (Or.inl h0)
    rw [e]
    have HP := hid_of (hb.post (v := .int .i64 35))
    clear hb e hm hd8
    dsimp only
    go_enter Tryz.func98, Tryz.ntmps98
    go_wp2_with fail
    try (first | go_ret | go_ret2 | go_ret3 | go_end0)
    exact HP.out
  have hdp := hb.dep
  by_cases h1 : (L.st.saved.length : Int) < d
  · have e : rvTo L d = (35, L) := if_pos (Or.inr h1)
    rw [e]
    have HP := hid_of (hb.post (v := .int .i64 35))
    clear hb e hm hd8
    generalize L.st.saved.length = dd at hdp h1
    dsimp only
    go_enter Tryz.func98, Tryz.ntmps98
    go_wp2_with fail
    refine hdp.mono ?_
    clear hdp
    rintro e V ⟨rfl, rfl⟩
    dsimp only
    go_wp2_with fail
    try (first | go_ret | go_ret2 | go_ret3 | go_end0)
    exact HP.out
  have e : rvTo L d = (0, { L with st := rvN L.st (L.st.saved.length - d.toNat) }) := if_neg (by omega)
  rw [e]
  obtain ⟨T, hT⟩ : ∃ T : PLg, T = { L with st := rvN L.st (L.st.saved.length - d.toNat) } := ⟨_, rfl⟩
  rw [← hT]
  have HI0 : Hid (∃ L', LbI O W bl [] L' W ∧ L'.st.saved.length = d.toNat + (L.st.saved.length - d.toNat) ∧ L'.st.saved.length ≤ 8 ∧ (∀ l ∈ L'.st.saved, l.length ≤ 1000000000) ∧ T = { L' with st := rvN L'.st (L.st.saved.length - d.toNat) }) := ⟨L, hb, by omega, hd8, hm, hT⟩
  clear hb e hm hd8 hT
  generalize L.st.saved.length = dd at hdp h1 HI0
  clear L
  dsimp only
  go_enter Tryz.func98, Tryz.ntmps98
  go_wp2_with fail
  refine hdp.mono ?_
  clear hdp
  rintro e V ⟨rfl, rfl⟩
  dsimp only
  go_wp2_with fail
  refine wp_loop_ix 25 (rvI O V bl d T) (dd - d.toNat) rfl ⟨rfl, rfl, HI0⟩ ?_
  clear HI0 h1
  intro n F V1 hrel μ HMU
  obtain ⟨f0, f1, HI⟩ := hrel
  rw [frame25t, f0, f1]
  clear f0 f1
  obtain ⟨L', hb, hl, h8, hm, hT⟩ := HI.out
  clear HI
  have hdp := hb.dep
  cases n with
  | zero =>
    have HP : Hid (LxPost O V bl (.int .i64 0) T (.returned (.int .i64 0)) V1) := by
      show LxPost _ _ _ _ _ _ _
      rw [hT]
      exact hb.post
    have hlt : ¬ d < (L'.st.saved.length : Int) := by omega
    clear hb hl h8 hm hT HMU
    generalize L'.st.saved.length = dd at hdp hlt
    go_wp2_with fail
    refine hdp.mono ?_
    clear hdp
    rintro e V2 ⟨rfl, rfl⟩
    dsimp only
    go_wp2_with fail
    try (first | go_ret | go_ret2 | go_ret3 | go_end0)
    exact HP.out
  | succ n =>
    have hlt : d < (L'.st.saved.length : Int) := by omega
    obtain ⟨g1, g2, g3⟩ := rvF_pos (S := L'.st) (k := d.toNat + n) (by omega) h8
    have hq := hb.call (fun O' hO => hO.rv hm)
    have HI2 : Hid (∀ V2, LbI O V bl [] { L' with st := (rvF L'.st).2 } V2 → ∃ L2, LbI O V bl [] L2 V2 ∧ L2.st.saved.length = d.toNat + n ∧ L2.st.saved.length ≤ 8 ∧ (∀ l ∈ L2.st.saved, l.length ≤ 1000000000) ∧ T = { L2 with st := rvN L2.st n }) := fun V2 h2 => ⟨_, h2, g2, by show (rvF L'.st).2.saved.length ≤ 8; rw [g2]; omega, fun l hl => hm l (g3 l hl), hT⟩
    clear hb hl h8 hm hT g1 g2 g3
    generalize L'.st.saved.length = dd at hdp hlt
    generalize (rvF L'.st).1 = cd at hq
    go_wp2_with fail
    refine hdp.mono ?_
    clear hdp
    rintro e V2 ⟨rfl, rfl⟩
    dsimp only
    go_wp2_with fail
    refine hq.mono ?_
    clear hq
    rintro e V3 ⟨rfl, h3⟩
    dsimp only
    have HI3 := hid_of (HI2.out V3 h3)
    clear h3 HI2
    go_wp2_with fail
    exact ⟨rfl, rfl, ⟨n, rfl, rfl, HI3⟩, HMU.out _ _ _ ⟨rfl, rfl, HI3⟩ (Nat.lt_succ_self _)⟩
/-- CommitTo, plainly. -/
def cmN (S : PSt) : Nat → PSt
  | 0 => S
  | k + 1 => cmN (cmF S).2 k
def cmTo (L : PLg) (d : Int) : Int × PLg := if d < 0 ∨ (L.st.saved.length : Int) < d then (35, L) else (0, { L with st := cmN L.st (L.st.saved.length - d.toNat) })
def cmI (O : Own) (W : World) (bl : Nat) (d : Int) (T : PLg) (n : Nat) (F : Nat → Value) (V : World) : Prop := F 0 = .pointer (some ⟨bl, 0, none⟩) ∧ F 1 = .int .i64 d ∧ Hid (∃ L', LbI O W bl [] L' V ∧ L'.st.saved.length = d.toNat + n ∧ L'.st.saved.length ≤ 8 ∧ (∀ l ∈ L'.st.saved, l.length ≤ 1000000000) ∧ T = { L' with st := cmN L'.st n })
theorem cmF_pos {S : PSt} {k : Nat} (h : S.saved.length = k + 1) (h8 : S.saved.length ≤ 8) : (cmF S).1 = 0 ∧ (cmF S).2.saved.length = k ∧ ∀ l ∈ (cmF S).2.saved, l ∈ S.saved := by
  unfold cmF
  rw [dif_pos ⟨by omega, by omega⟩]
  refine ⟨rfl, ?_, fun l hl => List.mem_of_mem_take hl⟩
  show (S.saved.take _).length = k
  rw [List.length_take]
  omega
set_option maxRecDepth 20000 in
set_option maxHeartbeats 1000000 in
theorem cmTo_any (O : Own) (W : World) (bl : Nat) (L : PLg) (d : Int) (hL : LedA O W bl L) (hm : ∀ l ∈ L.st.saved, l.length ≤ 1000000000) (hd8 : L.st.saved.length ≤ 8) : Calls Tryz.prog 99 #[.pointer (some ⟨bl, 0, none⟩), .int .i64 d] W (LxPost O W bl (.int .i64 (cmTo L d).1) (cmTo L d).2) := by
  have hb := LbI.start hL
  clear hL
  by_cases h0 : d < 0
  · have e : cmTo L d = (35, L) := if_pos (Or.inl h0)
    rw [e]
    have HP := hid_of (hb.post (v := .int .i64 35))
    clear hb e hm hd8
    dsimp only
    go_enter Tryz.func99, Tryz.ntmps99
    go_wp2_with fail
    try (first | go_ret | go_ret2 | go_ret3 | go_end0)
    exact HP.out
  have hdp := hb.dep
  by_cases h1 : (L.st.saved.length : Int) < d
  · have e : cmTo L d = (35, L) := if_pos (Or.inr h1)
    rw [e]
    have HP := hid_of (hb.post (v := .int .i64 35))
    clear hb e hm hd8
    generalize L.st.saved.length = dd at hdp h1
    dsimp only
    go_enter Tryz.func99, Tryz.ntmps99
    go_wp2_with fail
    refine hdp.mono ?_
    clear hdp
    rintro e V ⟨rfl, rfl⟩
    dsimp only
    go_wp2_with fail
    try (first | go_ret | go_ret2 | go_ret3 | go_end0)
    exact HP.out
  have e : cmTo L d = (0, { L with st := cmN L.st (L.st.saved.length - d.toNat) }) := if_neg (by omega)
  rw [e]
  obtain ⟨T, hT⟩ : ∃ T : PLg, T = { L with st := cmN L.st (L.st.saved.length - d.toNat) } := ⟨_, rfl⟩
  rw [← hT]
  have HI0 : Hid (∃ L', LbI O W bl [] L' W ∧ L'.st.saved.length = d.toNat + (L.st.saved.length - d.toNat) ∧ L'.st.saved.length ≤ 8 ∧ (∀ l ∈ L'.st.saved, l.length ≤ 1000000000) ∧ T = { L' with st := cmN L'.st (L.st.saved.length - d.toNat) }) := ⟨L, hb, by omega, hd8, hm, hT⟩
  clear hb e hm hd8 hT
  generalize L.st.saved.length = dd at hdp h1 HI0
  clear L
  dsimp only
  go_enter Tryz.func99, Tryz.ntmps99
  go_wp2_with fail
  refine hdp.mono ?_
  clear hdp
  rintro e V ⟨rfl, rfl⟩
  dsimp only
  go_wp2_with fail
  refine wp_loop_ix 25 (cmI O V bl d T) (dd - d.toNat) rfl ⟨rfl, rfl, HI0⟩ ?_
  clear HI0 h1
  intro n F V1 hrel μ HMU
  obtain ⟨f0, f1, HI⟩ := hrel
  rw [frame25t, f0, f1]
  clear f0 f1
  obtain ⟨L', hb, hl, h8, hm, hT⟩ := HI.out
  clear HI
  have hdp := hb.dep
  cases n with
  | zero =>
    have HP : Hid (LxPost O V bl (.int .i64 0) T (.returned (.int .i64 0)) V1) := by
      show LxPost _ _ _ _ _ _ _
      rw [hT]
      exact hb.post
    have hlt : ¬ d < (L'.st.saved.length : Int) := by omega
    clear hb hl h8 hm hT HMU
    generalize L'.st.saved.length = dd at hdp hlt
    go_wp2_with fail
    refine hdp.mono ?_
    clear hdp
    rintro e V2 ⟨rfl, rfl⟩
    dsimp only
    go_wp2_with fail
    try (first | go_ret | go_ret2 | go_ret3 | go_end0)
    exact HP.out
  | succ n =>
    have hlt : d < (L'.st.saved.length : Int) := by omega
    obtain ⟨g1, g2, g3⟩ := cmF_pos (S := L'.st) (k := d.toNat + n) (by omega) h8
    have hq := hb.call (fun O' hO => hO.cm)
    have HI2 : Hid (∀ V2, LbI O V bl [] { L' with st := (cmF L'.st).2 } V2 → ∃ L2, LbI O V bl [] L2 V2 ∧ L2.st.saved.length = d.toNat + n ∧ L2.st.saved.length ≤ 8 ∧ (∀ l ∈ L2.st.saved, l.length ≤ 1000000000) ∧ T = { L2 with st := cmN L2.st n }) := fun V2 h2 => ⟨_, h2, g2, by show (cmF L'.st).2.saved.length ≤ 8; rw [g2]; omega, fun l hl => hm l (g3 l hl), hT⟩
    clear hb hl h8 hm hT g1 g2 g3
    generalize L'.st.saved.length = dd at hdp hlt
    generalize (cmF L'.st).1 = cd at hq
    go_wp2_with fail
    refine hdp.mono ?_
    clear hdp
    rintro e V2 ⟨rfl, rfl⟩
    dsimp only
    go_wp2_with fail
    refine hq.mono ?_
    clear hq
    rintro e V3 ⟨rfl, h3⟩
    dsimp only
    have HI3 := hid_of (HI2.out V3 h3)
    clear h3 HI2
    go_wp2_with fail
    exact ⟨rfl, rfl, ⟨n, rfl, rfl, HI3⟩, HMU.out _ _ _ ⟨rfl, rfl, HI3⟩ (Nat.lt_succ_self _)⟩
/-- A row of numbers filled up to t. -/
def vN {n : Nat} (f : Nat → UInt64) (t : Nat) : Vector UInt64 n := Vector.ofFn fun i : Fin n => if i.val < t then f i.val else 0
theorem vN_set {n : Nat} (f : Nat → UInt64) (t : Nat) (h : t < n) : (vN (n := n) f t).set t (f t) h = vN f (t + 1) := by
  apply Vector.ext
  intro i hi
  unfold vN
  rw [Vector.getElem_set]
  by_cases e : t = i
  · subst e
    rw [if_pos rfl, Vector.getElem_ofFn, if_pos (Nat.lt_succ_self _)]
  · rw [if_neg e, Vector.getElem_ofFn, Vector.getElem_ofFn]
    dsimp only
    by_cases l : i < t
    · rw [if_pos l, if_pos (by omega)]
    · rw [if_neg l, if_neg (by omega)]
theorem vN_zero {n : Nat} (f : Nat → UInt64) : vN (n := n) f 0 = Vector.replicate n 0 := by
  apply Vector.ext
  intro i hi
  unfold vN
  rw [Vector.getElem_ofFn, if_neg (by omega)]
  simp
theorem vN_at {n : Nat} (f : Nat → UInt64) (i : Nat) (h : i < n) : (vN (n := n) f n)[i] = f i := by
  unfold vN
  rw [Vector.getElem_ofFn, if_pos h]
/-- A slot, plainly. -/
def sltV (now : List Pair) (a : UInt8) (t : Nat) : Slot := ⟨ldF now (keyN a), vN (fun i => ldF now (keyB a (UInt8.ofNat i))) t⟩
def sltF (now : List Pair) (a : UInt8) : Slot × Int := if 64 ≤ a.toNat then (Slot.zero, 38) else (sltV now a 4, 0)
def slotI (W : World) (bl br bs : Nat) (now : List Pair) (a : UInt8) (F : Nat → Value) (V : World) : Prop := F 0 = .pointer (some ⟨bl, 0, none⟩) ∧ F 1 = .int .u8 (w8 a) ∧ F 4 = .pointer (some ⟨br, 0, none⟩) ∧ F 6 = .pointer (some ⟨bs, 0, none⟩) ∧ ∃ t : Nat, t ≤ 4 ∧ F 7 = .int .u8 (t : Nat) ∧ Hid (BxI W [(bs, (sltV now a t).enc), (br, Slot.zero.enc)] V)
theorem build54z (w : World) : (buildOp 54 #[]).run Tryz.prog w = .ok (.value (.agg (Slot.zero : Slot).enc.toArray)) w := by kernel_rfl
theorem frame31s (f : Nat → Value) : frameN 31 f = #[f 0, f 1, f 2, f 3, f 4, f 5, f 6, f 7, f 8, f 9, f 10, f 11, f 12, f 13, f 14, f 15, f 16, f 17, f 18, f 19, f 20, f 21, f 22, f 23, f 24, f 25, f 26, f 27, f 28, f 29, f 30] := by kernel_rfl
attribute [local go_sem ↓] execOp_build
attribute [local go_sem] build54z
set_option maxRecDepth 20000 in
set_option maxHeartbeats 1000000 in
theorem slot100_any (W : World) (bl : Nat) (now : List Pair) (hr : KvRd W bl 1 now) (a : UInt8) : Calls Tryz.prog 100 #[.pointer (some ⟨bl, 0, none⟩), .int .u8 (w8 a)] W fun e V => e = .returned (.tuple #[.agg (sltF now a).1.enc.toArray, .int .i64 (sltF now a).2]) ∧ W.Extends V := by
  have HR := hid_of hr
  have hB := (BxI.start W).box Slot.zero.enc 54
  obtain ⟨W1, hW1⟩ : ∃ W1 : World, W1 = W.alloc (.cells Slot.zero.enc.toArray 54) := ⟨_, rfl⟩
  obtain ⟨br, hbr⟩ : ∃ br, br = W.heap.size := ⟨_, rfl⟩
  rw [← hW1, ← hbr] at hB
  have HW1 := hid_of hW1
  have HBR := hid_of hbr
  have HB := hid_of hB
  have lz : Slot.zero.enc.length = 5 := Slot.length_enc _
  clear hr hB hW1 hbr
  by_cases ha : 64 ≤ a.toNat
  · rw [show sltF now a = (Slot.zero, 38) from if_pos ha]
    have ha1 : (64 : Int) ≤ w8 a := w8_ge ha
    have kr := (HB.out.at (List.mem_cons_self ..)).1
    have qr := (HB.out.at (List.mem_cons_self ..)).2
    have HX := hid_of (HB.out.put (C' := Slot.zero.enc) (fun p hp => by cases hp)).1
    clear ha HB
    dsimp only
    go_enter Tryz.func100, Tryz.ntmps100
    go_upto_region 1 with fail
    rw [← HW1.out, ← HBR.out]
    clear HW1 HBR
    go_wp2_with fail
    refine ret_cell_tmp (C := Slot.zero.enc) rfl rfl rfl (by rw [blk_put, if_pos rfl, kr]; rfl) (by kernel_rfl) (by rw [Slot.length_enc]; kernel_rfl) rfl ?_
    exact ⟨rfl, HX.out⟩
  · rw [show sltF now a = (sltV now a 4, 0) from if_neg ha]
    obtain ⟨sl, hsl⟩ : ∃ sl, sl = sltV now a 4 := ⟨_, rfl⟩
    rw [← hsl]
    have HSL := hid_of hsl
    clear hsl
    have ha1 : ¬ (64 : Int) ≤ w8 a := w8_nge ha
    clear ha
    have hB2 := HB.out.box Slot.zero.enc 54
    obtain ⟨W2, hW2⟩ : ∃ W2 : World, W2 = W1.alloc (.cells Slot.zero.enc.toArray 54) := ⟨_, rfl⟩
    obtain ⟨bs, hbs⟩ : ∃ bs, bs = W1.heap.size := ⟨_, rfl⟩
    rw [← hW2, ← hbs] at hB2
    have hne : br ≠ bs := by rw [hbs]; exact Nat.ne_of_lt (blk_lt (HB.out.at (List.mem_cons_self ..)).1)
    have HB2 := hid_of hB2
    have HW2 := hid_of hW2
    have HBS := hid_of hbs
    have HNE := hid_of hne
    have hn := nonce_any W2 bl 1 now (HR.out.ext hB2.1) a
    have hs1 : splice Slot.zero.enc 0 [.int .u64 (w64 (ldF now (keyN a)))] = (sltV now a 0).enc := by
      rw [Slot.nonce_set]
      unfold sltV
      rw [vN_zero]; rfl
    clear hB2 hW2 hbs HB hne
    dsimp only
    go_enter Tryz.func100, Tryz.ntmps100
    go_upto_region 1 with fail
    rw [← HW1.out, ← HBR.out]
    clear HW1 HBR
    go_upto_region 4 with fail
    rw [← HW2.out, ← HBS.out]
    clear HW2 HBS
    go_wp2_with fail
    refine hn.mono ?_
    clear hn
    rintro e V1 ⟨rfl, he1⟩
    dsimp only
    have hV1 := HB2.out.ext he1
    have kb1 := (hV1.at (List.mem_cons_self ..)).1
    have kf1 := (hV1.at (List.mem_cons_self ..)).2
    have HI0 : Hid (BxI W [(bs, (sltV now a 0).enc), (br, Slot.zero.enc)] (put V1 bs (sltV now a 0).enc)) := hV1.put (fun p hp => by rw [List.mem_singleton] at hp; rw [hp]; exact HNE.out)
    clear hV1 he1 HB2
    go_wp2_with fail
    refine wp_loop_f 31 (slotI W bl br bs now a) (fun f _ => 4 - (intOf (f 7)).toNat) rfl ⟨rfl, rfl, rfl, rfl, 0, by omega, rfl, HI0⟩ ?_
    clear HI0 kb1 kf1 hs1
    intro F V hrel
    obtain ⟨f0, f1, f4, f6, t, ht, f7, HI⟩ := hrel
    have H7 := hid_of f7
    rw [frame31s, f0, f1, f4, f6, f7]
    clear f0 f1 f4 f6 f7
    have hV := HI.out
    clear HI
    by_cases ht4 : t = 4
    · subst ht4
      rw [← HSL.out] at hV
      have kb := (hV.at (b := bs) (C := sl.enc) (by simp)).1
      have kr := (hV.at (b := br) (C := Slot.zero.enc) (by simp)).1
      have qr := (hV.at (b := br) (C := Slot.zero.enc) (by simp)).2
      have HX : Hid (W.Extends (put V br sl.enc)) := ((hV.sub (bs' := [(br, Slot.zero.enc)]) (fun p hp => List.mem_cons_of_mem _ hp)).put (C' := sl.enc) (fun p hp => by cases hp)).1
      clear hV H7 HSL
      go_wp2_with fail
      refine ret_cell_tmp (C := sl.enc) rfl rfl rfl (by rw [blk_put, if_pos rfl, kr]; rfl) (by kernel_rfl) (by rw [Slot.length_enc]; kernel_rfl) rfl ?_
      exact ⟨rfl, HX.out⟩
    have hin : t < 4 := by omega
    have ht5 : (t : Int) < 4 := by omega
    have p0 : (0 : Int) ≤ (t : Int) := by omega
    have p2 : ((t : Int)).toNat = t := by omega
    have hk : w8 (UInt8.ofNat t) = (t : Int) := w8_ofNat t (by omega)
    have hbal := balance_any V bl 1 now (HR.out.ext hV.1) a (UInt8.ofNat t)
    rw [hk] at hbal
    have hs2 := Slot.balances_put (sltV now a t) t (ldF now (keyB a (UInt8.ofNat t))) hin
    have hs3 : ({ sltV now a t with balances := (sltV now a t).balances.set t (ldF now (keyB a (UInt8.ofNat t))) hin } : Slot) = sltV now a (t + 1) := by
      unfold sltV
      dsimp only
      rw [vN_set (fun i => ldF now (keyB a (UInt8.ofNat i))) t hin]
    rw [hs3] at hs2
    have HTT := hid_of hin
    have lsl : (sltV now a t).enc.length = 5 := Slot.length_enc _
    have k9 : 1 + t + 1 ≤ 5 := by omega
    have HV := hid_of hV
    clear hk ht ht4 hs3 hV hin
    go_wp2_with fail
    refine hbal.mono ?_
    clear hbal
    rintro e V4 ⟨rfl, hx4⟩
    dsimp only
    have hV4 := HV.out.ext hx4
    have kb := (hV4.at (b := bs) (C := (sltV now a t).enc) (by simp)).1
    have kf := (hV4.at (b := bs) (C := (sltV now a t).enc) (by simp)).2
    have HI4 : Hid (BxI W [(bs, (sltV now a (t + 1)).enc), (br, Slot.zero.enc)] (put V4 bs (sltV now a (t + 1)).enc)) := hV4.put (fun p hp => by rw [List.mem_singleton] at hp; rw [hp]; exact HNE.out)
    clear hV4 hx4 HV
    go_wp2_with fail
    refine ⟨rfl, rfl, ⟨rfl, rfl, rfl, rfl, t + 1, by have := HTT.out; omega, ?_, HI4⟩, ?_⟩
    · show Value.int .u8 _ = _
      have := HTT.out
      go_num
    · show 4 - (intOf (Value.int .u8 _)).toNat < 4 - (intOf (F 7)).toNat
      rw [H7.out]
      have := HTT.out
      simp [intOf]; omega
end Go.Proofs.Qxb6500786aGreat
