import Derived.Test.Qxb6500786aGreatKg

import Derived.StillTailTactics
import Derived.Deep.QuietTactic
import Derived.BigQuiet
import Derived.Deep.RegionHeld
import Derived.Deep.CutRange
import Derived.Laws.ResultCell
import Derived.Laws.Rows
import Derived.DeepKeys
import Derived.DataBytes
import Derived.Laws.StructEq
import Derived.Laws.AppendOwn
import Derived.Laws.MakeOwn
import Derived.Lib.AppendStr
set_option linter.unusedSimpArgs false
set_option linter.unusedVariables false
namespace Go.Proofs.Qxb6500786aGreat
open Go.RowKit Go.Blk
attribute [local go_sem ↓] execOp_load execOp_store execOp_alloc
attribute [local go_sem] Tryz.ld24 Tryz.st24 Tryz.ld36 Tryz.st36 Tryz.ld28 Tryz.st28 Tryz.ld32 Tryz.st32 Tryz.ld33 Tryz.st33 Tryz.ld34 Tryz.st34 Tryz.ld5 Tryz.st5 Tryz.ld31 Tryz.st31 Tryz.ld30 Tryz.st30 Tryz.ld41 Tryz.st41 Tryz.ld44 Tryz.st44 Tryz.ld4 Tryz.st4 Tryz.ld173 Tryz.st173 Tryz.ld174 Tryz.st174 Tryz.ld95 Tryz.st95 Tryz.ld45 Tryz.st45 Tryz.ld207 Tryz.st207 Tryz.ld3 Tryz.st3 Tryz.ld189 Tryz.st189 Tryz.ld2 Tryz.st2 Tryz.ld9 Tryz.st9 Tryz.ld12 Tryz.st12 Tryz.ld21 Tryz.st21 Tryz.ld22 Tryz.st22 Tryz.ld46 Tryz.st46 Tryz.ld92 Tryz.st92 Tryz.ld94 Tryz.st94 Tryz.ld96 Tryz.st96 Tryz.ld97 Tryz.st97 Tryz.ld105 Tryz.st105 Tryz.ld117 Tryz.st117 Tryz.ld122 Tryz.st122 Tryz.ld123 Tryz.st123 Tryz.ld133 Tryz.st133 Tryz.ld155 Tryz.st155 Tryz.ld163 Tryz.st163 Tryz.ld190 Tryz.st190 Tryz.ld197 Tryz.st197 Tryz.ld201 Tryz.st201 Tryz.ld202 Tryz.st202 Tryz.ld209 Tryz.st209 Tryz.ld216 Tryz.st216 Tryz.ld230 Tryz.st230 Tryz.ld238 Tryz.st238 Tryz.ld242 Tryz.st242 Tryz.ld251 Tryz.st251 Tryz.ld260 Tryz.st260 Tryz.ld286 Tryz.st286 Tryz.ld292 Tryz.st292 Tryz.ld298 Tryz.st298 Tryz.ld309 Tryz.st309 Tryz.ld35 Tryz.st35 Tryz.ld48 Tryz.st48 Tryz.ld47 Tryz.st47 Tryz.ld79 Tryz.st79 Tryz.ld177 Tryz.st177 Tryz.ld180 Tryz.st180 Tryz.ld231 Tryz.st231 Tryz.ld232 Tryz.st232 Tryz.ld26 Tryz.st26 Tryz.ld38 Tryz.st38 Tryz.ld40 Tryz.st40 Tryz.ld43 Tryz.st43 Tryz.ld50 Tryz.st50 Tryz.ld52 Tryz.st52 Tryz.ld54 Tryz.st54 Tryz.ld81 Tryz.st81 Tryz.ld112 Tryz.st112 Tryz.ld120 Tryz.st120 Tryz.ld176 Tryz.st176 Tryz.ld179 Tryz.st179 Tryz.ld182 Tryz.st182 Tryz.ld184 Tryz.st184 Tryz.ld234 Tryz.st234 Tryz.ld236 Tryz.st236 Tryz.ld240 Tryz.st240 Tryz.ld246 Tryz.st246 Tryz.ld249 Tryz.st249 Tryz.al35 Tryz.al48 Tryz.al47 Tryz.al79 Tryz.al177 Tryz.al180 Tryz.al231 Tryz.al232 Tryz.al26 Tryz.al38 Tryz.al40 Tryz.al43 Tryz.al50 Tryz.al52 Tryz.al54 Tryz.al81 Tryz.al112 Tryz.al120 Tryz.al176 Tryz.al179 Tryz.al182 Tryz.al184 Tryz.al234 Tryz.al236 Tryz.al240 Tryz.al246 Tryz.al249
attribute [local go_sem] Player.length_enc Player.ok_enc Player.all_get Player.all_set Player.hand_get Player.hand_set Player.aside_get Player.aside_set Message.length_enc Message.ok_enc Message.all_get Message.all_set Message.kind_get Message.kind_set Message.from__get Message.from__set Message.to__get Message.to__set Message.sender_get Message.sender_set Message.receiver_get Message.receiver_set Message.seq_get Message.seq_set Message.token_get Message.token_set Message.amount_get Message.amount_set Message.size_get Message.size_set Message.payload_get Message.payload_set Tx.length_enc Tx.ok_enc Tx.all_get Tx.all_set Tx.kind_get Tx.kind_set Tx.chain_get Tx.chain_set Tx.from__get Tx.from__set Tx.nonce_get Tx.nonce_set Tx.fee_get Tx.fee_set Tx.to__get Tx.to__set Tx.dest_get Tx.dest_set Tx.token_get Tx.token_set Tx.amount_get Tx.amount_set Tx.size_get Tx.size_set Tx.payload_get Tx.payload_set Tx.msg_get Tx.msg_set Tx.msg_kind_get Tx.msg_kind_set Tx.msg_from__get Tx.msg_from__set Tx.msg_to__get Tx.msg_to__set Tx.msg_sender_get Tx.msg_sender_set Tx.msg_receiver_get Tx.msg_receiver_set Tx.msg_seq_get Tx.msg_seq_set Tx.msg_token_get Tx.msg_token_set Tx.msg_amount_get Tx.msg_amount_set Tx.msg_size_get Tx.msg_size_set Tx.msg_payload_get Tx.msg_payload_set GOp.length_enc GOp.ok_enc GOp.all_get GOp.all_set GOp.kind_get GOp.kind_set GOp.tx_get GOp.tx_set GOp.txs_get GOp.txs_set GOp.gas_get GOp.gas_set GOp.acct_get GOp.acct_set GOp.token_get GOp.token_set GOp.chain_get GOp.chain_set GOp.seq_get GOp.seq_set GOp.tx_kind_get GOp.tx_kind_set GOp.tx_chain_get GOp.tx_chain_set GOp.tx_from__get GOp.tx_from__set GOp.tx_nonce_get GOp.tx_nonce_set GOp.tx_fee_get GOp.tx_fee_set GOp.tx_to__get GOp.tx_to__set GOp.tx_dest_get GOp.tx_dest_set GOp.tx_token_get GOp.tx_token_set GOp.tx_amount_get GOp.tx_amount_set GOp.tx_size_get GOp.tx_size_set GOp.tx_payload_get GOp.tx_payload_set GOp.tx_msg_get GOp.tx_msg_set GOp.tx_msg_kind_get GOp.tx_msg_kind_set GOp.tx_msg_from__get GOp.tx_msg_from__set GOp.tx_msg_to__get GOp.tx_msg_to__set GOp.tx_msg_sender_get GOp.tx_msg_sender_set GOp.tx_msg_receiver_get GOp.tx_msg_receiver_set GOp.tx_msg_seq_get GOp.tx_msg_seq_set GOp.tx_msg_token_get GOp.tx_msg_token_set GOp.tx_msg_amount_get GOp.tx_msg_amount_set GOp.tx_msg_size_get GOp.tx_msg_size_set GOp.tx_msg_payload_get GOp.tx_msg_payload_set Summary.length_enc Summary.ok_enc Summary.all_get Summary.all_set Summary.height_get Summary.height_set Summary.txs_get Summary.txs_set Summary.gas_get Summary.gas_set Summary.fees_get Summary.fees_set Summary.sent_get Summary.sent_set Summary.took_get Summary.took_set Summary.minted_get Summary.minted_set Summary.burned_get Summary.burned_set Summary.root_get Summary.root_set Detail.length_enc Detail.ok_enc Detail.all_get Detail.all_set Detail.code_get Detail.code_set Detail.have__get Detail.have__set Detail.need_get Detail.need_set Slot.length_enc Slot.ok_enc Slot.all_get Slot.all_set Slot.nonce_get Slot.nonce_set Slot.balances_get Slot.balances_set Tree.length_enc Tree.ok_enc Tree.all_get Tree.all_set Tree.leaves_get Tree.leaves_set Mark.length_enc Mark.ok_enc Mark.all_get Mark.all_set Mark.from__get Mark.from__set Mark.seq_get Mark.seq_set Receipt.length_enc Receipt.ok_enc Receipt.all_get Receipt.all_set Receipt.code_get Receipt.code_set Receipt.hash_get Receipt.hash_set Receipt.index_get Receipt.index_set Receipt.gas_get Receipt.gas_set Receipt.fee_get Receipt.fee_set Receipt.hasSent_get Receipt.hasSent_set Receipt.sent_get Receipt.sent_set Receipt.hasTook_get Receipt.hasTook_set Receipt.took_get Receipt.took_set Receipt.sent_kind_get Receipt.sent_kind_set Receipt.sent_from__get Receipt.sent_from__set Receipt.sent_to__get Receipt.sent_to__set Receipt.sent_sender_get Receipt.sent_sender_set Receipt.sent_receiver_get Receipt.sent_receiver_set Receipt.sent_seq_get Receipt.sent_seq_set Receipt.sent_token_get Receipt.sent_token_set Receipt.sent_amount_get Receipt.sent_amount_set Receipt.sent_size_get Receipt.sent_size_set Receipt.sent_payload_get Receipt.sent_payload_set Receipt.took_kind_get Receipt.took_kind_set Receipt.took_from__get Receipt.took_from__set Receipt.took_to__get Receipt.took_to__set Receipt.took_sender_get Receipt.took_sender_set Receipt.took_receiver_get Receipt.took_receiver_set Receipt.took_seq_get Receipt.took_seq_set Receipt.took_token_get Receipt.took_token_set Receipt.took_amount_get Receipt.took_amount_set Receipt.took_size_get Receipt.took_size_set Receipt.took_payload_get Receipt.took_payload_set Store.length_enc Store.ok_enc Store.all_get Store.all_set Store.now_get Store.now_set Store.saved_get Store.saved_set GState.length_enc GState.ok_enc GState.all_get GState.all_set GState.kv_get GState.kv_set GState.tree_get GState.tree_set GState.stale_get GState.stale_set GState.touched_get GState.touched_set GState.kv_now_get GState.kv_now_set GState.kv_saved_get GState.kv_saved_set GState.tree_leaves_get GState.tree_leaves_set History.length_enc History.ok_enc History.all_get History.all_set History.ring_get History.ring_set History.closed_get History.closed_set Ledger.length_enc Ledger.ok_enc Ledger.all_get Ledger.all_set Ledger.chain_get Ledger.chain_set Ledger.st_get Ledger.st_set Ledger.height_get Ledger.height_set Ledger.open__get Ledger.open__set Ledger.gasLimit_get Ledger.gasLimit_set Ledger.past_get Ledger.past_set Ledger.begun_get Ledger.begun_set Ledger.sent_get Ledger.sent_set Ledger.took_get Ledger.took_set Ledger.receipts_get Ledger.receipts_set Ledger.st_kv_get Ledger.st_kv_set Ledger.st_tree_get Ledger.st_tree_set Ledger.st_stale_get Ledger.st_stale_set Ledger.st_touched_get Ledger.st_touched_set Ledger.st_kv_now_get Ledger.st_kv_now_set Ledger.st_kv_saved_get Ledger.st_kv_saved_set Ledger.st_tree_leaves_get Ledger.st_tree_leaves_set Ledger.past_ring_get Ledger.past_ring_set Ledger.past_closed_get Ledger.past_closed_set Ledger.begun_kv_get Ledger.begun_kv_set Ledger.begun_tree_get Ledger.begun_tree_set Ledger.begun_stale_get Ledger.begun_stale_set Ledger.begun_touched_get Ledger.begun_touched_set Ledger.begun_kv_now_get Ledger.begun_kv_now_set Ledger.begun_kv_saved_get Ledger.begun_kv_saved_set Ledger.begun_tree_leaves_get Ledger.begun_tree_leaves_set Purse.length_enc Purse.ok_enc Purse.all_get Purse.all_set Purse.st_get Purse.st_set Purse.n_get Purse.n_set Purse.account_get Purse.account_set Purse.token_get Purse.token_set Purse.amount_get Purse.amount_set Plan.length_enc Plan.ok_enc Plan.all_get Plan.all_set Plan.purse_get Plan.purse_set Plan.nonce_get Plan.nonce_set Plan.gasUsed_get Plan.gasUsed_set Plan.fees_get Plan.fees_set Plan.hasSupply_get Plan.hasSupply_set Plan.token_get Plan.token_set Plan.supply_get Plan.supply_set Plan.flowAt_get Plan.flowAt_set Plan.flow_get Plan.flow_set Plan.receipt_get Plan.receipt_set Plan.purse_st_get Plan.purse_st_set Plan.purse_n_get Plan.purse_n_set Plan.purse_account_get Plan.purse_account_set Plan.purse_token_get Plan.purse_token_set Plan.purse_amount_get Plan.purse_amount_set Plan.receipt_code_get Plan.receipt_code_set Plan.receipt_hash_get Plan.receipt_hash_set Plan.receipt_index_get Plan.receipt_index_set Plan.receipt_gas_get Plan.receipt_gas_set Plan.receipt_fee_get Plan.receipt_fee_set Plan.receipt_hasSent_get Plan.receipt_hasSent_set Plan.receipt_sent_get Plan.receipt_sent_set Plan.receipt_hasTook_get Plan.receipt_hasTook_set Plan.receipt_took_get Plan.receipt_took_set Plan.receipt_sent_kind_get Plan.receipt_sent_kind_set Plan.receipt_sent_from__get Plan.receipt_sent_from__set Plan.receipt_sent_to__get Plan.receipt_sent_to__set Plan.receipt_sent_sender_get Plan.receipt_sent_sender_set Plan.receipt_sent_receiver_get Plan.receipt_sent_receiver_set Plan.receipt_sent_seq_get Plan.receipt_sent_seq_set Plan.receipt_sent_token_get Plan.receipt_sent_token_set Plan.receipt_sent_amount_get Plan.receipt_sent_amount_set Plan.receipt_sent_size_get Plan.receipt_sent_size_set Plan.receipt_sent_payload_get Plan.receipt_sent_payload_set Plan.receipt_took_kind_get Plan.receipt_took_kind_set Plan.receipt_took_from__get Plan.receipt_took_from__set Plan.receipt_took_to__get Plan.receipt_took_to__set Plan.receipt_took_sender_get Plan.receipt_took_sender_set Plan.receipt_took_receiver_get Plan.receipt_took_receiver_set Plan.receipt_took_seq_get Plan.receipt_took_seq_set Plan.receipt_took_token_get Plan.receipt_took_token_set Plan.receipt_took_amount_get Plan.receipt_took_amount_set Plan.receipt_took_size_get Plan.receipt_took_size_set Plan.receipt_took_payload_get Plan.receipt_took_payload_set Move.length_enc Move.ok_enc Move.all_get Move.all_set Move.account_get Move.account_set Move.token_get Move.token_set Move.down_get Move.down_set Move.amount_get Move.amount_set Books.length_enc Books.ok_enc Books.all_get Books.all_set Books.sums_get Books.sums_set Books.stored_get Books.stored_set Books.marks_get Books.marks_set Pair.length_enc Pair.ok_enc Pair.all_get Pair.all_set Pair.key_get Pair.key_set Pair.value_get Pair.value_set
attribute [local go_sem] size_put size_ext blk_put free_put blk_alloc free_alloc blk_drew free_drew blk_ext free_ext lookOr_some putOr_some segAt_some cellAt_some storeIn_some put_put put_alloc_new length_arr ok_arr_u8 ok_arr_u32 ok_arr_u64 ok_arr_i64 ok_arr_sl cellsV_agg cellsV_int cellsV_bool cellsV_string cellsV_pointer cellsV_slice cellsV_sl ok_int ok_bool ok_string ok_pointer ok_slice ok_sl toList_arr seg_arr set_arr nth_splice nth_splice0 seg_splice seg_splice0 splice_splice splice_splice0 length_splice_if
attribute [local go_sem ↓] execOp_box
attribute [local go_sem] box_run nth_arr_u8 put_arr_u8 blk_drewN free_drewN put_drewN blk_raw free_raw
attribute [local go_sem ↓] execOp_build execOp_bslice execOp_slice
attribute [local go_sem] x64_wrap x64_w8 x64_add x64_sub x64_or build249 bslice173 bslice173e bslice174
deriving instance DecidableEq for Lab
/-- The labels after a revert at depth d + 1. -/
def revO (O : Own) (m d : Nat) : Own := fun k => if O k = .a m 1 then .a m 9 else if O k = .a m (10 + d) then .a m 1 else O k
theorem revO_one {O : Own} {m d k : Nat} (h : O k = .a m (10 + d)) : revO O m d k = .a m 1 := by
  unfold revO
  rw [if_neg (by rw [h]; intro e; have := (Lab.a.inj e).2; omega), if_pos h]
theorem revO_other {O : Own} {m d k : Nat} (h1 : O k ≠ .a m 1) (h2 : O k ≠ .a m (10 + d)) : revO O m d k = O k := by
  unfold revO
  rw [if_neg h1, if_neg h2]
theorem revO_lg (O : Own) (V : World) (m d : Nat) : Lg (stP m) O V (revO O m d) V := ⟨rfl, rfl, rfl, Nat.le_refl _, fun k _ hp => ⟨revO_other (fun e => hp (by rw [e]; exact .inr (.inl rfl))) (fun e => hp (by rw [e]; exact .inr (.inr (.inr (.inr ⟨d, rfl⟩))))), rfl⟩, fun k _ hp => by
  unfold revO
  split
  · exact .inr (.inr (.inr (.inl rfl)))
  · split
    · exact .inr (.inl rfl)
    · exact hp⟩
theorem sav_pop {O : Own} {V : World} {m : Nat} {sa : Option Addr} {d sc : Nat} {saved : List (List Pair)} (h : SavAt O V m ⟨sa, d + 1, sc⟩ saved) : ∃ (g : Nat) (Cg : List Value) (k : Sl) (l : List Pair), sa = some ⟨g, 0, none⟩ ∧ blk V g = some Cg ∧ O g = .a m 2 ∧ d < Cg.length ∧ d + 1 ≤ sc ∧ nth Cg d = some (Sl.val k) ∧ saved = saved.take d ++ [l] ∧ PRow (revO O m d) V (.a m 1) k l ∧ SavAt (revO O m d) V m ⟨sa, d, sc⟩ (saved.take d) := by
  obtain ⟨K, h4, h5, h6⟩ := h
  change RowL 0 O (.a m 2) V 173 1 (.slice sa (d + 1) sc) K.length (K.flatMap encR) at h4
  have hr := RowL.rw encR_len h4
  have hKl : K.length = d + 1 := hr.1.1
  obtain ⟨k, g, Cg, hk, e1, e2, e3, e4⟩ := hr.1.at (i := d) (by omega)
  obtain ⟨l, hl⟩ : ∃ l, saved[d]? = some l := ⟨_, List.getElem?_eq_getElem (by omega)⟩
  have hrow := h6 d k l hk hl
  have hog : O g = .a m 2 := by
    refine h4.2 g ?_
    rw [e1]; rfl
  refine ⟨g, Cg, k, l, e1, e2, hog, by omega, hr.2.1, ?_, ?_, ⟨hrow.1, fun x hx => revO_one (hrow.2 x hx)⟩, K.take d, ?_, by rw [List.length_take, List.length_take]; omega, fun i k' l' e5 e6 => ?_⟩
  · rw [Nat.mul_one] at e4
    have := nth_in (j := 0) (v := Sl.val k) e4 rfl (by omega)
    exact this
  · have h9 := List.take_append_drop d saved
    rw [← h9]
    congr 1
    · rw [h9]
    · obtain ⟨q1, q2⟩ := List.getElem?_eq_some_iff.1 hl
      rw [List.drop_eq_getElem_cons q1, q2, List.drop_of_length_le (by omega)]
  · have h7 := h4.shrink encR_len (n' := d) (by omega)
    exact ⟨h7.1, fun x hx => by
      have := h7.2 x hx
      rw [revO_other (by rw [this]; intro e; have := (Lab.a.inj e).2; omega) (by rw [this]; intro e; have := (Lab.a.inj e).2; omega)]
      exact this⟩
  · rw [List.getElem?_take] at e5 e6
    have hi : i < d := by
      by_cases hi : i < d
      · exact hi
      · rw [if_neg hi] at e5; cases e5
    rw [if_pos hi] at e5 e6
    have h7 := h6 i k' l' e5 e6
    exact ⟨h7.1, fun x hx => by
      have := h7.2 x hx
      rw [revO_other (by rw [this]; intro e; have := (Lab.a.inj e).2; omega) (by rw [this]; intro e; have := (Lab.a.inj e).2; omega)]
      exact this⟩
theorem sav_cut {O : Own} {V : World} {m : Nat} {sa : Option Addr} {d sc : Nat} {saved : List (List Pair)} (h : SavAt O V m ⟨sa, d + 1, sc⟩ saved) : d + 1 ≤ sc ∧ SavAt O V m ⟨sa, d, sc⟩ (saved.take d) := by
  obtain ⟨K, h4, h5, h6⟩ := h
  change RowL 0 O (.a m 2) V 173 1 (.slice sa (d + 1) sc) K.length (K.flatMap encR) at h4
  have hr := RowL.rw encR_len h4
  have hKl : K.length = d + 1 := hr.1.1
  refine ⟨hr.2.1, K.take d, h4.shrink encR_len (n' := d) (by omega), by rw [List.length_take, List.length_take]; omega, fun i k' l' e5 e6 => ?_⟩
  rw [List.getElem?_take] at e5 e6
  have hi : i < d := by
    by_cases hi : i < d
    · exact hi
    · rw [if_neg hi] at e5; cases e5
  rw [if_pos hi] at e5 e6
  exact h6 i k' l' e5 e6
/-- After a revert. -/
def RvPost (O : Own) (W : World) (m b o : Nat) (C : List Value) (saved : List (List Pair)) (e : Ending) (V : World) : Prop :=
  if saved.length = 0 then e = .returned (.int .i64 35) ∧ V = W else
  e = .returned (.int .i64 0) ∧ ∃ O' k ss l, saved = saved.take (saved.length - 1) ++ [l] ∧ blk V b = some (splice (splice C o [Sl.val k]) (o + 1) [Sl.val ss]) ∧ free V b = true ∧ O' b = .a m 0 ∧ PRow O' V (.a m 1) k l ∧ SavAt O' V m ss (saved.take (saved.length - 1)) ∧ Lg (stP m) O W O' V
theorem und174s : (Tryz.prog.info? 173).map (·.size) = some 1 := by kernel_rfl
set_option maxRecDepth 20000 in
set_option maxHeartbeats 2000000 in
theorem srevert_any (O : Own) (W : World) (m b o : Nat) (C : List Value) (ss : Sl) (saved : List (List Pair)) (hb : blk W b = some C) (hs : nth C (o + 1) = some (Sl.val ss)) (hf : free W b = true) (hO : O b = .a m 0) (hsv : SavAt O W m ss saved) (hd : saved.length ≤ 8) : Calls Tryz.prog 219 #[.pointer (some ⟨b, o, none⟩)] W (RvPost O W m b o C saved) := by
  obtain ⟨sa, sl, sc⟩ := ss
  change nth C (o + 1) = some (.slice sa sl sc) at hs
  have hlen : sl = saved.length := hsv.len
  have hol := nth_lt hs
  have hol2 : o + 1 + 1 ≤ C.length := hol
  have hol3 : o + 1 ≤ C.length := by omega
  obtain ⟨Q, hQ⟩ : ∃ Q : Ending → World → Prop, Q = RvPost O W m b o C saved := ⟨_, rfl⟩
  rw [← hQ]
  have HQ := hid_of hQ
  clear hQ
  by_cases h8 : saved.length = 0
  · obtain rfl : sl = 0 := by omega
    have HP : Hid (Q (.returned (.int .i64 35)) W) := by
      show Q _ _
      rw [HQ.out]
      unfold RvPost
      rw [if_pos h8]
      exact ⟨rfl, rfl⟩
    clear hlen hsv h8 hd
    go_enter Tryz.func219, Tryz.ntmps219
    go_wp2_with fail
    try (first | go_ret | go_ret2 | go_end0)
    exact HP.out
  obtain ⟨d, rfl⟩ : ∃ d, sl = d + 1 := ⟨sl - 1, by omega⟩
  obtain ⟨g, Cg, k, l, e1, e2, e3, e4, e4b, e5, e6, e7, e8⟩ := sav_pop hsv
  subst e1
  have hgb : ¬ g = b := fun e => by rw [e, hO] at e3; cases e3
  obtain ⟨ka, kn, kc⟩ := k
  change nth Cg d = some (.slice ka kn kc) at e5
  have HP : Hid (∀ n, Q (.returned (.int .i64 0)) ((put W b (splice (splice C o [.slice ka kn kc]) (o + 1) [.slice (some ⟨g, 0, none⟩) d sc])).drewN n)) := fun n => by
    rw [HQ.out]
    unfold RvPost
    rw [if_neg h8]
    have hd1 : saved.length - 1 = d := by omega
    rw [hd1]
    have h0 : revO O m d b = .a m 0 := by
      rw [revO_other (by rw [hO]; intro e; cases e) (by rw [hO]; intro e; have := (Lab.a.inj e).2; omega)]
      exact hO
    have hpk : Lg (fun l => l = .a m 0) (revO O m d) W (revO O m d) ((put W b (splice (splice C o [.slice ka kn kc]) (o + 1) [.slice (some ⟨g, 0, none⟩) d sc])).drewN n) := (Lg.put (P := fun l => l = .a m 0) (Lg.refl _ _ _) h0 _).drewN n
    refine ⟨rfl, revO O m d, ⟨ka, kn, kc⟩, ⟨some ⟨g, 0, none⟩, d, sc⟩, l, e6, ?_, by rw [free_drewN, free_put]; exact hf, h0, RowL.lg e7 hpk (fun e => by cases e), e8.lg hpk (fun e => by cases e) (fun j e => by have := (Lab.a.inj e).2; omega), ?_⟩
    · rw [blk_drewN, blk_put, if_pos rfl, hb]; rfl
    · exact Lg.trans (revO_lg O W m d) (hpk.mono (fun l e => .inl e))
  have n4 : nth (splice C o [.slice ka kn kc]) (o + 1) = some (.slice (some ⟨g, 0, none⟩) (d + 1) sc) := by
    rw [splice_nth (by omega), if_neg (by omega)]; exact hs
  have l4 : (splice C o [.slice ka kn kc]).length = C.length := length_splice1 (by omega)
  have w0 : IntKind.i64.wrap (d : Int) = (d : Int) := wraps_i64 _ (by omega) (by omega)
  have w1 : IntKind.i64.wrap (((d + 1 : Nat) : Int) - 1) = (d : Int) := by rw [wraps_i64 _ (by omega) (by omega)]; omega
  have w1' : IntKind.i64.wrap ((d : Int) + 1 - 1) = (d : Int) := by rw [wraps_i64 _ (by omega) (by omega)]; omega
  have z0 : ¬ ((d : Int) + 1 = 0) := by omega
  have p0 : (0 : Int) ≤ (d : Int) := by omega
  have p1 : (d : Int) < ((d + 1 : Nat) : Int) := by omega
  have p1' : (d : Int) < (d : Int) + 1 := by omega
  have p2 : ((d : Int)).toNat = d := by omega
  have l5 : d + 1 ≤ Cg.length := e4
  have s1 := slice_hi (P := Tryz.prog) und174 und174s
  have s2 := fun w => s1 w (some ⟨g, 0, none⟩) (d + 1) sc d (by omega)
  clear e6 e7 e8 hsv h8 hd hlen hO e3 s1
  go_enter Tryz.func219, Tryz.ntmps219
  go_wp2_with fail
  refine wp_region_still_tail 15 Tryz.mixed (by kernel_rfl) ?_
  simp only [List.take_succ_cons, List.take_zero, List.drop_succ_cons, List.drop_zero]
  iterate 15 still_step
  refine wpStill_nil ?_
  go_wp2_with fail
  refine wp_region_still_tail 14 Tryz.mixed (by kernel_rfl) ?_
  simp only [List.take_succ_cons, List.take_zero, List.drop_succ_cons, List.drop_zero]
  iterate 14 still_step
  refine wpStill_nil ?_
  go_wp2_with fail
  try (first | go_ret | go_ret2 | go_end0)
  rw [put_put_drew]
  exact HP.out 2
/-- After a commit. -/
def CmPost (O : Own) (W : World) (m b o : Nat) (C : List Value) (saved : List (List Pair)) (e : Ending) (V : World) : Prop :=
  if saved.length = 0 then e = .returned (.int .i64 35) ∧ V = W else
  e = .returned (.int .i64 0) ∧ ∃ ss, V = (put W b (splice C (o + 1) [Sl.val ss])).drewN 1 ∧ SavAt O V m ss (saved.take (saved.length - 1))
set_option maxRecDepth 20000 in
set_option maxHeartbeats 2000000 in
theorem scommit_any (O : Own) (W : World) (m b o : Nat) (C : List Value) (ss : Sl) (saved : List (List Pair)) (hb : blk W b = some C) (hs : nth C (o + 1) = some (Sl.val ss)) (hf : free W b = true) (hO : O b = .a m 0) (hsv : SavAt O W m ss saved) (hd : saved.length ≤ 8) : Calls Tryz.prog 225 #[.pointer (some ⟨b, o, none⟩)] W (CmPost O W m b o C saved) := by
  obtain ⟨sa, sl, sc⟩ := ss
  change nth C (o + 1) = some (.slice sa sl sc) at hs
  have hlen : sl = saved.length := hsv.len
  have hol := nth_lt hs
  have hol2 : o + 1 + 1 ≤ C.length := hol
  obtain ⟨Q, hQ⟩ : ∃ Q : Ending → World → Prop, Q = CmPost O W m b o C saved := ⟨_, rfl⟩
  rw [← hQ]
  have HQ := hid_of hQ
  clear hQ
  by_cases h8 : saved.length = 0
  · obtain rfl : sl = 0 := by omega
    have HP : Hid (Q (.returned (.int .i64 35)) W) := by
      show Q _ _
      rw [HQ.out]
      unfold CmPost
      rw [if_pos h8]
      exact ⟨rfl, rfl⟩
    clear hlen hsv h8 hd
    go_enter Tryz.func225, Tryz.ntmps225
    go_wp2_with fail
    try (first | go_ret | go_ret2 | go_end0)
    exact HP.out
  obtain ⟨d, rfl⟩ : ∃ d, sl = d + 1 := ⟨sl - 1, by omega⟩
  obtain ⟨e4b, e8⟩ := sav_cut hsv
  have HP : Hid (Q (.returned (.int .i64 0)) ((put W b (splice C (o + 1) [.slice sa d sc])).drewN 1)) := by
    show Q _ _
    rw [HQ.out]
    unfold CmPost
    rw [if_neg h8]
    have hd1 : saved.length - 1 = d := by omega
    rw [hd1]
    have hpk : Lg (fun l => l = .a m 0) O W O ((put W b (splice C (o + 1) [.slice sa d sc])).drewN 1) := (Lg.put (P := fun l => l = .a m 0) (Lg.refl _ _ _) hO _).drewN 1
    exact ⟨rfl, ⟨sa, d, sc⟩, rfl, e8.lg hpk (fun e => by cases e) (fun j e => by have := (Lab.a.inj e).2; omega)⟩
  have w0 : IntKind.i64.wrap (d : Int) = (d : Int) := wraps_i64 _ (by omega) (by omega)
  have w1' : IntKind.i64.wrap ((d : Int) + 1 - 1) = (d : Int) := by rw [wraps_i64 _ (by omega) (by omega)]; omega
  have z0 : ¬ ((d : Int) + 1 = 0) := by omega
  have s1 := slice_hi (P := Tryz.prog) und174 und174s
  have s2 := fun w => s1 w sa (d + 1) sc d (by omega)
  clear e8 hsv h8 hd hlen hO s1
  go_enter Tryz.func225, Tryz.ntmps225
  go_wp2_with fail
  refine wp_region_still_tail 14 Tryz.mixed (by kernel_rfl) ?_
  simp only [List.take_succ_cons, List.take_zero, List.drop_succ_cons, List.drop_zero]
  iterate 14 still_step
  refine wpStill_nil ?_
  go_wp2_with fail
  try (first | go_ret | go_ret2 | go_end0)
  exact HP.out
end Go.Proofs.Qxb6500786aGreat
