import Derived.Test.Qxb6500786aGreatKf

import Derived.StillTailTactics
import Derived.Deep.QuietTactic
import Derived.BigQuiet
import Derived.Deep.RegionHeld
import Derived.Deep.CutRange
import Derived.Laws.ResultCell
import Derived.Laws.Rows
import Derived.DeepKeys
import Derived.DataBytes
import Derived.Laws.StructEq
import Derived.Laws.AppendOwn
import Derived.Laws.MakeOwn
import Derived.Lib.AppendStr
set_option linter.unusedSimpArgs false
set_option linter.unusedVariables false
namespace Go.Proofs.Qxb6500786aGreat
open Go.RowKit Go.Blk
attribute [local go_sem ↓] execOp_load execOp_store execOp_alloc
attribute [local go_sem] Tryz.ld24 Tryz.st24 Tryz.ld36 Tryz.st36 Tryz.ld28 Tryz.st28 Tryz.ld32 Tryz.st32 Tryz.ld33 Tryz.st33 Tryz.ld34 Tryz.st34 Tryz.ld5 Tryz.st5 Tryz.ld31 Tryz.st31 Tryz.ld30 Tryz.st30 Tryz.ld41 Tryz.st41 Tryz.ld44 Tryz.st44 Tryz.ld4 Tryz.st4 Tryz.ld173 Tryz.st173 Tryz.ld174 Tryz.st174 Tryz.ld95 Tryz.st95 Tryz.ld45 Tryz.st45 Tryz.ld207 Tryz.st207 Tryz.ld3 Tryz.st3 Tryz.ld189 Tryz.st189 Tryz.ld2 Tryz.st2 Tryz.ld9 Tryz.st9 Tryz.ld12 Tryz.st12 Tryz.ld21 Tryz.st21 Tryz.ld22 Tryz.st22 Tryz.ld46 Tryz.st46 Tryz.ld92 Tryz.st92 Tryz.ld94 Tryz.st94 Tryz.ld96 Tryz.st96 Tryz.ld97 Tryz.st97 Tryz.ld105 Tryz.st105 Tryz.ld117 Tryz.st117 Tryz.ld122 Tryz.st122 Tryz.ld123 Tryz.st123 Tryz.ld133 Tryz.st133 Tryz.ld155 Tryz.st155 Tryz.ld163 Tryz.st163 Tryz.ld190 Tryz.st190 Tryz.ld197 Tryz.st197 Tryz.ld201 Tryz.st201 Tryz.ld202 Tryz.st202 Tryz.ld209 Tryz.st209 Tryz.ld216 Tryz.st216 Tryz.ld230 Tryz.st230 Tryz.ld238 Tryz.st238 Tryz.ld242 Tryz.st242 Tryz.ld251 Tryz.st251 Tryz.ld260 Tryz.st260 Tryz.ld286 Tryz.st286 Tryz.ld292 Tryz.st292 Tryz.ld298 Tryz.st298 Tryz.ld309 Tryz.st309 Tryz.ld35 Tryz.st35 Tryz.ld48 Tryz.st48 Tryz.ld47 Tryz.st47 Tryz.ld79 Tryz.st79 Tryz.ld177 Tryz.st177 Tryz.ld180 Tryz.st180 Tryz.ld231 Tryz.st231 Tryz.ld232 Tryz.st232 Tryz.ld26 Tryz.st26 Tryz.ld38 Tryz.st38 Tryz.ld40 Tryz.st40 Tryz.ld43 Tryz.st43 Tryz.ld50 Tryz.st50 Tryz.ld52 Tryz.st52 Tryz.ld54 Tryz.st54 Tryz.ld81 Tryz.st81 Tryz.ld112 Tryz.st112 Tryz.ld120 Tryz.st120 Tryz.ld176 Tryz.st176 Tryz.ld179 Tryz.st179 Tryz.ld182 Tryz.st182 Tryz.ld184 Tryz.st184 Tryz.ld234 Tryz.st234 Tryz.ld236 Tryz.st236 Tryz.ld240 Tryz.st240 Tryz.ld246 Tryz.st246 Tryz.ld249 Tryz.st249 Tryz.al35 Tryz.al48 Tryz.al47 Tryz.al79 Tryz.al177 Tryz.al180 Tryz.al231 Tryz.al232 Tryz.al26 Tryz.al38 Tryz.al40 Tryz.al43 Tryz.al50 Tryz.al52 Tryz.al54 Tryz.al81 Tryz.al112 Tryz.al120 Tryz.al176 Tryz.al179 Tryz.al182 Tryz.al184 Tryz.al234 Tryz.al236 Tryz.al240 Tryz.al246 Tryz.al249
attribute [local go_sem] Player.length_enc Player.ok_enc Player.all_get Player.all_set Player.hand_get Player.hand_set Player.aside_get Player.aside_set Message.length_enc Message.ok_enc Message.all_get Message.all_set Message.kind_get Message.kind_set Message.from__get Message.from__set Message.to__get Message.to__set Message.sender_get Message.sender_set Message.receiver_get Message.receiver_set Message.seq_get Message.seq_set Message.token_get Message.token_set Message.amount_get Message.amount_set Message.size_get Message.size_set Message.payload_get Message.payload_set Tx.length_enc Tx.ok_enc Tx.all_get Tx.all_set Tx.kind_get Tx.kind_set Tx.chain_get Tx.chain_set Tx.from__get Tx.from__set Tx.nonce_get Tx.nonce_set Tx.fee_get Tx.fee_set Tx.to__get Tx.to__set Tx.dest_get Tx.dest_set Tx.token_get Tx.token_set Tx.amount_get Tx.amount_set Tx.size_get Tx.size_set Tx.payload_get Tx.payload_set Tx.msg_get Tx.msg_set Tx.msg_kind_get Tx.msg_kind_set Tx.msg_from__get Tx.msg_from__set Tx.msg_to__get Tx.msg_to__set Tx.msg_sender_get Tx.msg_sender_set Tx.msg_receiver_get Tx.msg_receiver_set Tx.msg_seq_get Tx.msg_seq_set Tx.msg_token_get Tx.msg_token_set Tx.msg_amount_get Tx.msg_amount_set Tx.msg_size_get Tx.msg_size_set Tx.msg_payload_get Tx.msg_payload_set GOp.length_enc GOp.ok_enc GOp.all_get GOp.all_set GOp.kind_get GOp.kind_set GOp.tx_get GOp.tx_set GOp.txs_get GOp.txs_set GOp.gas_get GOp.gas_set GOp.acct_get GOp.acct_set GOp.token_get GOp.token_set GOp.chain_get GOp.chain_set GOp.seq_get GOp.seq_set GOp.tx_kind_get GOp.tx_kind_set GOp.tx_chain_get GOp.tx_chain_set GOp.tx_from__get GOp.tx_from__set GOp.tx_nonce_get GOp.tx_nonce_set GOp.tx_fee_get GOp.tx_fee_set GOp.tx_to__get GOp.tx_to__set GOp.tx_dest_get GOp.tx_dest_set GOp.tx_token_get GOp.tx_token_set GOp.tx_amount_get GOp.tx_amount_set GOp.tx_size_get GOp.tx_size_set GOp.tx_payload_get GOp.tx_payload_set GOp.tx_msg_get GOp.tx_msg_set GOp.tx_msg_kind_get GOp.tx_msg_kind_set GOp.tx_msg_from__get GOp.tx_msg_from__set GOp.tx_msg_to__get GOp.tx_msg_to__set GOp.tx_msg_sender_get GOp.tx_msg_sender_set GOp.tx_msg_receiver_get GOp.tx_msg_receiver_set GOp.tx_msg_seq_get GOp.tx_msg_seq_set GOp.tx_msg_token_get GOp.tx_msg_token_set GOp.tx_msg_amount_get GOp.tx_msg_amount_set GOp.tx_msg_size_get GOp.tx_msg_size_set GOp.tx_msg_payload_get GOp.tx_msg_payload_set Summary.length_enc Summary.ok_enc Summary.all_get Summary.all_set Summary.height_get Summary.height_set Summary.txs_get Summary.txs_set Summary.gas_get Summary.gas_set Summary.fees_get Summary.fees_set Summary.sent_get Summary.sent_set Summary.took_get Summary.took_set Summary.minted_get Summary.minted_set Summary.burned_get Summary.burned_set Summary.root_get Summary.root_set Detail.length_enc Detail.ok_enc Detail.all_get Detail.all_set Detail.code_get Detail.code_set Detail.have__get Detail.have__set Detail.need_get Detail.need_set Slot.length_enc Slot.ok_enc Slot.all_get Slot.all_set Slot.nonce_get Slot.nonce_set Slot.balances_get Slot.balances_set Tree.length_enc Tree.ok_enc Tree.all_get Tree.all_set Tree.leaves_get Tree.leaves_set Mark.length_enc Mark.ok_enc Mark.all_get Mark.all_set Mark.from__get Mark.from__set Mark.seq_get Mark.seq_set Receipt.length_enc Receipt.ok_enc Receipt.all_get Receipt.all_set Receipt.code_get Receipt.code_set Receipt.hash_get Receipt.hash_set Receipt.index_get Receipt.index_set Receipt.gas_get Receipt.gas_set Receipt.fee_get Receipt.fee_set Receipt.hasSent_get Receipt.hasSent_set Receipt.sent_get Receipt.sent_set Receipt.hasTook_get Receipt.hasTook_set Receipt.took_get Receipt.took_set Receipt.sent_kind_get Receipt.sent_kind_set Receipt.sent_from__get Receipt.sent_from__set Receipt.sent_to__get Receipt.sent_to__set Receipt.sent_sender_get Receipt.sent_sender_set Receipt.sent_receiver_get Receipt.sent_receiver_set Receipt.sent_seq_get Receipt.sent_seq_set Receipt.sent_token_get Receipt.sent_token_set Receipt.sent_amount_get Receipt.sent_amount_set Receipt.sent_size_get Receipt.sent_size_set Receipt.sent_payload_get Receipt.sent_payload_set Receipt.took_kind_get Receipt.took_kind_set Receipt.took_from__get Receipt.took_from__set Receipt.took_to__get Receipt.took_to__set Receipt.took_sender_get Receipt.took_sender_set Receipt.took_receiver_get Receipt.took_receiver_set Receipt.took_seq_get Receipt.took_seq_set Receipt.took_token_get Receipt.took_token_set Receipt.took_amount_get Receipt.took_amount_set Receipt.took_size_get Receipt.took_size_set Receipt.took_payload_get Receipt.took_payload_set Store.length_enc Store.ok_enc Store.all_get Store.all_set Store.now_get Store.now_set Store.saved_get Store.saved_set GState.length_enc GState.ok_enc GState.all_get GState.all_set GState.kv_get GState.kv_set GState.tree_get GState.tree_set GState.stale_get GState.stale_set GState.touched_get GState.touched_set GState.kv_now_get GState.kv_now_set GState.kv_saved_get GState.kv_saved_set GState.tree_leaves_get GState.tree_leaves_set History.length_enc History.ok_enc History.all_get History.all_set History.ring_get History.ring_set History.closed_get History.closed_set Ledger.length_enc Ledger.ok_enc Ledger.all_get Ledger.all_set Ledger.chain_get Ledger.chain_set Ledger.st_get Ledger.st_set Ledger.height_get Ledger.height_set Ledger.open__get Ledger.open__set Ledger.gasLimit_get Ledger.gasLimit_set Ledger.past_get Ledger.past_set Ledger.begun_get Ledger.begun_set Ledger.sent_get Ledger.sent_set Ledger.took_get Ledger.took_set Ledger.receipts_get Ledger.receipts_set Ledger.st_kv_get Ledger.st_kv_set Ledger.st_tree_get Ledger.st_tree_set Ledger.st_stale_get Ledger.st_stale_set Ledger.st_touched_get Ledger.st_touched_set Ledger.st_kv_now_get Ledger.st_kv_now_set Ledger.st_kv_saved_get Ledger.st_kv_saved_set Ledger.st_tree_leaves_get Ledger.st_tree_leaves_set Ledger.past_ring_get Ledger.past_ring_set Ledger.past_closed_get Ledger.past_closed_set Ledger.begun_kv_get Ledger.begun_kv_set Ledger.begun_tree_get Ledger.begun_tree_set Ledger.begun_stale_get Ledger.begun_stale_set Ledger.begun_touched_get Ledger.begun_touched_set Ledger.begun_kv_now_get Ledger.begun_kv_now_set Ledger.begun_kv_saved_get Ledger.begun_kv_saved_set Ledger.begun_tree_leaves_get Ledger.begun_tree_leaves_set Purse.length_enc Purse.ok_enc Purse.all_get Purse.all_set Purse.st_get Purse.st_set Purse.n_get Purse.n_set Purse.account_get Purse.account_set Purse.token_get Purse.token_set Purse.amount_get Purse.amount_set Plan.length_enc Plan.ok_enc Plan.all_get Plan.all_set Plan.purse_get Plan.purse_set Plan.nonce_get Plan.nonce_set Plan.gasUsed_get Plan.gasUsed_set Plan.fees_get Plan.fees_set Plan.hasSupply_get Plan.hasSupply_set Plan.token_get Plan.token_set Plan.supply_get Plan.supply_set Plan.flowAt_get Plan.flowAt_set Plan.flow_get Plan.flow_set Plan.receipt_get Plan.receipt_set Plan.purse_st_get Plan.purse_st_set Plan.purse_n_get Plan.purse_n_set Plan.purse_account_get Plan.purse_account_set Plan.purse_token_get Plan.purse_token_set Plan.purse_amount_get Plan.purse_amount_set Plan.receipt_code_get Plan.receipt_code_set Plan.receipt_hash_get Plan.receipt_hash_set Plan.receipt_index_get Plan.receipt_index_set Plan.receipt_gas_get Plan.receipt_gas_set Plan.receipt_fee_get Plan.receipt_fee_set Plan.receipt_hasSent_get Plan.receipt_hasSent_set Plan.receipt_sent_get Plan.receipt_sent_set Plan.receipt_hasTook_get Plan.receipt_hasTook_set Plan.receipt_took_get Plan.receipt_took_set Plan.receipt_sent_kind_get Plan.receipt_sent_kind_set Plan.receipt_sent_from__get Plan.receipt_sent_from__set Plan.receipt_sent_to__get Plan.receipt_sent_to__set Plan.receipt_sent_sender_get Plan.receipt_sent_sender_set Plan.receipt_sent_receiver_get Plan.receipt_sent_receiver_set Plan.receipt_sent_seq_get Plan.receipt_sent_seq_set Plan.receipt_sent_token_get Plan.receipt_sent_token_set Plan.receipt_sent_amount_get Plan.receipt_sent_amount_set Plan.receipt_sent_size_get Plan.receipt_sent_size_set Plan.receipt_sent_payload_get Plan.receipt_sent_payload_set Plan.receipt_took_kind_get Plan.receipt_took_kind_set Plan.receipt_took_from__get Plan.receipt_took_from__set Plan.receipt_took_to__get Plan.receipt_took_to__set Plan.receipt_took_sender_get Plan.receipt_took_sender_set Plan.receipt_took_receiver_get Plan.receipt_took_receiver_set Plan.receipt_took_seq_get Plan.receipt_took_seq_set Plan.receipt_took_token_get Plan.receipt_took_token_set Plan.receipt_took_amount_get Plan.receipt_took_amount_set Plan.receipt_took_size_get Plan.receipt_took_size_set Plan.receipt_took_payload_get Plan.receipt_took_payload_set Move.length_enc Move.ok_enc Move.all_get Move.all_set Move.account_get Move.account_set Move.token_get Move.token_set Move.down_get Move.down_set Move.amount_get Move.amount_set Books.length_enc Books.ok_enc Books.all_get Books.all_set Books.sums_get Books.sums_set Books.stored_get Books.stored_set Books.marks_get Books.marks_set Pair.length_enc Pair.ok_enc Pair.all_get Pair.all_set Pair.key_get Pair.key_set Pair.value_get Pair.value_set
attribute [local go_sem] size_put size_ext blk_put free_put blk_alloc free_alloc blk_drew free_drew blk_ext free_ext lookOr_some putOr_some segAt_some cellAt_some storeIn_some put_put put_alloc_new length_arr ok_arr_u8 ok_arr_u32 ok_arr_u64 ok_arr_i64 ok_arr_sl cellsV_agg cellsV_int cellsV_bool cellsV_string cellsV_pointer cellsV_slice cellsV_sl ok_int ok_bool ok_string ok_pointer ok_slice ok_sl toList_arr seg_arr set_arr nth_splice nth_splice0 seg_splice seg_splice0 splice_splice splice_splice0 length_splice_if
attribute [local go_sem ↓] execOp_box
attribute [local go_sem] box_run nth_arr_u8 put_arr_u8 blk_drewN free_drewN put_drewN blk_raw free_raw
attribute [local go_sem ↓] execOp_build execOp_bslice execOp_slice
attribute [local go_sem] x64_wrap x64_w8 x64_add x64_sub x64_or build249 bslice173 bslice173e bslice174
theorem own_shrink {B : Nat} {W : World} {e : TypeId} {size : Nat} {a : Option Addr} {n c : Nat} {xs : List Value} (h : W.ownsRow B e size (.slice a n c) n xs) {n' : Nat} (hn : n' ≤ n) : W.ownsRow B e size (.slice a n' c) n' (xs.take (n' * size)) := by
  obtain ⟨h1, h2 | ⟨g, cap, cur, e1, e2, e3, e4, e5, e6, e7⟩⟩ := h
  · obtain ⟨h3, h4⟩ := h2
    obtain rfl : n' = 0 := by omega
    refine ⟨by simp, .inl ⟨?_, rfl⟩⟩
    rw [h4] at h3
    exact h3
  · have hle : n' * size ≤ n * size := Nat.mul_le_mul_right _ hn
    injection e1 with e1a e1b e1c
    refine ⟨by rw [List.length_take, h1]; omega, .inr ⟨g, cap, cur, by rw [e1a, e1c], e2, e3, by omega, e5, e6, ?_⟩⟩
    rw [← e7, List.take_take, Nat.min_eq_left hle]
theorem flat_take' {α : Type} {en : α → List Value} {sz : Nat} (hln : ∀ x, (en x).length = sz) (K : List α) (n : Nat) : (K.flatMap en).take (n * sz) = (K.take n).flatMap en := by
  induction K generalizing n with
  | nil => simp
  | cons x K ih =>
    cases n with
    | zero => simp
    | succ n =>
      rw [List.flatMap_cons, List.take_succ_cons, List.flatMap_cons, ← ih n, Nat.succ_mul, Nat.add_comm, List.take_append, hln, Nat.add_sub_cancel_left, List.take_of_length_le (by rw [hln]; omega)]
theorem RowL.shrink {α : Type} {en : α → List Value} {sz : Nat} (hln : ∀ x, (en x).length = sz) {B : Nat} {O : Own} {l : Lab} {W : World} {ty : TypeId} {a : Option Addr} {n c : Nat} {K : List α} (h : RowL B O l W ty sz (.slice a n c) K.length (K.flatMap en)) {n' : Nat} (hn : n' ≤ n) : RowL B O l W ty sz (.slice a n' c) (K.take n').length ((K.take n').flatMap en) := by
  have hk : K.length = n := (RowL.rw hln h).1.1
  have h1 := h.1
  rw [hk] at h1
  have h2 := own_shrink h1 hn
  rw [flat_take' hln] at h2
  have hl : (K.take n').length = n' := by rw [List.length_take]; omega
  refine ⟨by rw [hl]; exact h2, fun k hk => h.2 k (by cases a <;> exact hk)⟩
theorem copyOf_any (W : World) (a : Option Addr) (n c : Nat) (K : List Pair) (hR : Rw Pair.enc 2 W a n K) (hl : K.length ≤ 1000000000) : Calls Tryz.prog 229 #[.slice a n c] W fun e V => ∃ a' n' c', e = .returned (.slice a' n' c') ∧ OutG Pair.enc 2 249 W V a' n' c' K := by
  have hn := hR.1
  subst hn
  obtain ⟨a', n', c', w', hrun, hrow, hg⟩ := appM el173 W.heap.size W 173 (.slice none 0 0) [] K a c ⟨by simp, .inl ⟨rfl, rfl⟩⟩ hR (Nat.le_refl _) (by simp; omega)
  have HO : Hid (OutG Pair.enc 2 249 W w' a' n' c' K) := by
    rw [List.nil_append] at hrow
    refine ⟨hrow, grown_ext (ext_Ext (Ext.refl _)) hg (fun k hk => by simp [Value.ownBlock] at hk), ?_⟩
    exact ((rw_own Pair.length_enc hrow).1.1).symm
  clear hrow hg hR
  go_enter Tryz.func229, Tryz.ntmps229
  go_wp2_with (at_builtin; refine wpList_append_run rfl _ _ 173 rfl _ _ _ _ rfl rfl hrun ?_)
  try go_ret
  exact ⟨a', n', c', rfl, HO.out⟩
/-- After a checkpoint. -/
def CkPost (O : Own) (W : World) (m b o : Nat) (C : List Value) (sn : Sl) (now : List Pair) (saved : List (List Pair)) (e : Ending) (V : World) : Prop :=
  if 8 ≤ saved.length then e = .returned (.int .i64 34) ∧ V = W else
  e = .returned (.int .i64 0) ∧ ∃ O' ss, blk V b = some (splice C (o + 1) [Sl.val ss]) ∧ free V b = true ∧ O' b = .a m 0 ∧ PRow O' V (.a m 1) sn now ∧ SavAt O' V m ss (saved ++ [now]) ∧ Lg (stP m) O W O' V
theorem sav_app {O : Own} {W V6 : World} {m : Nat} {sa : Option Addr} {sl sc : Nat} {saved : List (List Pair)} (h : SavAt O W m ⟨sa, sl, sc⟩ saved) {a6 : Option Addr} {n6 c6 : Nat} {now : List Pair} (hO : OutG Pair.enc 2 249 W V6 a6 n6 c6 now) (hd : saved.length ≤ 8) : ∃ a7 c7 V7 O7, (Builtin.append_ #[174, 174] 174 #[.slice sa sl sc, .slice (some ⟨V6.heap.size, 0, none⟩) 1 1]).run Tryz.prog (V6.alloc (.cells #[.slice a6 n6 c6] 173)) = .ok (.slice a7 (sl + 1) c7) V7 ∧ SavAt O7 V7 m ⟨a7, sl + 1, c7⟩ (saved ++ [now]) ∧ Lg (fun l => l = .a m 2) O W O7 V7 := by
  obtain ⟨K, h4, h5, h6⟩ := h
  have he := hO.2.1
  have h4' : RowL 0 (lab O W.heap.size (.a m (10 + saved.length))) (.a m 2) V6 173 1 (.slice sa sl sc) K.length (K.flatMap encR) := h4.keep (fun k hk _ => ⟨he.block k hk, lab_lt hk⟩)
  obtain ⟨a7, c7, V7, hrun, hrow, hfr⟩ := appLB el174 174 ⟨a6, n6, c6⟩ h4' (Nat.zero_le _) (by omega) (by omega) #[.slice a6 n6 c6] rfl 1
  have hnew : PRow (lab O W.heap.size (.a m (10 + saved.length))) V6 (.a m (10 + saved.length)) ⟨a6, n6, c6⟩ now := ⟨row_base hO.1 (Nat.zero_le _), fun k hk => lab_ge (row_at hO.1 k hk).1⟩
  have nj : ∀ j, ¬ (Lab.a m (10 + j) = .a m 2) := fun j e => by have := (Lab.a.inj e).2; omega
  refine ⟨a7, c7, V7, _, hrun, ⟨K ++ [⟨a6, n6, c6⟩], hrow, by simp [h5], fun i k l e1 e2 => ?_⟩, ?_⟩
  · by_cases hi : i < saved.length
    · rw [List.getElem?_append_left (by omega)] at e1
      rw [List.getElem?_append_left hi] at e2
      have h7 := h6 i k l e1 e2
      exact RowL.fr (RowL.keep h7 (O' := lab O W.heap.size (.a m (10 + saved.length))) (W' := V6) (fun k hk _ => ⟨he.block k hk, lab_lt hk⟩)) hfr (nj i)
    · have hi2 : i = saved.length := by
        have := (List.getElem?_eq_some_iff.1 e2).1
        rw [List.length_append, List.length_singleton] at this
        omega
      subst hi2
      rw [List.getElem?_append_right (by omega), Nat.sub_self] at e2
      rw [List.getElem?_append_right (by omega), h5, Nat.sub_self] at e1
      rw [← Option.some.inj e1, ← Option.some.inj e2]
      exact RowL.fr hnew hfr (nj _)
  · exact Lg.trans ⟨he.os, he.tape, he.output, he.size, fun k hk _ => ⟨lab_lt hk, he.block k hk⟩, fun k hk hp => by rw [lab_lt hk]; exact hp⟩ (Lg.of_fr hfr)
theorem Lg.of_drew {P : Lab → Prop} {O O' : Own} {V V' : World} (h : Lg P O V.drew O' V') : Lg P O V O' V' := ⟨h.os, h.tape, h.output, h.size, h.keep, h.own⟩
set_option maxRecDepth 20000 in
set_option maxHeartbeats 2000000 in
theorem scheckpoint_any (O : Own) (W : World) (m b o : Nat) (C : List Value) (sn ss : Sl) (now : List Pair) (saved : List (List Pair)) (hb : blk W b = some C) (hn : nth C o = some (Sl.val sn)) (hs : nth C (o + 1) = some (Sl.val ss)) (hf : free W b = true) (hO : O b = .a m 0) (hr : PRow O W (.a m 1) sn now) (hsv : SavAt O W m ss saved) (hm : now.length ≤ 1000000000) (hd : saved.length ≤ 8) : Calls Tryz.prog 218 #[.pointer (some ⟨b, o, none⟩)] W (CkPost O W m b o C sn now saved) := by
  obtain ⟨a, n, c⟩ := sn
  obtain ⟨sa, sl, sc⟩ := ss
  change nth C o = some (.slice a n c) at hn
  change nth C (o + 1) = some (.slice sa sl sc) at hs
  have hlen : sl = saved.length := hsv.len
  have hR : Rw Pair.enc 2 W a n now := (RowL.rw Pair.length_enc hr).1
  have hol := nth_lt hs
  have hol2 : o + 1 + 1 ≤ C.length := hol
  have hlt : b < W.drew.heap.size := blk_lt hb
  have n02 : ¬ (Lab.a m 0 = .a m 2) := fun e => by cases e
  obtain ⟨Q, hQ⟩ : ∃ Q : Ending → World → Prop, Q = CkPost O W m b o C ⟨a, n, c⟩ now saved := ⟨_, rfl⟩
  rw [← hQ]
  have HQ := hid_of hQ
  clear hQ
  by_cases h8 : 8 ≤ saved.length
  · have h8' : (8 : Int) ≤ (sl : Int) := by omega
    have HP : Hid (Q (.returned (.int .i64 34)) W) := by
      show Q _ _
      rw [HQ.out]
      unfold CkPost
      rw [if_pos h8]
      exact ⟨rfl, rfl⟩
    clear hlen hR hsv hr h8 hd
    go_enter Tryz.func218, Tryz.ntmps218
    go_wp2_with fail
    try (first | go_ret | go_ret2 | go_end0)
    exact HP.out
  have h8' : ¬ (8 : Int) ≤ (sl : Int) := by omega
  have HR : Hid (Rw Pair.enc 2 W.drew a n now) := hR
  have HROW := hid_of hr
  have HO := hid_of hO
  have HS : Hid (SavAt O W.drew m ⟨sa, sl, sc⟩ saved ∧ True) := ⟨hsv, trivial⟩
  have hS0 : cellAt (blk W.drew b) o = some (.slice a n c) := by rw [blk_drew, hb, cellAt_some]; exact hn
  have HLEN := hid_of hlen
  have hsl8 : sl < 8 := by omega
  clear hR hr hsv hO hlen h8 hd
  go_enter Tryz.func218, Tryz.ntmps218
  go_upto_region 3 with fail
  repeat go_step
  refine wp_region_held_drew (S := fun W' => cellAt (blk W' b) o = some (.slice a n c)) (by kernel_rfl) hS0 (fun hHeld => ?_)
  refine wpAnyH_take (i := 0) (oi := ⟨_, _, _, _, _, _⟩) (v := ?_) rfl (by kernel_rfl) (by kernel_rfl) (by kernel_rfl) (fun _ _ _ h => h) (Or.inl ⟨by rfl, ?_⟩) (by assumption) ?_
  rotate_left 1
  · intro W' hSw
    go_simp
    try with_reducible rfl
  try simp only [Act.put, List.setIfInBounds_toArray, List.set_cons_zero, List.set_cons_succ]
  refine wpAnyH_take (i := 1) (oi := ⟨_, _, _, _, _, _⟩) (v := ?_) rfl (by kernel_rfl) (by kernel_rfl) (by kernel_rfl) (fun _ _ _ h => h) (Or.inl ⟨by rfl, ?_⟩) (by assumption) ?_
  rotate_left 1
  · intro W' hSw
    go_simp
    try with_reducible rfl
  try simp only [Act.put, List.setIfInBounds_toArray, List.set_cons_zero, List.set_cons_succ]
  refine wpAnyH_take (i := 2) (oi := ⟨_, _, _, _, _, _⟩) (v := ?_) rfl (by kernel_rfl) (by kernel_rfl) (by kernel_rfl) (fun _ _ _ h => h) (Or.inl ⟨by rfl, ?_⟩) (by assumption) ?_
  rotate_left 1
  · intro W' hSw
    go_simp
    try with_reducible rfl
  try simp only [Act.put, List.setIfInBounds_toArray, List.set_cons_zero, List.set_cons_succ]
  refine wpAnyH_take (i := 3) (oi := ⟨_, _, _, _, _, _⟩) (v := ?_) rfl (by kernel_rfl) (by kernel_rfl) (by kernel_rfl) (fun _ _ _ h => h) (Or.inl ⟨by rfl, ?_⟩) (by assumption) ?_
  rotate_left 1
  · intro W' hSw
    go_simp
    try with_reducible rfl
  try simp only [Act.put, List.setIfInBounds_toArray, List.set_cons_zero, List.set_cons_succ]
  refine wpAnyH_take (i := 5) (oi := ⟨_, _, _, _, _, _⟩) (v := ?_) rfl (by kernel_rfl) (by kernel_rfl) (by kernel_rfl) (fun _ _ _ h => h) (Or.inl ⟨by rfl, ?_⟩) (by assumption) ?_
  rotate_left 1
  · intro W' hSw
    go_simp
    try with_reducible rfl
  try simp only [Act.put, List.setIfInBounds_toArray, List.set_cons_zero, List.set_cons_succ]
  refine wpAnyH_take (i := 6) (oi := ⟨_, _, _, _, _, _⟩) (v := ?_) rfl (by kernel_rfl) (by kernel_rfl) (by kernel_rfl) (fun _ _ _ h => h) (Or.inl ⟨by rfl, ?_⟩) (by assumption) ?_
  rotate_left 1
  · intro W' hSw
    go_simp
    try with_reducible rfl
  try simp only [Act.put, List.setIfInBounds_toArray, List.set_cons_zero, List.set_cons_succ]
  refine wpAnyH_take (i := 7) (oi := ⟨_, _, _, _, _, _⟩) (v := ?_) rfl (by kernel_rfl) (by kernel_rfl) (by kernel_rfl) (fun _ _ _ h => h) (Or.inl ⟨by rfl, ?_⟩) (by assumption) ?_
  rotate_left 1
  · intro W' hSw
    go_simp
    try with_reducible rfl
  try simp only [Act.put, List.setIfInBounds_toArray, List.set_cons_zero, List.set_cons_succ]
  refine wpAnyH_take (i := 8) (oi := ⟨_, _, _, _, _, _⟩) (v := ?_) rfl (by kernel_rfl) (by kernel_rfl) (by kernel_rfl) (fun _ _ _ h => h) (Or.inl ⟨by rfl, ?_⟩) (by assumption) ?_
  rotate_left 1
  · intro W' hSw
    go_simp
    try with_reducible rfl
  try simp only [Act.put, List.setIfInBounds_toArray, List.set_cons_zero, List.set_cons_succ]
  refine wpAnyH_ready (rs := [4, 9]) (by kernel_rfl) (by simp) ?_
  refine AllReadyH.cons (o := ⟨_, _, _, _, _, _⟩) rfl (fun K' hK => ?_) (AllReadyH.cons (o := ⟨_, _, _, _, _, _⟩) rfl (fun K' hK => ?_) AllReadyH.nil)
  · go_simp
    refine hK.out _ _ hS0 (fun hHeld => ?_)
    clear hK K'
    try simp only [Act.put, List.setIfInBounds_toArray, List.set_cons_zero, List.set_cons_succ]
    refine wpAnyH_ready (rs := [9]) (by kernel_rfl) (by simp) ?_
    refine AllReadyH.cons (o := ⟨_, _, _, _, _, _⟩) rfl (fun K' hK => ?_) AllReadyH.nil
    go_simp
    refine (copyOf_any W.drew a n c now HR.out (by omega)).mono ?_
    rintro e V6 ⟨a6, n6, c6, rfl, hO6⟩
    dsimp only
    have hx6 := hO6.2.1
    have hb6 : blk V6 b = some C := (hx6.blk hlt).trans hb
    have hf6 : free V6 b = true := (free_of_heap (hx6.block b hlt)).trans hf
    obtain ⟨a7, c7, V7, O7, hrun, hsav7, hlg7⟩ := sav_app (HS.out.1) hO6 (by have := HLEN.out; omega)
    have hb7 : blk V7 b = some C := hlg7.blk hb (by rw [HO.out]; exact n02)
    have hf7 : free V7 b = true := hlg7.free hb hf (by rw [HO.out]; exact n02)
    have hb6a : blk (V6.alloc (.cells #[.slice a6 n6 c6] 173)) b = some C := by rw [blk_alloc, if_neg (by have := blk_lt hb6; omega)]; exact hb6
    have hS6 : cellAt (blk V6 b) o = some (.slice a n c) := by rw [hb6, cellAt_some]; exact hn
    have hS6a : cellAt (blk (V6.alloc (.cells #[.slice a6 n6 c6] 173)) b) o = some (.slice a n c) := by rw [hb6a, cellAt_some]; exact hn
    have hS7 : cellAt (blk V7 b) o = some (.slice a n c) := by rw [hb7, cellAt_some]; exact hn
    have hS8 : cellAt (blk (put V7 b (splice C (o + 1) [.slice a7 (sl + 1) c7])) b) o = some (.slice a n c) := by rw [blk_put, if_pos rfl, hb7]; simp only [Option.map_some, cellAt_some]; rw [splice_nth (by omega), if_neg (by omega)]; exact hn
    have HP : Hid (Q (.returned (.int .i64 0)) (put V7 b (splice C (o + 1) [.slice a7 (sl + 1) c7]))) := by
      show Q _ _
      rw [HQ.out]
      unfold CkPost
      rw [if_neg (by have := HLEN.out; omega)]
      have h0 : O7 b = .a m 0 := (hlg7.lab hb (by rw [HO.out]; exact n02)).trans HO.out
      have hpk : Lg (fun l => l = .a m 0) O7 V7 O7 (put V7 b (splice C (o + 1) [.slice a7 (sl + 1) c7])) := Lg.put (P := fun l => l = .a m 0) (Lg.refl _ _ _) h0 _
      refine ⟨rfl, O7, ⟨a7, sl + 1, c7⟩, by rw [blk_put, if_pos rfl, hb7]; rfl, by rw [free_put]; exact hf7, h0, ?_, hsav7.lg hpk (fun e => by cases e) (fun j e => by have := (Lab.a.inj e).2; omega), ?_⟩
      · exact RowL.lg (RowL.lg HROW.out (hlg7.of_drew) (fun e => by cases e)) hpk (fun e => by cases e)
      · refine Lg.trans ((hlg7.of_drew).mono (fun l e => ?_)) (hpk.mono (fun l e => .inl e))
        exact .inr (.inr (.inl e))
    clear hO6 hx6 hsav7 hlg7
    refine hK.out _ _ hS6 (fun hHeld => ?_)
    clear hK K'
    try simp only [Act.put, List.setIfInBounds_toArray, List.set_cons_zero, List.set_cons_succ]
    refine wpAnyH_ready (rs := [10]) (by kernel_rfl) (by simp) ?_
    refine AllReadyH.cons (o := ⟨_, _, _, _, _, _⟩) rfl (fun K' hK => ?_) AllReadyH.nil
    go_simp
    refine hK.out _ _ hS6a (fun hHeld => ?_)
    clear hK K'
    try simp only [Act.put, List.setIfInBounds_toArray, List.set_cons_zero, List.set_cons_succ]
    refine wpAnyH_ready (rs := [11]) (by kernel_rfl) (by simp) ?_
    refine AllReadyH.cons (o := ⟨_, _, _, _, _, _⟩) rfl (fun K' hK => ?_) AllReadyH.nil
    refine wp_append_run _ _ 174 rfl _ _ _ _ rfl rfl hrun ?_
    refine hK.out _ _ hS7 (fun hHeld => ?_)
    clear hK K'
    try simp only [Act.put, List.setIfInBounds_toArray, List.set_cons_zero, List.set_cons_succ]
    refine wpAnyH_take (i := 12) (oi := ⟨_, _, _, _, _, _⟩) (v := ?_) rfl (by kernel_rfl) (by kernel_rfl) (by kernel_rfl) (fun _ _ _ h => h) (Or.inl ⟨by rfl, ?_⟩) (by assumption) ?_
    rotate_left 1
    · intro W' hSw
      go_simp
      try with_reducible rfl
    try simp only [Act.put, List.setIfInBounds_toArray, List.set_cons_zero, List.set_cons_succ]
    refine wpAnyH_take (i := 13) (oi := ⟨_, _, _, _, _, _⟩) (v := ?_) rfl (by kernel_rfl) (by kernel_rfl) (by kernel_rfl) (fun _ _ _ h => h) (Or.inl ⟨by rfl, ?_⟩) (by assumption) ?_
    rotate_left 1
    · intro W' hSw
      go_simp
      try with_reducible rfl
    try simp only [Act.put, List.setIfInBounds_toArray, List.set_cons_zero, List.set_cons_succ]
    refine wpAnyH_ready (rs := [14]) (by kernel_rfl) (by simp) ?_
    refine AllReadyH.cons (o := ⟨_, _, _, _, _, _⟩) rfl (fun K' hK => ?_) AllReadyH.nil
    go_simp
    refine hK.out _ _ hS8 (fun hHeld => ?_)
    clear hK K'
    try simp only [Act.put, List.setIfInBounds_toArray, List.set_cons_zero, List.set_cons_succ]
    refine wpAnyH_done (by kernel_rfl) ?_ _
    clear hHeld
    go_wp2_with fail
    try (first | go_ret | go_ret2 | go_end0)
    exact HP.out
  · go_simp
    refine (copyOf_any W.drew a n c now HR.out (by omega)).mono ?_
    rintro e V6 ⟨a6, n6, c6, rfl, hO6⟩
    dsimp only
    have hx6 := hO6.2.1
    have hb6 : blk V6 b = some C := (hx6.blk hlt).trans hb
    have hf6 : free V6 b = true := (free_of_heap (hx6.block b hlt)).trans hf
    obtain ⟨a7, c7, V7, O7, hrun, hsav7, hlg7⟩ := sav_app (HS.out.1) hO6 (by have := HLEN.out; omega)
    have hb7 : blk V7 b = some C := hlg7.blk hb (by rw [HO.out]; exact n02)
    have hf7 : free V7 b = true := hlg7.free hb hf (by rw [HO.out]; exact n02)
    have hb6a : blk (V6.alloc (.cells #[.slice a6 n6 c6] 173)) b = some C := by rw [blk_alloc, if_neg (by have := blk_lt hb6; omega)]; exact hb6
    have hS6 : cellAt (blk V6 b) o = some (.slice a n c) := by rw [hb6, cellAt_some]; exact hn
    have hS6a : cellAt (blk (V6.alloc (.cells #[.slice a6 n6 c6] 173)) b) o = some (.slice a n c) := by rw [hb6a, cellAt_some]; exact hn
    have hS7 : cellAt (blk V7 b) o = some (.slice a n c) := by rw [hb7, cellAt_some]; exact hn
    have hS8 : cellAt (blk (put V7 b (splice C (o + 1) [.slice a7 (sl + 1) c7])) b) o = some (.slice a n c) := by rw [blk_put, if_pos rfl, hb7]; simp only [Option.map_some, cellAt_some]; rw [splice_nth (by omega), if_neg (by omega)]; exact hn
    have HP : Hid (Q (.returned (.int .i64 0)) (put V7 b (splice C (o + 1) [.slice a7 (sl + 1) c7]))) := by
      show Q _ _
      rw [HQ.out]
      unfold CkPost
      rw [if_neg (by have := HLEN.out; omega)]
      have h0 : O7 b = .a m 0 := (hlg7.lab hb (by rw [HO.out]; exact n02)).trans HO.out
      have hpk : Lg (fun l => l = .a m 0) O7 V7 O7 (put V7 b (splice C (o + 1) [.slice a7 (sl + 1) c7])) := Lg.put (P := fun l => l = .a m 0) (Lg.refl _ _ _) h0 _
      refine ⟨rfl, O7, ⟨a7, sl + 1, c7⟩, by rw [blk_put, if_pos rfl, hb7]; rfl, by rw [free_put]; exact hf7, h0, ?_, hsav7.lg hpk (fun e => by cases e) (fun j e => by have := (Lab.a.inj e).2; omega), ?_⟩
      · exact RowL.lg (RowL.lg HROW.out (hlg7.of_drew) (fun e => by cases e)) hpk (fun e => by cases e)
      · refine Lg.trans ((hlg7.of_drew).mono (fun l e => ?_)) (hpk.mono (fun l e => .inl e))
        exact .inr (.inr (.inl e))
    clear hO6 hx6 hsav7 hlg7
    refine hK.out _ _ hS6 (fun hHeld => ?_)
    clear hK K'
    try simp only [Act.put, List.setIfInBounds_toArray, List.set_cons_zero, List.set_cons_succ]
    refine wpAnyH_ready (rs := [4, 10]) (by kernel_rfl) (by simp) ?_
    refine AllReadyH.cons (o := ⟨_, _, _, _, _, _⟩) rfl (fun K' hK => ?_) (AllReadyH.cons (o := ⟨_, _, _, _, _, _⟩) rfl (fun K' hK => ?_) AllReadyH.nil)
    · go_simp
      refine hK.out _ _ hS6 (fun hHeld => ?_)
      clear hK K'
      try simp only [Act.put, List.setIfInBounds_toArray, List.set_cons_zero, List.set_cons_succ]
      refine wpAnyH_ready (rs := [10]) (by kernel_rfl) (by simp) ?_
      refine AllReadyH.cons (o := ⟨_, _, _, _, _, _⟩) rfl (fun K' hK => ?_) AllReadyH.nil
      go_simp
      refine hK.out _ _ hS6a (fun hHeld => ?_)
      clear hK K'
      try simp only [Act.put, List.setIfInBounds_toArray, List.set_cons_zero, List.set_cons_succ]
      refine wpAnyH_ready (rs := [11]) (by kernel_rfl) (by simp) ?_
      refine AllReadyH.cons (o := ⟨_, _, _, _, _, _⟩) rfl (fun K' hK => ?_) AllReadyH.nil
      refine wp_append_run _ _ 174 rfl _ _ _ _ rfl rfl hrun ?_
      refine hK.out _ _ hS7 (fun hHeld => ?_)
      clear hK K'
      try simp only [Act.put, List.setIfInBounds_toArray, List.set_cons_zero, List.set_cons_succ]
      refine wpAnyH_take (i := 12) (oi := ⟨_, _, _, _, _, _⟩) (v := ?_) rfl (by kernel_rfl) (by kernel_rfl) (by kernel_rfl) (fun _ _ _ h => h) (Or.inl ⟨by rfl, ?_⟩) (by assumption) ?_
      rotate_left 1
      · intro W' hSw
        go_simp
        try with_reducible rfl
      try simp only [Act.put, List.setIfInBounds_toArray, List.set_cons_zero, List.set_cons_succ]
      refine wpAnyH_take (i := 13) (oi := ⟨_, _, _, _, _, _⟩) (v := ?_) rfl (by kernel_rfl) (by kernel_rfl) (by kernel_rfl) (fun _ _ _ h => h) (Or.inl ⟨by rfl, ?_⟩) (by assumption) ?_
      rotate_left 1
      · intro W' hSw
        go_simp
        try with_reducible rfl
      try simp only [Act.put, List.setIfInBounds_toArray, List.set_cons_zero, List.set_cons_succ]
      refine wpAnyH_ready (rs := [14]) (by kernel_rfl) (by simp) ?_
      refine AllReadyH.cons (o := ⟨_, _, _, _, _, _⟩) rfl (fun K' hK => ?_) AllReadyH.nil
      go_simp
      refine hK.out _ _ hS8 (fun hHeld => ?_)
      clear hK K'
      try simp only [Act.put, List.setIfInBounds_toArray, List.set_cons_zero, List.set_cons_succ]
      refine wpAnyH_done (by kernel_rfl) ?_ _
      clear hHeld
      go_wp2_with fail
      try (first | go_ret | go_ret2 | go_end0)
      exact HP.out
    · go_simp
      refine hK.out _ _ hS6a (fun hHeld => ?_)
      clear hK K'
      try simp only [Act.put, List.setIfInBounds_toArray, List.set_cons_zero, List.set_cons_succ]
      refine wpAnyH_ready (rs := [4]) (by kernel_rfl) (by simp) ?_
      refine AllReadyH.cons (o := ⟨_, _, _, _, _, _⟩) rfl (fun K' hK => ?_) AllReadyH.nil
      go_simp
      refine hK.out _ _ hS6a (fun hHeld => ?_)
      clear hK K'
      try simp only [Act.put, List.setIfInBounds_toArray, List.set_cons_zero, List.set_cons_succ]
      refine wpAnyH_ready (rs := [11]) (by kernel_rfl) (by simp) ?_
      refine AllReadyH.cons (o := ⟨_, _, _, _, _, _⟩) rfl (fun K' hK => ?_) AllReadyH.nil
      refine wp_append_run _ _ 174 rfl _ _ _ _ rfl rfl hrun ?_
      refine hK.out _ _ hS7 (fun hHeld => ?_)
      clear hK K'
      try simp only [Act.put, List.setIfInBounds_toArray, List.set_cons_zero, List.set_cons_succ]
      refine wpAnyH_take (i := 12) (oi := ⟨_, _, _, _, _, _⟩) (v := ?_) rfl (by kernel_rfl) (by kernel_rfl) (by kernel_rfl) (fun _ _ _ h => h) (Or.inl ⟨by rfl, ?_⟩) (by assumption) ?_
      rotate_left 1
      · intro W' hSw
        go_simp
        try with_reducible rfl
      try simp only [Act.put, List.setIfInBounds_toArray, List.set_cons_zero, List.set_cons_succ]
      refine wpAnyH_take (i := 13) (oi := ⟨_, _, _, _, _, _⟩) (v := ?_) rfl (by kernel_rfl) (by kernel_rfl) (by kernel_rfl) (fun _ _ _ h => h) (Or.inl ⟨by rfl, ?_⟩) (by assumption) ?_
      rotate_left 1
      · intro W' hSw
        go_simp
        try with_reducible rfl
      try simp only [Act.put, List.setIfInBounds_toArray, List.set_cons_zero, List.set_cons_succ]
      refine wpAnyH_ready (rs := [14]) (by kernel_rfl) (by simp) ?_
      refine AllReadyH.cons (o := ⟨_, _, _, _, _, _⟩) rfl (fun K' hK => ?_) AllReadyH.nil
      go_simp
      refine hK.out _ _ hS8 (fun hHeld => ?_)
      clear hK K'
      try simp only [Act.put, List.setIfInBounds_toArray, List.set_cons_zero, List.set_cons_succ]
      refine wpAnyH_done (by kernel_rfl) ?_ _
      clear hHeld
      go_wp2_with fail
      try (first | go_ret | go_ret2 | go_end0)
      exact HP.out
end Go.Proofs.Qxb6500786aGreat
