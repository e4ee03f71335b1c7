import Derived.DeepKeys2
import Derived.OwnWalk
import Derived.Test.Qxb6500786aGreatSmall
import Derived.Test.Qxb6500786aGreatPf

import Derived.StillTailTactics
import Derived.Deep.QuietTactic
import Derived.BigQuiet
import Derived.Deep.RegionHeld
import Derived.Deep.CutRange
import Derived.Laws.ResultCell
import Derived.Laws.Rows
import Derived.DeepKeys
import Derived.DataBytes
import Derived.Laws.StructEq
import Derived.Laws.AppendOwn
import Derived.Laws.MakeOwn
import Derived.Lib.AppendStr
set_option linter.unusedSimpArgs false
set_option linter.unusedVariables false
namespace Go.Proofs.Qxb6500786aGreat
open Go.RowKit Go.Blk
attribute [local go_sem ↓] execOp_load execOp_store execOp_alloc
attribute [local go_sem] Tryz.ld24 Tryz.st24 Tryz.ld36 Tryz.st36 Tryz.ld28 Tryz.st28 Tryz.ld32 Tryz.st32 Tryz.ld33 Tryz.st33 Tryz.ld34 Tryz.st34 Tryz.ld5 Tryz.st5 Tryz.ld31 Tryz.st31 Tryz.ld30 Tryz.st30 Tryz.ld41 Tryz.st41 Tryz.ld44 Tryz.st44 Tryz.ld4 Tryz.st4 Tryz.ld173 Tryz.st173 Tryz.ld174 Tryz.st174 Tryz.ld95 Tryz.st95 Tryz.ld45 Tryz.st45 Tryz.ld207 Tryz.st207 Tryz.ld3 Tryz.st3 Tryz.ld189 Tryz.st189 Tryz.ld2 Tryz.st2 Tryz.ld9 Tryz.st9 Tryz.ld12 Tryz.st12 Tryz.ld21 Tryz.st21 Tryz.ld22 Tryz.st22 Tryz.ld46 Tryz.st46 Tryz.ld92 Tryz.st92 Tryz.ld94 Tryz.st94 Tryz.ld96 Tryz.st96 Tryz.ld97 Tryz.st97 Tryz.ld105 Tryz.st105 Tryz.ld117 Tryz.st117 Tryz.ld122 Tryz.st122 Tryz.ld123 Tryz.st123 Tryz.ld133 Tryz.st133 Tryz.ld155 Tryz.st155 Tryz.ld163 Tryz.st163 Tryz.ld190 Tryz.st190 Tryz.ld197 Tryz.st197 Tryz.ld201 Tryz.st201 Tryz.ld202 Tryz.st202 Tryz.ld209 Tryz.st209 Tryz.ld216 Tryz.st216 Tryz.ld230 Tryz.st230 Tryz.ld238 Tryz.st238 Tryz.ld242 Tryz.st242 Tryz.ld251 Tryz.st251 Tryz.ld260 Tryz.st260 Tryz.ld286 Tryz.st286 Tryz.ld292 Tryz.st292 Tryz.ld298 Tryz.st298 Tryz.ld309 Tryz.st309 Tryz.ld35 Tryz.st35 Tryz.ld48 Tryz.st48 Tryz.ld47 Tryz.st47 Tryz.ld79 Tryz.st79 Tryz.ld177 Tryz.st177 Tryz.ld180 Tryz.st180 Tryz.ld231 Tryz.st231 Tryz.ld232 Tryz.st232 Tryz.ld26 Tryz.st26 Tryz.ld38 Tryz.st38 Tryz.ld40 Tryz.st40 Tryz.ld43 Tryz.st43 Tryz.ld50 Tryz.st50 Tryz.ld52 Tryz.st52 Tryz.ld54 Tryz.st54 Tryz.ld81 Tryz.st81 Tryz.ld112 Tryz.st112 Tryz.ld120 Tryz.st120 Tryz.ld176 Tryz.st176 Tryz.ld179 Tryz.st179 Tryz.ld182 Tryz.st182 Tryz.ld184 Tryz.st184 Tryz.ld234 Tryz.st234 Tryz.ld236 Tryz.st236 Tryz.ld240 Tryz.st240 Tryz.ld246 Tryz.st246 Tryz.ld249 Tryz.st249 Tryz.al35 Tryz.al48 Tryz.al47 Tryz.al79 Tryz.al177 Tryz.al180 Tryz.al231 Tryz.al232 Tryz.al26 Tryz.al38 Tryz.al40 Tryz.al43 Tryz.al50 Tryz.al52 Tryz.al54 Tryz.al81 Tryz.al112 Tryz.al120 Tryz.al176 Tryz.al179 Tryz.al182 Tryz.al184 Tryz.al234 Tryz.al236 Tryz.al240 Tryz.al246 Tryz.al249
attribute [local go_sem] Player.length_enc Player.ok_enc Player.all_get Player.all_set Player.hand_get Player.hand_set Player.aside_get Player.aside_set Message.length_enc Message.ok_enc Message.all_get Message.all_set Message.kind_get Message.kind_set Message.from__get Message.from__set Message.to__get Message.to__set Message.sender_get Message.sender_set Message.receiver_get Message.receiver_set Message.seq_get Message.seq_set Message.token_get Message.token_set Message.amount_get Message.amount_set Message.size_get Message.size_set Message.payload_get Message.payload_set Tx.length_enc Tx.ok_enc Tx.all_get Tx.all_set Tx.kind_get Tx.kind_set Tx.chain_get Tx.chain_set Tx.from__get Tx.from__set Tx.nonce_get Tx.nonce_set Tx.fee_get Tx.fee_set Tx.to__get Tx.to__set Tx.dest_get Tx.dest_set Tx.token_get Tx.token_set Tx.amount_get Tx.amount_set Tx.size_get Tx.size_set Tx.payload_get Tx.payload_set Tx.msg_get Tx.msg_set Tx.msg_kind_get Tx.msg_kind_set Tx.msg_from__get Tx.msg_from__set Tx.msg_to__get Tx.msg_to__set Tx.msg_sender_get Tx.msg_sender_set Tx.msg_receiver_get Tx.msg_receiver_set Tx.msg_seq_get Tx.msg_seq_set Tx.msg_token_get Tx.msg_token_set Tx.msg_amount_get Tx.msg_amount_set Tx.msg_size_get Tx.msg_size_set Tx.msg_payload_get Tx.msg_payload_set GOp.length_enc GOp.ok_enc GOp.all_get GOp.all_set GOp.kind_get GOp.kind_set GOp.tx_get GOp.tx_set GOp.txs_get GOp.txs_set GOp.gas_get GOp.gas_set GOp.acct_get GOp.acct_set GOp.token_get GOp.token_set GOp.chain_get GOp.chain_set GOp.seq_get GOp.seq_set GOp.tx_kind_get GOp.tx_kind_set GOp.tx_chain_get GOp.tx_chain_set GOp.tx_from__get GOp.tx_from__set GOp.tx_nonce_get GOp.tx_nonce_set GOp.tx_fee_get GOp.tx_fee_set GOp.tx_to__get GOp.tx_to__set GOp.tx_dest_get GOp.tx_dest_set GOp.tx_token_get GOp.tx_token_set GOp.tx_amount_get GOp.tx_amount_set GOp.tx_size_get GOp.tx_size_set GOp.tx_payload_get GOp.tx_payload_set GOp.tx_msg_get GOp.tx_msg_set GOp.tx_msg_kind_get GOp.tx_msg_kind_set GOp.tx_msg_from__get GOp.tx_msg_from__set GOp.tx_msg_to__get GOp.tx_msg_to__set GOp.tx_msg_sender_get GOp.tx_msg_sender_set GOp.tx_msg_receiver_get GOp.tx_msg_receiver_set GOp.tx_msg_seq_get GOp.tx_msg_seq_set GOp.tx_msg_token_get GOp.tx_msg_token_set GOp.tx_msg_amount_get GOp.tx_msg_amount_set GOp.tx_msg_size_get GOp.tx_msg_size_set GOp.tx_msg_payload_get GOp.tx_msg_payload_set Summary.length_enc Summary.ok_enc Summary.all_get Summary.all_set Summary.height_get Summary.height_set Summary.txs_get Summary.txs_set Summary.gas_get Summary.gas_set Summary.fees_get Summary.fees_set Summary.sent_get Summary.sent_set Summary.took_get Summary.took_set Summary.minted_get Summary.minted_set Summary.burned_get Summary.burned_set Summary.root_get Summary.root_set Detail.length_enc Detail.ok_enc Detail.all_get Detail.all_set Detail.code_get Detail.code_set Detail.have__get Detail.have__set Detail.need_get Detail.need_set Slot.length_enc Slot.ok_enc Slot.all_get Slot.all_set Slot.nonce_get Slot.nonce_set Slot.balances_get Slot.balances_set Tree.length_enc Tree.ok_enc Tree.all_get Tree.all_set Tree.leaves_get Tree.leaves_set Mark.length_enc Mark.ok_enc Mark.all_get Mark.all_set Mark.from__get Mark.from__set Mark.seq_get Mark.seq_set Receipt.length_enc Receipt.ok_enc Receipt.all_get Receipt.all_set Receipt.code_get Receipt.code_set Receipt.hash_get Receipt.hash_set Receipt.index_get Receipt.index_set Receipt.gas_get Receipt.gas_set Receipt.fee_get Receipt.fee_set Receipt.hasSent_get Receipt.hasSent_set Receipt.sent_get Receipt.sent_set Receipt.hasTook_get Receipt.hasTook_set Receipt.took_get Receipt.took_set Receipt.sent_kind_get Receipt.sent_kind_set Receipt.sent_from__get Receipt.sent_from__set Receipt.sent_to__get Receipt.sent_to__set Receipt.sent_sender_get Receipt.sent_sender_set Receipt.sent_receiver_get Receipt.sent_receiver_set Receipt.sent_seq_get Receipt.sent_seq_set Receipt.sent_token_get Receipt.sent_token_set Receipt.sent_amount_get Receipt.sent_amount_set Receipt.sent_size_get Receipt.sent_size_set Receipt.sent_payload_get Receipt.sent_payload_set Receipt.took_kind_get Receipt.took_kind_set Receipt.took_from__get Receipt.took_from__set Receipt.took_to__get Receipt.took_to__set Receipt.took_sender_get Receipt.took_sender_set Receipt.took_receiver_get Receipt.took_receiver_set Receipt.took_seq_get Receipt.took_seq_set Receipt.took_token_get Receipt.took_token_set Receipt.took_amount_get Receipt.took_amount_set Receipt.took_size_get Receipt.took_size_set Receipt.took_payload_get Receipt.took_payload_set Store.length_enc Store.ok_enc Store.all_get Store.all_set Store.now_get Store.now_set Store.saved_get Store.saved_set GState.length_enc GState.ok_enc GState.all_get GState.all_set GState.kv_get GState.kv_set GState.tree_get GState.tree_set GState.stale_get GState.stale_set GState.touched_get GState.touched_set GState.kv_now_get GState.kv_now_set GState.kv_saved_get GState.kv_saved_set GState.tree_leaves_get GState.tree_leaves_set History.length_enc History.ok_enc History.all_get History.all_set History.ring_get History.ring_set History.closed_get History.closed_set Ledger.length_enc Ledger.ok_enc Ledger.all_get Ledger.all_set Ledger.chain_get Ledger.chain_set Ledger.st_get Ledger.st_set Ledger.height_get Ledger.height_set Ledger.open__get Ledger.open__set Ledger.gasLimit_get Ledger.gasLimit_set Ledger.past_get Ledger.past_set Ledger.begun_get Ledger.begun_set Ledger.sent_get Ledger.sent_set Ledger.took_get Ledger.took_set Ledger.receipts_get Ledger.receipts_set Ledger.st_kv_get Ledger.st_kv_set Ledger.st_tree_get Ledger.st_tree_set Ledger.st_stale_get Ledger.st_stale_set Ledger.st_touched_get Ledger.st_touched_set Ledger.st_kv_now_get Ledger.st_kv_now_set Ledger.st_kv_saved_get Ledger.st_kv_saved_set Ledger.st_tree_leaves_get Ledger.st_tree_leaves_set Ledger.past_ring_get Ledger.past_ring_set Ledger.past_closed_get Ledger.past_closed_set Ledger.begun_kv_get Ledger.begun_kv_set Ledger.begun_tree_get Ledger.begun_tree_set Ledger.begun_stale_get Ledger.begun_stale_set Ledger.begun_touched_get Ledger.begun_touched_set Ledger.begun_kv_now_get Ledger.begun_kv_now_set Ledger.begun_kv_saved_get Ledger.begun_kv_saved_set Ledger.begun_tree_leaves_get Ledger.begun_tree_leaves_set Purse.length_enc Purse.ok_enc Purse.all_get Purse.all_set Purse.st_get Purse.st_set Purse.n_get Purse.n_set Purse.account_get Purse.account_set Purse.token_get Purse.token_set Purse.amount_get Purse.amount_set Plan.length_enc Plan.ok_enc Plan.all_get Plan.all_set Plan.purse_get Plan.purse_set Plan.nonce_get Plan.nonce_set Plan.gasUsed_get Plan.gasUsed_set Plan.fees_get Plan.fees_set Plan.hasSupply_get Plan.hasSupply_set Plan.token_get Plan.token_set Plan.supply_get Plan.supply_set Plan.flowAt_get Plan.flowAt_set Plan.flow_get Plan.flow_set Plan.receipt_get Plan.receipt_set Plan.purse_st_get Plan.purse_st_set Plan.purse_n_get Plan.purse_n_set Plan.purse_account_get Plan.purse_account_set Plan.purse_token_get Plan.purse_token_set Plan.purse_amount_get Plan.purse_amount_set Plan.receipt_code_get Plan.receipt_code_set Plan.receipt_hash_get Plan.receipt_hash_set Plan.receipt_index_get Plan.receipt_index_set Plan.receipt_gas_get Plan.receipt_gas_set Plan.receipt_fee_get Plan.receipt_fee_set Plan.receipt_hasSent_get Plan.receipt_hasSent_set Plan.receipt_sent_get Plan.receipt_sent_set Plan.receipt_hasTook_get Plan.receipt_hasTook_set Plan.receipt_took_get Plan.receipt_took_set Plan.receipt_sent_kind_get Plan.receipt_sent_kind_set Plan.receipt_sent_from__get Plan.receipt_sent_from__set Plan.receipt_sent_to__get Plan.receipt_sent_to__set Plan.receipt_sent_sender_get Plan.receipt_sent_sender_set Plan.receipt_sent_receiver_get Plan.receipt_sent_receiver_set Plan.receipt_sent_seq_get Plan.receipt_sent_seq_set Plan.receipt_sent_token_get Plan.receipt_sent_token_set Plan.receipt_sent_amount_get Plan.receipt_sent_amount_set Plan.receipt_sent_size_get Plan.receipt_sent_size_set Plan.receipt_sent_payload_get Plan.receipt_sent_payload_set Plan.receipt_took_kind_get Plan.receipt_took_kind_set Plan.receipt_took_from__get Plan.receipt_took_from__set Plan.receipt_took_to__get Plan.receipt_took_to__set Plan.receipt_took_sender_get Plan.receipt_took_sender_set Plan.receipt_took_receiver_get Plan.receipt_took_receiver_set Plan.receipt_took_seq_get Plan.receipt_took_seq_set Plan.receipt_took_token_get Plan.receipt_took_token_set Plan.receipt_took_amount_get Plan.receipt_took_amount_set Plan.receipt_took_size_get Plan.receipt_took_size_set Plan.receipt_took_payload_get Plan.receipt_took_payload_set Move.length_enc Move.ok_enc Move.all_get Move.all_set Move.account_get Move.account_set Move.token_get Move.token_set Move.down_get Move.down_set Move.amount_get Move.amount_set Books.length_enc Books.ok_enc Books.all_get Books.all_set Books.sums_get Books.sums_set Books.stored_get Books.stored_set Books.marks_get Books.marks_set Pair.length_enc Pair.ok_enc Pair.all_get Pair.all_set Pair.key_get Pair.key_set Pair.value_get Pair.value_set
attribute [local go_sem] size_put size_ext blk_put free_put blk_alloc free_alloc blk_drew free_drew blk_ext free_ext lookOr_some putOr_some segAt_some cellAt_some storeIn_some put_put put_alloc_new length_arr ok_arr_u8 ok_arr_u32 ok_arr_u64 ok_arr_i64 ok_arr_sl cellsV_agg cellsV_int cellsV_bool cellsV_string cellsV_pointer cellsV_slice cellsV_sl ok_int ok_bool ok_string ok_pointer ok_slice ok_sl toList_arr seg_arr set_arr nth_splice nth_splice0 seg_splice seg_splice0 splice_splice splice_splice0 length_splice_if
attribute [local go_sem ↓] execOp_box
attribute [local go_sem] box_run nth_arr_u8 put_arr_u8 blk_drewN free_drewN put_drewN blk_raw free_raw
/-- How many transactions the first i steps carry. -/
def sumT (g : Nat → GOp) : Nat → Nat
  | 0 => 0
  | i + 1 => sumT g i + (g i).txs.len
theorem sumT_mono (g : Nat → GOp) {i j : Nat} (h : i ≤ j) : sumT g i ≤ sumT g j := by
  induction h with
  | refl => exact Nat.le_refl _
  | step _ ih => exact Nat.le_trans ih (Nat.le_add_right _ _)
def zsI2 (w : World) (a : Option Addr) (len cap : Nat) (g : Nat → GOp) (f : Nat → Value) (W : World) : Prop :=
  f 0 = .slice a len cap ∧ W = w ∧ ∃ (i n : Nat), i ≤ len ∧ f 4 = .int .i64 (i : Nat) ∧ f 3 = .int .i64 (n : Nat) ∧ n ≤ 65536 ∧ n = len + sumT g i
set_option maxRecDepth 20000 in
set_option maxHeartbeats 2000000 in
theorem small2_any (w : World) (a : Option Addr) (len cap : Nat) (g : Nat → GOp) (dt : Nat → List Tx) (hS : ScriptAt w a len cap g dt) :
    Calls Tryz.prog 15 #[.slice a len cap] w fun e w' => (∃ r : Bool, e = .returned (.bool r) ∧ (r = true → len + sumT g len ≤ 65536)) ∧ w' = w := by
  have HS : Hid (ScriptAt w a len cap g dt) := hS
  have hm : len ≤ 9223372036854775807 := by have := hS.1; have := hS.2.1; simp only [maxLen] at this; omega
  clear hS
  by_cases hl : len ≤ 65536
  · have hl' : ¬ (65536 : Int) < (len : Int) := by omega
    go_enter Tryz.func15, Tryz.ntmps15
    go_wp2_with fail
    refine wp_loop_f 25 (zsI2 w a len cap g) (fun f _ => len - (intOf (f 4)).toNat) rfl ?_ ?_
    · exact ⟨rfl, rfl, 0, len, by omega, rfl, rfl, hl, rfl⟩
    intro F W hrel
    obtain ⟨h0, rfl, i, n, hi, h4, h3, hn, hall⟩ := hrel
    have H4 : Hid (F 4 = .int .i64 (i : Nat)) := h4
    have HA : Hid (n = len + sumT g i) := hall
    rw [frame25, h0, h3, h4]
    clear h0 h3 h4 hall
    by_cases hil : i < len
    · obtain ⟨b, o, C, rfl, hC, hlen, hseg⟩ := HS.out.2.2.2 (by omega)
      have hs := hseg i hil
      have hdl := (HS.out.2.2.1 i hil).2
      obtain ⟨s, hsd⟩ : ∃ s, s = (g i).txs := ⟨_, rfl⟩
      have hnth : nth C (o + i * 90 + 84) = some (Sl.val s) := by
        have h1 := GOp.txs_get (g i)
        rw [← hs, ← hsd] at h1
        unfold nth at h1 ⊢
        unfold seg at h1
        rw [List.getElem?_take, if_pos (by omega), List.getElem?_drop] at h1
        exact h1
      have hsm : s.len ≤ 140737488351232 := by rw [hsd]; exact hdl.2
      obtain ⟨sa, sl, sc⟩ := s
      have HSD : Hid ((⟨sa, sl, sc⟩ : Sl) = (g i).txs) := hsd
      simp only [Sl.val] at hnth hsm
      clear hseg hs hdl hsd
      have q0 : (0 : Int) ≤ (i : Int) := by omega
      have q1 : (i : Int) < (len : Int) := by omega
      have q2 : ((i : Int)).toNat = i := by omega
      by_cases hbig : n + sl ≤ 65536
      · go_wp2_with fail
        refine ⟨rfl, rfl, ?_, ?_⟩
        · refine ⟨rfl, rfl, i + 1, n + sl, by omega, ?_, ?_, hbig, ?_⟩
          · show Value.int .i64 _ = _
            go_num
          · show Value.int .i64 _ = _
            go_num
          · show n + sl = len + (sumT g i + (g i).txs.len)
            rw [← HSD.out, HA.out]
            show len + sumT g i + sl = len + (sumT g i + sl)
            omega
        · show len - (intOf (Value.int .i64 _)).toNat < len - (intOf (F 4)).toNat
          rw [H4.out]
          simp [intOf]; omega
      · go_wp2_with fail
        go_ret
        exact ⟨⟨false, rfl, fun h => by simp at h⟩, rfl⟩
    · obtain rfl : i = len := by omega
      go_wp2_with fail
      go_ret
      exact ⟨⟨true, rfl, fun _ => by have := HA.out; omega⟩, rfl⟩
  · have hl' : (65536 : Int) < (len : Int) := by omega
    go_enter Tryz.func15, Tryz.ntmps15
    go_wp2_with fail
    go_ret
    exact ⟨⟨false, rfl, fun h => by simp at h⟩, rfl⟩
set_option maxRecDepth 20000 in
set_option maxHeartbeats 2000000 in
theorem chainOf2_any (w : World) (a : Option Addr) (len cap : Nat) (g : Nat → GOp) (dt : Nat → List Tx) (hS : ScriptAt w a len cap g dt) : Calls Tryz.prog 17 #[.slice a len cap] w fun e w' => ∃ c : UInt8, rolB c = true ∧ e = .returned (.int .u8 (w8 c)) ∧ w' = w := by
  have hm : len ≤ 9223372036854775807 := by have := hS.1; have := hS.2.1; simp only [maxLen] at this; omega
  by_cases h0 : len = 0
  · subst h0
    go_enter Tryz.func17, Tryz.ntmps17
    go_wp2_with fail
    go_ret
    exact ⟨1, by decide, rfl, rfl⟩
  · obtain ⟨b, o, C, rfl, hC, hlen, hseg⟩ := hS.2.2.2 h0
    have hs := hseg 0 (by omega)
    obtain ⟨y, hy⟩ : ∃ y, y = (g 0).chain := ⟨_, rfl⟩
    have hnth : nth C (o + 88) = some (.int .u8 (w8 y)) := by
      have h1 := GOp.chain_get (g 0)
      rw [← hs, ← hy] at h1
      unfold nth at h1 ⊢
      unfold seg at h1
      rw [List.getElem?_take, if_pos (by omega), List.getElem?_drop] at h1
      simpa using h1
    have q1 : (0 : Int) < (len : Int) := by omega
    have q2 : o + 88 + 1 ≤ C.length := by omega
    clear hseg hs hS
    go_enter Tryz.func17, Tryz.ntmps17
    go_wp2_with fail
    · go_ret
      exact ⟨2, by decide, rfl, rfl⟩
    · go_ret
      exact ⟨1, by decide, rfl, rfl⟩
set_option maxRecDepth 20000 in
set_option maxHeartbeats 1000000 in
theorem newPlayer_any (O : Own) (W : World) (c : UInt8) (hc : rolB c = true) : Calls Tryz.prog 16 #[.int .u8 (w8 c)] W fun e V => ∃ b1 b2 O', e = .returned (.agg (Player.mk (some ⟨b1, 0, none⟩) (some ⟨b2, 0, none⟩)).enc.toArray) ∧ W.Extends V ∧ W.heap.size ≤ b1 ∧ (∀ k, k < W.heap.size → O' k = O k) ∧ LedA O' V b1 (newL c) := by
  obtain ⟨Q, hQ⟩ : ∃ Q : Ending → World → Prop, Q = fun e V => ∃ b1 b2 O', e = .returned (.agg (Player.mk (some ⟨b1, 0, none⟩) (some ⟨b2, 0, none⟩)).enc.toArray) ∧ W.Extends V ∧ W.heap.size ≤ b1 ∧ (∀ k, k < W.heap.size → O' k = O k) ∧ LedA O' V b1 (newL c) := ⟨_, rfl⟩
  rw [← hQ]
  have HQ := hid_of hQ
  obtain ⟨W1, hW1⟩ : ∃ W1 : World, W1 = (W.alloc (.cells Player.zero.enc.toArray 26)).alloc (.cells Player.zero.enc.toArray 26) := ⟨_, rfl⟩
  have hx1 : W.Extends W1 := by rw [hW1]; exact extends_alloc (extends_alloc (ext_Ext (Ext.refl _)) _) _
  have k0 : blk W1 W.heap.size = some Player.zero.enc := by rw [hW1, blk_alloc, if_neg (by simp only [World.size_alloc]; omega), blk_alloc, if_pos rfl]
  have q0 : free W1 W.heap.size = true := by rw [hW1, free_alloc, if_neg (by simp only [World.size_alloc]; omega), free_alloc, if_pos rfl]
  have k1 : blk W1 (W.heap.size + 1) = some Player.zero.enc := by rw [hW1, blk_alloc, if_pos (by simp only [World.size_alloc])]
  have q1 : free W1 (W.heap.size + 1) = true := by rw [hW1, free_alloc, if_pos (by simp only [World.size_alloc])]
  have hn1 := newLedger_any (lab O W.heap.size .no) W1 c hc
  have HW1 := hid_of hW1
  have hsz : W1.heap.size = W.heap.size + 2 := by rw [hW1]; simp only [World.size_alloc]
  have HSZ := hid_of hsz
  clear hQ hW1 hsz
  go_enter Tryz.func16, Tryz.ntmps16
  go_upto_region 2 with fail
  rw [← HW1.out]
  clear HW1
  go_wp2_with fail
  refine hn1.mono ?_
  clear hn1
  rintro e V2 ⟨b1, O2, rfl, hx2, hb1, hO2, hL2⟩
  dsimp only
  have k02 : blk V2 W.heap.size = some Player.zero.enc := (hx2.blk (blk_lt k0)).trans k0
  have q02 : free V2 W.heap.size = true := (free_of_heap (hx2.block _ (blk_lt k0))).trans q0
  have k12 : blk V2 (W.heap.size + 1) = some Player.zero.enc := (hx2.blk (blk_lt k1)).trans k1
  have q12 : free V2 (W.heap.size + 1) = true := (free_of_heap (hx2.block _ (blk_lt k1))).trans q1
  have o0 : O2 W.heap.size = .no := (hO2 _ (blk_lt k0)).trans (lab_ge (Nat.le_refl _))
  have o1 : O2 (W.heap.size + 1) = .no := (hO2 _ (blk_lt k1)).trans (lab_ge (by omega))
  obtain ⟨P1, hP1⟩ : ∃ P1 : Player, P1 = { Player.zero with hand := some ⟨b1, 0, none⟩ } := ⟨_, rfl⟩
  have hs1 : splice Player.zero.enc 0 [.pointer (some ⟨b1, 0, none⟩)] = P1.enc := by rw [hP1]; exact Player.hand_set _ _
  obtain ⟨V3, hV3⟩ : ∃ V3 : World, V3 = put V2 (W.heap.size + 1) P1.enc := ⟨_, rfl⟩
  have hx3 : W.Extends V3 := by rw [hV3]; exact extends_put (hx1.trans hx2) (by omega) _
  have hpk : Lg (fun l => l = Lab.no) O2 V2 O2 V3 := by rw [hV3]; exact Lg.put (P := fun l => l = Lab.no) (Lg.refl _ _ _) o1 _
  have hL3 := hL2.lg8 hpk (fun j _ _ e => by cases e)
  have k03 : blk V3 W.heap.size = some Player.zero.enc := by rw [hV3, blk_put, if_neg (by omega)]; exact k02
  have q03 : free V3 W.heap.size = true := by rw [hV3, free_put]; exact q02
  have k13 : blk V3 (W.heap.size + 1) = some P1.enc := by rw [hV3, blk_put, if_pos rfl, k12]; rfl
  have q13 : free V3 (W.heap.size + 1) = true := by rw [hV3, free_put]; exact q12
  have hn2 := newLedger_any O2 V3 c hc
  have HV3 := hid_of hV3
  have HA : Hid (W.heap.size ≤ b1 ∧ ∀ k, k < W.heap.size → O2 k = O k) := ⟨by have := HSZ.out; omega, fun k hk => (hO2 k (by have := HSZ.out; omega)).trans (lab_lt hk)⟩
  have HP1 := hid_of hP1
  clear k0 q0 k1 q1 hx2 hO2 hL2 hV3 hpk hb1 hP1 hc hx1
  go_upto_region 3 with fail
  try rw [hs1]
  rw [← HV3.out]
  clear HV3 k02 q02 k12 q12
  go_wp2_with fail
  refine hn2.mono ?_
  clear hn2
  rintro e V4 ⟨b2, O4, rfl, hx4, hb2, hO4, -⟩
  dsimp only
  have k04 : blk V4 W.heap.size = some Player.zero.enc := (hx4.blk (blk_lt k03)).trans k03
  have q04 : free V4 W.heap.size = true := (free_of_heap (hx4.block _ (blk_lt k03))).trans q03
  have k14 : blk V4 (W.heap.size + 1) = some P1.enc := (hx4.blk (blk_lt k13)).trans k13
  have q14 : free V4 (W.heap.size + 1) = true := (free_of_heap (hx4.block _ (blk_lt k13))).trans q13
  have hL4 := hL3.grow hx4 hO4
  obtain ⟨P2, hP2⟩ : ∃ P2 : Player, P2 = { P1 with aside := some ⟨b2, 0, none⟩ } := ⟨_, rfl⟩
  have hs2 : splice P1.enc 1 [.pointer (some ⟨b2, 0, none⟩)] = P2.enc := by rw [hP2]; exact Player.aside_set _ _
  have oo0 : O4 W.heap.size = .no := (hO4 _ (blk_lt k03)).trans o0
  have oo1 : O4 (W.heap.size + 1) = .no := (hO4 _ (blk_lt k13)).trans o1
  have HP : Hid (Q (.returned (.agg P2.enc.toArray)) (put (put V4 (W.heap.size + 1) P2.enc) W.heap.size P2.enc)) := by
    show Q _ _
    rw [HQ.out]
    have h5 : Lg (fun l => l = Lab.no) O4 V4 O4 (put V4 (W.heap.size + 1) P2.enc) := Lg.put (P := fun l => l = Lab.no) (Lg.refl _ _ _) oo1 _
    have h6 : Lg (fun l => l = Lab.no) O4 V4 O4 (put (put V4 (W.heap.size + 1) P2.enc) W.heap.size P2.enc) := Lg.put (P := fun l => l = Lab.no) h5 oo0 _
    refine ⟨b1, b2, O4, by rw [hP2, HP1.out], extends_put (extends_put (hx3.trans hx4) (by omega) _) (Nat.le_refl _) _, HA.out.1, fun k hk => (hO4 k (Nat.lt_of_lt_of_le hk hx3.size)).trans (HA.out.2 k hk), hL4.lg8 h6 (fun j _ _ e => by cases e)⟩
  have hnr : ¬ W.heap.size = W.heap.size + 1 := by omega
  clear hL4 hx4 hO4 hL3 HQ HA hP2 HP1 k03 q03 k13 q13
  go_wp2_with fail
  try rw [hs2]
  refine ret_cell (C := P2.enc) rfl rfl (by rw [blk_put, if_pos rfl, blk_put, if_neg hnr, k04]; rfl) (by kernel_rfl) (by rw [Player.length_enc]; kernel_rfl) rfl ?_
  exact HP.out
end Go.Proofs.Qxb6500786aGreat
