import Derived.DeepKeys2
import Derived.OwnWalk
import Derived.Test.Qxb6500786aGreatMm
import Derived.Test.Qxb6500786aGreatMb

import Derived.StillTailTactics
import Derived.Deep.QuietTactic
import Derived.BigQuiet
import Derived.Deep.RegionHeld
import Derived.Deep.CutRange
import Derived.Laws.ResultCell
import Derived.Laws.Rows
import Derived.DeepKeys
import Derived.DataBytes
import Derived.Laws.StructEq
import Derived.Laws.AppendOwn
import Derived.Laws.MakeOwn
import Derived.Lib.AppendStr
set_option linter.unusedSimpArgs false
set_option linter.unusedVariables false
namespace Go.Proofs.Qxb6500786aGreat
open Go.RowKit Go.Blk
attribute [local go_sem ↓] execOp_load execOp_store execOp_alloc
attribute [local go_sem] Tryz.ld24 Tryz.st24 Tryz.ld36 Tryz.st36 Tryz.ld28 Tryz.st28 Tryz.ld32 Tryz.st32 Tryz.ld33 Tryz.st33 Tryz.ld34 Tryz.st34 Tryz.ld5 Tryz.st5 Tryz.ld31 Tryz.st31 Tryz.ld30 Tryz.st30 Tryz.ld41 Tryz.st41 Tryz.ld44 Tryz.st44 Tryz.ld4 Tryz.st4 Tryz.ld173 Tryz.st173 Tryz.ld174 Tryz.st174 Tryz.ld95 Tryz.st95 Tryz.ld45 Tryz.st45 Tryz.ld207 Tryz.st207 Tryz.ld3 Tryz.st3 Tryz.ld189 Tryz.st189 Tryz.ld2 Tryz.st2 Tryz.ld9 Tryz.st9 Tryz.ld12 Tryz.st12 Tryz.ld21 Tryz.st21 Tryz.ld22 Tryz.st22 Tryz.ld46 Tryz.st46 Tryz.ld92 Tryz.st92 Tryz.ld94 Tryz.st94 Tryz.ld96 Tryz.st96 Tryz.ld97 Tryz.st97 Tryz.ld105 Tryz.st105 Tryz.ld117 Tryz.st117 Tryz.ld122 Tryz.st122 Tryz.ld123 Tryz.st123 Tryz.ld133 Tryz.st133 Tryz.ld155 Tryz.st155 Tryz.ld163 Tryz.st163 Tryz.ld190 Tryz.st190 Tryz.ld197 Tryz.st197 Tryz.ld201 Tryz.st201 Tryz.ld202 Tryz.st202 Tryz.ld209 Tryz.st209 Tryz.ld216 Tryz.st216 Tryz.ld230 Tryz.st230 Tryz.ld238 Tryz.st238 Tryz.ld242 Tryz.st242 Tryz.ld251 Tryz.st251 Tryz.ld260 Tryz.st260 Tryz.ld286 Tryz.st286 Tryz.ld292 Tryz.st292 Tryz.ld298 Tryz.st298 Tryz.ld309 Tryz.st309 Tryz.ld35 Tryz.st35 Tryz.ld48 Tryz.st48 Tryz.ld47 Tryz.st47 Tryz.ld79 Tryz.st79 Tryz.ld177 Tryz.st177 Tryz.ld180 Tryz.st180 Tryz.ld231 Tryz.st231 Tryz.ld232 Tryz.st232 Tryz.ld26 Tryz.st26 Tryz.ld38 Tryz.st38 Tryz.ld40 Tryz.st40 Tryz.ld43 Tryz.st43 Tryz.ld50 Tryz.st50 Tryz.ld52 Tryz.st52 Tryz.ld54 Tryz.st54 Tryz.ld81 Tryz.st81 Tryz.ld112 Tryz.st112 Tryz.ld120 Tryz.st120 Tryz.ld176 Tryz.st176 Tryz.ld179 Tryz.st179 Tryz.ld182 Tryz.st182 Tryz.ld184 Tryz.st184 Tryz.ld234 Tryz.st234 Tryz.ld236 Tryz.st236 Tryz.ld240 Tryz.st240 Tryz.ld246 Tryz.st246 Tryz.ld249 Tryz.st249 Tryz.al35 Tryz.al48 Tryz.al47 Tryz.al79 Tryz.al177 Tryz.al180 Tryz.al231 Tryz.al232 Tryz.al26 Tryz.al38 Tryz.al40 Tryz.al43 Tryz.al50 Tryz.al52 Tryz.al54 Tryz.al81 Tryz.al112 Tryz.al120 Tryz.al176 Tryz.al179 Tryz.al182 Tryz.al184 Tryz.al234 Tryz.al236 Tryz.al240 Tryz.al246 Tryz.al249
attribute [local go_sem] Player.length_enc Player.ok_enc Player.all_get Player.all_set Player.hand_get Player.hand_set Player.aside_get Player.aside_set Message.length_enc Message.ok_enc Message.all_get Message.all_set Message.kind_get Message.kind_set Message.from__get Message.from__set Message.to__get Message.to__set Message.sender_get Message.sender_set Message.receiver_get Message.receiver_set Message.seq_get Message.seq_set Message.token_get Message.token_set Message.amount_get Message.amount_set Message.size_get Message.size_set Message.payload_get Message.payload_set Tx.length_enc Tx.ok_enc Tx.all_get Tx.all_set Tx.kind_get Tx.kind_set Tx.chain_get Tx.chain_set Tx.from__get Tx.from__set Tx.nonce_get Tx.nonce_set Tx.fee_get Tx.fee_set Tx.to__get Tx.to__set Tx.dest_get Tx.dest_set Tx.token_get Tx.token_set Tx.amount_get Tx.amount_set Tx.size_get Tx.size_set Tx.payload_get Tx.payload_set Tx.msg_get Tx.msg_set Tx.msg_kind_get Tx.msg_kind_set Tx.msg_from__get Tx.msg_from__set Tx.msg_to__get Tx.msg_to__set Tx.msg_sender_get Tx.msg_sender_set Tx.msg_receiver_get Tx.msg_receiver_set Tx.msg_seq_get Tx.msg_seq_set Tx.msg_token_get Tx.msg_token_set Tx.msg_amount_get Tx.msg_amount_set Tx.msg_size_get Tx.msg_size_set Tx.msg_payload_get Tx.msg_payload_set GOp.length_enc GOp.ok_enc GOp.all_get GOp.all_set GOp.kind_get GOp.kind_set GOp.tx_get GOp.tx_set GOp.txs_get GOp.txs_set GOp.gas_get GOp.gas_set GOp.acct_get GOp.acct_set GOp.token_get GOp.token_set GOp.chain_get GOp.chain_set GOp.seq_get GOp.seq_set GOp.tx_kind_get GOp.tx_kind_set GOp.tx_chain_get GOp.tx_chain_set GOp.tx_from__get GOp.tx_from__set GOp.tx_nonce_get GOp.tx_nonce_set GOp.tx_fee_get GOp.tx_fee_set GOp.tx_to__get GOp.tx_to__set GOp.tx_dest_get GOp.tx_dest_set GOp.tx_token_get GOp.tx_token_set GOp.tx_amount_get GOp.tx_amount_set GOp.tx_size_get GOp.tx_size_set GOp.tx_payload_get GOp.tx_payload_set GOp.tx_msg_get GOp.tx_msg_set GOp.tx_msg_kind_get GOp.tx_msg_kind_set GOp.tx_msg_from__get GOp.tx_msg_from__set GOp.tx_msg_to__get GOp.tx_msg_to__set GOp.tx_msg_sender_get GOp.tx_msg_sender_set GOp.tx_msg_receiver_get GOp.tx_msg_receiver_set GOp.tx_msg_seq_get GOp.tx_msg_seq_set GOp.tx_msg_token_get GOp.tx_msg_token_set GOp.tx_msg_amount_get GOp.tx_msg_amount_set GOp.tx_msg_size_get GOp.tx_msg_size_set GOp.tx_msg_payload_get GOp.tx_msg_payload_set Summary.length_enc Summary.ok_enc Summary.all_get Summary.all_set Summary.height_get Summary.height_set Summary.txs_get Summary.txs_set Summary.gas_get Summary.gas_set Summary.fees_get Summary.fees_set Summary.sent_get Summary.sent_set Summary.took_get Summary.took_set Summary.minted_get Summary.minted_set Summary.burned_get Summary.burned_set Summary.root_get Summary.root_set Detail.length_enc Detail.ok_enc Detail.all_get Detail.all_set Detail.code_get Detail.code_set Detail.have__get Detail.have__set Detail.need_get Detail.need_set Slot.length_enc Slot.ok_enc Slot.all_get Slot.all_set Slot.nonce_get Slot.nonce_set Slot.balances_get Slot.balances_set Tree.length_enc Tree.ok_enc Tree.all_get Tree.all_set Tree.leaves_get Tree.leaves_set Mark.length_enc Mark.ok_enc Mark.all_get Mark.all_set Mark.from__get Mark.from__set Mark.seq_get Mark.seq_set Receipt.length_enc Receipt.ok_enc Receipt.all_get Receipt.all_set Receipt.code_get Receipt.code_set Receipt.hash_get Receipt.hash_set Receipt.index_get Receipt.index_set Receipt.gas_get Receipt.gas_set Receipt.fee_get Receipt.fee_set Receipt.hasSent_get Receipt.hasSent_set Receipt.sent_get Receipt.sent_set Receipt.hasTook_get Receipt.hasTook_set Receipt.took_get Receipt.took_set Receipt.sent_kind_get Receipt.sent_kind_set Receipt.sent_from__get Receipt.sent_from__set Receipt.sent_to__get Receipt.sent_to__set Receipt.sent_sender_get Receipt.sent_sender_set Receipt.sent_receiver_get Receipt.sent_receiver_set Receipt.sent_seq_get Receipt.sent_seq_set Receipt.sent_token_get Receipt.sent_token_set Receipt.sent_amount_get Receipt.sent_amount_set Receipt.sent_size_get Receipt.sent_size_set Receipt.sent_payload_get Receipt.sent_payload_set Receipt.took_kind_get Receipt.took_kind_set Receipt.took_from__get Receipt.took_from__set Receipt.took_to__get Receipt.took_to__set Receipt.took_sender_get Receipt.took_sender_set Receipt.took_receiver_get Receipt.took_receiver_set Receipt.took_seq_get Receipt.took_seq_set Receipt.took_token_get Receipt.took_token_set Receipt.took_amount_get Receipt.took_amount_set Receipt.took_size_get Receipt.took_size_set Receipt.took_payload_get Receipt.took_payload_set Store.length_enc Store.ok_enc Store.all_get Store.all_set Store.now_get Store.now_set Store.saved_get Store.saved_set GState.length_enc GState.ok_enc GState.all_get GState.all_set GState.kv_get GState.kv_set GState.tree_get GState.tree_set GState.stale_get GState.stale_set GState.touched_get GState.touched_set GState.kv_now_get GState.kv_now_set GState.kv_saved_get GState.kv_saved_set GState.tree_leaves_get GState.tree_leaves_set History.length_enc History.ok_enc History.all_get History.all_set History.ring_get History.ring_set History.closed_get History.closed_set Ledger.length_enc Ledger.ok_enc Ledger.all_get Ledger.all_set Ledger.chain_get Ledger.chain_set Ledger.st_get Ledger.st_set Ledger.height_get Ledger.height_set Ledger.open__get Ledger.open__set Ledger.gasLimit_get Ledger.gasLimit_set Ledger.past_get Ledger.past_set Ledger.begun_get Ledger.begun_set Ledger.sent_get Ledger.sent_set Ledger.took_get Ledger.took_set Ledger.receipts_get Ledger.receipts_set Ledger.st_kv_get Ledger.st_kv_set Ledger.st_tree_get Ledger.st_tree_set Ledger.st_stale_get Ledger.st_stale_set Ledger.st_touched_get Ledger.st_touched_set Ledger.st_kv_now_get Ledger.st_kv_now_set Ledger.st_kv_saved_get Ledger.st_kv_saved_set Ledger.st_tree_leaves_get Ledger.st_tree_leaves_set Ledger.past_ring_get Ledger.past_ring_set Ledger.past_closed_get Ledger.past_closed_set Ledger.begun_kv_get Ledger.begun_kv_set Ledger.begun_tree_get Ledger.begun_tree_set Ledger.begun_stale_get Ledger.begun_stale_set Ledger.begun_touched_get Ledger.begun_touched_set Ledger.begun_kv_now_get Ledger.begun_kv_now_set Ledger.begun_kv_saved_get Ledger.begun_kv_saved_set Ledger.begun_tree_leaves_get Ledger.begun_tree_leaves_set Purse.length_enc Purse.ok_enc Purse.all_get Purse.all_set Purse.st_get Purse.st_set Purse.n_get Purse.n_set Purse.account_get Purse.account_set Purse.token_get Purse.token_set Purse.amount_get Purse.amount_set Plan.length_enc Plan.ok_enc Plan.all_get Plan.all_set Plan.purse_get Plan.purse_set Plan.nonce_get Plan.nonce_set Plan.gasUsed_get Plan.gasUsed_set Plan.fees_get Plan.fees_set Plan.hasSupply_get Plan.hasSupply_set Plan.token_get Plan.token_set Plan.supply_get Plan.supply_set Plan.flowAt_get Plan.flowAt_set Plan.flow_get Plan.flow_set Plan.receipt_get Plan.receipt_set Plan.purse_st_get Plan.purse_st_set Plan.purse_n_get Plan.purse_n_set Plan.purse_account_get Plan.purse_account_set Plan.purse_token_get Plan.purse_token_set Plan.purse_amount_get Plan.purse_amount_set Plan.receipt_code_get Plan.receipt_code_set Plan.receipt_hash_get Plan.receipt_hash_set Plan.receipt_index_get Plan.receipt_index_set Plan.receipt_gas_get Plan.receipt_gas_set Plan.receipt_fee_get Plan.receipt_fee_set Plan.receipt_hasSent_get Plan.receipt_hasSent_set Plan.receipt_sent_get Plan.receipt_sent_set Plan.receipt_hasTook_get Plan.receipt_hasTook_set Plan.receipt_took_get Plan.receipt_took_set Plan.receipt_sent_kind_get Plan.receipt_sent_kind_set Plan.receipt_sent_from__get Plan.receipt_sent_from__set Plan.receipt_sent_to__get Plan.receipt_sent_to__set Plan.receipt_sent_sender_get Plan.receipt_sent_sender_set Plan.receipt_sent_receiver_get Plan.receipt_sent_receiver_set Plan.receipt_sent_seq_get Plan.receipt_sent_seq_set Plan.receipt_sent_token_get Plan.receipt_sent_token_set Plan.receipt_sent_amount_get Plan.receipt_sent_amount_set Plan.receipt_sent_size_get Plan.receipt_sent_size_set Plan.receipt_sent_payload_get Plan.receipt_sent_payload_set Plan.receipt_took_kind_get Plan.receipt_took_kind_set Plan.receipt_took_from__get Plan.receipt_took_from__set Plan.receipt_took_to__get Plan.receipt_took_to__set Plan.receipt_took_sender_get Plan.receipt_took_sender_set Plan.receipt_took_receiver_get Plan.receipt_took_receiver_set Plan.receipt_took_seq_get Plan.receipt_took_seq_set Plan.receipt_took_token_get Plan.receipt_took_token_set Plan.receipt_took_amount_get Plan.receipt_took_amount_set Plan.receipt_took_size_get Plan.receipt_took_size_set Plan.receipt_took_payload_get Plan.receipt_took_payload_set Move.length_enc Move.ok_enc Move.all_get Move.all_set Move.account_get Move.account_set Move.token_get Move.token_set Move.down_get Move.down_set Move.amount_get Move.amount_set Books.length_enc Books.ok_enc Books.all_get Books.all_set Books.sums_get Books.sums_set Books.stored_get Books.stored_set Books.marks_get Books.marks_set Pair.length_enc Pair.ok_enc Pair.all_get Pair.all_set Pair.key_get Pair.key_set Pair.value_get Pair.value_set
attribute [local go_sem] size_put size_ext blk_put free_put blk_alloc free_alloc blk_drew free_drew blk_ext free_ext lookOr_some putOr_some segAt_some cellAt_some storeIn_some put_put put_alloc_new length_arr ok_arr_u8 ok_arr_u32 ok_arr_u64 ok_arr_i64 ok_arr_sl cellsV_agg cellsV_int cellsV_bool cellsV_string cellsV_pointer cellsV_slice cellsV_sl ok_int ok_bool ok_string ok_pointer ok_slice ok_sl toList_arr seg_arr set_arr nth_splice nth_splice0 seg_splice seg_splice0 splice_splice splice_splice0 length_splice_if
attribute [local go_sem ↓] execOp_box
attribute [local go_sem] box_run nth_arr_u8 put_arr_u8 blk_drewN free_drewN put_drewN blk_raw free_raw
attribute [local go_sem] Tryz.ld56 Tryz.st56 Tryz.ld91 Tryz.st91 Tryz.al56 Tryz.al91 Answer.length_enc Answer.ok_enc Answer.all_get Answer.all_set Answer.code_get Answer.code_set Answer.receipts_get Answer.receipts_set Answer.moves_get Answer.moves_set Answer.failed_get Answer.failed_set Answer.value_get Answer.value_set Answer.yes_get Answer.yes_set Answer.root_get Answer.root_set Answer.summary_get Answer.summary_set Answer.detail_get Answer.detail_set Answer.slot_get Answer.slot_set Answer.summary_height_get Answer.summary_height_set Answer.summary_txs_get Answer.summary_txs_set Answer.summary_gas_get Answer.summary_gas_set Answer.summary_fees_get Answer.summary_fees_set Answer.summary_sent_get Answer.summary_sent_set Answer.summary_took_get Answer.summary_took_set Answer.summary_minted_get Answer.summary_minted_set Answer.summary_burned_get Answer.summary_burned_set Answer.summary_root_get Answer.summary_root_set Answer.detail_code_get Answer.detail_code_set Answer.detail_have__get Answer.detail_have__set Answer.detail_need_get Answer.detail_need_set Answer.slot_nonce_get Answer.slot_nonce_set Answer.slot_balances_get Answer.slot_balances_set Block.length_enc Block.ok_enc Block.all_get Block.all_set Block.gasLimit_get Block.gasLimit_set Block.txs_get Block.txs_set
theorem LbI.keep {O : Own} {V W : World} {bl b : Nat} {L : PLg} {bs : List (Nat × List Value)} {C : List Value} (h : LbI O W bl bs L V) (hb : blk W b = some C) (ho : ¬ lgP bl (O b)) : blk V b = some C := by
  obtain ⟨O', h1, h2, h3⟩ := h
  exact h2.blk hb ho
theorem LbI.root {O : Own} {V W : World} {bl : Nat} {L : PLg} {bs : List (Nat × List Value)} (h : LbI O W bl bs L V) : Calls Tryz.prog 41 #[.pointer (some ⟨bl, 0, none⟩)] V (fun e V' => e = .returned (.agg (arr u8v (rootD L.st)).toArray) ∧ LbI O W bl bs (rotL L) V') := h.call (fun O' hO => root41_any O' V bl L hO)
attribute [local go_sem ↓] execOp_build
set_option maxRecDepth 20000 in
set_option maxHeartbeats 1000000 in
theorem replay_any (O : Own) (W : World) (bl : Nat) (L : PLg) (B : List (UInt64 × Sl × List Tx)) (bb c : Nat) (hL : LedA O W bl L) (hB : blk W bb = some (B.flatMap (fun x => (bkE x).enc))) (hbo : ¬ lgP bl (O bb)) (hT : ∀ x ∈ B, TxsL (lgP bl) O W x.2.1 x.2.2) (hR : RepOk L B) (hn : B.length ≤ 1000) : Calls Tryz.prog 43 #[.pointer (some ⟨bl, 0, none⟩), .slice (some ⟨bb, 0, none⟩) B.length c] W (LxPost O W bl (.tuple #[.int .i64 ((repF L B 0).1.1 : Nat), .agg (arr u8v (repF L B 0).1.2.1).toArray, .int .i64 (repF L B 0).1.2.2]) (repF L B 0).2) := by
  obtain ⟨tot, htot⟩ : ∃ tot, tot = repF L B 0 := ⟨_, rfl⟩
  rw [← htot]
  obtain ⟨Q, hQ⟩ : ∃ Q : Ending → World → Prop, Q = LxPost O W bl (.tuple #[.int .i64 (tot.1.1 : Nat), .agg (arr u8v tot.1.2.1).toArray, .int .i64 tot.1.2.2]) tot.2 := ⟨_, rfl⟩
  rw [← hQ]
  have HQ := hid_of hQ
  have HT := hid_of hT
  have HN := hid_of hn
  obtain ⟨BC, hBC⟩ : ∃ BC, BC = B.flatMap (fun x => (bkE x).enc) := ⟨_, rfl⟩
  rw [← hBC] at hB
  have HBC := hid_of hBC
  have HKB : Hid (∀ V bs L', LbI O W bl bs L' V → blk V bb = some BC) := fun V bs L' h => h.keep hB hbo
  have hB0 := (LbI.start hL).box (arr u8v (Vector.replicate 32 0)) 47 (Nat.le_refl _)
  obtain ⟨br, hbr⟩ : ∃ br, br = W.heap.size := ⟨_, rfl⟩
  obtain ⟨W1, hW1⟩ : ∃ W1 : World, W1 = W.alloc (.cells (arr u8v (Vector.replicate 32 0)).toArray 47) := ⟨_, rfl⟩
  rw [← hW1, ← hbr] at hB0
  have HI0 : Hid (∃ L', LbI O W bl [(br, arr u8v (Vector.replicate 32 0))] L' W1 ∧ tot = repF L' (B.drop 0) 0 ∧ RepOk L' (B.drop 0)) := ⟨L, hB0, htot, hR⟩
  have HW1 := hid_of hW1
  have HBR := hid_of hbr
  clear hL hB hbo hT hR hn hQ hBC hB0 hW1 hbr htot
  go_enter Tryz.func43, Tryz.ntmps43
  go_upto_region 1 with fail
  rw [← HW1.out, ← HBR.out]
  clear HW1 HBR
  go_wp2_with fail
  refine wp_loop_f 45 (rpI O W bl br B bb c tot) (fun f _ => B.length - (intOf (f 7)).toNat) rfl ⟨rfl, rfl, rfl, 0, Nat.zero_le _, rfl, HI0⟩ ?_
  clear HI0
  intro F V hrel
  obtain ⟨f0, f1, f5, i, hi, f7, HI⟩ := hrel
  have H7 := hid_of f7
  rw [frame45r, f0, f1, f5, f7]
  clear f0 f1 f5 f7
  obtain ⟨L', h0, ht, hR⟩ := HI.out
  clear HI
  obtain ⟨nb, hnb⟩ : ∃ nb, nb = B.length := ⟨_, rfl⟩
  have HNB := hid_of hnb
  rw [← hnb]
  by_cases hin : i < nb
  rotate_left 1
  · have hie : i = nb := by omega
    rw [List.drop_of_length_le (by omega)] at ht
    have hq := h0.root
    have hin' : ¬ (i : Int) < (nb : Int) := by omega
    have HTT := hid_of ht
    have HIE := hid_of hie
    clear h0 hR ht hin hi hie hnb
    go_wp2_with fail
    refine hq.mono ?_
    clear hq
    rintro e V2 ⟨rfl, h2⟩
    dsimp only
    have kr := (h2.at (List.mem_cons_self ..)).1
    have kf := (h2.at (List.mem_cons_self ..)).2
    have HP : Hid (Q (.returned (.tuple #[.int .i64 (nb : Nat), .agg (arr u8v (rootD L'.st)).toArray, .int .i64 0])) (put V2 br (arr u8v (rootD L'.st)))) := by
      show Q _ _
      rw [HQ.out, HTT.out]
      unfold repF
      dsimp only
      rw [HIE.out]
      exact (h2.put (C' := arr u8v (rootD L'.st)) (fun p hp => by cases hp)).post
    clear h2 HQ HTT HIE HT
    generalize rootD L'.st = D at HP ⊢
    go_wp2_with fail
    refine ret_tct (C := arr u8v D) rfl rfl rfl rfl (by rw [blk_put, if_pos rfl, kr]; rfl) (by kernel_rfl) (by rw [length_arr]; kernel_rfl) rfl ?_
    exact HP.out
  have hin' : (i : Int) < (nb : Int) := by omega
  obtain ⟨x, hx⟩ : ∃ x, B[i]? = some x := ⟨_, List.getElem?_eq_getElem (by rw [← hnb]; exact hin)⟩
  have hsg : seg BC (i * 2) 2 = (bkE x).enc := by rw [HBC.out]; exact seg_flatG (fun x => (bkE x).enc) 2 (fun x => Block.length_enc _) B i x hx
  have hlen : i * 2 + 2 ≤ BC.length := by
    rw [HBC.out, flat_len (fun x => Block.length_enc (bkE x)), ← hnb]
    omega
  obtain ⟨hex, hro⟩ := RepOk.drop hx hR
  have hdr := repF_drop (L := L') hx
  have HTX := hid_of (HT.out x (List.mem_of_getElem? hx))
  obtain ⟨g, ⟨sa, sl, sc⟩, X⟩ := x
  dsimp only at hex hro hdr HTX
  have n0 : nth BC (i * 2) = some (.int .u64 (w64 g)) := nth_in (j := 0) hsg (Block.gasLimit_get _) (by omega)
  have n1 : nth BC (i * 2 + 1) = some (.slice sa sl sc) := nth_in (j := 1) hsg (Block.txs_get _) (by omega)
  have p0 : (0 : Int) ≤ (i : Int) := by omega
  have p2 : ((i : Int)).toNat = i := by omega
  have HEX := hid_of hex
  have HRO := hid_of hro
  have HDR := hid_of (ht.trans hdr)
  have HIN := hid_of hin
  have h1 := h0.drew
  have kb := HKB.out _ _ _ h1
  clear hex hro ht hdr hin hi hx hR hsg hnb
  go_upto_region 4 with fail
  obtain ⟨I4, hI4⟩ : ∃ I : (Nat → Value) → World → Prop, I = (fun f V' => f 0 = .pointer (some ⟨bl, 0, none⟩) ∧ f 1 = .slice (some ⟨bb, 0, none⟩) nb c ∧ f 5 = .pointer (some ⟨br, 0, none⟩) ∧ f 7 = .int .i64 (i : Nat) ∧ f 11 = .int .i64 (exeF L' g X).1.code ∧ LbI O W bl [(br, arr u8v (Vector.replicate 32 0))] (exeF L' g X).2 V') := ⟨_, rfl⟩
  have HI4 := hid_of hI4
  clear hI4 h0
  refine wp_cut_f 45 I4 ?_ ?_
  · repeat go_step
    refine wp_region_F 21 (fun W' => blk W' bb = some BC) (by kernel_rfl) kb (fun hHeld => ?_)
    refine wpAnyF_take (i := 0) (oi := ⟨_, _, _, _, _, _⟩) (v := ?_) rfl (by kernel_rfl) (by kernel_rfl) (by kernel_rfl) (by kernel_rfl) (by kernel_rfl) (fun _ _ _ h => h) (Or.inl ⟨by rfl, ?_⟩) (by assumption) ?_
    rotate_left 1
    · intro W' hSw
      go_simp
      try with_reducible rfl
    try simp only [Act.put, List.setIfInBounds_toArray, List.set_cons_zero, List.set_cons_succ]
    refine wpAnyF_take (i := 1) (oi := ⟨_, _, _, _, _, _⟩) (v := ?_) rfl (by kernel_rfl) (by kernel_rfl) (by kernel_rfl) (by kernel_rfl) (by kernel_rfl) (fun _ _ _ h => h) (Or.inl ⟨by rfl, ?_⟩) (by assumption) ?_
    rotate_left 1
    · intro W' hSw
      go_simp
      try with_reducible rfl
    try simp only [Act.put, List.setIfInBounds_toArray, List.set_cons_zero, List.set_cons_succ]
    refine wpAnyF_take (i := 2) (oi := ⟨_, _, _, _, _, _⟩) (v := ?_) rfl (by kernel_rfl) (by kernel_rfl) (by kernel_rfl) (by kernel_rfl) (by kernel_rfl) (fun _ _ _ h => h) (Or.inl ⟨by rfl, ?_⟩) (by assumption) ?_
    rotate_left 1
    · intro W' hSw
      go_simp
      try with_reducible rfl
    try simp only [Act.put, List.setIfInBounds_toArray, List.set_cons_zero, List.set_cons_succ]
    refine wpAnyF_take (i := 3) (oi := ⟨_, _, _, _, _, _⟩) (v := ?_) rfl (by kernel_rfl) (by kernel_rfl) (by kernel_rfl) (by kernel_rfl) (by kernel_rfl) (fun _ _ _ h => h) (Or.inl ⟨by rfl, ?_⟩) (by assumption) ?_
    rotate_left 1
    · intro W' hSw
      go_simp
      try with_reducible rfl
    try simp only [Act.put, List.setIfInBounds_toArray, List.set_cons_zero, List.set_cons_succ]
    refine wpAnyF_take (i := 4) (oi := ⟨_, _, _, _, _, _⟩) (v := ?_) rfl (by kernel_rfl) (by kernel_rfl) (by kernel_rfl) (by kernel_rfl) (by kernel_rfl) (fun _ _ _ h => h) (Or.inl ⟨by rfl, ?_⟩) (by assumption) ?_
    rotate_left 1
    · intro W' hSw
      go_simp
      try with_reducible rfl
    try simp only [Act.put, List.setIfInBounds_toArray, List.set_cons_zero, List.set_cons_succ]
    refine wpAnyF_take (i := 5) (oi := ⟨_, _, _, _, _, _⟩) (v := ?_) rfl (by kernel_rfl) (by kernel_rfl) (by kernel_rfl) (by kernel_rfl) (by kernel_rfl) (fun _ _ _ h => h) (Or.inl ⟨by rfl, ?_⟩) (by assumption) ?_
    rotate_left 1
    · intro W' hSw
      go_simp
      try with_reducible rfl
    try simp only [Act.put, List.setIfInBounds_toArray, List.set_cons_zero, List.set_cons_succ]
    refine wpAnyF_take (i := 6) (oi := ⟨_, _, _, _, _, _⟩) (v := ?_) rfl (by kernel_rfl) (by kernel_rfl) (by kernel_rfl) (by kernel_rfl) (by kernel_rfl) (fun _ _ _ h => h) (Or.inl ⟨by rfl, ?_⟩) (by assumption) ?_
    rotate_left 1
    · intro W' hSw
      go_simp
      try with_reducible rfl
    try simp only [Act.put, List.setIfInBounds_toArray, List.set_cons_zero, List.set_cons_succ]
    refine wpAnyF_take (i := 7) (oi := ⟨_, _, _, _, _, _⟩) (v := ?_) rfl (by kernel_rfl) (by kernel_rfl) (by kernel_rfl) (by kernel_rfl) (by kernel_rfl) (fun _ _ _ h => h) (Or.inl ⟨by rfl, ?_⟩) (by assumption) ?_
    rotate_left 1
    · intro W' hSw
      go_simp
      try with_reducible rfl
    try simp only [Act.put, List.setIfInBounds_toArray, List.set_cons_zero, List.set_cons_succ]
    refine wpAnyF_take (i := 8) (oi := ⟨_, _, _, _, _, _⟩) (v := ?_) rfl (by kernel_rfl) (by kernel_rfl) (by kernel_rfl) (by kernel_rfl) (by kernel_rfl) (fun _ _ _ h => h) (Or.inl ⟨by rfl, ?_⟩) (by assumption) ?_
    rotate_left 1
    · intro W' hSw
      go_simp
      try with_reducible rfl
    try simp only [Act.put, List.setIfInBounds_toArray, List.set_cons_zero, List.set_cons_succ]
    refine wpAnyF_take (i := 9) (oi := ⟨_, _, _, _, _, _⟩) (v := ?_) rfl (by kernel_rfl) (by kernel_rfl) (by kernel_rfl) (by kernel_rfl) (by kernel_rfl) (fun _ _ _ h => h) (Or.inl ⟨by rfl, ?_⟩) (by assumption) ?_
    rotate_left 1
    · intro W' hSw
      go_simp
      try with_reducible rfl
    try simp only [Act.put, List.setIfInBounds_toArray, List.set_cons_zero, List.set_cons_succ]
    refine wpAnyF_take (i := 10) (oi := ⟨_, _, _, _, _, _⟩) (v := ?_) rfl (by kernel_rfl) (by kernel_rfl) (by kernel_rfl) (by kernel_rfl) (by kernel_rfl) (fun _ _ _ h => h) (Or.inl ⟨by rfl, ?_⟩) (by assumption) ?_
    rotate_left 1
    · intro W' hSw
      go_simp
      try with_reducible rfl
    try simp only [Act.put, List.setIfInBounds_toArray, List.set_cons_zero, List.set_cons_succ]
    refine wpAnyF_two (oi := ⟨_, _, _, _, _, _⟩) (oj := ⟨_, _, _, _, _, _⟩) (i := 11) (j := 17) (by kernel_rfl) rfl rfl rfl rfl (fun K' hK => ?_) (fun K' hK => ?_)
    · go_simp
      refine (h1.exe g ⟨sa, sl, sc⟩ X HEX.out HTX.out).mono ?_
      rintro e V2 ⟨a2, n2, c2, rfl, h2⟩
      dsimp only
      have kb2 := HKB.out _ _ _ h2
      clear h1
      refine hK.out _ _ kb2 (fun hHeld => ?_)
      clear hK K'
      try simp only [Act.put, List.setIfInBounds_toArray, List.set_cons_zero, List.set_cons_succ]
      refine wpAnyF_take (i := 12) (oi := ⟨_, _, _, _, _, _⟩) (v := ?_) rfl (by kernel_rfl) (by kernel_rfl) (by kernel_rfl) (by kernel_rfl) (by kernel_rfl) (fun _ _ _ h => h) (Or.inl ⟨by rfl, ?_⟩) (by assumption) ?_
      rotate_left 1
      · intro W' hSw
        go_simp
        try with_reducible rfl
      try simp only [Act.put, List.setIfInBounds_toArray, List.set_cons_zero, List.set_cons_succ]
      refine wpAnyF_take (i := 13) (oi := ⟨_, _, _, _, _, _⟩) (v := ?_) rfl (by kernel_rfl) (by kernel_rfl) (by kernel_rfl) (by kernel_rfl) (by kernel_rfl) (fun _ _ _ h => h) (Or.inl ⟨by rfl, ?_⟩) (by assumption) ?_
      rotate_left 1
      · intro W' hSw
        go_simp
        try with_reducible rfl
      try simp only [Act.put, List.setIfInBounds_toArray, List.set_cons_zero, List.set_cons_succ]
      refine wpAnyF_take (i := 14) (oi := ⟨_, _, _, _, _, _⟩) (v := ?_) rfl (by kernel_rfl) (by kernel_rfl) (by kernel_rfl) (by kernel_rfl) (by kernel_rfl) (fun _ _ _ h => h) (Or.inl ⟨by rfl, ?_⟩) (by assumption) ?_
      rotate_left 1
      · intro W' hSw
        go_simp
        try with_reducible rfl
      try simp only [Act.put, List.setIfInBounds_toArray, List.set_cons_zero, List.set_cons_succ]
      refine wpAnyF_take (i := 15) (oi := ⟨_, _, _, _, _, _⟩) (v := ?_) rfl (by kernel_rfl) (by kernel_rfl) (by kernel_rfl) (by kernel_rfl) (by kernel_rfl) (fun _ _ _ h => h) (Or.inl ⟨by rfl, ?_⟩) (by assumption) ?_
      rotate_left 1
      · intro W' hSw
        go_simp
        try with_reducible rfl
      try simp only [Act.put, List.setIfInBounds_toArray, List.set_cons_zero, List.set_cons_succ]
      refine wpAnyF_take (i := 16) (oi := ⟨_, _, _, _, _, _⟩) (v := ?_) rfl (by kernel_rfl) (by kernel_rfl) (by kernel_rfl) (by kernel_rfl) (by kernel_rfl) (fun _ _ _ h => h) (Or.inl ⟨by rfl, ?_⟩) (by assumption) ?_
      rotate_left 1
      · intro W' hSw
        go_simp
        try with_reducible rfl
      try simp only [Act.put, List.setIfInBounds_toArray, List.set_cons_zero, List.set_cons_succ]
      refine wpAnyF_one (o := ⟨_, _, _, _, _, _⟩) (i := 17) (by kernel_rfl) rfl rfl (fun K' hK => ?_)
      go_simp
      have h3 := h2.box Summary.zero.enc 50 h2.size
      obtain ⟨bq, hbq⟩ : ∃ bq, bq = V2.heap.size := ⟨_, rfl⟩
      have hnb : ¬ br = bq := by rw [hbq]; exact Nat.ne_of_lt (blk_lt (h2.at (List.mem_cons_self ..)).1)
      rw [← hbq] at h3 ⊢
      generalize hgV : V2.alloc (.cells Summary.zero.enc.toArray 50) = V3 at h3 ⊢
      clear hgV hbq
      have kb3 := HKB.out _ _ _ h3
      clear h2
      refine hK.out _ _ kb3 (fun hHeld => ?_)
      clear hK K'
      try simp only [Act.put, List.setIfInBounds_toArray, List.set_cons_zero, List.set_cons_succ]
      have kq3 := (h3.at (List.mem_cons_self ..)).1
      have kf3 := (h3.at (List.mem_cons_self ..)).2
      have h4 := h3.put (C' := (exeF L' g X).1.sum.enc) (fun p hp => by rw [List.mem_singleton] at hp; rw [hp]; exact hnb)
      have kb4 := HKB.out _ _ _ h4
      refine wpAnyF_one (o := ⟨_, _, _, _, _, _⟩) (i := 18) (by kernel_rfl) rfl rfl (fun K' hK => ?_)
      go_simp
      refine hK.out _ _ kb4 (fun hHeld => ?_)
      clear hK K'
      try simp only [Act.put, List.setIfInBounds_toArray, List.set_cons_zero, List.set_cons_succ]
      refine wpAnyF_one (o := ⟨_, _, _, _, _, _⟩) (i := 19) (by kernel_rfl) rfl rfl (fun K' hK => ?_)
      go_simp
      refine hK.out _ _ kb4 (fun hHeld => ?_)
      clear hK K'
      try simp only [Act.put, List.setIfInBounds_toArray, List.set_cons_zero, List.set_cons_succ]
      refine wpAnyF_one (o := ⟨_, _, _, _, _, _⟩) (i := 20) (by kernel_rfl) rfl rfl (fun K' hK => ?_)
      go_simp
      refine hK.out _ _ kb4 (fun hHeld => ?_)
      clear hK K'
      try simp only [Act.put, List.setIfInBounds_toArray, List.set_cons_zero, List.set_cons_succ]
      refine wpAnyF_last (o := ⟨_, _, _, _, _, _⟩) (by kernel_rfl) rfl (fun K' hK => ?_)
      go_simp
      refine hK.out _ _ ?_
      clear hK K'
      try simp only [Act.put, List.setIfInBounds_toArray, List.set_cons_zero, List.set_cons_succ]
      refine wpAnyF_done (by kernel_rfl) ?_ _
      refine ⟨rfl, rfl, ?_⟩
      rw [HI4.out]
      exact ⟨rfl, rfl, rfl, rfl, rfl, h4.sub (fun p hp => List.mem_cons_of_mem _ hp)⟩
    · go_simp
      have h3' : LbI O W bl ((V.heap.size, Summary.zero.enc) :: [(br, arr u8v (Vector.replicate 32 0))]) L' (V.alloc (.cells Summary.zero.enc.toArray 50)).drew := h1.box Summary.zero.enc 50 h1.size
      obtain ⟨bq, hbq⟩ : ∃ bq, bq = V.heap.size := ⟨_, rfl⟩
      have hnb : ¬ br = bq := by rw [hbq]; exact Nat.ne_of_lt (blk_lt (h1.at (List.mem_cons_self ..)).1)
      rw [← hbq] at h3' ⊢
      generalize hgV : (V.alloc (.cells Summary.zero.enc.toArray 50)).drew = V3 at h3' ⊢
      clear hgV hbq
      have kb3' := HKB.out _ _ _ h3'
      clear h1
      refine hK.out _ _ kb3' (fun hHeld => ?_)
      clear hK K'
      try simp only [Act.put, List.setIfInBounds_toArray, List.set_cons_zero, List.set_cons_succ]
      refine wpAnyF_one (o := ⟨_, _, _, _, _, _⟩) (i := 11) (by kernel_rfl) rfl rfl (fun K' hK => ?_)
      go_simp
      refine (h3'.exe g ⟨sa, sl, sc⟩ X HEX.out HTX.out).mono ?_
      rintro e V2 ⟨a2, n2, c2, rfl, h2⟩
      dsimp only
      have kb2 := HKB.out _ _ _ h2
      clear h3'
      refine hK.out _ _ kb2 (fun hHeld => ?_)
      clear hK K'
      try simp only [Act.put, List.setIfInBounds_toArray, List.set_cons_zero, List.set_cons_succ]
      refine wpAnyF_take (i := 12) (oi := ⟨_, _, _, _, _, _⟩) (v := ?_) rfl (by kernel_rfl) (by kernel_rfl) (by kernel_rfl) (by kernel_rfl) (by kernel_rfl) (fun _ _ _ h => h) (Or.inl ⟨by rfl, ?_⟩) (by assumption) ?_
      rotate_left 1
      · intro W' hSw
        go_simp
        try with_reducible rfl
      try simp only [Act.put, List.setIfInBounds_toArray, List.set_cons_zero, List.set_cons_succ]
      refine wpAnyF_take (i := 13) (oi := ⟨_, _, _, _, _, _⟩) (v := ?_) rfl (by kernel_rfl) (by kernel_rfl) (by kernel_rfl) (by kernel_rfl) (by kernel_rfl) (fun _ _ _ h => h) (Or.inl ⟨by rfl, ?_⟩) (by assumption) ?_
      rotate_left 1
      · intro W' hSw
        go_simp
        try with_reducible rfl
      try simp only [Act.put, List.setIfInBounds_toArray, List.set_cons_zero, List.set_cons_succ]
      refine wpAnyF_take (i := 14) (oi := ⟨_, _, _, _, _, _⟩) (v := ?_) rfl (by kernel_rfl) (by kernel_rfl) (by kernel_rfl) (by kernel_rfl) (by kernel_rfl) (fun _ _ _ h => h) (Or.inl ⟨by rfl, ?_⟩) (by assumption) ?_
      rotate_left 1
      · intro W' hSw
        go_simp
        try with_reducible rfl
      try simp only [Act.put, List.setIfInBounds_toArray, List.set_cons_zero, List.set_cons_succ]
      refine wpAnyF_take (i := 15) (oi := ⟨_, _, _, _, _, _⟩) (v := ?_) rfl (by kernel_rfl) (by kernel_rfl) (by kernel_rfl) (by kernel_rfl) (by kernel_rfl) (fun _ _ _ h => h) (Or.inl ⟨by rfl, ?_⟩) (by assumption) ?_
      rotate_left 1
      · intro W' hSw
        go_simp
        try with_reducible rfl
      try simp only [Act.put, List.setIfInBounds_toArray, List.set_cons_zero, List.set_cons_succ]
      refine wpAnyF_take (i := 16) (oi := ⟨_, _, _, _, _, _⟩) (v := ?_) rfl (by kernel_rfl) (by kernel_rfl) (by kernel_rfl) (by kernel_rfl) (by kernel_rfl) (fun _ _ _ h => h) (Or.inl ⟨by rfl, ?_⟩) (by assumption) ?_
      rotate_left 1
      · intro W' hSw
        go_simp
        try with_reducible rfl
      try simp only [Act.put, List.setIfInBounds_toArray, List.set_cons_zero, List.set_cons_succ]
      have h3 := h2
      have kq3 := (h3.at (List.mem_cons_self ..)).1
      have kf3 := (h3.at (List.mem_cons_self ..)).2
      have h4 := h3.put (C' := (exeF L' g X).1.sum.enc) (fun p hp => by rw [List.mem_singleton] at hp; rw [hp]; exact hnb)
      have kb4 := HKB.out _ _ _ h4
      refine wpAnyF_one (o := ⟨_, _, _, _, _, _⟩) (i := 18) (by kernel_rfl) rfl rfl (fun K' hK => ?_)
      go_simp
      refine hK.out _ _ kb4 (fun hHeld => ?_)
      clear hK K'
      try simp only [Act.put, List.setIfInBounds_toArray, List.set_cons_zero, List.set_cons_succ]
      refine wpAnyF_one (o := ⟨_, _, _, _, _, _⟩) (i := 19) (by kernel_rfl) rfl rfl (fun K' hK => ?_)
      go_simp
      refine hK.out _ _ kb4 (fun hHeld => ?_)
      clear hK K'
      try simp only [Act.put, List.setIfInBounds_toArray, List.set_cons_zero, List.set_cons_succ]
      refine wpAnyF_one (o := ⟨_, _, _, _, _, _⟩) (i := 20) (by kernel_rfl) rfl rfl (fun K' hK => ?_)
      go_simp
      refine hK.out _ _ kb4 (fun hHeld => ?_)
      clear hK K'
      try simp only [Act.put, List.setIfInBounds_toArray, List.set_cons_zero, List.set_cons_succ]
      refine wpAnyF_last (o := ⟨_, _, _, _, _, _⟩) (by kernel_rfl) rfl (fun K' hK => ?_)
      go_simp
      refine hK.out _ _ ?_
      clear hK K'
      try simp only [Act.put, List.setIfInBounds_toArray, List.set_cons_zero, List.set_cons_succ]
      refine wpAnyF_done (by kernel_rfl) ?_ _
      refine ⟨rfl, rfl, ?_⟩
      rw [HI4.out]
      exact ⟨rfl, rfl, rfl, rfl, rfl, h4.sub (fun p hp => List.mem_cons_of_mem _ hp)⟩
  clear h1 kb n0 n1 hlen HEX HTX HT
  intro f2 V2 hI
  rw [HI4.out] at hI
  obtain ⟨f0, f1, f5, f7, f11, h2⟩ := hI
  rw [frame45r, f0, f1, f5, f7, f11]
  clear f0 f1 f5 f7 f11 HI4
  generalize exeF L' g X = E at h2 HDR HRO ⊢
  obtain ⟨⟨sm, rs, fl, cd⟩, L2⟩ := E
  dsimp only at h2 HDR HRO ⊢
  have hi9 : (i : Int) + 1 ≤ 1001 := by have := HIN.out; have := HNB.out; have := HN.out; omega
  by_cases hc : cd = 0
  · subst hc
    have HJ : Hid (∃ L', LbI O W bl [(br, arr u8v (Vector.replicate 32 0))] L' V2 ∧ tot = repF L' (B.drop (i + 1)) (i + 1) ∧ RepOk L' (B.drop (i + 1))) := ⟨L2, h2, by have h9 := HDR.out; rw [if_pos rfl] at h9; exact h9, HRO.out⟩
    clear h2 HDR HRO
    go_wp2_with fail
    refine ⟨rfl, rfl, ⟨rfl, by show Value.slice _ _ _ = _; rw [HNB.out], rfl, i + 1, by rw [← HNB.out]; exact HIN.out, ?_, HJ⟩, ?_⟩
    · show Value.int .i64 _ = _
      go_num
    · show nb - (intOf (Value.int .i64 _)).toNat < nb - (intOf (F 7)).toNat
      rw [H7.out]
      have := HIN.out
      simp [intOf]; omega
  · have hcb : (cd == 0) = false := by simp [hc]
    have hq := h2.root
    have HTT : Hid (tot = ((i, rootD L2.st, cd), rotL L2)) := by have h9 := HDR.out; rw [if_neg hc] at h9; exact h9
    clear h2 HDR HRO
    go_wp2_with fail
    refine hq.mono ?_
    clear hq
    rintro e V3 ⟨rfl, h3⟩
    dsimp only
    have kr := (h3.at (List.mem_cons_self ..)).1
    have kf := (h3.at (List.mem_cons_self ..)).2
    have HP : Hid (Q (.returned (.tuple #[.int .i64 (i : Nat), .agg (arr u8v (rootD L2.st)).toArray, .int .i64 cd])) (put V3 br (arr u8v (rootD L2.st)))) := by
      show Q _ _
      rw [HQ.out, HTT.out]
      exact (h3.put (C' := arr u8v (rootD L2.st)) (fun p hp => by cases hp)).post
    clear h3 HQ HTT
    generalize rootD L2.st = D at HP ⊢
    go_wp2_with fail
    refine ret_tct (C := arr u8v D) rfl rfl rfl rfl (by rw [blk_put, if_pos rfl, kr]; rfl) (by kernel_rfl) (by rw [length_arr]; kernel_rfl) rfl ?_
    exact HP.out
end Go.Proofs.Qxb6500786aGreat
