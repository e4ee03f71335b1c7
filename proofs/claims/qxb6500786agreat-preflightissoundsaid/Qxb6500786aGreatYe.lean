import Derived.DeepKeys2
import Derived.Test.Qxb6500786aGreatYd
import Derived.Test.Qxb6500786aGreatUd
import Derived.Test.Qxb6500786aGreatNf

import Derived.StillTailTactics
import Derived.Deep.QuietTactic
import Derived.BigQuiet
import Derived.Deep.RegionHeld
import Derived.Deep.CutRange
import Derived.Laws.ResultCell
import Derived.Laws.Rows
import Derived.DeepKeys
import Derived.DataBytes
import Derived.Laws.StructEq
import Derived.Laws.AppendOwn
import Derived.Laws.MakeOwn
import Derived.Lib.AppendStr
set_option linter.unusedSimpArgs false
set_option linter.unusedVariables false
namespace Go.Proofs.Qxb6500786aGreat
open Go.RowKit Go.Blk
attribute [local go_sem ↓] execOp_load execOp_store execOp_alloc
attribute [local go_sem] Tryz.ld24 Tryz.st24 Tryz.ld36 Tryz.st36 Tryz.ld28 Tryz.st28 Tryz.ld32 Tryz.st32 Tryz.ld33 Tryz.st33 Tryz.ld34 Tryz.st34 Tryz.ld5 Tryz.st5 Tryz.ld31 Tryz.st31 Tryz.ld30 Tryz.st30 Tryz.ld41 Tryz.st41 Tryz.ld44 Tryz.st44 Tryz.ld4 Tryz.st4 Tryz.ld173 Tryz.st173 Tryz.ld174 Tryz.st174 Tryz.ld95 Tryz.st95 Tryz.ld45 Tryz.st45 Tryz.ld207 Tryz.st207 Tryz.ld3 Tryz.st3 Tryz.ld189 Tryz.st189 Tryz.ld2 Tryz.st2 Tryz.ld9 Tryz.st9 Tryz.ld12 Tryz.st12 Tryz.ld21 Tryz.st21 Tryz.ld22 Tryz.st22 Tryz.ld46 Tryz.st46 Tryz.ld92 Tryz.st92 Tryz.ld94 Tryz.st94 Tryz.ld96 Tryz.st96 Tryz.ld97 Tryz.st97 Tryz.ld105 Tryz.st105 Tryz.ld117 Tryz.st117 Tryz.ld122 Tryz.st122 Tryz.ld123 Tryz.st123 Tryz.ld133 Tryz.st133 Tryz.ld155 Tryz.st155 Tryz.ld163 Tryz.st163 Tryz.ld190 Tryz.st190 Tryz.ld197 Tryz.st197 Tryz.ld201 Tryz.st201 Tryz.ld202 Tryz.st202 Tryz.ld209 Tryz.st209 Tryz.ld216 Tryz.st216 Tryz.ld230 Tryz.st230 Tryz.ld238 Tryz.st238 Tryz.ld242 Tryz.st242 Tryz.ld251 Tryz.st251 Tryz.ld260 Tryz.st260 Tryz.ld286 Tryz.st286 Tryz.ld292 Tryz.st292 Tryz.ld298 Tryz.st298 Tryz.ld309 Tryz.st309 Tryz.ld35 Tryz.st35 Tryz.ld48 Tryz.st48 Tryz.ld47 Tryz.st47 Tryz.ld79 Tryz.st79 Tryz.ld177 Tryz.st177 Tryz.ld180 Tryz.st180 Tryz.ld231 Tryz.st231 Tryz.ld232 Tryz.st232 Tryz.ld26 Tryz.st26 Tryz.ld38 Tryz.st38 Tryz.ld40 Tryz.st40 Tryz.ld43 Tryz.st43 Tryz.ld50 Tryz.st50 Tryz.ld52 Tryz.st52 Tryz.ld54 Tryz.st54 Tryz.ld81 Tryz.st81 Tryz.ld112 Tryz.st112 Tryz.ld120 Tryz.st120 Tryz.ld176 Tryz.st176 Tryz.ld179 Tryz.st179 Tryz.ld182 Tryz.st182 Tryz.ld184 Tryz.st184 Tryz.ld234 Tryz.st234 Tryz.ld236 Tryz.st236 Tryz.ld240 Tryz.st240 Tryz.ld246 Tryz.st246 Tryz.ld249 Tryz.st249 Tryz.al35 Tryz.al48 Tryz.al47 Tryz.al79 Tryz.al177 Tryz.al180 Tryz.al231 Tryz.al232 Tryz.al26 Tryz.al38 Tryz.al40 Tryz.al43 Tryz.al50 Tryz.al52 Tryz.al54 Tryz.al81 Tryz.al112 Tryz.al120 Tryz.al176 Tryz.al179 Tryz.al182 Tryz.al184 Tryz.al234 Tryz.al236 Tryz.al240 Tryz.al246 Tryz.al249
attribute [local go_sem] Player.length_enc Player.ok_enc Player.all_get Player.all_set Player.hand_get Player.hand_set Player.aside_get Player.aside_set Message.length_enc Message.ok_enc Message.all_get Message.all_set Message.kind_get Message.kind_set Message.from__get Message.from__set Message.to__get Message.to__set Message.sender_get Message.sender_set Message.receiver_get Message.receiver_set Message.seq_get Message.seq_set Message.token_get Message.token_set Message.amount_get Message.amount_set Message.size_get Message.size_set Message.payload_get Message.payload_set Tx.length_enc Tx.ok_enc Tx.all_get Tx.all_set Tx.kind_get Tx.kind_set Tx.chain_get Tx.chain_set Tx.from__get Tx.from__set Tx.nonce_get Tx.nonce_set Tx.fee_get Tx.fee_set Tx.to__get Tx.to__set Tx.dest_get Tx.dest_set Tx.token_get Tx.token_set Tx.amount_get Tx.amount_set Tx.size_get Tx.size_set Tx.payload_get Tx.payload_set Tx.msg_get Tx.msg_set Tx.msg_kind_get Tx.msg_kind_set Tx.msg_from__get Tx.msg_from__set Tx.msg_to__get Tx.msg_to__set Tx.msg_sender_get Tx.msg_sender_set Tx.msg_receiver_get Tx.msg_receiver_set Tx.msg_seq_get Tx.msg_seq_set Tx.msg_token_get Tx.msg_token_set Tx.msg_amount_get Tx.msg_amount_set Tx.msg_size_get Tx.msg_size_set Tx.msg_payload_get Tx.msg_payload_set GOp.length_enc GOp.ok_enc GOp.all_get GOp.all_set GOp.kind_get GOp.kind_set GOp.tx_get GOp.tx_set GOp.txs_get GOp.txs_set GOp.gas_get GOp.gas_set GOp.acct_get GOp.acct_set GOp.token_get GOp.token_set GOp.chain_get GOp.chain_set GOp.seq_get GOp.seq_set GOp.tx_kind_get GOp.tx_kind_set GOp.tx_chain_get GOp.tx_chain_set GOp.tx_from__get GOp.tx_from__set GOp.tx_nonce_get GOp.tx_nonce_set GOp.tx_fee_get GOp.tx_fee_set GOp.tx_to__get GOp.tx_to__set GOp.tx_dest_get GOp.tx_dest_set GOp.tx_token_get GOp.tx_token_set GOp.tx_amount_get GOp.tx_amount_set GOp.tx_size_get GOp.tx_size_set GOp.tx_payload_get GOp.tx_payload_set GOp.tx_msg_get GOp.tx_msg_set GOp.tx_msg_kind_get GOp.tx_msg_kind_set GOp.tx_msg_from__get GOp.tx_msg_from__set GOp.tx_msg_to__get GOp.tx_msg_to__set GOp.tx_msg_sender_get GOp.tx_msg_sender_set GOp.tx_msg_receiver_get GOp.tx_msg_receiver_set GOp.tx_msg_seq_get GOp.tx_msg_seq_set GOp.tx_msg_token_get GOp.tx_msg_token_set GOp.tx_msg_amount_get GOp.tx_msg_amount_set GOp.tx_msg_size_get GOp.tx_msg_size_set GOp.tx_msg_payload_get GOp.tx_msg_payload_set Summary.length_enc Summary.ok_enc Summary.all_get Summary.all_set Summary.height_get Summary.height_set Summary.txs_get Summary.txs_set Summary.gas_get Summary.gas_set Summary.fees_get Summary.fees_set Summary.sent_get Summary.sent_set Summary.took_get Summary.took_set Summary.minted_get Summary.minted_set Summary.burned_get Summary.burned_set Summary.root_get Summary.root_set Detail.length_enc Detail.ok_enc Detail.all_get Detail.all_set Detail.code_get Detail.code_set Detail.have__get Detail.have__set Detail.need_get Detail.need_set Slot.length_enc Slot.ok_enc Slot.all_get Slot.all_set Slot.nonce_get Slot.nonce_set Slot.balances_get Slot.balances_set Tree.length_enc Tree.ok_enc Tree.all_get Tree.all_set Tree.leaves_get Tree.leaves_set Mark.length_enc Mark.ok_enc Mark.all_get Mark.all_set Mark.from__get Mark.from__set Mark.seq_get Mark.seq_set Receipt.length_enc Receipt.ok_enc Receipt.all_get Receipt.all_set Receipt.code_get Receipt.code_set Receipt.hash_get Receipt.hash_set Receipt.index_get Receipt.index_set Receipt.gas_get Receipt.gas_set Receipt.fee_get Receipt.fee_set Receipt.hasSent_get Receipt.hasSent_set Receipt.sent_get Receipt.sent_set Receipt.hasTook_get Receipt.hasTook_set Receipt.took_get Receipt.took_set Receipt.sent_kind_get Receipt.sent_kind_set Receipt.sent_from__get Receipt.sent_from__set Receipt.sent_to__get Receipt.sent_to__set Receipt.sent_sender_get Receipt.sent_sender_set Receipt.sent_receiver_get Receipt.sent_receiver_set Receipt.sent_seq_get Receipt.sent_seq_set Receipt.sent_token_get Receipt.sent_token_set Receipt.sent_amount_get Receipt.sent_amount_set Receipt.sent_size_get Receipt.sent_size_set Receipt.sent_payload_get Receipt.sent_payload_set Receipt.took_kind_get Receipt.took_kind_set Receipt.took_from__get Receipt.took_from__set Receipt.took_to__get Receipt.took_to__set Receipt.took_sender_get Receipt.took_sender_set Receipt.took_receiver_get Receipt.took_receiver_set Receipt.took_seq_get Receipt.took_seq_set Receipt.took_token_get Receipt.took_token_set Receipt.took_amount_get Receipt.took_amount_set Receipt.took_size_get Receipt.took_size_set Receipt.took_payload_get Receipt.took_payload_set Store.length_enc Store.ok_enc Store.all_get Store.all_set Store.now_get Store.now_set Store.saved_get Store.saved_set GState.length_enc GState.ok_enc GState.all_get GState.all_set GState.kv_get GState.kv_set GState.tree_get GState.tree_set GState.stale_get GState.stale_set GState.touched_get GState.touched_set GState.kv_now_get GState.kv_now_set GState.kv_saved_get GState.kv_saved_set GState.tree_leaves_get GState.tree_leaves_set History.length_enc History.ok_enc History.all_get History.all_set History.ring_get History.ring_set History.closed_get History.closed_set Ledger.length_enc Ledger.ok_enc Ledger.all_get Ledger.all_set Ledger.chain_get Ledger.chain_set Ledger.st_get Ledger.st_set Ledger.height_get Ledger.height_set Ledger.open__get Ledger.open__set Ledger.gasLimit_get Ledger.gasLimit_set Ledger.past_get Ledger.past_set Ledger.begun_get Ledger.begun_set Ledger.sent_get Ledger.sent_set Ledger.took_get Ledger.took_set Ledger.receipts_get Ledger.receipts_set Ledger.st_kv_get Ledger.st_kv_set Ledger.st_tree_get Ledger.st_tree_set Ledger.st_stale_get Ledger.st_stale_set Ledger.st_touched_get Ledger.st_touched_set Ledger.st_kv_now_get Ledger.st_kv_now_set Ledger.st_kv_saved_get Ledger.st_kv_saved_set Ledger.st_tree_leaves_get Ledger.st_tree_leaves_set Ledger.past_ring_get Ledger.past_ring_set Ledger.past_closed_get Ledger.past_closed_set Ledger.begun_kv_get Ledger.begun_kv_set Ledger.begun_tree_get Ledger.begun_tree_set Ledger.begun_stale_get Ledger.begun_stale_set Ledger.begun_touched_get Ledger.begun_touched_set Ledger.begun_kv_now_get Ledger.begun_kv_now_set Ledger.begun_kv_saved_get Ledger.begun_kv_saved_set Ledger.begun_tree_leaves_get Ledger.begun_tree_leaves_set Purse.length_enc Purse.ok_enc Purse.all_get Purse.all_set Purse.st_get Purse.st_set Purse.n_get Purse.n_set Purse.account_get Purse.account_set Purse.token_get Purse.token_set Purse.amount_get Purse.amount_set Plan.length_enc Plan.ok_enc Plan.all_get Plan.all_set Plan.purse_get Plan.purse_set Plan.nonce_get Plan.nonce_set Plan.gasUsed_get Plan.gasUsed_set Plan.fees_get Plan.fees_set Plan.hasSupply_get Plan.hasSupply_set Plan.token_get Plan.token_set Plan.supply_get Plan.supply_set Plan.flowAt_get Plan.flowAt_set Plan.flow_get Plan.flow_set Plan.receipt_get Plan.receipt_set Plan.purse_st_get Plan.purse_st_set Plan.purse_n_get Plan.purse_n_set Plan.purse_account_get Plan.purse_account_set Plan.purse_token_get Plan.purse_token_set Plan.purse_amount_get Plan.purse_amount_set Plan.receipt_code_get Plan.receipt_code_set Plan.receipt_hash_get Plan.receipt_hash_set Plan.receipt_index_get Plan.receipt_index_set Plan.receipt_gas_get Plan.receipt_gas_set Plan.receipt_fee_get Plan.receipt_fee_set Plan.receipt_hasSent_get Plan.receipt_hasSent_set Plan.receipt_sent_get Plan.receipt_sent_set Plan.receipt_hasTook_get Plan.receipt_hasTook_set Plan.receipt_took_get Plan.receipt_took_set Plan.receipt_sent_kind_get Plan.receipt_sent_kind_set Plan.receipt_sent_from__get Plan.receipt_sent_from__set Plan.receipt_sent_to__get Plan.receipt_sent_to__set Plan.receipt_sent_sender_get Plan.receipt_sent_sender_set Plan.receipt_sent_receiver_get Plan.receipt_sent_receiver_set Plan.receipt_sent_seq_get Plan.receipt_sent_seq_set Plan.receipt_sent_token_get Plan.receipt_sent_token_set Plan.receipt_sent_amount_get Plan.receipt_sent_amount_set Plan.receipt_sent_size_get Plan.receipt_sent_size_set Plan.receipt_sent_payload_get Plan.receipt_sent_payload_set Plan.receipt_took_kind_get Plan.receipt_took_kind_set Plan.receipt_took_from__get Plan.receipt_took_from__set Plan.receipt_took_to__get Plan.receipt_took_to__set Plan.receipt_took_sender_get Plan.receipt_took_sender_set Plan.receipt_took_receiver_get Plan.receipt_took_receiver_set Plan.receipt_took_seq_get Plan.receipt_took_seq_set Plan.receipt_took_token_get Plan.receipt_took_token_set Plan.receipt_took_amount_get Plan.receipt_took_amount_set Plan.receipt_took_size_get Plan.receipt_took_size_set Plan.receipt_took_payload_get Plan.receipt_took_payload_set Move.length_enc Move.ok_enc Move.all_get Move.all_set Move.account_get Move.account_set Move.token_get Move.token_set Move.down_get Move.down_set Move.amount_get Move.amount_set Books.length_enc Books.ok_enc Books.all_get Books.all_set Books.sums_get Books.sums_set Books.stored_get Books.stored_set Books.marks_get Books.marks_set Pair.length_enc Pair.ok_enc Pair.all_get Pair.all_set Pair.key_get Pair.key_set Pair.value_get Pair.value_set
attribute [local go_sem] size_put size_ext blk_put free_put blk_alloc free_alloc blk_drew free_drew blk_ext free_ext lookOr_some putOr_some segAt_some cellAt_some storeIn_some put_put put_alloc_new length_arr ok_arr_u8 ok_arr_u32 ok_arr_u64 ok_arr_i64 ok_arr_sl cellsV_agg cellsV_int cellsV_bool cellsV_string cellsV_pointer cellsV_slice cellsV_sl ok_int ok_bool ok_string ok_pointer ok_slice ok_sl toList_arr seg_arr set_arr nth_splice nth_splice0 seg_splice seg_splice0 splice_splice splice_splice0 length_splice_if
attribute [local go_sem ↓] execOp_box
attribute [local go_sem] box_run nth_arr_u8 put_arr_u8 blk_drewN free_drewN put_drewN blk_raw free_raw
attribute [local go_sem] Tryz.ld56 Tryz.st56 Tryz.ld91 Tryz.st91 Tryz.al56 Tryz.al91 Answer.length_enc Answer.ok_enc Answer.all_get Answer.all_set Answer.code_get Answer.code_set Answer.receipts_get Answer.receipts_set Answer.moves_get Answer.moves_set Answer.failed_get Answer.failed_set Answer.value_get Answer.value_set Answer.yes_get Answer.yes_set Answer.root_get Answer.root_set Answer.summary_get Answer.summary_set Answer.detail_get Answer.detail_set Answer.slot_get Answer.slot_set Answer.summary_height_get Answer.summary_height_set Answer.summary_txs_get Answer.summary_txs_set Answer.summary_gas_get Answer.summary_gas_set Answer.summary_fees_get Answer.summary_fees_set Answer.summary_sent_get Answer.summary_sent_set Answer.summary_took_get Answer.summary_took_set Answer.summary_minted_get Answer.summary_minted_set Answer.summary_burned_get Answer.summary_burned_set Answer.summary_root_get Answer.summary_root_set Answer.detail_code_get Answer.detail_code_set Answer.detail_have__get Answer.detail_have__set Answer.detail_need_get Answer.detail_need_set Answer.slot_nonce_get Answer.slot_nonce_set Answer.slot_balances_get Answer.slot_balances_set Block.length_enc Block.ok_enc Block.all_get Block.all_set Block.gasLimit_get Block.gasLimit_set Block.txs_get Block.txs_set
open Classical in
theorem TwI.sim {W V : World} {b1 b2 : Nat} {bx : List (Nat × List Value)} {L1 L2 : PLg} {s : Sl} {X : List Tx} (h : TwI W b1 b2 bx L1 L2 V) (hT : TxsIn W s X) (hK : cbF L1 X.length = 0 → ApK L1 X.length) (hm : ∀ l ∈ L1.st.saved, l.length ≤ 1000000000) : Calls Tryz.prog 72 #[.pointer (some ⟨b1, 0, none⟩), .slice s.a s.len s.cap] V (fun e V' => (∃ a n c, e = .returned (.tuple #[.slice a n c, .int .i64 (batF false L1 X).1.1.2, .int .i64 (batF false L1 X).1.2])) ∧ TwI W b1 b2 bx (batF false L1 X).2 L2 V') := by
  have hw := h.we
  refine h.call (R := fun e => ∃ a n c, e = .returned (.tuple #[.slice a n c, .int .i64 (batF false L1 X).1.1.2, .int .i64 (batF false L1 X).1.2])) (fun O hO h2 _ => ?_)
  have hn2 : ∀ k, k < W.heap.size → nrm O b1 k = .no := fun k hk => nrm_out (by rw [h2 k hk]; exact lgP_no b1)
  have hlr : ¬ lgP b1 (.a (b1 + 1) 0) := by rintro ⟨j, e⟩; have := (Lab.a.inj e).1; omega
  refine (simulate_any (nrm O b1) V b1 (.a (b1 + 1) 0) L1 s X (hO.relab (fun k j hk => nrm_in hk)) hK hm (TxsL.of_in hT hw hn2 (lgP_no b1)) hlr (by simp) (fun k hk hp => ?_)).mono ?_
  · rcases nrm_or O b1 k with q | q
    · rw [q]; simp
    · exact absurd q hp
  · rintro e V' ⟨a, n, c, rfl, O', g1, g2, -, -⟩
    refine ⟨⟨a, n, c, rfl⟩, fun k => if k < V.heap.size ∧ ¬ lgP b1 (O k) then O k else O' k, g1.relab (fun k j hk => ?_), ⟨g2.os, g2.tape, g2.output, g2.size, fun k hk hp => ⟨if_pos ⟨hk, hp⟩, (g2.keep k hk (by rw [nrm_out hp]; exact lgP_no b1)).2⟩, fun k hk hp => ?_⟩⟩
    · try dsimp only
      rw [if_neg]
      · exact hk
      · rintro ⟨q1, q2⟩
        have := (g2.keep k q1 (by rw [nrm_out q2]; exact lgP_no b1)).1
        rw [nrm_out q2, hk] at this
        cases this
    · try dsimp only
      rw [if_neg (fun q => q.2 hp)]
      obtain ⟨j, hj⟩ := hp
      exact g2.own k hk (by rw [nrm_in hj]; exact ⟨j, rfl⟩)
theorem TwI.pre {W V : World} {b1 b2 : Nat} {bx : List (Nat × List Value)} {L1 L2 : PLg} {s : Sl} {X : List Tx} (h : TwI W b1 b2 bx L1 L2 V) (hT : TxsIn V s X) : Calls Tryz.prog 71 #[.pointer (some ⟨b1, 0, none⟩), .slice s.a s.len s.cap] V (fun e V' => e = .returned (.tuple #[.int .i64 (pfF L1 X).1, .int .i64 (pfF L1 X).2]) ∧ V.Extends V') := by
  obtain ⟨h0, O, h1, h2, h3, h4, h5⟩ := h
  exact preflight_any O V b1 L1 s X h3 hT
theorem TwI.ren {W V : World} {b1 b2 : Nat} {bx : List (Nat × List Value)} {L1 L2 : PLg} {s : Sl} {X : List Tx} (h : TwI W b1 b2 bx L1 L2 V) (hT : TxsIn V s X) (hX : X.length ≤ 1000000) : Calls Tryz.prog 73 #[.pointer (some ⟨b1, 0, none⟩), .slice s.a s.len s.cap] V (fun e V' => ∃ a n c, e = .returned (.slice a n c) ∧ V.Extends V' ∧ TxsIn V' ⟨a, n, c⟩ (rnF L1 X)) := by
  obtain ⟨h0, O, h1, h2, h3, h4, h5⟩ := h
  exact renumber_any O V b1 L1 s X h3 hT hX
/-- Between two steps of a script: the player, both ledgers sound. -/
def LwP (W : World) (g : Nat → GOp) (c : UInt8) (P : Receipt → Prop) (bp i : Nat) (V : World) : Prop := ∃ (b1 b2 : Nat) (L1 L2 : PLg) (n : Nat), PlI W b1 b2 bp [] L1 L2 V ∧ (LI n L1 ∧ CI L1) ∧ (LI n L2 ∧ CI L2) ∧ n ≤ i + 2 * sumT g i ∧ RcI c P L1 ∧ RcI c P L2
theorem LwP.mk {W V : World} {g : Nat → GOp} {c : UInt8} {P : Receipt → Prop} {bp i b1 b2 : Nat} {L1 L2 : PLg} {n m : Nat} {bx : List (Nat × List Value)} (h : TwI W b1 b2 bx L1 L2 V) (hp : (bp, (Player.mk (some ⟨b1, 0, none⟩) (some ⟨b2, 0, none⟩)).enc) ∈ bx) (h1 : LI n L1 ∧ CI L1) (h2 : LI m L2 ∧ CI L2) (hn : n ≤ i + 2 * sumT g i) (hm : m ≤ i + 2 * sumT g i) (r1 : RcI c P L1) (r2 : RcI c P L2) : LwP W g c P bp i V :=
  ⟨b1, b2, L1, L2, i + 2 * sumT g i, h.sub (fun p hq => by rw [List.mem_singleton] at hq; rw [hq]; exact hp), ⟨h1.1.mono hn, h1.2⟩, ⟨h2.1.mono hm, h2.2⟩, Nat.le_refl _, r1, r2⟩
set_option maxRecDepth 100000 in
theorem frame121L (f : Nat → Value) : frameN 121 f = #[f 0, f 1, f 2, f 3, f 4, f 5, f 6, f 7, f 8, f 9, f 10, f 11, f 12, f 13, f 14, f 15, f 16, f 17, f 18, f 19, f 20, f 21, f 22, f 23, f 24, f 25, f 26, f 27, f 28, f 29, f 30, f 31, f 32, f 33, f 34, f 35, f 36, f 37, f 38, f 39, f 40, f 41, f 42, f 43, f 44, f 45, f 46, f 47, f 48, f 49, f 50, f 51, f 52, f 53, f 54, f 55, f 56, f 57, f 58, f 59, f 60, f 61, f 62, f 63, f 64, f 65, f 66, f 67, f 68, f 69, f 70, f 71, f 72, f 73, f 74, f 75, f 76, f 77, f 78, f 79, f 80, f 81, f 82, f 83, f 84, f 85, f 86, f 87, f 88, f 89, f 90, f 91, f 92, f 93, f 94, f 95, f 96, f 97, f 98, f 99, f 100, f 101, f 102, f 103, f 104, f 105, f 106, f 107, f 108, f 109, f 110, f 111, f 112, f 113, f 114, f 115, f 116, f 117, f 118, f 119, f 120] := by kernel_rfl
def lw12 (W : World) (a : Option Addr) (len cap : Nat) (g : Nat → GOp) (c : UInt8) (bp : Nat) (F : Nat → Value) (V : World) : Prop := F 3 = .pointer (some ⟨bp, 0, none⟩) ∧ F 17 = .slice a len cap ∧ F 18 = .int .i64 (len : Nat) ∧ ∃ i : Nat, i ≤ len ∧ F 19 = .int .i64 (i : Nat) ∧ Hid (LwP W g c (fun _ => True) bp i V)
set_option maxRecDepth 200000 in
set_option maxHeartbeats 4000000 in
theorem preflight_walk (W : World) (a : Option Addr) (len cap : Nat) (g : Nat → GOp) (dt : Nat → List Tx) (hS : ScriptAt W a len cap g dt) : Calls Tryz.prog 12 #[.slice a len cap] W fun e V => e = .returned (.bool true) ∧ W.Extends V := by
  obtain ⟨Q, hQ⟩ : ∃ Q : Ending → World → Prop, Q = fun e V => e = .returned (.bool true) ∧ W.Extends V := ⟨_, rfl⟩
  rw [← hQ]
  have HQ := hid_of hQ
  have HS := hid_of hS
  have hsm := small2_any W a len cap g dt hS
  have hch := chainOf2_any W a len cap g dt hS
  clear hQ hS
  go_enter Tryz.func12, Tryz.ntmps12
  go_wp2_with fail
  refine hsm.mono ?_
  clear hsm
  rintro e V0 ⟨⟨r, rfl, hr⟩, rfl⟩
  dsimp only
  cases r with
  | false =>
    have HP : Hid (Q (.returned (.bool true)) V0) := by
      show Q _ _
      rw [HQ.out]
      exact ⟨rfl, ext_Ext (Ext.refl _)⟩
    clear hch hr HS HQ
    go_wp2_with fail
    try (first | go_ret | go_ret2 | go_ret3 | go_end0)
    exact HP.out
  | true =>
  have HR := hid_of (hr rfl)
  clear hr
  go_wp2_with fail
  refine hch.mono ?_
  clear hch
  rintro e V0' ⟨c, hc, rfl, rfl⟩
  dsimp only
  have hnp := player_any V0' c hc
  have HC := hid_of hc
  clear hc
  go_wp2_with fail
  refine hnp.mono ?_
  clear hnp
  rintro e V1 ⟨b1, b2, rfl, h1⟩
  dsimp only
  obtain ⟨pl, hpl⟩ : ∃ pl, pl = Player.mk (some ⟨b1, 0, none⟩) (some ⟨b2, 0, none⟩) := ⟨_, rfl⟩
  rw [← hpl]
  have h2 := h1.box pl.enc 26
  obtain ⟨W2, hW2⟩ : ∃ W2 : World, W2 = V1.alloc (.cells pl.enc.toArray 26) := ⟨_, rfl⟩
  obtain ⟨bp, hbp⟩ : ∃ bp, bp = V1.heap.size := ⟨_, rfl⟩
  rw [← hW2, ← hbp] at h2
  have HI0 : Hid (LwP V0' g c (fun _ => True) bp 0 W2) := LwP.mk h2 (by rw [hpl]; simp) ⟨newL_li c HC.out, newL_ci c⟩ ⟨newL_li c HC.out, newL_ci c⟩ (Nat.zero_le _) (Nat.zero_le _) (newL_rci c _) (newL_rci c _)
  have HW2 := hid_of hW2
  have HBP := hid_of hbp
  clear hW2 hbp h1 h2 hpl
  go_upto_region 4 with fail
  rw [← HW2.out, ← HBP.out]
  clear HW2 HBP
  go_wp2_with fail
  refine wp_loop_f 121 (lw12 V0' a len cap g c bp) (fun f _ => len - (intOf (f 19)).toNat) rfl ⟨rfl, rfl, rfl, 0, Nat.zero_le _, rfl, HI0⟩ ?_
  clear HI0
  intro F V hrel
  obtain ⟨f3, f17, f18, i, hi, f19, HI⟩ := hrel
  have H19 := hid_of f19
  rw [frame121L, f3, f17, f18, f19]
  clear f3 f17 f18 f19
  obtain ⟨b1, b2, L1, L2, n, h0, hI1, hI2, hn, hR1, hR2⟩ := HI.out
  clear HI
  by_cases hin : i < len
  rotate_left 1
  · have HP : Hid (Q (.returned (.bool true)) V) := by
      show Q _ _
      rw [HQ.out]
      exact ⟨rfl, TwI.we h0⟩
    have hin' : ¬ (i : Int) < (len : Int) := by omega
    clear hin hi h0 hI1 hI2 hn hR1 hR2 HQ HS HR
    go_wp2_with fail
    try (first | go_ret | go_ret2 | go_ret3 | go_end0)
    exact HP.out
  have hin' : (i : Int) < (len : Int) := by omega
  have p0 : (0 : Int) ≤ (i : Int) := by omega
  have p2 : ((i : Int)).toNat = i := by omega
  obtain ⟨b, o, C, ha, kb0, hlen, hseg⟩ := HS.out.2.2.2 (by omega)
  have hsg := hseg i hin
  have kb : blk V b = some C := ((TwI.we h0).blk (blk_lt kb0)).trans kb0
  obtain ⟨hft, hT, -⟩ := HS.out.2.2.1 i hin
  have g90 : o + i * 90 + 90 ≤ C.length := by omega
  have hsum : len + sumT g len ≤ 65536 := HR.out
  have hsm := sumT_mono g (show i + 1 ≤ len from hin)
  have hsi : sumT g (i + 1) = sumT g i + (g i).txs.len := rfl
  have hXl : (dt i).length = (g i).txs.len := hT.1
  obtain ⟨x, hx⟩ : ∃ x, x = g i := ⟨_, rfl⟩
  rw [← hx] at hsg hft hT hsi hXl
  obtain ⟨X, hX⟩ : ∃ X, X = dt i := ⟨_, rfl⟩
  rw [← hX] at hT hXl
  have h1 := TwI.box h0 x.enc 43
  obtain ⟨V1', hV1⟩ : ∃ V1', V1' = V.alloc (.cells x.enc.toArray 43) := ⟨_, rfl⟩
  obtain ⟨bo, hbo⟩ : ∃ bo, bo = V.heap.size := ⟨_, rfl⟩
  obtain ⟨pl1, hpl⟩ : ∃ pl1, pl1 = Player.mk (some ⟨b1, 0, none⟩) (some ⟨b2, 0, none⟩) := ⟨_, rfl⟩
  have hob : bo ≠ bp := by
    have := TwI.lt h0 (List.mem_cons_self ..)
    have : bp < V.heap.size := this
    omega
  rw [← hV1, ← hbo, ← hpl] at h1
  have hph : nth pl1.enc 0 = some (.pointer (some ⟨b1, 0, none⟩)) := by rw [hpl]; exact Player.hand_get _
  have lpl : pl1.enc.length = 2 := Player.length_enc _
  have hi9 : (i : Int) + 1 ≤ 65537 := by omega
  have HV1 := hid_of hV1
  have HBO := hid_of hbo
  have HPL := hid_of hpl
  have HOB := hid_of hob
  have HN : Hid (i < len ∧ n + 2 * X.length + 1 ≤ (i + 1) + 2 * sumT g (i + 1) ∧ (i + 1) + 2 * sumT g (i + 1) ≤ 131072) := ⟨hin, by omega, by omega⟩
  have HT := hid_of hT
  have HI1 := hid_of hI1
  have HI2 := hid_of hI2
  have HR1 := hid_of hR1
  have HR2 := hid_of hR2
  have ko := (h1.at (b := bo) (C := x.enc) (by simp)).1
  have kp := (h1.at (b := bp) (C := pl1.enc) (by simp)).1
  subst ha
  clear hin hi hseg kb0 hft hsum hsm hsi hXl hV1 hbo hx hX h0 hn hpl hob hT hI1 hI2 hR1 hR2
  go_upto_region 7 with fail
  rw [← HV1.out, ← HBO.out]
  clear HV1 HBO kb hsg g90 hlen
  have HI9 := hid_of hi9
  clear hi9
  by_cases k5 : x.kind = 5
  · have hk5 : (x.kind == 5) = true := by rw [k5]; rfl
    clear k5
    have hpr := h1.pre (HT.out.ext h1.we)
    obtain ⟨pa, hpa⟩ : ∃ pa, pa = (pfF L1 X).1 := ⟨_, rfl⟩
    obtain ⟨pc, hpc⟩ : ∃ pc, pc = (pfF L1 X).2 := ⟨_, rfl⟩
    have HLW := pf_law (X := X) HI1.out.1 (by have := HN.out.2; omega)
    rw [← hpa, ← hpc] at hpr HLW
    have H1 := hid_of h1
    clear hpa hpc h1
    go_wp2_with fail
    refine hpr.mono ?_
    clear hpr
    rintro e V2 ⟨rfl, hx2⟩
    dsimp only
    have h2 := H1.out.ext hx2
    have ko2 := (h2.at (b := bo) (C := x.enc) (by simp)).1
    have kp2 := (h2.at (b := bp) (C := pl1.enc) (by simp)).1
    have hsti := HI1.out.1.sti x.gas X (by have := HN.out.2; omega)
    have hsm := h2.sim HT.out hsti.bat hsti.savl
    have HM1 : Hid (LI (n + X.length) (batF false L1 X).2 ∧ CI (batF false L1 X).2) := by
      obtain ⟨m, hm, he⟩ := evs_bat false L1 X
      exact ⟨(HI1.out.1.evs he (by have := HN.out.2; omega)).mono (by omega), HI1.out.2.evs HI1.out.1 he (by have := HN.out.2; omega)⟩
    have HRM : Hid (RcI c (fun _ => True) (batF false L1 X).2) := by
      obtain ⟨m, hm, he⟩ := evs_bat false L1 X
      exact HR1.out.evs (fun _ _ _ _ => trivial) he
    obtain ⟨sf, hsf⟩ : ∃ sf, sf = (batF false L1 X).1.1.2 := ⟨_, rfl⟩
    obtain ⟨sc, hsc⟩ : ∃ sc, sc = (batF false L1 X).1.2 := ⟨_, rfl⟩
    obtain ⟨M1, hM1⟩ : ∃ M1, M1 = (batF false L1 X).2 := ⟨_, rfl⟩
    rw [← hsf, ← hsc, ← hM1] at hsm
    rw [← hsf, ← hsc] at HLW
    rw [← hM1] at HM1 HRM
    clear hsf hsc hM1 hsti hx2 h2 H1 ko kp
    go_wp2_with fail
    refine hsm.mono ?_
    clear hsm
    rintro e V10 ⟨⟨za, zn, zc, rfl⟩, h10'⟩
    dsimp only
    have H10 := hid_of h10'
    have ko := (h10'.at (b := bo) (C := x.enc) (by simp)).1
    have kp := (h10'.at (b := bp) (C := pl1.enc) (by simp)).1
    clear ko2 kp2 h10'
    rcases HLW with ⟨l1, l2, l3, l4⟩ | ⟨l1, l2, l3, l4, l5⟩ | ⟨l1, l2⟩
    · subst l3
      subst l4
      have hb1 : (sc != 0) = true := by simp [l1]
      have hb2 : (sc != sc) = false := by simp
      clear l1
      have h10 := H10.out.ext (extends_drewN (ext_Ext (Ext.refl V10)) 1)
      have ko10 := (h10.at (b := bo) (C := x.enc) (by simp)).1
      have kp10 := (h10.at (b := bp) (C := pl1.enc) (by simp)).1
      have hrn := h10.ren (HT.out.ext h10.we) (by have := HN.out.2; omega)
      clear ko kp
      go_upto_region 19 with fail
      repeat go_step
      refine wp_region_F 11 (fun W' => blk W' bo = some x.enc ∧ blk W' bp = some pl1.enc) (by kernel_rfl) ⟨ko10, kp10⟩ (fun hHeld => ?_)
      refine wpAnyF_take (i := 0) (oi := ⟨_, _, _, _, _, _⟩) (v := ?_) rfl (by kernel_rfl) (by kernel_rfl) (by kernel_rfl) (by kernel_rfl) (by kernel_rfl) (fun _ _ _ h => h) (Or.inl ⟨by rfl, ?_⟩) (by assumption) ?_
      rotate_left 1
      · intro W' hSw
        obtain ⟨hS1, hS2⟩ := hSw
        go_simp
        try with_reducible rfl
      try simp only [Act.put, List.setIfInBounds_toArray, List.set_cons_zero, List.set_cons_succ]
      refine wpAnyF_take (i := 1) (oi := ⟨_, _, _, _, _, _⟩) (v := ?_) rfl (by kernel_rfl) (by kernel_rfl) (by kernel_rfl) (by kernel_rfl) (by kernel_rfl) (fun _ _ _ h => h) (Or.inl ⟨by rfl, ?_⟩) (by assumption) ?_
      rotate_left 1
      · intro W' hSw
        obtain ⟨hS1, hS2⟩ := hSw
        go_simp
        try with_reducible rfl
      try simp only [Act.put, List.setIfInBounds_toArray, List.set_cons_zero, List.set_cons_succ]
      refine wpAnyF_take (i := 2) (oi := ⟨_, _, _, _, _, _⟩) (v := ?_) rfl (by kernel_rfl) (by kernel_rfl) (by kernel_rfl) (by kernel_rfl) (by kernel_rfl) (fun _ _ _ h => h) (Or.inl ⟨by rfl, ?_⟩) (by assumption) ?_
      rotate_left 1
      · intro W' hSw
        obtain ⟨hS1, hS2⟩ := hSw
        go_simp
        try with_reducible rfl
      try simp only [Act.put, List.setIfInBounds_toArray, List.set_cons_zero, List.set_cons_succ]
      refine wpAnyF_take (i := 3) (oi := ⟨_, _, _, _, _, _⟩) (v := ?_) rfl (by kernel_rfl) (by kernel_rfl) (by kernel_rfl) (by kernel_rfl) (by kernel_rfl) (fun _ _ _ h => h) (Or.inl ⟨by rfl, ?_⟩) (by assumption) ?_
      rotate_left 1
      · intro W' hSw
        obtain ⟨hS1, hS2⟩ := hSw
        go_simp
        try with_reducible rfl
      try simp only [Act.put, List.setIfInBounds_toArray, List.set_cons_zero, List.set_cons_succ]
      refine wpAnyF_take (i := 4) (oi := ⟨_, _, _, _, _, _⟩) (v := ?_) rfl (by kernel_rfl) (by kernel_rfl) (by kernel_rfl) (by kernel_rfl) (by kernel_rfl) (fun _ _ _ h => h) (Or.inl ⟨by rfl, ?_⟩) (by assumption) ?_
      rotate_left 1
      · intro W' hSw
        obtain ⟨hS1, hS2⟩ := hSw
        go_simp
        try with_reducible rfl
      try simp only [Act.put, List.setIfInBounds_toArray, List.set_cons_zero, List.set_cons_succ]
      refine wpAnyF_take (i := 5) (oi := ⟨_, _, _, _, _, _⟩) (v := ?_) rfl (by kernel_rfl) (by kernel_rfl) (by kernel_rfl) (by kernel_rfl) (by kernel_rfl) (fun _ _ _ h => h) (Or.inl ⟨by rfl, ?_⟩) (by assumption) ?_
      rotate_left 1
      · intro W' hSw
        obtain ⟨hS1, hS2⟩ := hSw
        go_simp
        try with_reducible rfl
      try simp only [Act.put, List.setIfInBounds_toArray, List.set_cons_zero, List.set_cons_succ]
      refine wpAnyF_one (o := ⟨_, _, _, _, _, _⟩) (i := 6) (by kernel_rfl) rfl rfl (fun K' hK => ?_)
      go_simp
      refine hrn.mono ?_
      clear hrn
      rintro e V11 ⟨ya, yn, yc, rfl, hx11, hT11⟩
      dsimp only
      have h11 := h10.ext hx11
      have ko11 := (h11.at (b := bo) (C := x.enc) (by simp)).1
      have kp11 := (h11.at (b := bp) (C := pl1.enc) (by simp)).1
      refine hK.out _ _ ⟨ko11, kp11⟩ (fun hHeld => ?_)
      clear hK K'
      try simp only [Act.put, List.setIfInBounds_toArray, List.set_cons_zero, List.set_cons_succ]
      have hpr := h11.pre hT11
      have HP2 := hid_of (pf_law2 M1 X)
      obtain ⟨qa, hqa⟩ : ∃ qa, qa = (pfF M1 (rnF M1 X)).1 := ⟨_, rfl⟩
      obtain ⟨qc, hqc⟩ : ∃ qc, qc = (pfF M1 (rnF M1 X)).2 := ⟨_, rfl⟩
      rw [← hqa, ← hqc] at hpr
      rw [← hqc] at HP2
      clear hqa hqc hT11 hx11 h10 ko10 kp10
      refine wpAnyF_one (o := ⟨_, _, _, _, _, _⟩) (i := 7) (by kernel_rfl) rfl rfl (fun K' hK => ?_)
      go_simp
      refine hpr.mono ?_
      clear hpr
      rintro e V12 ⟨rfl, hx12⟩
      dsimp only
      have h12 := h11.ext hx12
      have ko12 := (h12.at (b := bo) (C := x.enc) (by simp)).1
      have kp12 := (h12.at (b := bp) (C := pl1.enc) (by simp)).1
      refine hK.out _ _ ⟨ko12, kp12⟩ (fun hHeld => ?_)
      clear hK K'
      try simp only [Act.put, List.setIfInBounds_toArray, List.set_cons_zero, List.set_cons_succ]
      refine wpAnyF_take (i := 8) (oi := ⟨_, _, _, _, _, _⟩) (v := ?_) rfl (by kernel_rfl) (by kernel_rfl) (by kernel_rfl) (by kernel_rfl) (by kernel_rfl) (fun _ _ _ h => h) (Or.inl ⟨by rfl, ?_⟩) (by assumption) ?_
      rotate_left 1
      · intro W' hSw
        obtain ⟨hS1, hS2⟩ := hSw
        go_simp
        try with_reducible rfl
      try simp only [Act.put, List.setIfInBounds_toArray, List.set_cons_zero, List.set_cons_succ]
      refine wpAnyF_take (i := 9) (oi := ⟨_, _, _, _, _, _⟩) (v := ?_) rfl (by kernel_rfl) (by kernel_rfl) (by kernel_rfl) (by kernel_rfl) (by kernel_rfl) (fun _ _ _ h => h) (Or.inl ⟨by rfl, ?_⟩) (by assumption) ?_
      rotate_left 1
      · intro W' hSw
        obtain ⟨hS1, hS2⟩ := hSw
        go_simp
        try with_reducible rfl
      try simp only [Act.put, List.setIfInBounds_toArray, List.set_cons_zero, List.set_cons_succ]
      refine wpAnyF_take (i := 10) (oi := ⟨_, _, _, _, _, _⟩) (v := ?_) rfl (by kernel_rfl) (by kernel_rfl) (by kernel_rfl) (by kernel_rfl) (by kernel_rfl) (fun _ _ _ h => h) (Or.inl ⟨by rfl, ?_⟩) (by assumption) ?_
      rotate_left 1
      · intro W' hSw
        obtain ⟨hS1, hS2⟩ := hSw
        go_simp
        try with_reducible rfl
      try simp only [Act.put, List.setIfInBounds_toArray, List.set_cons_zero, List.set_cons_succ]
      refine wpAnyF_last (o := ⟨_, _, _, _, _, _⟩) (by kernel_rfl) rfl (fun K' hK => ?_)
      go_simp
      refine hK.out _ _ ?_
      clear hK K'
      try simp only [Act.put, List.setIfInBounds_toArray, List.set_cons_zero, List.set_cons_succ]
      refine wpAnyF_done (by kernel_rfl) ?_ _
      clear hHeld h11 ko11 kp11 hx12 kp12 ko12
      have hq25 : (qc == 25) = false := by simp [HP2.out.1]
      have hq26 : (qc == 26) = false := by simp [HP2.out.2]
      have ko9 := (h12.at (b := bo) (C := x.enc) (by simp)).1
      have hst := step_any V0' V12 b1 b2 bp [(bo, x.enc)] M1 L2 x X (by
        show TwI _ _ _ _ _ _ _
        rw [← HPL.out]
        exact h12.sub (fun p hp => by simp only [List.mem_cons, List.not_mem_nil, or_false] at hp ⊢; rcases hp with rfl | rfl <;> simp)) (fun p hp => by
        simp only [List.mem_cons, List.not_mem_nil, or_false] at hp
        rcases hp with rfl
        exact HOB.out) (HM1.out.1.sti x.gas X (by have := HN.out.2; omega)) HT.out
      have HH : Hid (((LI ((n + X.length) + (X.length + 1)) (stpF M1 L2 x X).2.1 ∧ CI (stpF M1 L2 x X).2.1) ∧ (LI ((n + X.length) + (X.length + 1)) (stpF M1 L2 x X).2.2 ∧ CI (stpF M1 L2 x X).2.2)) ∧ RcI c (fun _ => True) (stpF M1 L2 x X).2.1 ∧ RcI c (fun _ => True) (stpF M1 L2 x X).2.2) := ⟨stpF_sound HM1.out ⟨HI2.out.1.mono (by omega), HI2.out.2⟩ (by have := HN.out.2; omega), RcI.stp (fun _ _ _ _ => trivial) HRM.out HR2.out HM1.out.1.dep⟩
      obtain ⟨sr, hsr⟩ : ∃ sr, sr = stpF M1 L2 x X := ⟨_, rfl⟩
      rw [← hsr] at hst HH
      clear hsr h12
      go_wp2_with fail
      refine hst.mono ?_
      clear hst ko9
      rintro e V30 ⟨rc, mv, c1, c2, bx', rfl, h30, -, -, -⟩
      dsimp only
      have HJ : Hid (LwP V0' g c (fun _ => True) bp (i + 1) V30) := LwP.mk h30 (by simp) HH.out.1.1 HH.out.1.2 (by have := HN.out.2; omega) (by have := HN.out.2; omega) HH.out.2.1 HH.out.2.2
      have hi9 := HI9.out
      clear h30
      go_wp2_with fail
      refine ⟨rfl, rfl, ⟨rfl, rfl, rfl, i + 1, HN.out.1, ?_, HJ⟩, ?_⟩
      · show Value.int .i64 _ = _
        go_num
      · show len - (intOf (Value.int .i64 _)).toNat < len - (intOf (F 19)).toNat
        rw [H19.out]
        have := HN.out.1
        simp [intOf]; omega
    · have hb1 : (pc != 0) = true := by simp [l1]
      have hb2 : ¬ pa < 0 := by omega
      have hb3 : (sc == 0) = false := by simp [l3]
      have hb4 : ¬ sf < 0 := by omega
      have hb5 : ¬ pa < sf := by omega
      clear l1 l2 l3 l4 l5
      have h10 := H10.out.ext (extends_drewN (ext_Ext (Ext.refl V10)) 1)
      have ko10 := (h10.at (b := bo) (C := x.enc) (by simp)).1
      have kp10 := (h10.at (b := bp) (C := pl1.enc) (by simp)).1
      have hrn := h10.ren (HT.out.ext h10.we) (by have := HN.out.2; omega)
      clear ko kp
      go_upto_region 19 with fail
      repeat go_step
      refine wp_region_F 11 (fun W' => blk W' bo = some x.enc ∧ blk W' bp = some pl1.enc) (by kernel_rfl) ⟨ko10, kp10⟩ (fun hHeld => ?_)
      refine wpAnyF_take (i := 0) (oi := ⟨_, _, _, _, _, _⟩) (v := ?_) rfl (by kernel_rfl) (by kernel_rfl) (by kernel_rfl) (by kernel_rfl) (by kernel_rfl) (fun _ _ _ h => h) (Or.inl ⟨by rfl, ?_⟩) (by assumption) ?_
      rotate_left 1
      · intro W' hSw
        obtain ⟨hS1, hS2⟩ := hSw
        go_simp
        try with_reducible rfl
      try simp only [Act.put, List.setIfInBounds_toArray, List.set_cons_zero, List.set_cons_succ]
      refine wpAnyF_take (i := 1) (oi := ⟨_, _, _, _, _, _⟩) (v := ?_) rfl (by kernel_rfl) (by kernel_rfl) (by kernel_rfl) (by kernel_rfl) (by kernel_rfl) (fun _ _ _ h => h) (Or.inl ⟨by rfl, ?_⟩) (by assumption) ?_
      rotate_left 1
      · intro W' hSw
        obtain ⟨hS1, hS2⟩ := hSw
        go_simp
        try with_reducible rfl
      try simp only [Act.put, List.setIfInBounds_toArray, List.set_cons_zero, List.set_cons_succ]
      refine wpAnyF_take (i := 2) (oi := ⟨_, _, _, _, _, _⟩) (v := ?_) rfl (by kernel_rfl) (by kernel_rfl) (by kernel_rfl) (by kernel_rfl) (by kernel_rfl) (fun _ _ _ h => h) (Or.inl ⟨by rfl, ?_⟩) (by assumption) ?_
      rotate_left 1
      · intro W' hSw
        obtain ⟨hS1, hS2⟩ := hSw
        go_simp
        try with_reducible rfl
      try simp only [Act.put, List.setIfInBounds_toArray, List.set_cons_zero, List.set_cons_succ]
      refine wpAnyF_take (i := 3) (oi := ⟨_, _, _, _, _, _⟩) (v := ?_) rfl (by kernel_rfl) (by kernel_rfl) (by kernel_rfl) (by kernel_rfl) (by kernel_rfl) (fun _ _ _ h => h) (Or.inl ⟨by rfl, ?_⟩) (by assumption) ?_
      rotate_left 1
      · intro W' hSw
        obtain ⟨hS1, hS2⟩ := hSw
        go_simp
        try with_reducible rfl
      try simp only [Act.put, List.setIfInBounds_toArray, List.set_cons_zero, List.set_cons_succ]
      refine wpAnyF_take (i := 4) (oi := ⟨_, _, _, _, _, _⟩) (v := ?_) rfl (by kernel_rfl) (by kernel_rfl) (by kernel_rfl) (by kernel_rfl) (by kernel_rfl) (fun _ _ _ h => h) (Or.inl ⟨by rfl, ?_⟩) (by assumption) ?_
      rotate_left 1
      · intro W' hSw
        obtain ⟨hS1, hS2⟩ := hSw
        go_simp
        try with_reducible rfl
      try simp only [Act.put, List.setIfInBounds_toArray, List.set_cons_zero, List.set_cons_succ]
      refine wpAnyF_take (i := 5) (oi := ⟨_, _, _, _, _, _⟩) (v := ?_) rfl (by kernel_rfl) (by kernel_rfl) (by kernel_rfl) (by kernel_rfl) (by kernel_rfl) (fun _ _ _ h => h) (Or.inl ⟨by rfl, ?_⟩) (by assumption) ?_
      rotate_left 1
      · intro W' hSw
        obtain ⟨hS1, hS2⟩ := hSw
        go_simp
        try with_reducible rfl
      try simp only [Act.put, List.setIfInBounds_toArray, List.set_cons_zero, List.set_cons_succ]
      refine wpAnyF_one (o := ⟨_, _, _, _, _, _⟩) (i := 6) (by kernel_rfl) rfl rfl (fun K' hK => ?_)
      go_simp
      refine hrn.mono ?_
      clear hrn
      rintro e V11 ⟨ya, yn, yc, rfl, hx11, hT11⟩
      dsimp only
      have h11 := h10.ext hx11
      have ko11 := (h11.at (b := bo) (C := x.enc) (by simp)).1
      have kp11 := (h11.at (b := bp) (C := pl1.enc) (by simp)).1
      refine hK.out _ _ ⟨ko11, kp11⟩ (fun hHeld => ?_)
      clear hK K'
      try simp only [Act.put, List.setIfInBounds_toArray, List.set_cons_zero, List.set_cons_succ]
      have hpr := h11.pre hT11
      have HP2 := hid_of (pf_law2 M1 X)
      obtain ⟨qa, hqa⟩ : ∃ qa, qa = (pfF M1 (rnF M1 X)).1 := ⟨_, rfl⟩
      obtain ⟨qc, hqc⟩ : ∃ qc, qc = (pfF M1 (rnF M1 X)).2 := ⟨_, rfl⟩
      rw [← hqa, ← hqc] at hpr
      rw [← hqc] at HP2
      clear hqa hqc hT11 hx11 h10 ko10 kp10
      refine wpAnyF_one (o := ⟨_, _, _, _, _, _⟩) (i := 7) (by kernel_rfl) rfl rfl (fun K' hK => ?_)
      go_simp
      refine hpr.mono ?_
      clear hpr
      rintro e V12 ⟨rfl, hx12⟩
      dsimp only
      have h12 := h11.ext hx12
      have ko12 := (h12.at (b := bo) (C := x.enc) (by simp)).1
      have kp12 := (h12.at (b := bp) (C := pl1.enc) (by simp)).1
      refine hK.out _ _ ⟨ko12, kp12⟩ (fun hHeld => ?_)
      clear hK K'
      try simp only [Act.put, List.setIfInBounds_toArray, List.set_cons_zero, List.set_cons_succ]
      refine wpAnyF_take (i := 8) (oi := ⟨_, _, _, _, _, _⟩) (v := ?_) rfl (by kernel_rfl) (by kernel_rfl) (by kernel_rfl) (by kernel_rfl) (by kernel_rfl) (fun _ _ _ h => h) (Or.inl ⟨by rfl, ?_⟩) (by assumption) ?_
      rotate_left 1
      · intro W' hSw
        obtain ⟨hS1, hS2⟩ := hSw
        go_simp
        try with_reducible rfl
      try simp only [Act.put, List.setIfInBounds_toArray, List.set_cons_zero, List.set_cons_succ]
      refine wpAnyF_take (i := 9) (oi := ⟨_, _, _, _, _, _⟩) (v := ?_) rfl (by kernel_rfl) (by kernel_rfl) (by kernel_rfl) (by kernel_rfl) (by kernel_rfl) (fun _ _ _ h => h) (Or.inl ⟨by rfl, ?_⟩) (by assumption) ?_
      rotate_left 1
      · intro W' hSw
        obtain ⟨hS1, hS2⟩ := hSw
        go_simp
        try with_reducible rfl
      try simp only [Act.put, List.setIfInBounds_toArray, List.set_cons_zero, List.set_cons_succ]
      refine wpAnyF_take (i := 10) (oi := ⟨_, _, _, _, _, _⟩) (v := ?_) rfl (by kernel_rfl) (by kernel_rfl) (by kernel_rfl) (by kernel_rfl) (by kernel_rfl) (fun _ _ _ h => h) (Or.inl ⟨by rfl, ?_⟩) (by assumption) ?_
      rotate_left 1
      · intro W' hSw
        obtain ⟨hS1, hS2⟩ := hSw
        go_simp
        try with_reducible rfl
      try simp only [Act.put, List.setIfInBounds_toArray, List.set_cons_zero, List.set_cons_succ]
      refine wpAnyF_last (o := ⟨_, _, _, _, _, _⟩) (by kernel_rfl) rfl (fun K' hK => ?_)
      go_simp
      refine hK.out _ _ ?_
      clear hK K'
      try simp only [Act.put, List.setIfInBounds_toArray, List.set_cons_zero, List.set_cons_succ]
      refine wpAnyF_done (by kernel_rfl) ?_ _
      clear hHeld h11 ko11 kp11 hx12 kp12 ko12
      have hq25 : (qc == 25) = false := by simp [HP2.out.1]
      have hq26 : (qc == 26) = false := by simp [HP2.out.2]
      have ko9 := (h12.at (b := bo) (C := x.enc) (by simp)).1
      have hst := step_any V0' V12 b1 b2 bp [(bo, x.enc)] M1 L2 x X (by
        show TwI _ _ _ _ _ _ _
        rw [← HPL.out]
        exact h12.sub (fun p hp => by simp only [List.mem_cons, List.not_mem_nil, or_false] at hp ⊢; rcases hp with rfl | rfl <;> simp)) (fun p hp => by
        simp only [List.mem_cons, List.not_mem_nil, or_false] at hp
        rcases hp with rfl
        exact HOB.out) (HM1.out.1.sti x.gas X (by have := HN.out.2; omega)) HT.out
      have HH : Hid (((LI ((n + X.length) + (X.length + 1)) (stpF M1 L2 x X).2.1 ∧ CI (stpF M1 L2 x X).2.1) ∧ (LI ((n + X.length) + (X.length + 1)) (stpF M1 L2 x X).2.2 ∧ CI (stpF M1 L2 x X).2.2)) ∧ RcI c (fun _ => True) (stpF M1 L2 x X).2.1 ∧ RcI c (fun _ => True) (stpF M1 L2 x X).2.2) := ⟨stpF_sound HM1.out ⟨HI2.out.1.mono (by omega), HI2.out.2⟩ (by have := HN.out.2; omega), RcI.stp (fun _ _ _ _ => trivial) HRM.out HR2.out HM1.out.1.dep⟩
      obtain ⟨sr, hsr⟩ : ∃ sr, sr = stpF M1 L2 x X := ⟨_, rfl⟩
      rw [← hsr] at hst HH
      clear hsr h12
      go_wp2_with fail
      refine hst.mono ?_
      clear hst ko9
      rintro e V30 ⟨rc, mv, c1, c2, bx', rfl, h30, -, -, -⟩
      dsimp only
      have HJ : Hid (LwP V0' g c (fun _ => True) bp (i + 1) V30) := LwP.mk h30 (by simp) HH.out.1.1 HH.out.1.2 (by have := HN.out.2; omega) (by have := HN.out.2; omega) HH.out.2.1 HH.out.2.2
      have hi9 := HI9.out
      clear h30
      go_wp2_with fail
      refine ⟨rfl, rfl, ⟨rfl, rfl, rfl, i + 1, HN.out.1, ?_, HJ⟩, ?_⟩
      · show Value.int .i64 _ = _
        go_num
      · show len - (intOf (Value.int .i64 _)).toNat < len - (intOf (F 19)).toNat
        rw [H19.out]
        have := HN.out.1
        simp [intOf]; omega
    · subst l1
      rcases l2 with rfl | rfl | rfl | rfl | rfl | rfl | rfl
      all_goals
        have h10 := H10.out.ext (extends_drewN (ext_Ext (Ext.refl V10)) 1)
        have ko10 := (h10.at (b := bo) (C := x.enc) (by simp)).1
        have kp10 := (h10.at (b := bp) (C := pl1.enc) (by simp)).1
        have hrn := h10.ren (HT.out.ext h10.we) (by have := HN.out.2; omega)
        clear ko kp
        go_upto_region 19 with fail
        repeat go_step
        refine wp_region_F 11 (fun W' => blk W' bo = some x.enc ∧ blk W' bp = some pl1.enc) (by kernel_rfl) ⟨ko10, kp10⟩ (fun hHeld => ?_)
        refine wpAnyF_take (i := 0) (oi := ⟨_, _, _, _, _, _⟩) (v := ?_) rfl (by kernel_rfl) (by kernel_rfl) (by kernel_rfl) (by kernel_rfl) (by kernel_rfl) (fun _ _ _ h => h) (Or.inl ⟨by rfl, ?_⟩) (by assumption) ?_
        rotate_left 1
        · intro W' hSw
          obtain ⟨hS1, hS2⟩ := hSw
          go_simp
          try with_reducible rfl
        try simp only [Act.put, List.setIfInBounds_toArray, List.set_cons_zero, List.set_cons_succ]
        refine wpAnyF_take (i := 1) (oi := ⟨_, _, _, _, _, _⟩) (v := ?_) rfl (by kernel_rfl) (by kernel_rfl) (by kernel_rfl) (by kernel_rfl) (by kernel_rfl) (fun _ _ _ h => h) (Or.inl ⟨by rfl, ?_⟩) (by assumption) ?_
        rotate_left 1
        · intro W' hSw
          obtain ⟨hS1, hS2⟩ := hSw
          go_simp
          try with_reducible rfl
        try simp only [Act.put, List.setIfInBounds_toArray, List.set_cons_zero, List.set_cons_succ]
        refine wpAnyF_take (i := 2) (oi := ⟨_, _, _, _, _, _⟩) (v := ?_) rfl (by kernel_rfl) (by kernel_rfl) (by kernel_rfl) (by kernel_rfl) (by kernel_rfl) (fun _ _ _ h => h) (Or.inl ⟨by rfl, ?_⟩) (by assumption) ?_
        rotate_left 1
        · intro W' hSw
          obtain ⟨hS1, hS2⟩ := hSw
          go_simp
          try with_reducible rfl
        try simp only [Act.put, List.setIfInBounds_toArray, List.set_cons_zero, List.set_cons_succ]
        refine wpAnyF_take (i := 3) (oi := ⟨_, _, _, _, _, _⟩) (v := ?_) rfl (by kernel_rfl) (by kernel_rfl) (by kernel_rfl) (by kernel_rfl) (by kernel_rfl) (fun _ _ _ h => h) (Or.inl ⟨by rfl, ?_⟩) (by assumption) ?_
        rotate_left 1
        · intro W' hSw
          obtain ⟨hS1, hS2⟩ := hSw
          go_simp
          try with_reducible rfl
        try simp only [Act.put, List.setIfInBounds_toArray, List.set_cons_zero, List.set_cons_succ]
        refine wpAnyF_take (i := 4) (oi := ⟨_, _, _, _, _, _⟩) (v := ?_) rfl (by kernel_rfl) (by kernel_rfl) (by kernel_rfl) (by kernel_rfl) (by kernel_rfl) (fun _ _ _ h => h) (Or.inl ⟨by rfl, ?_⟩) (by assumption) ?_
        rotate_left 1
        · intro W' hSw
          obtain ⟨hS1, hS2⟩ := hSw
          go_simp
          try with_reducible rfl
        try simp only [Act.put, List.setIfInBounds_toArray, List.set_cons_zero, List.set_cons_succ]
        refine wpAnyF_take (i := 5) (oi := ⟨_, _, _, _, _, _⟩) (v := ?_) rfl (by kernel_rfl) (by kernel_rfl) (by kernel_rfl) (by kernel_rfl) (by kernel_rfl) (fun _ _ _ h => h) (Or.inl ⟨by rfl, ?_⟩) (by assumption) ?_
        rotate_left 1
        · intro W' hSw
          obtain ⟨hS1, hS2⟩ := hSw
          go_simp
          try with_reducible rfl
        try simp only [Act.put, List.setIfInBounds_toArray, List.set_cons_zero, List.set_cons_succ]
        refine wpAnyF_one (o := ⟨_, _, _, _, _, _⟩) (i := 6) (by kernel_rfl) rfl rfl (fun K' hK => ?_)
        go_simp
        refine hrn.mono ?_
        clear hrn
        rintro e V11 ⟨ya, yn, yc, rfl, hx11, hT11⟩
        dsimp only
        have h11 := h10.ext hx11
        have ko11 := (h11.at (b := bo) (C := x.enc) (by simp)).1
        have kp11 := (h11.at (b := bp) (C := pl1.enc) (by simp)).1
        refine hK.out _ _ ⟨ko11, kp11⟩ (fun hHeld => ?_)
        clear hK K'
        try simp only [Act.put, List.setIfInBounds_toArray, List.set_cons_zero, List.set_cons_succ]
        have hpr := h11.pre hT11
        have HP2 := hid_of (pf_law2 M1 X)
        obtain ⟨qa, hqa⟩ : ∃ qa, qa = (pfF M1 (rnF M1 X)).1 := ⟨_, rfl⟩
        obtain ⟨qc, hqc⟩ : ∃ qc, qc = (pfF M1 (rnF M1 X)).2 := ⟨_, rfl⟩
        rw [← hqa, ← hqc] at hpr
        rw [← hqc] at HP2
        clear hqa hqc hT11 hx11 h10 ko10 kp10
        refine wpAnyF_one (o := ⟨_, _, _, _, _, _⟩) (i := 7) (by kernel_rfl) rfl rfl (fun K' hK => ?_)
        go_simp
        refine hpr.mono ?_
        clear hpr
        rintro e V12 ⟨rfl, hx12⟩
        dsimp only
        have h12 := h11.ext hx12
        have ko12 := (h12.at (b := bo) (C := x.enc) (by simp)).1
        have kp12 := (h12.at (b := bp) (C := pl1.enc) (by simp)).1
        refine hK.out _ _ ⟨ko12, kp12⟩ (fun hHeld => ?_)
        clear hK K'
        try simp only [Act.put, List.setIfInBounds_toArray, List.set_cons_zero, List.set_cons_succ]
        refine wpAnyF_take (i := 8) (oi := ⟨_, _, _, _, _, _⟩) (v := ?_) rfl (by kernel_rfl) (by kernel_rfl) (by kernel_rfl) (by kernel_rfl) (by kernel_rfl) (fun _ _ _ h => h) (Or.inl ⟨by rfl, ?_⟩) (by assumption) ?_
        rotate_left 1
        · intro W' hSw
          obtain ⟨hS1, hS2⟩ := hSw
          go_simp
          try with_reducible rfl
        try simp only [Act.put, List.setIfInBounds_toArray, List.set_cons_zero, List.set_cons_succ]
        refine wpAnyF_take (i := 9) (oi := ⟨_, _, _, _, _, _⟩) (v := ?_) rfl (by kernel_rfl) (by kernel_rfl) (by kernel_rfl) (by kernel_rfl) (by kernel_rfl) (fun _ _ _ h => h) (Or.inl ⟨by rfl, ?_⟩) (by assumption) ?_
        rotate_left 1
        · intro W' hSw
          obtain ⟨hS1, hS2⟩ := hSw
          go_simp
          try with_reducible rfl
        try simp only [Act.put, List.setIfInBounds_toArray, List.set_cons_zero, List.set_cons_succ]
        refine wpAnyF_take (i := 10) (oi := ⟨_, _, _, _, _, _⟩) (v := ?_) rfl (by kernel_rfl) (by kernel_rfl) (by kernel_rfl) (by kernel_rfl) (by kernel_rfl) (fun _ _ _ h => h) (Or.inl ⟨by rfl, ?_⟩) (by assumption) ?_
        rotate_left 1
        · intro W' hSw
          obtain ⟨hS1, hS2⟩ := hSw
          go_simp
          try with_reducible rfl
        try simp only [Act.put, List.setIfInBounds_toArray, List.set_cons_zero, List.set_cons_succ]
        refine wpAnyF_last (o := ⟨_, _, _, _, _, _⟩) (by kernel_rfl) rfl (fun K' hK => ?_)
        go_simp
        refine hK.out _ _ ?_
        clear hK K'
        try simp only [Act.put, List.setIfInBounds_toArray, List.set_cons_zero, List.set_cons_succ]
        refine wpAnyF_done (by kernel_rfl) ?_ _
        clear hHeld h11 ko11 kp11 hx12 kp12 ko12
        have hq25 : (qc == 25) = false := by simp [HP2.out.1]
        have hq26 : (qc == 26) = false := by simp [HP2.out.2]
        have ko9 := (h12.at (b := bo) (C := x.enc) (by simp)).1
        have hst := step_any V0' V12 b1 b2 bp [(bo, x.enc)] M1 L2 x X (by
          show TwI _ _ _ _ _ _ _
          rw [← HPL.out]
          exact h12.sub (fun p hp => by simp only [List.mem_cons, List.not_mem_nil, or_false] at hp ⊢; rcases hp with rfl | rfl <;> simp)) (fun p hp => by
          simp only [List.mem_cons, List.not_mem_nil, or_false] at hp
          rcases hp with rfl
          exact HOB.out) (HM1.out.1.sti x.gas X (by have := HN.out.2; omega)) HT.out
        have HH : Hid (((LI ((n + X.length) + (X.length + 1)) (stpF M1 L2 x X).2.1 ∧ CI (stpF M1 L2 x X).2.1) ∧ (LI ((n + X.length) + (X.length + 1)) (stpF M1 L2 x X).2.2 ∧ CI (stpF M1 L2 x X).2.2)) ∧ RcI c (fun _ => True) (stpF M1 L2 x X).2.1 ∧ RcI c (fun _ => True) (stpF M1 L2 x X).2.2) := ⟨stpF_sound HM1.out ⟨HI2.out.1.mono (by omega), HI2.out.2⟩ (by have := HN.out.2; omega), RcI.stp (fun _ _ _ _ => trivial) HRM.out HR2.out HM1.out.1.dep⟩
        obtain ⟨sr, hsr⟩ : ∃ sr, sr = stpF M1 L2 x X := ⟨_, rfl⟩
        rw [← hsr] at hst HH
        clear hsr h12
        go_wp2_with fail
        refine hst.mono ?_
        clear hst ko9
        rintro e V30 ⟨rc, mv, c1, c2, bx', rfl, h30, -, -, -⟩
        dsimp only
        have HJ : Hid (LwP V0' g c (fun _ => True) bp (i + 1) V30) := LwP.mk h30 (by simp) HH.out.1.1 HH.out.1.2 (by have := HN.out.2; omega) (by have := HN.out.2; omega) HH.out.2.1 HH.out.2.2
        have hi9 := HI9.out
        clear h30
        go_wp2_with fail
        refine ⟨rfl, rfl, ⟨rfl, rfl, rfl, i + 1, HN.out.1, ?_, HJ⟩, ?_⟩
        · show Value.int .i64 _ = _
          go_num
        · show len - (intOf (Value.int .i64 _)).toNat < len - (intOf (F 19)).toNat
          rw [H19.out]
          have := HN.out.1
          simp [intOf]; omega
  by_cases k6 : x.kind = 6
  · have hk5 : (x.kind == 5) = false := by rw [k6]; rfl
    have hk6 : (x.kind == 6) = true := by rw [k6]; rfl
    clear k5 k6
    have hpr := h1.pre (HT.out.ext h1.we)
    obtain ⟨pa, hpa⟩ : ∃ pa, pa = (pfF L1 X).1 := ⟨_, rfl⟩
    obtain ⟨pc, hpc⟩ : ∃ pc, pc = (pfF L1 X).2 := ⟨_, rfl⟩
    have HLW := pf_law (X := X) HI1.out.1 (by have := HN.out.2; omega)
    rw [← hpa, ← hpc] at hpr HLW
    have H1 := hid_of h1
    clear hpa hpc h1
    go_wp2_with fail
    refine hpr.mono ?_
    clear hpr
    rintro e V2 ⟨rfl, hx2⟩
    dsimp only
    have h2 := H1.out.ext hx2
    have ko2 := (h2.at (b := bo) (C := x.enc) (by simp)).1
    have kp2 := (h2.at (b := bp) (C := pl1.enc) (by simp)).1
    have hsti := HI1.out.1.sti x.gas X (by have := HN.out.2; omega)
    have hsm := h2.sim HT.out hsti.bat hsti.savl
    have HM1 : Hid (LI (n + X.length) (batF false L1 X).2 ∧ CI (batF false L1 X).2) := by
      obtain ⟨m, hm, he⟩ := evs_bat false L1 X
      exact ⟨(HI1.out.1.evs he (by have := HN.out.2; omega)).mono (by omega), HI1.out.2.evs HI1.out.1 he (by have := HN.out.2; omega)⟩
    have HRM : Hid (RcI c (fun _ => True) (batF false L1 X).2) := by
      obtain ⟨m, hm, he⟩ := evs_bat false L1 X
      exact HR1.out.evs (fun _ _ _ _ => trivial) he
    obtain ⟨sf, hsf⟩ : ∃ sf, sf = (batF false L1 X).1.1.2 := ⟨_, rfl⟩
    obtain ⟨sc, hsc⟩ : ∃ sc, sc = (batF false L1 X).1.2 := ⟨_, rfl⟩
    obtain ⟨M1, hM1⟩ : ∃ M1, M1 = (batF false L1 X).2 := ⟨_, rfl⟩
    rw [← hsf, ← hsc, ← hM1] at hsm
    rw [← hsf, ← hsc] at HLW
    rw [← hM1] at HM1 HRM
    clear hsf hsc hM1 hsti hx2 h2 H1 ko kp
    go_wp2_with fail
    refine hsm.mono ?_
    clear hsm
    rintro e V10 ⟨⟨za, zn, zc, rfl⟩, h10'⟩
    dsimp only
    have H10 := hid_of h10'
    have ko := (h10'.at (b := bo) (C := x.enc) (by simp)).1
    have kp := (h10'.at (b := bp) (C := pl1.enc) (by simp)).1
    clear ko2 kp2 h10'
    rcases HLW with ⟨l1, l2, l3, l4⟩ | ⟨l1, l2, l3, l4, l5⟩ | ⟨l1, l2⟩
    · subst l3
      subst l4
      have hb1 : (sc != 0) = true := by simp [l1]
      have hb2 : (sc != sc) = false := by simp
      clear l1
      have h10 := H10.out.ext (extends_drewN (ext_Ext (Ext.refl V10)) 1)
      have ko10 := (h10.at (b := bo) (C := x.enc) (by simp)).1
      have kp10 := (h10.at (b := bp) (C := pl1.enc) (by simp)).1
      have hrn := h10.ren (HT.out.ext h10.we) (by have := HN.out.2; omega)
      clear ko kp
      go_upto_region 19 with fail
      repeat go_step
      refine wp_region_F 11 (fun W' => blk W' bo = some x.enc ∧ blk W' bp = some pl1.enc) (by kernel_rfl) ⟨ko10, kp10⟩ (fun hHeld => ?_)
      refine wpAnyF_take (i := 0) (oi := ⟨_, _, _, _, _, _⟩) (v := ?_) rfl (by kernel_rfl) (by kernel_rfl) (by kernel_rfl) (by kernel_rfl) (by kernel_rfl) (fun _ _ _ h => h) (Or.inl ⟨by rfl, ?_⟩) (by assumption) ?_
      rotate_left 1
      · intro W' hSw
        obtain ⟨hS1, hS2⟩ := hSw
        go_simp
        try with_reducible rfl
      try simp only [Act.put, List.setIfInBounds_toArray, List.set_cons_zero, List.set_cons_succ]
      refine wpAnyF_take (i := 1) (oi := ⟨_, _, _, _, _, _⟩) (v := ?_) rfl (by kernel_rfl) (by kernel_rfl) (by kernel_rfl) (by kernel_rfl) (by kernel_rfl) (fun _ _ _ h => h) (Or.inl ⟨by rfl, ?_⟩) (by assumption) ?_
      rotate_left 1
      · intro W' hSw
        obtain ⟨hS1, hS2⟩ := hSw
        go_simp
        try with_reducible rfl
      try simp only [Act.put, List.setIfInBounds_toArray, List.set_cons_zero, List.set_cons_succ]
      refine wpAnyF_take (i := 2) (oi := ⟨_, _, _, _, _, _⟩) (v := ?_) rfl (by kernel_rfl) (by kernel_rfl) (by kernel_rfl) (by kernel_rfl) (by kernel_rfl) (fun _ _ _ h => h) (Or.inl ⟨by rfl, ?_⟩) (by assumption) ?_
      rotate_left 1
      · intro W' hSw
        obtain ⟨hS1, hS2⟩ := hSw
        go_simp
        try with_reducible rfl
      try simp only [Act.put, List.setIfInBounds_toArray, List.set_cons_zero, List.set_cons_succ]
      refine wpAnyF_take (i := 3) (oi := ⟨_, _, _, _, _, _⟩) (v := ?_) rfl (by kernel_rfl) (by kernel_rfl) (by kernel_rfl) (by kernel_rfl) (by kernel_rfl) (fun _ _ _ h => h) (Or.inl ⟨by rfl, ?_⟩) (by assumption) ?_
      rotate_left 1
      · intro W' hSw
        obtain ⟨hS1, hS2⟩ := hSw
        go_simp
        try with_reducible rfl
      try simp only [Act.put, List.setIfInBounds_toArray, List.set_cons_zero, List.set_cons_succ]
      refine wpAnyF_take (i := 4) (oi := ⟨_, _, _, _, _, _⟩) (v := ?_) rfl (by kernel_rfl) (by kernel_rfl) (by kernel_rfl) (by kernel_rfl) (by kernel_rfl) (fun _ _ _ h => h) (Or.inl ⟨by rfl, ?_⟩) (by assumption) ?_
      rotate_left 1
      · intro W' hSw
        obtain ⟨hS1, hS2⟩ := hSw
        go_simp
        try with_reducible rfl
      try simp only [Act.put, List.setIfInBounds_toArray, List.set_cons_zero, List.set_cons_succ]
      refine wpAnyF_take (i := 5) (oi := ⟨_, _, _, _, _, _⟩) (v := ?_) rfl (by kernel_rfl) (by kernel_rfl) (by kernel_rfl) (by kernel_rfl) (by kernel_rfl) (fun _ _ _ h => h) (Or.inl ⟨by rfl, ?_⟩) (by assumption) ?_
      rotate_left 1
      · intro W' hSw
        obtain ⟨hS1, hS2⟩ := hSw
        go_simp
        try with_reducible rfl
      try simp only [Act.put, List.setIfInBounds_toArray, List.set_cons_zero, List.set_cons_succ]
      refine wpAnyF_one (o := ⟨_, _, _, _, _, _⟩) (i := 6) (by kernel_rfl) rfl rfl (fun K' hK => ?_)
      go_simp
      refine hrn.mono ?_
      clear hrn
      rintro e V11 ⟨ya, yn, yc, rfl, hx11, hT11⟩
      dsimp only
      have h11 := h10.ext hx11
      have ko11 := (h11.at (b := bo) (C := x.enc) (by simp)).1
      have kp11 := (h11.at (b := bp) (C := pl1.enc) (by simp)).1
      refine hK.out _ _ ⟨ko11, kp11⟩ (fun hHeld => ?_)
      clear hK K'
      try simp only [Act.put, List.setIfInBounds_toArray, List.set_cons_zero, List.set_cons_succ]
      have hpr := h11.pre hT11
      have HP2 := hid_of (pf_law2 M1 X)
      obtain ⟨qa, hqa⟩ : ∃ qa, qa = (pfF M1 (rnF M1 X)).1 := ⟨_, rfl⟩
      obtain ⟨qc, hqc⟩ : ∃ qc, qc = (pfF M1 (rnF M1 X)).2 := ⟨_, rfl⟩
      rw [← hqa, ← hqc] at hpr
      rw [← hqc] at HP2
      clear hqa hqc hT11 hx11 h10 ko10 kp10
      refine wpAnyF_one (o := ⟨_, _, _, _, _, _⟩) (i := 7) (by kernel_rfl) rfl rfl (fun K' hK => ?_)
      go_simp
      refine hpr.mono ?_
      clear hpr
      rintro e V12 ⟨rfl, hx12⟩
      dsimp only
      have h12 := h11.ext hx12
      have ko12 := (h12.at (b := bo) (C := x.enc) (by simp)).1
      have kp12 := (h12.at (b := bp) (C := pl1.enc) (by simp)).1
      refine hK.out _ _ ⟨ko12, kp12⟩ (fun hHeld => ?_)
      clear hK K'
      try simp only [Act.put, List.setIfInBounds_toArray, List.set_cons_zero, List.set_cons_succ]
      refine wpAnyF_take (i := 8) (oi := ⟨_, _, _, _, _, _⟩) (v := ?_) rfl (by kernel_rfl) (by kernel_rfl) (by kernel_rfl) (by kernel_rfl) (by kernel_rfl) (fun _ _ _ h => h) (Or.inl ⟨by rfl, ?_⟩) (by assumption) ?_
      rotate_left 1
      · intro W' hSw
        obtain ⟨hS1, hS2⟩ := hSw
        go_simp
        try with_reducible rfl
      try simp only [Act.put, List.setIfInBounds_toArray, List.set_cons_zero, List.set_cons_succ]
      refine wpAnyF_take (i := 9) (oi := ⟨_, _, _, _, _, _⟩) (v := ?_) rfl (by kernel_rfl) (by kernel_rfl) (by kernel_rfl) (by kernel_rfl) (by kernel_rfl) (fun _ _ _ h => h) (Or.inl ⟨by rfl, ?_⟩) (by assumption) ?_
      rotate_left 1
      · intro W' hSw
        obtain ⟨hS1, hS2⟩ := hSw
        go_simp
        try with_reducible rfl
      try simp only [Act.put, List.setIfInBounds_toArray, List.set_cons_zero, List.set_cons_succ]
      refine wpAnyF_take (i := 10) (oi := ⟨_, _, _, _, _, _⟩) (v := ?_) rfl (by kernel_rfl) (by kernel_rfl) (by kernel_rfl) (by kernel_rfl) (by kernel_rfl) (fun _ _ _ h => h) (Or.inl ⟨by rfl, ?_⟩) (by assumption) ?_
      rotate_left 1
      · intro W' hSw
        obtain ⟨hS1, hS2⟩ := hSw
        go_simp
        try with_reducible rfl
      try simp only [Act.put, List.setIfInBounds_toArray, List.set_cons_zero, List.set_cons_succ]
      refine wpAnyF_last (o := ⟨_, _, _, _, _, _⟩) (by kernel_rfl) rfl (fun K' hK => ?_)
      go_simp
      refine hK.out _ _ ?_
      clear hK K'
      try simp only [Act.put, List.setIfInBounds_toArray, List.set_cons_zero, List.set_cons_succ]
      refine wpAnyF_done (by kernel_rfl) ?_ _
      clear hHeld h11 ko11 kp11 hx12 kp12 ko12
      have hq25 : (qc == 25) = false := by simp [HP2.out.1]
      have hq26 : (qc == 26) = false := by simp [HP2.out.2]
      have ko9 := (h12.at (b := bo) (C := x.enc) (by simp)).1
      have hst := step_any V0' V12 b1 b2 bp [(bo, x.enc)] M1 L2 x X (by
        show TwI _ _ _ _ _ _ _
        rw [← HPL.out]
        exact h12.sub (fun p hp => by simp only [List.mem_cons, List.not_mem_nil, or_false] at hp ⊢; rcases hp with rfl | rfl <;> simp)) (fun p hp => by
        simp only [List.mem_cons, List.not_mem_nil, or_false] at hp
        rcases hp with rfl
        exact HOB.out) (HM1.out.1.sti x.gas X (by have := HN.out.2; omega)) HT.out
      have HH : Hid (((LI ((n + X.length) + (X.length + 1)) (stpF M1 L2 x X).2.1 ∧ CI (stpF M1 L2 x X).2.1) ∧ (LI ((n + X.length) + (X.length + 1)) (stpF M1 L2 x X).2.2 ∧ CI (stpF M1 L2 x X).2.2)) ∧ RcI c (fun _ => True) (stpF M1 L2 x X).2.1 ∧ RcI c (fun _ => True) (stpF M1 L2 x X).2.2) := ⟨stpF_sound HM1.out ⟨HI2.out.1.mono (by omega), HI2.out.2⟩ (by have := HN.out.2; omega), RcI.stp (fun _ _ _ _ => trivial) HRM.out HR2.out HM1.out.1.dep⟩
      obtain ⟨sr, hsr⟩ : ∃ sr, sr = stpF M1 L2 x X := ⟨_, rfl⟩
      rw [← hsr] at hst HH
      clear hsr h12
      go_wp2_with fail
      refine hst.mono ?_
      clear hst ko9
      rintro e V30 ⟨rc, mv, c1, c2, bx', rfl, h30, -, -, -⟩
      dsimp only
      have HJ : Hid (LwP V0' g c (fun _ => True) bp (i + 1) V30) := LwP.mk h30 (by simp) HH.out.1.1 HH.out.1.2 (by have := HN.out.2; omega) (by have := HN.out.2; omega) HH.out.2.1 HH.out.2.2
      have hi9 := HI9.out
      clear h30
      go_wp2_with fail
      refine ⟨rfl, rfl, ⟨rfl, rfl, rfl, i + 1, HN.out.1, ?_, HJ⟩, ?_⟩
      · show Value.int .i64 _ = _
        go_num
      · show len - (intOf (Value.int .i64 _)).toNat < len - (intOf (F 19)).toNat
        rw [H19.out]
        have := HN.out.1
        simp [intOf]; omega
    · have hb1 : (pc != 0) = true := by simp [l1]
      have hb2 : ¬ pa < 0 := by omega
      have hb3 : (sc == 0) = false := by simp [l3]
      have hb4 : ¬ sf < 0 := by omega
      have hb5 : ¬ pa < sf := by omega
      clear l1 l2 l3 l4 l5
      have h10 := H10.out.ext (extends_drewN (ext_Ext (Ext.refl V10)) 1)
      have ko10 := (h10.at (b := bo) (C := x.enc) (by simp)).1
      have kp10 := (h10.at (b := bp) (C := pl1.enc) (by simp)).1
      have hrn := h10.ren (HT.out.ext h10.we) (by have := HN.out.2; omega)
      clear ko kp
      go_upto_region 19 with fail
      repeat go_step
      refine wp_region_F 11 (fun W' => blk W' bo = some x.enc ∧ blk W' bp = some pl1.enc) (by kernel_rfl) ⟨ko10, kp10⟩ (fun hHeld => ?_)
      refine wpAnyF_take (i := 0) (oi := ⟨_, _, _, _, _, _⟩) (v := ?_) rfl (by kernel_rfl) (by kernel_rfl) (by kernel_rfl) (by kernel_rfl) (by kernel_rfl) (fun _ _ _ h => h) (Or.inl ⟨by rfl, ?_⟩) (by assumption) ?_
      rotate_left 1
      · intro W' hSw
        obtain ⟨hS1, hS2⟩ := hSw
        go_simp
        try with_reducible rfl
      try simp only [Act.put, List.setIfInBounds_toArray, List.set_cons_zero, List.set_cons_succ]
      refine wpAnyF_take (i := 1) (oi := ⟨_, _, _, _, _, _⟩) (v := ?_) rfl (by kernel_rfl) (by kernel_rfl) (by kernel_rfl) (by kernel_rfl) (by kernel_rfl) (fun _ _ _ h => h) (Or.inl ⟨by rfl, ?_⟩) (by assumption) ?_
      rotate_left 1
      · intro W' hSw
        obtain ⟨hS1, hS2⟩ := hSw
        go_simp
        try with_reducible rfl
      try simp only [Act.put, List.setIfInBounds_toArray, List.set_cons_zero, List.set_cons_succ]
      refine wpAnyF_take (i := 2) (oi := ⟨_, _, _, _, _, _⟩) (v := ?_) rfl (by kernel_rfl) (by kernel_rfl) (by kernel_rfl) (by kernel_rfl) (by kernel_rfl) (fun _ _ _ h => h) (Or.inl ⟨by rfl, ?_⟩) (by assumption) ?_
      rotate_left 1
      · intro W' hSw
        obtain ⟨hS1, hS2⟩ := hSw
        go_simp
        try with_reducible rfl
      try simp only [Act.put, List.setIfInBounds_toArray, List.set_cons_zero, List.set_cons_succ]
      refine wpAnyF_take (i := 3) (oi := ⟨_, _, _, _, _, _⟩) (v := ?_) rfl (by kernel_rfl) (by kernel_rfl) (by kernel_rfl) (by kernel_rfl) (by kernel_rfl) (fun _ _ _ h => h) (Or.inl ⟨by rfl, ?_⟩) (by assumption) ?_
      rotate_left 1
      · intro W' hSw
        obtain ⟨hS1, hS2⟩ := hSw
        go_simp
        try with_reducible rfl
      try simp only [Act.put, List.setIfInBounds_toArray, List.set_cons_zero, List.set_cons_succ]
      refine wpAnyF_take (i := 4) (oi := ⟨_, _, _, _, _, _⟩) (v := ?_) rfl (by kernel_rfl) (by kernel_rfl) (by kernel_rfl) (by kernel_rfl) (by kernel_rfl) (fun _ _ _ h => h) (Or.inl ⟨by rfl, ?_⟩) (by assumption) ?_
      rotate_left 1
      · intro W' hSw
        obtain ⟨hS1, hS2⟩ := hSw
        go_simp
        try with_reducible rfl
      try simp only [Act.put, List.setIfInBounds_toArray, List.set_cons_zero, List.set_cons_succ]
      refine wpAnyF_take (i := 5) (oi := ⟨_, _, _, _, _, _⟩) (v := ?_) rfl (by kernel_rfl) (by kernel_rfl) (by kernel_rfl) (by kernel_rfl) (by kernel_rfl) (fun _ _ _ h => h) (Or.inl ⟨by rfl, ?_⟩) (by assumption) ?_
      rotate_left 1
      · intro W' hSw
        obtain ⟨hS1, hS2⟩ := hSw
        go_simp
        try with_reducible rfl
      try simp only [Act.put, List.setIfInBounds_toArray, List.set_cons_zero, List.set_cons_succ]
      refine wpAnyF_one (o := ⟨_, _, _, _, _, _⟩) (i := 6) (by kernel_rfl) rfl rfl (fun K' hK => ?_)
      go_simp
      refine hrn.mono ?_
      clear hrn
      rintro e V11 ⟨ya, yn, yc, rfl, hx11, hT11⟩
      dsimp only
      have h11 := h10.ext hx11
      have ko11 := (h11.at (b := bo) (C := x.enc) (by simp)).1
      have kp11 := (h11.at (b := bp) (C := pl1.enc) (by simp)).1
      refine hK.out _ _ ⟨ko11, kp11⟩ (fun hHeld => ?_)
      clear hK K'
      try simp only [Act.put, List.setIfInBounds_toArray, List.set_cons_zero, List.set_cons_succ]
      have hpr := h11.pre hT11
      have HP2 := hid_of (pf_law2 M1 X)
      obtain ⟨qa, hqa⟩ : ∃ qa, qa = (pfF M1 (rnF M1 X)).1 := ⟨_, rfl⟩
      obtain ⟨qc, hqc⟩ : ∃ qc, qc = (pfF M1 (rnF M1 X)).2 := ⟨_, rfl⟩
      rw [← hqa, ← hqc] at hpr
      rw [← hqc] at HP2
      clear hqa hqc hT11 hx11 h10 ko10 kp10
      refine wpAnyF_one (o := ⟨_, _, _, _, _, _⟩) (i := 7) (by kernel_rfl) rfl rfl (fun K' hK => ?_)
      go_simp
      refine hpr.mono ?_
      clear hpr
      rintro e V12 ⟨rfl, hx12⟩
      dsimp only
      have h12 := h11.ext hx12
      have ko12 := (h12.at (b := bo) (C := x.enc) (by simp)).1
      have kp12 := (h12.at (b := bp) (C := pl1.enc) (by simp)).1
      refine hK.out _ _ ⟨ko12, kp12⟩ (fun hHeld => ?_)
      clear hK K'
      try simp only [Act.put, List.setIfInBounds_toArray, List.set_cons_zero, List.set_cons_succ]
      refine wpAnyF_take (i := 8) (oi := ⟨_, _, _, _, _, _⟩) (v := ?_) rfl (by kernel_rfl) (by kernel_rfl) (by kernel_rfl) (by kernel_rfl) (by kernel_rfl) (fun _ _ _ h => h) (Or.inl ⟨by rfl, ?_⟩) (by assumption) ?_
      rotate_left 1
      · intro W' hSw
        obtain ⟨hS1, hS2⟩ := hSw
        go_simp
        try with_reducible rfl
      try simp only [Act.put, List.setIfInBounds_toArray, List.set_cons_zero, List.set_cons_succ]
      refine wpAnyF_take (i := 9) (oi := ⟨_, _, _, _, _, _⟩) (v := ?_) rfl (by kernel_rfl) (by kernel_rfl) (by kernel_rfl) (by kernel_rfl) (by kernel_rfl) (fun _ _ _ h => h) (Or.inl ⟨by rfl, ?_⟩) (by assumption) ?_
      rotate_left 1
      · intro W' hSw
        obtain ⟨hS1, hS2⟩ := hSw
        go_simp
        try with_reducible rfl
      try simp only [Act.put, List.setIfInBounds_toArray, List.set_cons_zero, List.set_cons_succ]
      refine wpAnyF_take (i := 10) (oi := ⟨_, _, _, _, _, _⟩) (v := ?_) rfl (by kernel_rfl) (by kernel_rfl) (by kernel_rfl) (by kernel_rfl) (by kernel_rfl) (fun _ _ _ h => h) (Or.inl ⟨by rfl, ?_⟩) (by assumption) ?_
      rotate_left 1
      · intro W' hSw
        obtain ⟨hS1, hS2⟩ := hSw
        go_simp
        try with_reducible rfl
      try simp only [Act.put, List.setIfInBounds_toArray, List.set_cons_zero, List.set_cons_succ]
      refine wpAnyF_last (o := ⟨_, _, _, _, _, _⟩) (by kernel_rfl) rfl (fun K' hK => ?_)
      go_simp
      refine hK.out _ _ ?_
      clear hK K'
      try simp only [Act.put, List.setIfInBounds_toArray, List.set_cons_zero, List.set_cons_succ]
      refine wpAnyF_done (by kernel_rfl) ?_ _
      clear hHeld h11 ko11 kp11 hx12 kp12 ko12
      have hq25 : (qc == 25) = false := by simp [HP2.out.1]
      have hq26 : (qc == 26) = false := by simp [HP2.out.2]
      have ko9 := (h12.at (b := bo) (C := x.enc) (by simp)).1
      have hst := step_any V0' V12 b1 b2 bp [(bo, x.enc)] M1 L2 x X (by
        show TwI _ _ _ _ _ _ _
        rw [← HPL.out]
        exact h12.sub (fun p hp => by simp only [List.mem_cons, List.not_mem_nil, or_false] at hp ⊢; rcases hp with rfl | rfl <;> simp)) (fun p hp => by
        simp only [List.mem_cons, List.not_mem_nil, or_false] at hp
        rcases hp with rfl
        exact HOB.out) (HM1.out.1.sti x.gas X (by have := HN.out.2; omega)) HT.out
      have HH : Hid (((LI ((n + X.length) + (X.length + 1)) (stpF M1 L2 x X).2.1 ∧ CI (stpF M1 L2 x X).2.1) ∧ (LI ((n + X.length) + (X.length + 1)) (stpF M1 L2 x X).2.2 ∧ CI (stpF M1 L2 x X).2.2)) ∧ RcI c (fun _ => True) (stpF M1 L2 x X).2.1 ∧ RcI c (fun _ => True) (stpF M1 L2 x X).2.2) := ⟨stpF_sound HM1.out ⟨HI2.out.1.mono (by omega), HI2.out.2⟩ (by have := HN.out.2; omega), RcI.stp (fun _ _ _ _ => trivial) HRM.out HR2.out HM1.out.1.dep⟩
      obtain ⟨sr, hsr⟩ : ∃ sr, sr = stpF M1 L2 x X := ⟨_, rfl⟩
      rw [← hsr] at hst HH
      clear hsr h12
      go_wp2_with fail
      refine hst.mono ?_
      clear hst ko9
      rintro e V30 ⟨rc, mv, c1, c2, bx', rfl, h30, -, -, -⟩
      dsimp only
      have HJ : Hid (LwP V0' g c (fun _ => True) bp (i + 1) V30) := LwP.mk h30 (by simp) HH.out.1.1 HH.out.1.2 (by have := HN.out.2; omega) (by have := HN.out.2; omega) HH.out.2.1 HH.out.2.2
      have hi9 := HI9.out
      clear h30
      go_wp2_with fail
      refine ⟨rfl, rfl, ⟨rfl, rfl, rfl, i + 1, HN.out.1, ?_, HJ⟩, ?_⟩
      · show Value.int .i64 _ = _
        go_num
      · show len - (intOf (Value.int .i64 _)).toNat < len - (intOf (F 19)).toNat
        rw [H19.out]
        have := HN.out.1
        simp [intOf]; omega
    · subst l1
      rcases l2 with rfl | rfl | rfl | rfl | rfl | rfl | rfl
      all_goals
        have h10 := H10.out.ext (extends_drewN (ext_Ext (Ext.refl V10)) 1)
        have ko10 := (h10.at (b := bo) (C := x.enc) (by simp)).1
        have kp10 := (h10.at (b := bp) (C := pl1.enc) (by simp)).1
        have hrn := h10.ren (HT.out.ext h10.we) (by have := HN.out.2; omega)
        clear ko kp
        go_upto_region 19 with fail
        repeat go_step
        refine wp_region_F 11 (fun W' => blk W' bo = some x.enc ∧ blk W' bp = some pl1.enc) (by kernel_rfl) ⟨ko10, kp10⟩ (fun hHeld => ?_)
        refine wpAnyF_take (i := 0) (oi := ⟨_, _, _, _, _, _⟩) (v := ?_) rfl (by kernel_rfl) (by kernel_rfl) (by kernel_rfl) (by kernel_rfl) (by kernel_rfl) (fun _ _ _ h => h) (Or.inl ⟨by rfl, ?_⟩) (by assumption) ?_
        rotate_left 1
        · intro W' hSw
          obtain ⟨hS1, hS2⟩ := hSw
          go_simp
          try with_reducible rfl
        try simp only [Act.put, List.setIfInBounds_toArray, List.set_cons_zero, List.set_cons_succ]
        refine wpAnyF_take (i := 1) (oi := ⟨_, _, _, _, _, _⟩) (v := ?_) rfl (by kernel_rfl) (by kernel_rfl) (by kernel_rfl) (by kernel_rfl) (by kernel_rfl) (fun _ _ _ h => h) (Or.inl ⟨by rfl, ?_⟩) (by assumption) ?_
        rotate_left 1
        · intro W' hSw
          obtain ⟨hS1, hS2⟩ := hSw
          go_simp
          try with_reducible rfl
        try simp only [Act.put, List.setIfInBounds_toArray, List.set_cons_zero, List.set_cons_succ]
        refine wpAnyF_take (i := 2) (oi := ⟨_, _, _, _, _, _⟩) (v := ?_) rfl (by kernel_rfl) (by kernel_rfl) (by kernel_rfl) (by kernel_rfl) (by kernel_rfl) (fun _ _ _ h => h) (Or.inl ⟨by rfl, ?_⟩) (by assumption) ?_
        rotate_left 1
        · intro W' hSw
          obtain ⟨hS1, hS2⟩ := hSw
          go_simp
          try with_reducible rfl
        try simp only [Act.put, List.setIfInBounds_toArray, List.set_cons_zero, List.set_cons_succ]
        refine wpAnyF_take (i := 3) (oi := ⟨_, _, _, _, _, _⟩) (v := ?_) rfl (by kernel_rfl) (by kernel_rfl) (by kernel_rfl) (by kernel_rfl) (by kernel_rfl) (fun _ _ _ h => h) (Or.inl ⟨by rfl, ?_⟩) (by assumption) ?_
        rotate_left 1
        · intro W' hSw
          obtain ⟨hS1, hS2⟩ := hSw
          go_simp
          try with_reducible rfl
        try simp only [Act.put, List.setIfInBounds_toArray, List.set_cons_zero, List.set_cons_succ]
        refine wpAnyF_take (i := 4) (oi := ⟨_, _, _, _, _, _⟩) (v := ?_) rfl (by kernel_rfl) (by kernel_rfl) (by kernel_rfl) (by kernel_rfl) (by kernel_rfl) (fun _ _ _ h => h) (Or.inl ⟨by rfl, ?_⟩) (by assumption) ?_
        rotate_left 1
        · intro W' hSw
          obtain ⟨hS1, hS2⟩ := hSw
          go_simp
          try with_reducible rfl
        try simp only [Act.put, List.setIfInBounds_toArray, List.set_cons_zero, List.set_cons_succ]
        refine wpAnyF_take (i := 5) (oi := ⟨_, _, _, _, _, _⟩) (v := ?_) rfl (by kernel_rfl) (by kernel_rfl) (by kernel_rfl) (by kernel_rfl) (by kernel_rfl) (fun _ _ _ h => h) (Or.inl ⟨by rfl, ?_⟩) (by assumption) ?_
        rotate_left 1
        · intro W' hSw
          obtain ⟨hS1, hS2⟩ := hSw
          go_simp
          try with_reducible rfl
        try simp only [Act.put, List.setIfInBounds_toArray, List.set_cons_zero, List.set_cons_succ]
        refine wpAnyF_one (o := ⟨_, _, _, _, _, _⟩) (i := 6) (by kernel_rfl) rfl rfl (fun K' hK => ?_)
        go_simp
        refine hrn.mono ?_
        clear hrn
        rintro e V11 ⟨ya, yn, yc, rfl, hx11, hT11⟩
        dsimp only
        have h11 := h10.ext hx11
        have ko11 := (h11.at (b := bo) (C := x.enc) (by simp)).1
        have kp11 := (h11.at (b := bp) (C := pl1.enc) (by simp)).1
        refine hK.out _ _ ⟨ko11, kp11⟩ (fun hHeld => ?_)
        clear hK K'
        try simp only [Act.put, List.setIfInBounds_toArray, List.set_cons_zero, List.set_cons_succ]
        have hpr := h11.pre hT11
        have HP2 := hid_of (pf_law2 M1 X)
        obtain ⟨qa, hqa⟩ : ∃ qa, qa = (pfF M1 (rnF M1 X)).1 := ⟨_, rfl⟩
        obtain ⟨qc, hqc⟩ : ∃ qc, qc = (pfF M1 (rnF M1 X)).2 := ⟨_, rfl⟩
        rw [← hqa, ← hqc] at hpr
        rw [← hqc] at HP2
        clear hqa hqc hT11 hx11 h10 ko10 kp10
        refine wpAnyF_one (o := ⟨_, _, _, _, _, _⟩) (i := 7) (by kernel_rfl) rfl rfl (fun K' hK => ?_)
        go_simp
        refine hpr.mono ?_
        clear hpr
        rintro e V12 ⟨rfl, hx12⟩
        dsimp only
        have h12 := h11.ext hx12
        have ko12 := (h12.at (b := bo) (C := x.enc) (by simp)).1
        have kp12 := (h12.at (b := bp) (C := pl1.enc) (by simp)).1
        refine hK.out _ _ ⟨ko12, kp12⟩ (fun hHeld => ?_)
        clear hK K'
        try simp only [Act.put, List.setIfInBounds_toArray, List.set_cons_zero, List.set_cons_succ]
        refine wpAnyF_take (i := 8) (oi := ⟨_, _, _, _, _, _⟩) (v := ?_) rfl (by kernel_rfl) (by kernel_rfl) (by kernel_rfl) (by kernel_rfl) (by kernel_rfl) (fun _ _ _ h => h) (Or.inl ⟨by rfl, ?_⟩) (by assumption) ?_
        rotate_left 1
        · intro W' hSw
          obtain ⟨hS1, hS2⟩ := hSw
          go_simp
          try with_reducible rfl
        try simp only [Act.put, List.setIfInBounds_toArray, List.set_cons_zero, List.set_cons_succ]
        refine wpAnyF_take (i := 9) (oi := ⟨_, _, _, _, _, _⟩) (v := ?_) rfl (by kernel_rfl) (by kernel_rfl) (by kernel_rfl) (by kernel_rfl) (by kernel_rfl) (fun _ _ _ h => h) (Or.inl ⟨by rfl, ?_⟩) (by assumption) ?_
        rotate_left 1
        · intro W' hSw
          obtain ⟨hS1, hS2⟩ := hSw
          go_simp
          try with_reducible rfl
        try simp only [Act.put, List.setIfInBounds_toArray, List.set_cons_zero, List.set_cons_succ]
        refine wpAnyF_take (i := 10) (oi := ⟨_, _, _, _, _, _⟩) (v := ?_) rfl (by kernel_rfl) (by kernel_rfl) (by kernel_rfl) (by kernel_rfl) (by kernel_rfl) (fun _ _ _ h => h) (Or.inl ⟨by rfl, ?_⟩) (by assumption) ?_
        rotate_left 1
        · intro W' hSw
          obtain ⟨hS1, hS2⟩ := hSw
          go_simp
          try with_reducible rfl
        try simp only [Act.put, List.setIfInBounds_toArray, List.set_cons_zero, List.set_cons_succ]
        refine wpAnyF_last (o := ⟨_, _, _, _, _, _⟩) (by kernel_rfl) rfl (fun K' hK => ?_)
        go_simp
        refine hK.out _ _ ?_
        clear hK K'
        try simp only [Act.put, List.setIfInBounds_toArray, List.set_cons_zero, List.set_cons_succ]
        refine wpAnyF_done (by kernel_rfl) ?_ _
        clear hHeld h11 ko11 kp11 hx12 kp12 ko12
        have hq25 : (qc == 25) = false := by simp [HP2.out.1]
        have hq26 : (qc == 26) = false := by simp [HP2.out.2]
        have ko9 := (h12.at (b := bo) (C := x.enc) (by simp)).1
        have hst := step_any V0' V12 b1 b2 bp [(bo, x.enc)] M1 L2 x X (by
          show TwI _ _ _ _ _ _ _
          rw [← HPL.out]
          exact h12.sub (fun p hp => by simp only [List.mem_cons, List.not_mem_nil, or_false] at hp ⊢; rcases hp with rfl | rfl <;> simp)) (fun p hp => by
          simp only [List.mem_cons, List.not_mem_nil, or_false] at hp
          rcases hp with rfl
          exact HOB.out) (HM1.out.1.sti x.gas X (by have := HN.out.2; omega)) HT.out
        have HH : Hid (((LI ((n + X.length) + (X.length + 1)) (stpF M1 L2 x X).2.1 ∧ CI (stpF M1 L2 x X).2.1) ∧ (LI ((n + X.length) + (X.length + 1)) (stpF M1 L2 x X).2.2 ∧ CI (stpF M1 L2 x X).2.2)) ∧ RcI c (fun _ => True) (stpF M1 L2 x X).2.1 ∧ RcI c (fun _ => True) (stpF M1 L2 x X).2.2) := ⟨stpF_sound HM1.out ⟨HI2.out.1.mono (by omega), HI2.out.2⟩ (by have := HN.out.2; omega), RcI.stp (fun _ _ _ _ => trivial) HRM.out HR2.out HM1.out.1.dep⟩
        obtain ⟨sr, hsr⟩ : ∃ sr, sr = stpF M1 L2 x X := ⟨_, rfl⟩
        rw [← hsr] at hst HH
        clear hsr h12
        go_wp2_with fail
        refine hst.mono ?_
        clear hst ko9
        rintro e V30 ⟨rc, mv, c1, c2, bx', rfl, h30, -, -, -⟩
        dsimp only
        have HJ : Hid (LwP V0' g c (fun _ => True) bp (i + 1) V30) := LwP.mk h30 (by simp) HH.out.1.1 HH.out.1.2 (by have := HN.out.2; omega) (by have := HN.out.2; omega) HH.out.2.1 HH.out.2.2
        have hi9 := HI9.out
        clear h30
        go_wp2_with fail
        refine ⟨rfl, rfl, ⟨rfl, rfl, rfl, i + 1, HN.out.1, ?_, HJ⟩, ?_⟩
        · show Value.int .i64 _ = _
          go_num
        · show len - (intOf (Value.int .i64 _)).toNat < len - (intOf (F 19)).toNat
          rw [H19.out]
          have := HN.out.1
          simp [intOf]; omega
  have hk5 : (x.kind == 5) = false := by simp [k5]
  have hk6 : (x.kind == 6) = false := by simp [k6]
  clear k5 k6 ko
  have ko := (h1.at (b := bo) (C := x.enc) (by simp)).1
  have ko9 := (h1.at (b := bo) (C := x.enc) (by simp)).1
  have hst := step_any V0' V1' b1 b2 bp [(bo, x.enc)] L1 L2 x X (by
    show TwI _ _ _ _ _ _ _
    rw [← HPL.out]
    exact h1.sub (fun p hp => by simp only [List.mem_cons, List.not_mem_nil, or_false] at hp ⊢; rcases hp with rfl | rfl <;> simp)) (fun p hp => by
    simp only [List.mem_cons, List.not_mem_nil, or_false] at hp
    rcases hp with rfl
    exact HOB.out) (HI1.out.1.sti x.gas X (by have := HN.out.2; omega)) HT.out
  have HH : Hid (((LI (n + (X.length + 1)) (stpF L1 L2 x X).2.1 ∧ CI (stpF L1 L2 x X).2.1) ∧ (LI (n + (X.length + 1)) (stpF L1 L2 x X).2.2 ∧ CI (stpF L1 L2 x X).2.2)) ∧ RcI c (fun _ => True) (stpF L1 L2 x X).2.1 ∧ RcI c (fun _ => True) (stpF L1 L2 x X).2.2) := ⟨stpF_sound HI1.out ⟨HI2.out.1.mono (by omega), HI2.out.2⟩ (by have := HN.out.2; omega), RcI.stp (fun _ _ _ _ => trivial) HR1.out HR2.out HI1.out.1.dep⟩
  obtain ⟨sr, hsr⟩ : ∃ sr, sr = stpF L1 L2 x X := ⟨_, rfl⟩
  rw [← hsr] at hst HH
  clear hsr h1
  go_wp2_with fail
  refine hst.mono ?_
  clear hst ko9
  rintro e V30 ⟨rc, mv, c1, c2, bx', rfl, h30, -, -, -⟩
  dsimp only
  have HJ : Hid (LwP V0' g c (fun _ => True) bp (i + 1) V30) := LwP.mk h30 (by simp) HH.out.1.1 HH.out.1.2 (by have := HN.out.2; omega) (by have := HN.out.2; omega) HH.out.2.1 HH.out.2.2
  have hi9 := HI9.out
  clear h30
  go_wp2_with fail
  refine ⟨rfl, rfl, ⟨rfl, rfl, rfl, i + 1, HN.out.1, ?_, HJ⟩, ?_⟩
  · show Value.int .i64 _ = _
    go_num
  · show len - (intOf (Value.int .i64 _)).toNat < len - (intOf (F 19)).toNat
    rw [H19.out]
    have := HN.out.1
    simp [intOf]; omega
end Go.Proofs.Qxb6500786aGreat
