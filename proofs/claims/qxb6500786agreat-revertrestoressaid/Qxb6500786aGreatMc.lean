import Derived.DeepKeys2
import Derived.OwnWalk
import Derived.Test.Qxb6500786aGreatMa
import Derived.Test.Qxb6500786aGreatLv
import Derived.Test.Qxb6500786aGreatPd

import Derived.StillTailTactics
import Derived.Deep.QuietTactic
import Derived.BigQuiet
import Derived.Deep.RegionHeld
import Derived.Deep.CutRange
import Derived.Laws.ResultCell
import Derived.Laws.Rows
import Derived.DeepKeys
import Derived.DataBytes
import Derived.Laws.StructEq
import Derived.Laws.AppendOwn
import Derived.Laws.MakeOwn
import Derived.Lib.AppendStr
set_option linter.unusedSimpArgs false
set_option linter.unusedVariables false
namespace Go.Proofs.Qxb6500786aGreat
open Go.RowKit Go.Blk
attribute [local go_sem ↓] execOp_load execOp_store execOp_alloc
attribute [local go_sem] Tryz.ld24 Tryz.st24 Tryz.ld36 Tryz.st36 Tryz.ld28 Tryz.st28 Tryz.ld32 Tryz.st32 Tryz.ld33 Tryz.st33 Tryz.ld34 Tryz.st34 Tryz.ld5 Tryz.st5 Tryz.ld31 Tryz.st31 Tryz.ld30 Tryz.st30 Tryz.ld41 Tryz.st41 Tryz.ld44 Tryz.st44 Tryz.ld4 Tryz.st4 Tryz.ld173 Tryz.st173 Tryz.ld174 Tryz.st174 Tryz.ld95 Tryz.st95 Tryz.ld45 Tryz.st45 Tryz.ld207 Tryz.st207 Tryz.ld3 Tryz.st3 Tryz.ld189 Tryz.st189 Tryz.ld2 Tryz.st2 Tryz.ld9 Tryz.st9 Tryz.ld12 Tryz.st12 Tryz.ld21 Tryz.st21 Tryz.ld22 Tryz.st22 Tryz.ld46 Tryz.st46 Tryz.ld92 Tryz.st92 Tryz.ld94 Tryz.st94 Tryz.ld96 Tryz.st96 Tryz.ld97 Tryz.st97 Tryz.ld105 Tryz.st105 Tryz.ld117 Tryz.st117 Tryz.ld122 Tryz.st122 Tryz.ld123 Tryz.st123 Tryz.ld133 Tryz.st133 Tryz.ld155 Tryz.st155 Tryz.ld163 Tryz.st163 Tryz.ld190 Tryz.st190 Tryz.ld197 Tryz.st197 Tryz.ld201 Tryz.st201 Tryz.ld202 Tryz.st202 Tryz.ld209 Tryz.st209 Tryz.ld216 Tryz.st216 Tryz.ld230 Tryz.st230 Tryz.ld238 Tryz.st238 Tryz.ld242 Tryz.st242 Tryz.ld251 Tryz.st251 Tryz.ld260 Tryz.st260 Tryz.ld286 Tryz.st286 Tryz.ld292 Tryz.st292 Tryz.ld298 Tryz.st298 Tryz.ld309 Tryz.st309 Tryz.ld35 Tryz.st35 Tryz.ld48 Tryz.st48 Tryz.ld47 Tryz.st47 Tryz.ld79 Tryz.st79 Tryz.ld177 Tryz.st177 Tryz.ld180 Tryz.st180 Tryz.ld231 Tryz.st231 Tryz.ld232 Tryz.st232 Tryz.ld26 Tryz.st26 Tryz.ld38 Tryz.st38 Tryz.ld40 Tryz.st40 Tryz.ld43 Tryz.st43 Tryz.ld50 Tryz.st50 Tryz.ld52 Tryz.st52 Tryz.ld54 Tryz.st54 Tryz.ld81 Tryz.st81 Tryz.ld112 Tryz.st112 Tryz.ld120 Tryz.st120 Tryz.ld176 Tryz.st176 Tryz.ld179 Tryz.st179 Tryz.ld182 Tryz.st182 Tryz.ld184 Tryz.st184 Tryz.ld234 Tryz.st234 Tryz.ld236 Tryz.st236 Tryz.ld240 Tryz.st240 Tryz.ld246 Tryz.st246 Tryz.ld249 Tryz.st249 Tryz.al35 Tryz.al48 Tryz.al47 Tryz.al79 Tryz.al177 Tryz.al180 Tryz.al231 Tryz.al232 Tryz.al26 Tryz.al38 Tryz.al40 Tryz.al43 Tryz.al50 Tryz.al52 Tryz.al54 Tryz.al81 Tryz.al112 Tryz.al120 Tryz.al176 Tryz.al179 Tryz.al182 Tryz.al184 Tryz.al234 Tryz.al236 Tryz.al240 Tryz.al246 Tryz.al249
attribute [local go_sem] Player.length_enc Player.ok_enc Player.all_get Player.all_set Player.hand_get Player.hand_set Player.aside_get Player.aside_set Message.length_enc Message.ok_enc Message.all_get Message.all_set Message.kind_get Message.kind_set Message.from__get Message.from__set Message.to__get Message.to__set Message.sender_get Message.sender_set Message.receiver_get Message.receiver_set Message.seq_get Message.seq_set Message.token_get Message.token_set Message.amount_get Message.amount_set Message.size_get Message.size_set Message.payload_get Message.payload_set Tx.length_enc Tx.ok_enc Tx.all_get Tx.all_set Tx.kind_get Tx.kind_set Tx.chain_get Tx.chain_set Tx.from__get Tx.from__set Tx.nonce_get Tx.nonce_set Tx.fee_get Tx.fee_set Tx.to__get Tx.to__set Tx.dest_get Tx.dest_set Tx.token_get Tx.token_set Tx.amount_get Tx.amount_set Tx.size_get Tx.size_set Tx.payload_get Tx.payload_set Tx.msg_get Tx.msg_set Tx.msg_kind_get Tx.msg_kind_set Tx.msg_from__get Tx.msg_from__set Tx.msg_to__get Tx.msg_to__set Tx.msg_sender_get Tx.msg_sender_set Tx.msg_receiver_get Tx.msg_receiver_set Tx.msg_seq_get Tx.msg_seq_set Tx.msg_token_get Tx.msg_token_set Tx.msg_amount_get Tx.msg_amount_set Tx.msg_size_get Tx.msg_size_set Tx.msg_payload_get Tx.msg_payload_set GOp.length_enc GOp.ok_enc GOp.all_get GOp.all_set GOp.kind_get GOp.kind_set GOp.tx_get GOp.tx_set GOp.txs_get GOp.txs_set GOp.gas_get GOp.gas_set GOp.acct_get GOp.acct_set GOp.token_get GOp.token_set GOp.chain_get GOp.chain_set GOp.seq_get GOp.seq_set GOp.tx_kind_get GOp.tx_kind_set GOp.tx_chain_get GOp.tx_chain_set GOp.tx_from__get GOp.tx_from__set GOp.tx_nonce_get GOp.tx_nonce_set GOp.tx_fee_get GOp.tx_fee_set GOp.tx_to__get GOp.tx_to__set GOp.tx_dest_get GOp.tx_dest_set GOp.tx_token_get GOp.tx_token_set GOp.tx_amount_get GOp.tx_amount_set GOp.tx_size_get GOp.tx_size_set GOp.tx_payload_get GOp.tx_payload_set GOp.tx_msg_get GOp.tx_msg_set GOp.tx_msg_kind_get GOp.tx_msg_kind_set GOp.tx_msg_from__get GOp.tx_msg_from__set GOp.tx_msg_to__get GOp.tx_msg_to__set GOp.tx_msg_sender_get GOp.tx_msg_sender_set GOp.tx_msg_receiver_get GOp.tx_msg_receiver_set GOp.tx_msg_seq_get GOp.tx_msg_seq_set GOp.tx_msg_token_get GOp.tx_msg_token_set GOp.tx_msg_amount_get GOp.tx_msg_amount_set GOp.tx_msg_size_get GOp.tx_msg_size_set GOp.tx_msg_payload_get GOp.tx_msg_payload_set Summary.length_enc Summary.ok_enc Summary.all_get Summary.all_set Summary.height_get Summary.height_set Summary.txs_get Summary.txs_set Summary.gas_get Summary.gas_set Summary.fees_get Summary.fees_set Summary.sent_get Summary.sent_set Summary.took_get Summary.took_set Summary.minted_get Summary.minted_set Summary.burned_get Summary.burned_set Summary.root_get Summary.root_set Detail.length_enc Detail.ok_enc Detail.all_get Detail.all_set Detail.code_get Detail.code_set Detail.have__get Detail.have__set Detail.need_get Detail.need_set Slot.length_enc Slot.ok_enc Slot.all_get Slot.all_set Slot.nonce_get Slot.nonce_set Slot.balances_get Slot.balances_set Tree.length_enc Tree.ok_enc Tree.all_get Tree.all_set Tree.leaves_get Tree.leaves_set Mark.length_enc Mark.ok_enc Mark.all_get Mark.all_set Mark.from__get Mark.from__set Mark.seq_get Mark.seq_set Receipt.length_enc Receipt.ok_enc Receipt.all_get Receipt.all_set Receipt.code_get Receipt.code_set Receipt.hash_get Receipt.hash_set Receipt.index_get Receipt.index_set Receipt.gas_get Receipt.gas_set Receipt.fee_get Receipt.fee_set Receipt.hasSent_get Receipt.hasSent_set Receipt.sent_get Receipt.sent_set Receipt.hasTook_get Receipt.hasTook_set Receipt.took_get Receipt.took_set Receipt.sent_kind_get Receipt.sent_kind_set Receipt.sent_from__get Receipt.sent_from__set Receipt.sent_to__get Receipt.sent_to__set Receipt.sent_sender_get Receipt.sent_sender_set Receipt.sent_receiver_get Receipt.sent_receiver_set Receipt.sent_seq_get Receipt.sent_seq_set Receipt.sent_token_get Receipt.sent_token_set Receipt.sent_amount_get Receipt.sent_amount_set Receipt.sent_size_get Receipt.sent_size_set Receipt.sent_payload_get Receipt.sent_payload_set Receipt.took_kind_get Receipt.took_kind_set Receipt.took_from__get Receipt.took_from__set Receipt.took_to__get Receipt.took_to__set Receipt.took_sender_get Receipt.took_sender_set Receipt.took_receiver_get Receipt.took_receiver_set Receipt.took_seq_get Receipt.took_seq_set Receipt.took_token_get Receipt.took_token_set Receipt.took_amount_get Receipt.took_amount_set Receipt.took_size_get Receipt.took_size_set Receipt.took_payload_get Receipt.took_payload_set Store.length_enc Store.ok_enc Store.all_get Store.all_set Store.now_get Store.now_set Store.saved_get Store.saved_set GState.length_enc GState.ok_enc GState.all_get GState.all_set GState.kv_get GState.kv_set GState.tree_get GState.tree_set GState.stale_get GState.stale_set GState.touched_get GState.touched_set GState.kv_now_get GState.kv_now_set GState.kv_saved_get GState.kv_saved_set GState.tree_leaves_get GState.tree_leaves_set History.length_enc History.ok_enc History.all_get History.all_set History.ring_get History.ring_set History.closed_get History.closed_set Ledger.length_enc Ledger.ok_enc Ledger.all_get Ledger.all_set Ledger.chain_get Ledger.chain_set Ledger.st_get Ledger.st_set Ledger.height_get Ledger.height_set Ledger.open__get Ledger.open__set Ledger.gasLimit_get Ledger.gasLimit_set Ledger.past_get Ledger.past_set Ledger.begun_get Ledger.begun_set Ledger.sent_get Ledger.sent_set Ledger.took_get Ledger.took_set Ledger.receipts_get Ledger.receipts_set Ledger.st_kv_get Ledger.st_kv_set Ledger.st_tree_get Ledger.st_tree_set Ledger.st_stale_get Ledger.st_stale_set Ledger.st_touched_get Ledger.st_touched_set Ledger.st_kv_now_get Ledger.st_kv_now_set Ledger.st_kv_saved_get Ledger.st_kv_saved_set Ledger.st_tree_leaves_get Ledger.st_tree_leaves_set Ledger.past_ring_get Ledger.past_ring_set Ledger.past_closed_get Ledger.past_closed_set Ledger.begun_kv_get Ledger.begun_kv_set Ledger.begun_tree_get Ledger.begun_tree_set Ledger.begun_stale_get Ledger.begun_stale_set Ledger.begun_touched_get Ledger.begun_touched_set Ledger.begun_kv_now_get Ledger.begun_kv_now_set Ledger.begun_kv_saved_get Ledger.begun_kv_saved_set Ledger.begun_tree_leaves_get Ledger.begun_tree_leaves_set Purse.length_enc Purse.ok_enc Purse.all_get Purse.all_set Purse.st_get Purse.st_set Purse.n_get Purse.n_set Purse.account_get Purse.account_set Purse.token_get Purse.token_set Purse.amount_get Purse.amount_set Plan.length_enc Plan.ok_enc Plan.all_get Plan.all_set Plan.purse_get Plan.purse_set Plan.nonce_get Plan.nonce_set Plan.gasUsed_get Plan.gasUsed_set Plan.fees_get Plan.fees_set Plan.hasSupply_get Plan.hasSupply_set Plan.token_get Plan.token_set Plan.supply_get Plan.supply_set Plan.flowAt_get Plan.flowAt_set Plan.flow_get Plan.flow_set Plan.receipt_get Plan.receipt_set Plan.purse_st_get Plan.purse_st_set Plan.purse_n_get Plan.purse_n_set Plan.purse_account_get Plan.purse_account_set Plan.purse_token_get Plan.purse_token_set Plan.purse_amount_get Plan.purse_amount_set Plan.receipt_code_get Plan.receipt_code_set Plan.receipt_hash_get Plan.receipt_hash_set Plan.receipt_index_get Plan.receipt_index_set Plan.receipt_gas_get Plan.receipt_gas_set Plan.receipt_fee_get Plan.receipt_fee_set Plan.receipt_hasSent_get Plan.receipt_hasSent_set Plan.receipt_sent_get Plan.receipt_sent_set Plan.receipt_hasTook_get Plan.receipt_hasTook_set Plan.receipt_took_get Plan.receipt_took_set Plan.receipt_sent_kind_get Plan.receipt_sent_kind_set Plan.receipt_sent_from__get Plan.receipt_sent_from__set Plan.receipt_sent_to__get Plan.receipt_sent_to__set Plan.receipt_sent_sender_get Plan.receipt_sent_sender_set Plan.receipt_sent_receiver_get Plan.receipt_sent_receiver_set Plan.receipt_sent_seq_get Plan.receipt_sent_seq_set Plan.receipt_sent_token_get Plan.receipt_sent_token_set Plan.receipt_sent_amount_get Plan.receipt_sent_amount_set Plan.receipt_sent_size_get Plan.receipt_sent_size_set Plan.receipt_sent_payload_get Plan.receipt_sent_payload_set Plan.receipt_took_kind_get Plan.receipt_took_kind_set Plan.receipt_took_from__get Plan.receipt_took_from__set Plan.receipt_took_to__get Plan.receipt_took_to__set Plan.receipt_took_sender_get Plan.receipt_took_sender_set Plan.receipt_took_receiver_get Plan.receipt_took_receiver_set Plan.receipt_took_seq_get Plan.receipt_took_seq_set Plan.receipt_took_token_get Plan.receipt_took_token_set Plan.receipt_took_amount_get Plan.receipt_took_amount_set Plan.receipt_took_size_get Plan.receipt_took_size_set Plan.receipt_took_payload_get Plan.receipt_took_payload_set Move.length_enc Move.ok_enc Move.all_get Move.all_set Move.account_get Move.account_set Move.token_get Move.token_set Move.down_get Move.down_set Move.amount_get Move.amount_set Books.length_enc Books.ok_enc Books.all_get Books.all_set Books.sums_get Books.sums_set Books.stored_get Books.stored_set Books.marks_get Books.marks_set Pair.length_enc Pair.ok_enc Pair.all_get Pair.all_set Pair.key_get Pair.key_set Pair.value_get Pair.value_set
attribute [local go_sem] size_put size_ext blk_put free_put blk_alloc free_alloc blk_drew free_drew blk_ext free_ext lookOr_some putOr_some segAt_some cellAt_some storeIn_some put_put put_alloc_new length_arr ok_arr_u8 ok_arr_u32 ok_arr_u64 ok_arr_i64 ok_arr_sl cellsV_agg cellsV_int cellsV_bool cellsV_string cellsV_pointer cellsV_slice cellsV_sl ok_int ok_bool ok_string ok_pointer ok_slice ok_sl toList_arr seg_arr set_arr nth_splice nth_splice0 seg_splice seg_splice0 splice_splice splice_splice0 length_splice_if
attribute [local go_sem ↓] execOp_box
attribute [local go_sem] box_run nth_arr_u8 put_arr_u8 blk_drewN free_drewN put_drewN blk_raw free_raw
/-- The slice s reads the transactions X, in memory that no function with labels P touches. -/
def TxsL (P : Lab → Prop) (O : Own) (W : World) (s : Sl) (X : List Tx) : Prop :=
  X.length = s.len ∧ s.len ≤ s.cap ∧ s.cap ≤ maxLen ∧ (s.len ≠ 0 → ∃ b o C, s.a = some ⟨b, o, none⟩ ∧ blk W b = some C ∧ ¬ P (O b) ∧ o + s.len * 83 ≤ C.length ∧ ∀ i x, X[i]? = some x → seg C (o + i * 83) 83 = x.enc)
theorem TxsL.lg {P : Lab → Prop} {O O' : Own} {W V : World} {s : Sl} {X : List Tx} (h : TxsL P O W s X) (hL : Lg P O W O' V) : TxsL P O' V s X := by
  obtain ⟨h1, h2, h3, h4⟩ := h
  refine ⟨h1, h2, h3, fun hn => ?_⟩
  obtain ⟨b, o, C, g1, g2, g3, g4, g5⟩ := h4 hn
  exact ⟨b, o, C, g1, hL.blk g2 g3, by rw [hL.lab g2 g3]; exact g3, g4, g5⟩
theorem TxsL.at {P : Lab → Prop} {O : Own} {W : World} {s : Sl} {X : List Tx} (h : TxsL P O W s X) {i : Nat} {x : Tx} (hx : X[i]? = some x) : ∃ b o C, s.a = some ⟨b, o, none⟩ ∧ blk W b = some C ∧ o + i * 83 + 83 ≤ C.length ∧ seg C (o + i * 83) 83 = x.enc := by
  obtain ⟨h1, h2, h3, h4⟩ := h
  have hi := (List.getElem?_eq_some_iff.1 hx).1
  obtain ⟨b, o, C, g1, g2, g3, g4, g5⟩ := h4 (by omega)
  exact ⟨b, o, C, g1, g2, by have : i * 83 + 83 ≤ s.len * 83 := by rw [← Nat.succ_mul]; exact Nat.mul_le_mul_right _ (by omega)
                             omega, g5 i x hx⟩
theorem make45 (w : World) (n : Nat) (hn : n ≤ 1000000000) : (makeOp 45 (.int .i64 0) (.int .i64 (n : Int))).run Tryz.prog w = .ok (.value (.slice (some ⟨w.heap.size, 0, none⟩) 0 n)) (w.alloc (.cells (madeCells Receipt.zero.enc.toArray (n * 120)) 120)) := by
  obtain ⟨i, hi, hz, hsz, hby⟩ : ∃ i, Tryz.prog.info? 120 = some i ∧ i.zero = some (.agg Receipt.zero.enc.toArray) ∧ i.size = 120 ∧ i.bytes = 224 := by
    have hq : (Tryz.prog.info? 120).map (fun i => (i.zero, i.size, i.bytes)) = some (some (.agg Receipt.zero.enc.toArray), 120, 224) := by kernel_rfl
    cases hx : Tryz.prog.info? 120 with
    | none => rw [hx] at hq; simp at hq
    | some i =>
      rw [hx] at hq
      simp only [Option.map_some, Option.some.injEq, Prod.mk.injEq] at hq
      exact ⟨i, rfl, hq.1, hq.2.1, hq.2.2⟩
  have hr := run_make (P := Tryz.prog) w 45 120 i _ und45 hi hz .i64 .i64 0 (n : Int) (by omega) (by omega) (by rw [hby]; omega) (by omega)
  unfold makeOp
  rw [Sem.run_bind, hr, hsz, Int.toNat_natCast]
  rfl
theorem Lg.app {bl : Nat} {O O' O'' : Own} {W V V' : World} {lr : Lab} (h : Lg (lgP bl) O W O' V) (hf : Fr (fun y => y = lr) O' V O'' V') (hn : ∀ k, k < W.heap.size → ¬ lgP bl (O k) → O k ≠ lr) : Lg (lgP bl) O W O'' V' :=
  ⟨hf.os.trans h.os, hf.tape.trans h.tape, hf.output.trans h.output, Nat.le_trans h.size hf.size, fun k hk hp => by
    have h1 := h.keep k hk hp
    have hk2 : k < V.heap.size := Nat.lt_of_lt_of_le hk h.size
    exact ⟨(hf.keep k hk2).trans h1.1, (hf.block k hk2 (by rw [h1.1]; exact hn k hk hp)).trans h1.2⟩, fun k hk hp => by
    rw [hf.keep k (Nat.lt_of_lt_of_le hk h.size)]; exact h.own k hk hp⟩
/-- After run. -/
def RunPost (O : Own) (W : World) (bl : Nat) (lr : Lab) (r : ((List Receipt × Int) × Int) × PLg) (e : Ending) (V : World) : Prop := ∃ a n c, e = .returned (.tuple #[.slice a n c, .int .i64 r.1.1.2, .int .i64 r.1.2]) ∧ ∃ O', LedA O' V bl r.2 ∧ Lg (lgP bl) O W O' V ∧ RowL W.heap.size O' lr V 120 120 (.slice a n c) r.1.1.1.length (r.1.1.1.flatMap Receipt.enc)
def rnI (O : Own) (W : World) (bl : Nat) (lr : Lab) (L : PLg) (s : Sl) (X : List Tx) (F : Nat → Value) (V : World) : Prop := F 0 = .pointer (some ⟨bl, 0, none⟩) ∧ F 1 = .slice s.a s.len s.cap ∧ ∃ i : Nat, i ≤ X.length ∧ F 8 = .int .i64 (i : Nat) ∧ ∃ a n c, F 7 = .slice a n c ∧ Hid (∃ (L' : PLg) (rs : List Receipt) (O' : Own), runF L X 0 [] = runF L' (X.drop i) i rs ∧ rs.length ≤ i ∧ ApK L' (X.length - i) ∧ LedA O' V bl L' ∧ Lg (lgP bl) O W O' V ∧ RowL W.heap.size O' lr V 120 120 (.slice a n c) rs.length (rs.flatMap Receipt.enc))
set_option maxRecDepth 100000 in
theorem frame37r (f : Nat → Value) : frameN 37 f = #[f 0, f 1, f 2, f 3, f 4, f 5, f 6, f 7, f 8, f 9, f 10, f 11, f 12, f 13, f 14, f 15, f 16, f 17, f 18, f 19, f 20, f 21, f 22, f 23, f 24, f 25, f 26, f 27, f 28, f 29, f 30, f 31, f 32, f 33, f 34, f 35, f 36] := by kernel_rfl
attribute [local go_sem ↓] execOp_build execOp_bslice execOp_slice execOp_make
theorem bslice45e (w : World) (r : Receipt) : (bsliceOp 45 1 #[(0, .agg r.enc.toArray)]).run Tryz.prog w = .ok (.value (.slice (some ⟨w.heap.size, 0, none⟩) 1 1)) (w.alloc (.cells r.enc.toArray 120)) := bslice_one el45 (by omega) w r
attribute [local go_sem] bslice45e
set_option maxRecDepth 20000 in
set_option maxHeartbeats 1000000 in
theorem run_any (O : Own) (W : World) (bl : Nat) (lr : Lab) (L : PLg) (s : Sl) (X : List Tx) (hL : LedA O W bl L) (hK : ApK L X.length) (hT : TxsL (lgP bl) O W s X) (hl : X.length ≤ 1000000) (hlr : ¬ lgP bl lr) (hfr : ∀ k, k < W.heap.size → ¬ lgP bl (O k) → O k ≠ lr) : Calls Tryz.prog 160 #[.pointer (some ⟨bl, 0, none⟩), .slice s.a s.len s.cap] W (RunPost O W bl lr (runF L X 0 [])) := by
  obtain ⟨sa, sl, sc⟩ := s
  have hn : sl = X.length := hT.1.symm
  have HN := hid_of hn
  obtain ⟨Q, hQ⟩ : ∃ Q : Ending → World → Prop, Q = RunPost O W bl lr (runF L X 0 []) := ⟨_, rfl⟩
  rw [← hQ]
  have HQ := hid_of hQ
  have HT := hid_of hT
  have HFR := hid_of hfr
  have HLR := hid_of hlr
  have HMX := hid_of hl
  obtain ⟨W1, hW1⟩ : ∃ W1 : World, W1 = W.alloc (.cells (madeCells Receipt.zero.enc.toArray (sl * 120)) 120) := ⟨_, rfl⟩
  have hx1 : W.Extends W1 := by rw [hW1]; exact extends_alloc (ext_Ext (Ext.refl _)) _
  have hmk := make45 W sl (by omega)
  rw [← hW1] at hmk
  have HI0 : Hid (∃ (L' : PLg) (rs : List Receipt) (O' : Own), runF L X 0 [] = runF L' (X.drop 0) 0 rs ∧ rs.length ≤ 0 ∧ ApK L' (X.length - 0) ∧ LedA O' W1 bl L' ∧ Lg (lgP bl) O W O' W1 ∧ RowL W.heap.size O' lr W1 120 120 (.slice (some ⟨W.heap.size, 0, none⟩) 0 sl) rs.length (rs.flatMap Receipt.enc)) := by
    refine ⟨L, [], lab O W.heap.size lr, rfl, Nat.le_refl _, hK, hL.grow hx1 (fun k hk => lab_lt hk), Lg.growO hx1 (fun k hk => lab_lt hk), ?_, fun k hk => ?_⟩
    · rw [hW1]
      exact World.ownsRow_made W _ sl (Nat.le_refl _) (by unfold maxLen; omega) (size_madeCells _ _)
    · cases hk
      exact lab_ge (Nat.le_refl _)
  clear hL hK hQ hT hfr hlr hx1 hW1 hn
  dsimp only
  go_enter Tryz.func160, Tryz.ntmps160
  go_wp2_with fail
  refine wp_loop_f 37 (rnI O W bl lr L ⟨sa, sl, sc⟩ X) (fun f _ => X.length - (intOf (f 8)).toNat) rfl ⟨rfl, rfl, 0, Nat.zero_le _, rfl, _, _, _, rfl, HI0⟩ ?_
  clear HI0 hmk
  intro F V hrel
  obtain ⟨f0, f1, i, hi, f8, a, n, c, f7, HI⟩ := hrel
  have H8 := hid_of f8
  dsimp only at f1
  rw [frame37r, f0, f1, f7, f8]
  clear f0 f1 f7 f8
  obtain ⟨L', rs, O', hrun, hrl, hK, hL, hg, hrow⟩ := HI.out
  clear HI
  by_cases hin : i < X.length
  rotate_left 1
  · have HP : Hid (Q (.returned (.tuple #[.slice a n c, .int .i64 (-1), .int .i64 0])) V) := by
      show Q _ _
      rw [HQ.out, hrun, List.drop_of_length_le (by omega)]
      exact ⟨a, n, c, rfl, O', hL, hg, hrow⟩
    have hin' : ¬ (i : Int) < (sl : Int) := by have := HN.out; omega
    clear hrun hrl hK hL hg hrow HQ hin hi hl
    go_wp2_with fail
    try (first | go_ret | go_ret2 | go_ret3 | go_end0)
    exact HP.out
  have hin' : (i : Int) < (sl : Int) := by have := HN.out; omega
  obtain ⟨x, hx⟩ : ∃ x, X[i]? = some x := ⟨_, List.getElem?_eq_getElem hin⟩
  obtain ⟨b, o, C, hsa, hbC, hlC, hsg⟩ := (HT.out.lg hg).at hx
  have p0 : (0 : Int) ≤ (i : Int) := by omega
  have p2 : ((i : Int)).toNat = i := by omega
  have hK' : ApK L' ((X.length - i - 1) + 1) := by rw [show X.length - i - 1 + 1 = X.length - i by omega]; exact hK
  have hap := apply_any O' V bl L' x hL hK'.api
  have HK2 := hid_of (appF_ApK (x := x) hK')
  have HR : Hid (runF L X 0 [] = if (appF L' x).2.code = 0 then runF (appF L' x).1 (X.drop (i + 1)) (i + 1) (rs ++ [(appF L' x).2]) else (((rs, (i : Int)), (appF L' x).2.code), (appF L' x).1)) := hrun.trans (runF_drop hx rs)
  have HG := hid_of hg
  have HROW := hid_of hrow
  have HRL := hid_of hrl
  have HIN := hid_of hin
  dsimp only at hsa
  subst hsa
  clear hrun hrl hK hL hg hrow hK' hx hin hi hl
  generalize appF L' x = A at hap HK2 HR
  obtain ⟨L2, r⟩ := A
  dsimp only at HR HK2
  go_wp2_with fail
  refine hap.mono ?_
  clear hap
  rintro e V1 ⟨rfl, O1, hL1, hg1⟩
  dsimp only at hL1 ⊢
  have hrow1 := HROW.out.lg hg1 HLR.out
  have hg1' := HG.out.trans hg1
  clear HROW HG hg1 hbC hsg
  obtain ⟨V2, hV2⟩ : ∃ V2 : World, V2 = V1.alloc (.cells r.enc.toArray 120) := ⟨_, rfl⟩
  have hx2 : V1.Extends V2 := by rw [hV2]; exact extends_alloc (ext_Ext (Ext.refl _)) _
  have k9 : blk V2 V1.heap.size = some r.enc := by rw [hV2, blk_alloc, if_pos rfl]
  have hL2 := hL1.ext hx2
  have hg2 := hg1'.ext hx2
  have hrow2 := hrow1.ext hx2
  have o9 : lab O1 V1.heap.size .no V1.heap.size = .no := lab_ge (Nat.le_refl _)
  have HV2 := hid_of hV2
  clear hL1 hg1' hrow1 hV2 hx2
  generalize lab O1 V1.heap.size .no = O2 at hL2 hg2 hrow2 o9
  by_cases hc : r.code = 0
  rotate_left 1
  · have HP : Hid (Q (.returned (.tuple #[.slice a n c, .int .i64 (i : Nat), .int .i64 r.code])) V2) := by
      show Q _ _
      rw [HQ.out, HR.out, if_neg hc]
      exact ⟨a, n, c, rfl, O2, hL2, hg2, hrow2⟩
    have hcb : (r.code == 0) = false := by simp [hc]
    have HPd : Hid (∀ m, Q (.returned (.tuple #[.slice a n c, .int .i64 (i : Nat), .int .i64 r.code])) (V2.drewN m)) := by
      intro m
      show Q _ _
      rw [HQ.out, HR.out, if_neg hc]
      exact ⟨a, n, c, rfl, O2, hL2.drewN m, hg2.drewN m, ⟨hrow2.1, hrow2.2⟩⟩
    clear hL2 hg2 hrow2 HR HK2 HQ hc HP
    go_upto_region 6 with fail
    rw [← HV2.out]
    clear HV2
    go_wp2_with fail
    go_quiet (fail)
    go_wp2_with fail
    try (first | go_ret | go_ret2 | go_ret3 | go_end0)
    exact HPd.out _
  have h11 : (rs.length + 1) * 224 ≤ 140737488355328 := by have := HRL.out; have := HMX.out; have := HIN.out; omega
  obtain ⟨a3, c3, V3, hrn, hrow3, hf3⟩ := appLB el45 45 r hrow2 hg2.size h11 (by have := HRL.out; have := HMX.out; have := HIN.out; omega) r.enc.toArray rfl 1
  have hg3 := hg2.app hf3 HFR.out
  have hL3 : LedA (lab O2 V2.heap.size lr) V3 bl L2 := by
    obtain ⟨sn, ss, bn, ms, mt, mr, h⟩ := hL2
    exact ⟨sn, ss, bn, ms, mt, mr, h.lg (Lg.of_fr hf3) (fun l hl e => HLR.out (by rw [← e]; exact hl))⟩
  have HJ : Hid (∃ (L' : PLg) (rs : List Receipt) (O' : Own), runF L X 0 [] = runF L' (X.drop (i + 1)) (i + 1) rs ∧ rs.length ≤ i + 1 ∧ ApK L' (X.length - (i + 1)) ∧ LedA O' V3 bl L' ∧ Lg (lgP bl) O W O' V3 ∧ RowL W.heap.size O' lr V3 120 120 (.slice a3 (n + 1) c3) rs.length (rs.flatMap Receipt.enc)) := by
    refine ⟨L2, rs ++ [r], _, ?_, ?_, ?_, hL3, hg3, hrow3⟩
    · rw [HR.out, if_pos hc]
    · rw [List.length_append, List.length_singleton]
      have := HRL.out
      omega
    · have h9 := HK2.out
      rw [show X.length - (i + 1) = X.length - i - 1 by omega]
      exact h9
  have hcb : (r.code == 0) = true := by simp [hc]
  have hc' := hc
  have hi9 : (i : Int) + 1 ≤ 1000001 := by have := HMX.out; have := HIN.out; omega
  clear hL2 hg2 hrow2 HR HK2 hL3 hg3 hrow3 hf3 h11 hc
  go_upto_region 6 with fail
  rw [← HV2.out]
  clear HV2
  go_wp2_with (at_builtin; refine wpList_append_run rfl _ _ 45 rfl _ _ _ _ rfl rfl hrn ?_)
  refine ⟨rfl, rfl, ⟨rfl, rfl, i + 1, HIN.out, ?_, a3, n + 1, c3, rfl, HJ⟩, ?_⟩
  · show Value.int .i64 _ = _
    go_num
  · show X.length - (intOf (Value.int .i64 _)).toNat < X.length - (intOf (F 8)).toNat
    rw [H8.out]
    have := HIN.out
    simp [intOf]; omega
end Go.Proofs.Qxb6500786aGreat
