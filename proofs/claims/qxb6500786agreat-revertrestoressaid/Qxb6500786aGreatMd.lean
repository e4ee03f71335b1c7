import Derived.DeepKeys2
import Derived.OwnWalk
import Derived.Test.Qxb6500786aGreatMc
import Derived.Test.Qxb6500786aGreatPe

import Derived.StillTailTactics
import Derived.Deep.QuietTactic
import Derived.BigQuiet
import Derived.Deep.RegionHeld
import Derived.Deep.CutRange
import Derived.Laws.ResultCell
import Derived.Laws.Rows
import Derived.DeepKeys
import Derived.DataBytes
import Derived.Laws.StructEq
import Derived.Laws.AppendOwn
import Derived.Laws.MakeOwn
import Derived.Lib.AppendStr
set_option linter.unusedSimpArgs false
set_option linter.unusedVariables false
namespace Go.Proofs.Qxb6500786aGreat
open Go.RowKit Go.Blk
attribute [local go_sem ↓] execOp_load execOp_store execOp_alloc
attribute [local go_sem] Tryz.ld24 Tryz.st24 Tryz.ld36 Tryz.st36 Tryz.ld28 Tryz.st28 Tryz.ld32 Tryz.st32 Tryz.ld33 Tryz.st33 Tryz.ld34 Tryz.st34 Tryz.ld5 Tryz.st5 Tryz.ld31 Tryz.st31 Tryz.ld30 Tryz.st30 Tryz.ld41 Tryz.st41 Tryz.ld44 Tryz.st44 Tryz.ld4 Tryz.st4 Tryz.ld173 Tryz.st173 Tryz.ld174 Tryz.st174 Tryz.ld95 Tryz.st95 Tryz.ld45 Tryz.st45 Tryz.ld207 Tryz.st207 Tryz.ld3 Tryz.st3 Tryz.ld189 Tryz.st189 Tryz.ld2 Tryz.st2 Tryz.ld9 Tryz.st9 Tryz.ld12 Tryz.st12 Tryz.ld21 Tryz.st21 Tryz.ld22 Tryz.st22 Tryz.ld46 Tryz.st46 Tryz.ld92 Tryz.st92 Tryz.ld94 Tryz.st94 Tryz.ld96 Tryz.st96 Tryz.ld97 Tryz.st97 Tryz.ld105 Tryz.st105 Tryz.ld117 Tryz.st117 Tryz.ld122 Tryz.st122 Tryz.ld123 Tryz.st123 Tryz.ld133 Tryz.st133 Tryz.ld155 Tryz.st155 Tryz.ld163 Tryz.st163 Tryz.ld190 Tryz.st190 Tryz.ld197 Tryz.st197 Tryz.ld201 Tryz.st201 Tryz.ld202 Tryz.st202 Tryz.ld209 Tryz.st209 Tryz.ld216 Tryz.st216 Tryz.ld230 Tryz.st230 Tryz.ld238 Tryz.st238 Tryz.ld242 Tryz.st242 Tryz.ld251 Tryz.st251 Tryz.ld260 Tryz.st260 Tryz.ld286 Tryz.st286 Tryz.ld292 Tryz.st292 Tryz.ld298 Tryz.st298 Tryz.ld309 Tryz.st309 Tryz.ld35 Tryz.st35 Tryz.ld48 Tryz.st48 Tryz.ld47 Tryz.st47 Tryz.ld79 Tryz.st79 Tryz.ld177 Tryz.st177 Tryz.ld180 Tryz.st180 Tryz.ld231 Tryz.st231 Tryz.ld232 Tryz.st232 Tryz.ld26 Tryz.st26 Tryz.ld38 Tryz.st38 Tryz.ld40 Tryz.st40 Tryz.ld43 Tryz.st43 Tryz.ld50 Tryz.st50 Tryz.ld52 Tryz.st52 Tryz.ld54 Tryz.st54 Tryz.ld81 Tryz.st81 Tryz.ld112 Tryz.st112 Tryz.ld120 Tryz.st120 Tryz.ld176 Tryz.st176 Tryz.ld179 Tryz.st179 Tryz.ld182 Tryz.st182 Tryz.ld184 Tryz.st184 Tryz.ld234 Tryz.st234 Tryz.ld236 Tryz.st236 Tryz.ld240 Tryz.st240 Tryz.ld246 Tryz.st246 Tryz.ld249 Tryz.st249 Tryz.al35 Tryz.al48 Tryz.al47 Tryz.al79 Tryz.al177 Tryz.al180 Tryz.al231 Tryz.al232 Tryz.al26 Tryz.al38 Tryz.al40 Tryz.al43 Tryz.al50 Tryz.al52 Tryz.al54 Tryz.al81 Tryz.al112 Tryz.al120 Tryz.al176 Tryz.al179 Tryz.al182 Tryz.al184 Tryz.al234 Tryz.al236 Tryz.al240 Tryz.al246 Tryz.al249
attribute [local go_sem] Player.length_enc Player.ok_enc Player.all_get Player.all_set Player.hand_get Player.hand_set Player.aside_get Player.aside_set Message.length_enc Message.ok_enc Message.all_get Message.all_set Message.kind_get Message.kind_set Message.from__get Message.from__set Message.to__get Message.to__set Message.sender_get Message.sender_set Message.receiver_get Message.receiver_set Message.seq_get Message.seq_set Message.token_get Message.token_set Message.amount_get Message.amount_set Message.size_get Message.size_set Message.payload_get Message.payload_set Tx.length_enc Tx.ok_enc Tx.all_get Tx.all_set Tx.kind_get Tx.kind_set Tx.chain_get Tx.chain_set Tx.from__get Tx.from__set Tx.nonce_get Tx.nonce_set Tx.fee_get Tx.fee_set Tx.to__get Tx.to__set Tx.dest_get Tx.dest_set Tx.token_get Tx.token_set Tx.amount_get Tx.amount_set Tx.size_get Tx.size_set Tx.payload_get Tx.payload_set Tx.msg_get Tx.msg_set Tx.msg_kind_get Tx.msg_kind_set Tx.msg_from__get Tx.msg_from__set Tx.msg_to__get Tx.msg_to__set Tx.msg_sender_get Tx.msg_sender_set Tx.msg_receiver_get Tx.msg_receiver_set Tx.msg_seq_get Tx.msg_seq_set Tx.msg_token_get Tx.msg_token_set Tx.msg_amount_get Tx.msg_amount_set Tx.msg_size_get Tx.msg_size_set Tx.msg_payload_get Tx.msg_payload_set GOp.length_enc GOp.ok_enc GOp.all_get GOp.all_set GOp.kind_get GOp.kind_set GOp.tx_get GOp.tx_set GOp.txs_get GOp.txs_set GOp.gas_get GOp.gas_set GOp.acct_get GOp.acct_set GOp.token_get GOp.token_set GOp.chain_get GOp.chain_set GOp.seq_get GOp.seq_set GOp.tx_kind_get GOp.tx_kind_set GOp.tx_chain_get GOp.tx_chain_set GOp.tx_from__get GOp.tx_from__set GOp.tx_nonce_get GOp.tx_nonce_set GOp.tx_fee_get GOp.tx_fee_set GOp.tx_to__get GOp.tx_to__set GOp.tx_dest_get GOp.tx_dest_set GOp.tx_token_get GOp.tx_token_set GOp.tx_amount_get GOp.tx_amount_set GOp.tx_size_get GOp.tx_size_set GOp.tx_payload_get GOp.tx_payload_set GOp.tx_msg_get GOp.tx_msg_set GOp.tx_msg_kind_get GOp.tx_msg_kind_set GOp.tx_msg_from__get GOp.tx_msg_from__set GOp.tx_msg_to__get GOp.tx_msg_to__set GOp.tx_msg_sender_get GOp.tx_msg_sender_set GOp.tx_msg_receiver_get GOp.tx_msg_receiver_set GOp.tx_msg_seq_get GOp.tx_msg_seq_set GOp.tx_msg_token_get GOp.tx_msg_token_set GOp.tx_msg_amount_get GOp.tx_msg_amount_set GOp.tx_msg_size_get GOp.tx_msg_size_set GOp.tx_msg_payload_get GOp.tx_msg_payload_set Summary.length_enc Summary.ok_enc Summary.all_get Summary.all_set Summary.height_get Summary.height_set Summary.txs_get Summary.txs_set Summary.gas_get Summary.gas_set Summary.fees_get Summary.fees_set Summary.sent_get Summary.sent_set Summary.took_get Summary.took_set Summary.minted_get Summary.minted_set Summary.burned_get Summary.burned_set Summary.root_get Summary.root_set Detail.length_enc Detail.ok_enc Detail.all_get Detail.all_set Detail.code_get Detail.code_set Detail.have__get Detail.have__set Detail.need_get Detail.need_set Slot.length_enc Slot.ok_enc Slot.all_get Slot.all_set Slot.nonce_get Slot.nonce_set Slot.balances_get Slot.balances_set Tree.length_enc Tree.ok_enc Tree.all_get Tree.all_set Tree.leaves_get Tree.leaves_set Mark.length_enc Mark.ok_enc Mark.all_get Mark.all_set Mark.from__get Mark.from__set Mark.seq_get Mark.seq_set Receipt.length_enc Receipt.ok_enc Receipt.all_get Receipt.all_set Receipt.code_get Receipt.code_set Receipt.hash_get Receipt.hash_set Receipt.index_get Receipt.index_set Receipt.gas_get Receipt.gas_set Receipt.fee_get Receipt.fee_set Receipt.hasSent_get Receipt.hasSent_set Receipt.sent_get Receipt.sent_set Receipt.hasTook_get Receipt.hasTook_set Receipt.took_get Receipt.took_set Receipt.sent_kind_get Receipt.sent_kind_set Receipt.sent_from__get Receipt.sent_from__set Receipt.sent_to__get Receipt.sent_to__set Receipt.sent_sender_get Receipt.sent_sender_set Receipt.sent_receiver_get Receipt.sent_receiver_set Receipt.sent_seq_get Receipt.sent_seq_set Receipt.sent_token_get Receipt.sent_token_set Receipt.sent_amount_get Receipt.sent_amount_set Receipt.sent_size_get Receipt.sent_size_set Receipt.sent_payload_get Receipt.sent_payload_set Receipt.took_kind_get Receipt.took_kind_set Receipt.took_from__get Receipt.took_from__set Receipt.took_to__get Receipt.took_to__set Receipt.took_sender_get Receipt.took_sender_set Receipt.took_receiver_get Receipt.took_receiver_set Receipt.took_seq_get Receipt.took_seq_set Receipt.took_token_get Receipt.took_token_set Receipt.took_amount_get Receipt.took_amount_set Receipt.took_size_get Receipt.took_size_set Receipt.took_payload_get Receipt.took_payload_set Store.length_enc Store.ok_enc Store.all_get Store.all_set Store.now_get Store.now_set Store.saved_get Store.saved_set GState.length_enc GState.ok_enc GState.all_get GState.all_set GState.kv_get GState.kv_set GState.tree_get GState.tree_set GState.stale_get GState.stale_set GState.touched_get GState.touched_set GState.kv_now_get GState.kv_now_set GState.kv_saved_get GState.kv_saved_set GState.tree_leaves_get GState.tree_leaves_set History.length_enc History.ok_enc History.all_get History.all_set History.ring_get History.ring_set History.closed_get History.closed_set Ledger.length_enc Ledger.ok_enc Ledger.all_get Ledger.all_set Ledger.chain_get Ledger.chain_set Ledger.st_get Ledger.st_set Ledger.height_get Ledger.height_set Ledger.open__get Ledger.open__set Ledger.gasLimit_get Ledger.gasLimit_set Ledger.past_get Ledger.past_set Ledger.begun_get Ledger.begun_set Ledger.sent_get Ledger.sent_set Ledger.took_get Ledger.took_set Ledger.receipts_get Ledger.receipts_set Ledger.st_kv_get Ledger.st_kv_set Ledger.st_tree_get Ledger.st_tree_set Ledger.st_stale_get Ledger.st_stale_set Ledger.st_touched_get Ledger.st_touched_set Ledger.st_kv_now_get Ledger.st_kv_now_set Ledger.st_kv_saved_get Ledger.st_kv_saved_set Ledger.st_tree_leaves_get Ledger.st_tree_leaves_set Ledger.past_ring_get Ledger.past_ring_set Ledger.past_closed_get Ledger.past_closed_set Ledger.begun_kv_get Ledger.begun_kv_set Ledger.begun_tree_get Ledger.begun_tree_set Ledger.begun_stale_get Ledger.begun_stale_set Ledger.begun_touched_get Ledger.begun_touched_set Ledger.begun_kv_now_get Ledger.begun_kv_now_set Ledger.begun_kv_saved_get Ledger.begun_kv_saved_set Ledger.begun_tree_leaves_get Ledger.begun_tree_leaves_set Purse.length_enc Purse.ok_enc Purse.all_get Purse.all_set Purse.st_get Purse.st_set Purse.n_get Purse.n_set Purse.account_get Purse.account_set Purse.token_get Purse.token_set Purse.amount_get Purse.amount_set Plan.length_enc Plan.ok_enc Plan.all_get Plan.all_set Plan.purse_get Plan.purse_set Plan.nonce_get Plan.nonce_set Plan.gasUsed_get Plan.gasUsed_set Plan.fees_get Plan.fees_set Plan.hasSupply_get Plan.hasSupply_set Plan.token_get Plan.token_set Plan.supply_get Plan.supply_set Plan.flowAt_get Plan.flowAt_set Plan.flow_get Plan.flow_set Plan.receipt_get Plan.receipt_set Plan.purse_st_get Plan.purse_st_set Plan.purse_n_get Plan.purse_n_set Plan.purse_account_get Plan.purse_account_set Plan.purse_token_get Plan.purse_token_set Plan.purse_amount_get Plan.purse_amount_set Plan.receipt_code_get Plan.receipt_code_set Plan.receipt_hash_get Plan.receipt_hash_set Plan.receipt_index_get Plan.receipt_index_set Plan.receipt_gas_get Plan.receipt_gas_set Plan.receipt_fee_get Plan.receipt_fee_set Plan.receipt_hasSent_get Plan.receipt_hasSent_set Plan.receipt_sent_get Plan.receipt_sent_set Plan.receipt_hasTook_get Plan.receipt_hasTook_set Plan.receipt_took_get Plan.receipt_took_set Plan.receipt_sent_kind_get Plan.receipt_sent_kind_set Plan.receipt_sent_from__get Plan.receipt_sent_from__set Plan.receipt_sent_to__get Plan.receipt_sent_to__set Plan.receipt_sent_sender_get Plan.receipt_sent_sender_set Plan.receipt_sent_receiver_get Plan.receipt_sent_receiver_set Plan.receipt_sent_seq_get Plan.receipt_sent_seq_set Plan.receipt_sent_token_get Plan.receipt_sent_token_set Plan.receipt_sent_amount_get Plan.receipt_sent_amount_set Plan.receipt_sent_size_get Plan.receipt_sent_size_set Plan.receipt_sent_payload_get Plan.receipt_sent_payload_set Plan.receipt_took_kind_get Plan.receipt_took_kind_set Plan.receipt_took_from__get Plan.receipt_took_from__set Plan.receipt_took_to__get Plan.receipt_took_to__set Plan.receipt_took_sender_get Plan.receipt_took_sender_set Plan.receipt_took_receiver_get Plan.receipt_took_receiver_set Plan.receipt_took_seq_get Plan.receipt_took_seq_set Plan.receipt_took_token_get Plan.receipt_took_token_set Plan.receipt_took_amount_get Plan.receipt_took_amount_set Plan.receipt_took_size_get Plan.receipt_took_size_set Plan.receipt_took_payload_get Plan.receipt_took_payload_set Move.length_enc Move.ok_enc Move.all_get Move.all_set Move.account_get Move.account_set Move.token_get Move.token_set Move.down_get Move.down_set Move.amount_get Move.amount_set Books.length_enc Books.ok_enc Books.all_get Books.all_set Books.sums_get Books.sums_set Books.stored_get Books.stored_set Books.marks_get Books.marks_set Pair.length_enc Pair.ok_enc Pair.all_get Pair.all_set Pair.key_get Pair.key_set Pair.value_get Pair.value_set
attribute [local go_sem] size_put size_ext blk_put free_put blk_alloc free_alloc blk_drew free_drew blk_ext free_ext lookOr_some putOr_some segAt_some cellAt_some storeIn_some put_put put_alloc_new length_arr ok_arr_u8 ok_arr_u32 ok_arr_u64 ok_arr_i64 ok_arr_sl cellsV_agg cellsV_int cellsV_bool cellsV_string cellsV_pointer cellsV_slice cellsV_sl ok_int ok_bool ok_string ok_pointer ok_slice ok_sl toList_arr seg_arr set_arr nth_splice nth_splice0 seg_splice seg_splice0 splice_splice splice_splice0 length_splice_if
attribute [local go_sem ↓] execOp_box
attribute [local go_sem] box_run nth_arr_u8 put_arr_u8 blk_drewN free_drewN put_drewN blk_raw free_raw
theorem results_cttt {fn : Func} {p u v x : Tmp} {ty : TypeId} (h : fn.results = #[.cell p ty, .tmp u, .tmp v, .tmp x]) (tmps : Array Value) (P : Program) (w : World) :
    (results fn tmps).run P w =
      ((asAddr (tmps.getD p undef)).run P w).andThen fun a w₁ => ((loadVar ty a).run P w₁).andThen fun y w₂ => .ok (.tuple #[y, tmps.getD u undef, tmps.getD v undef, tmps.getD x undef]) w₂ := by
  simp only [results, h]
  simp [Sem.run_bind, Result.andThen]
theorem ret_cttt {P : Program} {fn : Func} {R : Ending → World → Prop} {a : Act} {w : World} {p u u2 u3 : Tmp} {ty : TypeId} {g : Nat} {C : List Value} {v v2 v3 : Value} (h : fn.results = #[.cell p ty, .tmp u, .tmp u2, .tmp u3]) (hp : a.tmps.getD p undef = .pointer (some ⟨g, 0, none⟩)) (hv : a.tmps.getD u undef = v) (hv2 : a.tmps.getD u2 undef = v2) (hv3 : a.tmps.getD u3 undef = v3) (hb : blk w g = some C)
    (hr : ((P.underlying ty).map fun d => (match d with | .struct _ | .array _ _ => true | _ => false)) = some true) (hi : (P.info? ty).map (·.size) = some C.length) (hdf : a.defers = []) (hR : R (.returned (.tuple #[.agg C.toArray, v, v2, v3])) w) : bodyPost P fn R .ret a w := by
  obtain ⟨t, fz, ht⟩ := blk_some hb
  obtain ⟨d, hu, hd⟩ : ∃ d, P.underlying ty = some d ∧ (match d with | .struct _ | .array _ _ => true | _ => false) = true := by
    cases hx : P.underlying ty with
    | none => simp [hx] at hr
    | some d => exact ⟨d, rfl, by simpa [hx] using hr⟩
  refine bodyPost_ret ?_ hdf hR
  rw [results_cttt h, hp, hv, hv2, hv3]
  have hp' := run_loadVar_row (P := P) w g t ty C.toArray fz d ht hu (by cases d <;> simp_all) (by simpa using hi)
  simp [asAddr, hp', Result.andThen]
theorem results_tct {fn : Func} {p u v : Tmp} {ty : TypeId} (h : fn.results = #[.tmp u, .cell p ty, .tmp v]) (tmps : Array Value) (P : Program) (w : World) :
    (results fn tmps).run P w =
      ((asAddr (tmps.getD p undef)).run P w).andThen fun a w₁ => ((loadVar ty a).run P w₁).andThen fun x w₂ => .ok (.tuple #[tmps.getD u undef, x, tmps.getD v undef]) w₂ := by
  simp only [results, h]
  simp [Sem.run_bind, Result.andThen]
theorem ret_tct {P : Program} {fn : Func} {R : Ending → World → Prop} {a : Act} {w : World} {p u u2 : Tmp} {ty : TypeId} {g : Nat} {C : List Value} {v v2 : Value} (h : fn.results = #[.tmp u, .cell p ty, .tmp u2]) (hp : a.tmps.getD p undef = .pointer (some ⟨g, 0, none⟩)) (hv : a.tmps.getD u undef = v) (hv2 : a.tmps.getD u2 undef = v2) (hb : blk w g = some C)
    (hr : ((P.underlying ty).map fun d => (match d with | .struct _ | .array _ _ => true | _ => false)) = some true) (hi : (P.info? ty).map (·.size) = some C.length) (hdf : a.defers = []) (hR : R (.returned (.tuple #[v, .agg C.toArray, v2])) w) : bodyPost P fn R .ret a w := by
  obtain ⟨t, fz, ht⟩ := blk_some hb
  obtain ⟨d, hu, hd⟩ : ∃ d, P.underlying ty = some d ∧ (match d with | .struct _ | .array _ _ => true | _ => false) = true := by
    cases hx : P.underlying ty with
    | none => simp [hx] at hr
    | some d => exact ⟨d, rfl, by simpa [hx] using hr⟩
  refine bodyPost_ret ?_ hdf hR
  rw [results_tct h, hp, hv, hv2]
  have hp' := run_loadVar_row (P := P) w g t ty C.toArray fz d ht hu (by cases d <;> simp_all) (by simpa using hi)
  simp [asAddr, hp', Result.andThen]
/-- A ledger, boxes, and a row of receipts. -/
def LrI (O : Own) (W : World) (bl : Nat) (lr : Lab) (bs : List (Nat × List Value)) (v : Value) (rs : List Receipt) (L : PLg) (V : World) : Prop := ∃ O', LedA O' V bl L ∧ Lg (lgP bl) O W O' V ∧ (∀ p ∈ bs, blk V p.1 = some p.2 ∧ free V p.1 = true ∧ O' p.1 = .no ∧ W.heap.size ≤ p.1) ∧ RowL W.heap.size O' lr V 120 120 v rs.length (rs.flatMap Receipt.enc)
section
variable {O : Own} {V V' W : World} {bl : Nat} {L L' : PLg} {bs : List (Nat × List Value)} {lr : Lab} {v : Value} {rs : List Receipt}
theorem LrI.lb (h : LrI O W bl lr bs v rs L V) : LbI O W bl bs L V := by
  obtain ⟨O', h1, h2, h3, h4⟩ := h
  exact ⟨O', h1, h2, h3⟩
theorem LbI.nrow (h : LbI O W bl bs L V) (lr : Lab) : LrI O W bl lr bs (.slice none 0 0) [] L V := by
  obtain ⟨O', h1, h2, h3⟩ := h
  exact ⟨O', h1, h2, h3, RowL.nil _ _ _ _ _ _⟩
theorem LrI.call {f : FuncId} {args : Array Value} {v9 : Value} (h : LrI O W bl lr bs v rs L V) (hlr : ¬ lgP bl lr) (hc : ∀ O', LedA O' V bl L → Calls Tryz.prog f args V (LxPost O' V bl v9 L')) : Calls Tryz.prog f args V (fun e V' => e = .returned v9 ∧ LrI O W bl lr bs v rs L' V') := by
  obtain ⟨O', h1, h2, h3, h4⟩ := h
  refine (hc O' h1).mono ?_
  rintro e V' ⟨rfl, O2, g1, g2⟩
  refine ⟨rfl, O2, g1, h2.trans g2, fun p hp => ?_, h4.lg g2 hlr⟩
  obtain ⟨q1, q2, q3, q4⟩ := h3 p hp
  have nn : ¬ lgP bl (O' p.1) := by rw [q3]; exact lgP_no bl
  exact ⟨g2.blk q1 nn, g2.free q1 q2 nn, (g2.lab q1 nn).trans q3, q4⟩
theorem LrI.box (h : LrI O W bl lr bs v rs L V) (C : List Value) (ty : TypeId) : LrI O W bl lr ((V.heap.size, C) :: bs) v rs L (V.alloc (.cells C.toArray ty)) := by
  have he : V.Extends (V.alloc (.cells C.toArray ty)) := extends_alloc (ext_Ext (Ext.refl _)) _
  obtain ⟨O', h1, h2, h3, h4⟩ := h
  refine ⟨_, h1.ext he, h2.ext he, fun p hp => ?_, h4.ext he⟩
  rcases List.mem_cons.1 hp with rfl | hp
  · exact ⟨by rw [blk_alloc, if_pos rfl], by rw [free_alloc, if_pos rfl], lab_ge (Nat.le_refl _), h2.size⟩
  · obtain ⟨g1, g2, g3, g4⟩ := h3 p hp
    exact ⟨(he.blk (blk_lt g1)).trans g1, (free_of_heap (he.block _ (blk_lt g1))).trans g2, (lab_lt (blk_lt g1)).trans g3, g4⟩
theorem LrI.at (h : LrI O W bl lr bs v rs L V) {b : Nat} {C : List Value} (hp : (b, C) ∈ bs) : blk V b = some C ∧ free V b = true := h.lb.at hp
theorem LrI.put {b : Nat} {C C' : List Value} (h : LrI O W bl lr ((b, C) :: bs) v rs L V) (hn : ∀ p ∈ bs, p.1 ≠ b) (hlr : lr ≠ .no) : LrI O W bl lr ((b, C') :: bs) v rs L (Blk.put V b C') := by
  obtain ⟨O', h1, h2, h3, h4⟩ := h
  obtain ⟨q1, q2, q3, q4⟩ := h3 _ (List.mem_cons_self ..)
  have hpk : Lg (fun l => l = Lab.no) O' V O' (Blk.put V b C') := Lg.put (P := fun l => l = Lab.no) (Lg.refl _ _ _) q3 _
  refine ⟨O', h1.lg8 hpk (fun j _ _ e => by cases e), h2.put_new q4 _, fun p hp => ?_, h4.lg hpk hlr⟩
  rcases List.mem_cons.1 hp with rfl | hp
  · exact ⟨by rw [blk_put, if_pos rfl, q1]; rfl, by rw [free_put]; exact q2, q3, q4⟩
  · obtain ⟨g1, g2, g3, g4⟩ := h3 p (List.mem_cons_of_mem _ hp)
    exact ⟨by rw [blk_put, if_neg (hn p hp)]; exact g1, by rw [free_put]; exact g2, g3, g4⟩
theorem LrI.sub {bs' : List (Nat × List Value)} (h : LrI O W bl lr bs v rs L V) (hs : ∀ p ∈ bs', p ∈ bs) : LrI O W bl lr bs' v rs L V := by
  obtain ⟨O', h1, h2, h3, h4⟩ := h
  exact ⟨O', h1, h2, fun p hp => h3 p (hs p hp), h4⟩
/-- run, with boxes. -/
theorem LbI.run (h : LbI O W bl bs L V) (s : Sl) (X : List Tx) (hK : ApK L X.length) (hT : TxsL (lgP bl) O W s X) (hl : X.length ≤ 1000000) (hlr : ¬ lgP bl lr) (hl0 : lr ≠ .no) (hfr : ∀ k, k < W.heap.size → ¬ lgP bl (O k) → O k ≠ lr) : Calls Tryz.prog 160 #[.pointer (some ⟨bl, 0, none⟩), .slice s.a s.len s.cap] V (fun e V' => ∃ a n c, e = .returned (.tuple #[.slice a n c, .int .i64 (runF L X 0 []).1.1.2, .int .i64 (runF L X 0 []).1.2]) ∧ LrI O W bl lr bs (.slice a n c) (runF L X 0 []).1.1.1 (runF L X 0 []).2 V') := by
  obtain ⟨O', h1, h2, h3⟩ := h
  obtain ⟨O1, hO1⟩ : ∃ O1 : Own, O1 = fun k => if O' k = lr then .no else O' k := ⟨_, rfl⟩
  have e1 : ∀ k, O' k ≠ lr → O1 k = O' k := fun k hk => by rw [hO1]; exact if_neg hk
  have e2 : ∀ k, O1 k ≠ lr := fun k => by
    rw [hO1]
    dsimp only
    split
    · exact hl0.symm
    · assumption
  have ea : ∀ k j, O' k = .a bl j → O1 k = .a bl j := fun k j hk => (e1 k (by rw [hk]; exact fun e => hlr ⟨j, e.symm⟩)).trans hk
  have hL1 : LedA O1 V bl L := by
    obtain ⟨sn, ss, bn, ms, mt, mr, g⟩ := h1
    obtain ⟨K, h4, h5, h6⟩ := g.sav
    exact ⟨sn, ss, bn, ms, mt, mr, g.hblk, g.hfree, ea _ _ g.hlab, RowL.relab g.now (fun k hk => ea _ _ hk), ⟨K, h4.relab (fun k hk => ea _ _ hk), h5, fun i k l q1 q2 => RowL.relab (h6 i k l q1 q2) (fun k hk => ea _ _ hk)⟩, RowL.relab g.bgn (fun k hk => ea _ _ hk), g.bgs, RowL.relab g.msn (fun k hk => ea _ _ hk), RowL.relab g.mtk (fun k hk => ea _ _ hk), RowL.relab g.mrc (fun k hk => ea _ _ hk), g.sml, g.dep⟩
  have hg1 : Lg (lgP bl) O W O1 V := ⟨h2.os, h2.tape, h2.output, h2.size, fun k hk hp => by
    have q := h2.keep k hk hp
    exact ⟨(e1 k (by rw [q.1]; exact hfr k hk hp)).trans q.1, q.2⟩, fun k hk hp => by
    have q := h2.own k hk hp
    rw [e1 k (fun e => hlr (by rw [← e]; exact q))]
    exact q⟩
  refine (run_any O1 V bl lr L s X hL1 hK (hT.lg hg1) hl hlr (fun k _ _ => e2 k)).mono ?_
  rintro e V' ⟨a, n, c, rfl, O2, g1, g2, g3⟩
  refine ⟨a, n, c, rfl, O2, g1, hg1.trans g2, fun p hp => ?_, ⟨row_base g3.1 hg1.size, g3.2⟩⟩
  obtain ⟨q1, q2, q3, q4⟩ := h3 p hp
  have o1 : O1 p.1 = .no := (e1 _ (by rw [q3]; exact hl0.symm)).trans q3
  have nn : ¬ lgP bl (O1 p.1) := by rw [o1]; exact lgP_no bl
  exact ⟨g2.blk q1 nn, g2.free q1 q2 nn, (g2.lab q1 nn).trans o1, q4⟩
end
/-- After ExecuteBlock. -/
def ExPost (O : Own) (W : World) (bl : Nat) (lr : Lab) (r : ExR × PLg) (e : Ending) (V : World) : Prop := ∃ a n c, e = .returned (.tuple #[.agg r.1.sum.enc.toArray, .slice a n c, .int .i64 r.1.failed, .int .i64 r.1.code]) ∧ ∃ O', LedA O' V bl r.2 ∧ Lg (lgP bl) O W O' V ∧ RowL W.heap.size O' lr V 120 120 (.slice a n c) r.1.rs.length (r.1.rs.flatMap Receipt.enc)
attribute [local go_sem ↓] execOp_build
attribute [local go_sem] build50z
set_option maxRecDepth 20000 in
set_option maxHeartbeats 1000000 in
theorem executeBlock_any (O : Own) (W : World) (bl : Nat) (lr : Lab) (L : PLg) (g : UInt64) (s : Sl) (X : List Tx) (hL : LedA O W bl L) (hs : L.open_ = false → L.st.saved = [] ∧ ApK (begL L g) X.length ∧ L.st.now.length + 20 * X.length + 60 < 1000000000) (hT : TxsL (lgP bl) O W s X) (hl : X.length ≤ 1000000) (hlr : ¬ lgP bl lr) (hl0 : lr ≠ .no) (hfr : ∀ k, k < W.heap.size → ¬ lgP bl (O k) → O k ≠ lr) : Calls Tryz.prog 93 #[.pointer (some ⟨bl, 0, none⟩), .int .u64 (w64 g), .slice s.a s.len s.cap] W (ExPost O W bl lr (exeF L g X)) := by
  obtain ⟨Q, hQ⟩ : ∃ Q : Ending → World → Prop, Q = ExPost O W bl lr (exeF L g X) := ⟨_, rfl⟩
  rw [← hQ]
  have HQ := hid_of hQ
  have hB := (LbI.start hL).box Summary.zero.enc 50 (Nat.le_refl _)
  obtain ⟨br, hbr⟩ : ∃ br, br = W.heap.size := ⟨_, rfl⟩
  obtain ⟨W1, hW1⟩ : ∃ W1 : World, W1 = W.alloc (.cells Summary.zero.enc.toArray 50) := ⟨_, rfl⟩
  rw [← hW1, ← hbr] at hB
  have hbg := hB.call (fun O' hO => beginBlock_any O' _ bl L g hO (fun h => (hs h).1))
  have HS := hid_of hs
  have HT := hid_of hT
  have HX := hid_of hl
  have HLR := hid_of (And.intro hlr hl0)
  have HFR := hid_of hfr
  have HW1 := hid_of hW1
  have HBR := hid_of hbr
  have hU : (begF L g).1 = 0 → L.open_ = false ∧ begF L g = (0, begL L g) := by
    unfold begF
    split
    · intro e; dsimp only at e; omega
    · rename_i ho
      split
      · intro e; dsimp only at e; omega
      · intro _; exact ⟨by simpa using ho, rfl⟩
  have HF : Hid (exeF L g X = exeF L g X) := rfl
  have HE : Hid (∀ B, B = begF L g → exeF L g X = if B.1 = 0 then
    (if (runF B.2 X 0 []).1.2 = 0 then (⟨(endF (runF B.2 X 0 []).2).1.1, (runF B.2 X 0 []).1.1.1, -1, (endF (runF B.2 X 0 []).2).1.2⟩, (endF (runF B.2 X 0 []).2).2)
     else (⟨Summary.zero, [], (runF B.2 X 0 []).1.1.2, (runF B.2 X 0 []).1.2⟩, (abF (runF B.2 X 0 []).2).2))
    else (⟨Summary.zero, [], -1, B.1⟩, B.2)) := fun B e => by rw [e]; rfl
  clear hL hQ hW1 hbr hs hT hl hlr hl0 hfr hB HF
  obtain ⟨sa, sl, sc⟩ := s
  dsimp only
  go_enter Tryz.func93, Tryz.ntmps93
  go_upto_region 1 with fail
  rw [← HW1.out, ← HBR.out]
  clear HW1 HBR
  go_wp2_with fail
  refine hbg.mono ?_
  clear hbg
  rintro e V2 ⟨rfl, h2⟩
  dsimp only
  generalize hbf : begF L g = B at h2 hU
  have hE := HE.out B hbf.symm
  clear HE hbf
  by_cases hb : B.1 = 0
  rotate_left 1
  · have kr := (h2.at (List.mem_cons_self ..)).1
    have kq := (h2.at (List.mem_cons_self ..)).2
    have HP : Hid (Q (.returned (.tuple #[.agg Summary.zero.enc.toArray, .slice none 0 0, .int .i64 (-1), .int .i64 B.1])) (put V2 br Summary.zero.enc)) := by
      show Q _ _
      rw [HQ.out, hE, if_neg hb]
      obtain ⟨O', q1, q2, q3, q4⟩ := (h2.put (C' := Summary.zero.enc) (fun p hp => by cases hp)).nrow lr
      exact ⟨none, 0, 0, rfl, O', q1, q2, q4⟩
    have hbb : (B.1 == 0) = false := by simp [hb]
    generalize B.1 = b1 at hb HP hbb ⊢
    clear h2 hE hU HQ HS HT HX HLR HFR
    go_wp2_with fail
    refine ret_cttt (C := Summary.zero.enc) rfl rfl rfl rfl rfl (by rw [blk_put, if_pos rfl, kr]; rfl) (by kernel_rfl) (by rw [Summary.length_enc]; kernel_rfl) rfl ?_
    exact HP.out
  obtain ⟨hop, rfl⟩ := hU hb
  clear hU
  rw [if_pos hb] at hE
  dsimp only at hE h2 hb ⊢
  obtain ⟨hsv, hK, hnl⟩ := HS.out hop
  have hrn := h2.run (lr := lr) ⟨sa, sl, sc⟩ X hK HT.out HX.out HLR.out.1 HLR.out.2 HFR.out
  dsimp only at hrn
  have hK9 := runF_ApK (X := X) (L := begL L g) (i := 0) (rs := []) (k := 0) (by rw [Nat.add_zero]; exact hK)
  have hsm := (runF_same (X := X) (L := begL L g) (i := 0) (rs := [])).1
  have hso := (runF_same (X := X) (L := begL L g) (i := 0) (rs := [])).2.1
  have hbn : (runF (begL L g) X 0 []).2.begun.now.length ≤ 1000000000 := by rw [hsm]; show L.st.now.length ≤ _; omega
  generalize runF (begL L g) X 0 [] = R at hrn hE hK9 hso hbn
  obtain ⟨⟨⟨rs, fl⟩, cd⟩, L3⟩ := R
  dsimp only at hrn hE hK9 hso hbn
  have HK9 := hid_of (And.intro hK9 hbn)
  clear hK hsv hnl h2 hsm HS HT HX HFR hop hK9 hbn hso
  go_wp2_with fail
  refine hrn.mono ?_
  clear hrn
  rintro e V3 ⟨a, n, c, rfl, h3⟩
  dsimp only
  by_cases hc : cd = 0
  rotate_left 1
  · rw [if_neg hc] at hE
    have hab := h3.lb.call (fun O' hO => abortBlock_any O' _ bl L3 hO HK9.out.2)
    have hcb : (cd == 0) = false := by simp [hc]
    clear h3
    go_wp2_with fail
    refine hab.mono ?_
    clear hab
    rintro e V4 ⟨rfl, h4⟩
    dsimp only
    have kr := (h4.at (List.mem_cons_self ..)).1
    have kq := (h4.at (List.mem_cons_self ..)).2
    have HP : Hid (Q (.returned (.tuple #[.agg Summary.zero.enc.toArray, .slice none 0 0, .int .i64 fl, .int .i64 cd])) (put V4 br Summary.zero.enc)) := by
      show Q _ _
      rw [HQ.out, hE]
      obtain ⟨O', q1, q2, q3, q4⟩ := (h4.put (C' := Summary.zero.enc) (fun p hp => by cases hp)).nrow lr
      exact ⟨none, 0, 0, rfl, O', q1, q2, q4⟩
    clear h4 hE HQ HLR HK9
    go_wp2_with fail
    refine ret_cttt (C := Summary.zero.enc) rfl rfl rfl rfl rfl (by rw [blk_put, if_pos rfl, kr]; rfl) (by kernel_rfl) (by rw [Summary.length_enc]; kernel_rfl) rfl ?_
    exact HP.out
  rw [if_pos hc] at hE
  subst hc
  have hen := h3.call HLR.out.1 (fun O' hO => endBlock_any O' _ bl L3 hO (by have := HK9.out.1.nl; omega))
  clear h3
  generalize endF L3 = E at hen hE
  obtain ⟨⟨sm, ce⟩, L4⟩ := E
  dsimp only at hen hE
  go_wp2_with fail
  refine hen.mono ?_
  clear hen
  rintro e V4 ⟨rfl, h4⟩
  dsimp only
  have h5 := h4.box sm.enc 50
  obtain ⟨V5, hV5⟩ : ∃ V5 : World, V5 = V4.alloc (.cells sm.enc.toArray 50) := ⟨_, rfl⟩
  have hnb : ¬ br = V4.heap.size := Nat.ne_of_lt (blk_lt (h4.at (List.mem_cons_self ..)).1)
  rw [← hV5] at h5
  obtain ⟨bq, hbq⟩ : ∃ bq, bq = V4.heap.size := ⟨_, rfl⟩
  rw [← hbq] at h5 hnb
  have ks := (h5.at (b := bq) (C := sm.enc) (by simp)).1
  have kr := (h5.at (b := br) (C := Summary.zero.enc) (by simp)).1
  have kq := (h5.at (b := br) (C := Summary.zero.enc) (by simp)).2
  have HP : Hid (Q (.returned (.tuple #[.agg sm.enc.toArray, .slice a n c, .int .i64 (-1), .int .i64 ce])) (put V5 br sm.enc)) := by
    show Q _ _
    rw [HQ.out, hE]
    obtain ⟨O', q1, q2, q3, q4⟩ := (LrI.sub (bs' := [(br, Summary.zero.enc)]) h5 (fun p hp => by simp at hp; simp [hp])).put (C' := sm.enc) (fun p hp => by cases hp) HLR.out.2
    exact ⟨a, n, c, rfl, O', q1, q2, q4⟩
  have HV5 := hid_of hV5
  have HBQ := hid_of hbq
  clear h4 h5 hE HQ HLR HK9 hV5 hbq
  go_upto_region 9 with fail
  rw [← HV5.out, ← HBQ.out]
  clear HV5 HBQ
  go_wp2_with fail
  refine ret_cttt (C := sm.enc) rfl rfl rfl rfl rfl (by rw [blk_put, if_pos rfl, kr]; rfl) (by kernel_rfl) (by rw [Summary.length_enc]; kernel_rfl) rfl ?_
  exact HP.out
end Go.Proofs.Qxb6500786aGreat
