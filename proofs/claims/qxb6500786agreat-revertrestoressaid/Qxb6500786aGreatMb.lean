import Derived.DeepKeys2
import Derived.Test.Qxb6500786aGreatMa
import Derived.Test.Qxb6500786aGreatLs

import Derived.StillTailTactics
import Derived.Deep.QuietTactic
import Derived.BigQuiet
import Derived.Deep.RegionHeld
import Derived.Deep.CutRange
import Derived.Laws.ResultCell
import Derived.Laws.Rows
import Derived.DeepKeys
import Derived.DataBytes
import Derived.Laws.StructEq
import Derived.Laws.AppendOwn
import Derived.Laws.MakeOwn
import Derived.Lib.AppendStr
set_option linter.unusedSimpArgs false
set_option linter.unusedVariables false
namespace Go.Proofs.Qxb6500786aGreat
open Go.RowKit Go.Blk
attribute [local go_sem ↓] execOp_load execOp_store execOp_alloc
attribute [local go_sem] Tryz.ld24 Tryz.st24 Tryz.ld36 Tryz.st36 Tryz.ld28 Tryz.st28 Tryz.ld32 Tryz.st32 Tryz.ld33 Tryz.st33 Tryz.ld34 Tryz.st34 Tryz.ld5 Tryz.st5 Tryz.ld31 Tryz.st31 Tryz.ld30 Tryz.st30 Tryz.ld41 Tryz.st41 Tryz.ld44 Tryz.st44 Tryz.ld4 Tryz.st4 Tryz.ld173 Tryz.st173 Tryz.ld174 Tryz.st174 Tryz.ld95 Tryz.st95 Tryz.ld45 Tryz.st45 Tryz.ld207 Tryz.st207 Tryz.ld3 Tryz.st3 Tryz.ld189 Tryz.st189 Tryz.ld2 Tryz.st2 Tryz.ld9 Tryz.st9 Tryz.ld12 Tryz.st12 Tryz.ld21 Tryz.st21 Tryz.ld22 Tryz.st22 Tryz.ld46 Tryz.st46 Tryz.ld92 Tryz.st92 Tryz.ld94 Tryz.st94 Tryz.ld96 Tryz.st96 Tryz.ld97 Tryz.st97 Tryz.ld105 Tryz.st105 Tryz.ld117 Tryz.st117 Tryz.ld122 Tryz.st122 Tryz.ld123 Tryz.st123 Tryz.ld133 Tryz.st133 Tryz.ld155 Tryz.st155 Tryz.ld163 Tryz.st163 Tryz.ld190 Tryz.st190 Tryz.ld197 Tryz.st197 Tryz.ld201 Tryz.st201 Tryz.ld202 Tryz.st202 Tryz.ld209 Tryz.st209 Tryz.ld216 Tryz.st216 Tryz.ld230 Tryz.st230 Tryz.ld238 Tryz.st238 Tryz.ld242 Tryz.st242 Tryz.ld251 Tryz.st251 Tryz.ld260 Tryz.st260 Tryz.ld286 Tryz.st286 Tryz.ld292 Tryz.st292 Tryz.ld298 Tryz.st298 Tryz.ld309 Tryz.st309 Tryz.ld35 Tryz.st35 Tryz.ld48 Tryz.st48 Tryz.ld47 Tryz.st47 Tryz.ld79 Tryz.st79 Tryz.ld177 Tryz.st177 Tryz.ld180 Tryz.st180 Tryz.ld231 Tryz.st231 Tryz.ld232 Tryz.st232 Tryz.ld26 Tryz.st26 Tryz.ld38 Tryz.st38 Tryz.ld40 Tryz.st40 Tryz.ld43 Tryz.st43 Tryz.ld50 Tryz.st50 Tryz.ld52 Tryz.st52 Tryz.ld54 Tryz.st54 Tryz.ld81 Tryz.st81 Tryz.ld112 Tryz.st112 Tryz.ld120 Tryz.st120 Tryz.ld176 Tryz.st176 Tryz.ld179 Tryz.st179 Tryz.ld182 Tryz.st182 Tryz.ld184 Tryz.st184 Tryz.ld234 Tryz.st234 Tryz.ld236 Tryz.st236 Tryz.ld240 Tryz.st240 Tryz.ld246 Tryz.st246 Tryz.ld249 Tryz.st249 Tryz.al35 Tryz.al48 Tryz.al47 Tryz.al79 Tryz.al177 Tryz.al180 Tryz.al231 Tryz.al232 Tryz.al26 Tryz.al38 Tryz.al40 Tryz.al43 Tryz.al50 Tryz.al52 Tryz.al54 Tryz.al81 Tryz.al112 Tryz.al120 Tryz.al176 Tryz.al179 Tryz.al182 Tryz.al184 Tryz.al234 Tryz.al236 Tryz.al240 Tryz.al246 Tryz.al249
attribute [local go_sem] Player.length_enc Player.ok_enc Player.all_get Player.all_set Player.hand_get Player.hand_set Player.aside_get Player.aside_set Message.length_enc Message.ok_enc Message.all_get Message.all_set Message.kind_get Message.kind_set Message.from__get Message.from__set Message.to__get Message.to__set Message.sender_get Message.sender_set Message.receiver_get Message.receiver_set Message.seq_get Message.seq_set Message.token_get Message.token_set Message.amount_get Message.amount_set Message.size_get Message.size_set Message.payload_get Message.payload_set Tx.length_enc Tx.ok_enc Tx.all_get Tx.all_set Tx.kind_get Tx.kind_set Tx.chain_get Tx.chain_set Tx.from__get Tx.from__set Tx.nonce_get Tx.nonce_set Tx.fee_get Tx.fee_set Tx.to__get Tx.to__set Tx.dest_get Tx.dest_set Tx.token_get Tx.token_set Tx.amount_get Tx.amount_set Tx.size_get Tx.size_set Tx.payload_get Tx.payload_set Tx.msg_get Tx.msg_set Tx.msg_kind_get Tx.msg_kind_set Tx.msg_from__get Tx.msg_from__set Tx.msg_to__get Tx.msg_to__set Tx.msg_sender_get Tx.msg_sender_set Tx.msg_receiver_get Tx.msg_receiver_set Tx.msg_seq_get Tx.msg_seq_set Tx.msg_token_get Tx.msg_token_set Tx.msg_amount_get Tx.msg_amount_set Tx.msg_size_get Tx.msg_size_set Tx.msg_payload_get Tx.msg_payload_set GOp.length_enc GOp.ok_enc GOp.all_get GOp.all_set GOp.kind_get GOp.kind_set GOp.tx_get GOp.tx_set GOp.txs_get GOp.txs_set GOp.gas_get GOp.gas_set GOp.acct_get GOp.acct_set GOp.token_get GOp.token_set GOp.chain_get GOp.chain_set GOp.seq_get GOp.seq_set GOp.tx_kind_get GOp.tx_kind_set GOp.tx_chain_get GOp.tx_chain_set GOp.tx_from__get GOp.tx_from__set GOp.tx_nonce_get GOp.tx_nonce_set GOp.tx_fee_get GOp.tx_fee_set GOp.tx_to__get GOp.tx_to__set GOp.tx_dest_get GOp.tx_dest_set GOp.tx_token_get GOp.tx_token_set GOp.tx_amount_get GOp.tx_amount_set GOp.tx_size_get GOp.tx_size_set GOp.tx_payload_get GOp.tx_payload_set GOp.tx_msg_get GOp.tx_msg_set GOp.tx_msg_kind_get GOp.tx_msg_kind_set GOp.tx_msg_from__get GOp.tx_msg_from__set GOp.tx_msg_to__get GOp.tx_msg_to__set GOp.tx_msg_sender_get GOp.tx_msg_sender_set GOp.tx_msg_receiver_get GOp.tx_msg_receiver_set GOp.tx_msg_seq_get GOp.tx_msg_seq_set GOp.tx_msg_token_get GOp.tx_msg_token_set GOp.tx_msg_amount_get GOp.tx_msg_amount_set GOp.tx_msg_size_get GOp.tx_msg_size_set GOp.tx_msg_payload_get GOp.tx_msg_payload_set Summary.length_enc Summary.ok_enc Summary.all_get Summary.all_set Summary.height_get Summary.height_set Summary.txs_get Summary.txs_set Summary.gas_get Summary.gas_set Summary.fees_get Summary.fees_set Summary.sent_get Summary.sent_set Summary.took_get Summary.took_set Summary.minted_get Summary.minted_set Summary.burned_get Summary.burned_set Summary.root_get Summary.root_set Detail.length_enc Detail.ok_enc Detail.all_get Detail.all_set Detail.code_get Detail.code_set Detail.have__get Detail.have__set Detail.need_get Detail.need_set Slot.length_enc Slot.ok_enc Slot.all_get Slot.all_set Slot.nonce_get Slot.nonce_set Slot.balances_get Slot.balances_set Tree.length_enc Tree.ok_enc Tree.all_get Tree.all_set Tree.leaves_get Tree.leaves_set Mark.length_enc Mark.ok_enc Mark.all_get Mark.all_set Mark.from__get Mark.from__set Mark.seq_get Mark.seq_set Receipt.length_enc Receipt.ok_enc Receipt.all_get Receipt.all_set Receipt.code_get Receipt.code_set Receipt.hash_get Receipt.hash_set Receipt.index_get Receipt.index_set Receipt.gas_get Receipt.gas_set Receipt.fee_get Receipt.fee_set Receipt.hasSent_get Receipt.hasSent_set Receipt.sent_get Receipt.sent_set Receipt.hasTook_get Receipt.hasTook_set Receipt.took_get Receipt.took_set Receipt.sent_kind_get Receipt.sent_kind_set Receipt.sent_from__get Receipt.sent_from__set Receipt.sent_to__get Receipt.sent_to__set Receipt.sent_sender_get Receipt.sent_sender_set Receipt.sent_receiver_get Receipt.sent_receiver_set Receipt.sent_seq_get Receipt.sent_seq_set Receipt.sent_token_get Receipt.sent_token_set Receipt.sent_amount_get Receipt.sent_amount_set Receipt.sent_size_get Receipt.sent_size_set Receipt.sent_payload_get Receipt.sent_payload_set Receipt.took_kind_get Receipt.took_kind_set Receipt.took_from__get Receipt.took_from__set Receipt.took_to__get Receipt.took_to__set Receipt.took_sender_get Receipt.took_sender_set Receipt.took_receiver_get Receipt.took_receiver_set Receipt.took_seq_get Receipt.took_seq_set Receipt.took_token_get Receipt.took_token_set Receipt.took_amount_get Receipt.took_amount_set Receipt.took_size_get Receipt.took_size_set Receipt.took_payload_get Receipt.took_payload_set Store.length_enc Store.ok_enc Store.all_get Store.all_set Store.now_get Store.now_set Store.saved_get Store.saved_set GState.length_enc GState.ok_enc GState.all_get GState.all_set GState.kv_get GState.kv_set GState.tree_get GState.tree_set GState.stale_get GState.stale_set GState.touched_get GState.touched_set GState.kv_now_get GState.kv_now_set GState.kv_saved_get GState.kv_saved_set GState.tree_leaves_get GState.tree_leaves_set History.length_enc History.ok_enc History.all_get History.all_set History.ring_get History.ring_set History.closed_get History.closed_set Ledger.length_enc Ledger.ok_enc Ledger.all_get Ledger.all_set Ledger.chain_get Ledger.chain_set Ledger.st_get Ledger.st_set Ledger.height_get Ledger.height_set Ledger.open__get Ledger.open__set Ledger.gasLimit_get Ledger.gasLimit_set Ledger.past_get Ledger.past_set Ledger.begun_get Ledger.begun_set Ledger.sent_get Ledger.sent_set Ledger.took_get Ledger.took_set Ledger.receipts_get Ledger.receipts_set Ledger.st_kv_get Ledger.st_kv_set Ledger.st_tree_get Ledger.st_tree_set Ledger.st_stale_get Ledger.st_stale_set Ledger.st_touched_get Ledger.st_touched_set Ledger.st_kv_now_get Ledger.st_kv_now_set Ledger.st_kv_saved_get Ledger.st_kv_saved_set Ledger.st_tree_leaves_get Ledger.st_tree_leaves_set Ledger.past_ring_get Ledger.past_ring_set Ledger.past_closed_get Ledger.past_closed_set Ledger.begun_kv_get Ledger.begun_kv_set Ledger.begun_tree_get Ledger.begun_tree_set Ledger.begun_stale_get Ledger.begun_stale_set Ledger.begun_touched_get Ledger.begun_touched_set Ledger.begun_kv_now_get Ledger.begun_kv_now_set Ledger.begun_kv_saved_get Ledger.begun_kv_saved_set Ledger.begun_tree_leaves_get Ledger.begun_tree_leaves_set Purse.length_enc Purse.ok_enc Purse.all_get Purse.all_set Purse.st_get Purse.st_set Purse.n_get Purse.n_set Purse.account_get Purse.account_set Purse.token_get Purse.token_set Purse.amount_get Purse.amount_set Plan.length_enc Plan.ok_enc Plan.all_get Plan.all_set Plan.purse_get Plan.purse_set Plan.nonce_get Plan.nonce_set Plan.gasUsed_get Plan.gasUsed_set Plan.fees_get Plan.fees_set Plan.hasSupply_get Plan.hasSupply_set Plan.token_get Plan.token_set Plan.supply_get Plan.supply_set Plan.flowAt_get Plan.flowAt_set Plan.flow_get Plan.flow_set Plan.receipt_get Plan.receipt_set Plan.purse_st_get Plan.purse_st_set Plan.purse_n_get Plan.purse_n_set Plan.purse_account_get Plan.purse_account_set Plan.purse_token_get Plan.purse_token_set Plan.purse_amount_get Plan.purse_amount_set Plan.receipt_code_get Plan.receipt_code_set Plan.receipt_hash_get Plan.receipt_hash_set Plan.receipt_index_get Plan.receipt_index_set Plan.receipt_gas_get Plan.receipt_gas_set Plan.receipt_fee_get Plan.receipt_fee_set Plan.receipt_hasSent_get Plan.receipt_hasSent_set Plan.receipt_sent_get Plan.receipt_sent_set Plan.receipt_hasTook_get Plan.receipt_hasTook_set Plan.receipt_took_get Plan.receipt_took_set Plan.receipt_sent_kind_get Plan.receipt_sent_kind_set Plan.receipt_sent_from__get Plan.receipt_sent_from__set Plan.receipt_sent_to__get Plan.receipt_sent_to__set Plan.receipt_sent_sender_get Plan.receipt_sent_sender_set Plan.receipt_sent_receiver_get Plan.receipt_sent_receiver_set Plan.receipt_sent_seq_get Plan.receipt_sent_seq_set Plan.receipt_sent_token_get Plan.receipt_sent_token_set Plan.receipt_sent_amount_get Plan.receipt_sent_amount_set Plan.receipt_sent_size_get Plan.receipt_sent_size_set Plan.receipt_sent_payload_get Plan.receipt_sent_payload_set Plan.receipt_took_kind_get Plan.receipt_took_kind_set Plan.receipt_took_from__get Plan.receipt_took_from__set Plan.receipt_took_to__get Plan.receipt_took_to__set Plan.receipt_took_sender_get Plan.receipt_took_sender_set Plan.receipt_took_receiver_get Plan.receipt_took_receiver_set Plan.receipt_took_seq_get Plan.receipt_took_seq_set Plan.receipt_took_token_get Plan.receipt_took_token_set Plan.receipt_took_amount_get Plan.receipt_took_amount_set Plan.receipt_took_size_get Plan.receipt_took_size_set Plan.receipt_took_payload_get Plan.receipt_took_payload_set Move.length_enc Move.ok_enc Move.all_get Move.all_set Move.account_get Move.account_set Move.token_get Move.token_set Move.down_get Move.down_set Move.amount_get Move.amount_set Books.length_enc Books.ok_enc Books.all_get Books.all_set Books.sums_get Books.sums_set Books.stored_get Books.stored_set Books.marks_get Books.marks_set Pair.length_enc Pair.ok_enc Pair.all_get Pair.all_set Pair.key_get Pair.key_set Pair.value_get Pair.value_set
attribute [local go_sem] size_put size_ext blk_put free_put blk_alloc free_alloc blk_drew free_drew blk_ext free_ext lookOr_some putOr_some segAt_some cellAt_some storeIn_some put_put put_alloc_new length_arr ok_arr_u8 ok_arr_u32 ok_arr_u64 ok_arr_i64 ok_arr_sl cellsV_agg cellsV_int cellsV_bool cellsV_string cellsV_pointer cellsV_slice cellsV_sl ok_int ok_bool ok_string ok_pointer ok_slice ok_sl toList_arr seg_arr set_arr nth_splice nth_splice0 seg_splice seg_splice0 splice_splice splice_splice0 length_splice_if
attribute [local go_sem ↓] execOp_box
attribute [local go_sem] box_run nth_arr_u8 put_arr_u8 blk_drewN free_drewN put_drewN blk_raw free_raw
set_option maxRecDepth 1000000 in
theorem build50_0 (w : World) (a b c d e f : UInt64) (p0 p1 p2 p3 p4 p5 p6 p7 p8 p9 p10 p11 p12 p13 p14 p15 p16 p17 p18 p19 p20 p21 p22 p23 p24 p25 p26 p27 p28 p29 p30 p31 : UInt8) : (buildOp 50 #[(0, .int .u64 (w64 a)), (1, .int .u64 (w64 b)), (2, .int .u64 (w64 c)), (3, .int .u64 (w64 d)), (4, .int .u64 (w64 e)), (5, .int .u64 (w64 f)), (8, .agg (arr u8v #v[p0, p1, p2, p3, p4, p5, p6, p7, p8, p9, p10, p11, p12, p13, p14, p15, p16, p17, p18, p19, p20, p21, p22, p23, p24, p25, p26, p27, p28, p29, p30, p31]).toArray)]).run Tryz.prog w = .ok (.value (.agg (Summary.mk a b c d e f (Vector.replicate 4 0) (Vector.replicate 4 0) #v[p0, p1, p2, p3, p4, p5, p6, p7, p8, p9, p10, p11, p12, p13, p14, p15, p16, p17, p18, p19, p20, p21, p22, p23, p24, p25, p26, p27, p28, p29, p30, p31]).enc.toArray)) w := by kernel_rfl
theorem build50 (w : World) (a b c d e f : UInt64) (h : Vector UInt8 32) : (buildOp 50 #[(0, .int .u64 (w64 a)), (1, .int .u64 (w64 b)), (2, .int .u64 (w64 c)), (3, .int .u64 (w64 d)), (4, .int .u64 (w64 e)), (5, .int .u64 (w64 f)), (8, .agg (arr u8v h).toArray)]).run Tryz.prog w = .ok (.value (.agg (Summary.mk a b c d e f (Vector.replicate 4 0) (Vector.replicate 4 0) h).enc.toArray)) w := by
  rw [lit32 h]
  exact build50_0 ..
set_option maxRecDepth 1000000 in
theorem build50z (w : World) : (buildOp 50 #[]).run Tryz.prog w = .ok (.value (.agg (Summary.zero : Summary).enc.toArray)) w := by kernel_rfl
attribute [local irreducible] updL topD leafF
theorem rotL_h (L : PLg) : (rotL L).height = L.height := by simp only [rotL]
/-- The counters of the first t tokens are cleared. -/
def clrN (now : List Pair) : Nat → List Pair
  | 0 => now
  | t + 1 => saveF (saveF (clrN now t) (keyC (7 + UInt64.ofNat t)) 0) (keyC (11 + UInt64.ofNat t)) 0
def clrA (now : List Pair) : List Pair := saveF (saveF (saveF (saveF (saveF (clrN now 4) (keyC 3) 0) (keyC 1) 0) (keyC 2) 0) (keyC 4) 0) (keyC 5) 0
def smV (f : Nat → UInt64) (t : Nat) : Vector UInt64 4 := Vector.ofFn fun i : Fin 4 => if i.val < t then f i.val else 0
theorem smV_set (f : Nat → UInt64) (t : Nat) (h : t < 4) : (smV f t).set t (f t) h = smV f (t + 1) := by
  apply Vector.ext
  intro i hi
  unfold smV
  rw [Vector.getElem_set]
  by_cases e : t = i
  · subst e
    rw [if_pos rfl, Vector.getElem_ofFn]
    simp
  · rw [if_neg e, Vector.getElem_ofFn, Vector.getElem_ofFn]
    by_cases h1 : i < t
    · simp [h1, Nat.lt_succ_of_lt h1]
    · have h2 : ¬ i < t + 1 := by omega
      simp [h1, h2]
theorem smV_zero (f : Nat → UInt64) : smV f 0 = Vector.replicate 4 0 := by
  apply Vector.ext
  intro i hi
  unfold smV
  rw [Vector.getElem_ofFn]
  simp
noncomputable def smT (L : PLg) (t : Nat) : Summary := ⟨L.height, ldF L.st.now (keyC 3), ldF L.st.now (keyC 1), ldF L.st.now (keyC 2), ldF L.st.now (keyC 4), ldF L.st.now (keyC 5), smV (fun i => ldF (clrN L.st.now i) (keyC (7 + UInt64.ofNat i))) t, smV (fun i => ldF (clrN L.st.now i) (keyC (11 + UInt64.ofNat i))) t, rootD L.st⟩
noncomputable def endL (L : PLg) : PLg := { L with st := { rootS L.st with now := clrA L.st.now }, past := pushF L.past (smT L 4), begun := zS, open_ := false, gasLimit := 0, sent := [], took := [], receipts := [] }
/-- EndBlock, plainly. -/
noncomputable def endF (L : PLg) : (Summary × Int) × PLg := if L.open_ = true then (if 0 < L.st.saved.length then ((Summary.zero, 33), L) else ((smT L 4, 0), endL L)) else ((Summary.zero, 23), L)
theorem clrN_len (now : List Pair) : ∀ t, (clrN now t).length ≤ now.length + 2 * t
  | 0 => Nat.le_refl _
  | t + 1 => by
    have h1 := clrN_len now t
    have h2 := saveF_len (clrN now t) (keyC (7 + UInt64.ofNat t)) 0
    have h3 := saveF_len (saveF (clrN now t) (keyC (7 + UInt64.ofNat t)) 0) (keyC (11 + UInt64.ofNat t)) 0
    show (saveF _ _ _).length ≤ _
    omega
theorem LedA.push {O : Own} {V : World} {bl : Nat} {L : PLg} (hL : LedA O V bl L) (s : Summary) : Calls Tryz.prog 184 #[.pointer (some ⟨bl, 2064, none⟩), .agg s.enc.toArray] V (LxPost O V bl (.tuple #[]) { L with past := pushF L.past s }) := by
  obtain ⟨sn, ss, bn, ms, mt, mr, h⟩ := hL
  refine (push_any V bl _ s h.hblk h.hfree).mono ?_
  rintro e V' ⟨rfl, hb, hf, hw⟩
  have hl := hw.lg O h.hlab
  have nz : ∀ i, i ≠ 0 → ¬ (Lab.a bl i = .a bl 0) := fun i hi e => hi (Lab.a.inj e).2
  have hb2 : blk V' bl = some (lgOf { L with past := pushF L.past s } sn ss bn ms mt mr).enc := by rw [hb]; rfl
  exact ⟨rfl, lab O V.heap.size .no, ⟨sn, ss, bn, ms, mt, mr, hb2, hf, (lab_lt (blk_lt h.hblk)).trans h.hlab, RowL.lg h.now hl (nz _ (by omega)), h.sav.lg hl (nz _ (by omega)) (fun i => nz _ (by omega)), RowL.lg h.bgn hl (nz _ (by omega)), h.bgs, RowL.lg h.msn hl (nz _ (by omega)), RowL.lg h.mtk hl (nz _ (by omega)), RowL.lg h.mrc hl (nz _ (by omega)), h.sml, h.dep⟩, hl.mono (fun l e => ⟨_, e⟩)⟩
theorem LedA.root2 {O : Own} {W : World} {bl : Nat} {L : PLg} (hL : LedA O W bl L) : Calls Tryz.prog 117 #[.pointer (some ⟨bl, 1, none⟩)] W (LxPost O W bl (.agg (arr u8v (rootD L.st)).toArray) (rotL L)) := by
  refine hL.root.mono ?_
  rintro e V ⟨rfl, O', h1, h2⟩
  exact ⟨rfl, O', h1, h2.mono (fun l e => ⟨_, e⟩)⟩
theorem wpAnyF_two {P : Program} {ops : Array Oper} {Q : Exit → Act → World → Prop} {md : Region.Mode} {S : World → Prop} {F : Nat} {fuel : Nat} {listed : Array Bool} {a : Act} {w : World} {i j : Nat} {oi oj : Oper} (hr : Region.ready md ops listed = [i, j]) (hF : (i == F) = false) (hG : (j == F) = false) (hoi : ops[i]? = some oi) (hoj : ops[j]? = some oj)
    (h : ∀ K' : Act → World → Prop, Shut (∀ a w, S w → (S w → wpAnyF P md ops Q S F fuel (listed.setIfInBounds i true) a w) → K' a w) → if Region.wanted oi (yielded ops a.tmps) = true then Oper.wp P oi a w K' Q else K' (a.put oi.dst undef) w)
    (h' : ∀ K' : Act → World → Prop, Shut (∀ a w, S w → (S w → wpAnyF P md ops Q S F fuel (listed.setIfInBounds j true) a w) → K' a w) → if Region.wanted oj (yielded ops a.tmps) = true then Oper.wp P oj a w K' Q else K' (a.put oj.dst undef) w) :
    wpAnyF P md ops Q S F (fuel + 1) listed a w := by
  refine ⟨fun h0 => (by rw [hr] at h0; cases h0), fun k hk => ?_⟩
  rw [hr] at hk
  rcases List.mem_cons.1 hk with rfl | hk
  · exact wpOp_step hoi (fun K' hK => h K' (fun a w hS hW => hK a w ⟨fun _ => hS, hW hS⟩))
  · rw [List.mem_singleton] at hk
    subst hk
    exact wpOp_step hoj (fun K' hK => h' K' (fun a w hS hW => hK a w ⟨fun _ => hS, hW hS⟩))
/-- The last stores of EndBlock. -/
def finL (L : PLg) : PLg := { L with begun := zS, open_ := false, gasLimit := 0, sent := [], took := [], receipts := [] }
theorem LbI.fin {O : Own} {W V : World} {bl : Nat} {bs : List (Nat × List Value)} {L : PLg} (h : LbI O W bl bs L V) : ∃ (R : Ledger) (xa ya za : Option Addr) (xn xc yn yc zn zc : Nat), blk V bl = some R.enc ∧ free V bl = true ∧ Sl.val R.sent = .slice xa xn xc ∧ Sl.val R.took = .slice ya yn yc ∧ Sl.val R.receipts = .slice za zn zc ∧ LbI O W bl bs (finL L) (Blk.put V bl ({ R with begun := GState.zero, open_ := false, gasLimit := 0, sent := ⟨xa, 0, xc⟩, took := ⟨ya, 0, yc⟩, receipts := ⟨za, 0, zc⟩ } : Ledger).enc) := by
  have hne : ∀ p ∈ bs, p.1 ≠ bl := fun p hp => h.ne (b := p.1) (C := p.2) hp
  obtain ⟨O', ⟨sn, ss, bn, ⟨xa, xn, xc⟩, ⟨ya, yn, yc⟩, ⟨za, zn, zc⟩, h1⟩, h2, h3⟩ := h
  have hpk : Lg (fun l => l = .a bl 0) O' V O' (Blk.put V bl ({ lgOf L sn ss bn ⟨xa, xn, xc⟩ ⟨ya, yn, yc⟩ ⟨za, zn, zc⟩ with begun := GState.zero, open_ := false, gasLimit := 0, sent := ⟨xa, 0, xc⟩, took := ⟨ya, 0, yc⟩, receipts := ⟨za, 0, zc⟩ } : Ledger).enc) := Lg.put (P := fun l => l = .a bl 0) (Lg.refl _ _ _) h1.hlab _
  have nz : ∀ i, i ≠ 0 → ¬ (Lab.a bl i = .a bl 0) := fun i hi e => hi (Lab.a.inj e).2
  refine ⟨_, xa, ya, za, xn, xc, yn, yc, zn, zc, h1.hblk, h1.hfree, rfl, rfl, rfl, O', ⟨sn, ss, nilS, ⟨xa, 0, xc⟩, ⟨ya, 0, yc⟩, ⟨za, 0, zc⟩, ?_, by rw [free_put]; exact h1.hfree, h1.hlab, RowL.lg h1.now hpk (nz _ (by omega)), h1.sav.lg hpk (nz _ (by omega)) (fun i => nz _ (by omega)), RowL.nil _ _ _ _ _ _, rfl, RowL.lg (RowL.none Message.length_enc h1.msn) hpk (nz _ (by omega)), RowL.lg (RowL.none Message.length_enc h1.mtk) hpk (nz _ (by omega)), RowL.lg (RowL.none Receipt.length_enc h1.mrc) hpk (nz _ (by omega)), h1.sml, h1.dep⟩, h2.trans (hpk.mono (fun l e => ⟨_, e⟩)), fun p hp => ?_⟩
  · rw [blk_put, if_pos rfl, h1.hblk, zS_gOf]; rfl
  · obtain ⟨g1, g2, g3, g4⟩ := h3 p hp
    exact ⟨by rw [blk_put, if_neg (hne p hp)]; exact g1, by rw [free_put]; exact g2, g3, g4⟩
theorem smT_zero (L : PLg) : smT L 0 = (Summary.mk L.height (ldF L.st.now (keyC 3)) (ldF L.st.now (keyC 1)) (ldF L.st.now (keyC 2)) (ldF L.st.now (keyC 4)) (ldF L.st.now (keyC 5)) (Vector.replicate 4 0) (Vector.replicate 4 0) (rootD L.st)) := by unfold smT; rw [smV_zero, smV_zero]
theorem rot_clr0 (L : PLg) : ({ L with st := { rootS L.st with now := clrN L.st.now 0 } } : PLg) = rotL L := by simp only [rotL, rootS, clrN]
theorem smT_step (L : PLg) (t : Nat) (h : t < 4) : ({ ({ smT L t with minted := (smT L t).minted.set t (ldF (clrN L.st.now t) (keyC (7 + UInt64.ofNat t))) h } : Summary) with burned := (smT L t).burned.set t (ldF (clrN L.st.now t) (keyC (11 + UInt64.ofNat t))) h } : Summary) = smT L (t + 1) := by
  unfold smT
  dsimp only
  rw [smV_set (fun i => ldF (clrN L.st.now i) (keyC (7 + UInt64.ofNat i))) t h, smV_set (fun i => ldF (clrN L.st.now i) (keyC (11 + UInt64.ofNat i))) t h]
def ebI (O : Own) (W : World) (bl br bs : Nat) (L : PLg) (F : Nat → Value) (V : World) : Prop := F 0 = .pointer (some ⟨bl, 0, none⟩) ∧ F 2 = .pointer (some ⟨br, 0, none⟩) ∧ F 4 = .pointer (some ⟨bs, 0, none⟩) ∧ ∃ t : Nat, t ≤ 4 ∧ F 5 = .int .u64 (w64 (UInt64.ofNat t)) ∧ Hid (LbI O W bl [(bs, (smT L t).enc), (br, Summary.zero.enc)] { L with st := { rootS L.st with now := clrN L.st.now t } } V)
set_option maxRecDepth 100000 in
theorem frame141 (f : Nat → Value) : frameN 141 f = #[f 0, f 1, f 2, f 3, f 4, f 5, f 6, f 7, f 8, f 9, f 10, f 11, f 12, f 13, f 14, f 15, f 16, f 17, f 18, f 19, f 20, f 21, f 22, f 23, f 24, f 25, f 26, f 27, f 28, f 29, f 30, f 31, f 32, f 33, f 34, f 35, f 36, f 37, f 38, f 39, f 40, f 41, f 42, f 43, f 44, f 45, f 46, f 47, f 48, f 49, f 50, f 51, f 52, f 53, f 54, f 55, f 56, f 57, f 58, f 59, f 60, f 61, f 62, f 63, f 64, f 65, f 66, f 67, f 68, f 69, f 70, f 71, f 72, f 73, f 74, f 75, f 76, f 77, f 78, f 79, f 80, f 81, f 82, f 83, f 84, f 85, f 86, f 87, f 88, f 89, f 90, f 91, f 92, f 93, f 94, f 95, f 96, f 97, f 98, f 99, f 100, f 101, f 102, f 103, f 104, f 105, f 106, f 107, f 108, f 109, f 110, f 111, f 112, f 113, f 114, f 115, f 116, f 117, f 118, f 119, f 120, f 121, f 122, f 123, f 124, f 125, f 126, f 127, f 128, f 129, f 130, f 131, f 132, f 133, f 134, f 135, f 136, f 137, f 138, f 139, f 140] := by kernel_rfl
attribute [local go_sem ↓] execOp_build execOp_bslice execOp_slice
attribute [local go_sem] gl_0 x64_wrap x64_inc slice95_0 slice45_0 build179 sent_sl took_sl rcpt_sl build50 build50z
set_option maxRecDepth 20000 in
set_option maxHeartbeats 1000000 in
theorem endBlock_any (O : Own) (W : World) (bl : Nat) (L : PLg) (hL : LedA O W bl L) (hm : L.st.now.length + 20 < 1000000000) : Calls Tryz.prog 83 #[.pointer (some ⟨bl, 0, none⟩)] W (LxPost O W bl (.tuple #[.agg (endF L).1.1.enc.toArray, .int .i64 (endF L).1.2]) (endF L).2) := by
  obtain ⟨Q, hQ⟩ : ∃ Q : Ending → World → Prop, Q = LxPost O W bl (.tuple #[.agg (endF L).1.1.enc.toArray, .int .i64 (endF L).1.2]) (endF L).2 := ⟨_, rfl⟩
  rw [← hQ]
  have HQ := hid_of hQ
  have HM := hid_of hm
  have hB := (LbI.start hL).box Summary.zero.enc 50 (Nat.le_refl _)
  obtain ⟨br, hbr⟩ : ∃ br, br = W.heap.size := ⟨_, rfl⟩
  obtain ⟨W1, hW1⟩ : ∃ W1 : World, W1 = W.alloc (.cells Summary.zero.enc.toArray 50) := ⟨_, rfl⟩
  rw [← hW1, ← hbr] at hB
  obtain ⟨LE, kl, -, -, n62, -⟩ := hB.cells
  have kr := (hB.at (List.mem_cons_self ..)).1
  have qr := (hB.at (List.mem_cons_self ..)).2
  have HW1 := hid_of hW1
  have HBR := hid_of hbr
  clear hL hQ hm hW1 hbr
  cases ho : L.open_ with
  | false =>
    rw [ho] at n62
    have HP : Hid (Q (.returned (.tuple #[.agg Summary.zero.enc.toArray, .int .i64 23])) (put W1 br Summary.zero.enc)) := by
      show Q _ _
      rw [HQ.out]
      unfold endF
      rw [if_neg (by rw [ho]; simp)]
      exact (hB.put (C' := Summary.zero.enc) (fun p hp => by cases hp)).post
    clear HQ hB ho HM
    go_enter Tryz.func83, Tryz.ntmps83
    go_upto_region 1 with fail
    rw [← HW1.out, ← HBR.out]
    clear HW1 HBR
    go_wp2_with fail
    refine ret_cell_tmp (C := Summary.zero.enc) rfl rfl rfl (by rw [blk_put, if_pos rfl, kr]; rfl) (by kernel_rfl) (by rw [Summary.length_enc]; kernel_rfl) rfl ?_
    exact HP.out
  | true =>
    rw [ho] at n62
    have hdp := hB.dep
    by_cases hd : 0 < L.st.saved.length
    · have HP : Hid (Q (.returned (.tuple #[.agg Summary.zero.enc.toArray, .int .i64 33])) (put W1 br Summary.zero.enc)) := by
        show Q _ _
        rw [HQ.out]
        unfold endF
        rw [if_pos ho, if_pos hd]
        exact (hB.put (C' := Summary.zero.enc) (fun p hp => by cases hp)).post
      generalize L.st.saved.length = dd at hd hdp
      have hd' : (0 : Int) < (dd : Int) := by omega
      clear HQ hB ho HM hd
      go_enter Tryz.func83, Tryz.ntmps83
      go_upto_region 1 with fail
      rw [← HW1.out, ← HBR.out]
      clear HW1 HBR
      go_wp2_with fail
      refine hdp.mono ?_
      clear hdp
      rintro e V ⟨rfl, rfl⟩
      dsimp only
      go_wp2_with fail
      refine ret_cell_tmp (C := Summary.zero.enc) rfl rfl rfl (by rw [blk_put, if_pos rfl, kr]; rfl) (by kernel_rfl) (by rw [Summary.length_enc]; kernel_rfl) rfl ?_
      exact HP.out
    have HF : Hid (endF L = ((smT L 4, 0), endL L)) := by
      show endF L = _
      unfold endF
      rw [if_pos ho, if_neg hd]
    obtain ⟨dd, hdd⟩ : ∃ dd, dd = L.st.saved.length := ⟨_, rfl⟩
    rw [← hdd] at hdp hd
    have hd' : ¬ (0 : Int) < (dd : Int) := by omega
    clear hd ho hdd
    go_enter Tryz.func83, Tryz.ntmps83
    go_upto_region 1 with fail
    rw [← HW1.out, ← HBR.out]
    clear HW1 HBR
    go_wp2_with fail
    refine hdp.mono ?_
    clear hdp
    rintro e V0 ⟨rfl, rfl⟩
    dsimp only
    have hA := hB.drew
    obtain ⟨LE5, kl5, -, n615, -⟩ := hA.cells
    have hS5 : ∃ LE, blk V0.drew bl = some LE ∧ nth LE 2061 = some (.int .u64 (w64 L.height)) := ⟨LE5, kl5, n615⟩
    clear hB kl n62 kr qr kl5 n615
    go_upto_region 5 with fail
    repeat go_step
    obtain ⟨I5, hI5⟩ : ∃ I : (Nat → Value) → World → Prop, I = (fun f V' => f 0 = .pointer (some ⟨bl, 0, none⟩) ∧ f 2 = .pointer (some ⟨br, 0, none⟩) ∧ ∃ bs, f 4 = .pointer (some ⟨bs, 0, none⟩) ∧ (¬ br = bs) ∧ LbI O W bl [(bs, (Summary.mk L.height (ldF L.st.now (keyC 3)) (ldF L.st.now (keyC 1)) (ldF L.st.now (keyC 2)) (ldF L.st.now (keyC 4)) (ldF L.st.now (keyC 5)) (Vector.replicate 4 0) (Vector.replicate 4 0) (rootD L.st)).enc), (br, Summary.zero.enc)] (rotL L) V') := ⟨_, rfl⟩
    have HI5 := hid_of hI5
    clear hI5
    refine wp_cut_f 141 I5 ?_ ?_
    · refine wp_region_F 30 (fun W' => ∃ LE, blk W' bl = some LE ∧ nth LE 2061 = some (.int .u64 (w64 L.height))) (by kernel_rfl) hS5 (fun hHeld => ?_)
      refine wpAnyF_take (i := 0) (oi := ⟨_, _, _, _, _, _⟩) (v := ?_) rfl (by kernel_rfl) (by kernel_rfl) (by kernel_rfl) (by kernel_rfl) (by kernel_rfl) (fun _ _ _ h => h) (Or.inl ⟨by rfl, ?_⟩) (by assumption) ?_
      rotate_left 1
      · rintro W' ⟨LE', hS1, hS2⟩
        go_simp
        try with_reducible rfl
      try simp only [Act.put, List.setIfInBounds_toArray, List.set_cons_zero, List.set_cons_succ]
      refine wpAnyF_take (i := 1) (oi := ⟨_, _, _, _, _, _⟩) (v := ?_) rfl (by kernel_rfl) (by kernel_rfl) (by kernel_rfl) (by kernel_rfl) (by kernel_rfl) (fun _ _ _ h => h) (Or.inl ⟨by rfl, ?_⟩) (by assumption) ?_
      rotate_left 1
      · rintro W' ⟨LE', hS1, hS2⟩
        go_simp
        try with_reducible rfl
      try simp only [Act.put, List.setIfInBounds_toArray, List.set_cons_zero, List.set_cons_succ]
      refine wpAnyF_take (i := 2) (oi := ⟨_, _, _, _, _, _⟩) (v := ?_) rfl (by kernel_rfl) (by kernel_rfl) (by kernel_rfl) (by kernel_rfl) (by kernel_rfl) (fun _ _ _ h => h) (Or.inl ⟨by rfl, ?_⟩) (by assumption) ?_
      rotate_left 1
      · rintro W' ⟨LE', hS1, hS2⟩
        go_simp
        try with_reducible rfl
      try simp only [Act.put, List.setIfInBounds_toArray, List.set_cons_zero, List.set_cons_succ]
      refine wpAnyF_take (i := 3) (oi := ⟨_, _, _, _, _, _⟩) (v := ?_) rfl (by kernel_rfl) (by kernel_rfl) (by kernel_rfl) (by kernel_rfl) (by kernel_rfl) (fun _ _ _ h => h) (Or.inl ⟨by rfl, ?_⟩) (by assumption) ?_
      rotate_left 1
      · rintro W' ⟨LE', hS1, hS2⟩
        go_simp
        try with_reducible rfl
      try simp only [Act.put, List.setIfInBounds_toArray, List.set_cons_zero, List.set_cons_succ]
      refine wpAnyF_take (i := 4) (oi := ⟨_, _, _, _, _, _⟩) (v := ?_) rfl (by kernel_rfl) (by kernel_rfl) (by kernel_rfl) (by kernel_rfl) (by kernel_rfl) (fun _ _ _ h => h) (Or.inl ⟨by rfl, ?_⟩) (by assumption) ?_
      rotate_left 1
      · rintro W' ⟨LE', hS1, hS2⟩
        go_simp
        try with_reducible rfl
      try simp only [Act.put, List.setIfInBounds_toArray, List.set_cons_zero, List.set_cons_succ]
      refine wpAnyF_take (i := 5) (oi := ⟨_, _, _, _, _, _⟩) (v := ?_) rfl (by kernel_rfl) (by kernel_rfl) (by kernel_rfl) (by kernel_rfl) (by kernel_rfl) (fun _ _ _ h => h) (Or.inl ⟨by rfl, ?_⟩) (by assumption) ?_
      rotate_left 1
      · rintro W' ⟨LE', hS1, hS2⟩
        go_simp
        try with_reducible rfl
      try simp only [Act.put, List.setIfInBounds_toArray, List.set_cons_zero, List.set_cons_succ]
      refine wpAnyF_take (i := 6) (oi := ⟨_, _, _, _, _, _⟩) (v := ?_) rfl (by kernel_rfl) (by kernel_rfl) (by kernel_rfl) (by kernel_rfl) (by kernel_rfl) (fun _ _ _ h => h) (Or.inl ⟨by rfl, ?_⟩) (by assumption) ?_
      rotate_left 1
      · rintro W' ⟨LE', hS1, hS2⟩
        go_simp
        try with_reducible rfl
      try simp only [Act.put, List.setIfInBounds_toArray, List.set_cons_zero, List.set_cons_succ]
      refine wpAnyF_take (i := 8) (oi := ⟨_, _, _, _, _, _⟩) (v := ?_) rfl (by kernel_rfl) (by kernel_rfl) (by kernel_rfl) (by kernel_rfl) (by kernel_rfl) (fun _ _ _ h => h) (Or.inl ⟨by rfl, ?_⟩) (by assumption) ?_
      rotate_left 1
      · rintro W' ⟨LE', hS1, hS2⟩
        go_simp
        try with_reducible rfl
      try simp only [Act.put, List.setIfInBounds_toArray, List.set_cons_zero, List.set_cons_succ]
      refine wpAnyF_take (i := 9) (oi := ⟨_, _, _, _, _, _⟩) (v := ?_) rfl (by kernel_rfl) (by kernel_rfl) (by kernel_rfl) (by kernel_rfl) (by kernel_rfl) (fun _ _ _ h => h) (Or.inl ⟨by rfl, ?_⟩) (by assumption) ?_
      rotate_left 1
      · rintro W' ⟨LE', hS1, hS2⟩
        go_simp
        try with_reducible rfl
      try simp only [Act.put, List.setIfInBounds_toArray, List.set_cons_zero, List.set_cons_succ]
      refine wpAnyF_take (i := 10) (oi := ⟨_, _, _, _, _, _⟩) (v := ?_) rfl (by kernel_rfl) (by kernel_rfl) (by kernel_rfl) (by kernel_rfl) (by kernel_rfl) (fun _ _ _ h => h) (Or.inl ⟨by rfl, ?_⟩) (by assumption) ?_
      rotate_left 1
      · rintro W' ⟨LE', hS1, hS2⟩
        go_simp
        try with_reducible rfl
      try simp only [Act.put, List.setIfInBounds_toArray, List.set_cons_zero, List.set_cons_succ]
      refine wpAnyF_take (i := 12) (oi := ⟨_, _, _, _, _, _⟩) (v := ?_) rfl (by kernel_rfl) (by kernel_rfl) (by kernel_rfl) (by kernel_rfl) (by kernel_rfl) (fun _ _ _ h => h) (Or.inl ⟨by rfl, ?_⟩) (by assumption) ?_
      rotate_left 1
      · rintro W' ⟨LE', hS1, hS2⟩
        go_simp
        try with_reducible rfl
      try simp only [Act.put, List.setIfInBounds_toArray, List.set_cons_zero, List.set_cons_succ]
      refine wpAnyF_take (i := 13) (oi := ⟨_, _, _, _, _, _⟩) (v := ?_) rfl (by kernel_rfl) (by kernel_rfl) (by kernel_rfl) (by kernel_rfl) (by kernel_rfl) (fun _ _ _ h => h) (Or.inl ⟨by rfl, ?_⟩) (by assumption) ?_
      rotate_left 1
      · rintro W' ⟨LE', hS1, hS2⟩
        go_simp
        try with_reducible rfl
      try simp only [Act.put, List.setIfInBounds_toArray, List.set_cons_zero, List.set_cons_succ]
      refine wpAnyF_take (i := 14) (oi := ⟨_, _, _, _, _, _⟩) (v := ?_) rfl (by kernel_rfl) (by kernel_rfl) (by kernel_rfl) (by kernel_rfl) (by kernel_rfl) (fun _ _ _ h => h) (Or.inl ⟨by rfl, ?_⟩) (by assumption) ?_
      rotate_left 1
      · rintro W' ⟨LE', hS1, hS2⟩
        go_simp
        try with_reducible rfl
      try simp only [Act.put, List.setIfInBounds_toArray, List.set_cons_zero, List.set_cons_succ]
      refine wpAnyF_take (i := 16) (oi := ⟨_, _, _, _, _, _⟩) (v := ?_) rfl (by kernel_rfl) (by kernel_rfl) (by kernel_rfl) (by kernel_rfl) (by kernel_rfl) (fun _ _ _ h => h) (Or.inl ⟨by rfl, ?_⟩) (by assumption) ?_
      rotate_left 1
      · rintro W' ⟨LE', hS1, hS2⟩
        go_simp
        try with_reducible rfl
      try simp only [Act.put, List.setIfInBounds_toArray, List.set_cons_zero, List.set_cons_succ]
      refine wpAnyF_take (i := 17) (oi := ⟨_, _, _, _, _, _⟩) (v := ?_) rfl (by kernel_rfl) (by kernel_rfl) (by kernel_rfl) (by kernel_rfl) (by kernel_rfl) (fun _ _ _ h => h) (Or.inl ⟨by rfl, ?_⟩) (by assumption) ?_
      rotate_left 1
      · rintro W' ⟨LE', hS1, hS2⟩
        go_simp
        try with_reducible rfl
      try simp only [Act.put, List.setIfInBounds_toArray, List.set_cons_zero, List.set_cons_succ]
      refine wpAnyF_take (i := 18) (oi := ⟨_, _, _, _, _, _⟩) (v := ?_) rfl (by kernel_rfl) (by kernel_rfl) (by kernel_rfl) (by kernel_rfl) (by kernel_rfl) (fun _ _ _ h => h) (Or.inl ⟨by rfl, ?_⟩) (by assumption) ?_
      rotate_left 1
      · rintro W' ⟨LE', hS1, hS2⟩
        go_simp
        try with_reducible rfl
      try simp only [Act.put, List.setIfInBounds_toArray, List.set_cons_zero, List.set_cons_succ]
      refine wpAnyF_take (i := 20) (oi := ⟨_, _, _, _, _, _⟩) (v := ?_) rfl (by kernel_rfl) (by kernel_rfl) (by kernel_rfl) (by kernel_rfl) (by kernel_rfl) (fun _ _ _ h => h) (Or.inl ⟨by rfl, ?_⟩) (by assumption) ?_
      rotate_left 1
      · rintro W' ⟨LE', hS1, hS2⟩
        go_simp
        try with_reducible rfl
      try simp only [Act.put, List.setIfInBounds_toArray, List.set_cons_zero, List.set_cons_succ]
      refine wpAnyF_take (i := 21) (oi := ⟨_, _, _, _, _, _⟩) (v := ?_) rfl (by kernel_rfl) (by kernel_rfl) (by kernel_rfl) (by kernel_rfl) (by kernel_rfl) (fun _ _ _ h => h) (Or.inl ⟨by rfl, ?_⟩) (by assumption) ?_
      rotate_left 1
      · rintro W' ⟨LE', hS1, hS2⟩
        go_simp
        try with_reducible rfl
      try simp only [Act.put, List.setIfInBounds_toArray, List.set_cons_zero, List.set_cons_succ]
      refine wpAnyF_take (i := 22) (oi := ⟨_, _, _, _, _, _⟩) (v := ?_) rfl (by kernel_rfl) (by kernel_rfl) (by kernel_rfl) (by kernel_rfl) (by kernel_rfl) (fun _ _ _ h => h) (Or.inl ⟨by rfl, ?_⟩) (by assumption) ?_
      rotate_left 1
      · rintro W' ⟨LE', hS1, hS2⟩
        go_simp
        try with_reducible rfl
      try simp only [Act.put, List.setIfInBounds_toArray, List.set_cons_zero, List.set_cons_succ]
      refine wpAnyF_take (i := 24) (oi := ⟨_, _, _, _, _, _⟩) (v := ?_) rfl (by kernel_rfl) (by kernel_rfl) (by kernel_rfl) (by kernel_rfl) (by kernel_rfl) (fun _ _ _ h => h) (Or.inl ⟨by rfl, ?_⟩) (by assumption) ?_
      rotate_left 1
      · rintro W' ⟨LE', hS1, hS2⟩
        go_simp
        try with_reducible rfl
      try simp only [Act.put, List.setIfInBounds_toArray, List.set_cons_zero, List.set_cons_succ]
      refine wpAnyF_take (i := 25) (oi := ⟨_, _, _, _, _, _⟩) (v := ?_) rfl (by kernel_rfl) (by kernel_rfl) (by kernel_rfl) (by kernel_rfl) (by kernel_rfl) (fun _ _ _ h => h) (Or.inl ⟨by rfl, ?_⟩) (by assumption) ?_
      rotate_left 1
      · rintro W' ⟨LE', hS1, hS2⟩
        go_simp
        try with_reducible rfl
      try simp only [Act.put, List.setIfInBounds_toArray, List.set_cons_zero, List.set_cons_succ]
      refine wpAnyF_take (i := 26) (oi := ⟨_, _, _, _, _, _⟩) (v := ?_) rfl (by kernel_rfl) (by kernel_rfl) (by kernel_rfl) (by kernel_rfl) (by kernel_rfl) (fun _ _ _ h => h) (Or.inl ⟨by rfl, ?_⟩) (by assumption) ?_
      rotate_left 1
      · rintro W' ⟨LE', hS1, hS2⟩
        go_simp
        try with_reducible rfl
      try simp only [Act.put, List.setIfInBounds_toArray, List.set_cons_zero, List.set_cons_succ]
      refine wpAnyF_two (oi := ⟨_, _, _, _, _, _⟩) (oj := ⟨_, _, _, _, _, _⟩) (i := 7) (j := 29) (by kernel_rfl) rfl rfl rfl rfl (fun K' hK => ?_) (fun K' hK => ?_)
      · go_simp
        refine (counter_any _ bl 1 L.st.now hA.rd 3 (by decide)).mono ?_
        rintro e A1 ⟨rfl, he⟩
        dsimp only
        have hA1 := hA.ext he
        clear he hA
        obtain ⟨LE, klA1, -, n61A1, -⟩ := hA1.cells
        have hSA1 : ∃ LE, blk A1 bl = some LE ∧ nth LE 2061 = some (.int .u64 (w64 L.height)) := ⟨LE, klA1, n61A1⟩
        clear klA1 n61A1
        refine hK.out _ _ hSA1 (fun hHeld => ?_)
        clear hK K'
        try simp only [Act.put, List.setIfInBounds_toArray, List.set_cons_zero, List.set_cons_succ]
        refine wpAnyF_two (oi := ⟨_, _, _, _, _, _⟩) (oj := ⟨_, _, _, _, _, _⟩) (i := 11) (j := 29) (by kernel_rfl) rfl rfl rfl rfl (fun K' hK => ?_) (fun K' hK => ?_)
        · go_simp
          refine (counter_any _ bl 1 L.st.now hA1.rd 1 (by decide)).mono ?_
          rintro e A2 ⟨rfl, he⟩
          dsimp only
          have hA2 := hA1.ext he
          clear he hA1
          obtain ⟨LE, klA2, -, n61A2, -⟩ := hA2.cells
          have hSA2 : ∃ LE, blk A2 bl = some LE ∧ nth LE 2061 = some (.int .u64 (w64 L.height)) := ⟨LE, klA2, n61A2⟩
          clear klA2 n61A2
          refine hK.out _ _ hSA2 (fun hHeld => ?_)
          clear hK K'
          try simp only [Act.put, List.setIfInBounds_toArray, List.set_cons_zero, List.set_cons_succ]
          refine wpAnyF_two (oi := ⟨_, _, _, _, _, _⟩) (oj := ⟨_, _, _, _, _, _⟩) (i := 15) (j := 29) (by kernel_rfl) rfl rfl rfl rfl (fun K' hK => ?_) (fun K' hK => ?_)
          · go_simp
            refine (counter_any _ bl 1 L.st.now hA2.rd 2 (by decide)).mono ?_
            rintro e A3 ⟨rfl, he⟩
            dsimp only
            have hA3 := hA2.ext he
            clear he hA2
            obtain ⟨LE, klA3, -, n61A3, -⟩ := hA3.cells
            have hSA3 : ∃ LE, blk A3 bl = some LE ∧ nth LE 2061 = some (.int .u64 (w64 L.height)) := ⟨LE, klA3, n61A3⟩
            clear klA3 n61A3
            refine hK.out _ _ hSA3 (fun hHeld => ?_)
            clear hK K'
            try simp only [Act.put, List.setIfInBounds_toArray, List.set_cons_zero, List.set_cons_succ]
            refine wpAnyF_two (oi := ⟨_, _, _, _, _, _⟩) (oj := ⟨_, _, _, _, _, _⟩) (i := 19) (j := 29) (by kernel_rfl) rfl rfl rfl rfl (fun K' hK => ?_) (fun K' hK => ?_)
            · go_simp
              refine (counter_any _ bl 1 L.st.now hA3.rd 4 (by decide)).mono ?_
              rintro e A4 ⟨rfl, he⟩
              dsimp only
              have hA4 := hA3.ext he
              clear he hA3
              obtain ⟨LE, klA4, -, n61A4, -⟩ := hA4.cells
              have hSA4 : ∃ LE, blk A4 bl = some LE ∧ nth LE 2061 = some (.int .u64 (w64 L.height)) := ⟨LE, klA4, n61A4⟩
              clear klA4 n61A4
              refine hK.out _ _ hSA4 (fun hHeld => ?_)
              clear hK K'
              try simp only [Act.put, List.setIfInBounds_toArray, List.set_cons_zero, List.set_cons_succ]
              refine wpAnyF_two (oi := ⟨_, _, _, _, _, _⟩) (oj := ⟨_, _, _, _, _, _⟩) (i := 23) (j := 29) (by kernel_rfl) rfl rfl rfl rfl (fun K' hK => ?_) (fun K' hK => ?_)
              · go_simp
                refine (counter_any _ bl 1 L.st.now hA4.rd 5 (by decide)).mono ?_
                rintro e A5 ⟨rfl, he⟩
                dsimp only
                have hA5 := hA4.ext he
                clear he hA4
                obtain ⟨LE, klA5, -, n61A5, -⟩ := hA5.cells
                have hSA5 : ∃ LE, blk A5 bl = some LE ∧ nth LE 2061 = some (.int .u64 (w64 L.height)) := ⟨LE, klA5, n61A5⟩
                clear klA5 n61A5
                refine hK.out _ _ hSA5 (fun hHeld => ?_)
                clear hK K'
                try simp only [Act.put, List.setIfInBounds_toArray, List.set_cons_zero, List.set_cons_succ]
                refine wpAnyF_two (oi := ⟨_, _, _, _, _, _⟩) (oj := ⟨_, _, _, _, _, _⟩) (i := 27) (j := 29) (by kernel_rfl) rfl rfl rfl rfl (fun K' hK => ?_) (fun K' hK => ?_)
                · go_simp
                  refine (hA5.call (fun O' hO => hO.root2)).mono ?_
                  rintro e A6 ⟨rfl, hA6⟩
                  dsimp only
                  clear hA5
                  obtain ⟨LE, klA6, -, n61A6, -⟩ := hA6.cells
                  rw [rotL_h] at n61A6
                  have hSA6 : ∃ LE, blk A6 bl = some LE ∧ nth LE 2061 = some (.int .u64 (w64 L.height)) := ⟨LE, klA6, n61A6⟩
                  clear klA6 n61A6
                  refine hK.out _ _ hSA6 (fun hHeld => ?_)
                  clear hK K'
                  try simp only [Act.put, List.setIfInBounds_toArray, List.set_cons_zero, List.set_cons_succ]
                  refine wpAnyF_take (i := 28) (oi := ⟨_, _, _, _, _, _⟩) (v := ?_) rfl (by kernel_rfl) (by kernel_rfl) (by kernel_rfl) (by kernel_rfl) (by kernel_rfl) (fun _ _ _ h => h) (Or.inl ⟨by rfl, ?_⟩) (by assumption) ?_
                  rotate_left 1
                  · rintro W' ⟨LE', hS1, hS2⟩
                    go_simp
                    try with_reducible rfl
                  try simp only [Act.put, List.setIfInBounds_toArray, List.set_cons_zero, List.set_cons_succ]
                  refine wpAnyF_one (o := ⟨_, _, _, _, _, _⟩) (i := 29) (by kernel_rfl) rfl rfl (fun K' hK => ?_)
                  go_simp
                  obtain ⟨bs, hbs⟩ : ∃ bs, bs = A6.heap.size := ⟨_, rfl⟩
                  have hltb := blk_lt (hA6.at (b := br) (C := Summary.zero.enc) (by simp)).1
                  have hnb : ¬ br = bs := by rw [hbs]; exact Nat.ne_of_lt hltb
                  clear hltb
                  have hA6a' := hA6.box Summary.zero.enc 50 hA6.size
                  have hbsA6a : True := trivial
                  generalize hgV : A6.alloc (.cells Summary.zero.enc.toArray 50) = A6a at hA6a' ⊢
                  clear hgV hbsA6a
                  have hA6a := hA6a'
                  clear hA6a' hA6
                  obtain ⟨LE, klA6a, -, n61A6a, -⟩ := hA6a.cells
                  rw [rotL_h] at n61A6a
                  have hSA6a : ∃ LE, blk A6a bl = some LE ∧ nth LE 2061 = some (.int .u64 (w64 L.height)) := ⟨LE, klA6a, n61A6a⟩
                  clear klA6a n61A6a
                  rw [← hbs] at hA6a ⊢
                  clear hbs
                  refine hK.out _ _ hSA6a (fun hHeld => ?_)
                  clear hK K'
                  try simp only [Act.put, List.setIfInBounds_toArray, List.set_cons_zero, List.set_cons_succ]
                  have kb9 := (hA6a.at (List.mem_cons_self ..)).1
                  have kf9 := (hA6a.at (List.mem_cons_self ..)).2
                  refine wpAnyF_last (o := ⟨_, _, _, _, _, _⟩) (by kernel_rfl) rfl (fun K' hK => ?_)
                  go_simp
                  refine hK.out _ _ ?_
                  clear hK K'
                  try simp only [Act.put, List.setIfInBounds_toArray, List.set_cons_zero, List.set_cons_succ]
                  refine wpAnyF_done (by kernel_rfl) ?_ _
                  refine ⟨rfl, rfl, ?_⟩
                  rw [HI5.out]
                  refine ⟨rfl, rfl, bs, rfl, hnb, ?_⟩
                  have h9 := hA6a.put (C' := (Summary.mk L.height (ldF L.st.now (keyC 3)) (ldF L.st.now (keyC 1)) (ldF L.st.now (keyC 2)) (ldF L.st.now (keyC 4)) (ldF L.st.now (keyC 5)) (Vector.replicate 4 0) (Vector.replicate 4 0) (rootD L.st)).enc) (fun p hp => by rw [List.mem_singleton] at hp; rw [hp]; exact hnb)
                  exact h9
                · go_simp
                  obtain ⟨bs, hbs⟩ : ∃ bs, bs = A5.heap.size := ⟨_, rfl⟩
                  have hltb := blk_lt (hA5.at (b := br) (C := Summary.zero.enc) (by simp)).1
                  have hnb : ¬ br = bs := by rw [hbs]; exact Nat.ne_of_lt hltb
                  clear hltb
                  have hB5' := hA5.box Summary.zero.enc 50 hA5.size
                  have hbsB5 : True := trivial
                  generalize hgV : A5.alloc (.cells Summary.zero.enc.toArray 50) = B5 at hB5' ⊢
                  clear hgV hbsB5
                  have hB5 := hB5'
                  clear hB5' hA5
                  obtain ⟨LE, klB5, -, n61B5, -⟩ := hB5.cells
                  have hSB5 : ∃ LE, blk B5 bl = some LE ∧ nth LE 2061 = some (.int .u64 (w64 L.height)) := ⟨LE, klB5, n61B5⟩
                  clear klB5 n61B5
                  rw [← hbs] at hB5 ⊢
                  clear hbs
                  refine hK.out _ _ hSB5 (fun hHeld => ?_)
                  clear hK K'
                  try simp only [Act.put, List.setIfInBounds_toArray, List.set_cons_zero, List.set_cons_succ]
                  refine wpAnyF_one (o := ⟨_, _, _, _, _, _⟩) (i := 27) (by kernel_rfl) rfl rfl (fun K' hK => ?_)
                  go_simp
                  refine (hB5.call (fun O' hO => hO.root2)).mono ?_
                  rintro e A6b ⟨rfl, hA6b⟩
                  dsimp only
                  clear hB5
                  obtain ⟨LE, klA6b, -, n61A6b, -⟩ := hA6b.cells
                  rw [rotL_h] at n61A6b
                  have hSA6b : ∃ LE, blk A6b bl = some LE ∧ nth LE 2061 = some (.int .u64 (w64 L.height)) := ⟨LE, klA6b, n61A6b⟩
                  clear klA6b n61A6b
                  refine hK.out _ _ hSA6b (fun hHeld => ?_)
                  clear hK K'
                  try simp only [Act.put, List.setIfInBounds_toArray, List.set_cons_zero, List.set_cons_succ]
                  refine wpAnyF_take (i := 28) (oi := ⟨_, _, _, _, _, _⟩) (v := ?_) rfl (by kernel_rfl) (by kernel_rfl) (by kernel_rfl) (by kernel_rfl) (by kernel_rfl) (fun _ _ _ h => h) (Or.inl ⟨by rfl, ?_⟩) (by assumption) ?_
                  rotate_left 1
                  · rintro W' ⟨LE', hS1, hS2⟩
                    go_simp
                    try with_reducible rfl
                  try simp only [Act.put, List.setIfInBounds_toArray, List.set_cons_zero, List.set_cons_succ]
                  have kb9 := (hA6b.at (List.mem_cons_self ..)).1
                  have kf9 := (hA6b.at (List.mem_cons_self ..)).2
                  refine wpAnyF_last (o := ⟨_, _, _, _, _, _⟩) (by kernel_rfl) rfl (fun K' hK => ?_)
                  go_simp
                  refine hK.out _ _ ?_
                  clear hK K'
                  try simp only [Act.put, List.setIfInBounds_toArray, List.set_cons_zero, List.set_cons_succ]
                  refine wpAnyF_done (by kernel_rfl) ?_ _
                  refine ⟨rfl, rfl, ?_⟩
                  rw [HI5.out]
                  refine ⟨rfl, rfl, bs, rfl, hnb, ?_⟩
                  have h9 := hA6b.put (C' := (Summary.mk L.height (ldF L.st.now (keyC 3)) (ldF L.st.now (keyC 1)) (ldF L.st.now (keyC 2)) (ldF L.st.now (keyC 4)) (ldF L.st.now (keyC 5)) (Vector.replicate 4 0) (Vector.replicate 4 0) (rootD L.st)).enc) (fun p hp => by rw [List.mem_singleton] at hp; rw [hp]; exact hnb)
                  exact h9
              · go_simp
                obtain ⟨bs, hbs⟩ : ∃ bs, bs = A4.heap.size := ⟨_, rfl⟩
                have hltb := blk_lt (hA4.at (b := br) (C := Summary.zero.enc) (by simp)).1
                have hnb : ¬ br = bs := by rw [hbs]; exact Nat.ne_of_lt hltb
                clear hltb
                have hB4' := hA4.box Summary.zero.enc 50 hA4.size
                have hbsB4 : True := trivial
                generalize hgV : A4.alloc (.cells Summary.zero.enc.toArray 50) = B4 at hB4' ⊢
                clear hgV hbsB4
                have hB4 := hB4'
                clear hB4' hA4
                obtain ⟨LE, klB4, -, n61B4, -⟩ := hB4.cells
                have hSB4 : ∃ LE, blk B4 bl = some LE ∧ nth LE 2061 = some (.int .u64 (w64 L.height)) := ⟨LE, klB4, n61B4⟩
                clear klB4 n61B4
                rw [← hbs] at hB4 ⊢
                clear hbs
                refine hK.out _ _ hSB4 (fun hHeld => ?_)
                clear hK K'
                try simp only [Act.put, List.setIfInBounds_toArray, List.set_cons_zero, List.set_cons_succ]
                refine wpAnyF_one (o := ⟨_, _, _, _, _, _⟩) (i := 23) (by kernel_rfl) rfl rfl (fun K' hK => ?_)
                go_simp
                refine (counter_any _ bl 1 L.st.now hB4.rd 5 (by decide)).mono ?_
                rintro e A5b ⟨rfl, he⟩
                dsimp only
                have hA5b := hB4.ext he
                clear he hB4
                obtain ⟨LE, klA5b, -, n61A5b, -⟩ := hA5b.cells
                have hSA5b : ∃ LE, blk A5b bl = some LE ∧ nth LE 2061 = some (.int .u64 (w64 L.height)) := ⟨LE, klA5b, n61A5b⟩
                clear klA5b n61A5b
                refine hK.out _ _ hSA5b (fun hHeld => ?_)
                clear hK K'
                try simp only [Act.put, List.setIfInBounds_toArray, List.set_cons_zero, List.set_cons_succ]
                refine wpAnyF_one (o := ⟨_, _, _, _, _, _⟩) (i := 27) (by kernel_rfl) rfl rfl (fun K' hK => ?_)
                go_simp
                refine (hA5b.call (fun O' hO => hO.root2)).mono ?_
                rintro e A6b ⟨rfl, hA6b⟩
                dsimp only
                clear hA5b
                obtain ⟨LE, klA6b, -, n61A6b, -⟩ := hA6b.cells
                rw [rotL_h] at n61A6b
                have hSA6b : ∃ LE, blk A6b bl = some LE ∧ nth LE 2061 = some (.int .u64 (w64 L.height)) := ⟨LE, klA6b, n61A6b⟩
                clear klA6b n61A6b
                refine hK.out _ _ hSA6b (fun hHeld => ?_)
                clear hK K'
                try simp only [Act.put, List.setIfInBounds_toArray, List.set_cons_zero, List.set_cons_succ]
                refine wpAnyF_take (i := 28) (oi := ⟨_, _, _, _, _, _⟩) (v := ?_) rfl (by kernel_rfl) (by kernel_rfl) (by kernel_rfl) (by kernel_rfl) (by kernel_rfl) (fun _ _ _ h => h) (Or.inl ⟨by rfl, ?_⟩) (by assumption) ?_
                rotate_left 1
                · rintro W' ⟨LE', hS1, hS2⟩
                  go_simp
                  try with_reducible rfl
                try simp only [Act.put, List.setIfInBounds_toArray, List.set_cons_zero, List.set_cons_succ]
                have kb9 := (hA6b.at (List.mem_cons_self ..)).1
                have kf9 := (hA6b.at (List.mem_cons_self ..)).2
                refine wpAnyF_last (o := ⟨_, _, _, _, _, _⟩) (by kernel_rfl) rfl (fun K' hK => ?_)
                go_simp
                refine hK.out _ _ ?_
                clear hK K'
                try simp only [Act.put, List.setIfInBounds_toArray, List.set_cons_zero, List.set_cons_succ]
                refine wpAnyF_done (by kernel_rfl) ?_ _
                refine ⟨rfl, rfl, ?_⟩
                rw [HI5.out]
                refine ⟨rfl, rfl, bs, rfl, hnb, ?_⟩
                have h9 := hA6b.put (C' := (Summary.mk L.height (ldF L.st.now (keyC 3)) (ldF L.st.now (keyC 1)) (ldF L.st.now (keyC 2)) (ldF L.st.now (keyC 4)) (ldF L.st.now (keyC 5)) (Vector.replicate 4 0) (Vector.replicate 4 0) (rootD L.st)).enc) (fun p hp => by rw [List.mem_singleton] at hp; rw [hp]; exact hnb)
                exact h9
            · go_simp
              obtain ⟨bs, hbs⟩ : ∃ bs, bs = A3.heap.size := ⟨_, rfl⟩
              have hltb := blk_lt (hA3.at (b := br) (C := Summary.zero.enc) (by simp)).1
              have hnb : ¬ br = bs := by rw [hbs]; exact Nat.ne_of_lt hltb
              clear hltb
              have hB3' := hA3.box Summary.zero.enc 50 hA3.size
              have hbsB3 : True := trivial
              generalize hgV : A3.alloc (.cells Summary.zero.enc.toArray 50) = B3 at hB3' ⊢
              clear hgV hbsB3
              have hB3 := hB3'
              clear hB3' hA3
              obtain ⟨LE, klB3, -, n61B3, -⟩ := hB3.cells
              have hSB3 : ∃ LE, blk B3 bl = some LE ∧ nth LE 2061 = some (.int .u64 (w64 L.height)) := ⟨LE, klB3, n61B3⟩
              clear klB3 n61B3
              rw [← hbs] at hB3 ⊢
              clear hbs
              refine hK.out _ _ hSB3 (fun hHeld => ?_)
              clear hK K'
              try simp only [Act.put, List.setIfInBounds_toArray, List.set_cons_zero, List.set_cons_succ]
              refine wpAnyF_one (o := ⟨_, _, _, _, _, _⟩) (i := 19) (by kernel_rfl) rfl rfl (fun K' hK => ?_)
              go_simp
              refine (counter_any _ bl 1 L.st.now hB3.rd 4 (by decide)).mono ?_
              rintro e A4b ⟨rfl, he⟩
              dsimp only
              have hA4b := hB3.ext he
              clear he hB3
              obtain ⟨LE, klA4b, -, n61A4b, -⟩ := hA4b.cells
              have hSA4b : ∃ LE, blk A4b bl = some LE ∧ nth LE 2061 = some (.int .u64 (w64 L.height)) := ⟨LE, klA4b, n61A4b⟩
              clear klA4b n61A4b
              refine hK.out _ _ hSA4b (fun hHeld => ?_)
              clear hK K'
              try simp only [Act.put, List.setIfInBounds_toArray, List.set_cons_zero, List.set_cons_succ]
              refine wpAnyF_one (o := ⟨_, _, _, _, _, _⟩) (i := 23) (by kernel_rfl) rfl rfl (fun K' hK => ?_)
              go_simp
              refine (counter_any _ bl 1 L.st.now hA4b.rd 5 (by decide)).mono ?_
              rintro e A5b ⟨rfl, he⟩
              dsimp only
              have hA5b := hA4b.ext he
              clear he hA4b
              obtain ⟨LE, klA5b, -, n61A5b, -⟩ := hA5b.cells
              have hSA5b : ∃ LE, blk A5b bl = some LE ∧ nth LE 2061 = some (.int .u64 (w64 L.height)) := ⟨LE, klA5b, n61A5b⟩
              clear klA5b n61A5b
              refine hK.out _ _ hSA5b (fun hHeld => ?_)
              clear hK K'
              try simp only [Act.put, List.setIfInBounds_toArray, List.set_cons_zero, List.set_cons_succ]
              refine wpAnyF_one (o := ⟨_, _, _, _, _, _⟩) (i := 27) (by kernel_rfl) rfl rfl (fun K' hK => ?_)
              go_simp
              refine (hA5b.call (fun O' hO => hO.root2)).mono ?_
              rintro e A6b ⟨rfl, hA6b⟩
              dsimp only
              clear hA5b
              obtain ⟨LE, klA6b, -, n61A6b, -⟩ := hA6b.cells
              rw [rotL_h] at n61A6b
              have hSA6b : ∃ LE, blk A6b bl = some LE ∧ nth LE 2061 = some (.int .u64 (w64 L.height)) := ⟨LE, klA6b, n61A6b⟩
              clear klA6b n61A6b
              refine hK.out _ _ hSA6b (fun hHeld => ?_)
              clear hK K'
              try simp only [Act.put, List.setIfInBounds_toArray, List.set_cons_zero, List.set_cons_succ]
              refine wpAnyF_take (i := 28) (oi := ⟨_, _, _, _, _, _⟩) (v := ?_) rfl (by kernel_rfl) (by kernel_rfl) (by kernel_rfl) (by kernel_rfl) (by kernel_rfl) (fun _ _ _ h => h) (Or.inl ⟨by rfl, ?_⟩) (by assumption) ?_
              rotate_left 1
              · rintro W' ⟨LE', hS1, hS2⟩
                go_simp
                try with_reducible rfl
              try simp only [Act.put, List.setIfInBounds_toArray, List.set_cons_zero, List.set_cons_succ]
              have kb9 := (hA6b.at (List.mem_cons_self ..)).1
              have kf9 := (hA6b.at (List.mem_cons_self ..)).2
              refine wpAnyF_last (o := ⟨_, _, _, _, _, _⟩) (by kernel_rfl) rfl (fun K' hK => ?_)
              go_simp
              refine hK.out _ _ ?_
              clear hK K'
              try simp only [Act.put, List.setIfInBounds_toArray, List.set_cons_zero, List.set_cons_succ]
              refine wpAnyF_done (by kernel_rfl) ?_ _
              refine ⟨rfl, rfl, ?_⟩
              rw [HI5.out]
              refine ⟨rfl, rfl, bs, rfl, hnb, ?_⟩
              have h9 := hA6b.put (C' := (Summary.mk L.height (ldF L.st.now (keyC 3)) (ldF L.st.now (keyC 1)) (ldF L.st.now (keyC 2)) (ldF L.st.now (keyC 4)) (ldF L.st.now (keyC 5)) (Vector.replicate 4 0) (Vector.replicate 4 0) (rootD L.st)).enc) (fun p hp => by rw [List.mem_singleton] at hp; rw [hp]; exact hnb)
              exact h9
          · go_simp
            obtain ⟨bs, hbs⟩ : ∃ bs, bs = A2.heap.size := ⟨_, rfl⟩
            have hltb := blk_lt (hA2.at (b := br) (C := Summary.zero.enc) (by simp)).1
            have hnb : ¬ br = bs := by rw [hbs]; exact Nat.ne_of_lt hltb
            clear hltb
            have hB2' := hA2.box Summary.zero.enc 50 hA2.size
            have hbsB2 : True := trivial
            generalize hgV : A2.alloc (.cells Summary.zero.enc.toArray 50) = B2 at hB2' ⊢
            clear hgV hbsB2
            have hB2 := hB2'
            clear hB2' hA2
            obtain ⟨LE, klB2, -, n61B2, -⟩ := hB2.cells
            have hSB2 : ∃ LE, blk B2 bl = some LE ∧ nth LE 2061 = some (.int .u64 (w64 L.height)) := ⟨LE, klB2, n61B2⟩
            clear klB2 n61B2
            rw [← hbs] at hB2 ⊢
            clear hbs
            refine hK.out _ _ hSB2 (fun hHeld => ?_)
            clear hK K'
            try simp only [Act.put, List.setIfInBounds_toArray, List.set_cons_zero, List.set_cons_succ]
            refine wpAnyF_one (o := ⟨_, _, _, _, _, _⟩) (i := 15) (by kernel_rfl) rfl rfl (fun K' hK => ?_)
            go_simp
            refine (counter_any _ bl 1 L.st.now hB2.rd 2 (by decide)).mono ?_
            rintro e A3b ⟨rfl, he⟩
            dsimp only
            have hA3b := hB2.ext he
            clear he hB2
            obtain ⟨LE, klA3b, -, n61A3b, -⟩ := hA3b.cells
            have hSA3b : ∃ LE, blk A3b bl = some LE ∧ nth LE 2061 = some (.int .u64 (w64 L.height)) := ⟨LE, klA3b, n61A3b⟩
            clear klA3b n61A3b
            refine hK.out _ _ hSA3b (fun hHeld => ?_)
            clear hK K'
            try simp only [Act.put, List.setIfInBounds_toArray, List.set_cons_zero, List.set_cons_succ]
            refine wpAnyF_one (o := ⟨_, _, _, _, _, _⟩) (i := 19) (by kernel_rfl) rfl rfl (fun K' hK => ?_)
            go_simp
            refine (counter_any _ bl 1 L.st.now hA3b.rd 4 (by decide)).mono ?_
            rintro e A4b ⟨rfl, he⟩
            dsimp only
            have hA4b := hA3b.ext he
            clear he hA3b
            obtain ⟨LE, klA4b, -, n61A4b, -⟩ := hA4b.cells
            have hSA4b : ∃ LE, blk A4b bl = some LE ∧ nth LE 2061 = some (.int .u64 (w64 L.height)) := ⟨LE, klA4b, n61A4b⟩
            clear klA4b n61A4b
            refine hK.out _ _ hSA4b (fun hHeld => ?_)
            clear hK K'
            try simp only [Act.put, List.setIfInBounds_toArray, List.set_cons_zero, List.set_cons_succ]
            refine wpAnyF_one (o := ⟨_, _, _, _, _, _⟩) (i := 23) (by kernel_rfl) rfl rfl (fun K' hK => ?_)
            go_simp
            refine (counter_any _ bl 1 L.st.now hA4b.rd 5 (by decide)).mono ?_
            rintro e A5b ⟨rfl, he⟩
            dsimp only
            have hA5b := hA4b.ext he
            clear he hA4b
            obtain ⟨LE, klA5b, -, n61A5b, -⟩ := hA5b.cells
            have hSA5b : ∃ LE, blk A5b bl = some LE ∧ nth LE 2061 = some (.int .u64 (w64 L.height)) := ⟨LE, klA5b, n61A5b⟩
            clear klA5b n61A5b
            refine hK.out _ _ hSA5b (fun hHeld => ?_)
            clear hK K'
            try simp only [Act.put, List.setIfInBounds_toArray, List.set_cons_zero, List.set_cons_succ]
            refine wpAnyF_one (o := ⟨_, _, _, _, _, _⟩) (i := 27) (by kernel_rfl) rfl rfl (fun K' hK => ?_)
            go_simp
            refine (hA5b.call (fun O' hO => hO.root2)).mono ?_
            rintro e A6b ⟨rfl, hA6b⟩
            dsimp only
            clear hA5b
            obtain ⟨LE, klA6b, -, n61A6b, -⟩ := hA6b.cells
            rw [rotL_h] at n61A6b
            have hSA6b : ∃ LE, blk A6b bl = some LE ∧ nth LE 2061 = some (.int .u64 (w64 L.height)) := ⟨LE, klA6b, n61A6b⟩
            clear klA6b n61A6b
            refine hK.out _ _ hSA6b (fun hHeld => ?_)
            clear hK K'
            try simp only [Act.put, List.setIfInBounds_toArray, List.set_cons_zero, List.set_cons_succ]
            refine wpAnyF_take (i := 28) (oi := ⟨_, _, _, _, _, _⟩) (v := ?_) rfl (by kernel_rfl) (by kernel_rfl) (by kernel_rfl) (by kernel_rfl) (by kernel_rfl) (fun _ _ _ h => h) (Or.inl ⟨by rfl, ?_⟩) (by assumption) ?_
            rotate_left 1
            · rintro W' ⟨LE', hS1, hS2⟩
              go_simp
              try with_reducible rfl
            try simp only [Act.put, List.setIfInBounds_toArray, List.set_cons_zero, List.set_cons_succ]
            have kb9 := (hA6b.at (List.mem_cons_self ..)).1
            have kf9 := (hA6b.at (List.mem_cons_self ..)).2
            refine wpAnyF_last (o := ⟨_, _, _, _, _, _⟩) (by kernel_rfl) rfl (fun K' hK => ?_)
            go_simp
            refine hK.out _ _ ?_
            clear hK K'
            try simp only [Act.put, List.setIfInBounds_toArray, List.set_cons_zero, List.set_cons_succ]
            refine wpAnyF_done (by kernel_rfl) ?_ _
            refine ⟨rfl, rfl, ?_⟩
            rw [HI5.out]
            refine ⟨rfl, rfl, bs, rfl, hnb, ?_⟩
            have h9 := hA6b.put (C' := (Summary.mk L.height (ldF L.st.now (keyC 3)) (ldF L.st.now (keyC 1)) (ldF L.st.now (keyC 2)) (ldF L.st.now (keyC 4)) (ldF L.st.now (keyC 5)) (Vector.replicate 4 0) (Vector.replicate 4 0) (rootD L.st)).enc) (fun p hp => by rw [List.mem_singleton] at hp; rw [hp]; exact hnb)
            exact h9
        · go_simp
          obtain ⟨bs, hbs⟩ : ∃ bs, bs = A1.heap.size := ⟨_, rfl⟩
          have hltb := blk_lt (hA1.at (b := br) (C := Summary.zero.enc) (by simp)).1
          have hnb : ¬ br = bs := by rw [hbs]; exact Nat.ne_of_lt hltb
          clear hltb
          have hB1' := hA1.box Summary.zero.enc 50 hA1.size
          have hbsB1 : True := trivial
          generalize hgV : A1.alloc (.cells Summary.zero.enc.toArray 50) = B1 at hB1' ⊢
          clear hgV hbsB1
          have hB1 := hB1'
          clear hB1' hA1
          obtain ⟨LE, klB1, -, n61B1, -⟩ := hB1.cells
          have hSB1 : ∃ LE, blk B1 bl = some LE ∧ nth LE 2061 = some (.int .u64 (w64 L.height)) := ⟨LE, klB1, n61B1⟩
          clear klB1 n61B1
          rw [← hbs] at hB1 ⊢
          clear hbs
          refine hK.out _ _ hSB1 (fun hHeld => ?_)
          clear hK K'
          try simp only [Act.put, List.setIfInBounds_toArray, List.set_cons_zero, List.set_cons_succ]
          refine wpAnyF_one (o := ⟨_, _, _, _, _, _⟩) (i := 11) (by kernel_rfl) rfl rfl (fun K' hK => ?_)
          go_simp
          refine (counter_any _ bl 1 L.st.now hB1.rd 1 (by decide)).mono ?_
          rintro e A2b ⟨rfl, he⟩
          dsimp only
          have hA2b := hB1.ext he
          clear he hB1
          obtain ⟨LE, klA2b, -, n61A2b, -⟩ := hA2b.cells
          have hSA2b : ∃ LE, blk A2b bl = some LE ∧ nth LE 2061 = some (.int .u64 (w64 L.height)) := ⟨LE, klA2b, n61A2b⟩
          clear klA2b n61A2b
          refine hK.out _ _ hSA2b (fun hHeld => ?_)
          clear hK K'
          try simp only [Act.put, List.setIfInBounds_toArray, List.set_cons_zero, List.set_cons_succ]
          refine wpAnyF_one (o := ⟨_, _, _, _, _, _⟩) (i := 15) (by kernel_rfl) rfl rfl (fun K' hK => ?_)
          go_simp
          refine (counter_any _ bl 1 L.st.now hA2b.rd 2 (by decide)).mono ?_
          rintro e A3b ⟨rfl, he⟩
          dsimp only
          have hA3b := hA2b.ext he
          clear he hA2b
          obtain ⟨LE, klA3b, -, n61A3b, -⟩ := hA3b.cells
          have hSA3b : ∃ LE, blk A3b bl = some LE ∧ nth LE 2061 = some (.int .u64 (w64 L.height)) := ⟨LE, klA3b, n61A3b⟩
          clear klA3b n61A3b
          refine hK.out _ _ hSA3b (fun hHeld => ?_)
          clear hK K'
          try simp only [Act.put, List.setIfInBounds_toArray, List.set_cons_zero, List.set_cons_succ]
          refine wpAnyF_one (o := ⟨_, _, _, _, _, _⟩) (i := 19) (by kernel_rfl) rfl rfl (fun K' hK => ?_)
          go_simp
          refine (counter_any _ bl 1 L.st.now hA3b.rd 4 (by decide)).mono ?_
          rintro e A4b ⟨rfl, he⟩
          dsimp only
          have hA4b := hA3b.ext he
          clear he hA3b
          obtain ⟨LE, klA4b, -, n61A4b, -⟩ := hA4b.cells
          have hSA4b : ∃ LE, blk A4b bl = some LE ∧ nth LE 2061 = some (.int .u64 (w64 L.height)) := ⟨LE, klA4b, n61A4b⟩
          clear klA4b n61A4b
          refine hK.out _ _ hSA4b (fun hHeld => ?_)
          clear hK K'
          try simp only [Act.put, List.setIfInBounds_toArray, List.set_cons_zero, List.set_cons_succ]
          refine wpAnyF_one (o := ⟨_, _, _, _, _, _⟩) (i := 23) (by kernel_rfl) rfl rfl (fun K' hK => ?_)
          go_simp
          refine (counter_any _ bl 1 L.st.now hA4b.rd 5 (by decide)).mono ?_
          rintro e A5b ⟨rfl, he⟩
          dsimp only
          have hA5b := hA4b.ext he
          clear he hA4b
          obtain ⟨LE, klA5b, -, n61A5b, -⟩ := hA5b.cells
          have hSA5b : ∃ LE, blk A5b bl = some LE ∧ nth LE 2061 = some (.int .u64 (w64 L.height)) := ⟨LE, klA5b, n61A5b⟩
          clear klA5b n61A5b
          refine hK.out _ _ hSA5b (fun hHeld => ?_)
          clear hK K'
          try simp only [Act.put, List.setIfInBounds_toArray, List.set_cons_zero, List.set_cons_succ]
          refine wpAnyF_one (o := ⟨_, _, _, _, _, _⟩) (i := 27) (by kernel_rfl) rfl rfl (fun K' hK => ?_)
          go_simp
          refine (hA5b.call (fun O' hO => hO.root2)).mono ?_
          rintro e A6b ⟨rfl, hA6b⟩
          dsimp only
          clear hA5b
          obtain ⟨LE, klA6b, -, n61A6b, -⟩ := hA6b.cells
          rw [rotL_h] at n61A6b
          have hSA6b : ∃ LE, blk A6b bl = some LE ∧ nth LE 2061 = some (.int .u64 (w64 L.height)) := ⟨LE, klA6b, n61A6b⟩
          clear klA6b n61A6b
          refine hK.out _ _ hSA6b (fun hHeld => ?_)
          clear hK K'
          try simp only [Act.put, List.setIfInBounds_toArray, List.set_cons_zero, List.set_cons_succ]
          refine wpAnyF_take (i := 28) (oi := ⟨_, _, _, _, _, _⟩) (v := ?_) rfl (by kernel_rfl) (by kernel_rfl) (by kernel_rfl) (by kernel_rfl) (by kernel_rfl) (fun _ _ _ h => h) (Or.inl ⟨by rfl, ?_⟩) (by assumption) ?_
          rotate_left 1
          · rintro W' ⟨LE', hS1, hS2⟩
            go_simp
            try with_reducible rfl
          try simp only [Act.put, List.setIfInBounds_toArray, List.set_cons_zero, List.set_cons_succ]
          have kb9 := (hA6b.at (List.mem_cons_self ..)).1
          have kf9 := (hA6b.at (List.mem_cons_self ..)).2
          refine wpAnyF_last (o := ⟨_, _, _, _, _, _⟩) (by kernel_rfl) rfl (fun K' hK => ?_)
          go_simp
          refine hK.out _ _ ?_
          clear hK K'
          try simp only [Act.put, List.setIfInBounds_toArray, List.set_cons_zero, List.set_cons_succ]
          refine wpAnyF_done (by kernel_rfl) ?_ _
          refine ⟨rfl, rfl, ?_⟩
          rw [HI5.out]
          refine ⟨rfl, rfl, bs, rfl, hnb, ?_⟩
          have h9 := hA6b.put (C' := (Summary.mk L.height (ldF L.st.now (keyC 3)) (ldF L.st.now (keyC 1)) (ldF L.st.now (keyC 2)) (ldF L.st.now (keyC 4)) (ldF L.st.now (keyC 5)) (Vector.replicate 4 0) (Vector.replicate 4 0) (rootD L.st)).enc) (fun p hp => by rw [List.mem_singleton] at hp; rw [hp]; exact hnb)
          exact h9
      · go_simp
        obtain ⟨bs, hbs⟩ : ∃ bs, bs = V0.heap.size := ⟨_, rfl⟩
        have hltb := blk_lt (hA.at (b := br) (C := Summary.zero.enc) (by simp)).1
        have hnb : ¬ br = bs := by rw [hbs]; exact Nat.ne_of_lt hltb
        clear hltb
        have hB0' : LbI O W bl ((V0.heap.size, Summary.zero.enc) :: [(br, Summary.zero.enc)]) L (V0.alloc (.cells Summary.zero.enc.toArray 50)).drew := hA.box Summary.zero.enc 50 hA.size
        have hbsB0 : True := trivial
        generalize hgV : (V0.alloc (.cells Summary.zero.enc.toArray 50)).drew = B0 at hB0' ⊢
        clear hgV hbsB0
        have hB0 := hB0'
        clear hB0' hA
        obtain ⟨LE, klB0, -, n61B0, -⟩ := hB0.cells
        have hSB0 : ∃ LE, blk B0 bl = some LE ∧ nth LE 2061 = some (.int .u64 (w64 L.height)) := ⟨LE, klB0, n61B0⟩
        clear klB0 n61B0
        rw [← hbs] at hB0 ⊢
        clear hbs
        refine hK.out _ _ hSB0 (fun hHeld => ?_)
        clear hK K'
        try simp only [Act.put, List.setIfInBounds_toArray, List.set_cons_zero, List.set_cons_succ]
        refine wpAnyF_one (o := ⟨_, _, _, _, _, _⟩) (i := 7) (by kernel_rfl) rfl rfl (fun K' hK => ?_)
        go_simp
        refine (counter_any _ bl 1 L.st.now hB0.rd 3 (by decide)).mono ?_
        rintro e A1b ⟨rfl, he⟩
        dsimp only
        have hA1b := hB0.ext he
        clear he hB0
        obtain ⟨LE, klA1b, -, n61A1b, -⟩ := hA1b.cells
        have hSA1b : ∃ LE, blk A1b bl = some LE ∧ nth LE 2061 = some (.int .u64 (w64 L.height)) := ⟨LE, klA1b, n61A1b⟩
        clear klA1b n61A1b
        refine hK.out _ _ hSA1b (fun hHeld => ?_)
        clear hK K'
        try simp only [Act.put, List.setIfInBounds_toArray, List.set_cons_zero, List.set_cons_succ]
        refine wpAnyF_one (o := ⟨_, _, _, _, _, _⟩) (i := 11) (by kernel_rfl) rfl rfl (fun K' hK => ?_)
        go_simp
        refine (counter_any _ bl 1 L.st.now hA1b.rd 1 (by decide)).mono ?_
        rintro e A2b ⟨rfl, he⟩
        dsimp only
        have hA2b := hA1b.ext he
        clear he hA1b
        obtain ⟨LE, klA2b, -, n61A2b, -⟩ := hA2b.cells
        have hSA2b : ∃ LE, blk A2b bl = some LE ∧ nth LE 2061 = some (.int .u64 (w64 L.height)) := ⟨LE, klA2b, n61A2b⟩
        clear klA2b n61A2b
        refine hK.out _ _ hSA2b (fun hHeld => ?_)
        clear hK K'
        try simp only [Act.put, List.setIfInBounds_toArray, List.set_cons_zero, List.set_cons_succ]
        refine wpAnyF_one (o := ⟨_, _, _, _, _, _⟩) (i := 15) (by kernel_rfl) rfl rfl (fun K' hK => ?_)
        go_simp
        refine (counter_any _ bl 1 L.st.now hA2b.rd 2 (by decide)).mono ?_
        rintro e A3b ⟨rfl, he⟩
        dsimp only
        have hA3b := hA2b.ext he
        clear he hA2b
        obtain ⟨LE, klA3b, -, n61A3b, -⟩ := hA3b.cells
        have hSA3b : ∃ LE, blk A3b bl = some LE ∧ nth LE 2061 = some (.int .u64 (w64 L.height)) := ⟨LE, klA3b, n61A3b⟩
        clear klA3b n61A3b
        refine hK.out _ _ hSA3b (fun hHeld => ?_)
        clear hK K'
        try simp only [Act.put, List.setIfInBounds_toArray, List.set_cons_zero, List.set_cons_succ]
        refine wpAnyF_one (o := ⟨_, _, _, _, _, _⟩) (i := 19) (by kernel_rfl) rfl rfl (fun K' hK => ?_)
        go_simp
        refine (counter_any _ bl 1 L.st.now hA3b.rd 4 (by decide)).mono ?_
        rintro e A4b ⟨rfl, he⟩
        dsimp only
        have hA4b := hA3b.ext he
        clear he hA3b
        obtain ⟨LE, klA4b, -, n61A4b, -⟩ := hA4b.cells
        have hSA4b : ∃ LE, blk A4b bl = some LE ∧ nth LE 2061 = some (.int .u64 (w64 L.height)) := ⟨LE, klA4b, n61A4b⟩
        clear klA4b n61A4b
        refine hK.out _ _ hSA4b (fun hHeld => ?_)
        clear hK K'
        try simp only [Act.put, List.setIfInBounds_toArray, List.set_cons_zero, List.set_cons_succ]
        refine wpAnyF_one (o := ⟨_, _, _, _, _, _⟩) (i := 23) (by kernel_rfl) rfl rfl (fun K' hK => ?_)
        go_simp
        refine (counter_any _ bl 1 L.st.now hA4b.rd 5 (by decide)).mono ?_
        rintro e A5b ⟨rfl, he⟩
        dsimp only
        have hA5b := hA4b.ext he
        clear he hA4b
        obtain ⟨LE, klA5b, -, n61A5b, -⟩ := hA5b.cells
        have hSA5b : ∃ LE, blk A5b bl = some LE ∧ nth LE 2061 = some (.int .u64 (w64 L.height)) := ⟨LE, klA5b, n61A5b⟩
        clear klA5b n61A5b
        refine hK.out _ _ hSA5b (fun hHeld => ?_)
        clear hK K'
        try simp only [Act.put, List.setIfInBounds_toArray, List.set_cons_zero, List.set_cons_succ]
        refine wpAnyF_one (o := ⟨_, _, _, _, _, _⟩) (i := 27) (by kernel_rfl) rfl rfl (fun K' hK => ?_)
        go_simp
        refine (hA5b.call (fun O' hO => hO.root2)).mono ?_
        rintro e A6b ⟨rfl, hA6b⟩
        dsimp only
        clear hA5b
        obtain ⟨LE, klA6b, -, n61A6b, -⟩ := hA6b.cells
        rw [rotL_h] at n61A6b
        have hSA6b : ∃ LE, blk A6b bl = some LE ∧ nth LE 2061 = some (.int .u64 (w64 L.height)) := ⟨LE, klA6b, n61A6b⟩
        clear klA6b n61A6b
        refine hK.out _ _ hSA6b (fun hHeld => ?_)
        clear hK K'
        try simp only [Act.put, List.setIfInBounds_toArray, List.set_cons_zero, List.set_cons_succ]
        refine wpAnyF_take (i := 28) (oi := ⟨_, _, _, _, _, _⟩) (v := ?_) rfl (by kernel_rfl) (by kernel_rfl) (by kernel_rfl) (by kernel_rfl) (by kernel_rfl) (fun _ _ _ h => h) (Or.inl ⟨by rfl, ?_⟩) (by assumption) ?_
        rotate_left 1
        · rintro W' ⟨LE', hS1, hS2⟩
          go_simp
          try with_reducible rfl
        try simp only [Act.put, List.setIfInBounds_toArray, List.set_cons_zero, List.set_cons_succ]
        have kb9 := (hA6b.at (List.mem_cons_self ..)).1
        have kf9 := (hA6b.at (List.mem_cons_self ..)).2
        refine wpAnyF_last (o := ⟨_, _, _, _, _, _⟩) (by kernel_rfl) rfl (fun K' hK => ?_)
        go_simp
        refine hK.out _ _ ?_
        clear hK K'
        try simp only [Act.put, List.setIfInBounds_toArray, List.set_cons_zero, List.set_cons_succ]
        refine wpAnyF_done (by kernel_rfl) ?_ _
        refine ⟨rfl, rfl, ?_⟩
        rw [HI5.out]
        refine ⟨rfl, rfl, bs, rfl, hnb, ?_⟩
        have h9 := hA6b.put (C' := (Summary.mk L.height (ldF L.st.now (keyC 3)) (ldF L.st.now (keyC 1)) (ldF L.st.now (keyC 2)) (ldF L.st.now (keyC 4)) (ldF L.st.now (keyC 5)) (Vector.replicate 4 0) (Vector.replicate 4 0) (rootD L.st)).enc) (fun p hp => by rw [List.mem_singleton] at hp; rw [hp]; exact hnb)
        exact h9
    clear hA hS5
    intro F V hI
    rw [HI5.out] at hI
    obtain ⟨f0, f2, bs, f4, hne, hV0⟩ := hI
    rw [frame141, f0, f2, f4]
    clear f0 f2 f4 HI5
    have HI0 : Hid (LbI O W bl [(bs, (smT L 0).enc), (br, Summary.zero.enc)] { L with st := { rootS L.st with now := clrN L.st.now 0 } } V) := by
      show LbI _ _ _ _ _ _
      rw [smT_zero, rot_clr0]
      exact hV0
    clear hV0
    go_wp2_with fail
    refine wp_loop_f 141 (ebI O W bl br bs L) (fun f _ => 4 - (intOf (f 5)).toNat) rfl ⟨rfl, rfl, rfl, 0, by omega, rfl, HI0⟩ ?_
    clear HI0
    intro F V hrel
    obtain ⟨f0, f2, f4, t, ht, f5, HI⟩ := hrel
    obtain ⟨tu, htu⟩ : ∃ tu, tu = UInt64.ofNat t := ⟨_, rfl⟩
    have htn : tu.toNat = t := by rw [htu, UInt64.toNat_ofNat']; omega
    rw [← htu] at f5
    have H5 := hid_of f5
    rw [frame141, f0, f2, f4, f5]
    clear f0 f2 f4 f5
    have hV := HI.out
    clear HI
    by_cases hin : t < 4
    rotate_left 1
    · obtain rfl : t = 4 := by omega
      have hin' : ¬ w64 tu < 4 := by unfold w64; omega
      clear hin ht htu htn H5
      have hbn := clrN_len L.st.now 4
      have hb0 := saveF_len (clrN L.st.now 4) (keyC 3) 0
      have hq0 := hV.call (fun O' hO => (lsetCounter O' _ bl _ hO 3 (by decide) 0 (by have := HM.out; dsimp only; omega)).mono (fun e V h => LgPost.lx h))
      dsimp only at hq0
      clear hV
      go_wp2_with fail
      refine hq0.mono ?_
      clear hq0
      rintro e U0 ⟨rfl, hU0⟩
      dsimp only
      have hb1 := saveF_len (saveF (clrN L.st.now 4) (keyC 3) 0) (keyC 1) 0
      have hq1 := hU0.call (fun O' hO => (lsetCounter O' _ bl _ hO 1 (by decide) 0 (by have := HM.out; dsimp only; omega)).mono (fun e V h => LgPost.lx h))
      dsimp only at hq1
      clear hU0
      go_wp2_with fail
      refine hq1.mono ?_
      clear hq1
      rintro e U1 ⟨rfl, hU1⟩
      dsimp only
      have hb2 := saveF_len (saveF (saveF (clrN L.st.now 4) (keyC 3) 0) (keyC 1) 0) (keyC 2) 0
      have hq2 := hU1.call (fun O' hO => (lsetCounter O' _ bl _ hO 2 (by decide) 0 (by have := HM.out; dsimp only; omega)).mono (fun e V h => LgPost.lx h))
      dsimp only at hq2
      clear hU1
      go_wp2_with fail
      refine hq2.mono ?_
      clear hq2
      rintro e U2 ⟨rfl, hU2⟩
      dsimp only
      have hb3 := saveF_len (saveF (saveF (saveF (clrN L.st.now 4) (keyC 3) 0) (keyC 1) 0) (keyC 2) 0) (keyC 4) 0
      have hq3 := hU2.call (fun O' hO => (lsetCounter O' _ bl _ hO 4 (by decide) 0 (by have := HM.out; dsimp only; omega)).mono (fun e V h => LgPost.lx h))
      dsimp only at hq3
      clear hU2
      go_wp2_with fail
      refine hq3.mono ?_
      clear hq3
      rintro e U3 ⟨rfl, hU3⟩
      dsimp only
      have hb4 := saveF_len (saveF (saveF (saveF (saveF (clrN L.st.now 4) (keyC 3) 0) (keyC 1) 0) (keyC 2) 0) (keyC 4) 0) (keyC 5) 0
      have hq4 := hU3.call (fun O' hO => (lsetCounter O' _ bl _ hO 5 (by decide) 0 (by have := HM.out; dsimp only; omega)).mono (fun e V h => LgPost.lx h))
      dsimp only at hq4
      clear hU3
      go_wp2_with fail
      refine hq4.mono ?_
      clear hq4
      rintro e U4 ⟨rfl, hU4⟩
      dsimp only
      clear hbn hb0 hb1 hb2 hb3 hb4
      change LbI O W bl [(bs, (smT L 4).enc), (br, Summary.zero.enc)] { L with st := { rootS L.st with now := clrA L.st.now } } U4 at hU4
      have kb4 := (hU4.at (List.mem_cons_self ..)).1
      have hp18 := hU4.drew.call (fun O' hO => hO.push (smT L 4))
      dsimp only at hp18
      go_upto_region 18 with fail
      repeat go_step
      refine wp_region_F 4 (fun W' => blk W' bs = some (smT L 4).enc) (by kernel_rfl) kb4 (fun hHeld => ?_)
      refine wpAnyF_take (i := 0) (oi := ⟨_, _, _, _, _, _⟩) (v := ?_) rfl (by kernel_rfl) (by kernel_rfl) (by kernel_rfl) (by kernel_rfl) (by kernel_rfl) (fun _ _ _ h => h) (Or.inl ⟨by rfl, ?_⟩) (by assumption) ?_
      rotate_left 1
      · intro W' hSw
        go_simp
        try with_reducible rfl
      try simp only [Act.put, List.setIfInBounds_toArray, List.set_cons_zero, List.set_cons_succ]
      refine wpAnyF_take (i := 1) (oi := ⟨_, _, _, _, _, _⟩) (v := ?_) rfl (by kernel_rfl) (by kernel_rfl) (by kernel_rfl) (by kernel_rfl) (by kernel_rfl) (fun _ _ _ h => h) (Or.inl ⟨by rfl, ?_⟩) (by assumption) ?_
      rotate_left 1
      · intro W' hSw
        go_simp
        try with_reducible rfl
      try simp only [Act.put, List.setIfInBounds_toArray, List.set_cons_zero, List.set_cons_succ]
      refine wpAnyF_take (i := 2) (oi := ⟨_, _, _, _, _, _⟩) (v := ?_) rfl (by kernel_rfl) (by kernel_rfl) (by kernel_rfl) (by kernel_rfl) (by kernel_rfl) (fun _ _ _ h => h) (Or.inl ⟨by rfl, ?_⟩) (by assumption) ?_
      rotate_left 1
      · intro W' hSw
        go_simp
        try with_reducible rfl
      try simp only [Act.put, List.setIfInBounds_toArray, List.set_cons_zero, List.set_cons_succ]
      refine wpAnyF_take (i := 3) (oi := ⟨_, _, _, _, _, _⟩) (v := ?_) rfl (by kernel_rfl) (by kernel_rfl) (by kernel_rfl) (by kernel_rfl) (by kernel_rfl) (fun _ _ _ h => h) (Or.inl ⟨by rfl, ?_⟩) (by assumption) ?_
      rotate_left 1
      · intro W' hSw
        go_simp
        try with_reducible rfl
      try simp only [Act.put, List.setIfInBounds_toArray, List.set_cons_zero, List.set_cons_succ]
      refine wpAnyF_last (o := ⟨_, _, _, _, _, _⟩) (by kernel_rfl) rfl (fun K' hK => ?_)
      go_simp
      refine hp18.mono ?_
      clear hp18
      rintro e U5 ⟨rfl, hU5⟩
      dsimp only
      refine hK.out _ _ ?_
      clear hK K'
      try simp only [Act.put, List.setIfInBounds_toArray, List.set_cons_zero, List.set_cons_succ]
      refine wpAnyF_done (by kernel_rfl) ?_ _
      clear hHeld kb4 hU4
      obtain ⟨R, xa, ya, za, xn, xc, yn, yc, zn, zc, kl5, kf5, r2, r3, r4, hU6⟩ := hU5.fin
      have hne1 : ¬ bs = bl := hU5.ne (C := (smT L 4).enc) (by simp)
      have hne2 : ¬ br = bl := hU5.ne (C := Summary.zero.enc) (by simp)
      have k5s := (hU5.at (b := bs) (C := (smT L 4).enc) (by simp)).1
      have k5r := (hU5.at (b := br) (C := Summary.zero.enc) (by simp)).1
      have q5r := (hU5.at (b := br) (C := Summary.zero.enc) (by simp)).2
      have HP : Hid (Q (.returned (.tuple #[.agg (smT L 4).enc.toArray, .int .i64 0])) (put (put U5 bl ({ R with begun := GState.zero, open_ := false, gasLimit := 0, sent := ⟨xa, 0, xc⟩, took := ⟨ya, 0, yc⟩, receipts := ⟨za, 0, zc⟩ } : Ledger).enc) br (smT L 4).enc)) := by
        show Q _ _
        rw [HQ.out, HF.out]
        have h9 : LbI O W bl [(br, Summary.zero.enc)] (endL L) (put U5 bl ({ R with begun := GState.zero, open_ := false, gasLimit := 0, sent := ⟨xa, 0, xc⟩, took := ⟨ya, 0, yc⟩, receipts := ⟨za, 0, zc⟩ } : Ledger).enc) := hU6.sub (fun p hp => by simp at hp; simp [hp])
        exact (h9.put (C' := (smT L 4).enc) (fun p hp => by cases hp)).post
      clear hU5 hU6 HQ HF HM
      generalize smT L 4 = sm at HP k5s ⊢
      have hne3 : ¬ bl = bs := fun e => hne1 e.symm
      have hne4 : ¬ bl = br := fun e => hne2 e.symm
      go_wp2_with fail
      refine ret_cell_tmp (C := sm.enc) rfl rfl rfl (by rw [blk_put, if_pos rfl, blk_put, if_neg hne2, k5r]; rfl) (by kernel_rfl) (by rw [Summary.length_enc]; kernel_rfl) rfl ?_
      exact HP.out
    have hin' : w64 tu < 4 := by unfold w64; omega
    have p0 : (0 : Int) ≤ w64 tu := by unfold w64; omega
    have p2 : (w64 tu).toNat = t := by unfold w64; omega
    have hw7 : IntKind.u64.wrap (7 + w64 tu) = w64 (7 + tu) := x64_add 7 tu
    have hw11 : IntKind.u64.wrap (11 + w64 tu) = w64 (11 + tu) := x64_add 11 tu
    have hc7 : (7 + tu).toNat < 72057594037927936 := by rw [UInt64.toNat_add, htn]; show (7 + t) % _ < _; omega
    have hc11 : (11 + tu).toNat < 72057594037927936 := by rw [UInt64.toNat_add, htn]; show (11 + t) % _ < _; omega
    have hct := counter_any V bl 1 _ hV.rd (7 + tu) hc7
    dsimp only at hct
    have HT : Hid (t < 4 ∧ tu = UInt64.ofNat t) := ⟨hin, htu⟩
    have hbl := clrN_len L.st.now t
    have HBL : Hid ((clrN L.st.now t).length ≤ L.st.now.length + 2 * t) := hbl
    obtain ⟨v7, hv7⟩ : ∃ v, v = ldF (clrN L.st.now t) (keyC (7 + tu)) := ⟨_, rfl⟩
    obtain ⟨v11, hv11⟩ : ∃ v, v = ldF (clrN L.st.now t) (keyC (11 + tu)) := ⟨_, rfl⟩
    rw [← hv7] at hct
    obtain ⟨sm, hsm⟩ : ∃ sm, sm = smT L t := ⟨_, rfl⟩
    rw [← hsm] at hV
    have HSM := hid_of (And.intro hsm (And.intro hv7 hv11))
    have hs1 := Summary.minted_put sm t v7 hin
    have hs2 := Summary.burned_put ({ sm with minted := sm.minted.set t v7 hin } : Summary) t v11 hin
    obtain ⟨s1, hs1'⟩ : ∃ s1, s1 = ({ sm with minted := sm.minted.set t v7 hin } : Summary) := ⟨_, rfl⟩
    rw [← hs1'] at hs1 hs2
    obtain ⟨s2, hs2'⟩ : ∃ s2, s2 = ({ s1 with burned := s1.burned.set t v11 hin } : Summary) := ⟨_, rfl⟩
    rw [← hs2'] at hs2
    have HS2 : Hid (s2 = smT L (t + 1)) := by
      show s2 = _
      rw [hs2', hs1', hsm, hv7, hv11, htu]
      exact smT_step L t hin
    have lsm : sm.enc.length = 46 := Summary.length_enc _
    have ls1 : s1.enc.length = 46 := Summary.length_enc _
    clear hs1' hs2' hsm htu ht hin hbl hv7
    go_wp2_with fail
    refine hct.mono ?_
    clear hct
    rintro e V1 ⟨rfl, he1⟩
    dsimp only
    have hV1 := hV.ext he1
    clear he1 hV
    have kb1 := (hV1.at (List.mem_cons_self ..)).1
    have kf1 := (hV1.at (List.mem_cons_self ..)).2
    have hV2 := hV1.put (C' := s1.enc) (fun p hp => by rw [List.mem_singleton] at hp; rw [hp]; exact hne)
    have hct2 := counter_any _ bl 1 _ hV2.rd (11 + tu) hc11
    dsimp only at hct2
    rw [← hv11] at hct2
    clear hV1 hv11
    have k9 : (6 + t : Nat) + 1 ≤ 46 := by have := HT.out.1; omega
    have k10 : (10 + t : Nat) + 1 ≤ 46 := by have := HT.out.1; omega
    go_upto_region 10 with fail
    generalize hW2 : Blk.put V1 bs s1.enc = V2 at hV2 hct2 ⊢
    clear hW2 kb1 kf1
    go_wp2_with fail
    refine hct2.mono ?_
    clear hct2
    rintro e V3 ⟨rfl, he3⟩
    dsimp only
    have hV3 := hV2.ext he3
    clear he3 hV2
    have kb3 := (hV3.at (List.mem_cons_self ..)).1
    have kf3 := (hV3.at (List.mem_cons_self ..)).2
    have hV4 := hV3.put (C' := s2.enc) (fun p hp => by rw [List.mem_singleton] at hp; rw [hp]; exact hne)
    clear hV3
    go_upto_region 11 with fail
    generalize hW4 : Blk.put V3 bs s2.enc = V4 at hV4 ⊢
    clear hW4 kb3 kf3 hs1 hs2 lsm ls1
    have hq5 := hV4.call (fun O' hO => (lsetCounter O' _ bl _ hO (7 + tu) hc7 0 (by have := HM.out; have := HBL.out; have := HT.out.1; dsimp only; omega)).mono (fun e V h => LgPost.lx h))
    dsimp only at hq5
    clear hV4
    go_wp2_with fail
    refine hq5.mono ?_
    clear hq5
    rintro e V5 ⟨rfl, hV5⟩
    dsimp only
    have hb5 := saveF_len (clrN L.st.now t) (keyC (7 + tu)) 0
    have hq6 := hV5.call (fun O' hO => (lsetCounter O' _ bl _ hO (11 + tu) hc11 0 (by have := HM.out; have := HBL.out; have := HT.out.1; dsimp only; omega)).mono (fun e V h => LgPost.lx h))
    dsimp only at hq6
    clear hV5 hb5
    go_wp2_with fail
    refine hq6.mono ?_
    clear hq6
    rintro e V6 ⟨rfl, hV6⟩
    dsimp only
    have HJ : Hid (LbI O W bl [(bs, (smT L (t + 1)).enc), (br, Summary.zero.enc)] { L with st := { rootS L.st with now := clrN L.st.now (t + 1) } } V6) := by
      show LbI _ _ _ _ _ _
      rw [← HS2.out]
      have h7 : clrN L.st.now (t + 1) = saveF (saveF (clrN L.st.now t) (keyC (7 + tu)) 0) (keyC (11 + tu)) 0 := by rw [HT.out.2]; rfl
      rw [h7]
      exact hV6
    clear hV6 hw7 hw11
    go_wp2_with fail
    refine ⟨rfl, rfl, ⟨rfl, rfl, rfl, t + 1, HT.out.1, ?_, HJ⟩, ?_⟩
    · show Value.int .u64 (w64 (tu + 1)) = _
      rw [HT.out.2]
      congr 2
      apply UInt64.toNat_inj.1
      rw [UInt64.toNat_add, UInt64.toNat_ofNat', UInt64.toNat_ofNat']
      have := HT.out.1
      show (t % 18446744073709551616 + 1) % 18446744073709551616 = (t + 1) % 18446744073709551616
      omega
    · show 4 - (intOf (Value.int .u64 (w64 (tu + 1)))).toNat < 4 - (intOf (F 5)).toNat
      rw [H5.out]
      have := HT.out.1
      have h9 : (tu + 1).toNat = t + 1 := by rw [UInt64.toNat_add, htn]; show (t + 1) % _ = _; omega
      show 4 - (((tu + 1).toNat : Int)).toNat < 4 - ((tu.toNat : Int)).toNat
      rw [h9, htn]
      omega
end Go.Proofs.Qxb6500786aGreat
