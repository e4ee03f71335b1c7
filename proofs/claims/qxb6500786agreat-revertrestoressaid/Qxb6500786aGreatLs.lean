import Derived.DeepKeys2
import Derived.Test.Qxb6500786aGreatLr

import Derived.StillTailTactics
import Derived.Deep.QuietTactic
import Derived.BigQuiet
import Derived.Deep.RegionHeld
import Derived.Deep.CutRange
import Derived.Laws.ResultCell
import Derived.Laws.Rows
import Derived.DeepKeys
import Derived.DataBytes
import Derived.Laws.StructEq
import Derived.Laws.AppendOwn
import Derived.Laws.MakeOwn
import Derived.Lib.AppendStr
set_option linter.unusedSimpArgs false
set_option linter.unusedVariables false
namespace Go.Proofs.Qxb6500786aGreat
open Go.RowKit Go.Blk
attribute [local go_sem ↓] execOp_load execOp_store execOp_alloc
attribute [local go_sem] Tryz.ld24 Tryz.st24 Tryz.ld36 Tryz.st36 Tryz.ld28 Tryz.st28 Tryz.ld32 Tryz.st32 Tryz.ld33 Tryz.st33 Tryz.ld34 Tryz.st34 Tryz.ld5 Tryz.st5 Tryz.ld31 Tryz.st31 Tryz.ld30 Tryz.st30 Tryz.ld41 Tryz.st41 Tryz.ld44 Tryz.st44 Tryz.ld4 Tryz.st4 Tryz.ld173 Tryz.st173 Tryz.ld174 Tryz.st174 Tryz.ld95 Tryz.st95 Tryz.ld45 Tryz.st45 Tryz.ld207 Tryz.st207 Tryz.ld3 Tryz.st3 Tryz.ld189 Tryz.st189 Tryz.ld2 Tryz.st2 Tryz.ld9 Tryz.st9 Tryz.ld12 Tryz.st12 Tryz.ld21 Tryz.st21 Tryz.ld22 Tryz.st22 Tryz.ld46 Tryz.st46 Tryz.ld92 Tryz.st92 Tryz.ld94 Tryz.st94 Tryz.ld96 Tryz.st96 Tryz.ld97 Tryz.st97 Tryz.ld105 Tryz.st105 Tryz.ld117 Tryz.st117 Tryz.ld122 Tryz.st122 Tryz.ld123 Tryz.st123 Tryz.ld133 Tryz.st133 Tryz.ld155 Tryz.st155 Tryz.ld163 Tryz.st163 Tryz.ld190 Tryz.st190 Tryz.ld197 Tryz.st197 Tryz.ld201 Tryz.st201 Tryz.ld202 Tryz.st202 Tryz.ld209 Tryz.st209 Tryz.ld216 Tryz.st216 Tryz.ld230 Tryz.st230 Tryz.ld238 Tryz.st238 Tryz.ld242 Tryz.st242 Tryz.ld251 Tryz.st251 Tryz.ld260 Tryz.st260 Tryz.ld286 Tryz.st286 Tryz.ld292 Tryz.st292 Tryz.ld298 Tryz.st298 Tryz.ld309 Tryz.st309 Tryz.ld35 Tryz.st35 Tryz.ld48 Tryz.st48 Tryz.ld47 Tryz.st47 Tryz.ld79 Tryz.st79 Tryz.ld177 Tryz.st177 Tryz.ld180 Tryz.st180 Tryz.ld231 Tryz.st231 Tryz.ld232 Tryz.st232 Tryz.ld26 Tryz.st26 Tryz.ld38 Tryz.st38 Tryz.ld40 Tryz.st40 Tryz.ld43 Tryz.st43 Tryz.ld50 Tryz.st50 Tryz.ld52 Tryz.st52 Tryz.ld54 Tryz.st54 Tryz.ld81 Tryz.st81 Tryz.ld112 Tryz.st112 Tryz.ld120 Tryz.st120 Tryz.ld176 Tryz.st176 Tryz.ld179 Tryz.st179 Tryz.ld182 Tryz.st182 Tryz.ld184 Tryz.st184 Tryz.ld234 Tryz.st234 Tryz.ld236 Tryz.st236 Tryz.ld240 Tryz.st240 Tryz.ld246 Tryz.st246 Tryz.ld249 Tryz.st249 Tryz.al35 Tryz.al48 Tryz.al47 Tryz.al79 Tryz.al177 Tryz.al180 Tryz.al231 Tryz.al232 Tryz.al26 Tryz.al38 Tryz.al40 Tryz.al43 Tryz.al50 Tryz.al52 Tryz.al54 Tryz.al81 Tryz.al112 Tryz.al120 Tryz.al176 Tryz.al179 Tryz.al182 Tryz.al184 Tryz.al234 Tryz.al236 Tryz.al240 Tryz.al246 Tryz.al249
attribute [local go_sem] Player.length_enc Player.ok_enc Player.all_get Player.all_set Player.hand_get Player.hand_set Player.aside_get Player.aside_set Message.length_enc Message.ok_enc Message.all_get Message.all_set Message.kind_get Message.kind_set Message.from__get Message.from__set Message.to__get Message.to__set Message.sender_get Message.sender_set Message.receiver_get Message.receiver_set Message.seq_get Message.seq_set Message.token_get Message.token_set Message.amount_get Message.amount_set Message.size_get Message.size_set Message.payload_get Message.payload_set Tx.length_enc Tx.ok_enc Tx.all_get Tx.all_set Tx.kind_get Tx.kind_set Tx.chain_get Tx.chain_set Tx.from__get Tx.from__set Tx.nonce_get Tx.nonce_set Tx.fee_get Tx.fee_set Tx.to__get Tx.to__set Tx.dest_get Tx.dest_set Tx.token_get Tx.token_set Tx.amount_get Tx.amount_set Tx.size_get Tx.size_set Tx.payload_get Tx.payload_set Tx.msg_get Tx.msg_set Tx.msg_kind_get Tx.msg_kind_set Tx.msg_from__get Tx.msg_from__set Tx.msg_to__get Tx.msg_to__set Tx.msg_sender_get Tx.msg_sender_set Tx.msg_receiver_get Tx.msg_receiver_set Tx.msg_seq_get Tx.msg_seq_set Tx.msg_token_get Tx.msg_token_set Tx.msg_amount_get Tx.msg_amount_set Tx.msg_size_get Tx.msg_size_set Tx.msg_payload_get Tx.msg_payload_set GOp.length_enc GOp.ok_enc GOp.all_get GOp.all_set GOp.kind_get GOp.kind_set GOp.tx_get GOp.tx_set GOp.txs_get GOp.txs_set GOp.gas_get GOp.gas_set GOp.acct_get GOp.acct_set GOp.token_get GOp.token_set GOp.chain_get GOp.chain_set GOp.seq_get GOp.seq_set GOp.tx_kind_get GOp.tx_kind_set GOp.tx_chain_get GOp.tx_chain_set GOp.tx_from__get GOp.tx_from__set GOp.tx_nonce_get GOp.tx_nonce_set GOp.tx_fee_get GOp.tx_fee_set GOp.tx_to__get GOp.tx_to__set GOp.tx_dest_get GOp.tx_dest_set GOp.tx_token_get GOp.tx_token_set GOp.tx_amount_get GOp.tx_amount_set GOp.tx_size_get GOp.tx_size_set GOp.tx_payload_get GOp.tx_payload_set GOp.tx_msg_get GOp.tx_msg_set GOp.tx_msg_kind_get GOp.tx_msg_kind_set GOp.tx_msg_from__get GOp.tx_msg_from__set GOp.tx_msg_to__get GOp.tx_msg_to__set GOp.tx_msg_sender_get GOp.tx_msg_sender_set GOp.tx_msg_receiver_get GOp.tx_msg_receiver_set GOp.tx_msg_seq_get GOp.tx_msg_seq_set GOp.tx_msg_token_get GOp.tx_msg_token_set GOp.tx_msg_amount_get GOp.tx_msg_amount_set GOp.tx_msg_size_get GOp.tx_msg_size_set GOp.tx_msg_payload_get GOp.tx_msg_payload_set Summary.length_enc Summary.ok_enc Summary.all_get Summary.all_set Summary.height_get Summary.height_set Summary.txs_get Summary.txs_set Summary.gas_get Summary.gas_set Summary.fees_get Summary.fees_set Summary.sent_get Summary.sent_set Summary.took_get Summary.took_set Summary.minted_get Summary.minted_set Summary.burned_get Summary.burned_set Summary.root_get Summary.root_set Detail.length_enc Detail.ok_enc Detail.all_get Detail.all_set Detail.code_get Detail.code_set Detail.have__get Detail.have__set Detail.need_get Detail.need_set Slot.length_enc Slot.ok_enc Slot.all_get Slot.all_set Slot.nonce_get Slot.nonce_set Slot.balances_get Slot.balances_set Tree.length_enc Tree.ok_enc Tree.all_get Tree.all_set Tree.leaves_get Tree.leaves_set Mark.length_enc Mark.ok_enc Mark.all_get Mark.all_set Mark.from__get Mark.from__set Mark.seq_get Mark.seq_set Receipt.length_enc Receipt.ok_enc Receipt.all_get Receipt.all_set Receipt.code_get Receipt.code_set Receipt.hash_get Receipt.hash_set Receipt.index_get Receipt.index_set Receipt.gas_get Receipt.gas_set Receipt.fee_get Receipt.fee_set Receipt.hasSent_get Receipt.hasSent_set Receipt.sent_get Receipt.sent_set Receipt.hasTook_get Receipt.hasTook_set Receipt.took_get Receipt.took_set Receipt.sent_kind_get Receipt.sent_kind_set Receipt.sent_from__get Receipt.sent_from__set Receipt.sent_to__get Receipt.sent_to__set Receipt.sent_sender_get Receipt.sent_sender_set Receipt.sent_receiver_get Receipt.sent_receiver_set Receipt.sent_seq_get Receipt.sent_seq_set Receipt.sent_token_get Receipt.sent_token_set Receipt.sent_amount_get Receipt.sent_amount_set Receipt.sent_size_get Receipt.sent_size_set Receipt.sent_payload_get Receipt.sent_payload_set Receipt.took_kind_get Receipt.took_kind_set Receipt.took_from__get Receipt.took_from__set Receipt.took_to__get Receipt.took_to__set Receipt.took_sender_get Receipt.took_sender_set Receipt.took_receiver_get Receipt.took_receiver_set Receipt.took_seq_get Receipt.took_seq_set Receipt.took_token_get Receipt.took_token_set Receipt.took_amount_get Receipt.took_amount_set Receipt.took_size_get Receipt.took_size_set Receipt.took_payload_get Receipt.took_payload_set Store.length_enc Store.ok_enc Store.all_get Store.all_set Store.now_get Store.now_set Store.saved_get Store.saved_set GState.length_enc GState.ok_enc GState.all_get GState.all_set GState.kv_get GState.kv_set GState.tree_get GState.tree_set GState.stale_get GState.stale_set GState.touched_get GState.touched_set GState.kv_now_get GState.kv_now_set GState.kv_saved_get GState.kv_saved_set GState.tree_leaves_get GState.tree_leaves_set History.length_enc History.ok_enc History.all_get History.all_set History.ring_get History.ring_set History.closed_get History.closed_set Ledger.length_enc Ledger.ok_enc Ledger.all_get Ledger.all_set Ledger.chain_get Ledger.chain_set Ledger.st_get Ledger.st_set Ledger.height_get Ledger.height_set Ledger.open__get Ledger.open__set Ledger.gasLimit_get Ledger.gasLimit_set Ledger.past_get Ledger.past_set Ledger.begun_get Ledger.begun_set Ledger.sent_get Ledger.sent_set Ledger.took_get Ledger.took_set Ledger.receipts_get Ledger.receipts_set Ledger.st_kv_get Ledger.st_kv_set Ledger.st_tree_get Ledger.st_tree_set Ledger.st_stale_get Ledger.st_stale_set Ledger.st_touched_get Ledger.st_touched_set Ledger.st_kv_now_get Ledger.st_kv_now_set Ledger.st_kv_saved_get Ledger.st_kv_saved_set Ledger.st_tree_leaves_get Ledger.st_tree_leaves_set Ledger.past_ring_get Ledger.past_ring_set Ledger.past_closed_get Ledger.past_closed_set Ledger.begun_kv_get Ledger.begun_kv_set Ledger.begun_tree_get Ledger.begun_tree_set Ledger.begun_stale_get Ledger.begun_stale_set Ledger.begun_touched_get Ledger.begun_touched_set Ledger.begun_kv_now_get Ledger.begun_kv_now_set Ledger.begun_kv_saved_get Ledger.begun_kv_saved_set Ledger.begun_tree_leaves_get Ledger.begun_tree_leaves_set Purse.length_enc Purse.ok_enc Purse.all_get Purse.all_set Purse.st_get Purse.st_set Purse.n_get Purse.n_set Purse.account_get Purse.account_set Purse.token_get Purse.token_set Purse.amount_get Purse.amount_set Plan.length_enc Plan.ok_enc Plan.all_get Plan.all_set Plan.purse_get Plan.purse_set Plan.nonce_get Plan.nonce_set Plan.gasUsed_get Plan.gasUsed_set Plan.fees_get Plan.fees_set Plan.hasSupply_get Plan.hasSupply_set Plan.token_get Plan.token_set Plan.supply_get Plan.supply_set Plan.flowAt_get Plan.flowAt_set Plan.flow_get Plan.flow_set Plan.receipt_get Plan.receipt_set Plan.purse_st_get Plan.purse_st_set Plan.purse_n_get Plan.purse_n_set Plan.purse_account_get Plan.purse_account_set Plan.purse_token_get Plan.purse_token_set Plan.purse_amount_get Plan.purse_amount_set Plan.receipt_code_get Plan.receipt_code_set Plan.receipt_hash_get Plan.receipt_hash_set Plan.receipt_index_get Plan.receipt_index_set Plan.receipt_gas_get Plan.receipt_gas_set Plan.receipt_fee_get Plan.receipt_fee_set Plan.receipt_hasSent_get Plan.receipt_hasSent_set Plan.receipt_sent_get Plan.receipt_sent_set Plan.receipt_hasTook_get Plan.receipt_hasTook_set Plan.receipt_took_get Plan.receipt_took_set Plan.receipt_sent_kind_get Plan.receipt_sent_kind_set Plan.receipt_sent_from__get Plan.receipt_sent_from__set Plan.receipt_sent_to__get Plan.receipt_sent_to__set Plan.receipt_sent_sender_get Plan.receipt_sent_sender_set Plan.receipt_sent_receiver_get Plan.receipt_sent_receiver_set Plan.receipt_sent_seq_get Plan.receipt_sent_seq_set Plan.receipt_sent_token_get Plan.receipt_sent_token_set Plan.receipt_sent_amount_get Plan.receipt_sent_amount_set Plan.receipt_sent_size_get Plan.receipt_sent_size_set Plan.receipt_sent_payload_get Plan.receipt_sent_payload_set Plan.receipt_took_kind_get Plan.receipt_took_kind_set Plan.receipt_took_from__get Plan.receipt_took_from__set Plan.receipt_took_to__get Plan.receipt_took_to__set Plan.receipt_took_sender_get Plan.receipt_took_sender_set Plan.receipt_took_receiver_get Plan.receipt_took_receiver_set Plan.receipt_took_seq_get Plan.receipt_took_seq_set Plan.receipt_took_token_get Plan.receipt_took_token_set Plan.receipt_took_amount_get Plan.receipt_took_amount_set Plan.receipt_took_size_get Plan.receipt_took_size_set Plan.receipt_took_payload_get Plan.receipt_took_payload_set Move.length_enc Move.ok_enc Move.all_get Move.all_set Move.account_get Move.account_set Move.token_get Move.token_set Move.down_get Move.down_set Move.amount_get Move.amount_set Books.length_enc Books.ok_enc Books.all_get Books.all_set Books.sums_get Books.sums_set Books.stored_get Books.stored_set Books.marks_get Books.marks_set Pair.length_enc Pair.ok_enc Pair.all_get Pair.all_set Pair.key_get Pair.key_set Pair.value_get Pair.value_set
attribute [local go_sem] size_put size_ext blk_put free_put blk_alloc free_alloc blk_drew free_drew blk_ext free_ext lookOr_some putOr_some segAt_some cellAt_some storeIn_some put_put put_alloc_new length_arr ok_arr_u8 ok_arr_u32 ok_arr_u64 ok_arr_i64 ok_arr_sl cellsV_agg cellsV_int cellsV_bool cellsV_string cellsV_pointer cellsV_slice cellsV_sl ok_int ok_bool ok_string ok_pointer ok_slice ok_sl toList_arr seg_arr set_arr nth_splice nth_splice0 seg_splice seg_splice0 splice_splice splice_splice0 length_splice_if
attribute [local go_sem ↓] execOp_box
attribute [local go_sem] box_run nth_arr_u8 put_arr_u8 blk_drewN free_drewN put_drewN blk_raw free_raw
attribute [local go_sem ↓] execOp_build execOp_bslice execOp_slice
attribute [local go_sem] x64_wrap x64_inc
/-- How a statement that is cut around ends. -/
structure CutEnd (N : Nat) (I : (Nat → Value) → World → Prop) (a' : Act) (w' : World) : Prop where
  size : a'.tmps.size = N
  defers : a'.defers = []
  rel : I (slots a'.tmps) w'
theorem wp_cut_f {P : Program} {c : Code} {K : Act → World → Prop} {Q : Exit → Act → World → Prop} {a : Act} {w : World} (N : Nat) (I : (Nat → Value) → World → Prop) (first : c.wp P (Exit.then (CutEnd N I) Q) a w) (rest : ∀ f w', I f w' → K { tmps := frameN N f, defers := [] } w') : c.wp P (Exit.then K Q) a w := by
  refine Code.wp_mono ?_ first
  intro e a' w' hq
  cases e with
  | normal =>
    obtain ⟨t, d⟩ := a'
    obtain ⟨h1, h2, h3⟩ := hq
    have h4 := rest _ _ h3
    simp only at h1 h2 h4
    rw [frameN_slots t N h1] at h4
    subst h2
    exact h4
  | _ => exact hq
section
variable {O : Own} {V W : World} {bl bp bx : Nat} {L L' : PLg} {E X : List Value}
theorem EnI.call0 {f : FuncId} {args : Array Value} (h : EnI O W bl bp bx E X L V) (hc : ∀ O', LedA O' V bl L → Calls Tryz.prog f args V (LgPost O' V bl L')) : Calls Tryz.prog f args V (fun e V' => e = .returned (.tuple #[]) ∧ EnI O W bl bp bx E X L' V') := h.call 0 hc
theorem EnI.call1 {f : FuncId} {args : Array Value} (h : EnI O W bl bp bx E X L V) (hc : ∀ O', LedA O' V.drew bl L → Calls Tryz.prog f args V.drew (LgPost O' V.drew bl L')) : Calls Tryz.prog f args V.drew (fun e V' => e = .returned (.tuple #[]) ∧ EnI O W bl bp bx E X L' V') := h.call 1 hc
theorem EnI.flush {P : Plan} {l : List PE} (h : EnI O W bl bp bx P.enc X L V) (hp : P.purse = pOf (some ⟨bl, 1, none⟩) l) (hl : l.length ≤ 4) (ha : ∀ e ∈ l, e.a.toNat < 64) (hm : L.st.now.length + 4 < 1000000000) : Calls Tryz.prog 224 #[.pointer (some ⟨bp, 0, none⟩)] V (fun e V' => e = .returned (.tuple #[]) ∧ ∃ n, EnI O W bl bp bx ({ P with purse := { P.purse with n := n } } : Plan).enc X { L with st := flF L.st l } V') := by
  obtain ⟨O1, ⟨sn, ss, bn, ms, mt, mr, hL⟩, h2, h3, h4⟩ := h.led
  refine (flush_any O1 V bp bl _ P.enc L.st l (by rw [← hp, Plan.purse_set]; exact h.hp) h.hf h3 (by rw [Plan.length_enc]; omega) hl ⟨sn, ss, hL.st⟩ ha hm).mono ?_
  rintro e V' ⟨rfl, ⟨O2, g1, g2, g3⟩, n, g4, g5⟩
  rw [Plan.purse_set] at g4
  have nx : ¬ flP bl (O1 bx) := by rw [h4]; exact flP_no bl
  refine ⟨rfl, n, by rw [g4, hp], g5, g2.blk h.hx nx, O2, hL.ofFl g1 g2, h2.trans (g2.mono (fun l => flP_lgP)), g3, (g2.lab h.hx nx).trans h4⟩
end
set_option maxRecDepth 100000 in
theorem frame154 (f : Nat → Value) : frameN 154 f = #[f 0, f 1, f 2, f 3, f 4, f 5, f 6, f 7, f 8, f 9, f 10, f 11, f 12, f 13, f 14, f 15, f 16, f 17, f 18, f 19, f 20, f 21, f 22, f 23, f 24, f 25, f 26, f 27, f 28, f 29, f 30, f 31, f 32, f 33, f 34, f 35, f 36, f 37, f 38, f 39, f 40, f 41, f 42, f 43, f 44, f 45, f 46, f 47, f 48, f 49, f 50, f 51, f 52, f 53, f 54, f 55, f 56, f 57, f 58, f 59, f 60, f 61, f 62, f 63, f 64, f 65, f 66, f 67, f 68, f 69, f 70, f 71, f 72, f 73, f 74, f 75, f 76, f 77, f 78, f 79, f 80, f 81, f 82, f 83, f 84, f 85, f 86, f 87, f 88, f 89, f 90, f 91, f 92, f 93, f 94, f 95, f 96, f 97, f 98, f 99, f 100, f 101, f 102, f 103, f 104, f 105, f 106, f 107, f 108, f 109, f 110, f 111, f 112, f 113, f 114, f 115, f 116, f 117, f 118, f 119, f 120, f 121, f 122, f 123, f 124, f 125, f 126, f 127, f 128, f 129, f 130, f 131, f 132, f 133, f 134, f 135, f 136, f 137, f 138, f 139, f 140, f 141, f 142, f 143, f 144, f 145, f 146, f 147, f 148, f 149, f 150, f 151, f 152, f 153] := by kernel_rfl
/-- What enact leaves. -/
def EnPost (O : Own) (W : World) (bl bp : Nat) (P : Plan) (L' : PLg) (e : Ending) (V : World) : Prop := e = .returned (.tuple #[]) ∧ ∃ n bx X, EnI O W bl bp bx ({ P with purse := { P.purse with n := n } } : Plan).enc X L' V
structure EnR (L : PLg) (x : Tx) (P : Plan) (l : List PE) : Prop where
  pl : l.length ≤ 4
  pa : ∀ e ∈ l, e.a.toNat < 64
  hx : x.from_.toNat < 64
  fl : P.flowAt.toNat < 72057594037927936
  st : ¬ (P.receipt.hasSent = true ∧ P.receipt.hasTook = true)
  sl : P.receipt.hasSent = true → (ldF (enS L.st x P l).now (keyC 4)).toNat ≤ L.sent.length ∧ L.sent.length ≤ 1000000000
  tl : P.receipt.hasTook = true → (ldF (enS L.st x P l).now (keyC 5)).toNat ≤ L.took.length ∧ L.took.length ≤ 1000000000 ∧ P.receipt.took.seq.toNat < 281474976710656
  nl : L.st.now.length + 20 < 1000000000
set_option maxRecDepth 20000 in
set_option maxHeartbeats 8000000 in
theorem enact_any (O : Own) (W : World) (bl bp : Nat) (L : PLg) (x : Tx) (P : Plan) (l : List PE) (hL : LedA O W bl L) (hp : blk W bp = some P.enc) (hf : free W bp = true) (hO : O bp = .a bl 8) (hpu : P.purse = pOf (some ⟨bl, 1, none⟩) l) (hR : EnR L x P l) : Calls Tryz.prog 185 #[.pointer (some ⟨bl, 0, none⟩), .agg x.enc.toArray, .pointer (some ⟨bp, 0, none⟩)] W (EnPost O W bl bp P (enactF L x P l)) := by
  obtain ⟨hl, ha, hxf, hfl, hst, hsl, htl, hnl⟩ := hR
  have b0 := flF_len l L.st
  have b1 := enS0_len L.st x P l
  have b2 := enS1_len (enS0 L.st x P l) P
  have b3 := enS2_len (enS1 (enS0 L.st x P l) P) P
  obtain ⟨Q, hQ⟩ : ∃ Q : Ending → World → Prop, Q = EnPost O W bl bp P (enactF L x P l) := ⟨_, rfl⟩
  rw [← hQ]
  have HQ := hid_of hQ
  obtain ⟨V0, hV0⟩ : ∃ V0 : World, V0 = W.alloc (.cells x.enc.toArray 40) := ⟨_, rfl⟩
  have hx0 : W.Extends V0 := by rw [hV0]; exact extends_alloc (ext_Ext (Ext.refl _)) _
  have hltp := blk_lt hp
  have hI0 : EnI O W bl bp W.heap.size P.enc x.enc L V0 := ⟨(hx0.blk hltp).trans hp, (free_of_heap (hx0.block bp hltp)).trans hf, by rw [hV0, blk_alloc, if_pos rfl], _, hL.ext hx0, (Lg.refl _ _ _).ext hx0, (lab_lt hltp).trans hO, lab_ge (Nat.le_refl _)⟩
  have hfl0 := hI0.flush hpu hl ha (by omega)
  have HV0 := hid_of hV0
  have HB : Hid ((flF L.st l).now.length < 1000000000 ∧ (enS0 L.st x P l).now.length + 1 < 1000000000 ∧ (enS1 (enS0 L.st x P l) P).now.length + 3 < 1000000000 ∧ (enS L.st x P l).now.length + 3 < 1000000000) := ⟨by omega, by omega, by omega, by unfold enS; omega⟩
  have HST := hid_of hst
  have HSL := hid_of hsl
  have HTL := hid_of htl
  clear hL hp hf hO hpu hx0 hV0 hltp hI0 hQ b0 b1 b2 b3 hnl ha hl hst hsl htl
  go_enter Tryz.func185, Tryz.ntmps185
  go_wp2_with fail
  rw [← HV0.out]
  refine hfl0.mono ?_
  clear hfl0
  rintro e V1 ⟨rfl, n, hV1⟩
  dsimp only
  obtain ⟨E, hE⟩ : ∃ E, E = ({ P with purse := { P.purse with n := n } } : Plan).enc := ⟨_, rfl⟩
  rw [← hE] at hV1
  have e14 : nth E 14 = some (.int .u64 (w64 P.nonce)) := by rw [hE]; exact Plan.nonce_get _
  have e15 : nth E 15 = some (.int .u64 (w64 P.gasUsed)) := by rw [hE]; exact Plan.gasUsed_get _
  have e16 : nth E 16 = some (.int .u64 (w64 P.fees)) := by rw [hE]; exact Plan.fees_get _
  have e17 : nth E 17 = some (.bool P.hasSupply) := by rw [hE]; exact Plan.hasSupply_get _
  have e18 : nth E 18 = some (.int .u8 (w8 P.token)) := by rw [hE]; exact Plan.token_get _
  have e19 : nth E 19 = some (.int .u64 (w64 P.supply)) := by rw [hE]; exact Plan.supply_get _
  have e20 : nth E 20 = some (.int .u64 (w64 P.flowAt)) := by rw [hE]; exact Plan.flowAt_get _
  have e21 : nth E 21 = some (.int .u64 (w64 P.flow)) := by rw [hE]; exact Plan.flow_get _
  have e55 : nth E 55 = some (.int .u64 (w64 P.receipt.index)) := by rw [hE]; exact Plan.receipt_index_get _
  have e58 : nth E 58 = some (.bool P.receipt.hasSent) := by rw [hE]; exact Plan.receipt_hasSent_get _
  have s59 : seg E 59 41 = P.receipt.sent.enc := by rw [hE]; exact Plan.receipt_sent_get _
  have e100 : nth E 100 = some (.bool P.receipt.hasTook) := by rw [hE]; exact Plan.receipt_hasTook_get _
  have s101 : seg E 101 41 = P.receipt.took.enc := by rw [hE]; exact Plan.receipt_took_get _
  have e102 : nth E 102 = some (.int .u8 (w8 P.receipt.took.from_)) := by rw [hE]; exact Plan.receipt_took_from__get _
  have e106 : nth E 106 = some (.int .u64 (w64 P.receipt.took.seq)) := by rw [hE]; exact Plan.receipt_took_seq_get _
  have gE : E.length = 142 := by rw [hE]; exact Plan.length_enc _
  have HE := hid_of hE
  clear hE HV0
  have hq2 : Calls Tryz.prog 177 #[.pointer (some ⟨bl, 1, none⟩), .int .u8 (w8 x.from_), .int .u64 (w64 P.nonce)] V1.drew (fun e V' => e = .returned (.tuple #[]) ∧ EnI O W bl bp W.heap.size E x.enc { L with st := enS0 L.st x P l } V') := hV1.call1 (fun O' hO => lsetNonce O' _ bl _ hO x.from_ hxf P.nonce HB.out.1)
  go_upto_region 2 with fail
  repeat go_step
  refine wp_region_F 9 (fun W' => blk W' bp = some E ∧ blk W' W.heap.size = some x.enc) (by kernel_rfl) ⟨hV1.hp, hV1.hx⟩ (fun hHeld => ?_)
  refine wpAnyF_take (i := 0) (oi := ⟨_, _, _, _, _, _⟩) (v := ?_) rfl (by kernel_rfl) (by kernel_rfl) (by kernel_rfl) (by kernel_rfl) (by kernel_rfl) (fun _ _ _ h => h) (Or.inl ⟨by rfl, ?_⟩) (by assumption) ?_
  rotate_left 1
  · intro W' hSw
    obtain ⟨hS1, hS2⟩ := hSw
    go_simp
    try with_reducible rfl
  try simp only [Act.put, List.setIfInBounds_toArray, List.set_cons_zero, List.set_cons_succ]
  refine wpAnyF_take (i := 1) (oi := ⟨_, _, _, _, _, _⟩) (v := ?_) rfl (by kernel_rfl) (by kernel_rfl) (by kernel_rfl) (by kernel_rfl) (by kernel_rfl) (fun _ _ _ h => h) (Or.inl ⟨by rfl, ?_⟩) (by assumption) ?_
  rotate_left 1
  · intro W' hSw
    obtain ⟨hS1, hS2⟩ := hSw
    go_simp
    try with_reducible rfl
  try simp only [Act.put, List.setIfInBounds_toArray, List.set_cons_zero, List.set_cons_succ]
  refine wpAnyF_take (i := 2) (oi := ⟨_, _, _, _, _, _⟩) (v := ?_) rfl (by kernel_rfl) (by kernel_rfl) (by kernel_rfl) (by kernel_rfl) (by kernel_rfl) (fun _ _ _ h => h) (Or.inl ⟨by rfl, ?_⟩) (by assumption) ?_
  rotate_left 1
  · intro W' hSw
    obtain ⟨hS1, hS2⟩ := hSw
    go_simp
    try with_reducible rfl
  try simp only [Act.put, List.setIfInBounds_toArray, List.set_cons_zero, List.set_cons_succ]
  refine wpAnyF_take (i := 3) (oi := ⟨_, _, _, _, _, _⟩) (v := ?_) rfl (by kernel_rfl) (by kernel_rfl) (by kernel_rfl) (by kernel_rfl) (by kernel_rfl) (fun _ _ _ h => h) (Or.inl ⟨by rfl, ?_⟩) (by assumption) ?_
  rotate_left 1
  · intro W' hSw
    obtain ⟨hS1, hS2⟩ := hSw
    go_simp
    try with_reducible rfl
  try simp only [Act.put, List.setIfInBounds_toArray, List.set_cons_zero, List.set_cons_succ]
  refine wpAnyF_take (i := 4) (oi := ⟨_, _, _, _, _, _⟩) (v := ?_) rfl (by kernel_rfl) (by kernel_rfl) (by kernel_rfl) (by kernel_rfl) (by kernel_rfl) (fun _ _ _ h => h) (Or.inl ⟨by rfl, ?_⟩) (by assumption) ?_
  rotate_left 1
  · intro W' hSw
    obtain ⟨hS1, hS2⟩ := hSw
    go_simp
    try with_reducible rfl
  try simp only [Act.put, List.setIfInBounds_toArray, List.set_cons_zero, List.set_cons_succ]
  refine wpAnyF_take (i := 5) (oi := ⟨_, _, _, _, _, _⟩) (v := ?_) rfl (by kernel_rfl) (by kernel_rfl) (by kernel_rfl) (by kernel_rfl) (by kernel_rfl) (fun _ _ _ h => h) (Or.inl ⟨by rfl, ?_⟩) (by assumption) ?_
  rotate_left 1
  · intro W' hSw
    obtain ⟨hS1, hS2⟩ := hSw
    go_simp
    try with_reducible rfl
  try simp only [Act.put, List.setIfInBounds_toArray, List.set_cons_zero, List.set_cons_succ]
  refine wpAnyF_take (i := 6) (oi := ⟨_, _, _, _, _, _⟩) (v := ?_) rfl (by kernel_rfl) (by kernel_rfl) (by kernel_rfl) (by kernel_rfl) (by kernel_rfl) (fun _ _ _ h => h) (Or.inl ⟨by rfl, ?_⟩) (by assumption) ?_
  rotate_left 1
  · intro W' hSw
    obtain ⟨hS1, hS2⟩ := hSw
    go_simp
    try with_reducible rfl
  try simp only [Act.put, List.setIfInBounds_toArray, List.set_cons_zero, List.set_cons_succ]
  refine wpAnyF_take (i := 7) (oi := ⟨_, _, _, _, _, _⟩) (v := ?_) rfl (by kernel_rfl) (by kernel_rfl) (by kernel_rfl) (by kernel_rfl) (by kernel_rfl) (fun _ _ _ h => h) (Or.inl ⟨by rfl, ?_⟩) (by assumption) ?_
  rotate_left 1
  · intro W' hSw
    obtain ⟨hS1, hS2⟩ := hSw
    go_simp
    try with_reducible rfl
  try simp only [Act.put, List.setIfInBounds_toArray, List.set_cons_zero, List.set_cons_succ]
  refine wpAnyF_take (i := 8) (oi := ⟨_, _, _, _, _, _⟩) (v := ?_) rfl (by kernel_rfl) (by kernel_rfl) (by kernel_rfl) (by kernel_rfl) (by kernel_rfl) (fun _ _ _ h => h) (Or.inl ⟨by rfl, ?_⟩) (by assumption) ?_
  rotate_left 1
  · intro W' hSw
    obtain ⟨hS1, hS2⟩ := hSw
    go_simp
    try with_reducible rfl
  try simp only [Act.put, List.setIfInBounds_toArray, List.set_cons_zero, List.set_cons_succ]
  refine wpAnyF_last (o := ⟨_, _, _, _, _, _⟩) (by kernel_rfl) rfl (fun K' hK => ?_)
  go_simp
  refine hq2.mono ?_
  clear hq2 hV1
  rintro e V2 ⟨rfl, hV2⟩
  dsimp only
  refine hK.out _ _ ?_
  clear hK K'
  try simp only [Act.put, List.setIfInBounds_toArray, List.set_cons_zero, List.set_cons_succ]
  refine wpAnyF_done (by kernel_rfl) ?_ _
  clear hHeld
  have kp2 : blk V2 bp = some E := hV2.hp
  go_upto_if 25 with fail
  obtain ⟨I1, hI1⟩ : ∃ I : (Nat → Value) → World → Prop, I = (fun f V' => f 0 = .pointer (some ⟨bl, 0, none⟩) ∧ f 2 = .pointer (some ⟨bp, 0, none⟩) ∧ EnI O W bl bp W.heap.size E x.enc { L with st := enS1 (enS0 L.st x P l) P } V') := ⟨_, rfl⟩
  have HI1 := hid_of hI1
  clear hI1
  refine wp_cut_f 154 I1 ?_ ?_
  · cases hh : P.hasSupply with
    | false =>
      have HI : Hid (EnI O W bl bp W.heap.size E x.enc { L with st := enS1 (enS0 L.st x P l) P } V2) := by
        show EnI _ _ _ _ _ _ _ _ _
        unfold enS1
        rw [hh, if_neg (by simp)]
        exact hV2
      clear hV2 e17
      go_wp2_with fail
      refine ⟨rfl, rfl, ?_⟩
      rw [HI1.out]
      exact ⟨rfl, rfl, HI.out⟩
    | true =>
      have HS1 : Hid (enS1 (enS0 L.st x P l) P = { enS0 L.st x P l with now := saveF (saveF (enS0 L.st x P l).now (keyS P.token) P.supply) (keyC P.flowAt) P.flow }) := by
        show enS1 _ _ = _
        unfold enS1
        rw [hh, if_pos rfl]
      generalize enS0 L.st x P l = S1 at hV2 HB HI1 HS1
      have hq4 := hV2.call1 (fun O' hO => lsetSupply O' _ bl _ hO P.token P.supply (by have := HB.out.2.1; dsimp only; omega))
      dsimp only at hq4
      rw [hh] at e17
      clear hh
      go_wp2_with fail
      go_upto_region 4 with fail
      repeat go_step
      refine wp_region_F 11 (fun W' => blk W' bp = some E) (by kernel_rfl) hV2.hp (fun hHeld => ?_)
      refine wpAnyF_take (i := 0) (oi := ⟨_, _, _, _, _, _⟩) (v := ?_) rfl (by kernel_rfl) (by kernel_rfl) (by kernel_rfl) (by kernel_rfl) (by kernel_rfl) (fun _ _ _ h => h) (Or.inl ⟨by rfl, ?_⟩) (by assumption) ?_
      rotate_left 1
      · intro W' hSw
        go_simp
        try with_reducible rfl
      try simp only [Act.put, List.setIfInBounds_toArray, List.set_cons_zero, List.set_cons_succ]
      refine wpAnyF_take (i := 1) (oi := ⟨_, _, _, _, _, _⟩) (v := ?_) rfl (by kernel_rfl) (by kernel_rfl) (by kernel_rfl) (by kernel_rfl) (by kernel_rfl) (fun _ _ _ h => h) (Or.inl ⟨by rfl, ?_⟩) (by assumption) ?_
      rotate_left 1
      · intro W' hSw
        go_simp
        try with_reducible rfl
      try simp only [Act.put, List.setIfInBounds_toArray, List.set_cons_zero, List.set_cons_succ]
      refine wpAnyF_take (i := 2) (oi := ⟨_, _, _, _, _, _⟩) (v := ?_) rfl (by kernel_rfl) (by kernel_rfl) (by kernel_rfl) (by kernel_rfl) (by kernel_rfl) (fun _ _ _ h => h) (Or.inl ⟨by rfl, ?_⟩) (by assumption) ?_
      rotate_left 1
      · intro W' hSw
        go_simp
        try with_reducible rfl
      try simp only [Act.put, List.setIfInBounds_toArray, List.set_cons_zero, List.set_cons_succ]
      refine wpAnyF_take (i := 3) (oi := ⟨_, _, _, _, _, _⟩) (v := ?_) rfl (by kernel_rfl) (by kernel_rfl) (by kernel_rfl) (by kernel_rfl) (by kernel_rfl) (fun _ _ _ h => h) (Or.inl ⟨by rfl, ?_⟩) (by assumption) ?_
      rotate_left 1
      · intro W' hSw
        go_simp
        try with_reducible rfl
      try simp only [Act.put, List.setIfInBounds_toArray, List.set_cons_zero, List.set_cons_succ]
      refine wpAnyF_take (i := 4) (oi := ⟨_, _, _, _, _, _⟩) (v := ?_) rfl (by kernel_rfl) (by kernel_rfl) (by kernel_rfl) (by kernel_rfl) (by kernel_rfl) (fun _ _ _ h => h) (Or.inl ⟨by rfl, ?_⟩) (by assumption) ?_
      rotate_left 1
      · intro W' hSw
        go_simp
        try with_reducible rfl
      try simp only [Act.put, List.setIfInBounds_toArray, List.set_cons_zero, List.set_cons_succ]
      refine wpAnyF_take (i := 5) (oi := ⟨_, _, _, _, _, _⟩) (v := ?_) rfl (by kernel_rfl) (by kernel_rfl) (by kernel_rfl) (by kernel_rfl) (by kernel_rfl) (fun _ _ _ h => h) (Or.inl ⟨by rfl, ?_⟩) (by assumption) ?_
      rotate_left 1
      · intro W' hSw
        go_simp
        try with_reducible rfl
      try simp only [Act.put, List.setIfInBounds_toArray, List.set_cons_zero, List.set_cons_succ]
      refine wpAnyF_take (i := 6) (oi := ⟨_, _, _, _, _, _⟩) (v := ?_) rfl (by kernel_rfl) (by kernel_rfl) (by kernel_rfl) (by kernel_rfl) (by kernel_rfl) (fun _ _ _ h => h) (Or.inl ⟨by rfl, ?_⟩) (by assumption) ?_
      rotate_left 1
      · intro W' hSw
        go_simp
        try with_reducible rfl
      try simp only [Act.put, List.setIfInBounds_toArray, List.set_cons_zero, List.set_cons_succ]
      refine wpAnyF_take (i := 7) (oi := ⟨_, _, _, _, _, _⟩) (v := ?_) rfl (by kernel_rfl) (by kernel_rfl) (by kernel_rfl) (by kernel_rfl) (by kernel_rfl) (fun _ _ _ h => h) (Or.inl ⟨by rfl, ?_⟩) (by assumption) ?_
      rotate_left 1
      · intro W' hSw
        go_simp
        try with_reducible rfl
      try simp only [Act.put, List.setIfInBounds_toArray, List.set_cons_zero, List.set_cons_succ]
      refine wpAnyF_take (i := 8) (oi := ⟨_, _, _, _, _, _⟩) (v := ?_) rfl (by kernel_rfl) (by kernel_rfl) (by kernel_rfl) (by kernel_rfl) (by kernel_rfl) (fun _ _ _ h => h) (Or.inl ⟨by rfl, ?_⟩) (by assumption) ?_
      rotate_left 1
      · intro W' hSw
        go_simp
        try with_reducible rfl
      try simp only [Act.put, List.setIfInBounds_toArray, List.set_cons_zero, List.set_cons_succ]
      refine wpAnyF_take (i := 9) (oi := ⟨_, _, _, _, _, _⟩) (v := ?_) rfl (by kernel_rfl) (by kernel_rfl) (by kernel_rfl) (by kernel_rfl) (by kernel_rfl) (fun _ _ _ h => h) (Or.inl ⟨by rfl, ?_⟩) (by assumption) ?_
      rotate_left 1
      · intro W' hSw
        go_simp
        try with_reducible rfl
      try simp only [Act.put, List.setIfInBounds_toArray, List.set_cons_zero, List.set_cons_succ]
      refine wpAnyF_take (i := 10) (oi := ⟨_, _, _, _, _, _⟩) (v := ?_) rfl (by kernel_rfl) (by kernel_rfl) (by kernel_rfl) (by kernel_rfl) (by kernel_rfl) (fun _ _ _ h => h) (Or.inl ⟨by rfl, ?_⟩) (by assumption) ?_
      rotate_left 1
      · intro W' hSw
        go_simp
        try with_reducible rfl
      try simp only [Act.put, List.setIfInBounds_toArray, List.set_cons_zero, List.set_cons_succ]
      refine wpAnyF_last (o := ⟨_, _, _, _, _, _⟩) (by kernel_rfl) rfl (fun K' hK => ?_)
      go_simp
      refine hq4.mono ?_
      clear hq4
      rintro e V3 ⟨rfl, hV3⟩
      dsimp only
      refine hK.out _ _ ?_
      clear hK K'
      try simp only [Act.put, List.setIfInBounds_toArray, List.set_cons_zero, List.set_cons_succ]
      refine wpAnyF_done (by kernel_rfl) ?_ _
      clear hHeld hV2 kp2
      have hb3 := saveF_len S1.now (keyS P.token) P.supply
      have hq5 := hV3.call1 (fun O' hO => lsetCounter O' _ bl _ hO P.flowAt hfl P.flow (by have := HB.out.2.1; dsimp only; omega))
      dsimp only at hq5
      clear hb3
      go_upto_region 5 with fail
      repeat go_step
      refine wp_region_F 11 (fun W' => blk W' bp = some E) (by kernel_rfl) hV3.hp (fun hHeld => ?_)
      refine wpAnyF_take (i := 0) (oi := ⟨_, _, _, _, _, _⟩) (v := ?_) rfl (by kernel_rfl) (by kernel_rfl) (by kernel_rfl) (by kernel_rfl) (by kernel_rfl) (fun _ _ _ h => h) (Or.inl ⟨by rfl, ?_⟩) (by assumption) ?_
      rotate_left 1
      · intro W' hSw
        go_simp
        try with_reducible rfl
      try simp only [Act.put, List.setIfInBounds_toArray, List.set_cons_zero, List.set_cons_succ]
      refine wpAnyF_take (i := 1) (oi := ⟨_, _, _, _, _, _⟩) (v := ?_) rfl (by kernel_rfl) (by kernel_rfl) (by kernel_rfl) (by kernel_rfl) (by kernel_rfl) (fun _ _ _ h => h) (Or.inl ⟨by rfl, ?_⟩) (by assumption) ?_
      rotate_left 1
      · intro W' hSw
        go_simp
        try with_reducible rfl
      try simp only [Act.put, List.setIfInBounds_toArray, List.set_cons_zero, List.set_cons_succ]
      refine wpAnyF_take (i := 2) (oi := ⟨_, _, _, _, _, _⟩) (v := ?_) rfl (by kernel_rfl) (by kernel_rfl) (by kernel_rfl) (by kernel_rfl) (by kernel_rfl) (fun _ _ _ h => h) (Or.inl ⟨by rfl, ?_⟩) (by assumption) ?_
      rotate_left 1
      · intro W' hSw
        go_simp
        try with_reducible rfl
      try simp only [Act.put, List.setIfInBounds_toArray, List.set_cons_zero, List.set_cons_succ]
      refine wpAnyF_take (i := 3) (oi := ⟨_, _, _, _, _, _⟩) (v := ?_) rfl (by kernel_rfl) (by kernel_rfl) (by kernel_rfl) (by kernel_rfl) (by kernel_rfl) (fun _ _ _ h => h) (Or.inl ⟨by rfl, ?_⟩) (by assumption) ?_
      rotate_left 1
      · intro W' hSw
        go_simp
        try with_reducible rfl
      try simp only [Act.put, List.setIfInBounds_toArray, List.set_cons_zero, List.set_cons_succ]
      refine wpAnyF_take (i := 4) (oi := ⟨_, _, _, _, _, _⟩) (v := ?_) rfl (by kernel_rfl) (by kernel_rfl) (by kernel_rfl) (by kernel_rfl) (by kernel_rfl) (fun _ _ _ h => h) (Or.inl ⟨by rfl, ?_⟩) (by assumption) ?_
      rotate_left 1
      · intro W' hSw
        go_simp
        try with_reducible rfl
      try simp only [Act.put, List.setIfInBounds_toArray, List.set_cons_zero, List.set_cons_succ]
      refine wpAnyF_take (i := 5) (oi := ⟨_, _, _, _, _, _⟩) (v := ?_) rfl (by kernel_rfl) (by kernel_rfl) (by kernel_rfl) (by kernel_rfl) (by kernel_rfl) (fun _ _ _ h => h) (Or.inl ⟨by rfl, ?_⟩) (by assumption) ?_
      rotate_left 1
      · intro W' hSw
        go_simp
        try with_reducible rfl
      try simp only [Act.put, List.setIfInBounds_toArray, List.set_cons_zero, List.set_cons_succ]
      refine wpAnyF_take (i := 6) (oi := ⟨_, _, _, _, _, _⟩) (v := ?_) rfl (by kernel_rfl) (by kernel_rfl) (by kernel_rfl) (by kernel_rfl) (by kernel_rfl) (fun _ _ _ h => h) (Or.inl ⟨by rfl, ?_⟩) (by assumption) ?_
      rotate_left 1
      · intro W' hSw
        go_simp
        try with_reducible rfl
      try simp only [Act.put, List.setIfInBounds_toArray, List.set_cons_zero, List.set_cons_succ]
      refine wpAnyF_take (i := 7) (oi := ⟨_, _, _, _, _, _⟩) (v := ?_) rfl (by kernel_rfl) (by kernel_rfl) (by kernel_rfl) (by kernel_rfl) (by kernel_rfl) (fun _ _ _ h => h) (Or.inl ⟨by rfl, ?_⟩) (by assumption) ?_
      rotate_left 1
      · intro W' hSw
        go_simp
        try with_reducible rfl
      try simp only [Act.put, List.setIfInBounds_toArray, List.set_cons_zero, List.set_cons_succ]
      refine wpAnyF_take (i := 8) (oi := ⟨_, _, _, _, _, _⟩) (v := ?_) rfl (by kernel_rfl) (by kernel_rfl) (by kernel_rfl) (by kernel_rfl) (by kernel_rfl) (fun _ _ _ h => h) (Or.inl ⟨by rfl, ?_⟩) (by assumption) ?_
      rotate_left 1
      · intro W' hSw
        go_simp
        try with_reducible rfl
      try simp only [Act.put, List.setIfInBounds_toArray, List.set_cons_zero, List.set_cons_succ]
      refine wpAnyF_take (i := 9) (oi := ⟨_, _, _, _, _, _⟩) (v := ?_) rfl (by kernel_rfl) (by kernel_rfl) (by kernel_rfl) (by kernel_rfl) (by kernel_rfl) (fun _ _ _ h => h) (Or.inl ⟨by rfl, ?_⟩) (by assumption) ?_
      rotate_left 1
      · intro W' hSw
        go_simp
        try with_reducible rfl
      try simp only [Act.put, List.setIfInBounds_toArray, List.set_cons_zero, List.set_cons_succ]
      refine wpAnyF_take (i := 10) (oi := ⟨_, _, _, _, _, _⟩) (v := ?_) rfl (by kernel_rfl) (by kernel_rfl) (by kernel_rfl) (by kernel_rfl) (by kernel_rfl) (fun _ _ _ h => h) (Or.inl ⟨by rfl, ?_⟩) (by assumption) ?_
      rotate_left 1
      · intro W' hSw
        go_simp
        try with_reducible rfl
      try simp only [Act.put, List.setIfInBounds_toArray, List.set_cons_zero, List.set_cons_succ]
      refine wpAnyF_last (o := ⟨_, _, _, _, _, _⟩) (by kernel_rfl) rfl (fun K' hK => ?_)
      go_simp
      refine hq5.mono ?_
      clear hq5
      rintro e V4 ⟨rfl, hV4⟩
      dsimp only
      refine hK.out _ _ ?_
      clear hK K'
      try simp only [Act.put, List.setIfInBounds_toArray, List.set_cons_zero, List.set_cons_succ]
      refine wpAnyF_done (by kernel_rfl) ?_ _
      clear hHeld hV3
      have HI : Hid (EnI O W bl bp W.heap.size E x.enc { L with st := enS1 S1 P } V4) := by
        show EnI _ _ _ _ _ _ _ _ _
        rw [HS1.out]
        exact hV4
      clear hV4
      go_wp2_with fail
      refine ⟨rfl, rfl, ?_⟩
      rw [HI1.out]
      exact ⟨rfl, rfl, HI.out⟩
  clear kp2 hV2 e14 e17 e18 e19 e20 e21 hfl hxf
  intro F V2' hI
  rw [HI1.out] at hI
  obtain ⟨f0, f2, hV2⟩ := hI
  rw [frame154, f0, f2]
  clear f0 f2 HI1 V2
  have H5 : Hid (enS L.st x P l = enS2 (enS1 (enS0 L.st x P l) P) P) := rfl
  generalize enS1 (enS0 L.st x P l) P = S2 at hV2 HB H5
  have bS := HB.out.2.2.1
  have b6 := saveF_len S2.now (keyC 1) P.gasUsed
  have b7 := saveF_len (saveF S2.now (keyC 1) P.gasUsed) (keyC 2) P.fees
  have hq6 := hV2.call1 (fun O' hO => lsetCounter O' _ bl _ hO 1 (by decide) P.gasUsed (by dsimp only; omega))
  dsimp only at hq6
  go_upto_region 6 with fail
  repeat go_step
  refine wp_region_F 7 (fun W' => blk W' bp = some E) (by kernel_rfl) hV2.hp (fun hHeld => ?_)
  refine wpAnyF_take (i := 0) (oi := ⟨_, _, _, _, _, _⟩) (v := ?_) rfl (by kernel_rfl) (by kernel_rfl) (by kernel_rfl) (by kernel_rfl) (by kernel_rfl) (fun _ _ _ h => h) (Or.inl ⟨by rfl, ?_⟩) (by assumption) ?_
  rotate_left 1
  · intro W' hSw
    go_simp
    try with_reducible rfl
  try simp only [Act.put, List.setIfInBounds_toArray, List.set_cons_zero, List.set_cons_succ]
  refine wpAnyF_take (i := 1) (oi := ⟨_, _, _, _, _, _⟩) (v := ?_) rfl (by kernel_rfl) (by kernel_rfl) (by kernel_rfl) (by kernel_rfl) (by kernel_rfl) (fun _ _ _ h => h) (Or.inl ⟨by rfl, ?_⟩) (by assumption) ?_
  rotate_left 1
  · intro W' hSw
    go_simp
    try with_reducible rfl
  try simp only [Act.put, List.setIfInBounds_toArray, List.set_cons_zero, List.set_cons_succ]
  refine wpAnyF_take (i := 2) (oi := ⟨_, _, _, _, _, _⟩) (v := ?_) rfl (by kernel_rfl) (by kernel_rfl) (by kernel_rfl) (by kernel_rfl) (by kernel_rfl) (fun _ _ _ h => h) (Or.inl ⟨by rfl, ?_⟩) (by assumption) ?_
  rotate_left 1
  · intro W' hSw
    go_simp
    try with_reducible rfl
  try simp only [Act.put, List.setIfInBounds_toArray, List.set_cons_zero, List.set_cons_succ]
  refine wpAnyF_take (i := 3) (oi := ⟨_, _, _, _, _, _⟩) (v := ?_) rfl (by kernel_rfl) (by kernel_rfl) (by kernel_rfl) (by kernel_rfl) (by kernel_rfl) (fun _ _ _ h => h) (Or.inl ⟨by rfl, ?_⟩) (by assumption) ?_
  rotate_left 1
  · intro W' hSw
    go_simp
    try with_reducible rfl
  try simp only [Act.put, List.setIfInBounds_toArray, List.set_cons_zero, List.set_cons_succ]
  refine wpAnyF_take (i := 4) (oi := ⟨_, _, _, _, _, _⟩) (v := ?_) rfl (by kernel_rfl) (by kernel_rfl) (by kernel_rfl) (by kernel_rfl) (by kernel_rfl) (fun _ _ _ h => h) (Or.inl ⟨by rfl, ?_⟩) (by assumption) ?_
  rotate_left 1
  · intro W' hSw
    go_simp
    try with_reducible rfl
  try simp only [Act.put, List.setIfInBounds_toArray, List.set_cons_zero, List.set_cons_succ]
  refine wpAnyF_take (i := 5) (oi := ⟨_, _, _, _, _, _⟩) (v := ?_) rfl (by kernel_rfl) (by kernel_rfl) (by kernel_rfl) (by kernel_rfl) (by kernel_rfl) (fun _ _ _ h => h) (Or.inl ⟨by rfl, ?_⟩) (by assumption) ?_
  rotate_left 1
  · intro W' hSw
    go_simp
    try with_reducible rfl
  try simp only [Act.put, List.setIfInBounds_toArray, List.set_cons_zero, List.set_cons_succ]
  refine wpAnyF_take (i := 6) (oi := ⟨_, _, _, _, _, _⟩) (v := ?_) rfl (by kernel_rfl) (by kernel_rfl) (by kernel_rfl) (by kernel_rfl) (by kernel_rfl) (fun _ _ _ h => h) (Or.inl ⟨by rfl, ?_⟩) (by assumption) ?_
  rotate_left 1
  · intro W' hSw
    go_simp
    try with_reducible rfl
  try simp only [Act.put, List.setIfInBounds_toArray, List.set_cons_zero, List.set_cons_succ]
  refine wpAnyF_last (o := ⟨_, _, _, _, _, _⟩) (by kernel_rfl) rfl (fun K' hK => ?_)
  go_simp
  refine hq6.mono ?_
  clear hq6
  rintro e V3 ⟨rfl, hV3⟩
  dsimp only
  refine hK.out _ _ ?_
  clear hK K'
  try simp only [Act.put, List.setIfInBounds_toArray, List.set_cons_zero, List.set_cons_succ]
  refine wpAnyF_done (by kernel_rfl) ?_ _
  clear hHeld hV2
  have hq7 := hV3.call1 (fun O' hO => lsetCounter O' _ bl _ hO 2 (by decide) P.fees (by dsimp only; omega))
  dsimp only at hq7
  go_upto_region 7 with fail
  repeat go_step
  refine wp_region_F 7 (fun W' => blk W' bp = some E) (by kernel_rfl) hV3.hp (fun hHeld => ?_)
  refine wpAnyF_take (i := 0) (oi := ⟨_, _, _, _, _, _⟩) (v := ?_) rfl (by kernel_rfl) (by kernel_rfl) (by kernel_rfl) (by kernel_rfl) (by kernel_rfl) (fun _ _ _ h => h) (Or.inl ⟨by rfl, ?_⟩) (by assumption) ?_
  rotate_left 1
  · intro W' hSw
    go_simp
    try with_reducible rfl
  try simp only [Act.put, List.setIfInBounds_toArray, List.set_cons_zero, List.set_cons_succ]
  refine wpAnyF_take (i := 1) (oi := ⟨_, _, _, _, _, _⟩) (v := ?_) rfl (by kernel_rfl) (by kernel_rfl) (by kernel_rfl) (by kernel_rfl) (by kernel_rfl) (fun _ _ _ h => h) (Or.inl ⟨by rfl, ?_⟩) (by assumption) ?_
  rotate_left 1
  · intro W' hSw
    go_simp
    try with_reducible rfl
  try simp only [Act.put, List.setIfInBounds_toArray, List.set_cons_zero, List.set_cons_succ]
  refine wpAnyF_take (i := 2) (oi := ⟨_, _, _, _, _, _⟩) (v := ?_) rfl (by kernel_rfl) (by kernel_rfl) (by kernel_rfl) (by kernel_rfl) (by kernel_rfl) (fun _ _ _ h => h) (Or.inl ⟨by rfl, ?_⟩) (by assumption) ?_
  rotate_left 1
  · intro W' hSw
    go_simp
    try with_reducible rfl
  try simp only [Act.put, List.setIfInBounds_toArray, List.set_cons_zero, List.set_cons_succ]
  refine wpAnyF_take (i := 3) (oi := ⟨_, _, _, _, _, _⟩) (v := ?_) rfl (by kernel_rfl) (by kernel_rfl) (by kernel_rfl) (by kernel_rfl) (by kernel_rfl) (fun _ _ _ h => h) (Or.inl ⟨by rfl, ?_⟩) (by assumption) ?_
  rotate_left 1
  · intro W' hSw
    go_simp
    try with_reducible rfl
  try simp only [Act.put, List.setIfInBounds_toArray, List.set_cons_zero, List.set_cons_succ]
  refine wpAnyF_take (i := 4) (oi := ⟨_, _, _, _, _, _⟩) (v := ?_) rfl (by kernel_rfl) (by kernel_rfl) (by kernel_rfl) (by kernel_rfl) (by kernel_rfl) (fun _ _ _ h => h) (Or.inl ⟨by rfl, ?_⟩) (by assumption) ?_
  rotate_left 1
  · intro W' hSw
    go_simp
    try with_reducible rfl
  try simp only [Act.put, List.setIfInBounds_toArray, List.set_cons_zero, List.set_cons_succ]
  refine wpAnyF_take (i := 5) (oi := ⟨_, _, _, _, _, _⟩) (v := ?_) rfl (by kernel_rfl) (by kernel_rfl) (by kernel_rfl) (by kernel_rfl) (by kernel_rfl) (fun _ _ _ h => h) (Or.inl ⟨by rfl, ?_⟩) (by assumption) ?_
  rotate_left 1
  · intro W' hSw
    go_simp
    try with_reducible rfl
  try simp only [Act.put, List.setIfInBounds_toArray, List.set_cons_zero, List.set_cons_succ]
  refine wpAnyF_take (i := 6) (oi := ⟨_, _, _, _, _, _⟩) (v := ?_) rfl (by kernel_rfl) (by kernel_rfl) (by kernel_rfl) (by kernel_rfl) (by kernel_rfl) (fun _ _ _ h => h) (Or.inl ⟨by rfl, ?_⟩) (by assumption) ?_
  rotate_left 1
  · intro W' hSw
    go_simp
    try with_reducible rfl
  try simp only [Act.put, List.setIfInBounds_toArray, List.set_cons_zero, List.set_cons_succ]
  refine wpAnyF_last (o := ⟨_, _, _, _, _, _⟩) (by kernel_rfl) rfl (fun K' hK => ?_)
  go_simp
  refine hq7.mono ?_
  clear hq7
  rintro e V4 ⟨rfl, hV4⟩
  dsimp only
  refine hK.out _ _ ?_
  clear hK K'
  try simp only [Act.put, List.setIfInBounds_toArray, List.set_cons_zero, List.set_cons_succ]
  refine wpAnyF_done (by kernel_rfl) ?_ _
  clear hHeld hV3
  have hq8 : Calls Tryz.prog 183 #[.pointer (some ⟨bl, 1, none⟩), .int .u64 (w64 3), .int .u64 (w64 (P.receipt.index + 1))] V4.drew (fun e V' => e = .returned (.tuple #[]) ∧ EnI O W bl bp W.heap.size E x.enc { L with st := enS L.st x P l } V') := by
    rw [H5.out]
    exact hV4.call1 (fun O' hO => lsetCounter O' _ bl _ hO 3 (by decide) (P.receipt.index + 1) (by dsimp only; omega))
  clear b6 b7 bS
  go_upto_region 8 with fail
  repeat go_step
  refine wp_region_F 9 (fun W' => blk W' bp = some E) (by kernel_rfl) hV4.hp (fun hHeld => ?_)
  refine wpAnyF_take (i := 0) (oi := ⟨_, _, _, _, _, _⟩) (v := ?_) rfl (by kernel_rfl) (by kernel_rfl) (by kernel_rfl) (by kernel_rfl) (by kernel_rfl) (fun _ _ _ h => h) (Or.inl ⟨by rfl, ?_⟩) (by assumption) ?_
  rotate_left 1
  · intro W' hSw
    go_simp
    try with_reducible rfl
  try simp only [Act.put, List.setIfInBounds_toArray, List.set_cons_zero, List.set_cons_succ]
  refine wpAnyF_take (i := 1) (oi := ⟨_, _, _, _, _, _⟩) (v := ?_) rfl (by kernel_rfl) (by kernel_rfl) (by kernel_rfl) (by kernel_rfl) (by kernel_rfl) (fun _ _ _ h => h) (Or.inl ⟨by rfl, ?_⟩) (by assumption) ?_
  rotate_left 1
  · intro W' hSw
    go_simp
    try with_reducible rfl
  try simp only [Act.put, List.setIfInBounds_toArray, List.set_cons_zero, List.set_cons_succ]
  refine wpAnyF_take (i := 2) (oi := ⟨_, _, _, _, _, _⟩) (v := ?_) rfl (by kernel_rfl) (by kernel_rfl) (by kernel_rfl) (by kernel_rfl) (by kernel_rfl) (fun _ _ _ h => h) (Or.inl ⟨by rfl, ?_⟩) (by assumption) ?_
  rotate_left 1
  · intro W' hSw
    go_simp
    try with_reducible rfl
  try simp only [Act.put, List.setIfInBounds_toArray, List.set_cons_zero, List.set_cons_succ]
  refine wpAnyF_take (i := 3) (oi := ⟨_, _, _, _, _, _⟩) (v := ?_) rfl (by kernel_rfl) (by kernel_rfl) (by kernel_rfl) (by kernel_rfl) (by kernel_rfl) (fun _ _ _ h => h) (Or.inl ⟨by rfl, ?_⟩) (by assumption) ?_
  rotate_left 1
  · intro W' hSw
    go_simp
    try with_reducible rfl
  try simp only [Act.put, List.setIfInBounds_toArray, List.set_cons_zero, List.set_cons_succ]
  refine wpAnyF_take (i := 4) (oi := ⟨_, _, _, _, _, _⟩) (v := ?_) rfl (by kernel_rfl) (by kernel_rfl) (by kernel_rfl) (by kernel_rfl) (by kernel_rfl) (fun _ _ _ h => h) (Or.inl ⟨by rfl, ?_⟩) (by assumption) ?_
  rotate_left 1
  · intro W' hSw
    go_simp
    try with_reducible rfl
  try simp only [Act.put, List.setIfInBounds_toArray, List.set_cons_zero, List.set_cons_succ]
  refine wpAnyF_take (i := 5) (oi := ⟨_, _, _, _, _, _⟩) (v := ?_) rfl (by kernel_rfl) (by kernel_rfl) (by kernel_rfl) (by kernel_rfl) (by kernel_rfl) (fun _ _ _ h => h) (Or.inl ⟨by rfl, ?_⟩) (by assumption) ?_
  rotate_left 1
  · intro W' hSw
    go_simp
    try with_reducible rfl
  try simp only [Act.put, List.setIfInBounds_toArray, List.set_cons_zero, List.set_cons_succ]
  refine wpAnyF_take (i := 6) (oi := ⟨_, _, _, _, _, _⟩) (v := ?_) rfl (by kernel_rfl) (by kernel_rfl) (by kernel_rfl) (by kernel_rfl) (by kernel_rfl) (fun _ _ _ h => h) (Or.inl ⟨by rfl, ?_⟩) (by assumption) ?_
  rotate_left 1
  · intro W' hSw
    go_simp
    try with_reducible rfl
  try simp only [Act.put, List.setIfInBounds_toArray, List.set_cons_zero, List.set_cons_succ]
  refine wpAnyF_take (i := 7) (oi := ⟨_, _, _, _, _, _⟩) (v := ?_) rfl (by kernel_rfl) (by kernel_rfl) (by kernel_rfl) (by kernel_rfl) (by kernel_rfl) (fun _ _ _ h => h) (Or.inl ⟨by rfl, ?_⟩) (by assumption) ?_
  rotate_left 1
  · intro W' hSw
    go_simp
    try with_reducible rfl
  try simp only [Act.put, List.setIfInBounds_toArray, List.set_cons_zero, List.set_cons_succ]
  refine wpAnyF_take (i := 8) (oi := ⟨_, _, _, _, _, _⟩) (v := ?_) rfl (by kernel_rfl) (by kernel_rfl) (by kernel_rfl) (by kernel_rfl) (by kernel_rfl) (fun _ _ _ h => h) (Or.inl ⟨by rfl, ?_⟩) (by assumption) ?_
  rotate_left 1
  · intro W' hSw
    go_simp
    try with_reducible rfl
  try simp only [Act.put, List.setIfInBounds_toArray, List.set_cons_zero, List.set_cons_succ]
  refine wpAnyF_last (o := ⟨_, _, _, _, _, _⟩) (by kernel_rfl) rfl (fun K' hK => ?_)
  go_simp
  refine hq8.mono ?_
  clear hq8
  rintro e V5 ⟨rfl, hV5⟩
  dsimp only
  refine hK.out _ _ ?_
  clear hK K'
  try simp only [Act.put, List.setIfInBounds_toArray, List.set_cons_zero, List.set_cons_succ]
  refine wpAnyF_done (by kernel_rfl) ?_ _
  clear hHeld hV4
  have HB5 : Hid ((enS L.st x P l).now.length + 3 < 1000000000) := HB.out.2.2.2
  obtain ⟨S5, hS5⟩ : ∃ S5, S5 = enS L.st x P l := ⟨_, rfl⟩
  have HF : Hid (enactF L x P l = (if P.receipt.hasSent = true then { L with st := { S5 with now := saveF S5.now (keyC 4) (ldF S5.now (keyC 4) + 1) }, sent := L.sent.take (ldF S5.now (keyC 4)).toNat ++ [P.receipt.sent] } else if P.receipt.hasTook = true then { L with st := markF { S5 with now := saveF S5.now (keyC 5) (ldF S5.now (keyC 5) + 1) } P.receipt.took.from_ P.receipt.took.seq, took := L.took.take (ldF S5.now (keyC 5)).toNat ++ [P.receipt.took] } else { L with st := S5 })) := by
    show enactF _ _ _ _ = _
    rw [hS5]
    rfl
  rw [← hS5] at hV5 HB5 HSL HTL
  clear hS5 HB H5 e15 e16 e55
  have kp5 : blk V5 bp = some E := hV5.hp
  cases hs : P.receipt.hasSent with
  | true =>
    have ht : P.receipt.hasTook = false := by
      cases h : P.receipt.hasTook with
      | false => rfl
      | true => exact absurd ⟨hs, h⟩ HST.out
    rw [hs] at e58
    rw [ht] at e100
    have HF2 : Hid (enactF L x P l = { L with st := { S5 with now := saveF S5.now (keyC 4) (ldF S5.now (keyC 4) + 1) }, sent := L.sent.take (ldF S5.now (keyC 4)).toNat ++ [P.receipt.sent] }) := by
      show enactF _ _ _ _ = _
      rw [HF.out, hs, if_pos rfl]
    have HAL := hid_of (HSL.out hs)
    have hct := counter_any V5 bl 1 S5.now hV5.rd 4 (by decide)
    generalize hal : ldF S5.now (keyC 4) = al at HF2 HAL hct
    clear hal HSL HTL HF HST hs ht e102 e106 s101
    go_wp2_with fail
    refine hct.mono ?_
    clear hct
    rintro e V6 ⟨rfl, he⟩
    dsimp only
    have hV6 := hV5.ext he
    clear hV5 kp5 he
    obtain ⟨O1, ⟨sn, ss, bn, ⟨a, ln, c⟩, mt, mr, hL⟩, hg, h8, h0⟩ := hV6.led
    have hcap : al.toNat ≤ c := Nat.le_trans HAL.out.1 (cap_le hL.msn)
    have hsl : ∀ w, (sliceOp 95 (.slice a ln c) none (some (.int .u64 (w64 al))) none).run Tryz.prog w = .ok (.value (.slice a al.toNat c)) w := fun w => slice_hiU und95 (by kernel_rfl) w a ln c al hcap
    have hbs : ∀ w, (bsliceOp 95 1 #[(0, .agg P.receipt.sent.enc.toArray)]).run Tryz.prog w = .ok (.value (.slice (some ⟨w.heap.size, 0, none⟩) 1 1)) (w.alloc (.cells P.receipt.sent.enc.toArray 38)) := fun w => bslice_one el95 (by omega) w P.receipt.sent
    obtain ⟨a', c', V7, hrun, hfr, hL7, hg7⟩ := (hL.drewN 1).pushS al.toNat HAL.out.1 HAL.out.2 P.receipt.sent
    obtain ⟨LE, hLE⟩ : ∃ LE, LE = (lgOf { L with st := S5 } sn ss bn ⟨a, ln, c⟩ mt mr).enc := ⟨_, rfl⟩
    have kl : blk V6 bl = some LE := by rw [hLE]; exact hL.hblk
    have kn : nth LE 4493 = some (.slice a ln c) := by rw [hLE]; exact Ledger.sent_get _
    have gl : LE.length = 4496 := by rw [hLE]; exact Ledger.length_enc _
    have nb : ¬ (O1 bl = .a bl 3) := by rw [hL.hlab]; intro e; cases e
    have np : ¬ (O1 bp = .a bl 3) := by rw [h8]; intro e; cases e
    have nx : ¬ (O1 W.heap.size = .a bl 3) := by rw [h0]; intro e; cases e
    have kp : blk V6 bp = some E := hV6.hp
    have kpf : free V6 bp = true := hV6.hf
    have kx : blk V6 W.heap.size = some x.enc := hV6.hx
    have kl7 : blk V7 bl = some LE := (blk_of_heap (hfr.block bl (blk_lt kl) nb)).trans kl
    have kf7 : free V7 bl = true := (free_of_heap (hfr.block bl (blk_lt kl) nb)).trans hL.hfree
    have kp7 : blk V7 bp = some E := (blk_of_heap (hfr.block bp (blk_lt kp) np)).trans kp
    have kpf7 : free V7 bp = true := (free_of_heap (hfr.block bp (blk_lt kp) np)).trans kpf
    have kx7 : blk V7 W.heap.size = some x.enc := (blk_of_heap (hfr.block _ (blk_lt kx) nx)).trans kx
    have kla : blk (V6.drew.alloc (.cells P.receipt.sent.enc.toArray 38)) bl = some LE := by rw [blk_alloc, if_neg (by have := blk_lt kl; show ¬ bl = V6.heap.size; omega)]; exact kl
    have kpa : blk (V6.drew.alloc (.cells P.receipt.sent.enc.toArray 38)) bp = some E := by rw [blk_alloc, if_neg (by have := blk_lt kp; show ¬ bp = V6.heap.size; omega)]; exact kp
    have HV8 : Hid (EnI O W bl bp W.heap.size E x.enc { L with st := S5, sent := L.sent.take al.toNat ++ [P.receipt.sent] } (put V7 bl (splice LE 4493 [.slice a' (al.toNat + 1) c']))) := by
      have nbp : ¬ bl = bp := by intro e; rw [← e, hL.hlab] at h8; cases h8
      have nbx : ¬ bl = W.heap.size := by intro e; rw [← e, hL.hlab] at h0; cases h0
      rw [← hLE] at hL7 hg7
      refine ⟨?_, ?_, ?_, _, ⟨_, _, _, _, _, _, hL7⟩, Lg.trans hg.drew (hg7.mono (fun l e => e.elim (fun e => ⟨_, e⟩) (fun e => ⟨_, e⟩))), ?_, ?_⟩
      · rw [blk_put, if_neg (fun e => nbp e.symm)]; exact kp7
      · rw [free_put]; exact kpf7
      · rw [blk_put, if_neg (fun e => nbx e.symm)]; exact kx7
      · exact (lab_lt (show bp < (V6.drewN 1).heap.size from blk_lt kp)).trans h8
      · exact (lab_lt (show W.heap.size < (V6.drewN 1).heap.size from blk_lt kx)).trans h0
    have HLE := hid_of hLE
    clear hLE hL hg h8 h0 hL7 hg7 hfr nb np nx kpf kx hcap kpf7 kx7 hV6
    generalize al.toNat = aln at hsl hrun HV8 HAL HF2
    go_upto_region 11 with fail
    repeat go_step
    refine wp_region_F 16 (fun W' => blk W' bp = some E ∧ blk W' bl = some LE) (by kernel_rfl) ⟨kp, kl⟩ (fun hHeld => ?_)
    refine wpAnyF_take (i := 0) (oi := ⟨_, _, _, _, _, _⟩) (v := ?_) rfl (by kernel_rfl) (by kernel_rfl) (by kernel_rfl) (by kernel_rfl) (by kernel_rfl) (fun _ _ _ h => h) (Or.inl ⟨by rfl, ?_⟩) (by assumption) ?_
    rotate_left 1
    · intro W' hSw
      obtain ⟨hS1, hS2⟩ := hSw
      go_simp
      try with_reducible rfl
    try simp only [Act.put, List.setIfInBounds_toArray, List.set_cons_zero, List.set_cons_succ]
    refine wpAnyF_take (i := 1) (oi := ⟨_, _, _, _, _, _⟩) (v := ?_) rfl (by kernel_rfl) (by kernel_rfl) (by kernel_rfl) (by kernel_rfl) (by kernel_rfl) (fun _ _ _ h => h) (Or.inl ⟨by rfl, ?_⟩) (by assumption) ?_
    rotate_left 1
    · intro W' hSw
      obtain ⟨hS1, hS2⟩ := hSw
      go_simp
      try with_reducible rfl
    try simp only [Act.put, List.setIfInBounds_toArray, List.set_cons_zero, List.set_cons_succ]
    refine wpAnyF_take (i := 2) (oi := ⟨_, _, _, _, _, _⟩) (v := ?_) rfl (by kernel_rfl) (by kernel_rfl) (by kernel_rfl) (by kernel_rfl) (by kernel_rfl) (fun _ _ _ h => h) (Or.inl ⟨by rfl, ?_⟩) (by assumption) ?_
    rotate_left 1
    · intro W' hSw
      obtain ⟨hS1, hS2⟩ := hSw
      go_simp
      try with_reducible rfl
    try simp only [Act.put, List.setIfInBounds_toArray, List.set_cons_zero, List.set_cons_succ]
    refine wpAnyF_take (i := 3) (oi := ⟨_, _, _, _, _, _⟩) (v := ?_) rfl (by kernel_rfl) (by kernel_rfl) (by kernel_rfl) (by kernel_rfl) (by kernel_rfl) (fun _ _ _ h => h) (Or.inl ⟨by rfl, ?_⟩) (by assumption) ?_
    rotate_left 1
    · intro W' hSw
      obtain ⟨hS1, hS2⟩ := hSw
      go_simp
      try with_reducible rfl
    try simp only [Act.put, List.setIfInBounds_toArray, List.set_cons_zero, List.set_cons_succ]
    refine wpAnyF_take (i := 4) (oi := ⟨_, _, _, _, _, _⟩) (v := ?_) rfl (by kernel_rfl) (by kernel_rfl) (by kernel_rfl) (by kernel_rfl) (by kernel_rfl) (fun _ _ _ h => h) (Or.inl ⟨by rfl, ?_⟩) (by assumption) ?_
    rotate_left 1
    · intro W' hSw
      obtain ⟨hS1, hS2⟩ := hSw
      go_simp
      try with_reducible rfl
    try simp only [Act.put, List.setIfInBounds_toArray, List.set_cons_zero, List.set_cons_succ]
    refine wpAnyF_take (i := 5) (oi := ⟨_, _, _, _, _, _⟩) (v := ?_) rfl (by kernel_rfl) (by kernel_rfl) (by kernel_rfl) (by kernel_rfl) (by kernel_rfl) (fun _ _ _ h => h) (Or.inl ⟨by rfl, ?_⟩) (by assumption) ?_
    rotate_left 1
    · intro W' hSw
      obtain ⟨hS1, hS2⟩ := hSw
      go_simp
      try with_reducible rfl
    try simp only [Act.put, List.setIfInBounds_toArray, List.set_cons_zero, List.set_cons_succ]
    refine wpAnyF_take (i := 6) (oi := ⟨_, _, _, _, _, _⟩) (v := ?_) rfl (by kernel_rfl) (by kernel_rfl) (by kernel_rfl) (by kernel_rfl) (by kernel_rfl) (fun _ _ _ h => h) (Or.inl ⟨by rfl, ?_⟩) (by assumption) ?_
    rotate_left 1
    · intro W' hSw
      obtain ⟨hS1, hS2⟩ := hSw
      go_simp
      try with_reducible rfl
    try simp only [Act.put, List.setIfInBounds_toArray, List.set_cons_zero, List.set_cons_succ]
    refine wpAnyF_take (i := 7) (oi := ⟨_, _, _, _, _, _⟩) (v := ?_) rfl (by kernel_rfl) (by kernel_rfl) (by kernel_rfl) (by kernel_rfl) (by kernel_rfl) (fun _ _ _ h => h) (Or.inl ⟨by rfl, ?_⟩) (by assumption) ?_
    rotate_left 1
    · intro W' hSw
      obtain ⟨hS1, hS2⟩ := hSw
      go_simp
      try with_reducible rfl
    try simp only [Act.put, List.setIfInBounds_toArray, List.set_cons_zero, List.set_cons_succ]
    refine wpAnyF_take (i := 8) (oi := ⟨_, _, _, _, _, _⟩) (v := ?_) rfl (by kernel_rfl) (by kernel_rfl) (by kernel_rfl) (by kernel_rfl) (by kernel_rfl) (fun _ _ _ h => h) (Or.inl ⟨by rfl, ?_⟩) (by assumption) ?_
    rotate_left 1
    · intro W' hSw
      obtain ⟨hS1, hS2⟩ := hSw
      go_simp
      try with_reducible rfl
    try simp only [Act.put, List.setIfInBounds_toArray, List.set_cons_zero, List.set_cons_succ]
    refine wpAnyF_take (i := 9) (oi := ⟨_, _, _, _, _, _⟩) (v := ?_) rfl (by kernel_rfl) (by kernel_rfl) (by kernel_rfl) (by kernel_rfl) (by kernel_rfl) (fun _ _ _ h => h) (Or.inl ⟨by rfl, ?_⟩) (by assumption) ?_
    rotate_left 1
    · intro W' hSw
      obtain ⟨hS1, hS2⟩ := hSw
      go_simp
      try with_reducible rfl
    try simp only [Act.put, List.setIfInBounds_toArray, List.set_cons_zero, List.set_cons_succ]
    refine wpAnyF_take (i := 10) (oi := ⟨_, _, _, _, _, _⟩) (v := ?_) rfl (by kernel_rfl) (by kernel_rfl) (by kernel_rfl) (by kernel_rfl) (by kernel_rfl) (fun _ _ _ h => h) (Or.inl ⟨by rfl, ?_⟩) (by assumption) ?_
    rotate_left 1
    · intro W' hSw
      obtain ⟨hS1, hS2⟩ := hSw
      go_simp
      try with_reducible rfl
    try simp only [Act.put, List.setIfInBounds_toArray, List.set_cons_zero, List.set_cons_succ]
    refine wpAnyF_take (i := 11) (oi := ⟨_, _, _, _, _, _⟩) (v := ?_) rfl (by kernel_rfl) (by kernel_rfl) (by kernel_rfl) (by kernel_rfl) (by kernel_rfl) (fun _ _ _ h => h) (Or.inl ⟨by rfl, ?_⟩) (by assumption) ?_
    rotate_left 1
    · intro W' hSw
      obtain ⟨hS1, hS2⟩ := hSw
      go_simp
      try with_reducible rfl
    try simp only [Act.put, List.setIfInBounds_toArray, List.set_cons_zero, List.set_cons_succ]
    refine wpAnyF_one (o := ⟨_, _, _, _, _, _⟩) (i := 12) (by kernel_rfl) rfl rfl (fun K' hK => ?_)
    go_simp
    refine hK.out _ _ ⟨kpa, kla⟩ (fun hHeld => ?_)
    clear hK K'
    try simp only [Act.put, List.setIfInBounds_toArray, List.set_cons_zero, List.set_cons_succ]
    refine wpAnyF_one (o := ⟨_, _, _, _, _, _⟩) (i := 13) (by kernel_rfl) rfl rfl (fun K' hK => ?_)
    refine wp_append_run _ _ 95 rfl _ _ _ _ rfl rfl hrun ?_
    refine hK.out _ _ ⟨kp7, kl7⟩ (fun hHeld => ?_)
    clear hK K'
    try simp only [Act.put, List.setIfInBounds_toArray, List.set_cons_zero, List.set_cons_succ]
    refine wpAnyF_take (i := 14) (oi := ⟨_, _, _, _, _, _⟩) (v := ?_) rfl (by kernel_rfl) (by kernel_rfl) (by kernel_rfl) (by kernel_rfl) (by kernel_rfl) (fun _ _ _ h => h) (Or.inl ⟨by rfl, ?_⟩) (by assumption) ?_
    rotate_left 1
    · intro W' hSw
      obtain ⟨hS1, hS2⟩ := hSw
      go_simp
      try with_reducible rfl
    try simp only [Act.put, List.setIfInBounds_toArray, List.set_cons_zero, List.set_cons_succ]
    refine wpAnyF_take (i := 15) (oi := ⟨_, _, _, _, _, _⟩) (v := ?_) rfl (by kernel_rfl) (by kernel_rfl) (by kernel_rfl) (by kernel_rfl) (by kernel_rfl) (fun _ _ _ h => h) (Or.inl ⟨by rfl, ?_⟩) (by assumption) ?_
    rotate_left 1
    · intro W' hSw
      obtain ⟨hS1, hS2⟩ := hSw
      go_simp
      try with_reducible rfl
    try simp only [Act.put, List.setIfInBounds_toArray, List.set_cons_zero, List.set_cons_succ]
    refine wpAnyF_last (o := ⟨_, _, _, _, _, _⟩) (by kernel_rfl) rfl (fun K' hK => ?_)
    go_simp
    refine hK.out _ _ ?_
    clear hK K'
    try simp only [Act.put, List.setIfInBounds_toArray, List.set_cons_zero, List.set_cons_succ]
    refine wpAnyF_done (by kernel_rfl) ?_ _
    clear hHeld
    clear hsl hbs hrun kl kl7 kp kp7 kla kpa kn gl kf7
    generalize put V7 bl _ = V8 at HV8 ⊢
    have hV8 := HV8.out
    clear HV8 HLE
    have hq12 := hV8.call0 (fun O' hO => lsetCounter O' _ bl _ hO 4 (by decide) (al + 1) (by have := HB5.out; dsimp only; omega))
    dsimp only at hq12
    have kp8 : blk V8 bp = some E := hV8.hp
    clear hV8 kp8
    go_wp2_with fail
    refine hq12.mono ?_
    clear hq12
    rintro e V9 ⟨rfl, hV9⟩
    dsimp only
    have kp9 : blk V9 bp = some E := hV9.hp
    have HP : Hid (Q (.returned (.tuple #[])) V9) := by
      show Q _ _
      rw [HQ.out, HF2.out]
      refine ⟨rfl, n, W.heap.size, x.enc, ?_⟩
      rw [← HE.out]
      exact hV9
    clear hV9
    go_wp2_with fail
    try (first | go_ret | go_ret2 | go_end0)
    exact HP.out
  | false =>
    rw [hs] at e58
    cases ht : P.receipt.hasTook with
    | false =>
      rw [ht] at e100
      have HP : Hid (Q (.returned (.tuple #[])) V5) := by
        show Q _ _
        rw [HQ.out, HF.out, hs, if_neg (by simp), ht, if_neg (by simp)]
        refine ⟨rfl, n, W.heap.size, x.enc, ?_⟩
        rw [← HE.out]
        exact hV5
      clear hV5 HSL HTL HF HST hs ht
      go_wp2_with fail
      try (first | go_ret | go_ret2 | go_end0)
      exact HP.out
    | true =>
      rw [ht] at e100
      have HF2 : Hid (enactF L x P l = { L with st := markF { S5 with now := saveF S5.now (keyC 5) (ldF S5.now (keyC 5) + 1) } P.receipt.took.from_ P.receipt.took.seq, took := L.took.take (ldF S5.now (keyC 5)).toNat ++ [P.receipt.took] }) := by
        show enactF _ _ _ _ = _
        rw [HF.out, hs, if_neg (by simp), ht, if_pos rfl]
      have h5 := HTL.out ht
      have HAL : Hid ((ldF S5.now (keyC 5)).toNat ≤ L.took.length ∧ L.took.length ≤ 1000000000) := ⟨h5.1, h5.2.1⟩
      have hsq := h5.2.2
      have hct := counter_any V5 bl 1 S5.now hV5.rd 5 (by decide)
      clear h5
      generalize hal : ldF S5.now (keyC 5) = al at HF2 HAL hct
      clear hal HSL HTL HF HST hs ht s59
      go_wp2_with fail
      refine hct.mono ?_
      clear hct
      rintro e V6 ⟨rfl, he⟩
      dsimp only
      have hV6 := hV5.ext he
      clear hV5 kp5 he
      obtain ⟨O1, ⟨sn, ss, bn, ms, ⟨a, ln, c⟩, mr, hL⟩, hg, h8, h0⟩ := hV6.led
      have hcap : al.toNat ≤ c := Nat.le_trans HAL.out.1 (cap_le hL.mtk)
      have hsl : ∀ w, (sliceOp 95 (.slice a ln c) none (some (.int .u64 (w64 al))) none).run Tryz.prog w = .ok (.value (.slice a al.toNat c)) w := fun w => slice_hiU und95 (by kernel_rfl) w a ln c al hcap
      have hbs : ∀ w, (bsliceOp 95 1 #[(0, .agg P.receipt.took.enc.toArray)]).run Tryz.prog w = .ok (.value (.slice (some ⟨w.heap.size, 0, none⟩) 1 1)) (w.alloc (.cells P.receipt.took.enc.toArray 38)) := fun w => bslice_one el95 (by omega) w P.receipt.took
      obtain ⟨a', c', V7, hrun, hfr, hL7, hg7⟩ := (hL.drewN 1).pushT al.toNat HAL.out.1 HAL.out.2 P.receipt.took
      obtain ⟨LE, hLE⟩ : ∃ LE, LE = (lgOf { L with st := S5 } sn ss bn ms ⟨a, ln, c⟩ mr).enc := ⟨_, rfl⟩
      have kl : blk V6 bl = some LE := by rw [hLE]; exact hL.hblk
      have kn : nth LE 4494 = some (.slice a ln c) := by rw [hLE]; exact Ledger.took_get _
      have gl : LE.length = 4496 := by rw [hLE]; exact Ledger.length_enc _
      have nb : ¬ (O1 bl = .a bl 4) := by rw [hL.hlab]; intro e; cases e
      have np : ¬ (O1 bp = .a bl 4) := by rw [h8]; intro e; cases e
      have nx : ¬ (O1 W.heap.size = .a bl 4) := by rw [h0]; intro e; cases e
      have kp : blk V6 bp = some E := hV6.hp
      have kpf : free V6 bp = true := hV6.hf
      have kx : blk V6 W.heap.size = some x.enc := hV6.hx
      have kl7 : blk V7 bl = some LE := (blk_of_heap (hfr.block bl (blk_lt kl) nb)).trans kl
      have kf7 : free V7 bl = true := (free_of_heap (hfr.block bl (blk_lt kl) nb)).trans hL.hfree
      have kp7 : blk V7 bp = some E := (blk_of_heap (hfr.block bp (blk_lt kp) np)).trans kp
      have kpf7 : free V7 bp = true := (free_of_heap (hfr.block bp (blk_lt kp) np)).trans kpf
      have kx7 : blk V7 W.heap.size = some x.enc := (blk_of_heap (hfr.block _ (blk_lt kx) nx)).trans kx
      have kla : blk (V6.drew.alloc (.cells P.receipt.took.enc.toArray 38)) bl = some LE := by rw [blk_alloc, if_neg (by have := blk_lt kl; show ¬ bl = V6.heap.size; omega)]; exact kl
      have kpa : blk (V6.drew.alloc (.cells P.receipt.took.enc.toArray 38)) bp = some E := by rw [blk_alloc, if_neg (by have := blk_lt kp; show ¬ bp = V6.heap.size; omega)]; exact kp
      have HV8 : Hid (EnI O W bl bp W.heap.size E x.enc { L with st := S5, took := L.took.take al.toNat ++ [P.receipt.took] } (put V7 bl (splice LE 4494 [.slice a' (al.toNat + 1) c']))) := by
        have nbp : ¬ bl = bp := by intro e; rw [← e, hL.hlab] at h8; cases h8
        have nbx : ¬ bl = W.heap.size := by intro e; rw [← e, hL.hlab] at h0; cases h0
        rw [← hLE] at hL7 hg7
        refine ⟨?_, ?_, ?_, _, ⟨_, _, _, _, _, _, hL7⟩, Lg.trans hg.drew (hg7.mono (fun l e => e.elim (fun e => ⟨_, e⟩) (fun e => ⟨_, e⟩))), ?_, ?_⟩
        · rw [blk_put, if_neg (fun e => nbp e.symm)]; exact kp7
        · rw [free_put]; exact kpf7
        · rw [blk_put, if_neg (fun e => nbx e.symm)]; exact kx7
        · exact (lab_lt (show bp < (V6.drewN 1).heap.size from blk_lt kp)).trans h8
        · exact (lab_lt (show W.heap.size < (V6.drewN 1).heap.size from blk_lt kx)).trans h0
      have HLE := hid_of hLE
      clear hLE hL hg h8 h0 hL7 hg7 hfr nb np nx kpf kx hcap kpf7 kx7 hV6
      generalize al.toNat = aln at hsl hrun HV8 HAL HF2
      go_upto_region 15 with fail
      repeat go_step
      refine wp_region_F 16 (fun W' => blk W' bp = some E ∧ blk W' bl = some LE) (by kernel_rfl) ⟨kp, kl⟩ (fun hHeld => ?_)
      refine wpAnyF_take (i := 0) (oi := ⟨_, _, _, _, _, _⟩) (v := ?_) rfl (by kernel_rfl) (by kernel_rfl) (by kernel_rfl) (by kernel_rfl) (by kernel_rfl) (fun _ _ _ h => h) (Or.inl ⟨by rfl, ?_⟩) (by assumption) ?_
      rotate_left 1
      · intro W' hSw
        obtain ⟨hS1, hS2⟩ := hSw
        go_simp
        try with_reducible rfl
      try simp only [Act.put, List.setIfInBounds_toArray, List.set_cons_zero, List.set_cons_succ]
      refine wpAnyF_take (i := 1) (oi := ⟨_, _, _, _, _, _⟩) (v := ?_) rfl (by kernel_rfl) (by kernel_rfl) (by kernel_rfl) (by kernel_rfl) (by kernel_rfl) (fun _ _ _ h => h) (Or.inl ⟨by rfl, ?_⟩) (by assumption) ?_
      rotate_left 1
      · intro W' hSw
        obtain ⟨hS1, hS2⟩ := hSw
        go_simp
        try with_reducible rfl
      try simp only [Act.put, List.setIfInBounds_toArray, List.set_cons_zero, List.set_cons_succ]
      refine wpAnyF_take (i := 2) (oi := ⟨_, _, _, _, _, _⟩) (v := ?_) rfl (by kernel_rfl) (by kernel_rfl) (by kernel_rfl) (by kernel_rfl) (by kernel_rfl) (fun _ _ _ h => h) (Or.inl ⟨by rfl, ?_⟩) (by assumption) ?_
      rotate_left 1
      · intro W' hSw
        obtain ⟨hS1, hS2⟩ := hSw
        go_simp
        try with_reducible rfl
      try simp only [Act.put, List.setIfInBounds_toArray, List.set_cons_zero, List.set_cons_succ]
      refine wpAnyF_take (i := 3) (oi := ⟨_, _, _, _, _, _⟩) (v := ?_) rfl (by kernel_rfl) (by kernel_rfl) (by kernel_rfl) (by kernel_rfl) (by kernel_rfl) (fun _ _ _ h => h) (Or.inl ⟨by rfl, ?_⟩) (by assumption) ?_
      rotate_left 1
      · intro W' hSw
        obtain ⟨hS1, hS2⟩ := hSw
        go_simp
        try with_reducible rfl
      try simp only [Act.put, List.setIfInBounds_toArray, List.set_cons_zero, List.set_cons_succ]
      refine wpAnyF_take (i := 4) (oi := ⟨_, _, _, _, _, _⟩) (v := ?_) rfl (by kernel_rfl) (by kernel_rfl) (by kernel_rfl) (by kernel_rfl) (by kernel_rfl) (fun _ _ _ h => h) (Or.inl ⟨by rfl, ?_⟩) (by assumption) ?_
      rotate_left 1
      · intro W' hSw
        obtain ⟨hS1, hS2⟩ := hSw
        go_simp
        try with_reducible rfl
      try simp only [Act.put, List.setIfInBounds_toArray, List.set_cons_zero, List.set_cons_succ]
      refine wpAnyF_take (i := 5) (oi := ⟨_, _, _, _, _, _⟩) (v := ?_) rfl (by kernel_rfl) (by kernel_rfl) (by kernel_rfl) (by kernel_rfl) (by kernel_rfl) (fun _ _ _ h => h) (Or.inl ⟨by rfl, ?_⟩) (by assumption) ?_
      rotate_left 1
      · intro W' hSw
        obtain ⟨hS1, hS2⟩ := hSw
        go_simp
        try with_reducible rfl
      try simp only [Act.put, List.setIfInBounds_toArray, List.set_cons_zero, List.set_cons_succ]
      refine wpAnyF_take (i := 6) (oi := ⟨_, _, _, _, _, _⟩) (v := ?_) rfl (by kernel_rfl) (by kernel_rfl) (by kernel_rfl) (by kernel_rfl) (by kernel_rfl) (fun _ _ _ h => h) (Or.inl ⟨by rfl, ?_⟩) (by assumption) ?_
      rotate_left 1
      · intro W' hSw
        obtain ⟨hS1, hS2⟩ := hSw
        go_simp
        try with_reducible rfl
      try simp only [Act.put, List.setIfInBounds_toArray, List.set_cons_zero, List.set_cons_succ]
      refine wpAnyF_take (i := 7) (oi := ⟨_, _, _, _, _, _⟩) (v := ?_) rfl (by kernel_rfl) (by kernel_rfl) (by kernel_rfl) (by kernel_rfl) (by kernel_rfl) (fun _ _ _ h => h) (Or.inl ⟨by rfl, ?_⟩) (by assumption) ?_
      rotate_left 1
      · intro W' hSw
        obtain ⟨hS1, hS2⟩ := hSw
        go_simp
        try with_reducible rfl
      try simp only [Act.put, List.setIfInBounds_toArray, List.set_cons_zero, List.set_cons_succ]
      refine wpAnyF_take (i := 8) (oi := ⟨_, _, _, _, _, _⟩) (v := ?_) rfl (by kernel_rfl) (by kernel_rfl) (by kernel_rfl) (by kernel_rfl) (by kernel_rfl) (fun _ _ _ h => h) (Or.inl ⟨by rfl, ?_⟩) (by assumption) ?_
      rotate_left 1
      · intro W' hSw
        obtain ⟨hS1, hS2⟩ := hSw
        go_simp
        try with_reducible rfl
      try simp only [Act.put, List.setIfInBounds_toArray, List.set_cons_zero, List.set_cons_succ]
      refine wpAnyF_take (i := 9) (oi := ⟨_, _, _, _, _, _⟩) (v := ?_) rfl (by kernel_rfl) (by kernel_rfl) (by kernel_rfl) (by kernel_rfl) (by kernel_rfl) (fun _ _ _ h => h) (Or.inl ⟨by rfl, ?_⟩) (by assumption) ?_
      rotate_left 1
      · intro W' hSw
        obtain ⟨hS1, hS2⟩ := hSw
        go_simp
        try with_reducible rfl
      try simp only [Act.put, List.setIfInBounds_toArray, List.set_cons_zero, List.set_cons_succ]
      refine wpAnyF_take (i := 10) (oi := ⟨_, _, _, _, _, _⟩) (v := ?_) rfl (by kernel_rfl) (by kernel_rfl) (by kernel_rfl) (by kernel_rfl) (by kernel_rfl) (fun _ _ _ h => h) (Or.inl ⟨by rfl, ?_⟩) (by assumption) ?_
      rotate_left 1
      · intro W' hSw
        obtain ⟨hS1, hS2⟩ := hSw
        go_simp
        try with_reducible rfl
      try simp only [Act.put, List.setIfInBounds_toArray, List.set_cons_zero, List.set_cons_succ]
      refine wpAnyF_take (i := 11) (oi := ⟨_, _, _, _, _, _⟩) (v := ?_) rfl (by kernel_rfl) (by kernel_rfl) (by kernel_rfl) (by kernel_rfl) (by kernel_rfl) (fun _ _ _ h => h) (Or.inl ⟨by rfl, ?_⟩) (by assumption) ?_
      rotate_left 1
      · intro W' hSw
        obtain ⟨hS1, hS2⟩ := hSw
        go_simp
        try with_reducible rfl
      try simp only [Act.put, List.setIfInBounds_toArray, List.set_cons_zero, List.set_cons_succ]
      refine wpAnyF_one (o := ⟨_, _, _, _, _, _⟩) (i := 12) (by kernel_rfl) rfl rfl (fun K' hK => ?_)
      go_simp
      refine hK.out _ _ ⟨kpa, kla⟩ (fun hHeld => ?_)
      clear hK K'
      try simp only [Act.put, List.setIfInBounds_toArray, List.set_cons_zero, List.set_cons_succ]
      refine wpAnyF_one (o := ⟨_, _, _, _, _, _⟩) (i := 13) (by kernel_rfl) rfl rfl (fun K' hK => ?_)
      refine wp_append_run _ _ 95 rfl _ _ _ _ rfl rfl hrun ?_
      refine hK.out _ _ ⟨kp7, kl7⟩ (fun hHeld => ?_)
      clear hK K'
      try simp only [Act.put, List.setIfInBounds_toArray, List.set_cons_zero, List.set_cons_succ]
      refine wpAnyF_take (i := 14) (oi := ⟨_, _, _, _, _, _⟩) (v := ?_) rfl (by kernel_rfl) (by kernel_rfl) (by kernel_rfl) (by kernel_rfl) (by kernel_rfl) (fun _ _ _ h => h) (Or.inl ⟨by rfl, ?_⟩) (by assumption) ?_
      rotate_left 1
      · intro W' hSw
        obtain ⟨hS1, hS2⟩ := hSw
        go_simp
        try with_reducible rfl
      try simp only [Act.put, List.setIfInBounds_toArray, List.set_cons_zero, List.set_cons_succ]
      refine wpAnyF_take (i := 15) (oi := ⟨_, _, _, _, _, _⟩) (v := ?_) rfl (by kernel_rfl) (by kernel_rfl) (by kernel_rfl) (by kernel_rfl) (by kernel_rfl) (fun _ _ _ h => h) (Or.inl ⟨by rfl, ?_⟩) (by assumption) ?_
      rotate_left 1
      · intro W' hSw
        obtain ⟨hS1, hS2⟩ := hSw
        go_simp
        try with_reducible rfl
      try simp only [Act.put, List.setIfInBounds_toArray, List.set_cons_zero, List.set_cons_succ]
      refine wpAnyF_last (o := ⟨_, _, _, _, _, _⟩) (by kernel_rfl) rfl (fun K' hK => ?_)
      go_simp
      refine hK.out _ _ ?_
      clear hK K'
      try simp only [Act.put, List.setIfInBounds_toArray, List.set_cons_zero, List.set_cons_succ]
      refine wpAnyF_done (by kernel_rfl) ?_ _
      clear hHeld
      clear hsl hbs hrun kl kl7 kp kp7 kla kpa kn gl kf7
      generalize put V7 bl _ = V8 at HV8 ⊢
      have hV8 := HV8.out
      clear HV8 HLE
      have bS := HB5.out
      have b9 := saveF_len S5.now (keyC 5) (al + 1)
      have hq16 := hV8.call0 (fun O' hO => lsetCounter O' _ bl _ hO 5 (by decide) (al + 1) (by dsimp only; omega))
      dsimp only at hq16
      clear hV8
      go_wp2_with fail
      refine hq16.mono ?_
      clear hq16
      rintro e V9 ⟨rfl, hV9⟩
      dsimp only
      have hq17 := hV9.call1 (fun O' hO => lmark O' _ bl _ hO P.receipt.took.from_ P.receipt.took.seq hsq (by dsimp only; omega))
      dsimp only at hq17
      clear bS b9
      go_upto_region 17 with fail
      repeat go_step
      refine wp_region_F 15 (fun W' => blk W' bp = some E) (by kernel_rfl) hV9.hp (fun hHeld => ?_)
      refine wpAnyF_take (i := 0) (oi := ⟨_, _, _, _, _, _⟩) (v := ?_) rfl (by kernel_rfl) (by kernel_rfl) (by kernel_rfl) (by kernel_rfl) (by kernel_rfl) (fun _ _ _ h => h) (Or.inl ⟨by rfl, ?_⟩) (by assumption) ?_
      rotate_left 1
      · intro W' hSw
        go_simp
        try with_reducible rfl
      try simp only [Act.put, List.setIfInBounds_toArray, List.set_cons_zero, List.set_cons_succ]
      refine wpAnyF_take (i := 1) (oi := ⟨_, _, _, _, _, _⟩) (v := ?_) rfl (by kernel_rfl) (by kernel_rfl) (by kernel_rfl) (by kernel_rfl) (by kernel_rfl) (fun _ _ _ h => h) (Or.inl ⟨by rfl, ?_⟩) (by assumption) ?_
      rotate_left 1
      · intro W' hSw
        go_simp
        try with_reducible rfl
      try simp only [Act.put, List.setIfInBounds_toArray, List.set_cons_zero, List.set_cons_succ]
      refine wpAnyF_take (i := 2) (oi := ⟨_, _, _, _, _, _⟩) (v := ?_) rfl (by kernel_rfl) (by kernel_rfl) (by kernel_rfl) (by kernel_rfl) (by kernel_rfl) (fun _ _ _ h => h) (Or.inl ⟨by rfl, ?_⟩) (by assumption) ?_
      rotate_left 1
      · intro W' hSw
        go_simp
        try with_reducible rfl
      try simp only [Act.put, List.setIfInBounds_toArray, List.set_cons_zero, List.set_cons_succ]
      refine wpAnyF_take (i := 3) (oi := ⟨_, _, _, _, _, _⟩) (v := ?_) rfl (by kernel_rfl) (by kernel_rfl) (by kernel_rfl) (by kernel_rfl) (by kernel_rfl) (fun _ _ _ h => h) (Or.inl ⟨by rfl, ?_⟩) (by assumption) ?_
      rotate_left 1
      · intro W' hSw
        go_simp
        try with_reducible rfl
      try simp only [Act.put, List.setIfInBounds_toArray, List.set_cons_zero, List.set_cons_succ]
      refine wpAnyF_take (i := 4) (oi := ⟨_, _, _, _, _, _⟩) (v := ?_) rfl (by kernel_rfl) (by kernel_rfl) (by kernel_rfl) (by kernel_rfl) (by kernel_rfl) (fun _ _ _ h => h) (Or.inl ⟨by rfl, ?_⟩) (by assumption) ?_
      rotate_left 1
      · intro W' hSw
        go_simp
        try with_reducible rfl
      try simp only [Act.put, List.setIfInBounds_toArray, List.set_cons_zero, List.set_cons_succ]
      refine wpAnyF_take (i := 5) (oi := ⟨_, _, _, _, _, _⟩) (v := ?_) rfl (by kernel_rfl) (by kernel_rfl) (by kernel_rfl) (by kernel_rfl) (by kernel_rfl) (fun _ _ _ h => h) (Or.inl ⟨by rfl, ?_⟩) (by assumption) ?_
      rotate_left 1
      · intro W' hSw
        go_simp
        try with_reducible rfl
      try simp only [Act.put, List.setIfInBounds_toArray, List.set_cons_zero, List.set_cons_succ]
      refine wpAnyF_take (i := 6) (oi := ⟨_, _, _, _, _, _⟩) (v := ?_) rfl (by kernel_rfl) (by kernel_rfl) (by kernel_rfl) (by kernel_rfl) (by kernel_rfl) (fun _ _ _ h => h) (Or.inl ⟨by rfl, ?_⟩) (by assumption) ?_
      rotate_left 1
      · intro W' hSw
        go_simp
        try with_reducible rfl
      try simp only [Act.put, List.setIfInBounds_toArray, List.set_cons_zero, List.set_cons_succ]
      refine wpAnyF_take (i := 7) (oi := ⟨_, _, _, _, _, _⟩) (v := ?_) rfl (by kernel_rfl) (by kernel_rfl) (by kernel_rfl) (by kernel_rfl) (by kernel_rfl) (fun _ _ _ h => h) (Or.inl ⟨by rfl, ?_⟩) (by assumption) ?_
      rotate_left 1
      · intro W' hSw
        go_simp
        try with_reducible rfl
      try simp only [Act.put, List.setIfInBounds_toArray, List.set_cons_zero, List.set_cons_succ]
      refine wpAnyF_take (i := 8) (oi := ⟨_, _, _, _, _, _⟩) (v := ?_) rfl (by kernel_rfl) (by kernel_rfl) (by kernel_rfl) (by kernel_rfl) (by kernel_rfl) (fun _ _ _ h => h) (Or.inl ⟨by rfl, ?_⟩) (by assumption) ?_
      rotate_left 1
      · intro W' hSw
        go_simp
        try with_reducible rfl
      try simp only [Act.put, List.setIfInBounds_toArray, List.set_cons_zero, List.set_cons_succ]
      refine wpAnyF_take (i := 9) (oi := ⟨_, _, _, _, _, _⟩) (v := ?_) rfl (by kernel_rfl) (by kernel_rfl) (by kernel_rfl) (by kernel_rfl) (by kernel_rfl) (fun _ _ _ h => h) (Or.inl ⟨by rfl, ?_⟩) (by assumption) ?_
      rotate_left 1
      · intro W' hSw
        go_simp
        try with_reducible rfl
      try simp only [Act.put, List.setIfInBounds_toArray, List.set_cons_zero, List.set_cons_succ]
      refine wpAnyF_take (i := 10) (oi := ⟨_, _, _, _, _, _⟩) (v := ?_) rfl (by kernel_rfl) (by kernel_rfl) (by kernel_rfl) (by kernel_rfl) (by kernel_rfl) (fun _ _ _ h => h) (Or.inl ⟨by rfl, ?_⟩) (by assumption) ?_
      rotate_left 1
      · intro W' hSw
        go_simp
        try with_reducible rfl
      try simp only [Act.put, List.setIfInBounds_toArray, List.set_cons_zero, List.set_cons_succ]
      refine wpAnyF_take (i := 11) (oi := ⟨_, _, _, _, _, _⟩) (v := ?_) rfl (by kernel_rfl) (by kernel_rfl) (by kernel_rfl) (by kernel_rfl) (by kernel_rfl) (fun _ _ _ h => h) (Or.inl ⟨by rfl, ?_⟩) (by assumption) ?_
      rotate_left 1
      · intro W' hSw
        go_simp
        try with_reducible rfl
      try simp only [Act.put, List.setIfInBounds_toArray, List.set_cons_zero, List.set_cons_succ]
      refine wpAnyF_take (i := 12) (oi := ⟨_, _, _, _, _, _⟩) (v := ?_) rfl (by kernel_rfl) (by kernel_rfl) (by kernel_rfl) (by kernel_rfl) (by kernel_rfl) (fun _ _ _ h => h) (Or.inl ⟨by rfl, ?_⟩) (by assumption) ?_
      rotate_left 1
      · intro W' hSw
        go_simp
        try with_reducible rfl
      try simp only [Act.put, List.setIfInBounds_toArray, List.set_cons_zero, List.set_cons_succ]
      refine wpAnyF_take (i := 13) (oi := ⟨_, _, _, _, _, _⟩) (v := ?_) rfl (by kernel_rfl) (by kernel_rfl) (by kernel_rfl) (by kernel_rfl) (by kernel_rfl) (fun _ _ _ h => h) (Or.inl ⟨by rfl, ?_⟩) (by assumption) ?_
      rotate_left 1
      · intro W' hSw
        go_simp
        try with_reducible rfl
      try simp only [Act.put, List.setIfInBounds_toArray, List.set_cons_zero, List.set_cons_succ]
      refine wpAnyF_take (i := 14) (oi := ⟨_, _, _, _, _, _⟩) (v := ?_) rfl (by kernel_rfl) (by kernel_rfl) (by kernel_rfl) (by kernel_rfl) (by kernel_rfl) (fun _ _ _ h => h) (Or.inl ⟨by rfl, ?_⟩) (by assumption) ?_
      rotate_left 1
      · intro W' hSw
        go_simp
        try with_reducible rfl
      try simp only [Act.put, List.setIfInBounds_toArray, List.set_cons_zero, List.set_cons_succ]
      refine wpAnyF_last (o := ⟨_, _, _, _, _, _⟩) (by kernel_rfl) rfl (fun K' hK => ?_)
      go_simp
      refine hq17.mono ?_
      clear hq17
      rintro e V10 ⟨rfl, hV10⟩
      dsimp only
      refine hK.out _ _ ?_
      clear hK K'
      try simp only [Act.put, List.setIfInBounds_toArray, List.set_cons_zero, List.set_cons_succ]
      refine wpAnyF_done (by kernel_rfl) ?_ _
      clear hHeld hV9
      have HP : Hid (Q (.returned (.tuple #[])) V10) := by
        show Q _ _
        rw [HQ.out, HF2.out]
        refine ⟨rfl, n, W.heap.size, x.enc, ?_⟩
        rw [← HE.out]
        exact hV10
      clear hV10
      go_wp2_with fail
      try (first | go_ret | go_ret2 | go_end0)
      exact HP.out
end Go.Proofs.Qxb6500786aGreat
