import Derived.DeepKeys2
import Derived.Test.Qxb6500786aGreatPc
import Derived.Test.Qxb6500786aGreatLt
import Derived.Test.Qxb6500786aGreatLu

import Derived.StillTailTactics
import Derived.Deep.QuietTactic
import Derived.BigQuiet
import Derived.Deep.RegionHeld
import Derived.Deep.CutRange
import Derived.Laws.ResultCell
import Derived.Laws.Rows
import Derived.DeepKeys
import Derived.DataBytes
import Derived.Laws.StructEq
import Derived.Laws.AppendOwn
import Derived.Laws.MakeOwn
import Derived.Lib.AppendStr
set_option linter.unusedSimpArgs false
set_option linter.unusedVariables false
namespace Go.Proofs.Qxb6500786aGreat
open Go.RowKit Go.Blk
attribute [local go_sem ↓] execOp_load execOp_store execOp_alloc
attribute [local go_sem] Tryz.ld24 Tryz.st24 Tryz.ld36 Tryz.st36 Tryz.ld28 Tryz.st28 Tryz.ld32 Tryz.st32 Tryz.ld33 Tryz.st33 Tryz.ld34 Tryz.st34 Tryz.ld5 Tryz.st5 Tryz.ld31 Tryz.st31 Tryz.ld30 Tryz.st30 Tryz.ld41 Tryz.st41 Tryz.ld44 Tryz.st44 Tryz.ld4 Tryz.st4 Tryz.ld173 Tryz.st173 Tryz.ld174 Tryz.st174 Tryz.ld95 Tryz.st95 Tryz.ld45 Tryz.st45 Tryz.ld207 Tryz.st207 Tryz.ld3 Tryz.st3 Tryz.ld189 Tryz.st189 Tryz.ld2 Tryz.st2 Tryz.ld9 Tryz.st9 Tryz.ld12 Tryz.st12 Tryz.ld21 Tryz.st21 Tryz.ld22 Tryz.st22 Tryz.ld46 Tryz.st46 Tryz.ld92 Tryz.st92 Tryz.ld94 Tryz.st94 Tryz.ld96 Tryz.st96 Tryz.ld97 Tryz.st97 Tryz.ld105 Tryz.st105 Tryz.ld117 Tryz.st117 Tryz.ld122 Tryz.st122 Tryz.ld123 Tryz.st123 Tryz.ld133 Tryz.st133 Tryz.ld155 Tryz.st155 Tryz.ld163 Tryz.st163 Tryz.ld190 Tryz.st190 Tryz.ld197 Tryz.st197 Tryz.ld201 Tryz.st201 Tryz.ld202 Tryz.st202 Tryz.ld209 Tryz.st209 Tryz.ld216 Tryz.st216 Tryz.ld230 Tryz.st230 Tryz.ld238 Tryz.st238 Tryz.ld242 Tryz.st242 Tryz.ld251 Tryz.st251 Tryz.ld260 Tryz.st260 Tryz.ld286 Tryz.st286 Tryz.ld292 Tryz.st292 Tryz.ld298 Tryz.st298 Tryz.ld309 Tryz.st309 Tryz.ld35 Tryz.st35 Tryz.ld48 Tryz.st48 Tryz.ld47 Tryz.st47 Tryz.ld79 Tryz.st79 Tryz.ld177 Tryz.st177 Tryz.ld180 Tryz.st180 Tryz.ld231 Tryz.st231 Tryz.ld232 Tryz.st232 Tryz.ld26 Tryz.st26 Tryz.ld38 Tryz.st38 Tryz.ld40 Tryz.st40 Tryz.ld43 Tryz.st43 Tryz.ld50 Tryz.st50 Tryz.ld52 Tryz.st52 Tryz.ld54 Tryz.st54 Tryz.ld81 Tryz.st81 Tryz.ld112 Tryz.st112 Tryz.ld120 Tryz.st120 Tryz.ld176 Tryz.st176 Tryz.ld179 Tryz.st179 Tryz.ld182 Tryz.st182 Tryz.ld184 Tryz.st184 Tryz.ld234 Tryz.st234 Tryz.ld236 Tryz.st236 Tryz.ld240 Tryz.st240 Tryz.ld246 Tryz.st246 Tryz.ld249 Tryz.st249 Tryz.al35 Tryz.al48 Tryz.al47 Tryz.al79 Tryz.al177 Tryz.al180 Tryz.al231 Tryz.al232 Tryz.al26 Tryz.al38 Tryz.al40 Tryz.al43 Tryz.al50 Tryz.al52 Tryz.al54 Tryz.al81 Tryz.al112 Tryz.al120 Tryz.al176 Tryz.al179 Tryz.al182 Tryz.al184 Tryz.al234 Tryz.al236 Tryz.al240 Tryz.al246 Tryz.al249
attribute [local go_sem] Player.length_enc Player.ok_enc Player.all_get Player.all_set Player.hand_get Player.hand_set Player.aside_get Player.aside_set Message.length_enc Message.ok_enc Message.all_get Message.all_set Message.kind_get Message.kind_set Message.from__get Message.from__set Message.to__get Message.to__set Message.sender_get Message.sender_set Message.receiver_get Message.receiver_set Message.seq_get Message.seq_set Message.token_get Message.token_set Message.amount_get Message.amount_set Message.size_get Message.size_set Message.payload_get Message.payload_set Tx.length_enc Tx.ok_enc Tx.all_get Tx.all_set Tx.kind_get Tx.kind_set Tx.chain_get Tx.chain_set Tx.from__get Tx.from__set Tx.nonce_get Tx.nonce_set Tx.fee_get Tx.fee_set Tx.to__get Tx.to__set Tx.dest_get Tx.dest_set Tx.token_get Tx.token_set Tx.amount_get Tx.amount_set Tx.size_get Tx.size_set Tx.payload_get Tx.payload_set Tx.msg_get Tx.msg_set Tx.msg_kind_get Tx.msg_kind_set Tx.msg_from__get Tx.msg_from__set Tx.msg_to__get Tx.msg_to__set Tx.msg_sender_get Tx.msg_sender_set Tx.msg_receiver_get Tx.msg_receiver_set Tx.msg_seq_get Tx.msg_seq_set Tx.msg_token_get Tx.msg_token_set Tx.msg_amount_get Tx.msg_amount_set Tx.msg_size_get Tx.msg_size_set Tx.msg_payload_get Tx.msg_payload_set GOp.length_enc GOp.ok_enc GOp.all_get GOp.all_set GOp.kind_get GOp.kind_set GOp.tx_get GOp.tx_set GOp.txs_get GOp.txs_set GOp.gas_get GOp.gas_set GOp.acct_get GOp.acct_set GOp.token_get GOp.token_set GOp.chain_get GOp.chain_set GOp.seq_get GOp.seq_set GOp.tx_kind_get GOp.tx_kind_set GOp.tx_chain_get GOp.tx_chain_set GOp.tx_from__get GOp.tx_from__set GOp.tx_nonce_get GOp.tx_nonce_set GOp.tx_fee_get GOp.tx_fee_set GOp.tx_to__get GOp.tx_to__set GOp.tx_dest_get GOp.tx_dest_set GOp.tx_token_get GOp.tx_token_set GOp.tx_amount_get GOp.tx_amount_set GOp.tx_size_get GOp.tx_size_set GOp.tx_payload_get GOp.tx_payload_set GOp.tx_msg_get GOp.tx_msg_set GOp.tx_msg_kind_get GOp.tx_msg_kind_set GOp.tx_msg_from__get GOp.tx_msg_from__set GOp.tx_msg_to__get GOp.tx_msg_to__set GOp.tx_msg_sender_get GOp.tx_msg_sender_set GOp.tx_msg_receiver_get GOp.tx_msg_receiver_set GOp.tx_msg_seq_get GOp.tx_msg_seq_set GOp.tx_msg_token_get GOp.tx_msg_token_set GOp.tx_msg_amount_get GOp.tx_msg_amount_set GOp.tx_msg_size_get GOp.tx_msg_size_set GOp.tx_msg_payload_get GOp.tx_msg_payload_set Summary.length_enc Summary.ok_enc Summary.all_get Summary.all_set Summary.height_get Summary.height_set Summary.txs_get Summary.txs_set Summary.gas_get Summary.gas_set Summary.fees_get Summary.fees_set Summary.sent_get Summary.sent_set Summary.took_get Summary.took_set Summary.minted_get Summary.minted_set Summary.burned_get Summary.burned_set Summary.root_get Summary.root_set Detail.length_enc Detail.ok_enc Detail.all_get Detail.all_set Detail.code_get Detail.code_set Detail.have__get Detail.have__set Detail.need_get Detail.need_set Slot.length_enc Slot.ok_enc Slot.all_get Slot.all_set Slot.nonce_get Slot.nonce_set Slot.balances_get Slot.balances_set Tree.length_enc Tree.ok_enc Tree.all_get Tree.all_set Tree.leaves_get Tree.leaves_set Mark.length_enc Mark.ok_enc Mark.all_get Mark.all_set Mark.from__get Mark.from__set Mark.seq_get Mark.seq_set Receipt.length_enc Receipt.ok_enc Receipt.all_get Receipt.all_set Receipt.code_get Receipt.code_set Receipt.hash_get Receipt.hash_set Receipt.index_get Receipt.index_set Receipt.gas_get Receipt.gas_set Receipt.fee_get Receipt.fee_set Receipt.hasSent_get Receipt.hasSent_set Receipt.sent_get Receipt.sent_set Receipt.hasTook_get Receipt.hasTook_set Receipt.took_get Receipt.took_set Receipt.sent_kind_get Receipt.sent_kind_set Receipt.sent_from__get Receipt.sent_from__set Receipt.sent_to__get Receipt.sent_to__set Receipt.sent_sender_get Receipt.sent_sender_set Receipt.sent_receiver_get Receipt.sent_receiver_set Receipt.sent_seq_get Receipt.sent_seq_set Receipt.sent_token_get Receipt.sent_token_set Receipt.sent_amount_get Receipt.sent_amount_set Receipt.sent_size_get Receipt.sent_size_set Receipt.sent_payload_get Receipt.sent_payload_set Receipt.took_kind_get Receipt.took_kind_set Receipt.took_from__get Receipt.took_from__set Receipt.took_to__get Receipt.took_to__set Receipt.took_sender_get Receipt.took_sender_set Receipt.took_receiver_get Receipt.took_receiver_set Receipt.took_seq_get Receipt.took_seq_set Receipt.took_token_get Receipt.took_token_set Receipt.took_amount_get Receipt.took_amount_set Receipt.took_size_get Receipt.took_size_set Receipt.took_payload_get Receipt.took_payload_set Store.length_enc Store.ok_enc Store.all_get Store.all_set Store.now_get Store.now_set Store.saved_get Store.saved_set GState.length_enc GState.ok_enc GState.all_get GState.all_set GState.kv_get GState.kv_set GState.tree_get GState.tree_set GState.stale_get GState.stale_set GState.touched_get GState.touched_set GState.kv_now_get GState.kv_now_set GState.kv_saved_get GState.kv_saved_set GState.tree_leaves_get GState.tree_leaves_set History.length_enc History.ok_enc History.all_get History.all_set History.ring_get History.ring_set History.closed_get History.closed_set Ledger.length_enc Ledger.ok_enc Ledger.all_get Ledger.all_set Ledger.chain_get Ledger.chain_set Ledger.st_get Ledger.st_set Ledger.height_get Ledger.height_set Ledger.open__get Ledger.open__set Ledger.gasLimit_get Ledger.gasLimit_set Ledger.past_get Ledger.past_set Ledger.begun_get Ledger.begun_set Ledger.sent_get Ledger.sent_set Ledger.took_get Ledger.took_set Ledger.receipts_get Ledger.receipts_set Ledger.st_kv_get Ledger.st_kv_set Ledger.st_tree_get Ledger.st_tree_set Ledger.st_stale_get Ledger.st_stale_set Ledger.st_touched_get Ledger.st_touched_set Ledger.st_kv_now_get Ledger.st_kv_now_set Ledger.st_kv_saved_get Ledger.st_kv_saved_set Ledger.st_tree_leaves_get Ledger.st_tree_leaves_set Ledger.past_ring_get Ledger.past_ring_set Ledger.past_closed_get Ledger.past_closed_set Ledger.begun_kv_get Ledger.begun_kv_set Ledger.begun_tree_get Ledger.begun_tree_set Ledger.begun_stale_get Ledger.begun_stale_set Ledger.begun_touched_get Ledger.begun_touched_set Ledger.begun_kv_now_get Ledger.begun_kv_now_set Ledger.begun_kv_saved_get Ledger.begun_kv_saved_set Ledger.begun_tree_leaves_get Ledger.begun_tree_leaves_set Purse.length_enc Purse.ok_enc Purse.all_get Purse.all_set Purse.st_get Purse.st_set Purse.n_get Purse.n_set Purse.account_get Purse.account_set Purse.token_get Purse.token_set Purse.amount_get Purse.amount_set Plan.length_enc Plan.ok_enc Plan.all_get Plan.all_set Plan.purse_get Plan.purse_set Plan.nonce_get Plan.nonce_set Plan.gasUsed_get Plan.gasUsed_set Plan.fees_get Plan.fees_set Plan.hasSupply_get Plan.hasSupply_set Plan.token_get Plan.token_set Plan.supply_get Plan.supply_set Plan.flowAt_get Plan.flowAt_set Plan.flow_get Plan.flow_set Plan.receipt_get Plan.receipt_set Plan.purse_st_get Plan.purse_st_set Plan.purse_n_get Plan.purse_n_set Plan.purse_account_get Plan.purse_account_set Plan.purse_token_get Plan.purse_token_set Plan.purse_amount_get Plan.purse_amount_set Plan.receipt_code_get Plan.receipt_code_set Plan.receipt_hash_get Plan.receipt_hash_set Plan.receipt_index_get Plan.receipt_index_set Plan.receipt_gas_get Plan.receipt_gas_set Plan.receipt_fee_get Plan.receipt_fee_set Plan.receipt_hasSent_get Plan.receipt_hasSent_set Plan.receipt_sent_get Plan.receipt_sent_set Plan.receipt_hasTook_get Plan.receipt_hasTook_set Plan.receipt_took_get Plan.receipt_took_set Plan.receipt_sent_kind_get Plan.receipt_sent_kind_set Plan.receipt_sent_from__get Plan.receipt_sent_from__set Plan.receipt_sent_to__get Plan.receipt_sent_to__set Plan.receipt_sent_sender_get Plan.receipt_sent_sender_set Plan.receipt_sent_receiver_get Plan.receipt_sent_receiver_set Plan.receipt_sent_seq_get Plan.receipt_sent_seq_set Plan.receipt_sent_token_get Plan.receipt_sent_token_set Plan.receipt_sent_amount_get Plan.receipt_sent_amount_set Plan.receipt_sent_size_get Plan.receipt_sent_size_set Plan.receipt_sent_payload_get Plan.receipt_sent_payload_set Plan.receipt_took_kind_get Plan.receipt_took_kind_set Plan.receipt_took_from__get Plan.receipt_took_from__set Plan.receipt_took_to__get Plan.receipt_took_to__set Plan.receipt_took_sender_get Plan.receipt_took_sender_set Plan.receipt_took_receiver_get Plan.receipt_took_receiver_set Plan.receipt_took_seq_get Plan.receipt_took_seq_set Plan.receipt_took_token_get Plan.receipt_took_token_set Plan.receipt_took_amount_get Plan.receipt_took_amount_set Plan.receipt_took_size_get Plan.receipt_took_size_set Plan.receipt_took_payload_get Plan.receipt_took_payload_set Move.length_enc Move.ok_enc Move.all_get Move.all_set Move.account_get Move.account_set Move.token_get Move.token_set Move.down_get Move.down_set Move.amount_get Move.amount_set Books.length_enc Books.ok_enc Books.all_get Books.all_set Books.sums_get Books.sums_set Books.stored_get Books.stored_set Books.marks_get Books.marks_set Pair.length_enc Pair.ok_enc Pair.all_get Pair.all_set Pair.key_get Pair.key_set Pair.value_get Pair.value_set
attribute [local go_sem] size_put size_ext blk_put free_put blk_alloc free_alloc blk_drew free_drew blk_ext free_ext lookOr_some putOr_some segAt_some cellAt_some storeIn_some put_put put_alloc_new length_arr ok_arr_u8 ok_arr_u32 ok_arr_u64 ok_arr_i64 ok_arr_sl cellsV_agg cellsV_int cellsV_bool cellsV_string cellsV_pointer cellsV_slice cellsV_sl ok_int ok_bool ok_string ok_pointer ok_slice ok_sl toList_arr seg_arr set_arr nth_splice nth_splice0 seg_splice seg_splice0 splice_splice splice_splice0 length_splice_if
attribute [local go_sem ↓] execOp_box
attribute [local go_sem] box_run nth_arr_u8 put_arr_u8 blk_drewN free_drewN put_drewN blk_raw free_raw
set_option maxRecDepth 1000000 in
theorem build120_0 (w : World) (c : Int) (p0 p1 p2 p3 p4 p5 p6 p7 p8 p9 p10 p11 p12 p13 p14 p15 p16 p17 p18 p19 p20 p21 p22 p23 p24 p25 p26 p27 p28 p29 p30 p31 : UInt8) : (buildOp 120 #[(0, .int .i64 c), (1, .agg (arr u8v #v[p0, p1, p2, p3, p4, p5, p6, p7, p8, p9, p10, p11, p12, p13, p14, p15, p16, p17, p18, p19, p20, p21, p22, p23, p24, p25, p26, p27, p28, p29, p30, p31]).toArray)]).run Tryz.prog w = .ok (.value (.agg ({ Receipt.zero with code := c, hash := #v[p0, p1, p2, p3, p4, p5, p6, p7, p8, p9, p10, p11, p12, p13, p14, p15, p16, p17, p18, p19, p20, p21, p22, p23, p24, p25, p26, p27, p28, p29, p30, p31] } : Receipt).enc.toArray)) w := by kernel_rfl
theorem build120 (w : World) (c : Int) (h : Vector UInt8 32) : (buildOp 120 #[(0, .int .i64 c), (1, .agg (arr u8v h).toArray)]).run Tryz.prog w = .ok (.value (.agg ({ Receipt.zero with code := c, hash := h } : Receipt).enc.toArray)) w := by
  rw [lit32 h]
  exact build120_0 ..
attribute [local go_sem ↓] execOp_build
attribute [local go_sem] build120
theorem plnH_sw (L : PLg) (bl : Nat) (x : Tx) : plnH L bl x = { plnH L 0 x with purse := (plnH L bl x).purse } := by
  unfold plnH plnF
  split
  · rfl
  · split <;> rfl
theorem enactF_pu (L : PLg) (x : Tx) (P : Plan) (l : List PE) (p : Purse) : enactF L x { P with purse := p } l = enactF L x P l := rfl
/-- After Apply. -/
def ApPost (O : Own) (W : World) (bl : Nat) (r : PLg × Receipt) (e : Ending) (V : World) : Prop := e = .returned (.agg r.2.enc.toArray) ∧ ∃ O', LedA O' V bl r.1 ∧ Lg (lgP bl) O W O' V
set_option maxRecDepth 20000 in
set_option maxHeartbeats 8000000 in
theorem apply_any (O : Own) (W : World) (bl : Nat) (L : PLg) (x : Tx) (hL : LedA O W bl L) (hI : ApI L) : Calls Tryz.prog 84 #[.pointer (some ⟨bl, 0, none⟩), .agg x.enc.toArray] W (ApPost O W bl (appF L x)) := by
  obtain ⟨Q, hQ⟩ : ∃ Q : Ending → World → Prop, Q = ApPost O W bl (appF L x) := ⟨_, rfl⟩
  rw [← hQ]
  have HQ := hid_of hQ
  obtain ⟨V3, hV3⟩ : ∃ V3 : World, V3 = ((W.alloc (.cells x.enc.toArray 40)).alloc (.cells Receipt.zero.enc.toArray 120)).alloc (.cells Plan.zero.enc.toArray 236) := ⟨_, rfl⟩
  have hx3 : W.Extends V3 := by rw [hV3]; exact extends_alloc (extends_alloc (extends_alloc (ext_Ext (Ext.refl _)) _) _) _
  have hsz : V3.heap.size = W.heap.size + 3 := by rw [hV3]; simp only [World.size_alloc]
  obtain ⟨O3, hO3⟩ : ∃ O3 : Own, O3 = lab (lab O W.heap.size .no) (W.heap.size + 1 + 1) (.a bl 8) := ⟨_, rfl⟩
  have hO : ∀ k, k < W.heap.size → O3 k = O k := fun k hk => by rw [hO3, lab_lt (by omega), lab_lt hk]
  have o0 : O3 W.heap.size = .no := by rw [hO3, lab_lt (by omega), lab_ge (by omega)]
  have o1 : O3 (W.heap.size + 1) = .no := by rw [hO3, lab_lt (by omega), lab_ge (by omega)]
  have o2 : O3 (W.heap.size + 1 + 1) = .a bl 8 := by rw [hO3, lab_ge (by omega)]
  have kx3 : blk V3 W.heap.size = some x.enc := by
    rw [hV3, blk_alloc, if_neg (by simp only [World.size_alloc]; omega), blk_alloc, if_neg (by simp only [World.size_alloc]; omega), blk_alloc, if_pos rfl]
  have kr3 : blk V3 (W.heap.size + 1) = some Receipt.zero.enc := by
    rw [hV3, blk_alloc, if_neg (by simp only [World.size_alloc]; omega), blk_alloc, if_pos (by simp only [World.size_alloc])]
  have kp3 : blk V3 (W.heap.size + 1 + 1) = some Plan.zero.enc := by
    rw [hV3, blk_alloc, if_pos (by simp only [World.size_alloc])]
  have kq3 : free V3 (W.heap.size + 1) = true := by
    rw [hV3, free_alloc, if_neg (by simp only [World.size_alloc]; omega), free_alloc, if_pos (by simp only [World.size_alloc])]
  have kf3 : free V3 (W.heap.size + 1 + 1) = true := by
    rw [hV3, free_alloc, if_pos (by simp only [World.size_alloc])]
  have hL3 : LedA O3 V3 bl L := hL.grow hx3 hO
  have HG3 : Hid (Lg (lgP bl) O W O3 V3) := Lg.growO hx3 hO
  have hju := judge_any V3 bl (W.heap.size + 1 + 1) L (hL3.jrd o2) kp3 kf3 x
  have HL3 := hid_of hL3
  have HI := hid_of hI
  have HV3 := hid_of hV3
  have HO := hid_of (And.intro o0 (And.intro o1 o2))
  have HSZ := hid_of hsz
  clear hL hx3 hO3 hO hL3 hQ hV3 hI o0 o1 o2 kp3 kf3 hsz
  have HK3 : Hid (blk V3 W.heap.size = some x.enc ∧ blk V3 (W.heap.size + 1) = some Receipt.zero.enc ∧ free V3 (W.heap.size + 1) = true) := ⟨kx3, kr3, kq3⟩
  clear kr3 kq3
  go_enter Tryz.func84, Tryz.ntmps84
  go_upto_region 2 with fail
  rw [← HV3.out]
  clear HV3
  go_wp2_with fail
  refine hju.mono ?_
  clear hju
  rintro e V4 ⟨rfl, kp4, kf4, hw4⟩
  dsimp only
  have hg4 := hw4.lg O3 HO.out.2.2
  have hL4 := HL3.out.lg8 hg4 (fun j h8 h7 e => h8 (Lab.a.inj e).2)
  have nn : ¬ (Lab.no = .a bl 8) := by intro e; cases e
  have kx4 : blk V4 W.heap.size = some x.enc := hg4.blk HK3.out.1 (by rw [HO.out.1]; exact nn)
  have kr4 : blk V4 (W.heap.size + 1) = some Receipt.zero.enc := hg4.blk HK3.out.2.1 (by rw [HO.out.2.1]; exact nn)
  have kq4 : free V4 (W.heap.size + 1) = true := hg4.free HK3.out.2.1 HK3.out.2.2 (by rw [HO.out.2.1]; exact nn)
  have HG4 : Hid (Lg (lgP bl) O W (lab O3 V3.heap.size .no) V4) := HG3.out.trans (hg4.mono (fun l e => ⟨_, e⟩))
  have HL4 := hid_of hL4
  have HO4 : Hid (lab O3 V3.heap.size .no W.heap.size = .no ∧ lab O3 V3.heap.size .no (W.heap.size + 1) = .no ∧ lab O3 V3.heap.size .no (W.heap.size + 1 + 1) = .a bl 8) := by
    have hs := HSZ.out
    exact ⟨by rw [lab_lt (by omega)]; exact HO.out.1, by rw [lab_lt (by omega)]; exact HO.out.2.1, by rw [lab_lt (by omega)]; exact HO.out.2.2⟩
  generalize lab O3 V3.heap.size .no = O4 at HG4 HL4 HO4
  clear hL4 hw4 hg4 HK3 HL3 HG3 HO HSZ kx3 nn
  have hh4 := hashTx_any V4 x
  by_cases hc : (judR L bl x).1 = 0
  rotate_left 1
  · have HP : Hid (∀ V5, V4.Extends V5 → Q (.returned (.agg ({ Receipt.zero with code := (judR L bl x).1, hash := hashF x } : Receipt).enc.toArray)) (put V5 (W.heap.size + 1) ({ Receipt.zero with code := (judR L bl x).1, hash := hashF x } : Receipt).enc)) := by
      intro V5 he
      show Q _ _
      rw [HQ.out]
      have hz : (judR L bl x).1 = (judR L 0 x).1 := by rw [judR_sw]; rfl
      unfold appF
      rw [if_neg (by rw [← hz]; exact hc), hz]
      have h5 := HL4.out.ext he
      have g5 := HG4.out.ext he
      have hn : lab O4 V4.heap.size .no (W.heap.size + 1) = .no := by rw [lab_lt (blk_lt kr4)]; exact HO4.out.2.1
      have hpk : Lg (fun l => l = Lab.no) (lab O4 V4.heap.size .no) V5 (lab O4 V4.heap.size .no) (put V5 (W.heap.size + 1) ({ Receipt.zero with code := (judR L 0 x).1, hash := hashF x } : Receipt).enc) := Lg.put (P := fun l => l = Lab.no) (Lg.refl _ _ _) hn _
      refine ⟨rfl, _, h5.lg8 hpk (fun j _ _ e => by cases e), g5.put_new (by omega) _⟩
    generalize (judR L bl x).1 = cd at hc HP ⊢
    have hcb : (cd == 0) = false := by simp [hc]
    clear kp4 kf4 HL4 HG4 HO4 HI HQ
    go_wp2_with fail
    refine hh4.mono ?_
    clear hh4
    rintro e V5 ⟨rfl, he5⟩
    dsimp only
    have kr5 : blk V5 (W.heap.size + 1) = some Receipt.zero.enc := (he5.blk (blk_lt kr4)).trans kr4
    have kq5 : free V5 (W.heap.size + 1) = true := (free_of_heap (he5.block _ (blk_lt kr4))).trans kq4
    have HP5 := hid_of (HP.out V5 he5)
    clear HP he5 kr4 kq4 kx4
    go_wp2_with fail
    refine ret_cell (C := ({ Receipt.zero with code := cd, hash := hashF x } : Receipt).enc) rfl rfl (by rw [blk_put, if_pos rfl, kr5]; rfl) (by kernel_rfl) (by rw [Receipt.length_enc]; kernel_rfl) rfl ?_
    exact HP5.out
  obtain ⟨hj, hpl⟩ := judR_ok hc
  rw [hpl] at kp4
  rw [hc]
  have HJ := hid_of hj
  have hz : (judR L 0 x).1 = 0 := by
    have h9 := hc
    rw [judR_sw] at h9
    exact h9
  have HF : Hid (appF L x = ({ enactF L x (plnH L 0 x) (purL L.st.now x) with receipts := L.receipts.take (ldF L.st.now (keyC 3)).toNat ++ [appR L x] }, appR L x)) := by
    show appF L x = _
    unfold appF
    rw [if_pos hz]
  clear hc hpl hj hz
  go_wp2_with fail
  refine hh4.mono ?_
  clear hh4
  rintro e V5 ⟨rfl, he5⟩
  dsimp only
  have kx5 : blk V5 W.heap.size = some x.enc := (he5.blk (blk_lt kx4)).trans kx4
  have kr5 : blk V5 (W.heap.size + 1) = some Receipt.zero.enc := (he5.blk (blk_lt kr4)).trans kr4
  have kq5 : free V5 (W.heap.size + 1) = true := (free_of_heap (he5.block _ (blk_lt kr4))).trans kq4
  have kp5 : blk V5 (W.heap.size + 1 + 1) = some (plnF L bl x).enc := (he5.blk (blk_lt kp4)).trans kp4
  have kf5 : free V5 (W.heap.size + 1 + 1) = true := (free_of_heap (he5.block _ (blk_lt kp4))).trans kf4
  have HL5 := hid_of (HL4.out.ext he5)
  have HG5 := hid_of (HG4.out.ext he5)
  have HO5 : Hid (lab O4 V4.heap.size .no W.heap.size = .no ∧ lab O4 V4.heap.size .no (W.heap.size + 1) = .no ∧ lab O4 V4.heap.size .no (W.heap.size + 1 + 1) = .a bl 8) := ⟨by rw [lab_lt (blk_lt kx4)]; exact HO4.out.1, by rw [lab_lt (blk_lt kr4)]; exact HO4.out.2.1, by rw [lab_lt (blk_lt kp4)]; exact HO4.out.2.2⟩
  generalize lab O4 V4.heap.size .no = O5 at HL5 HG5 HO5
  clear HL4 HG4 HO4 he5 kx4 kr4 kq4 kp4 kf4
  have hsp : splice (plnF L bl x).enc 23 (arr u8v (hashF x)) = (plnH L bl x).enc := by
    rw [Plan.receipt_hash_set, plnF_rcp]; rfl
  obtain ⟨E, hE⟩ : ∃ E, E = (plnF L bl x).enc := ⟨_, rfl⟩
  have gE : E.length = 142 := by rw [hE]; exact Plan.length_enc _
  rw [← hE] at kp5 hsp
  clear hE
  obtain ⟨V6, hV6⟩ : ∃ V6 : World, V6 = put V5 (W.heap.size + 1 + 1) (splice E 23 (arr u8v (hashF x))) := ⟨_, rfl⟩
  have hpk : Lg (fun l => l = .a bl 8) O5 V5 O5 V6 := by rw [hV6]; exact Lg.put (P := fun l => l = .a bl 8) (Lg.refl _ _ _) HO5.out.2.2 _
  have kp6 : blk V6 (W.heap.size + 1 + 1) = some (plnH L bl x).enc := by rw [hV6, blk_put, if_pos rfl, kp5, ← hsp]; rfl
  have kf6 : free V6 (W.heap.size + 1 + 1) = true := by rw [hV6, free_put]; exact kf5
  have kx6 : blk V6 W.heap.size = some x.enc := by rw [hV6, blk_put, if_neg (by omega)]; exact kx5
  have kr6 : blk V6 (W.heap.size + 1) = some Receipt.zero.enc := by rw [hV6, blk_put, if_neg (by omega)]; exact kr5
  have kq6 : free V6 (W.heap.size + 1) = true := by rw [hV6, free_put]; exact kq5
  have hL6 := HL5.out.lg8 hpk (fun j h8 h7 e => h8 (Lab.a.inj e).2)
  have hG6 := HG5.out.trans (hpk.mono (fun l e => ⟨_, e⟩))
  have hen := enact_any O5 V6 bl (W.heap.size + 1 + 1) L x (plnH L bl x) (purL L.st.now x) hL6 kp6 kf6 HO5.out.2.2 (plnF_purse L bl x) (acc_enR HJ.out HI.out)
  have HG6 := hid_of hG6
  have HV6 := hid_of hV6
  have HK6 : Hid (blk V6 (W.heap.size + 1) = some Receipt.zero.enc ∧ free V6 (W.heap.size + 1) = true) := ⟨kr6, kq6⟩
  clear hpk hL6 hG6 HL5 HG5 kp6 kf6 kr6 kq6 kx5 kr5 kq5 hV6 hsp
  go_upto_region 6 with fail
  rw [← HV6.out]
  clear HV6 kp5 kf5 gE
  go_wp2_with fail
  refine hen.mono ?_
  clear hen
  rintro e V7 ⟨rfl, n, bx, X, h7⟩
  dsimp only
  obtain ⟨O7, hL7, hg7, h78, -⟩ := h7.led
  have kp7 := h7.hp
  have kf7 := h7.hf
  have kr7 : blk V7 (W.heap.size + 1) = some Receipt.zero.enc := hg7.blk HK6.out.1 (by rw [HO5.out.2.1]; exact lgP_no bl)
  have kq7 : free V7 (W.heap.size + 1) = true := hg7.free HK6.out.1 HK6.out.2 (by rw [HO5.out.2.1]; exact lgP_no bl)
  have o17 : O7 (W.heap.size + 1) = .no := (hg7.lab HK6.out.1 (by rw [HO5.out.2.1]; exact lgP_no bl)).trans HO5.out.2.1
  have HG7 := hid_of (HG6.out.trans hg7)
  have hrc : (enactF L x (plnH L bl x) (purL L.st.now x)).receipts = L.receipts := by
    unfold enactF
    split
    · rfl
    · split <;> rfl
  have hsw : enactF L x (plnH L bl x) (purL L.st.now x) = enactF L x (plnH L 0 x) (purL L.st.now x) := by
    rw [plnH_sw L bl x]
    exact enactF_pu _ _ _ _ _
  have hkr := keepReceipt_any O7 V7 bl _ (appR L x) hL7 (by rw [hrc, appR_index]; exact HI.out.c3) (by rw [hrc]; exact HI.out.l3)
  rw [hrc, appR_index, hsw] at hkr
  obtain ⟨E7, hE7⟩ : ∃ E7, E7 = ({ plnH L bl x with purse := { (plnH L bl x).purse with n := n } } : Plan).enc := ⟨_, rfl⟩
  have sE : seg E7 22 120 = (appR L x).enc := by rw [hE7]; exact Plan.receipt_get _
  have gE : E7.length = 142 := by rw [hE7]; exact Plan.length_enc _
  rw [← hE7] at kp7
  have H78 := hid_of h78
  have HO17 := hid_of o17
  clear h7 hL7 hg7 hE7 h78 o17 hrc hsw HK6 HG6 HI HJ HO5 kx6
  go_wp2_with fail
  refine hkr.mono ?_
  clear hkr
  rintro e V8 ⟨rfl, O8, hL8, hg8⟩
  dsimp only
  have n8 : ¬ krP bl (.a bl 8) := by rintro (e | e) <;> (have := (Lab.a.inj e).2; omega)
  have n0 : ¬ krP bl .no := by rintro (e | e) <;> cases e
  have kp8 : blk V8 (W.heap.size + 1 + 1) = some E7 := hg8.blk kp7 (by rw [H78.out]; exact n8)
  have kr8 : blk V8 (W.heap.size + 1) = some Receipt.zero.enc := hg8.blk kr7 (by rw [HO17.out]; exact n0)
  have kq8 : free V8 (W.heap.size + 1) = true := hg8.free kr7 kq7 (by rw [HO17.out]; exact n0)
  have HP : Hid (Q (.returned (.agg (appR L x).enc.toArray)) (put V8 (W.heap.size + 1) (appR L x).enc)) := by
    show Q _ _
    rw [HQ.out, HF.out]
    have o18 : O8 (W.heap.size + 1) = .no := (hg8.lab kr7 (by rw [HO17.out]; exact n0)).trans HO17.out
    have hpk : Lg (fun l => l = Lab.no) O8 V8 O8 (put V8 (W.heap.size + 1) (appR L x).enc) := Lg.put (P := fun l => l = Lab.no) (Lg.refl _ _ _) o18 _
    refine ⟨rfl, O8, hL8.lg8 hpk (fun j _ _ e => by cases e), Lg.put_new (HG7.out.trans (hg8.mono (fun l e => e.elim (fun e => ⟨_, e⟩) (fun e => ⟨_, e⟩)))) (by omega) _⟩
  clear hL8 hg8 HG7 H78 HO17 kp7 kf7 kr7 kq7 HQ HF n8 n0
  generalize appR L x = r at sE HP ⊢
  go_wp2_with fail
  refine ret_cell (C := r.enc) rfl rfl (by rw [blk_put, if_pos rfl, kr8]; rfl) (by kernel_rfl) (by rw [Receipt.length_enc]; kernel_rfl) rfl ?_
  exact HP.out
end Go.Proofs.Qxb6500786aGreat
