import Derived.DeepKeys2
import Derived.Test.Qxb6500786aGreatJr
import Derived.Test.Qxb6500786aGreatJo

import Derived.StillTailTactics
import Derived.Deep.QuietTactic
import Derived.BigQuiet
import Derived.Deep.RegionHeld
import Derived.Deep.CutRange
import Derived.Laws.ResultCell
import Derived.Laws.Rows
import Derived.DeepKeys
import Derived.DataBytes
import Derived.Laws.StructEq
import Derived.Laws.AppendOwn
import Derived.Laws.MakeOwn
import Derived.Lib.AppendStr
set_option linter.unusedSimpArgs false
set_option linter.unusedVariables false
namespace Go.Proofs.Qxb6500786aGreat
open Go.RowKit Go.Blk
attribute [local go_sem ↓] execOp_load execOp_store execOp_alloc
attribute [local go_sem] Tryz.ld24 Tryz.st24 Tryz.ld36 Tryz.st36 Tryz.ld28 Tryz.st28 Tryz.ld32 Tryz.st32 Tryz.ld33 Tryz.st33 Tryz.ld34 Tryz.st34 Tryz.ld5 Tryz.st5 Tryz.ld31 Tryz.st31 Tryz.ld30 Tryz.st30 Tryz.ld41 Tryz.st41 Tryz.ld44 Tryz.st44 Tryz.ld4 Tryz.st4 Tryz.ld173 Tryz.st173 Tryz.ld174 Tryz.st174 Tryz.ld95 Tryz.st95 Tryz.ld45 Tryz.st45 Tryz.ld207 Tryz.st207 Tryz.ld3 Tryz.st3 Tryz.ld189 Tryz.st189 Tryz.ld2 Tryz.st2 Tryz.ld9 Tryz.st9 Tryz.ld12 Tryz.st12 Tryz.ld21 Tryz.st21 Tryz.ld22 Tryz.st22 Tryz.ld46 Tryz.st46 Tryz.ld92 Tryz.st92 Tryz.ld94 Tryz.st94 Tryz.ld96 Tryz.st96 Tryz.ld97 Tryz.st97 Tryz.ld105 Tryz.st105 Tryz.ld117 Tryz.st117 Tryz.ld122 Tryz.st122 Tryz.ld123 Tryz.st123 Tryz.ld133 Tryz.st133 Tryz.ld155 Tryz.st155 Tryz.ld163 Tryz.st163 Tryz.ld190 Tryz.st190 Tryz.ld197 Tryz.st197 Tryz.ld201 Tryz.st201 Tryz.ld202 Tryz.st202 Tryz.ld209 Tryz.st209 Tryz.ld216 Tryz.st216 Tryz.ld230 Tryz.st230 Tryz.ld238 Tryz.st238 Tryz.ld242 Tryz.st242 Tryz.ld251 Tryz.st251 Tryz.ld260 Tryz.st260 Tryz.ld286 Tryz.st286 Tryz.ld292 Tryz.st292 Tryz.ld298 Tryz.st298 Tryz.ld309 Tryz.st309 Tryz.ld35 Tryz.st35 Tryz.ld48 Tryz.st48 Tryz.ld47 Tryz.st47 Tryz.ld79 Tryz.st79 Tryz.ld177 Tryz.st177 Tryz.ld180 Tryz.st180 Tryz.ld231 Tryz.st231 Tryz.ld232 Tryz.st232 Tryz.ld26 Tryz.st26 Tryz.ld38 Tryz.st38 Tryz.ld40 Tryz.st40 Tryz.ld43 Tryz.st43 Tryz.ld50 Tryz.st50 Tryz.ld52 Tryz.st52 Tryz.ld54 Tryz.st54 Tryz.ld81 Tryz.st81 Tryz.ld112 Tryz.st112 Tryz.ld120 Tryz.st120 Tryz.ld176 Tryz.st176 Tryz.ld179 Tryz.st179 Tryz.ld182 Tryz.st182 Tryz.ld184 Tryz.st184 Tryz.ld234 Tryz.st234 Tryz.ld236 Tryz.st236 Tryz.ld240 Tryz.st240 Tryz.ld246 Tryz.st246 Tryz.ld249 Tryz.st249 Tryz.al35 Tryz.al48 Tryz.al47 Tryz.al79 Tryz.al177 Tryz.al180 Tryz.al231 Tryz.al232 Tryz.al26 Tryz.al38 Tryz.al40 Tryz.al43 Tryz.al50 Tryz.al52 Tryz.al54 Tryz.al81 Tryz.al112 Tryz.al120 Tryz.al176 Tryz.al179 Tryz.al182 Tryz.al184 Tryz.al234 Tryz.al236 Tryz.al240 Tryz.al246 Tryz.al249
attribute [local go_sem] Player.length_enc Player.ok_enc Player.all_get Player.all_set Player.hand_get Player.hand_set Player.aside_get Player.aside_set Message.length_enc Message.ok_enc Message.all_get Message.all_set Message.kind_get Message.kind_set Message.from__get Message.from__set Message.to__get Message.to__set Message.sender_get Message.sender_set Message.receiver_get Message.receiver_set Message.seq_get Message.seq_set Message.token_get Message.token_set Message.amount_get Message.amount_set Message.size_get Message.size_set Message.payload_get Message.payload_set Tx.length_enc Tx.ok_enc Tx.all_get Tx.all_set Tx.kind_get Tx.kind_set Tx.chain_get Tx.chain_set Tx.from__get Tx.from__set Tx.nonce_get Tx.nonce_set Tx.fee_get Tx.fee_set Tx.to__get Tx.to__set Tx.dest_get Tx.dest_set Tx.token_get Tx.token_set Tx.amount_get Tx.amount_set Tx.size_get Tx.size_set Tx.payload_get Tx.payload_set Tx.msg_get Tx.msg_set Tx.msg_kind_get Tx.msg_kind_set Tx.msg_from__get Tx.msg_from__set Tx.msg_to__get Tx.msg_to__set Tx.msg_sender_get Tx.msg_sender_set Tx.msg_receiver_get Tx.msg_receiver_set Tx.msg_seq_get Tx.msg_seq_set Tx.msg_token_get Tx.msg_token_set Tx.msg_amount_get Tx.msg_amount_set Tx.msg_size_get Tx.msg_size_set Tx.msg_payload_get Tx.msg_payload_set GOp.length_enc GOp.ok_enc GOp.all_get GOp.all_set GOp.kind_get GOp.kind_set GOp.tx_get GOp.tx_set GOp.txs_get GOp.txs_set GOp.gas_get GOp.gas_set GOp.acct_get GOp.acct_set GOp.token_get GOp.token_set GOp.chain_get GOp.chain_set GOp.seq_get GOp.seq_set GOp.tx_kind_get GOp.tx_kind_set GOp.tx_chain_get GOp.tx_chain_set GOp.tx_from__get GOp.tx_from__set GOp.tx_nonce_get GOp.tx_nonce_set GOp.tx_fee_get GOp.tx_fee_set GOp.tx_to__get GOp.tx_to__set GOp.tx_dest_get GOp.tx_dest_set GOp.tx_token_get GOp.tx_token_set GOp.tx_amount_get GOp.tx_amount_set GOp.tx_size_get GOp.tx_size_set GOp.tx_payload_get GOp.tx_payload_set GOp.tx_msg_get GOp.tx_msg_set GOp.tx_msg_kind_get GOp.tx_msg_kind_set GOp.tx_msg_from__get GOp.tx_msg_from__set GOp.tx_msg_to__get GOp.tx_msg_to__set GOp.tx_msg_sender_get GOp.tx_msg_sender_set GOp.tx_msg_receiver_get GOp.tx_msg_receiver_set GOp.tx_msg_seq_get GOp.tx_msg_seq_set GOp.tx_msg_token_get GOp.tx_msg_token_set GOp.tx_msg_amount_get GOp.tx_msg_amount_set GOp.tx_msg_size_get GOp.tx_msg_size_set GOp.tx_msg_payload_get GOp.tx_msg_payload_set Summary.length_enc Summary.ok_enc Summary.all_get Summary.all_set Summary.height_get Summary.height_set Summary.txs_get Summary.txs_set Summary.gas_get Summary.gas_set Summary.fees_get Summary.fees_set Summary.sent_get Summary.sent_set Summary.took_get Summary.took_set Summary.minted_get Summary.minted_set Summary.burned_get Summary.burned_set Summary.root_get Summary.root_set Detail.length_enc Detail.ok_enc Detail.all_get Detail.all_set Detail.code_get Detail.code_set Detail.have__get Detail.have__set Detail.need_get Detail.need_set Slot.length_enc Slot.ok_enc Slot.all_get Slot.all_set Slot.nonce_get Slot.nonce_set Slot.balances_get Slot.balances_set Tree.length_enc Tree.ok_enc Tree.all_get Tree.all_set Tree.leaves_get Tree.leaves_set Mark.length_enc Mark.ok_enc Mark.all_get Mark.all_set Mark.from__get Mark.from__set Mark.seq_get Mark.seq_set Receipt.length_enc Receipt.ok_enc Receipt.all_get Receipt.all_set Receipt.code_get Receipt.code_set Receipt.hash_get Receipt.hash_set Receipt.index_get Receipt.index_set Receipt.gas_get Receipt.gas_set Receipt.fee_get Receipt.fee_set Receipt.hasSent_get Receipt.hasSent_set Receipt.sent_get Receipt.sent_set Receipt.hasTook_get Receipt.hasTook_set Receipt.took_get Receipt.took_set Receipt.sent_kind_get Receipt.sent_kind_set Receipt.sent_from__get Receipt.sent_from__set Receipt.sent_to__get Receipt.sent_to__set Receipt.sent_sender_get Receipt.sent_sender_set Receipt.sent_receiver_get Receipt.sent_receiver_set Receipt.sent_seq_get Receipt.sent_seq_set Receipt.sent_token_get Receipt.sent_token_set Receipt.sent_amount_get Receipt.sent_amount_set Receipt.sent_size_get Receipt.sent_size_set Receipt.sent_payload_get Receipt.sent_payload_set Receipt.took_kind_get Receipt.took_kind_set Receipt.took_from__get Receipt.took_from__set Receipt.took_to__get Receipt.took_to__set Receipt.took_sender_get Receipt.took_sender_set Receipt.took_receiver_get Receipt.took_receiver_set Receipt.took_seq_get Receipt.took_seq_set Receipt.took_token_get Receipt.took_token_set Receipt.took_amount_get Receipt.took_amount_set Receipt.took_size_get Receipt.took_size_set Receipt.took_payload_get Receipt.took_payload_set Store.length_enc Store.ok_enc Store.all_get Store.all_set Store.now_get Store.now_set Store.saved_get Store.saved_set GState.length_enc GState.ok_enc GState.all_get GState.all_set GState.kv_get GState.kv_set GState.tree_get GState.tree_set GState.stale_get GState.stale_set GState.touched_get GState.touched_set GState.kv_now_get GState.kv_now_set GState.kv_saved_get GState.kv_saved_set GState.tree_leaves_get GState.tree_leaves_set History.length_enc History.ok_enc History.all_get History.all_set History.ring_get History.ring_set History.closed_get History.closed_set Ledger.length_enc Ledger.ok_enc Ledger.all_get Ledger.all_set Ledger.chain_get Ledger.chain_set Ledger.st_get Ledger.st_set Ledger.height_get Ledger.height_set Ledger.open__get Ledger.open__set Ledger.gasLimit_get Ledger.gasLimit_set Ledger.past_get Ledger.past_set Ledger.begun_get Ledger.begun_set Ledger.sent_get Ledger.sent_set Ledger.took_get Ledger.took_set Ledger.receipts_get Ledger.receipts_set Ledger.st_kv_get Ledger.st_kv_set Ledger.st_tree_get Ledger.st_tree_set Ledger.st_stale_get Ledger.st_stale_set Ledger.st_touched_get Ledger.st_touched_set Ledger.st_kv_now_get Ledger.st_kv_now_set Ledger.st_kv_saved_get Ledger.st_kv_saved_set Ledger.st_tree_leaves_get Ledger.st_tree_leaves_set Ledger.past_ring_get Ledger.past_ring_set Ledger.past_closed_get Ledger.past_closed_set Ledger.begun_kv_get Ledger.begun_kv_set Ledger.begun_tree_get Ledger.begun_tree_set Ledger.begun_stale_get Ledger.begun_stale_set Ledger.begun_touched_get Ledger.begun_touched_set Ledger.begun_kv_now_get Ledger.begun_kv_now_set Ledger.begun_kv_saved_get Ledger.begun_kv_saved_set Ledger.begun_tree_leaves_get Ledger.begun_tree_leaves_set Purse.length_enc Purse.ok_enc Purse.all_get Purse.all_set Purse.st_get Purse.st_set Purse.n_get Purse.n_set Purse.account_get Purse.account_set Purse.token_get Purse.token_set Purse.amount_get Purse.amount_set Plan.length_enc Plan.ok_enc Plan.all_get Plan.all_set Plan.purse_get Plan.purse_set Plan.nonce_get Plan.nonce_set Plan.gasUsed_get Plan.gasUsed_set Plan.fees_get Plan.fees_set Plan.hasSupply_get Plan.hasSupply_set Plan.token_get Plan.token_set Plan.supply_get Plan.supply_set Plan.flowAt_get Plan.flowAt_set Plan.flow_get Plan.flow_set Plan.receipt_get Plan.receipt_set Plan.purse_st_get Plan.purse_st_set Plan.purse_n_get Plan.purse_n_set Plan.purse_account_get Plan.purse_account_set Plan.purse_token_get Plan.purse_token_set Plan.purse_amount_get Plan.purse_amount_set Plan.receipt_code_get Plan.receipt_code_set Plan.receipt_hash_get Plan.receipt_hash_set Plan.receipt_index_get Plan.receipt_index_set Plan.receipt_gas_get Plan.receipt_gas_set Plan.receipt_fee_get Plan.receipt_fee_set Plan.receipt_hasSent_get Plan.receipt_hasSent_set Plan.receipt_sent_get Plan.receipt_sent_set Plan.receipt_hasTook_get Plan.receipt_hasTook_set Plan.receipt_took_get Plan.receipt_took_set Plan.receipt_sent_kind_get Plan.receipt_sent_kind_set Plan.receipt_sent_from__get Plan.receipt_sent_from__set Plan.receipt_sent_to__get Plan.receipt_sent_to__set Plan.receipt_sent_sender_get Plan.receipt_sent_sender_set Plan.receipt_sent_receiver_get Plan.receipt_sent_receiver_set Plan.receipt_sent_seq_get Plan.receipt_sent_seq_set Plan.receipt_sent_token_get Plan.receipt_sent_token_set Plan.receipt_sent_amount_get Plan.receipt_sent_amount_set Plan.receipt_sent_size_get Plan.receipt_sent_size_set Plan.receipt_sent_payload_get Plan.receipt_sent_payload_set Plan.receipt_took_kind_get Plan.receipt_took_kind_set Plan.receipt_took_from__get Plan.receipt_took_from__set Plan.receipt_took_to__get Plan.receipt_took_to__set Plan.receipt_took_sender_get Plan.receipt_took_sender_set Plan.receipt_took_receiver_get Plan.receipt_took_receiver_set Plan.receipt_took_seq_get Plan.receipt_took_seq_set Plan.receipt_took_token_get Plan.receipt_took_token_set Plan.receipt_took_amount_get Plan.receipt_took_amount_set Plan.receipt_took_size_get Plan.receipt_took_size_set Plan.receipt_took_payload_get Plan.receipt_took_payload_set Move.length_enc Move.ok_enc Move.all_get Move.all_set Move.account_get Move.account_set Move.token_get Move.token_set Move.down_get Move.down_set Move.amount_get Move.amount_set Books.length_enc Books.ok_enc Books.all_get Books.all_set Books.sums_get Books.sums_set Books.stored_get Books.stored_set Books.marks_get Books.marks_set Pair.length_enc Pair.ok_enc Pair.all_get Pair.all_set Pair.key_get Pair.key_set Pair.value_get Pair.value_set
attribute [local go_sem] size_put size_ext blk_put free_put blk_alloc free_alloc blk_drew free_drew blk_ext free_ext lookOr_some putOr_some segAt_some cellAt_some storeIn_some put_put put_alloc_new length_arr ok_arr_u8 ok_arr_u32 ok_arr_u64 ok_arr_i64 ok_arr_sl cellsV_agg cellsV_int cellsV_bool cellsV_string cellsV_pointer cellsV_slice cellsV_sl ok_int ok_bool ok_string ok_pointer ok_slice ok_sl toList_arr seg_arr set_arr nth_splice nth_splice0 seg_splice seg_splice0 splice_splice splice_splice0 length_splice_if
attribute [local go_sem ↓] execOp_box
attribute [local go_sem] box_run nth_arr_u8 put_arr_u8 blk_drewN free_drewN put_drewN blk_raw free_raw
attribute [local go_sem ↓] execOp_slice
theorem MsgIn.cut {V W : World} {a : Option Addr} {n c : Nat} {K : List Message} (hO : OutG Message.enc 41 38 W V a n c K) (hm : n ≤ 1000000000) {s : Nat} (hs : s ≤ n) : MsgIn V (if c = s then a else a.map (·.add (s * 41))) (n - s) (K.drop s) := by
  have hR := OutG.rw el95 hO
  refine ⟨by rw [List.length_drop, hR.1], by unfold maxLen; omega, fun hn => ?_⟩
  obtain ⟨x0, hx0⟩ : ∃ x, K[0]? = some x := ⟨_, List.getElem?_eq_getElem (by rw [hR.1]; omega)⟩
  obtain ⟨b, C, ea, kb, kl, -⟩ := hR.2 0 x0 hx0
  subst ea
  have hc : n ≤ c := (OutG.own hO).2.2
  rw [if_neg (by omega)]
  refine ⟨b, s * 41, C, by rw [Option.map_some, add_addr, Nat.zero_add], kb, by rw [← Nat.add_mul]; rw [show s + (n - s) = n by omega]; exact kl, fun i x hx => ?_⟩
  rw [List.getElem?_drop] at hx
  obtain ⟨b1, C1, e1, k1, l1, s1⟩ := hR.2 (s + i) x hx
  have hbe : b = b1 := congrArg Addr.block (Option.some.inj e1)
  subst hbe
  obtain rfl : C = C1 := Option.some.inj (kb.symm.trans k1)
  rw [← Nat.add_mul]
  exact s1
set_option maxRecDepth 20000 in
set_option maxHeartbeats 2000000 in
theorem tailsAgree_any (O : Own) (W : World) (bl : Nat) (L : PLg) (hL : LedA O W bl L) (hc4 : (ldF L.st.now (keyC 4)).toNat ≤ L.sent.length) (hc5 : (ldF L.st.now (keyC 5)).toNat ≤ L.took.length) (hl4 : L.sent.length ≤ 1000000000) (hl5 : L.took.length ≤ 1000000000) (s : UInt64) : Calls Tryz.prog 30 #[.pointer (some ⟨bl, 0, none⟩), .int .u64 (w64 s)] W fun e V => e = .returned (.bool true) ∧ W.Extends V := by
  obtain ⟨Q, hQ⟩ : ∃ Q : Ending → World → Prop, Q = fun e V => e = .returned (.bool true) ∧ W.Extends V := ⟨_, rfl⟩
  rw [← hQ]
  have HQ : Hid (∀ V, W.Extends V → Q (.returned (.bool true)) V) := fun V h => by rw [hQ]; exact ⟨rfl, h⟩
  have HL := hid_of hL
  have h52 := sent_any O W bl L hL hc4 hl4
  have HC : Hid ((ldF L.st.now (keyC 4)).toNat ≤ L.sent.length ∧ (ldF L.st.now (keyC 5)).toNat ≤ L.took.length ∧ L.sent.length ≤ 1000000000 ∧ L.took.length ≤ 1000000000) := ⟨hc4, hc5, hl4, hl5⟩
  obtain ⟨n4, hn4⟩ : ∃ n4, n4 = (ldF L.st.now (keyC 4)).toNat := ⟨_, rfl⟩
  obtain ⟨n5, hn5⟩ : ∃ n5, n5 = (ldF L.st.now (keyC 5)).toNat := ⟨_, rfl⟩
  have HN : Hid (n4 = (ldF L.st.now (keyC 4)).toNat ∧ n5 = (ldF L.st.now (keyC 5)).toNat) := ⟨hn4, hn5⟩
  rw [← hn4] at h52
  have b4 : n4 ≤ 1000000000 := by omega
  have b5 : n5 ≤ 1000000000 := by omega
  have w4 : IntKind.u64.wrap (n4 : Int) = (n4 : Int) := by rw [IntKind.wrap_u64]; omega
  have w5 : IntKind.u64.wrap (n5 : Int) = (n5 : Int) := by rw [IntKind.wrap_u64]; omega
  clear hQ hL hc4 hc5 hl4 hl5 hn4 hn5
  go_enter Tryz.func30, Tryz.ntmps30
  go_wp2_with fail
  refine h52.mono ?_
  clear h52
  rintro e V1 ⟨a4, c4, rfl, hO4⟩
  dsimp only
  have h53 := took_any _ V1 bl L (HL.out.ext hO4.2.1) HC.out.2.1 HC.out.2.2.2
  rw [← HN.out.2] at h53
  have HO4 := hid_of hO4
  clear hO4
  go_wp2_with fail
  refine h53.mono ?_
  clear h53
  rintro e V2 ⟨a5, c5, rfl, hO5⟩
  dsimp only
  have HX2 := hid_of (HO4.out.2.1.trans hO5.2.1)
  have H4 := hid_of (HO4.out.ext hO5.2.1)
  have H5 := hid_of hO5
  clear hO5 HO4
  by_cases hgt4 : n4 < s.toNat
  · have hgw4 : (n4 : Int) < w64 s := by unfold w64; omega
    have h109 := sentSince_any _ V2 bl L (HL.out.ext HX2.out) HC.out.1 HC.out.2.2.1 s
    rw [← HN.out.1, show n4 - s.toNat = 0 by omega] at h109
    clear hgt4 H4
    go_wp2_with fail
    refine h109.mono ?_
    clear h109
    rintro e V3 ⟨a3, c3, rfl, hx3, -⟩
    dsimp only
    have HX3 := hid_of (HX2.out.trans hx3)
    have HE3 := hid_of hx3
    clear hx3
    by_cases hgt5 : n5 < s.toNat
    · have hgw : (n5 : Int) < w64 s := by unfold w64; omega
      have h110 := tookSince_any _ V3 bl L (HL.out.ext HX3.out) HC.out.2.1 HC.out.2.2.2 s
      rw [← HN.out.2, show n5 - s.toNat = 0 by omega] at h110
      clear hgt5
      go_wp2_with fail
      refine h110.mono ?_
      clear h110
      rintro e V20 ⟨a20, c20, rfl, hx20, -⟩
      dsimp only
      have HP := hid_of (HQ.out V20 (HX3.out.trans hx20))
      clear hx20 HQ
      go_wp2_with fail
      try (first | go_ret | go_ret2 | go_ret3 | go_end0)
      exact HP.out
    have hle : s.toNat ≤ n5 := by omega
    have hgw : ¬ (n5 : Int) < w64 s := by unfold w64; omega
    clear hgt5
    have hss := tookSince_any _ (V3.drewN 1) bl L (HL.out.ext (extends_drewN HX3.out 1)) HC.out.2.1 HC.out.2.2.2 s
    rw [← HN.out.2] at hss
    have hsl : ∀ w, (sliceOp 95 (.slice a5 n5 c5) (some (.int .u64 (w64 s))) none none).run Tryz.prog w = .ok (.value (.slice (if c5 = s.toNat then a5 else a5.map (·.add (s.toNat * 41))) (n5 - s.toNat) (c5 - s.toNat))) w := fun w => slice_lU (sz := 41) und95 (by kernel_rfl) w a5 n5 c5 s hle
    have HMC := hid_of (MsgIn.cut (H5.out.ext HE3.out) (by omega) hle)
    generalize hmd : n5 - s.toNat = md at hsl hss HMC
    generalize (if c5 = s.toNat then a5 else a5.map (·.add (s.toNat * 41))) = aq at hsl HMC
    generalize c5 - s.toNat = cq at hsl
    generalize (L.took.take n5).drop s.toNat = KK at hss HMC
    clear hle hmd
    go_upto_region 9 with fail
    repeat go_step
    refine wp_region_F 7 (fun W' => True) (by kernel_rfl) trivial (fun hHeld => ?_)
    refine wpAnyF_take (i := 0) (oi := ⟨_, _, _, _, _, _⟩) (v := ?_) rfl (by kernel_rfl) (by kernel_rfl) (by kernel_rfl) (by kernel_rfl) (by kernel_rfl) (fun _ _ _ h => h) (Or.inl ⟨by rfl, ?_⟩) (by assumption) ?_
    rotate_left 1
    · intro W' hSw
      go_simp
      try with_reducible rfl
    try simp only [Act.put, List.setIfInBounds_toArray, List.set_cons_zero, List.set_cons_succ]
    refine wpAnyF_take (i := 1) (oi := ⟨_, _, _, _, _, _⟩) (v := ?_) rfl (by kernel_rfl) (by kernel_rfl) (by kernel_rfl) (by kernel_rfl) (by kernel_rfl) (fun _ _ _ h => h) (Or.inl ⟨by rfl, ?_⟩) (by assumption) ?_
    rotate_left 1
    · intro W' hSw
      go_simp
      try with_reducible rfl
    try simp only [Act.put, List.setIfInBounds_toArray, List.set_cons_zero, List.set_cons_succ]
    refine wpAnyF_take (i := 3) (oi := ⟨_, _, _, _, _, _⟩) (v := ?_) rfl (by kernel_rfl) (by kernel_rfl) (by kernel_rfl) (by kernel_rfl) (by kernel_rfl) (fun _ _ _ h => h) (Or.inl ⟨by rfl, ?_⟩) (by assumption) ?_
    rotate_left 1
    · intro W' hSw
      go_simp
      try with_reducible rfl
    try simp only [Act.put, List.setIfInBounds_toArray, List.set_cons_zero, List.set_cons_succ]
    refine wpAnyF_take (i := 4) (oi := ⟨_, _, _, _, _, _⟩) (v := ?_) rfl (by kernel_rfl) (by kernel_rfl) (by kernel_rfl) (by kernel_rfl) (by kernel_rfl) (fun _ _ _ h => h) (Or.inl ⟨by rfl, ?_⟩) (by assumption) ?_
    rotate_left 1
    · intro W' hSw
      go_simp
      try with_reducible rfl
    try simp only [Act.put, List.setIfInBounds_toArray, List.set_cons_zero, List.set_cons_succ]
    refine wpAnyF_take (i := 5) (oi := ⟨_, _, _, _, _, _⟩) (v := ?_) rfl (by kernel_rfl) (by kernel_rfl) (by kernel_rfl) (by kernel_rfl) (by kernel_rfl) (fun _ _ _ h => h) (Or.inl ⟨by rfl, ?_⟩) (by assumption) ?_
    rotate_left 1
    · intro W' hSw
      go_simp
      try with_reducible rfl
    try simp only [Act.put, List.setIfInBounds_toArray, List.set_cons_zero, List.set_cons_succ]
    refine wpAnyF_one (o := ⟨_, _, _, _, _, _⟩) (i := 2) (by kernel_rfl) rfl rfl (fun K' hK => ?_)
    go_simp
    refine hss.mono ?_
    clear hss
    rintro e V21 ⟨a11, c11, rfl, hx11, hM11⟩
    dsimp only
    have hsm := sameMsgs_any V21 a11 aq md c11 cq KK hM11 (HMC.out.ext ((extends_drewN (ext_Ext (Ext.refl V3)) 1).trans hx11))
    have HX21 := hid_of ((extends_drewN HX3.out 1).trans hx11)
    have HE21 := hid_of ((extends_drewN (ext_Ext (Ext.refl V3)) 1).trans hx11)
    clear hx11 hM11 HMC
    refine hK.out _ _ trivial (fun hHeld => ?_)
    clear hK K'
    try simp only [Act.put, List.setIfInBounds_toArray, List.set_cons_zero, List.set_cons_succ]
    refine wpAnyF_one (o := ⟨_, _, _, _, _, _⟩) (i := 6) (by kernel_rfl) rfl rfl (fun K' hK => ?_)
    go_simp
    refine hsm.mono ?_
    clear hsm
    rintro e V22 ⟨rfl, hx12⟩
    dsimp only
    have HX22 := hid_of (HX21.out.trans hx12)
    have HE22 := hid_of (HE21.out.trans hx12)
    clear hx12
    refine hK.out _ _ trivial (fun hHeld => ?_)
    clear hK K'
    try simp only [Act.put, List.setIfInBounds_toArray, List.set_cons_zero, List.set_cons_succ]
    refine wpAnyF_last (o := ⟨_, _, _, _, _, _⟩) (by kernel_rfl) rfl (fun K' hK => ?_)
    go_simp
    refine hK.out _ _ ?_
    clear hK K'
    try simp only [Act.put, List.setIfInBounds_toArray, List.set_cons_zero, List.set_cons_succ]
    refine wpAnyF_done (by kernel_rfl) ?_ _
    clear hHeld HX21 HE21 hsl
    have HP := hid_of (HQ.out V22 HX22.out)
    clear HX22 HE22 HQ
    go_wp2_with fail
    try (first | go_ret | go_ret2 | go_ret3 | go_end0)
    exact HP.out
  have hle : s.toNat ≤ n4 := by omega
  have hgw4 : ¬ (n4 : Int) < w64 s := by unfold w64; omega
  clear hgt4
  have hss := sentSince_any _ (V2.drewN 1) bl L (HL.out.ext (extends_drewN HX2.out 1)) HC.out.1 HC.out.2.2.1 s
  rw [← HN.out.1] at hss
  have hsl : ∀ w, (sliceOp 95 (.slice a4 n4 c4) (some (.int .u64 (w64 s))) none none).run Tryz.prog w = .ok (.value (.slice (if c4 = s.toNat then a4 else a4.map (·.add (s.toNat * 41))) (n4 - s.toNat) (c4 - s.toNat))) w := fun w => slice_lU (sz := 41) und95 (by kernel_rfl) w a4 n4 c4 s hle
  have HMC := hid_of (MsgIn.cut H4.out (by omega) hle)
  generalize hmd : n4 - s.toNat = md at hsl hss HMC
  generalize (if c4 = s.toNat then a4 else a4.map (·.add (s.toNat * 41))) = aq at hsl HMC
  generalize c4 - s.toNat = cq at hsl
  generalize (L.sent.take n4).drop s.toNat = KK at hss HMC
  clear hle hmd
  go_upto_region 5 with fail
  repeat go_step
  refine wp_region_F 7 (fun W' => True) (by kernel_rfl) trivial (fun hHeld => ?_)
  refine wpAnyF_take (i := 0) (oi := ⟨_, _, _, _, _, _⟩) (v := ?_) rfl (by kernel_rfl) (by kernel_rfl) (by kernel_rfl) (by kernel_rfl) (by kernel_rfl) (fun _ _ _ h => h) (Or.inl ⟨by rfl, ?_⟩) (by assumption) ?_
  rotate_left 1
  · intro W' hSw
    go_simp
    try with_reducible rfl
  try simp only [Act.put, List.setIfInBounds_toArray, List.set_cons_zero, List.set_cons_succ]
  refine wpAnyF_take (i := 1) (oi := ⟨_, _, _, _, _, _⟩) (v := ?_) rfl (by kernel_rfl) (by kernel_rfl) (by kernel_rfl) (by kernel_rfl) (by kernel_rfl) (fun _ _ _ h => h) (Or.inl ⟨by rfl, ?_⟩) (by assumption) ?_
  rotate_left 1
  · intro W' hSw
    go_simp
    try with_reducible rfl
  try simp only [Act.put, List.setIfInBounds_toArray, List.set_cons_zero, List.set_cons_succ]
  refine wpAnyF_take (i := 3) (oi := ⟨_, _, _, _, _, _⟩) (v := ?_) rfl (by kernel_rfl) (by kernel_rfl) (by kernel_rfl) (by kernel_rfl) (by kernel_rfl) (fun _ _ _ h => h) (Or.inl ⟨by rfl, ?_⟩) (by assumption) ?_
  rotate_left 1
  · intro W' hSw
    go_simp
    try with_reducible rfl
  try simp only [Act.put, List.setIfInBounds_toArray, List.set_cons_zero, List.set_cons_succ]
  refine wpAnyF_take (i := 4) (oi := ⟨_, _, _, _, _, _⟩) (v := ?_) rfl (by kernel_rfl) (by kernel_rfl) (by kernel_rfl) (by kernel_rfl) (by kernel_rfl) (fun _ _ _ h => h) (Or.inl ⟨by rfl, ?_⟩) (by assumption) ?_
  rotate_left 1
  · intro W' hSw
    go_simp
    try with_reducible rfl
  try simp only [Act.put, List.setIfInBounds_toArray, List.set_cons_zero, List.set_cons_succ]
  refine wpAnyF_take (i := 5) (oi := ⟨_, _, _, _, _, _⟩) (v := ?_) rfl (by kernel_rfl) (by kernel_rfl) (by kernel_rfl) (by kernel_rfl) (by kernel_rfl) (fun _ _ _ h => h) (Or.inl ⟨by rfl, ?_⟩) (by assumption) ?_
  rotate_left 1
  · intro W' hSw
    go_simp
    try with_reducible rfl
  try simp only [Act.put, List.setIfInBounds_toArray, List.set_cons_zero, List.set_cons_succ]
  refine wpAnyF_one (o := ⟨_, _, _, _, _, _⟩) (i := 2) (by kernel_rfl) rfl rfl (fun K' hK => ?_)
  go_simp
  refine hss.mono ?_
  clear hss
  rintro e V11 ⟨a11, c11, rfl, hx11, hM11⟩
  dsimp only
  have hsm := sameMsgs_any V11 a11 aq md c11 cq KK hM11 (HMC.out.ext ((extends_drewN (ext_Ext (Ext.refl V2)) 1).trans hx11))
  have HX11 := hid_of ((extends_drewN HX2.out 1).trans hx11)
  have HE11 := hid_of ((extends_drewN (ext_Ext (Ext.refl V2)) 1).trans hx11)
  clear hx11 hM11 HMC
  refine hK.out _ _ trivial (fun hHeld => ?_)
  clear hK K'
  try simp only [Act.put, List.setIfInBounds_toArray, List.set_cons_zero, List.set_cons_succ]
  refine wpAnyF_one (o := ⟨_, _, _, _, _, _⟩) (i := 6) (by kernel_rfl) rfl rfl (fun K' hK => ?_)
  go_simp
  refine hsm.mono ?_
  clear hsm
  rintro e Vmm ⟨rfl, hx12⟩
  dsimp only
  have HXmm := hid_of (HX11.out.trans hx12)
  have HEmm := hid_of (HE11.out.trans hx12)
  clear hx12
  refine hK.out _ _ trivial (fun hHeld => ?_)
  clear hK K'
  try simp only [Act.put, List.setIfInBounds_toArray, List.set_cons_zero, List.set_cons_succ]
  refine wpAnyF_last (o := ⟨_, _, _, _, _, _⟩) (by kernel_rfl) rfl (fun K' hK => ?_)
  go_simp
  refine hK.out _ _ ?_
  clear hK K'
  try simp only [Act.put, List.setIfInBounds_toArray, List.set_cons_zero, List.set_cons_succ]
  refine wpAnyF_done (by kernel_rfl) ?_ _
  clear hHeld HX11 HE11 hsl
  by_cases hgt5 : n5 < s.toNat
  · have hgw : (n5 : Int) < w64 s := by unfold w64; omega
    have h110 := tookSince_any _ Vmm bl L (HL.out.ext HXmm.out) HC.out.2.1 HC.out.2.2.2 s
    rw [← HN.out.2, show n5 - s.toNat = 0 by omega] at h110
    clear hgt5
    go_wp2_with fail
    refine h110.mono ?_
    clear h110
    rintro e V20 ⟨a20, c20, rfl, hx20, -⟩
    dsimp only
    have HP := hid_of (HQ.out V20 (HXmm.out.trans hx20))
    clear hx20 HQ
    go_wp2_with fail
    try (first | go_ret | go_ret2 | go_ret3 | go_end0)
    exact HP.out
  have hle : s.toNat ≤ n5 := by omega
  have hgw : ¬ (n5 : Int) < w64 s := by unfold w64; omega
  clear hgt5
  have hss := tookSince_any _ (Vmm.drewN 1) bl L (HL.out.ext (extends_drewN HXmm.out 1)) HC.out.2.1 HC.out.2.2.2 s
  rw [← HN.out.2] at hss
  have hsl : ∀ w, (sliceOp 95 (.slice a5 n5 c5) (some (.int .u64 (w64 s))) none none).run Tryz.prog w = .ok (.value (.slice (if c5 = s.toNat then a5 else a5.map (·.add (s.toNat * 41))) (n5 - s.toNat) (c5 - s.toNat))) w := fun w => slice_lU (sz := 41) und95 (by kernel_rfl) w a5 n5 c5 s hle
  have HMC := hid_of (MsgIn.cut (H5.out.ext HEmm.out) (by omega) hle)
  generalize hmd : n5 - s.toNat = md at hsl hss HMC
  generalize (if c5 = s.toNat then a5 else a5.map (·.add (s.toNat * 41))) = aq at hsl HMC
  generalize c5 - s.toNat = cq at hsl
  generalize (L.took.take n5).drop s.toNat = KK at hss HMC
  clear hle hmd
  go_upto_region 9 with fail
  repeat go_step
  refine wp_region_F 7 (fun W' => True) (by kernel_rfl) trivial (fun hHeld => ?_)
  refine wpAnyF_take (i := 0) (oi := ⟨_, _, _, _, _, _⟩) (v := ?_) rfl (by kernel_rfl) (by kernel_rfl) (by kernel_rfl) (by kernel_rfl) (by kernel_rfl) (fun _ _ _ h => h) (Or.inl ⟨by rfl, ?_⟩) (by assumption) ?_
  rotate_left 1
  · intro W' hSw
    go_simp
    try with_reducible rfl
  try simp only [Act.put, List.setIfInBounds_toArray, List.set_cons_zero, List.set_cons_succ]
  refine wpAnyF_take (i := 1) (oi := ⟨_, _, _, _, _, _⟩) (v := ?_) rfl (by kernel_rfl) (by kernel_rfl) (by kernel_rfl) (by kernel_rfl) (by kernel_rfl) (fun _ _ _ h => h) (Or.inl ⟨by rfl, ?_⟩) (by assumption) ?_
  rotate_left 1
  · intro W' hSw
    go_simp
    try with_reducible rfl
  try simp only [Act.put, List.setIfInBounds_toArray, List.set_cons_zero, List.set_cons_succ]
  refine wpAnyF_take (i := 3) (oi := ⟨_, _, _, _, _, _⟩) (v := ?_) rfl (by kernel_rfl) (by kernel_rfl) (by kernel_rfl) (by kernel_rfl) (by kernel_rfl) (fun _ _ _ h => h) (Or.inl ⟨by rfl, ?_⟩) (by assumption) ?_
  rotate_left 1
  · intro W' hSw
    go_simp
    try with_reducible rfl
  try simp only [Act.put, List.setIfInBounds_toArray, List.set_cons_zero, List.set_cons_succ]
  refine wpAnyF_take (i := 4) (oi := ⟨_, _, _, _, _, _⟩) (v := ?_) rfl (by kernel_rfl) (by kernel_rfl) (by kernel_rfl) (by kernel_rfl) (by kernel_rfl) (fun _ _ _ h => h) (Or.inl ⟨by rfl, ?_⟩) (by assumption) ?_
  rotate_left 1
  · intro W' hSw
    go_simp
    try with_reducible rfl
  try simp only [Act.put, List.setIfInBounds_toArray, List.set_cons_zero, List.set_cons_succ]
  refine wpAnyF_take (i := 5) (oi := ⟨_, _, _, _, _, _⟩) (v := ?_) rfl (by kernel_rfl) (by kernel_rfl) (by kernel_rfl) (by kernel_rfl) (by kernel_rfl) (fun _ _ _ h => h) (Or.inl ⟨by rfl, ?_⟩) (by assumption) ?_
  rotate_left 1
  · intro W' hSw
    go_simp
    try with_reducible rfl
  try simp only [Act.put, List.setIfInBounds_toArray, List.set_cons_zero, List.set_cons_succ]
  refine wpAnyF_one (o := ⟨_, _, _, _, _, _⟩) (i := 2) (by kernel_rfl) rfl rfl (fun K' hK => ?_)
  go_simp
  refine hss.mono ?_
  clear hss
  rintro e V21 ⟨a11, c11, rfl, hx11, hM11⟩
  dsimp only
  have hsm := sameMsgs_any V21 a11 aq md c11 cq KK hM11 (HMC.out.ext ((extends_drewN (ext_Ext (Ext.refl Vmm)) 1).trans hx11))
  have HX21 := hid_of ((extends_drewN HXmm.out 1).trans hx11)
  have HE21 := hid_of ((extends_drewN (ext_Ext (Ext.refl Vmm)) 1).trans hx11)
  clear hx11 hM11 HMC
  refine hK.out _ _ trivial (fun hHeld => ?_)
  clear hK K'
  try simp only [Act.put, List.setIfInBounds_toArray, List.set_cons_zero, List.set_cons_succ]
  refine wpAnyF_one (o := ⟨_, _, _, _, _, _⟩) (i := 6) (by kernel_rfl) rfl rfl (fun K' hK => ?_)
  go_simp
  refine hsm.mono ?_
  clear hsm
  rintro e V22 ⟨rfl, hx12⟩
  dsimp only
  have HX22 := hid_of (HX21.out.trans hx12)
  have HE22 := hid_of (HE21.out.trans hx12)
  clear hx12
  refine hK.out _ _ trivial (fun hHeld => ?_)
  clear hK K'
  try simp only [Act.put, List.setIfInBounds_toArray, List.set_cons_zero, List.set_cons_succ]
  refine wpAnyF_last (o := ⟨_, _, _, _, _, _⟩) (by kernel_rfl) rfl (fun K' hK => ?_)
  go_simp
  refine hK.out _ _ ?_
  clear hK K'
  try simp only [Act.put, List.setIfInBounds_toArray, List.set_cons_zero, List.set_cons_succ]
  refine wpAnyF_done (by kernel_rfl) ?_ _
  clear hHeld HX21 HE21 hsl
  have HP := hid_of (HQ.out V22 HX22.out)
  clear HX22 HE22 HQ
  go_wp2_with fail
  try (first | go_ret | go_ret2 | go_ret3 | go_end0)
  exact HP.out
end Go.Proofs.Qxb6500786aGreat
