import Derived.DeepKeys2
import Derived.Test.Qxb6500786aGreatJi
import Derived.Test.Qxb6500786aGreatYc

import Derived.StillTailTactics
import Derived.Deep.QuietTactic
import Derived.BigQuiet
import Derived.Deep.RegionHeld
import Derived.Deep.CutRange
import Derived.Laws.ResultCell
import Derived.Laws.Rows
import Derived.DeepKeys
import Derived.DataBytes
import Derived.Laws.StructEq
import Derived.Laws.AppendOwn
import Derived.Laws.MakeOwn
import Derived.Lib.AppendStr
set_option linter.unusedSimpArgs false
set_option linter.unusedVariables false
namespace Go.Proofs.Qxb6500786aGreat
open Go.RowKit Go.Blk
attribute [local go_sem ↓] execOp_load execOp_store execOp_alloc
attribute [local go_sem] Tryz.ld24 Tryz.st24 Tryz.ld36 Tryz.st36 Tryz.ld28 Tryz.st28 Tryz.ld32 Tryz.st32 Tryz.ld33 Tryz.st33 Tryz.ld34 Tryz.st34 Tryz.ld5 Tryz.st5 Tryz.ld31 Tryz.st31 Tryz.ld30 Tryz.st30 Tryz.ld41 Tryz.st41 Tryz.ld44 Tryz.st44 Tryz.ld4 Tryz.st4 Tryz.ld173 Tryz.st173 Tryz.ld174 Tryz.st174 Tryz.ld95 Tryz.st95 Tryz.ld45 Tryz.st45 Tryz.ld207 Tryz.st207 Tryz.ld3 Tryz.st3 Tryz.ld189 Tryz.st189 Tryz.ld2 Tryz.st2 Tryz.ld9 Tryz.st9 Tryz.ld12 Tryz.st12 Tryz.ld21 Tryz.st21 Tryz.ld22 Tryz.st22 Tryz.ld46 Tryz.st46 Tryz.ld92 Tryz.st92 Tryz.ld94 Tryz.st94 Tryz.ld96 Tryz.st96 Tryz.ld97 Tryz.st97 Tryz.ld105 Tryz.st105 Tryz.ld117 Tryz.st117 Tryz.ld122 Tryz.st122 Tryz.ld123 Tryz.st123 Tryz.ld133 Tryz.st133 Tryz.ld155 Tryz.st155 Tryz.ld163 Tryz.st163 Tryz.ld190 Tryz.st190 Tryz.ld197 Tryz.st197 Tryz.ld201 Tryz.st201 Tryz.ld202 Tryz.st202 Tryz.ld209 Tryz.st209 Tryz.ld216 Tryz.st216 Tryz.ld230 Tryz.st230 Tryz.ld238 Tryz.st238 Tryz.ld242 Tryz.st242 Tryz.ld251 Tryz.st251 Tryz.ld260 Tryz.st260 Tryz.ld286 Tryz.st286 Tryz.ld292 Tryz.st292 Tryz.ld298 Tryz.st298 Tryz.ld309 Tryz.st309 Tryz.ld35 Tryz.st35 Tryz.ld48 Tryz.st48 Tryz.ld47 Tryz.st47 Tryz.ld79 Tryz.st79 Tryz.ld177 Tryz.st177 Tryz.ld180 Tryz.st180 Tryz.ld231 Tryz.st231 Tryz.ld232 Tryz.st232 Tryz.ld26 Tryz.st26 Tryz.ld38 Tryz.st38 Tryz.ld40 Tryz.st40 Tryz.ld43 Tryz.st43 Tryz.ld50 Tryz.st50 Tryz.ld52 Tryz.st52 Tryz.ld54 Tryz.st54 Tryz.ld81 Tryz.st81 Tryz.ld112 Tryz.st112 Tryz.ld120 Tryz.st120 Tryz.ld176 Tryz.st176 Tryz.ld179 Tryz.st179 Tryz.ld182 Tryz.st182 Tryz.ld184 Tryz.st184 Tryz.ld234 Tryz.st234 Tryz.ld236 Tryz.st236 Tryz.ld240 Tryz.st240 Tryz.ld246 Tryz.st246 Tryz.ld249 Tryz.st249 Tryz.al35 Tryz.al48 Tryz.al47 Tryz.al79 Tryz.al177 Tryz.al180 Tryz.al231 Tryz.al232 Tryz.al26 Tryz.al38 Tryz.al40 Tryz.al43 Tryz.al50 Tryz.al52 Tryz.al54 Tryz.al81 Tryz.al112 Tryz.al120 Tryz.al176 Tryz.al179 Tryz.al182 Tryz.al184 Tryz.al234 Tryz.al236 Tryz.al240 Tryz.al246 Tryz.al249
attribute [local go_sem] Player.length_enc Player.ok_enc Player.all_get Player.all_set Player.hand_get Player.hand_set Player.aside_get Player.aside_set Message.length_enc Message.ok_enc Message.all_get Message.all_set Message.kind_get Message.kind_set Message.from__get Message.from__set Message.to__get Message.to__set Message.sender_get Message.sender_set Message.receiver_get Message.receiver_set Message.seq_get Message.seq_set Message.token_get Message.token_set Message.amount_get Message.amount_set Message.size_get Message.size_set Message.payload_get Message.payload_set Tx.length_enc Tx.ok_enc Tx.all_get Tx.all_set Tx.kind_get Tx.kind_set Tx.chain_get Tx.chain_set Tx.from__get Tx.from__set Tx.nonce_get Tx.nonce_set Tx.fee_get Tx.fee_set Tx.to__get Tx.to__set Tx.dest_get Tx.dest_set Tx.token_get Tx.token_set Tx.amount_get Tx.amount_set Tx.size_get Tx.size_set Tx.payload_get Tx.payload_set Tx.msg_get Tx.msg_set Tx.msg_kind_get Tx.msg_kind_set Tx.msg_from__get Tx.msg_from__set Tx.msg_to__get Tx.msg_to__set Tx.msg_sender_get Tx.msg_sender_set Tx.msg_receiver_get Tx.msg_receiver_set Tx.msg_seq_get Tx.msg_seq_set Tx.msg_token_get Tx.msg_token_set Tx.msg_amount_get Tx.msg_amount_set Tx.msg_size_get Tx.msg_size_set Tx.msg_payload_get Tx.msg_payload_set GOp.length_enc GOp.ok_enc GOp.all_get GOp.all_set GOp.kind_get GOp.kind_set GOp.tx_get GOp.tx_set GOp.txs_get GOp.txs_set GOp.gas_get GOp.gas_set GOp.acct_get GOp.acct_set GOp.token_get GOp.token_set GOp.chain_get GOp.chain_set GOp.seq_get GOp.seq_set GOp.tx_kind_get GOp.tx_kind_set GOp.tx_chain_get GOp.tx_chain_set GOp.tx_from__get GOp.tx_from__set GOp.tx_nonce_get GOp.tx_nonce_set GOp.tx_fee_get GOp.tx_fee_set GOp.tx_to__get GOp.tx_to__set GOp.tx_dest_get GOp.tx_dest_set GOp.tx_token_get GOp.tx_token_set GOp.tx_amount_get GOp.tx_amount_set GOp.tx_size_get GOp.tx_size_set GOp.tx_payload_get GOp.tx_payload_set GOp.tx_msg_get GOp.tx_msg_set GOp.tx_msg_kind_get GOp.tx_msg_kind_set GOp.tx_msg_from__get GOp.tx_msg_from__set GOp.tx_msg_to__get GOp.tx_msg_to__set GOp.tx_msg_sender_get GOp.tx_msg_sender_set GOp.tx_msg_receiver_get GOp.tx_msg_receiver_set GOp.tx_msg_seq_get GOp.tx_msg_seq_set GOp.tx_msg_token_get GOp.tx_msg_token_set GOp.tx_msg_amount_get GOp.tx_msg_amount_set GOp.tx_msg_size_get GOp.tx_msg_size_set GOp.tx_msg_payload_get GOp.tx_msg_payload_set Summary.length_enc Summary.ok_enc Summary.all_get Summary.all_set Summary.height_get Summary.height_set Summary.txs_get Summary.txs_set Summary.gas_get Summary.gas_set Summary.fees_get Summary.fees_set Summary.sent_get Summary.sent_set Summary.took_get Summary.took_set Summary.minted_get Summary.minted_set Summary.burned_get Summary.burned_set Summary.root_get Summary.root_set Detail.length_enc Detail.ok_enc Detail.all_get Detail.all_set Detail.code_get Detail.code_set Detail.have__get Detail.have__set Detail.need_get Detail.need_set Slot.length_enc Slot.ok_enc Slot.all_get Slot.all_set Slot.nonce_get Slot.nonce_set Slot.balances_get Slot.balances_set Tree.length_enc Tree.ok_enc Tree.all_get Tree.all_set Tree.leaves_get Tree.leaves_set Mark.length_enc Mark.ok_enc Mark.all_get Mark.all_set Mark.from__get Mark.from__set Mark.seq_get Mark.seq_set Receipt.length_enc Receipt.ok_enc Receipt.all_get Receipt.all_set Receipt.code_get Receipt.code_set Receipt.hash_get Receipt.hash_set Receipt.index_get Receipt.index_set Receipt.gas_get Receipt.gas_set Receipt.fee_get Receipt.fee_set Receipt.hasSent_get Receipt.hasSent_set Receipt.sent_get Receipt.sent_set Receipt.hasTook_get Receipt.hasTook_set Receipt.took_get Receipt.took_set Receipt.sent_kind_get Receipt.sent_kind_set Receipt.sent_from__get Receipt.sent_from__set Receipt.sent_to__get Receipt.sent_to__set Receipt.sent_sender_get Receipt.sent_sender_set Receipt.sent_receiver_get Receipt.sent_receiver_set Receipt.sent_seq_get Receipt.sent_seq_set Receipt.sent_token_get Receipt.sent_token_set Receipt.sent_amount_get Receipt.sent_amount_set Receipt.sent_size_get Receipt.sent_size_set Receipt.sent_payload_get Receipt.sent_payload_set Receipt.took_kind_get Receipt.took_kind_set Receipt.took_from__get Receipt.took_from__set Receipt.took_to__get Receipt.took_to__set Receipt.took_sender_get Receipt.took_sender_set Receipt.took_receiver_get Receipt.took_receiver_set Receipt.took_seq_get Receipt.took_seq_set Receipt.took_token_get Receipt.took_token_set Receipt.took_amount_get Receipt.took_amount_set Receipt.took_size_get Receipt.took_size_set Receipt.took_payload_get Receipt.took_payload_set Store.length_enc Store.ok_enc Store.all_get Store.all_set Store.now_get Store.now_set Store.saved_get Store.saved_set GState.length_enc GState.ok_enc GState.all_get GState.all_set GState.kv_get GState.kv_set GState.tree_get GState.tree_set GState.stale_get GState.stale_set GState.touched_get GState.touched_set GState.kv_now_get GState.kv_now_set GState.kv_saved_get GState.kv_saved_set GState.tree_leaves_get GState.tree_leaves_set History.length_enc History.ok_enc History.all_get History.all_set History.ring_get History.ring_set History.closed_get History.closed_set Ledger.length_enc Ledger.ok_enc Ledger.all_get Ledger.all_set Ledger.chain_get Ledger.chain_set Ledger.st_get Ledger.st_set Ledger.height_get Ledger.height_set Ledger.open__get Ledger.open__set Ledger.gasLimit_get Ledger.gasLimit_set Ledger.past_get Ledger.past_set Ledger.begun_get Ledger.begun_set Ledger.sent_get Ledger.sent_set Ledger.took_get Ledger.took_set Ledger.receipts_get Ledger.receipts_set Ledger.st_kv_get Ledger.st_kv_set Ledger.st_tree_get Ledger.st_tree_set Ledger.st_stale_get Ledger.st_stale_set Ledger.st_touched_get Ledger.st_touched_set Ledger.st_kv_now_get Ledger.st_kv_now_set Ledger.st_kv_saved_get Ledger.st_kv_saved_set Ledger.st_tree_leaves_get Ledger.st_tree_leaves_set Ledger.past_ring_get Ledger.past_ring_set Ledger.past_closed_get Ledger.past_closed_set Ledger.begun_kv_get Ledger.begun_kv_set Ledger.begun_tree_get Ledger.begun_tree_set Ledger.begun_stale_get Ledger.begun_stale_set Ledger.begun_touched_get Ledger.begun_touched_set Ledger.begun_kv_now_get Ledger.begun_kv_now_set Ledger.begun_kv_saved_get Ledger.begun_kv_saved_set Ledger.begun_tree_leaves_get Ledger.begun_tree_leaves_set Purse.length_enc Purse.ok_enc Purse.all_get Purse.all_set Purse.st_get Purse.st_set Purse.n_get Purse.n_set Purse.account_get Purse.account_set Purse.token_get Purse.token_set Purse.amount_get Purse.amount_set Plan.length_enc Plan.ok_enc Plan.all_get Plan.all_set Plan.purse_get Plan.purse_set Plan.nonce_get Plan.nonce_set Plan.gasUsed_get Plan.gasUsed_set Plan.fees_get Plan.fees_set Plan.hasSupply_get Plan.hasSupply_set Plan.token_get Plan.token_set Plan.supply_get Plan.supply_set Plan.flowAt_get Plan.flowAt_set Plan.flow_get Plan.flow_set Plan.receipt_get Plan.receipt_set Plan.purse_st_get Plan.purse_st_set Plan.purse_n_get Plan.purse_n_set Plan.purse_account_get Plan.purse_account_set Plan.purse_token_get Plan.purse_token_set Plan.purse_amount_get Plan.purse_amount_set Plan.receipt_code_get Plan.receipt_code_set Plan.receipt_hash_get Plan.receipt_hash_set Plan.receipt_index_get Plan.receipt_index_set Plan.receipt_gas_get Plan.receipt_gas_set Plan.receipt_fee_get Plan.receipt_fee_set Plan.receipt_hasSent_get Plan.receipt_hasSent_set Plan.receipt_sent_get Plan.receipt_sent_set Plan.receipt_hasTook_get Plan.receipt_hasTook_set Plan.receipt_took_get Plan.receipt_took_set Plan.receipt_sent_kind_get Plan.receipt_sent_kind_set Plan.receipt_sent_from__get Plan.receipt_sent_from__set Plan.receipt_sent_to__get Plan.receipt_sent_to__set Plan.receipt_sent_sender_get Plan.receipt_sent_sender_set Plan.receipt_sent_receiver_get Plan.receipt_sent_receiver_set Plan.receipt_sent_seq_get Plan.receipt_sent_seq_set Plan.receipt_sent_token_get Plan.receipt_sent_token_set Plan.receipt_sent_amount_get Plan.receipt_sent_amount_set Plan.receipt_sent_size_get Plan.receipt_sent_size_set Plan.receipt_sent_payload_get Plan.receipt_sent_payload_set Plan.receipt_took_kind_get Plan.receipt_took_kind_set Plan.receipt_took_from__get Plan.receipt_took_from__set Plan.receipt_took_to__get Plan.receipt_took_to__set Plan.receipt_took_sender_get Plan.receipt_took_sender_set Plan.receipt_took_receiver_get Plan.receipt_took_receiver_set Plan.receipt_took_seq_get Plan.receipt_took_seq_set Plan.receipt_took_token_get Plan.receipt_took_token_set Plan.receipt_took_amount_get Plan.receipt_took_amount_set Plan.receipt_took_size_get Plan.receipt_took_size_set Plan.receipt_took_payload_get Plan.receipt_took_payload_set Move.length_enc Move.ok_enc Move.all_get Move.all_set Move.account_get Move.account_set Move.token_get Move.token_set Move.down_get Move.down_set Move.amount_get Move.amount_set Books.length_enc Books.ok_enc Books.all_get Books.all_set Books.sums_get Books.sums_set Books.stored_get Books.stored_set Books.marks_get Books.marks_set Pair.length_enc Pair.ok_enc Pair.all_get Pair.all_set Pair.key_get Pair.key_set Pair.value_get Pair.value_set
attribute [local go_sem] size_put size_ext blk_put free_put blk_alloc free_alloc blk_drew free_drew blk_ext free_ext lookOr_some putOr_some segAt_some cellAt_some storeIn_some put_put put_alloc_new length_arr ok_arr_u8 ok_arr_u32 ok_arr_u64 ok_arr_i64 ok_arr_sl cellsV_agg cellsV_int cellsV_bool cellsV_string cellsV_pointer cellsV_slice cellsV_sl ok_int ok_bool ok_string ok_pointer ok_slice ok_sl toList_arr seg_arr set_arr nth_splice nth_splice0 seg_splice seg_splice0 splice_splice splice_splice0 length_splice_if
attribute [local go_sem ↓] execOp_box
attribute [local go_sem] box_run nth_arr_u8 put_arr_u8 blk_drewN free_drewN put_drewN blk_raw free_raw
/-- The fees of transactions together, as long as they stay in range. -/
def qsF : List Tx → UInt64 → Option UInt64
  | [], f => some f
  | x :: l, f => match addO f x.fee with
    | none => none
    | some r => qsF l r
theorem qs_some {X : List Tx} {i : Nat} {x : Tx} {f r : UInt64} (h : X[i]? = some x) (ha : addO f x.fee = some r) : qsF (X.drop i) f = qsF (X.drop (i + 1)) r := by
  rw [List.drop_eq_getElem_cons (List.getElem?_eq_some_iff.1 h).1, (List.getElem?_eq_some_iff.1 h).2]
  show (match addO f x.fee with | none => none | some r => qsF (X.drop (i + 1)) r) = _
  rw [ha]
theorem qs_none {X : List Tx} {i : Nat} {x : Tx} {f : UInt64} (h : X[i]? = some x) (ha : addO f x.fee = none) : qsF (X.drop i) f = none := by
  rw [List.drop_eq_getElem_cons (List.getElem?_eq_some_iff.1 h).1, (List.getElem?_eq_some_iff.1 h).2]
  show (match addO f x.fee with | none => none | some r => qsF (X.drop (i + 1)) r) = _
  rw [ha]
def quoG (X : List Tx) : UInt64 := match qsF X 0 with | none => 0 | some _ => gasA X
def quoF (X : List Tx) : UInt64 := (qsF X 0).getD 0
def quoB (X : List Tx) : Bool := (qsF X 0).isSome
def quI (W : World) (s : Sl) (X : List Tx) (F : Nat → Value) (V : World) : Prop := F 0 = .slice s.a s.len s.cap ∧ ∃ (i : Nat) (f : UInt64), i ≤ s.len ∧ F 5 = .int .i64 (i : Nat) ∧ F 3 = .int .u64 (w64 f) ∧ qsF (X.drop i) f = qsF X 0 ∧ W.Extends V
set_option maxRecDepth 100000 in
theorem frame27L (f : Nat → Value) : frameN 27 f = #[f 0, f 1, f 2, f 3, f 4, f 5, f 6, f 7, f 8, f 9, f 10, f 11, f 12, f 13, f 14, f 15, f 16, f 17, f 18, f 19, f 20, f 21, f 22, f 23, f 24, f 25, f 26] := by kernel_rfl
set_option maxRecDepth 20000 in
set_option maxHeartbeats 1000000 in
theorem quote_any (W : World) (s : Sl) (X : List Tx) (hT : TxsIn W s X) : Calls Tryz.prog 33 #[.slice s.a s.len s.cap] W fun e V => e = .returned (.tuple #[.int .u64 (w64 (quoG X)), .int .u64 (w64 (quoF X)), .bool (quoB X)]) ∧ W.Extends V := by
  obtain ⟨Q, hQ⟩ : ∃ Q : Ending → World → Prop, Q = fun e V => e = .returned (.tuple #[.int .u64 (w64 (quoG X)), .int .u64 (w64 (quoF X)), .bool (quoB X)]) ∧ W.Extends V := ⟨_, rfl⟩
  rw [← hQ]
  have HQ := hid_of hQ
  have HT := hid_of hT
  have hml : s.len ≤ 9223372036854775807 := by have := hT.2.1; have := hT.2.2.1; unfold maxLen at this; omega
  clear hQ hT
  go_enter Tryz.func33, Tryz.ntmps33
  go_wp2_with fail
  refine wp_loop_f 27 (quI W s X) (fun f _ => s.len - (intOf (f 5)).toNat) rfl ⟨rfl, 0, 0, Nat.zero_le _, rfl, rfl, rfl, ext_Ext (Ext.refl _)⟩ ?_
  intro F V hrel
  obtain ⟨f0, i, f, hi, f5, f3, hqs, hX⟩ := hrel
  have H5 := hid_of f5
  have HX := hid_of hX
  have HQS := hid_of hqs
  rw [frame27L, f0, f5, f3]
  clear f0 f5 f3 hX hqs
  by_cases hin : i < s.len
  rotate_left 1
  · have hin' : ¬ (i : Int) < (s.len : Int) := by omega
    have hg := gasOfAll_any V s X (HT.out.ext HX.out)
    have HP : Hid (∀ V2, V.Extends V2 → Q (.returned (.tuple #[.int .u64 (w64 (gasA X)), .int .u64 (w64 f), .bool true])) V2) := fun V2 h2 => by
      have q := HQS.out
      rw [List.drop_of_length_le (by have := HT.out.1; omega)] at q
      have q' : qsF X 0 = some f := q.symm
      rw [HQ.out]
      unfold quoG quoF quoB
      rw [q']
      exact ⟨rfl, HX.out.trans h2⟩
    clear hin hi HX HQ HT HQS
    go_wp2_with fail
    refine hg.mono ?_
    clear hg
    rintro e V2 ⟨rfl, hx2⟩
    dsimp only
    have HP2 := hid_of (HP.out V2 hx2)
    clear HP hx2
    go_wp2_with fail
    try (first | go_ret | go_ret2 | go_ret3 | go_end0)
    exact HP2.out
  have hin' : (i : Int) < (s.len : Int) := by omega
  have p0 : (0 : Int) ≤ (i : Int) := by omega
  have p2 : ((i : Int)).toNat = i := by omega
  obtain ⟨x, hx⟩ : ∃ x, X[i]? = some x := ⟨_, List.getElem?_eq_getElem (by rw [HT.out.1]; exact hin)⟩
  obtain ⟨b, o, C, ha, kb0, hlen, hseg⟩ := HT.out.2.2.2 (by omega)
  have hsg := hseg i x hx
  have kb : blk V b = some C := (HX.out.blk (blk_lt kb0)).trans kb0
  have g83 : o + i * 83 + 83 ≤ C.length := by
    have : (i + 1) * 83 ≤ s.len * 83 := Nat.mul_le_mul_right _ hin
    omega
  have g83' : o + i * 83 + 4 < C.length := by omega
  have n4 : nth C (o + i * 83 + 4) = some (.int .u64 (w64 x.fee)) := (get_sub (a := o + i * 83) (j := 4) hsg (by rw [Tx.length_enc]; decide)).trans (Tx.fee_get x)
  have hi9 : (i : Int) + 1 ≤ 9223372036854775807 := by omega
  have hd := add_any V f x.fee
  have HIN := hid_of hin
  have HXI := hid_of hx
  clear hin hi hseg kb0 hlen hx hsg
  rw [ha]
  cases hao : addO f x.fee with
  | none =>
    rw [hao, optV_none] at hd
    have HP : Hid (Q (.returned (.tuple #[.int .u64 0, .int .u64 0, .bool false])) V) := by
      have q := HQS.out
      rw [qs_none HXI.out hao] at q
      show Q _ _
      rw [HQ.out]
      unfold quoG quoF quoB
      rw [← q]
      exact ⟨rfl, HX.out⟩
    clear HQ HX HT HQS hao
    go_wp2_with fail
    refine hd.mono ?_
    clear hd
    rintro e V2 ⟨rfl, hv2⟩
    obtain rfl := hv2.symm
    clear hv2
    dsimp only
    go_wp2_with fail
    try (first | go_ret | go_ret2 | go_ret3 | go_end0)
    exact HP.out
  | some r =>
    rw [hao, optV_some] at hd
    have HR : Hid (qsF (X.drop (i + 1)) r = qsF X 0) := by
      show _ = _
      rw [← qs_some HXI.out hao]
      exact HQS.out
    clear HQS hao
    go_wp2_with fail
    refine hd.mono ?_
    clear hd
    rintro e V2 ⟨rfl, hv2⟩
    obtain rfl := hv2.symm
    clear hv2
    dsimp only
    go_wp2_with fail
    refine ⟨rfl, rfl, ⟨by rw [ha]; rfl, i + 1, r, HIN.out, ?_, rfl, HR.out, HX.out⟩, ?_⟩
    · show Value.int .i64 _ = _
      go_num
    · show s.len - (intOf (Value.int .i64 _)).toNat < s.len - (intOf (F 5)).toNat
      rw [H5.out]
      have := HIN.out
      simp [intOf]; omega
def qaI (W : World) (s : Sl) (X : List Tx) (gq fq : UInt64) (ok : Bool) (F : Nat → Value) (V : World) : Prop := F 1 = .int .u64 (w64 gq) ∧ F 2 = .int .u64 (w64 fq) ∧ F 3 = .bool ok ∧ F 14 = .slice s.a s.len s.cap ∧ F 15 = .int .i64 (s.len : Nat) ∧ ∃ (i : Nat) (f : UInt64) (ft : Bool), i ≤ s.len ∧ F 16 = .int .i64 (i : Nat) ∧ F 9 = .int .u64 (w64 (gasA (X.take i))) ∧ F 10 = .int .u64 (w64 f) ∧ F 11 = .bool ft ∧ (ft = true → f.toNat ≤ 9223372036854775807 ∧ qsF (X.drop i) f = qsF X 0) ∧ (ft = false → qsF X 0 = none) ∧ W.Extends V
set_option maxRecDepth 100000 in
theorem frame63L (f : Nat → Value) : frameN 63 f = #[f 0, f 1, f 2, f 3, f 4, f 5, f 6, f 7, f 8, f 9, f 10, f 11, f 12, f 13, f 14, f 15, f 16, f 17, f 18, f 19, f 20, f 21, f 22, f 23, f 24, f 25, f 26, f 27, f 28, f 29, f 30, f 31, f 32, f 33, f 34, f 35, f 36, f 37, f 38, f 39, f 40, f 41, f 42, f 43, f 44, f 45, f 46, f 47, f 48, f 49, f 50, f 51, f 52, f 53, f 54, f 55, f 56, f 57, f 58, f 59, f 60, f 61, f 62] := by kernel_rfl
set_option maxRecDepth 20000 in
set_option maxHeartbeats 2000000 in
theorem quoteAgrees_any (W : World) (s : Sl) (X : List Tx) (hT : TxsIn W s X) : Calls Tryz.prog 34 #[.slice s.a s.len s.cap, .int .u64 (w64 (quoG X)), .int .u64 (w64 (quoF X)), .bool (quoB X)] W fun e V => e = .returned (.bool true) ∧ W.Extends V := by
  obtain ⟨Q, hQ⟩ : ∃ Q : Ending → World → Prop, Q = fun e V => e = .returned (.bool true) ∧ W.Extends V := ⟨_, rfl⟩
  rw [← hQ]
  have HQ : Hid (∀ V, W.Extends V → Q (.returned (.bool true)) V) := fun V h => by rw [hQ]; exact ⟨rfl, h⟩
  have HT := hid_of hT
  have hml : s.len ≤ 9223372036854775807 := by have := hT.2.1; have := hT.2.2.1; unfold maxLen at this; omega
  obtain ⟨gq, hgq⟩ : ∃ gq, gq = quoG X := ⟨_, rfl⟩
  obtain ⟨fq, hfq⟩ : ∃ fq, fq = quoF X := ⟨_, rfl⟩
  obtain ⟨ok, hok⟩ : ∃ ok, ok = quoB X := ⟨_, rfl⟩
  rw [← hgq, ← hfq, ← hok]
  have HV : Hid (gq = quoG X ∧ fq = quoF X ∧ ok = quoB X) := ⟨hgq, hfq, hok⟩
  clear hQ hT hgq hfq hok
  go_enter Tryz.func34, Tryz.ntmps34
  go_wp2_with fail
  refine wp_loop_f 63 (qaI W s X gq fq ok) (fun f _ => s.len - (intOf (f 16)).toNat) rfl ⟨rfl, rfl, rfl, rfl, rfl, 0, 0, true, Nat.zero_le _, rfl, rfl, rfl, rfl, fun _ => ⟨by decide, rfl⟩, fun q => (by cases q), ext_Ext (Ext.refl _)⟩ ?_
  intro F V hrel
  obtain ⟨f1, f2, f3, f14, f15, i, f, ft, hi, f16, f9, f10, f11, hT1, hF1, hX⟩ := hrel
  have H16 := hid_of f16
  have HX := hid_of hX
  have HT1 := hid_of hT1
  have HF1 := hid_of hF1
  rw [frame63L, f1, f2, f3, f14, f15, f16, f9, f10, f11]
  clear f1 f2 f3 f14 f15 f16 f9 f10 f11 hX hT1 hF1
  by_cases hin : i < s.len
  rotate_left 1
  · have hin' : ¬ (i : Int) < (s.len : Int) := by omega
    have HP := hid_of (HQ.out V HX.out)
    have et : X.take i = X := List.take_of_length_le (by have := HT.out.1; omega)
    have ed : X.drop i = [] := List.drop_of_length_le (by have := HT.out.1; omega)
    cases ft with
    | true =>
      have q := (HT1.out rfl).2
      rw [ed] at q
      have q' : qsF X 0 = some f := q.symm
      obtain ⟨v1, v2, v3⟩ := HV.out
      unfold quoG at v1
      unfold quoF at v2
      unfold quoB at v3
      rw [q'] at v1 v2 v3
      have v1' : gq = gasA X := v1
      have v2' : fq = f := v2
      have v3' : ok = true := v3
      subst v1' v2' v3'
      rw [et]
      clear hin hi HX HQ HT HT1 HF1 HV q q' v1 v2 v3 et ed
      go_wp2_with fail
      try (first | go_ret | go_ret2 | go_ret3 | go_end0)
      exact HP.out
    | false =>
      have q' := HF1.out rfl
      obtain ⟨v1, v2, v3⟩ := HV.out
      unfold quoG at v1
      unfold quoF at v2
      unfold quoB at v3
      rw [q'] at v1 v2 v3
      have v1' : gq = 0 := v1
      have v2' : fq = 0 := v2
      have v3' : ok = false := v3
      subst v1' v2' v3'
      clear hin hi HX HQ HT HT1 HF1 HV q' v1 v2 v3 et ed
      go_wp2_with fail
      try (first | go_ret | go_ret2 | go_ret3 | go_end0)
      exact HP.out
  have hin' : (i : Int) < (s.len : Int) := by omega
  have p0 : (0 : Int) ≤ (i : Int) := by omega
  have p2 : ((i : Int)).toNat = i := by omega
  obtain ⟨x, hx⟩ : ∃ x, X[i]? = some x := ⟨_, List.getElem?_eq_getElem (by rw [HT.out.1]; exact hin)⟩
  obtain ⟨b, o, C, ha, kb0, hlen, hseg⟩ := HT.out.2.2.2 (by omega)
  have hsg := hseg i x hx
  have kb : blk V b = some C := (HX.out.blk (blk_lt kb0)).trans kb0
  have g83 : o + i * 83 + 83 ≤ C.length := by
    have : (i + 1) * 83 ≤ s.len * 83 := Nat.mul_le_mul_right _ hin
    omega
  have hi9 : (i : Int) + 1 ≤ 9223372036854775807 := by omega
  have h2 := (BxI.start V).box x.enc 40
  obtain ⟨V2, hV2⟩ : ∃ V2, V2 = V.alloc (.cells x.enc.toArray 40) := ⟨_, rfl⟩
  obtain ⟨bx, hbx⟩ : ∃ bx, bx = V.heap.size := ⟨_, rfl⟩
  rw [← hV2, ← hbx] at h2
  have kx := (h2.at (b := bx) (C := x.enc) (by simp)).1
  have hg := gasOf_any V2 x
  rw [gasU_w] at hg
  have hadd : IntKind.u64.wrap (w64 (gasA (X.take i)) + w64 (gasU x)) = w64 (gasA (X.take (i + 1))) := by
    rw [gasA_snoc hx]
    exact x64_add _ _
  generalize w64 (gasA (X.take i)) = ga at hadd
  obtain ⟨gb, hgb⟩ : ∃ gb, gb = w64 (gasA (X.take (i + 1))) := ⟨_, rfl⟩
  rw [← hgb] at hadd
  have HGB := hid_of hgb
  have HIN := hid_of hin
  have HXI := hid_of hx
  have HV2 := hid_of hV2
  have HBX := hid_of hbx
  have H2 := hid_of h2
  clear hin hi hseg kb0 hlen hx hV2 hbx h2 hgb
  rw [ha]
  go_upto_region 6 with fail
  rw [← HV2.out, ← HBX.out]
  clear HV2 HBX kb hsg g83
  go_wp2_with fail
  refine hg.mono ?_
  clear hg
  rintro e V3 ⟨rfl, hx3⟩
  dsimp only
  have h3 := H2.out.ext hx3
  have k3 := (h3.at (b := bx) (C := x.enc) (by simp)).1
  have HX3 := hid_of (HX.out.trans h3.1)
  clear hx3 h3 kx H2 HX
  have hsm : IntKind.u64.wrap (w64 f + w64 x.fee) = w64 (f + x.fee) := x64_add _ _
  cases ft with
  | true =>
    by_cases c1 : x.fee.toNat ≤ 9223372036854775807
    rotate_left 1
    · have d1 : (9223372036854775807 : Int) < w64 x.fee := by unfold w64; omega
      have HT2 : Hid ((false = true → (f).toNat ≤ 9223372036854775807 ∧ qsF (X.drop (i + 1)) (f) = qsF X 0) ∧ (false = false → qsF X 0 = none)) := ⟨fun q => (by cases q), (fun _ => by
        have q := (HT1.out rfl).2
        rw [qs_none HXI.out (by unfold addO; rw [if_neg]; omega)] at q
        exact q.symm)⟩
      clear c1
      go_wp2_with fail
      refine ⟨rfl, rfl, ⟨rfl, rfl, rfl, by rw [ha]; rfl, rfl, i + 1, f, false, HIN.out, ?_, by rw [← HGB.out]; rfl, rfl, rfl, (by first | exact HT2.out.1 | exact fun _ => HT2.out.1 trivial | exact fun q => by cases q), (by first | exact HT2.out.2 | exact fun _ => HT2.out.2 trivial | exact fun q => by cases q), HX3.out⟩, ?_⟩
      · show Value.int .i64 _ = _
        go_num
      · show s.len - (intOf (Value.int .i64 _)).toNat < s.len - (intOf (F 16)).toNat
        rw [H16.out]
        have := HIN.out
        simp [intOf]; omega
    have d1 : ¬ (9223372036854775807 : Int) < w64 x.fee := by unfold w64; omega
    have hf := (HT1.out rfl).1
    have e : (f + x.fee).toNat = f.toNat + x.fee.toNat := by rw [UInt64.toNat_add]; omega
    by_cases c2 : f.toNat + x.fee.toNat ≤ 9223372036854775807
    rotate_left 1
    · have d2 : (9223372036854775807 : Int) < w64 (f + x.fee) := by unfold w64; omega
      have HT2 : Hid ((false = true → (f).toNat ≤ 9223372036854775807 ∧ qsF (X.drop (i + 1)) (f) = qsF X 0) ∧ (false = false → qsF X 0 = none)) := ⟨fun q => (by cases q), (fun _ => by
        have q := (HT1.out rfl).2
        rw [qs_none HXI.out (by unfold addO; rw [if_neg]; omega)] at q
        exact q.symm)⟩
      clear c1 c2 e hf
      go_wp2_with fail
      refine ⟨rfl, rfl, ⟨rfl, rfl, rfl, by rw [ha]; rfl, rfl, i + 1, f, false, HIN.out, ?_, by rw [← HGB.out]; rfl, rfl, rfl, (by first | exact HT2.out.1 | exact fun _ => HT2.out.1 trivial | exact fun q => by cases q), (by first | exact HT2.out.2 | exact fun _ => HT2.out.2 trivial | exact fun q => by cases q), HX3.out⟩, ?_⟩
      · show Value.int .i64 _ = _
        go_num
      · show s.len - (intOf (Value.int .i64 _)).toNat < s.len - (intOf (F 16)).toNat
        rw [H16.out]
        have := HIN.out
        simp [intOf]; omega
    have d2 : ¬ (9223372036854775807 : Int) < w64 (f + x.fee) := by unfold w64; omega
    have HT2 : Hid ((true = true → (f + x.fee).toNat ≤ 9223372036854775807 ∧ qsF (X.drop (i + 1)) (f + x.fee) = qsF X 0) ∧ (true = false → qsF X 0 = none)) := ⟨fun _ => ⟨by omega, by
        rw [← qs_some HXI.out (show addO f x.fee = some (f + x.fee) by unfold addO; rw [if_pos c2])]
        exact (HT1.out rfl).2⟩, fun q => (by cases q)⟩
    clear c1 c2 e hf
    go_wp2_with fail
    refine ⟨rfl, rfl, ⟨rfl, rfl, rfl, by rw [ha]; rfl, rfl, i + 1, f + x.fee, true, HIN.out, ?_, by rw [← HGB.out]; rfl, rfl, rfl, (by first | exact HT2.out.1 | exact fun _ => HT2.out.1 trivial | exact fun q => by cases q), (by first | exact HT2.out.2 | exact fun _ => HT2.out.2 trivial | exact fun q => by cases q), HX3.out⟩, ?_⟩
    · show Value.int .i64 _ = _
      go_num
    · show s.len - (intOf (Value.int .i64 _)).toNat < s.len - (intOf (F 16)).toNat
      rw [H16.out]
      have := HIN.out
      simp [intOf]; omega
  | false =>
    by_cases c1 : x.fee.toNat ≤ 9223372036854775807
    rotate_left 1
    · have d1 : (9223372036854775807 : Int) < w64 x.fee := by unfold w64; omega
      have HT2 : Hid ((false = true → (f).toNat ≤ 9223372036854775807 ∧ qsF (X.drop (i + 1)) (f) = qsF X 0) ∧ (false = false → qsF X 0 = none)) := ⟨fun q => (by cases q), fun _ => HF1.out rfl⟩
      clear c1
      go_wp2_with fail
      refine ⟨rfl, rfl, ⟨rfl, rfl, rfl, by rw [ha]; rfl, rfl, i + 1, f, false, HIN.out, ?_, by rw [← HGB.out]; rfl, rfl, rfl, (by first | exact HT2.out.1 | exact fun _ => HT2.out.1 trivial | exact fun q => by cases q), (by first | exact HT2.out.2 | exact fun _ => HT2.out.2 trivial | exact fun q => by cases q), HX3.out⟩, ?_⟩
      · show Value.int .i64 _ = _
        go_num
      · show s.len - (intOf (Value.int .i64 _)).toNat < s.len - (intOf (F 16)).toNat
        rw [H16.out]
        have := HIN.out
        simp [intOf]; omega
    have d1 : ¬ (9223372036854775807 : Int) < w64 x.fee := by unfold w64; omega
    by_cases c2 : (f + x.fee).toNat ≤ 9223372036854775807
    rotate_left 1
    · have d2 : (9223372036854775807 : Int) < w64 (f + x.fee) := by unfold w64; omega
      have HT2 : Hid ((false = true → (f).toNat ≤ 9223372036854775807 ∧ qsF (X.drop (i + 1)) (f) = qsF X 0) ∧ (false = false → qsF X 0 = none)) := ⟨fun q => (by cases q), fun _ => HF1.out rfl⟩
      clear c1 c2
      go_wp2_with fail
      refine ⟨rfl, rfl, ⟨rfl, rfl, rfl, by rw [ha]; rfl, rfl, i + 1, f, false, HIN.out, ?_, by rw [← HGB.out]; rfl, rfl, rfl, (by first | exact HT2.out.1 | exact fun _ => HT2.out.1 trivial | exact fun q => by cases q), (by first | exact HT2.out.2 | exact fun _ => HT2.out.2 trivial | exact fun q => by cases q), HX3.out⟩, ?_⟩
      · show Value.int .i64 _ = _
        go_num
      · show s.len - (intOf (Value.int .i64 _)).toNat < s.len - (intOf (F 16)).toNat
        rw [H16.out]
        have := HIN.out
        simp [intOf]; omega
    have d2 : ¬ (9223372036854775807 : Int) < w64 (f + x.fee) := by unfold w64; omega
    have HT2 : Hid ((false = true → (f).toNat ≤ 9223372036854775807 ∧ qsF (X.drop (i + 1)) (f) = qsF X 0) ∧ (false = false → qsF X 0 = none)) := ⟨fun q => (by cases q), fun _ => HF1.out rfl⟩
    clear c1 c2
    go_wp2_with fail
    refine ⟨rfl, rfl, ⟨rfl, rfl, rfl, by rw [ha]; rfl, rfl, i + 1, f, false, HIN.out, ?_, by rw [← HGB.out]; rfl, rfl, rfl, (by first | exact HT2.out.1 | exact fun _ => HT2.out.1 trivial | exact fun q => by cases q), (by first | exact HT2.out.2 | exact fun _ => HT2.out.2 trivial | exact fun q => by cases q), HX3.out⟩, ?_⟩
    · show Value.int .i64 _ = _
      go_num
    · show s.len - (intOf (Value.int .i64 _)).toNat < s.len - (intOf (F 16)).toNat
      rw [H16.out]
      have := HIN.out
      simp [intOf]; omega
end Go.Proofs.Qxb6500786aGreat
