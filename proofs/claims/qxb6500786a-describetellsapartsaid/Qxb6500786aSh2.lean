import Derived.Test.Qxb6500786aSh1
import Derived.StillTailTactics
import Derived.Deep.QuietTactic
import Derived.BigQuiet
import Derived.Deep.RegionHeld
import Derived.Deep.CutRange
import Derived.Laws.ResultCell
import Derived.Laws.Rows
import Derived.DeepKeys
import Derived.Laws.StructEq
set_option linter.unusedSimpArgs false
set_option linter.unusedVariables false
namespace Go.Proofs.Qxb6500786a
open Go.RowKit Go.Blk
attribute [local go_sem ↓] execOp_load execOp_store execOp_alloc
attribute [local go_sem] Try.ld33 Try.st33 Try.ld24 Try.st24 Try.ld29 Try.st29 Try.ld30 Try.st30 Try.ld31 Try.st31 Try.ld5 Try.st5 Try.ld28 Try.st28 Try.ld27 Try.st27 Try.ld26 Try.st26 Try.ld2 Try.st2 Try.ld3 Try.st3 Try.ld4 Try.st4 Try.ld9 Try.st9 Try.ld12 Try.st12 Try.ld21 Try.st21 Try.ld22 Try.st22 Try.ld41 Try.st41 Try.ld50 Try.st50 Try.ld55 Try.st55 Try.ld63 Try.st63 Try.ld78 Try.st78 Try.ld87 Try.st87 Try.ld91 Try.st91 Try.ld32 Try.st32 Try.ld47 Try.st47 Try.ld52 Try.st52 Try.ld71 Try.st71 Try.ld35 Try.st35 Try.ld37 Try.st37 Try.ld39 Try.st39 Try.al32 Try.al47 Try.al52 Try.al71 Try.al35 Try.al37 Try.al39
attribute [local go_sem] Message.length_enc Message.ok_enc Message.all_get Message.all_set Message.kind_get Message.kind_set Message.from__get Message.from__set Message.to__get Message.to__set Message.sender_get Message.sender_set Message.receiver_get Message.receiver_set Message.seq_get Message.seq_set Message.token_get Message.token_set Message.amount_get Message.amount_set Message.size_get Message.size_set Message.payload_get Message.payload_set Tx.length_enc Tx.ok_enc Tx.all_get Tx.all_set Tx.kind_get Tx.kind_set Tx.chain_get Tx.chain_set Tx.from__get Tx.from__set Tx.nonce_get Tx.nonce_set Tx.fee_get Tx.fee_set Tx.to__get Tx.to__set Tx.dest_get Tx.dest_set Tx.token_get Tx.token_set Tx.amount_get Tx.amount_set Tx.size_get Tx.size_set Tx.payload_get Tx.payload_set Tx.msg_get Tx.msg_set Tx.msg_kind_get Tx.msg_kind_set Tx.msg_from__get Tx.msg_from__set Tx.msg_to__get Tx.msg_to__set Tx.msg_sender_get Tx.msg_sender_set Tx.msg_receiver_get Tx.msg_receiver_set Tx.msg_seq_get Tx.msg_seq_set Tx.msg_token_get Tx.msg_token_set Tx.msg_amount_get Tx.msg_amount_set Tx.msg_size_get Tx.msg_size_set Tx.msg_payload_get Tx.msg_payload_set GOp.length_enc GOp.ok_enc GOp.all_get GOp.all_set GOp.kind_get GOp.kind_set GOp.tx_get GOp.tx_set GOp.txs_get GOp.txs_set GOp.gas_get GOp.gas_set GOp.acct_get GOp.acct_set GOp.token_get GOp.token_set GOp.chain_get GOp.chain_set GOp.seq_get GOp.seq_set GOp.tx_kind_get GOp.tx_kind_set GOp.tx_chain_get GOp.tx_chain_set GOp.tx_from__get GOp.tx_from__set GOp.tx_nonce_get GOp.tx_nonce_set GOp.tx_fee_get GOp.tx_fee_set GOp.tx_to__get GOp.tx_to__set GOp.tx_dest_get GOp.tx_dest_set GOp.tx_token_get GOp.tx_token_set GOp.tx_amount_get GOp.tx_amount_set GOp.tx_size_get GOp.tx_size_set GOp.tx_payload_get GOp.tx_payload_set GOp.tx_msg_get GOp.tx_msg_set GOp.tx_msg_kind_get GOp.tx_msg_kind_set GOp.tx_msg_from__get GOp.tx_msg_from__set GOp.tx_msg_to__get GOp.tx_msg_to__set GOp.tx_msg_sender_get GOp.tx_msg_sender_set GOp.tx_msg_receiver_get GOp.tx_msg_receiver_set GOp.tx_msg_seq_get GOp.tx_msg_seq_set GOp.tx_msg_token_get GOp.tx_msg_token_set GOp.tx_msg_amount_get GOp.tx_msg_amount_set GOp.tx_msg_size_get GOp.tx_msg_size_set GOp.tx_msg_payload_get GOp.tx_msg_payload_set
attribute [local go_sem] size_put size_ext blk_put free_put blk_alloc free_alloc blk_drew free_drew blk_ext free_ext lookOr_some putOr_some segAt_some cellAt_some storeIn_some put_put put_alloc_new length_arr ok_arr_u8 ok_arr_u32 ok_arr_u64 ok_arr_i64 ok_arr_sl cellsV_agg cellsV_int cellsV_bool cellsV_string cellsV_pointer cellsV_slice cellsV_sl ok_int ok_bool ok_string ok_pointer ok_slice ok_sl toList_arr seg_arr set_arr nth_splice nth_splice0 seg_splice seg_splice0 splice_splice splice_splice0 length_splice_if
attribute [local go_sem ↓] execOp_box
attribute [local go_sem] box_run nth_arr_u8 put_arr_u8
def fieldsF (k : UInt8) : Int := if w8 k = 1 then 5 else if w8 k = 2 then 7 else if w8 k = 4 then 11 else if w8 k = 3 ∨ w8 k = 5 then 16 else 0
set_option maxRecDepth 20000 in
theorem fieldsOf_any (w : World) (k : UInt8) : Calls Try.prog 25 #[.int .u8 (w8 k)] w fun e w' => e = .returned (.int .u8 (fieldsF k)) ∧ w' = w := by
  go_enter Try.func25, Try.ntmps25
  go_wp2_with fail
  all_goals (go_ret; refine ⟨?_, rfl⟩; unfold fieldsF; simp_all)
theorem minFee_any (w : World) (x : Tx) : Calls Try.prog 26 #[.agg x.enc.toArray] w fun e w' => ∃ n : Int, e = .returned (.int .u64 n) ∧ Ext w w' := by
  go_enter Try.func26, Try.ntmps26
  go_wp2_with fail
  all_goals (go_ret; exact ⟨_, rfl, (Ext.refl _).alloc _⟩)
theorem checkEnvelope_any (w : World) (c : UInt8) (x : Tx) : Calls Try.prog 18 #[.int .u8 (w8 c), .agg x.enc.toArray] w fun e w' => NotStray w (fieldsF x.kind ≠ 0) e w' := by
  go_enter Try.func18, Try.ntmps18
  go_wp2_with fail
  refine (fieldsOf_any _ x.kind).mono ?_
  rintro e w2 ⟨rfl, rfl⟩
  by_cases hf : fieldsF x.kind = 0
  · go_wp2_with fail
    go_ret
    exact ⟨_, rfl, by decide, fun h => absurd h (by decide), (Ext.refl _).alloc _⟩
  · have hfb : (fieldsF x.kind == 0) = false := by simp [hf]
    go_wp2_with fail
    all_goals (go_ret; exact ⟨_, rfl, by decide, fun _ => hf, (Ext.refl _).alloc _⟩)
theorem checkTransfer_any (w : World) (x : Tx) : Calls Try.prog 19 #[.agg x.enc.toArray] w fun e w' => NotStray w True e w' := by
  by_cases h1 : w8 x.to_ < 64
  · by_cases h2 : w8 x.to_ = w8 x.from_
    · go_enter Try.func19, Try.ntmps19
      go_wp2_with fail
      go_ret
      exact ⟨_, rfl, by decide, fun _ => trivial, (Ext.refl _).alloc _⟩
    · go_enter Try.func19, Try.ntmps19
      go_wp2_with fail
      refine (checkValue_any _ x.token x.amount).mono ?_
      rintro e w2 ⟨c, rfl, hc, _, he⟩
      have HE : Hid (Ext w w2) := ((Ext.refl w).alloc _).trans he
      clear he
      go_wp2_with fail
      go_ret
      exact ⟨c, rfl, hc, fun _ => trivial, HE.out⟩
  · have h1' : 64 ≤ w8 x.to_ := by omega
    go_enter Try.func19, Try.ntmps19
    go_wp2_with fail
    go_ret
    exact ⟨_, rfl, by decide, fun _ => trivial, (Ext.refl _).alloc _⟩
theorem checkBurn_any (w : World) (k : UInt8) (x : Tx) : Calls Try.prog 20 #[.int .u8 (w8 k), .agg x.enc.toArray] w fun e w' => NotStray w True e w' := by
  go_enter Try.func20, Try.ntmps20
  go_wp2_with fail
  refine (checkRoute_any _ k x.dest x.to_).mono ?_
  rintro e w2 ⟨c, rfl, hc, _, he⟩
  have hb2 : blk w2 w.heap.size = some x.enc := by rw [he.blk (by rw [World.size_alloc]; omega), blk_alloc, if_pos rfl]
  have HE : Hid (Ext w w2) := ((Ext.refl w).alloc _).trans he
  clear he
  by_cases h0 : c = 0
  · subst h0
    go_wp2_with fail
    refine (checkValue_any _ x.token x.amount).mono ?_
    rintro e w3 ⟨c, rfl, hc, _, he⟩
    have HE3 : Hid (Ext w w3) := HE.out.trans he
    clear he
    go_wp2_with fail
    go_ret
    exact ⟨c, rfl, hc, fun _ => trivial, HE3.out⟩
  · have h0b : (c == 0) = false := by simp [h0]
    go_wp2_with fail
    go_ret
    exact ⟨c, rfl, hc, fun _ => trivial, HE.out⟩
theorem checkSend_any (w : World) (k : UInt8) (x : Tx) : Calls Try.prog 21 #[.int .u8 (w8 k), .agg x.enc.toArray] w fun e w' => NotStray w (x.size.toNat ≤ 32 ∧ x.size.toNat ≠ 0 ∧ blankF x.payload x.size.toNat = true) e w' := by
  go_enter Try.func21, Try.ntmps21
  go_wp2_with fail
  refine (checkRoute_any _ k x.dest x.to_).mono ?_
  rintro e w2 ⟨c, rfl, hc, _, he⟩
  have hb2 : blk w2 w.heap.size = some x.enc := by rw [he.blk (by rw [World.size_alloc]; omega), blk_alloc, if_pos rfl]
  have HE : Hid (Ext w w2) := ((Ext.refl w).alloc _).trans he
  clear he
  by_cases h0 : c = 0
  · subst h0
    go_wp2_with fail
    refine (checkPayload_any _ x.size x.payload).mono ?_
    rintro e w3 ⟨c, rfl, hc, hq, he⟩
    have HE3 : Hid (Ext w w3) := HE.out.trans he
    have HQ : Hid (c = 0 → x.size.toNat ≤ 32 ∧ x.size.toNat ≠ 0 ∧ blankF x.payload x.size.toNat = true) := hq
    clear he hq
    go_wp2_with fail
    go_ret
    exact ⟨c, rfl, hc, HQ.out, HE3.out⟩
  · have h0b : (c == 0) = false := by simp [h0]
    go_wp2_with fail
    go_ret
    exact ⟨c, rfl, hc, fun h => absurd h h0, HE.out⟩
end Go.Proofs.Qxb6500786a
