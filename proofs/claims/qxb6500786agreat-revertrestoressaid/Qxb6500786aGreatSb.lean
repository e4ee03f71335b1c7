import Derived.DeepKeys2
import Derived.Test.Qxb6500786aGreatEc

import Derived.StillTailTactics
import Derived.Deep.QuietTactic
import Derived.BigQuiet
import Derived.Deep.RegionHeld
import Derived.Deep.CutRange
import Derived.Laws.ResultCell
import Derived.Laws.Rows
import Derived.DeepKeys
import Derived.DataBytes
import Derived.Laws.StructEq
import Derived.Laws.AppendOwn
import Derived.Laws.MakeOwn
import Derived.Lib.AppendStr
set_option linter.unusedSimpArgs false
set_option linter.unusedVariables false
namespace Go.Proofs.Qxb6500786aGreat
open Go.RowKit Go.Blk
attribute [local go_sem ↓] execOp_load execOp_store execOp_alloc
attribute [local go_sem] Tryz.ld24 Tryz.st24 Tryz.ld36 Tryz.st36 Tryz.ld28 Tryz.st28 Tryz.ld32 Tryz.st32 Tryz.ld33 Tryz.st33 Tryz.ld34 Tryz.st34 Tryz.ld5 Tryz.st5 Tryz.ld31 Tryz.st31 Tryz.ld30 Tryz.st30 Tryz.ld41 Tryz.st41 Tryz.ld44 Tryz.st44 Tryz.ld4 Tryz.st4 Tryz.ld173 Tryz.st173 Tryz.ld174 Tryz.st174 Tryz.ld95 Tryz.st95 Tryz.ld45 Tryz.st45 Tryz.ld207 Tryz.st207 Tryz.ld3 Tryz.st3 Tryz.ld189 Tryz.st189 Tryz.ld2 Tryz.st2 Tryz.ld9 Tryz.st9 Tryz.ld12 Tryz.st12 Tryz.ld21 Tryz.st21 Tryz.ld22 Tryz.st22 Tryz.ld46 Tryz.st46 Tryz.ld92 Tryz.st92 Tryz.ld94 Tryz.st94 Tryz.ld96 Tryz.st96 Tryz.ld97 Tryz.st97 Tryz.ld105 Tryz.st105 Tryz.ld117 Tryz.st117 Tryz.ld122 Tryz.st122 Tryz.ld123 Tryz.st123 Tryz.ld133 Tryz.st133 Tryz.ld155 Tryz.st155 Tryz.ld163 Tryz.st163 Tryz.ld190 Tryz.st190 Tryz.ld197 Tryz.st197 Tryz.ld201 Tryz.st201 Tryz.ld202 Tryz.st202 Tryz.ld209 Tryz.st209 Tryz.ld216 Tryz.st216 Tryz.ld230 Tryz.st230 Tryz.ld238 Tryz.st238 Tryz.ld242 Tryz.st242 Tryz.ld251 Tryz.st251 Tryz.ld260 Tryz.st260 Tryz.ld286 Tryz.st286 Tryz.ld292 Tryz.st292 Tryz.ld298 Tryz.st298 Tryz.ld309 Tryz.st309 Tryz.ld35 Tryz.st35 Tryz.ld48 Tryz.st48 Tryz.ld47 Tryz.st47 Tryz.ld79 Tryz.st79 Tryz.ld177 Tryz.st177 Tryz.ld180 Tryz.st180 Tryz.ld231 Tryz.st231 Tryz.ld232 Tryz.st232 Tryz.ld26 Tryz.st26 Tryz.ld38 Tryz.st38 Tryz.ld40 Tryz.st40 Tryz.ld43 Tryz.st43 Tryz.ld50 Tryz.st50 Tryz.ld52 Tryz.st52 Tryz.ld54 Tryz.st54 Tryz.ld81 Tryz.st81 Tryz.ld112 Tryz.st112 Tryz.ld120 Tryz.st120 Tryz.ld176 Tryz.st176 Tryz.ld179 Tryz.st179 Tryz.ld182 Tryz.st182 Tryz.ld184 Tryz.st184 Tryz.ld234 Tryz.st234 Tryz.ld236 Tryz.st236 Tryz.ld240 Tryz.st240 Tryz.ld246 Tryz.st246 Tryz.ld249 Tryz.st249 Tryz.al35 Tryz.al48 Tryz.al47 Tryz.al79 Tryz.al177 Tryz.al180 Tryz.al231 Tryz.al232 Tryz.al26 Tryz.al38 Tryz.al40 Tryz.al43 Tryz.al50 Tryz.al52 Tryz.al54 Tryz.al81 Tryz.al112 Tryz.al120 Tryz.al176 Tryz.al179 Tryz.al182 Tryz.al184 Tryz.al234 Tryz.al236 Tryz.al240 Tryz.al246 Tryz.al249
attribute [local go_sem] Player.length_enc Player.ok_enc Player.all_get Player.all_set Player.hand_get Player.hand_set Player.aside_get Player.aside_set Message.length_enc Message.ok_enc Message.all_get Message.all_set Message.kind_get Message.kind_set Message.from__get Message.from__set Message.to__get Message.to__set Message.sender_get Message.sender_set Message.receiver_get Message.receiver_set Message.seq_get Message.seq_set Message.token_get Message.token_set Message.amount_get Message.amount_set Message.size_get Message.size_set Message.payload_get Message.payload_set Tx.length_enc Tx.ok_enc Tx.all_get Tx.all_set Tx.kind_get Tx.kind_set Tx.chain_get Tx.chain_set Tx.from__get Tx.from__set Tx.nonce_get Tx.nonce_set Tx.fee_get Tx.fee_set Tx.to__get Tx.to__set Tx.dest_get Tx.dest_set Tx.token_get Tx.token_set Tx.amount_get Tx.amount_set Tx.size_get Tx.size_set Tx.payload_get Tx.payload_set Tx.msg_get Tx.msg_set Tx.msg_kind_get Tx.msg_kind_set Tx.msg_from__get Tx.msg_from__set Tx.msg_to__get Tx.msg_to__set Tx.msg_sender_get Tx.msg_sender_set Tx.msg_receiver_get Tx.msg_receiver_set Tx.msg_seq_get Tx.msg_seq_set Tx.msg_token_get Tx.msg_token_set Tx.msg_amount_get Tx.msg_amount_set Tx.msg_size_get Tx.msg_size_set Tx.msg_payload_get Tx.msg_payload_set GOp.length_enc GOp.ok_enc GOp.all_get GOp.all_set GOp.kind_get GOp.kind_set GOp.tx_get GOp.tx_set GOp.txs_get GOp.txs_set GOp.gas_get GOp.gas_set GOp.acct_get GOp.acct_set GOp.token_get GOp.token_set GOp.chain_get GOp.chain_set GOp.seq_get GOp.seq_set GOp.tx_kind_get GOp.tx_kind_set GOp.tx_chain_get GOp.tx_chain_set GOp.tx_from__get GOp.tx_from__set GOp.tx_nonce_get GOp.tx_nonce_set GOp.tx_fee_get GOp.tx_fee_set GOp.tx_to__get GOp.tx_to__set GOp.tx_dest_get GOp.tx_dest_set GOp.tx_token_get GOp.tx_token_set GOp.tx_amount_get GOp.tx_amount_set GOp.tx_size_get GOp.tx_size_set GOp.tx_payload_get GOp.tx_payload_set GOp.tx_msg_get GOp.tx_msg_set GOp.tx_msg_kind_get GOp.tx_msg_kind_set GOp.tx_msg_from__get GOp.tx_msg_from__set GOp.tx_msg_to__get GOp.tx_msg_to__set GOp.tx_msg_sender_get GOp.tx_msg_sender_set GOp.tx_msg_receiver_get GOp.tx_msg_receiver_set GOp.tx_msg_seq_get GOp.tx_msg_seq_set GOp.tx_msg_token_get GOp.tx_msg_token_set GOp.tx_msg_amount_get GOp.tx_msg_amount_set GOp.tx_msg_size_get GOp.tx_msg_size_set GOp.tx_msg_payload_get GOp.tx_msg_payload_set Summary.length_enc Summary.ok_enc Summary.all_get Summary.all_set Summary.height_get Summary.height_set Summary.txs_get Summary.txs_set Summary.gas_get Summary.gas_set Summary.fees_get Summary.fees_set Summary.sent_get Summary.sent_set Summary.took_get Summary.took_set Summary.minted_get Summary.minted_set Summary.burned_get Summary.burned_set Summary.root_get Summary.root_set Detail.length_enc Detail.ok_enc Detail.all_get Detail.all_set Detail.code_get Detail.code_set Detail.have__get Detail.have__set Detail.need_get Detail.need_set Slot.length_enc Slot.ok_enc Slot.all_get Slot.all_set Slot.nonce_get Slot.nonce_set Slot.balances_get Slot.balances_set Tree.length_enc Tree.ok_enc Tree.all_get Tree.all_set Tree.leaves_get Tree.leaves_set Mark.length_enc Mark.ok_enc Mark.all_get Mark.all_set Mark.from__get Mark.from__set Mark.seq_get Mark.seq_set Receipt.length_enc Receipt.ok_enc Receipt.all_get Receipt.all_set Receipt.code_get Receipt.code_set Receipt.hash_get Receipt.hash_set Receipt.index_get Receipt.index_set Receipt.gas_get Receipt.gas_set Receipt.fee_get Receipt.fee_set Receipt.hasSent_get Receipt.hasSent_set Receipt.sent_get Receipt.sent_set Receipt.hasTook_get Receipt.hasTook_set Receipt.took_get Receipt.took_set Receipt.sent_kind_get Receipt.sent_kind_set Receipt.sent_from__get Receipt.sent_from__set Receipt.sent_to__get Receipt.sent_to__set Receipt.sent_sender_get Receipt.sent_sender_set Receipt.sent_receiver_get Receipt.sent_receiver_set Receipt.sent_seq_get Receipt.sent_seq_set Receipt.sent_token_get Receipt.sent_token_set Receipt.sent_amount_get Receipt.sent_amount_set Receipt.sent_size_get Receipt.sent_size_set Receipt.sent_payload_get Receipt.sent_payload_set Receipt.took_kind_get Receipt.took_kind_set Receipt.took_from__get Receipt.took_from__set Receipt.took_to__get Receipt.took_to__set Receipt.took_sender_get Receipt.took_sender_set Receipt.took_receiver_get Receipt.took_receiver_set Receipt.took_seq_get Receipt.took_seq_set Receipt.took_token_get Receipt.took_token_set Receipt.took_amount_get Receipt.took_amount_set Receipt.took_size_get Receipt.took_size_set Receipt.took_payload_get Receipt.took_payload_set Store.length_enc Store.ok_enc Store.all_get Store.all_set Store.now_get Store.now_set Store.saved_get Store.saved_set GState.length_enc GState.ok_enc GState.all_get GState.all_set GState.kv_get GState.kv_set GState.tree_get GState.tree_set GState.stale_get GState.stale_set GState.touched_get GState.touched_set GState.kv_now_get GState.kv_now_set GState.kv_saved_get GState.kv_saved_set GState.tree_leaves_get GState.tree_leaves_set History.length_enc History.ok_enc History.all_get History.all_set History.ring_get History.ring_set History.closed_get History.closed_set Ledger.length_enc Ledger.ok_enc Ledger.all_get Ledger.all_set Ledger.chain_get Ledger.chain_set Ledger.st_get Ledger.st_set Ledger.height_get Ledger.height_set Ledger.open__get Ledger.open__set Ledger.gasLimit_get Ledger.gasLimit_set Ledger.past_get Ledger.past_set Ledger.begun_get Ledger.begun_set Ledger.sent_get Ledger.sent_set Ledger.took_get Ledger.took_set Ledger.receipts_get Ledger.receipts_set Ledger.st_kv_get Ledger.st_kv_set Ledger.st_tree_get Ledger.st_tree_set Ledger.st_stale_get Ledger.st_stale_set Ledger.st_touched_get Ledger.st_touched_set Ledger.st_kv_now_get Ledger.st_kv_now_set Ledger.st_kv_saved_get Ledger.st_kv_saved_set Ledger.st_tree_leaves_get Ledger.st_tree_leaves_set Ledger.past_ring_get Ledger.past_ring_set Ledger.past_closed_get Ledger.past_closed_set Ledger.begun_kv_get Ledger.begun_kv_set Ledger.begun_tree_get Ledger.begun_tree_set Ledger.begun_stale_get Ledger.begun_stale_set Ledger.begun_touched_get Ledger.begun_touched_set Ledger.begun_kv_now_get Ledger.begun_kv_now_set Ledger.begun_kv_saved_get Ledger.begun_kv_saved_set Ledger.begun_tree_leaves_get Ledger.begun_tree_leaves_set Purse.length_enc Purse.ok_enc Purse.all_get Purse.all_set Purse.st_get Purse.st_set Purse.n_get Purse.n_set Purse.account_get Purse.account_set Purse.token_get Purse.token_set Purse.amount_get Purse.amount_set Plan.length_enc Plan.ok_enc Plan.all_get Plan.all_set Plan.purse_get Plan.purse_set Plan.nonce_get Plan.nonce_set Plan.gasUsed_get Plan.gasUsed_set Plan.fees_get Plan.fees_set Plan.hasSupply_get Plan.hasSupply_set Plan.token_get Plan.token_set Plan.supply_get Plan.supply_set Plan.flowAt_get Plan.flowAt_set Plan.flow_get Plan.flow_set Plan.receipt_get Plan.receipt_set Plan.purse_st_get Plan.purse_st_set Plan.purse_n_get Plan.purse_n_set Plan.purse_account_get Plan.purse_account_set Plan.purse_token_get Plan.purse_token_set Plan.purse_amount_get Plan.purse_amount_set Plan.receipt_code_get Plan.receipt_code_set Plan.receipt_hash_get Plan.receipt_hash_set Plan.receipt_index_get Plan.receipt_index_set Plan.receipt_gas_get Plan.receipt_gas_set Plan.receipt_fee_get Plan.receipt_fee_set Plan.receipt_hasSent_get Plan.receipt_hasSent_set Plan.receipt_sent_get Plan.receipt_sent_set Plan.receipt_hasTook_get Plan.receipt_hasTook_set Plan.receipt_took_get Plan.receipt_took_set Plan.receipt_sent_kind_get Plan.receipt_sent_kind_set Plan.receipt_sent_from__get Plan.receipt_sent_from__set Plan.receipt_sent_to__get Plan.receipt_sent_to__set Plan.receipt_sent_sender_get Plan.receipt_sent_sender_set Plan.receipt_sent_receiver_get Plan.receipt_sent_receiver_set Plan.receipt_sent_seq_get Plan.receipt_sent_seq_set Plan.receipt_sent_token_get Plan.receipt_sent_token_set Plan.receipt_sent_amount_get Plan.receipt_sent_amount_set Plan.receipt_sent_size_get Plan.receipt_sent_size_set Plan.receipt_sent_payload_get Plan.receipt_sent_payload_set Plan.receipt_took_kind_get Plan.receipt_took_kind_set Plan.receipt_took_from__get Plan.receipt_took_from__set Plan.receipt_took_to__get Plan.receipt_took_to__set Plan.receipt_took_sender_get Plan.receipt_took_sender_set Plan.receipt_took_receiver_get Plan.receipt_took_receiver_set Plan.receipt_took_seq_get Plan.receipt_took_seq_set Plan.receipt_took_token_get Plan.receipt_took_token_set Plan.receipt_took_amount_get Plan.receipt_took_amount_set Plan.receipt_took_size_get Plan.receipt_took_size_set Plan.receipt_took_payload_get Plan.receipt_took_payload_set Move.length_enc Move.ok_enc Move.all_get Move.all_set Move.account_get Move.account_set Move.token_get Move.token_set Move.down_get Move.down_set Move.amount_get Move.amount_set Books.length_enc Books.ok_enc Books.all_get Books.all_set Books.sums_get Books.sums_set Books.stored_get Books.stored_set Books.marks_get Books.marks_set Pair.length_enc Pair.ok_enc Pair.all_get Pair.all_set Pair.key_get Pair.key_set Pair.value_get Pair.value_set
attribute [local go_sem] size_put size_ext blk_put free_put blk_alloc free_alloc blk_drew free_drew blk_ext free_ext lookOr_some putOr_some segAt_some cellAt_some storeIn_some put_put put_alloc_new length_arr ok_arr_u8 ok_arr_u32 ok_arr_u64 ok_arr_i64 ok_arr_sl cellsV_agg cellsV_int cellsV_bool cellsV_string cellsV_pointer cellsV_slice cellsV_sl ok_int ok_bool ok_string ok_pointer ok_slice ok_sl toList_arr seg_arr set_arr nth_splice nth_splice0 seg_splice seg_splice0 splice_splice splice_splice0 length_splice_if
attribute [local go_sem ↓] execOp_box
attribute [local go_sem] box_run nth_arr_u8 put_arr_u8 blk_drewN free_drewN put_drewN blk_raw free_raw
def rteF (c d t : UInt8) : Int := if chnB d = true then (if w8 d = w8 c then 10 else if 64 ≤ w8 t then 5 else 0) else 10
def payF (z : UInt8) (p : Vector UInt8 32) : Int := if 32 < w8 z then 11 else if w8 z = 0 then 12 else if blankF p z.toNat = true then 0 else 13
def envF (c : UInt8) (x : Tx) : Int := if fieldsF x.kind = 0 then 1 else if w8 x.chain = w8 c then (if 64 ≤ w8 x.from_ then 3 else if 9223372036854775807 < w64 x.fee then 4 else 0) else 2
def trnF (x : Tx) : Int := if 64 ≤ w8 x.to_ then 5 else if w8 x.to_ = w8 x.from_ then 6 else valF x.token x.amount
def burF (c : UInt8) (x : Tx) : Int := if rteF c x.dest x.to_ = 0 then valF x.token x.amount else rteF c x.dest x.to_
def sndF (c : UInt8) (x : Tx) : Int := if rteF c x.dest x.to_ = 0 then payF x.size x.payload else rteF c x.dest x.to_
def inbF (c : UInt8) (m : Message) (q : UInt8) : Int := if w8 m.kind = w8 q then (if w8 m.to_ = w8 c then (if chnB m.from_ = true then (if w8 m.from_ = w8 c then 17 else if 64 ≤ w8 m.sender then 18 else if 64 ≤ w8 m.receiver then 18 else if 281474976710655 < w64 m.seq then 19 else 0) else 17) else 16) else 15
def mntF (c : UInt8) (x : Tx) : Int := if inbF c x.msg 2 = 0 then (if valF x.msg.token x.msg.amount = 0 then (if w8 x.msg.size = 0 then (if blankF x.msg.payload 0 = true then 0 else 20) else 20) else valF x.msg.token x.msg.amount) else inbF c x.msg 2
def conF (c : UInt8) (x : Tx) : Int := if inbF c x.msg 1 = 0 then (if payF x.msg.size x.msg.payload = 0 then (if w8 x.msg.token = 0 then (if w64 x.msg.amount = 0 then (if w8 x.msg.receiver = w8 x.from_ then 0 else 21) else 20) else 20) else payF x.msg.size x.msg.payload) else inbF c x.msg 1
set_option maxRecDepth 20000 in
set_option maxHeartbeats 1000000 in
theorem checkRoute_any (W : World) (c d t : UInt8) : Calls Tryz.prog 216 #[.int .u8 (w8 c), .int .u8 (w8 d), .int .u8 (w8 t)] W fun e V => e = .returned (.int .i64 (rteF c d t)) ∧ W.Extends V := by
  by_cases c0 : chnB d = true
  · by_cases c1 : w8 d = w8 c
    · have hr : rteF c d t = 10 := by unfold rteF; simp only [if_pos c0, if_pos c1]
      rw [hr]
      clear hr
      have hq := isChain_any W d
      rw [c0] at hq
      rw [c1] at hq
      go_enter Tryz.func216, Tryz.ntmps216
      go_wp2_with fail
      refine (hq).mono ?_
      rintro e V1 ⟨rfl, he1⟩
      have HX1 : Hid (W.Extends V1) := by
        refine World.Extends.trans ?_ he1
        repeat (first | exact ext_Ext (Ext.refl _) | refine extends_alloc ?_ _ | refine extends_put ?_ (by omega) _)
      clear he1
      dsimp only
      go_wp2_with fail
      try (first | go_ret | go_ret2 | go_end0)
      exact ⟨rfl, HX1.out⟩
    · by_cases c2 : 64 ≤ w8 t
      · have hr : rteF c d t = 5 := by unfold rteF; simp only [if_pos c0, if_neg c1, if_pos c2]
        rw [hr]
        clear hr
        have hq := isChain_any W d
        rw [c0] at hq
        go_enter Tryz.func216, Tryz.ntmps216
        go_wp2_with fail
        refine (hq).mono ?_
        rintro e V1 ⟨rfl, he1⟩
        have HX1 : Hid (W.Extends V1) := by
          refine World.Extends.trans ?_ he1
          repeat (first | exact ext_Ext (Ext.refl _) | refine extends_alloc ?_ _ | refine extends_put ?_ (by omega) _)
        clear he1
        dsimp only
        go_wp2_with fail
        try (first | go_ret | go_ret2 | go_end0)
        exact ⟨rfl, HX1.out⟩
      · have d2 : w8 t < 64 := by omega
        have hr : rteF c d t = 0 := by unfold rteF; simp only [if_pos c0, if_neg c1, if_neg c2]
        rw [hr]
        clear hr
        have hq := isChain_any W d
        rw [c0] at hq
        go_enter Tryz.func216, Tryz.ntmps216
        go_wp2_with fail
        refine (hq).mono ?_
        rintro e V1 ⟨rfl, he1⟩
        have HX1 : Hid (W.Extends V1) := by
          refine World.Extends.trans ?_ he1
          repeat (first | exact ext_Ext (Ext.refl _) | refine extends_alloc ?_ _ | refine extends_put ?_ (by omega) _)
        clear he1
        dsimp only
        go_wp2_with fail
        try (first | go_ret | go_ret2 | go_end0)
        exact ⟨rfl, HX1.out⟩
  · have hr : rteF c d t = 10 := by unfold rteF; simp only [if_neg c0]
    rw [hr]
    clear hr
    have hq := isChain_any W d
    rw [show chnB d = false from by simpa using c0] at hq
    go_enter Tryz.func216, Tryz.ntmps216
    go_wp2_with fail
    refine (hq).mono ?_
    rintro e V1 ⟨rfl, he1⟩
    have HX1 : Hid (W.Extends V1) := by
      refine World.Extends.trans ?_ he1
      repeat (first | exact ext_Ext (Ext.refl _) | refine extends_alloc ?_ _ | refine extends_put ?_ (by omega) _)
    clear he1
    dsimp only
    go_wp2_with fail
    try (first | go_ret | go_ret2 | go_end0)
    exact ⟨rfl, HX1.out⟩
set_option maxRecDepth 20000 in
set_option maxHeartbeats 1000000 in
theorem checkPayload_any (W : World) (z : UInt8) (p : Vector UInt8 32) : Calls Tryz.prog 165 #[.int .u8 (w8 z), .agg (arr u8v p).toArray] W fun e V => e = .returned (.int .i64 (payF z p)) ∧ W.Extends V := by
  by_cases c0 : 32 < w8 z
  · have hr : payF z p = 11 := by unfold payF; simp only [if_pos c0]
    rw [hr]
    clear hr
    go_enter Tryz.func165, Tryz.ntmps165
    go_wp2_with fail
    try (first | go_ret | go_ret2 | go_end0)
    refine ⟨rfl, ?_⟩
    repeat (first | exact ext_Ext (Ext.refl _) | refine extends_alloc ?_ _ | refine extends_put ?_ (by omega) _)
  · have d0 : w8 z ≤ 32 := by omega
    by_cases c1 : w8 z = 0
    · have hr : payF z p = 12 := by unfold payF; simp only [if_neg c0, if_pos c1]
      rw [hr]
      clear hr
      go_enter Tryz.func165, Tryz.ntmps165
      go_wp2_with fail
      try (first | go_ret | go_ret2 | go_end0)
      refine ⟨rfl, ?_⟩
      repeat (first | exact ext_Ext (Ext.refl _) | refine extends_alloc ?_ _ | refine extends_put ?_ (by omega) _)
    · by_cases c2 : blankF p z.toNat = true
      · have hr : payF z p = 0 := by unfold payF; simp only [if_neg c0, if_neg c1, if_pos c2]
        rw [hr]
        clear hr
        have hz32 : z.toNat ≤ 32 := by have := c0; unfold w8 at this; omega
        have hq := fun V => isBlank_any V p z.toNat hz32
        rw [show blankF p z.toNat = true from by simpa using c2] at hq
        have hwz : IntKind.i64.wrap (w8 z) = w8 z := by have := w8_bd z; exact wraps_i64 _ (by omega) (by omega)
        go_enter Tryz.func165, Tryz.ntmps165
        go_wp2_with fail
        refine (hq _).mono ?_
        rintro e V1 ⟨rfl, he1⟩
        have HX1 : Hid (W.Extends V1) := by
          refine World.Extends.trans ?_ he1
          repeat (first | exact ext_Ext (Ext.refl _) | refine extends_alloc ?_ _ | refine extends_put ?_ (by omega) _)
        clear he1
        dsimp only
        go_wp2_with fail
        try (first | go_ret | go_ret2 | go_end0)
        exact ⟨rfl, HX1.out⟩
      · have hr : payF z p = 13 := by unfold payF; simp only [if_neg c0, if_neg c1, if_neg c2]
        rw [hr]
        clear hr
        have hz32 : z.toNat ≤ 32 := by have := c0; unfold w8 at this; omega
        have hq := fun V => isBlank_any V p z.toNat hz32
        rw [show blankF p z.toNat = false from by simpa using c2] at hq
        have hwz : IntKind.i64.wrap (w8 z) = w8 z := by have := w8_bd z; exact wraps_i64 _ (by omega) (by omega)
        go_enter Tryz.func165, Tryz.ntmps165
        go_wp2_with fail
        refine (hq _).mono ?_
        rintro e V1 ⟨rfl, he1⟩
        have HX1 : Hid (W.Extends V1) := by
          refine World.Extends.trans ?_ he1
          repeat (first | exact ext_Ext (Ext.refl _) | refine extends_alloc ?_ _ | refine extends_put ?_ (by omega) _)
        clear he1
        dsimp only
        go_wp2_with fail
        try (first | go_ret | go_ret2 | go_end0)
        exact ⟨rfl, HX1.out⟩
set_option maxRecDepth 20000 in
set_option maxHeartbeats 1000000 in
theorem checkEnvelope_any (W : World) (c : UInt8) (x : Tx) : Calls Tryz.prog 146 #[.int .u8 (w8 c), .agg x.enc.toArray] W fun e V => e = .returned (.int .i64 (envF c x)) ∧ W.Extends V := by
  by_cases c0 : fieldsF x.kind = 0
  · have hr : envF c x = 1 := by unfold envF; simp only [if_pos c0]
    rw [hr]
    clear hr
    have hq := fun V => fieldsOf_any V x.kind
    go_enter Tryz.func146, Tryz.ntmps146
    go_wp2_with fail
    refine (hq _).mono ?_
    rintro e V1 ⟨rfl, he1⟩
    have k10 : blk V1 (W.heap.size) = some x.enc := (he1.blk (by simp only [size_put, World.size_alloc]; omega)).trans (by simp [blk_put, blk_alloc, World.size_alloc])
    have HX1 : Hid (W.Extends V1) := by
      refine World.Extends.trans ?_ he1
      repeat (first | exact ext_Ext (Ext.refl _) | refine extends_alloc ?_ _ | refine extends_put ?_ (by omega) _)
    clear he1
    dsimp only
    go_wp2_with fail
    try (first | go_ret | go_ret2 | go_end0)
    exact ⟨rfl, HX1.out⟩
  · by_cases c1 : w8 x.chain = w8 c
    · by_cases c2 : 64 ≤ w8 x.from_
      · have hr : envF c x = 3 := by unfold envF; simp only [if_neg c0, if_pos c1, if_pos c2]
        rw [hr]
        clear hr
        have hq := fun V => fieldsOf_any V x.kind
        go_enter Tryz.func146, Tryz.ntmps146
        go_wp2_with fail
        refine (hq _).mono ?_
        rintro e V1 ⟨rfl, he1⟩
        have k10 : blk V1 (W.heap.size) = some x.enc := (he1.blk (by simp only [size_put, World.size_alloc]; omega)).trans (by simp [blk_put, blk_alloc, World.size_alloc])
        have HX1 : Hid (W.Extends V1) := by
          refine World.Extends.trans ?_ he1
          repeat (first | exact ext_Ext (Ext.refl _) | refine extends_alloc ?_ _ | refine extends_put ?_ (by omega) _)
        clear he1
        dsimp only
        go_wp2_with fail
        try (first | go_ret | go_ret2 | go_end0)
        exact ⟨rfl, HX1.out⟩
      · have d2 : w8 x.from_ < 64 := by omega
        by_cases c3 : 9223372036854775807 < w64 x.fee
        · have hr : envF c x = 4 := by unfold envF; simp only [if_neg c0, if_pos c1, if_neg c2, if_pos c3]
          rw [hr]
          clear hr
          have hq := fun V => fieldsOf_any V x.kind
          go_enter Tryz.func146, Tryz.ntmps146
          go_wp2_with fail
          refine (hq _).mono ?_
          rintro e V1 ⟨rfl, he1⟩
          have k10 : blk V1 (W.heap.size) = some x.enc := (he1.blk (by simp only [size_put, World.size_alloc]; omega)).trans (by simp [blk_put, blk_alloc, World.size_alloc])
          have HX1 : Hid (W.Extends V1) := by
            refine World.Extends.trans ?_ he1
            repeat (first | exact ext_Ext (Ext.refl _) | refine extends_alloc ?_ _ | refine extends_put ?_ (by omega) _)
          clear he1
          dsimp only
          go_wp2_with fail
          try (first | go_ret | go_ret2 | go_end0)
          exact ⟨rfl, HX1.out⟩
        · have d3 : w64 x.fee ≤ 9223372036854775807 := by omega
          have hr : envF c x = 0 := by unfold envF; simp only [if_neg c0, if_pos c1, if_neg c2, if_neg c3]
          rw [hr]
          clear hr
          have hq := fun V => fieldsOf_any V x.kind
          go_enter Tryz.func146, Tryz.ntmps146
          go_wp2_with fail
          refine (hq _).mono ?_
          rintro e V1 ⟨rfl, he1⟩
          have k10 : blk V1 (W.heap.size) = some x.enc := (he1.blk (by simp only [size_put, World.size_alloc]; omega)).trans (by simp [blk_put, blk_alloc, World.size_alloc])
          have HX1 : Hid (W.Extends V1) := by
            refine World.Extends.trans ?_ he1
            repeat (first | exact ext_Ext (Ext.refl _) | refine extends_alloc ?_ _ | refine extends_put ?_ (by omega) _)
          clear he1
          dsimp only
          go_wp2_with fail
          try (first | go_ret | go_ret2 | go_end0)
          exact ⟨rfl, HX1.out⟩
    · have hr : envF c x = 2 := by unfold envF; simp only [if_neg c0, if_neg c1]
      rw [hr]
      clear hr
      have hq := fun V => fieldsOf_any V x.kind
      go_enter Tryz.func146, Tryz.ntmps146
      go_wp2_with fail
      refine (hq _).mono ?_
      rintro e V1 ⟨rfl, he1⟩
      have k10 : blk V1 (W.heap.size) = some x.enc := (he1.blk (by simp only [size_put, World.size_alloc]; omega)).trans (by simp [blk_put, blk_alloc, World.size_alloc])
      have HX1 : Hid (W.Extends V1) := by
        refine World.Extends.trans ?_ he1
        repeat (first | exact ext_Ext (Ext.refl _) | refine extends_alloc ?_ _ | refine extends_put ?_ (by omega) _)
      clear he1
      dsimp only
      go_wp2_with fail
      try (first | go_ret | go_ret2 | go_end0)
      exact ⟨rfl, HX1.out⟩
set_option maxRecDepth 20000 in
set_option maxHeartbeats 1000000 in
theorem checkTransfer_any (W : World) (x : Tx) : Calls Tryz.prog 147 #[.agg x.enc.toArray] W fun e V => e = .returned (.int .i64 (trnF x)) ∧ W.Extends V := by
  by_cases c0 : 64 ≤ w8 x.to_
  · have hr : trnF x = 5 := by unfold trnF; simp only [if_pos c0]
    rw [hr]
    clear hr
    go_enter Tryz.func147, Tryz.ntmps147
    go_wp2_with fail
    try (first | go_ret | go_ret2 | go_end0)
    refine ⟨rfl, ?_⟩
    repeat (first | exact ext_Ext (Ext.refl _) | refine extends_alloc ?_ _ | refine extends_put ?_ (by omega) _)
  · have d0 : w8 x.to_ < 64 := by omega
    by_cases c1 : w8 x.to_ = w8 x.from_
    · have hr : trnF x = 6 := by unfold trnF; simp only [if_neg c0, if_pos c1]
      rw [hr]
      clear hr
      go_enter Tryz.func147, Tryz.ntmps147
      go_wp2_with fail
      try (first | go_ret | go_ret2 | go_end0)
      refine ⟨rfl, ?_⟩
      repeat (first | exact ext_Ext (Ext.refl _) | refine extends_alloc ?_ _ | refine extends_put ?_ (by omega) _)
    · have hr : trnF x = valF x.token x.amount := by unfold trnF; simp only [if_neg c0, if_neg c1]
      rw [hr]
      clear hr
      go_enter Tryz.func147, Tryz.ntmps147
      go_wp2_with fail
      refine (checkValue_any _ x.token x.amount).mono ?_
      rintro e V1 ⟨rfl, he1⟩
      have k10 : blk V1 (W.heap.size) = some x.enc := (he1.blk (by simp only [size_put, World.size_alloc]; omega)).trans (by simp [blk_put, blk_alloc, World.size_alloc])
      have HX1 : Hid (W.Extends V1) := by
        refine World.Extends.trans ?_ he1
        repeat (first | exact ext_Ext (Ext.refl _) | refine extends_alloc ?_ _ | refine extends_put ?_ (by omega) _)
      clear he1
      dsimp only
      go_wp2_with fail
      try (first | go_ret | go_ret2 | go_end0)
      exact ⟨rfl, HX1.out⟩
set_option maxRecDepth 20000 in
set_option maxHeartbeats 1000000 in
theorem checkBurn_any (W : World) (c : UInt8) (x : Tx) : Calls Tryz.prog 148 #[.int .u8 (w8 c), .agg x.enc.toArray] W fun e V => e = .returned (.int .i64 (burF c x)) ∧ W.Extends V := by
  by_cases c0 : rteF c x.dest x.to_ = 0
  · have hr : burF c x = valF x.token x.amount := by unfold burF; simp only [if_pos c0]
    rw [hr]
    clear hr
    have hq := fun V => checkRoute_any V c x.dest x.to_
    rw [c0] at hq
    go_enter Tryz.func148, Tryz.ntmps148
    go_wp2_with fail
    refine (hq _).mono ?_
    rintro e V1 ⟨rfl, he1⟩
    have k10 : blk V1 (W.heap.size) = some x.enc := (he1.blk (by simp only [size_put, World.size_alloc]; omega)).trans (by simp [blk_put, blk_alloc, World.size_alloc])
    have HX1 : Hid (W.Extends V1) := by
      refine World.Extends.trans ?_ he1
      repeat (first | exact ext_Ext (Ext.refl _) | refine extends_alloc ?_ _ | refine extends_put ?_ (by omega) _)
    clear he1
    dsimp only
    go_wp2_with fail
    refine (checkValue_any _ x.token x.amount).mono ?_
    rintro e V2 ⟨rfl, he2⟩
    have k20 : blk V2 (W.heap.size) = some x.enc := (he2.blk (blk_lt k10)).trans k10
    have HX2 : Hid (W.Extends V2) := HX1.out.trans he2
    clear k10
    clear he2
    dsimp only
    go_wp2_with fail
    try (first | go_ret | go_ret2 | go_end0)
    exact ⟨rfl, HX2.out⟩
  · have hr : burF c x = rteF c x.dest x.to_ := by unfold burF; simp only [if_neg c0]
    rw [hr]
    clear hr
    have hq := fun V => checkRoute_any V c x.dest x.to_
    go_enter Tryz.func148, Tryz.ntmps148
    go_wp2_with fail
    refine (hq _).mono ?_
    rintro e V1 ⟨rfl, he1⟩
    have k10 : blk V1 (W.heap.size) = some x.enc := (he1.blk (by simp only [size_put, World.size_alloc]; omega)).trans (by simp [blk_put, blk_alloc, World.size_alloc])
    have HX1 : Hid (W.Extends V1) := by
      refine World.Extends.trans ?_ he1
      repeat (first | exact ext_Ext (Ext.refl _) | refine extends_alloc ?_ _ | refine extends_put ?_ (by omega) _)
    clear he1
    dsimp only
    go_wp2_with fail
    try (first | go_ret | go_ret2 | go_end0)
    exact ⟨rfl, HX1.out⟩
set_option maxRecDepth 20000 in
set_option maxHeartbeats 1000000 in
theorem checkSend_any (W : World) (c : UInt8) (x : Tx) : Calls Tryz.prog 149 #[.int .u8 (w8 c), .agg x.enc.toArray] W fun e V => e = .returned (.int .i64 (sndF c x)) ∧ W.Extends V := by
  by_cases c0 : rteF c x.dest x.to_ = 0
  · have hr : sndF c x = payF x.size x.payload := by unfold sndF; simp only [if_pos c0]
    rw [hr]
    clear hr
    have hq := fun V => checkRoute_any V c x.dest x.to_
    rw [c0] at hq
    go_enter Tryz.func149, Tryz.ntmps149
    go_wp2_with fail
    refine (hq _).mono ?_
    rintro e V1 ⟨rfl, he1⟩
    have k10 : blk V1 (W.heap.size) = some x.enc := (he1.blk (by simp only [size_put, World.size_alloc]; omega)).trans (by simp [blk_put, blk_alloc, World.size_alloc])
    have HX1 : Hid (W.Extends V1) := by
      refine World.Extends.trans ?_ he1
      repeat (first | exact ext_Ext (Ext.refl _) | refine extends_alloc ?_ _ | refine extends_put ?_ (by omega) _)
    clear he1
    dsimp only
    go_wp2_with fail
    refine (checkPayload_any _ x.size x.payload).mono ?_
    rintro e V2 ⟨rfl, he2⟩
    have k20 : blk V2 (W.heap.size) = some x.enc := (he2.blk (blk_lt k10)).trans k10
    have HX2 : Hid (W.Extends V2) := HX1.out.trans he2
    clear k10
    clear he2
    dsimp only
    go_wp2_with fail
    try (first | go_ret | go_ret2 | go_end0)
    exact ⟨rfl, HX2.out⟩
  · have hr : sndF c x = rteF c x.dest x.to_ := by unfold sndF; simp only [if_neg c0]
    rw [hr]
    clear hr
    have hq := fun V => checkRoute_any V c x.dest x.to_
    go_enter Tryz.func149, Tryz.ntmps149
    go_wp2_with fail
    refine (hq _).mono ?_
    rintro e V1 ⟨rfl, he1⟩
    have k10 : blk V1 (W.heap.size) = some x.enc := (he1.blk (by simp only [size_put, World.size_alloc]; omega)).trans (by simp [blk_put, blk_alloc, World.size_alloc])
    have HX1 : Hid (W.Extends V1) := by
      refine World.Extends.trans ?_ he1
      repeat (first | exact ext_Ext (Ext.refl _) | refine extends_alloc ?_ _ | refine extends_put ?_ (by omega) _)
    clear he1
    dsimp only
    go_wp2_with fail
    try (first | go_ret | go_ret2 | go_end0)
    exact ⟨rfl, HX1.out⟩
set_option maxRecDepth 20000 in
set_option maxHeartbeats 1000000 in
theorem checkInbound_any (W : World) (c : UInt8) (m : Message) (q : UInt8) : Calls Tryz.prog 217 #[.int .u8 (w8 c), .agg m.enc.toArray, .int .u8 (w8 q)] W fun e V => e = .returned (.int .i64 (inbF c m q)) ∧ W.Extends V := by
  by_cases c0 : w8 m.kind = w8 q
  · by_cases c1 : w8 m.to_ = w8 c
    · by_cases c2 : chnB m.from_ = true
      · by_cases c3 : w8 m.from_ = w8 c
        · have hr : inbF c m q = 17 := by unfold inbF; simp only [if_pos c0, if_pos c1, if_pos c2, if_pos c3]
          rw [hr]
          clear hr
          have hq := fun V => isChain_any V m.from_
          rw [c2] at hq
          rw [c3] at hq
          go_enter Tryz.func217, Tryz.ntmps217
          go_wp2_with fail
          refine (hq _).mono ?_
          rintro e V1 ⟨rfl, he1⟩
          have k10 : blk V1 (W.heap.size) = some m.enc := (he1.blk (by simp only [size_put, World.size_alloc]; omega)).trans (by simp [blk_put, blk_alloc, World.size_alloc])
          have HX1 : Hid (W.Extends V1) := by
            refine World.Extends.trans ?_ he1
            repeat (first | exact ext_Ext (Ext.refl _) | refine extends_alloc ?_ _ | refine extends_put ?_ (by omega) _)
          clear he1
          dsimp only
          go_wp2_with fail
          try (first | go_ret | go_ret2 | go_end0)
          exact ⟨rfl, HX1.out⟩
        · by_cases c4 : 64 ≤ w8 m.sender
          · have hr : inbF c m q = 18 := by unfold inbF; simp only [if_pos c0, if_pos c1, if_pos c2, if_neg c3, if_pos c4]
            rw [hr]
            clear hr
            have hq := fun V => isChain_any V m.from_
            rw [c2] at hq
            go_enter Tryz.func217, Tryz.ntmps217
            go_wp2_with fail
            refine (hq _).mono ?_
            rintro e V1 ⟨rfl, he1⟩
            have k10 : blk V1 (W.heap.size) = some m.enc := (he1.blk (by simp only [size_put, World.size_alloc]; omega)).trans (by simp [blk_put, blk_alloc, World.size_alloc])
            have HX1 : Hid (W.Extends V1) := by
              refine World.Extends.trans ?_ he1
              repeat (first | exact ext_Ext (Ext.refl _) | refine extends_alloc ?_ _ | refine extends_put ?_ (by omega) _)
            clear he1
            dsimp only
            go_wp2_with fail
            try (first | go_ret | go_ret2 | go_end0)
            exact ⟨rfl, HX1.out⟩
          · have d4 : w8 m.sender < 64 := by omega
            by_cases c5 : 64 ≤ w8 m.receiver
            · have hr : inbF c m q = 18 := by unfold inbF; simp only [if_pos c0, if_pos c1, if_pos c2, if_neg c3, if_neg c4, if_pos c5]
              rw [hr]
              clear hr
              have hq := fun V => isChain_any V m.from_
              rw [c2] at hq
              go_enter Tryz.func217, Tryz.ntmps217
              go_wp2_with fail
              refine (hq _).mono ?_
              rintro e V1 ⟨rfl, he1⟩
              have k10 : blk V1 (W.heap.size) = some m.enc := (he1.blk (by simp only [size_put, World.size_alloc]; omega)).trans (by simp [blk_put, blk_alloc, World.size_alloc])
              have HX1 : Hid (W.Extends V1) := by
                refine World.Extends.trans ?_ he1
                repeat (first | exact ext_Ext (Ext.refl _) | refine extends_alloc ?_ _ | refine extends_put ?_ (by omega) _)
              clear he1
              dsimp only
              go_wp2_with fail
              try (first | go_ret | go_ret2 | go_end0)
              exact ⟨rfl, HX1.out⟩
            · have d5 : w8 m.receiver < 64 := by omega
              by_cases c6 : 281474976710655 < w64 m.seq
              · have hr : inbF c m q = 19 := by unfold inbF; simp only [if_pos c0, if_pos c1, if_pos c2, if_neg c3, if_neg c4, if_neg c5, if_pos c6]
                rw [hr]
                clear hr
                have hq := fun V => isChain_any V m.from_
                rw [c2] at hq
                go_enter Tryz.func217, Tryz.ntmps217
                go_wp2_with fail
                refine (hq _).mono ?_
                rintro e V1 ⟨rfl, he1⟩
                have k10 : blk V1 (W.heap.size) = some m.enc := (he1.blk (by simp only [size_put, World.size_alloc]; omega)).trans (by simp [blk_put, blk_alloc, World.size_alloc])
                have HX1 : Hid (W.Extends V1) := by
                  refine World.Extends.trans ?_ he1
                  repeat (first | exact ext_Ext (Ext.refl _) | refine extends_alloc ?_ _ | refine extends_put ?_ (by omega) _)
                clear he1
                dsimp only
                go_wp2_with fail
                try (first | go_ret | go_ret2 | go_end0)
                exact ⟨rfl, HX1.out⟩
              · have d6 : w64 m.seq ≤ 281474976710655 := by omega
                have hr : inbF c m q = 0 := by unfold inbF; simp only [if_pos c0, if_pos c1, if_pos c2, if_neg c3, if_neg c4, if_neg c5, if_neg c6]
                rw [hr]
                clear hr
                have hq := fun V => isChain_any V m.from_
                rw [c2] at hq
                go_enter Tryz.func217, Tryz.ntmps217
                go_wp2_with fail
                refine (hq _).mono ?_
                rintro e V1 ⟨rfl, he1⟩
                have k10 : blk V1 (W.heap.size) = some m.enc := (he1.blk (by simp only [size_put, World.size_alloc]; omega)).trans (by simp [blk_put, blk_alloc, World.size_alloc])
                have HX1 : Hid (W.Extends V1) := by
                  refine World.Extends.trans ?_ he1
                  repeat (first | exact ext_Ext (Ext.refl _) | refine extends_alloc ?_ _ | refine extends_put ?_ (by omega) _)
                clear he1
                dsimp only
                go_wp2_with fail
                try (first | go_ret | go_ret2 | go_end0)
                exact ⟨rfl, HX1.out⟩
      · have hr : inbF c m q = 17 := by unfold inbF; simp only [if_pos c0, if_pos c1, if_neg c2]
        rw [hr]
        clear hr
        have hq := fun V => isChain_any V m.from_
        rw [show chnB m.from_ = false from by simpa using c2] at hq
        go_enter Tryz.func217, Tryz.ntmps217
        go_wp2_with fail
        refine (hq _).mono ?_
        rintro e V1 ⟨rfl, he1⟩
        have k10 : blk V1 (W.heap.size) = some m.enc := (he1.blk (by simp only [size_put, World.size_alloc]; omega)).trans (by simp [blk_put, blk_alloc, World.size_alloc])
        have HX1 : Hid (W.Extends V1) := by
          refine World.Extends.trans ?_ he1
          repeat (first | exact ext_Ext (Ext.refl _) | refine extends_alloc ?_ _ | refine extends_put ?_ (by omega) _)
        clear he1
        dsimp only
        go_wp2_with fail
        try (first | go_ret | go_ret2 | go_end0)
        exact ⟨rfl, HX1.out⟩
    · have hr : inbF c m q = 16 := by unfold inbF; simp only [if_pos c0, if_neg c1]
      rw [hr]
      clear hr
      go_enter Tryz.func217, Tryz.ntmps217
      go_wp2_with fail
      try (first | go_ret | go_ret2 | go_end0)
      refine ⟨rfl, ?_⟩
      repeat (first | exact ext_Ext (Ext.refl _) | refine extends_alloc ?_ _ | refine extends_put ?_ (by omega) _)
  · have hr : inbF c m q = 15 := by unfold inbF; simp only [if_neg c0]
    rw [hr]
    clear hr
    go_enter Tryz.func217, Tryz.ntmps217
    go_wp2_with fail
    try (first | go_ret | go_ret2 | go_end0)
    refine ⟨rfl, ?_⟩
    repeat (first | exact ext_Ext (Ext.refl _) | refine extends_alloc ?_ _ | refine extends_put ?_ (by omega) _)
set_option maxRecDepth 20000 in
set_option maxHeartbeats 1000000 in
theorem checkMint_any (W : World) (c : UInt8) (x : Tx) : Calls Tryz.prog 150 #[.int .u8 (w8 c), .agg x.enc.toArray] W fun e V => e = .returned (.int .i64 (mntF c x)) ∧ W.Extends V := by
  by_cases c0 : inbF c x.msg 2 = 0
  · by_cases c1 : valF x.msg.token x.msg.amount = 0
    · by_cases c2 : w8 x.msg.size = 0
      · by_cases c3 : blankF x.msg.payload 0 = true
        · have hr : mntF c x = 0 := by unfold mntF; simp only [if_pos c0, if_pos c1, if_pos c2, if_pos c3]
          rw [hr]
          clear hr
          have hq : ∀ V, Calls Tryz.prog 217 #[.int .u8 (w8 c), .agg x.msg.enc.toArray, .int .u8 2] V fun e V' => e = .returned (.int .i64 (inbF c x.msg 2)) ∧ V.Extends V' := fun V => checkInbound_any V c x.msg 2
          rw [c0] at hq
          have hv := fun V => checkValue_any V x.msg.token x.msg.amount
          rw [c1] at hv
          have hb : ∀ V, Calls Tryz.prog 164 #[.agg (arr u8v x.msg.payload).toArray, .int .i64 0] V fun e V' => e = .returned (.bool (blankF x.msg.payload 0)) ∧ V.Extends V' := fun V => isBlank_any V x.msg.payload 0 (by omega)
          rw [show blankF x.msg.payload 0 = true from by simpa using c3] at hb
          go_enter Tryz.func150, Tryz.ntmps150
          go_wp2_with fail
          refine (hq _).mono ?_
          rintro e V1 ⟨rfl, he1⟩
          have k10 : blk V1 (W.heap.size) = some x.enc := (he1.blk (by simp only [size_put, World.size_alloc]; omega)).trans (by simp [blk_put, blk_alloc, World.size_alloc])
          have k11 : blk V1 (W.heap.size + 1) = some x.msg.enc := (he1.blk (by simp only [size_put, World.size_alloc]; omega)).trans (by simp [blk_put, blk_alloc, World.size_alloc])
          have HX1 : Hid (W.Extends V1) := by
            refine World.Extends.trans ?_ he1
            repeat (first | exact ext_Ext (Ext.refl _) | refine extends_alloc ?_ _ | refine extends_put ?_ (by omega) _)
          clear he1
          dsimp only
          go_wp2_with fail
          refine (hv _).mono ?_
          rintro e V2 ⟨rfl, he2⟩
          have k20 : blk V2 (W.heap.size) = some x.enc := (he2.blk (blk_lt k10)).trans k10
          have k21 : blk V2 (W.heap.size + 1) = some x.msg.enc := (he2.blk (blk_lt k11)).trans k11
          have HX2 : Hid (W.Extends V2) := HX1.out.trans he2
          clear k10 k11
          clear he2
          dsimp only
          go_wp2_with fail
          refine (hb _).mono ?_
          rintro e V3 ⟨rfl, he3⟩
          have k30 : blk V3 (W.heap.size) = some x.enc := (he3.blk (blk_lt k20)).trans k20
          have k31 : blk V3 (W.heap.size + 1) = some x.msg.enc := (he3.blk (blk_lt k21)).trans k21
          have HX3 : Hid (W.Extends V3) := HX2.out.trans he3
          clear k20 k21
          clear he3
          dsimp only
          go_wp2_with fail
          try (first | go_ret | go_ret2 | go_end0)
          exact ⟨rfl, HX3.out⟩
        · have hr : mntF c x = 20 := by unfold mntF; simp only [if_pos c0, if_pos c1, if_pos c2, if_neg c3]
          rw [hr]
          clear hr
          have hq : ∀ V, Calls Tryz.prog 217 #[.int .u8 (w8 c), .agg x.msg.enc.toArray, .int .u8 2] V fun e V' => e = .returned (.int .i64 (inbF c x.msg 2)) ∧ V.Extends V' := fun V => checkInbound_any V c x.msg 2
          rw [c0] at hq
          have hv := fun V => checkValue_any V x.msg.token x.msg.amount
          rw [c1] at hv
          have hb : ∀ V, Calls Tryz.prog 164 #[.agg (arr u8v x.msg.payload).toArray, .int .i64 0] V fun e V' => e = .returned (.bool (blankF x.msg.payload 0)) ∧ V.Extends V' := fun V => isBlank_any V x.msg.payload 0 (by omega)
          rw [show blankF x.msg.payload 0 = false from by simpa using c3] at hb
          go_enter Tryz.func150, Tryz.ntmps150
          go_wp2_with fail
          refine (hq _).mono ?_
          rintro e V1 ⟨rfl, he1⟩
          have k10 : blk V1 (W.heap.size) = some x.enc := (he1.blk (by simp only [size_put, World.size_alloc]; omega)).trans (by simp [blk_put, blk_alloc, World.size_alloc])
          have k11 : blk V1 (W.heap.size + 1) = some x.msg.enc := (he1.blk (by simp only [size_put, World.size_alloc]; omega)).trans (by simp [blk_put, blk_alloc, World.size_alloc])
          have HX1 : Hid (W.Extends V1) := by
            refine World.Extends.trans ?_ he1
            repeat (first | exact ext_Ext (Ext.refl _) | refine extends_alloc ?_ _ | refine extends_put ?_ (by omega) _)
          clear he1
          dsimp only
          go_wp2_with fail
          refine (hv _).mono ?_
          rintro e V2 ⟨rfl, he2⟩
          have k20 : blk V2 (W.heap.size) = some x.enc := (he2.blk (blk_lt k10)).trans k10
          have k21 : blk V2 (W.heap.size + 1) = some x.msg.enc := (he2.blk (blk_lt k11)).trans k11
          have HX2 : Hid (W.Extends V2) := HX1.out.trans he2
          clear k10 k11
          clear he2
          dsimp only
          go_wp2_with fail
          refine (hb _).mono ?_
          rintro e V3 ⟨rfl, he3⟩
          have k30 : blk V3 (W.heap.size) = some x.enc := (he3.blk (blk_lt k20)).trans k20
          have k31 : blk V3 (W.heap.size + 1) = some x.msg.enc := (he3.blk (blk_lt k21)).trans k21
          have HX3 : Hid (W.Extends V3) := HX2.out.trans he3
          clear k20 k21
          clear he3
          dsimp only
          go_wp2_with fail
          try (first | go_ret | go_ret2 | go_end0)
          exact ⟨rfl, HX3.out⟩
      · have hr : mntF c x = 20 := by unfold mntF; simp only [if_pos c0, if_pos c1, if_neg c2]
        rw [hr]
        clear hr
        have hq : ∀ V, Calls Tryz.prog 217 #[.int .u8 (w8 c), .agg x.msg.enc.toArray, .int .u8 2] V fun e V' => e = .returned (.int .i64 (inbF c x.msg 2)) ∧ V.Extends V' := fun V => checkInbound_any V c x.msg 2
        rw [c0] at hq
        have hv := fun V => checkValue_any V x.msg.token x.msg.amount
        rw [c1] at hv
        go_enter Tryz.func150, Tryz.ntmps150
        go_wp2_with fail
        refine (hq _).mono ?_
        rintro e V1 ⟨rfl, he1⟩
        have k10 : blk V1 (W.heap.size) = some x.enc := (he1.blk (by simp only [size_put, World.size_alloc]; omega)).trans (by simp [blk_put, blk_alloc, World.size_alloc])
        have k11 : blk V1 (W.heap.size + 1) = some x.msg.enc := (he1.blk (by simp only [size_put, World.size_alloc]; omega)).trans (by simp [blk_put, blk_alloc, World.size_alloc])
        have HX1 : Hid (W.Extends V1) := by
          refine World.Extends.trans ?_ he1
          repeat (first | exact ext_Ext (Ext.refl _) | refine extends_alloc ?_ _ | refine extends_put ?_ (by omega) _)
        clear he1
        dsimp only
        go_wp2_with fail
        refine (hv _).mono ?_
        rintro e V2 ⟨rfl, he2⟩
        have k20 : blk V2 (W.heap.size) = some x.enc := (he2.blk (blk_lt k10)).trans k10
        have k21 : blk V2 (W.heap.size + 1) = some x.msg.enc := (he2.blk (blk_lt k11)).trans k11
        have HX2 : Hid (W.Extends V2) := HX1.out.trans he2
        clear k10 k11
        clear he2
        dsimp only
        go_wp2_with fail
        try (first | go_ret | go_ret2 | go_end0)
        exact ⟨rfl, HX2.out⟩
    · have hr : mntF c x = valF x.msg.token x.msg.amount := by unfold mntF; simp only [if_pos c0, if_neg c1]
      rw [hr]
      clear hr
      have hq : ∀ V, Calls Tryz.prog 217 #[.int .u8 (w8 c), .agg x.msg.enc.toArray, .int .u8 2] V fun e V' => e = .returned (.int .i64 (inbF c x.msg 2)) ∧ V.Extends V' := fun V => checkInbound_any V c x.msg 2
      rw [c0] at hq
      have hv := fun V => checkValue_any V x.msg.token x.msg.amount
      go_enter Tryz.func150, Tryz.ntmps150
      go_wp2_with fail
      refine (hq _).mono ?_
      rintro e V1 ⟨rfl, he1⟩
      have k10 : blk V1 (W.heap.size) = some x.enc := (he1.blk (by simp only [size_put, World.size_alloc]; omega)).trans (by simp [blk_put, blk_alloc, World.size_alloc])
      have k11 : blk V1 (W.heap.size + 1) = some x.msg.enc := (he1.blk (by simp only [size_put, World.size_alloc]; omega)).trans (by simp [blk_put, blk_alloc, World.size_alloc])
      have HX1 : Hid (W.Extends V1) := by
        refine World.Extends.trans ?_ he1
        repeat (first | exact ext_Ext (Ext.refl _) | refine extends_alloc ?_ _ | refine extends_put ?_ (by omega) _)
      clear he1
      dsimp only
      go_wp2_with fail
      refine (hv _).mono ?_
      rintro e V2 ⟨rfl, he2⟩
      have k20 : blk V2 (W.heap.size) = some x.enc := (he2.blk (blk_lt k10)).trans k10
      have k21 : blk V2 (W.heap.size + 1) = some x.msg.enc := (he2.blk (blk_lt k11)).trans k11
      have HX2 : Hid (W.Extends V2) := HX1.out.trans he2
      clear k10 k11
      clear he2
      dsimp only
      go_wp2_with fail
      try (first | go_ret | go_ret2 | go_end0)
      exact ⟨rfl, HX2.out⟩
  · have hr : mntF c x = inbF c x.msg 2 := by unfold mntF; simp only [if_neg c0]
    rw [hr]
    clear hr
    have hq : ∀ V, Calls Tryz.prog 217 #[.int .u8 (w8 c), .agg x.msg.enc.toArray, .int .u8 2] V fun e V' => e = .returned (.int .i64 (inbF c x.msg 2)) ∧ V.Extends V' := fun V => checkInbound_any V c x.msg 2
    go_enter Tryz.func150, Tryz.ntmps150
    go_wp2_with fail
    refine (hq _).mono ?_
    rintro e V1 ⟨rfl, he1⟩
    have k10 : blk V1 (W.heap.size) = some x.enc := (he1.blk (by simp only [size_put, World.size_alloc]; omega)).trans (by simp [blk_put, blk_alloc, World.size_alloc])
    have k11 : blk V1 (W.heap.size + 1) = some x.msg.enc := (he1.blk (by simp only [size_put, World.size_alloc]; omega)).trans (by simp [blk_put, blk_alloc, World.size_alloc])
    have HX1 : Hid (W.Extends V1) := by
      refine World.Extends.trans ?_ he1
      repeat (first | exact ext_Ext (Ext.refl _) | refine extends_alloc ?_ _ | refine extends_put ?_ (by omega) _)
    clear he1
    dsimp only
    go_wp2_with fail
    try (first | go_ret | go_ret2 | go_end0)
    exact ⟨rfl, HX1.out⟩
set_option maxRecDepth 20000 in
set_option maxHeartbeats 1000000 in
theorem checkConsume_any (W : World) (c : UInt8) (x : Tx) : Calls Tryz.prog 151 #[.int .u8 (w8 c), .agg x.enc.toArray] W fun e V => e = .returned (.int .i64 (conF c x)) ∧ W.Extends V := by
  by_cases c0 : inbF c x.msg 1 = 0
  · by_cases c1 : payF x.msg.size x.msg.payload = 0
    · by_cases c2 : w8 x.msg.token = 0
      · by_cases c3 : w64 x.msg.amount = 0
        · by_cases c4 : w8 x.msg.receiver = w8 x.from_
          · have hr : conF c x = 0 := by unfold conF; simp only [if_pos c0, if_pos c1, if_pos c2, if_pos c3, if_pos c4]
            rw [hr]
            clear hr
            have hq : ∀ V, Calls Tryz.prog 217 #[.int .u8 (w8 c), .agg x.msg.enc.toArray, .int .u8 1] V fun e V' => e = .returned (.int .i64 (inbF c x.msg 1)) ∧ V.Extends V' := fun V => checkInbound_any V c x.msg 1
            rw [c0] at hq
            have hv := fun V => checkPayload_any V x.msg.size x.msg.payload
            rw [c1] at hv
            go_enter Tryz.func151, Tryz.ntmps151
            go_wp2_with fail
            refine (hq _).mono ?_
            rintro e V1 ⟨rfl, he1⟩
            have k10 : blk V1 (W.heap.size) = some x.enc := (he1.blk (by simp only [size_put, World.size_alloc]; omega)).trans (by simp [blk_put, blk_alloc, World.size_alloc])
            have k11 : blk V1 (W.heap.size + 1) = some x.msg.enc := (he1.blk (by simp only [size_put, World.size_alloc]; omega)).trans (by simp [blk_put, blk_alloc, World.size_alloc])
            have HX1 : Hid (W.Extends V1) := by
              refine World.Extends.trans ?_ he1
              repeat (first | exact ext_Ext (Ext.refl _) | refine extends_alloc ?_ _ | refine extends_put ?_ (by omega) _)
            clear he1
            dsimp only
            go_wp2_with fail
            refine (hv _).mono ?_
            rintro e V2 ⟨rfl, he2⟩
            have k20 : blk V2 (W.heap.size) = some x.enc := (he2.blk (blk_lt k10)).trans k10
            have k21 : blk V2 (W.heap.size + 1) = some x.msg.enc := (he2.blk (blk_lt k11)).trans k11
            have HX2 : Hid (W.Extends V2) := HX1.out.trans he2
            clear k10 k11
            clear he2
            dsimp only
            go_wp2_with fail
            try (first | go_ret | go_ret2 | go_end0)
            exact ⟨rfl, HX2.out⟩
          · have hr : conF c x = 21 := by unfold conF; simp only [if_pos c0, if_pos c1, if_pos c2, if_pos c3, if_neg c4]
            rw [hr]
            clear hr
            have hq : ∀ V, Calls Tryz.prog 217 #[.int .u8 (w8 c), .agg x.msg.enc.toArray, .int .u8 1] V fun e V' => e = .returned (.int .i64 (inbF c x.msg 1)) ∧ V.Extends V' := fun V => checkInbound_any V c x.msg 1
            rw [c0] at hq
            have hv := fun V => checkPayload_any V x.msg.size x.msg.payload
            rw [c1] at hv
            go_enter Tryz.func151, Tryz.ntmps151
            go_wp2_with fail
            refine (hq _).mono ?_
            rintro e V1 ⟨rfl, he1⟩
            have k10 : blk V1 (W.heap.size) = some x.enc := (he1.blk (by simp only [size_put, World.size_alloc]; omega)).trans (by simp [blk_put, blk_alloc, World.size_alloc])
            have k11 : blk V1 (W.heap.size + 1) = some x.msg.enc := (he1.blk (by simp only [size_put, World.size_alloc]; omega)).trans (by simp [blk_put, blk_alloc, World.size_alloc])
            have HX1 : Hid (W.Extends V1) := by
              refine World.Extends.trans ?_ he1
              repeat (first | exact ext_Ext (Ext.refl _) | refine extends_alloc ?_ _ | refine extends_put ?_ (by omega) _)
            clear he1
            dsimp only
            go_wp2_with fail
            refine (hv _).mono ?_
            rintro e V2 ⟨rfl, he2⟩
            have k20 : blk V2 (W.heap.size) = some x.enc := (he2.blk (blk_lt k10)).trans k10
            have k21 : blk V2 (W.heap.size + 1) = some x.msg.enc := (he2.blk (blk_lt k11)).trans k11
            have HX2 : Hid (W.Extends V2) := HX1.out.trans he2
            clear k10 k11
            clear he2
            dsimp only
            go_wp2_with fail
            try (first | go_ret | go_ret2 | go_end0)
            exact ⟨rfl, HX2.out⟩
        · have hr : conF c x = 20 := by unfold conF; simp only [if_pos c0, if_pos c1, if_pos c2, if_neg c3]
          rw [hr]
          clear hr
          have hq : ∀ V, Calls Tryz.prog 217 #[.int .u8 (w8 c), .agg x.msg.enc.toArray, .int .u8 1] V fun e V' => e = .returned (.int .i64 (inbF c x.msg 1)) ∧ V.Extends V' := fun V => checkInbound_any V c x.msg 1
          rw [c0] at hq
          have hv := fun V => checkPayload_any V x.msg.size x.msg.payload
          rw [c1] at hv
          go_enter Tryz.func151, Tryz.ntmps151
          go_wp2_with fail
          refine (hq _).mono ?_
          rintro e V1 ⟨rfl, he1⟩
          have k10 : blk V1 (W.heap.size) = some x.enc := (he1.blk (by simp only [size_put, World.size_alloc]; omega)).trans (by simp [blk_put, blk_alloc, World.size_alloc])
          have k11 : blk V1 (W.heap.size + 1) = some x.msg.enc := (he1.blk (by simp only [size_put, World.size_alloc]; omega)).trans (by simp [blk_put, blk_alloc, World.size_alloc])
          have HX1 : Hid (W.Extends V1) := by
            refine World.Extends.trans ?_ he1
            repeat (first | exact ext_Ext (Ext.refl _) | refine extends_alloc ?_ _ | refine extends_put ?_ (by omega) _)
          clear he1
          dsimp only
          go_wp2_with fail
          refine (hv _).mono ?_
          rintro e V2 ⟨rfl, he2⟩
          have k20 : blk V2 (W.heap.size) = some x.enc := (he2.blk (blk_lt k10)).trans k10
          have k21 : blk V2 (W.heap.size + 1) = some x.msg.enc := (he2.blk (blk_lt k11)).trans k11
          have HX2 : Hid (W.Extends V2) := HX1.out.trans he2
          clear k10 k11
          clear he2
          dsimp only
          go_wp2_with fail
          try (first | go_ret | go_ret2 | go_end0)
          exact ⟨rfl, HX2.out⟩
      · have hr : conF c x = 20 := by unfold conF; simp only [if_pos c0, if_pos c1, if_neg c2]
        rw [hr]
        clear hr
        have hq : ∀ V, Calls Tryz.prog 217 #[.int .u8 (w8 c), .agg x.msg.enc.toArray, .int .u8 1] V fun e V' => e = .returned (.int .i64 (inbF c x.msg 1)) ∧ V.Extends V' := fun V => checkInbound_any V c x.msg 1
        rw [c0] at hq
        have hv := fun V => checkPayload_any V x.msg.size x.msg.payload
        rw [c1] at hv
        go_enter Tryz.func151, Tryz.ntmps151
        go_wp2_with fail
        refine (hq _).mono ?_
        rintro e V1 ⟨rfl, he1⟩
        have k10 : blk V1 (W.heap.size) = some x.enc := (he1.blk (by simp only [size_put, World.size_alloc]; omega)).trans (by simp [blk_put, blk_alloc, World.size_alloc])
        have k11 : blk V1 (W.heap.size + 1) = some x.msg.enc := (he1.blk (by simp only [size_put, World.size_alloc]; omega)).trans (by simp [blk_put, blk_alloc, World.size_alloc])
        have HX1 : Hid (W.Extends V1) := by
          refine World.Extends.trans ?_ he1
          repeat (first | exact ext_Ext (Ext.refl _) | refine extends_alloc ?_ _ | refine extends_put ?_ (by omega) _)
        clear he1
        dsimp only
        go_wp2_with fail
        refine (hv _).mono ?_
        rintro e V2 ⟨rfl, he2⟩
        have k20 : blk V2 (W.heap.size) = some x.enc := (he2.blk (blk_lt k10)).trans k10
        have k21 : blk V2 (W.heap.size + 1) = some x.msg.enc := (he2.blk (blk_lt k11)).trans k11
        have HX2 : Hid (W.Extends V2) := HX1.out.trans he2
        clear k10 k11
        clear he2
        dsimp only
        go_wp2_with fail
        try (first | go_ret | go_ret2 | go_end0)
        exact ⟨rfl, HX2.out⟩
    · have hr : conF c x = payF x.msg.size x.msg.payload := by unfold conF; simp only [if_pos c0, if_neg c1]
      rw [hr]
      clear hr
      have hq : ∀ V, Calls Tryz.prog 217 #[.int .u8 (w8 c), .agg x.msg.enc.toArray, .int .u8 1] V fun e V' => e = .returned (.int .i64 (inbF c x.msg 1)) ∧ V.Extends V' := fun V => checkInbound_any V c x.msg 1
      rw [c0] at hq
      have hv := fun V => checkPayload_any V x.msg.size x.msg.payload
      go_enter Tryz.func151, Tryz.ntmps151
      go_wp2_with fail
      refine (hq _).mono ?_
      rintro e V1 ⟨rfl, he1⟩
      have k10 : blk V1 (W.heap.size) = some x.enc := (he1.blk (by simp only [size_put, World.size_alloc]; omega)).trans (by simp [blk_put, blk_alloc, World.size_alloc])
      have k11 : blk V1 (W.heap.size + 1) = some x.msg.enc := (he1.blk (by simp only [size_put, World.size_alloc]; omega)).trans (by simp [blk_put, blk_alloc, World.size_alloc])
      have HX1 : Hid (W.Extends V1) := by
        refine World.Extends.trans ?_ he1
        repeat (first | exact ext_Ext (Ext.refl _) | refine extends_alloc ?_ _ | refine extends_put ?_ (by omega) _)
      clear he1
      dsimp only
      go_wp2_with fail
      refine (hv _).mono ?_
      rintro e V2 ⟨rfl, he2⟩
      have k20 : blk V2 (W.heap.size) = some x.enc := (he2.blk (blk_lt k10)).trans k10
      have k21 : blk V2 (W.heap.size + 1) = some x.msg.enc := (he2.blk (blk_lt k11)).trans k11
      have HX2 : Hid (W.Extends V2) := HX1.out.trans he2
      clear k10 k11
      clear he2
      dsimp only
      go_wp2_with fail
      try (first | go_ret | go_ret2 | go_end0)
      exact ⟨rfl, HX2.out⟩
  · have hr : conF c x = inbF c x.msg 1 := by unfold conF; simp only [if_neg c0]
    rw [hr]
    clear hr
    have hq : ∀ V, Calls Tryz.prog 217 #[.int .u8 (w8 c), .agg x.msg.enc.toArray, .int .u8 1] V fun e V' => e = .returned (.int .i64 (inbF c x.msg 1)) ∧ V.Extends V' := fun V => checkInbound_any V c x.msg 1
    go_enter Tryz.func151, Tryz.ntmps151
    go_wp2_with fail
    refine (hq _).mono ?_
    rintro e V1 ⟨rfl, he1⟩
    have k10 : blk V1 (W.heap.size) = some x.enc := (he1.blk (by simp only [size_put, World.size_alloc]; omega)).trans (by simp [blk_put, blk_alloc, World.size_alloc])
    have k11 : blk V1 (W.heap.size + 1) = some x.msg.enc := (he1.blk (by simp only [size_put, World.size_alloc]; omega)).trans (by simp [blk_put, blk_alloc, World.size_alloc])
    have HX1 : Hid (W.Extends V1) := by
      refine World.Extends.trans ?_ he1
      repeat (first | exact ext_Ext (Ext.refl _) | refine extends_alloc ?_ _ | refine extends_put ?_ (by omega) _)
    clear he1
    dsimp only
    go_wp2_with fail
    try (first | go_ret | go_ret2 | go_end0)
    exact ⟨rfl, HX1.out⟩
end Go.Proofs.Qxb6500786aGreat
