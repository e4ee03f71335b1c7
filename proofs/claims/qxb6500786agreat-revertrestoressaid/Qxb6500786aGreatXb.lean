import Derived.DeepKeys2
import Derived.Test.Qxb6500786aGreatUq

import Derived.StillTailTactics
import Derived.Deep.QuietTactic
import Derived.BigQuiet
import Derived.Deep.RegionHeld
import Derived.Deep.CutRange
import Derived.Laws.ResultCell
import Derived.Laws.Rows
import Derived.DeepKeys
import Derived.DataBytes
import Derived.Laws.StructEq
import Derived.Laws.AppendOwn
import Derived.Laws.MakeOwn
import Derived.Lib.AppendStr
set_option linter.unusedSimpArgs false
set_option linter.unusedVariables false
namespace Go.Proofs.Qxb6500786aGreat
open Go.RowKit Go.Blk
attribute [local go_sem ↓] execOp_load execOp_store execOp_alloc
attribute [local go_sem] Tryz.ld24 Tryz.st24 Tryz.ld36 Tryz.st36 Tryz.ld28 Tryz.st28 Tryz.ld32 Tryz.st32 Tryz.ld33 Tryz.st33 Tryz.ld34 Tryz.st34 Tryz.ld5 Tryz.st5 Tryz.ld31 Tryz.st31 Tryz.ld30 Tryz.st30 Tryz.ld41 Tryz.st41 Tryz.ld44 Tryz.st44 Tryz.ld4 Tryz.st4 Tryz.ld173 Tryz.st173 Tryz.ld174 Tryz.st174 Tryz.ld95 Tryz.st95 Tryz.ld45 Tryz.st45 Tryz.ld207 Tryz.st207 Tryz.ld3 Tryz.st3 Tryz.ld189 Tryz.st189 Tryz.ld2 Tryz.st2 Tryz.ld9 Tryz.st9 Tryz.ld12 Tryz.st12 Tryz.ld21 Tryz.st21 Tryz.ld22 Tryz.st22 Tryz.ld46 Tryz.st46 Tryz.ld92 Tryz.st92 Tryz.ld94 Tryz.st94 Tryz.ld96 Tryz.st96 Tryz.ld97 Tryz.st97 Tryz.ld105 Tryz.st105 Tryz.ld117 Tryz.st117 Tryz.ld122 Tryz.st122 Tryz.ld123 Tryz.st123 Tryz.ld133 Tryz.st133 Tryz.ld155 Tryz.st155 Tryz.ld163 Tryz.st163 Tryz.ld190 Tryz.st190 Tryz.ld197 Tryz.st197 Tryz.ld201 Tryz.st201 Tryz.ld202 Tryz.st202 Tryz.ld209 Tryz.st209 Tryz.ld216 Tryz.st216 Tryz.ld230 Tryz.st230 Tryz.ld238 Tryz.st238 Tryz.ld242 Tryz.st242 Tryz.ld251 Tryz.st251 Tryz.ld260 Tryz.st260 Tryz.ld286 Tryz.st286 Tryz.ld292 Tryz.st292 Tryz.ld298 Tryz.st298 Tryz.ld309 Tryz.st309 Tryz.ld35 Tryz.st35 Tryz.ld48 Tryz.st48 Tryz.ld47 Tryz.st47 Tryz.ld79 Tryz.st79 Tryz.ld177 Tryz.st177 Tryz.ld180 Tryz.st180 Tryz.ld231 Tryz.st231 Tryz.ld232 Tryz.st232 Tryz.ld26 Tryz.st26 Tryz.ld38 Tryz.st38 Tryz.ld40 Tryz.st40 Tryz.ld43 Tryz.st43 Tryz.ld50 Tryz.st50 Tryz.ld52 Tryz.st52 Tryz.ld54 Tryz.st54 Tryz.ld81 Tryz.st81 Tryz.ld112 Tryz.st112 Tryz.ld120 Tryz.st120 Tryz.ld176 Tryz.st176 Tryz.ld179 Tryz.st179 Tryz.ld182 Tryz.st182 Tryz.ld184 Tryz.st184 Tryz.ld234 Tryz.st234 Tryz.ld236 Tryz.st236 Tryz.ld240 Tryz.st240 Tryz.ld246 Tryz.st246 Tryz.ld249 Tryz.st249 Tryz.al35 Tryz.al48 Tryz.al47 Tryz.al79 Tryz.al177 Tryz.al180 Tryz.al231 Tryz.al232 Tryz.al26 Tryz.al38 Tryz.al40 Tryz.al43 Tryz.al50 Tryz.al52 Tryz.al54 Tryz.al81 Tryz.al112 Tryz.al120 Tryz.al176 Tryz.al179 Tryz.al182 Tryz.al184 Tryz.al234 Tryz.al236 Tryz.al240 Tryz.al246 Tryz.al249
attribute [local go_sem] Player.length_enc Player.ok_enc Player.all_get Player.all_set Player.hand_get Player.hand_set Player.aside_get Player.aside_set Message.length_enc Message.ok_enc Message.all_get Message.all_set Message.kind_get Message.kind_set Message.from__get Message.from__set Message.to__get Message.to__set Message.sender_get Message.sender_set Message.receiver_get Message.receiver_set Message.seq_get Message.seq_set Message.token_get Message.token_set Message.amount_get Message.amount_set Message.size_get Message.size_set Message.payload_get Message.payload_set Tx.length_enc Tx.ok_enc Tx.all_get Tx.all_set Tx.kind_get Tx.kind_set Tx.chain_get Tx.chain_set Tx.from__get Tx.from__set Tx.nonce_get Tx.nonce_set Tx.fee_get Tx.fee_set Tx.to__get Tx.to__set Tx.dest_get Tx.dest_set Tx.token_get Tx.token_set Tx.amount_get Tx.amount_set Tx.size_get Tx.size_set Tx.payload_get Tx.payload_set Tx.msg_get Tx.msg_set Tx.msg_kind_get Tx.msg_kind_set Tx.msg_from__get Tx.msg_from__set Tx.msg_to__get Tx.msg_to__set Tx.msg_sender_get Tx.msg_sender_set Tx.msg_receiver_get Tx.msg_receiver_set Tx.msg_seq_get Tx.msg_seq_set Tx.msg_token_get Tx.msg_token_set Tx.msg_amount_get Tx.msg_amount_set Tx.msg_size_get Tx.msg_size_set Tx.msg_payload_get Tx.msg_payload_set GOp.length_enc GOp.ok_enc GOp.all_get GOp.all_set GOp.kind_get GOp.kind_set GOp.tx_get GOp.tx_set GOp.txs_get GOp.txs_set GOp.gas_get GOp.gas_set GOp.acct_get GOp.acct_set GOp.token_get GOp.token_set GOp.chain_get GOp.chain_set GOp.seq_get GOp.seq_set GOp.tx_kind_get GOp.tx_kind_set GOp.tx_chain_get GOp.tx_chain_set GOp.tx_from__get GOp.tx_from__set GOp.tx_nonce_get GOp.tx_nonce_set GOp.tx_fee_get GOp.tx_fee_set GOp.tx_to__get GOp.tx_to__set GOp.tx_dest_get GOp.tx_dest_set GOp.tx_token_get GOp.tx_token_set GOp.tx_amount_get GOp.tx_amount_set GOp.tx_size_get GOp.tx_size_set GOp.tx_payload_get GOp.tx_payload_set GOp.tx_msg_get GOp.tx_msg_set GOp.tx_msg_kind_get GOp.tx_msg_kind_set GOp.tx_msg_from__get GOp.tx_msg_from__set GOp.tx_msg_to__get GOp.tx_msg_to__set GOp.tx_msg_sender_get GOp.tx_msg_sender_set GOp.tx_msg_receiver_get GOp.tx_msg_receiver_set GOp.tx_msg_seq_get GOp.tx_msg_seq_set GOp.tx_msg_token_get GOp.tx_msg_token_set GOp.tx_msg_amount_get GOp.tx_msg_amount_set GOp.tx_msg_size_get GOp.tx_msg_size_set GOp.tx_msg_payload_get GOp.tx_msg_payload_set Summary.length_enc Summary.ok_enc Summary.all_get Summary.all_set Summary.height_get Summary.height_set Summary.txs_get Summary.txs_set Summary.gas_get Summary.gas_set Summary.fees_get Summary.fees_set Summary.sent_get Summary.sent_set Summary.took_get Summary.took_set Summary.minted_get Summary.minted_set Summary.burned_get Summary.burned_set Summary.root_get Summary.root_set Detail.length_enc Detail.ok_enc Detail.all_get Detail.all_set Detail.code_get Detail.code_set Detail.have__get Detail.have__set Detail.need_get Detail.need_set Slot.length_enc Slot.ok_enc Slot.all_get Slot.all_set Slot.nonce_get Slot.nonce_set Slot.balances_get Slot.balances_set Tree.length_enc Tree.ok_enc Tree.all_get Tree.all_set Tree.leaves_get Tree.leaves_set Mark.length_enc Mark.ok_enc Mark.all_get Mark.all_set Mark.from__get Mark.from__set Mark.seq_get Mark.seq_set Receipt.length_enc Receipt.ok_enc Receipt.all_get Receipt.all_set Receipt.code_get Receipt.code_set Receipt.hash_get Receipt.hash_set Receipt.index_get Receipt.index_set Receipt.gas_get Receipt.gas_set Receipt.fee_get Receipt.fee_set Receipt.hasSent_get Receipt.hasSent_set Receipt.sent_get Receipt.sent_set Receipt.hasTook_get Receipt.hasTook_set Receipt.took_get Receipt.took_set Receipt.sent_kind_get Receipt.sent_kind_set Receipt.sent_from__get Receipt.sent_from__set Receipt.sent_to__get Receipt.sent_to__set Receipt.sent_sender_get Receipt.sent_sender_set Receipt.sent_receiver_get Receipt.sent_receiver_set Receipt.sent_seq_get Receipt.sent_seq_set Receipt.sent_token_get Receipt.sent_token_set Receipt.sent_amount_get Receipt.sent_amount_set Receipt.sent_size_get Receipt.sent_size_set Receipt.sent_payload_get Receipt.sent_payload_set Receipt.took_kind_get Receipt.took_kind_set Receipt.took_from__get Receipt.took_from__set Receipt.took_to__get Receipt.took_to__set Receipt.took_sender_get Receipt.took_sender_set Receipt.took_receiver_get Receipt.took_receiver_set Receipt.took_seq_get Receipt.took_seq_set Receipt.took_token_get Receipt.took_token_set Receipt.took_amount_get Receipt.took_amount_set Receipt.took_size_get Receipt.took_size_set Receipt.took_payload_get Receipt.took_payload_set Store.length_enc Store.ok_enc Store.all_get Store.all_set Store.now_get Store.now_set Store.saved_get Store.saved_set GState.length_enc GState.ok_enc GState.all_get GState.all_set GState.kv_get GState.kv_set GState.tree_get GState.tree_set GState.stale_get GState.stale_set GState.touched_get GState.touched_set GState.kv_now_get GState.kv_now_set GState.kv_saved_get GState.kv_saved_set GState.tree_leaves_get GState.tree_leaves_set History.length_enc History.ok_enc History.all_get History.all_set History.ring_get History.ring_set History.closed_get History.closed_set Ledger.length_enc Ledger.ok_enc Ledger.all_get Ledger.all_set Ledger.chain_get Ledger.chain_set Ledger.st_get Ledger.st_set Ledger.height_get Ledger.height_set Ledger.open__get Ledger.open__set Ledger.gasLimit_get Ledger.gasLimit_set Ledger.past_get Ledger.past_set Ledger.begun_get Ledger.begun_set Ledger.sent_get Ledger.sent_set Ledger.took_get Ledger.took_set Ledger.receipts_get Ledger.receipts_set Ledger.st_kv_get Ledger.st_kv_set Ledger.st_tree_get Ledger.st_tree_set Ledger.st_stale_get Ledger.st_stale_set Ledger.st_touched_get Ledger.st_touched_set Ledger.st_kv_now_get Ledger.st_kv_now_set Ledger.st_kv_saved_get Ledger.st_kv_saved_set Ledger.st_tree_leaves_get Ledger.st_tree_leaves_set Ledger.past_ring_get Ledger.past_ring_set Ledger.past_closed_get Ledger.past_closed_set Ledger.begun_kv_get Ledger.begun_kv_set Ledger.begun_tree_get Ledger.begun_tree_set Ledger.begun_stale_get Ledger.begun_stale_set Ledger.begun_touched_get Ledger.begun_touched_set Ledger.begun_kv_now_get Ledger.begun_kv_now_set Ledger.begun_kv_saved_get Ledger.begun_kv_saved_set Ledger.begun_tree_leaves_get Ledger.begun_tree_leaves_set Purse.length_enc Purse.ok_enc Purse.all_get Purse.all_set Purse.st_get Purse.st_set Purse.n_get Purse.n_set Purse.account_get Purse.account_set Purse.token_get Purse.token_set Purse.amount_get Purse.amount_set Plan.length_enc Plan.ok_enc Plan.all_get Plan.all_set Plan.purse_get Plan.purse_set Plan.nonce_get Plan.nonce_set Plan.gasUsed_get Plan.gasUsed_set Plan.fees_get Plan.fees_set Plan.hasSupply_get Plan.hasSupply_set Plan.token_get Plan.token_set Plan.supply_get Plan.supply_set Plan.flowAt_get Plan.flowAt_set Plan.flow_get Plan.flow_set Plan.receipt_get Plan.receipt_set Plan.purse_st_get Plan.purse_st_set Plan.purse_n_get Plan.purse_n_set Plan.purse_account_get Plan.purse_account_set Plan.purse_token_get Plan.purse_token_set Plan.purse_amount_get Plan.purse_amount_set Plan.receipt_code_get Plan.receipt_code_set Plan.receipt_hash_get Plan.receipt_hash_set Plan.receipt_index_get Plan.receipt_index_set Plan.receipt_gas_get Plan.receipt_gas_set Plan.receipt_fee_get Plan.receipt_fee_set Plan.receipt_hasSent_get Plan.receipt_hasSent_set Plan.receipt_sent_get Plan.receipt_sent_set Plan.receipt_hasTook_get Plan.receipt_hasTook_set Plan.receipt_took_get Plan.receipt_took_set Plan.receipt_sent_kind_get Plan.receipt_sent_kind_set Plan.receipt_sent_from__get Plan.receipt_sent_from__set Plan.receipt_sent_to__get Plan.receipt_sent_to__set Plan.receipt_sent_sender_get Plan.receipt_sent_sender_set Plan.receipt_sent_receiver_get Plan.receipt_sent_receiver_set Plan.receipt_sent_seq_get Plan.receipt_sent_seq_set Plan.receipt_sent_token_get Plan.receipt_sent_token_set Plan.receipt_sent_amount_get Plan.receipt_sent_amount_set Plan.receipt_sent_size_get Plan.receipt_sent_size_set Plan.receipt_sent_payload_get Plan.receipt_sent_payload_set Plan.receipt_took_kind_get Plan.receipt_took_kind_set Plan.receipt_took_from__get Plan.receipt_took_from__set Plan.receipt_took_to__get Plan.receipt_took_to__set Plan.receipt_took_sender_get Plan.receipt_took_sender_set Plan.receipt_took_receiver_get Plan.receipt_took_receiver_set Plan.receipt_took_seq_get Plan.receipt_took_seq_set Plan.receipt_took_token_get Plan.receipt_took_token_set Plan.receipt_took_amount_get Plan.receipt_took_amount_set Plan.receipt_took_size_get Plan.receipt_took_size_set Plan.receipt_took_payload_get Plan.receipt_took_payload_set Move.length_enc Move.ok_enc Move.all_get Move.all_set Move.account_get Move.account_set Move.token_get Move.token_set Move.down_get Move.down_set Move.amount_get Move.amount_set Books.length_enc Books.ok_enc Books.all_get Books.all_set Books.sums_get Books.sums_set Books.stored_get Books.stored_set Books.marks_get Books.marks_set Pair.length_enc Pair.ok_enc Pair.all_get Pair.all_set Pair.key_get Pair.key_set Pair.value_get Pair.value_set
attribute [local go_sem] size_put size_ext blk_put free_put blk_alloc free_alloc blk_drew free_drew blk_ext free_ext lookOr_some putOr_some segAt_some cellAt_some storeIn_some put_put put_alloc_new length_arr ok_arr_u8 ok_arr_u32 ok_arr_u64 ok_arr_i64 ok_arr_sl cellsV_agg cellsV_int cellsV_bool cellsV_string cellsV_pointer cellsV_slice cellsV_sl ok_int ok_bool ok_string ok_pointer ok_slice ok_sl toList_arr seg_arr set_arr nth_splice nth_splice0 seg_splice seg_splice0 splice_splice splice_splice0 length_splice_if
attribute [local go_sem ↓] execOp_box
attribute [local go_sem] box_run nth_arr_u8 put_arr_u8 blk_drewN free_drewN put_drewN blk_raw free_raw
/-- A message that is sound by itself. -/
structure MsgOk (m : Message) : Prop where
  kind : m.kind = 1 ∨ m.kind = 2
  from_ : chnB m.from_ = true
  to_ : chnB m.to_ = true
  ne : m.from_ ≠ m.to_
  snd : m.sender.toNat < 64
  rcv : m.receiver.toNat < 64
  seq : m.seq.toNat < 281474976710656
  brn : m.kind = 2 → valF m.token m.amount = 0 ∧ m.size = 0 ∧ blankF m.payload 0 = true
  pln : m.kind = 1 → payF m.size m.payload = 0 ∧ m.token = 0 ∧ m.amount = 0
/-- A receipt whose messages are sound. -/
def RcM (c : UInt8) (r : Receipt) : Prop := (r.hasSent = true → r.sent.from_ = c ∧ r.sent.seq = 0 ∧ MsgOk r.sent) ∧ (r.hasTook = true → r.took.to_ = c ∧ MsgOk r.took)
theorem rcm_zero (c : UInt8) : RcM c Receipt.zero := ⟨fun h => (by cases h), fun h => (by cases h)⟩
theorem rte_ok {c d t : UInt8} (h : rteF c d t = 0) : chnB d = true ∧ d ≠ c ∧ t.toNat < 64 := by
  unfold rteF at h
  by_cases h1 : chnB d = true
  · rw [if_pos h1] at h
    by_cases h2 : w8 d = w8 c
    · rw [if_pos h2] at h; cases h
    · rw [if_neg h2] at h
      by_cases h3 : 64 ≤ w8 t
      · rw [if_pos h3] at h; cases h
      · refine ⟨h1, w8_ne h2, ?_⟩
        unfold w8 at h3
        omega
  · rw [if_neg h1] at h; cases h
theorem blank_zero : blankF (Vector.replicate 32 0) 0 = true := by
  unfold blankF
  exact decide_eq_true (fun i _ => by simp)
theorem rol_chn {c : UInt8} (h : rolB c = true) : chnB c = true := by
  unfold rolB at h
  unfold chnB
  rw [h]; rfl
theorem mnt_ok {c : UInt8} {x : Tx} (h : mntF c x = 0) : inbF c x.msg 2 = 0 ∧ valF x.msg.token x.msg.amount = 0 ∧ x.msg.size = 0 ∧ blankF x.msg.payload 0 = true := by
  unfold mntF at h
  by_cases h1 : inbF c x.msg 2 = 0
  · rw [if_pos h1] at h
    by_cases h2 : valF x.msg.token x.msg.amount = 0
    · rw [if_pos h2] at h
      by_cases h3 : w8 x.msg.size = 0
      · rw [if_pos h3] at h
        by_cases h4 : blankF x.msg.payload 0 = true
        · exact ⟨h1, h2, w8_inj (b := 0) h3, h4⟩
        · rw [if_neg h4] at h; cases h
      · rw [if_neg h3] at h; cases h
    · rw [if_neg h2] at h; exact absurd h h2
  · rw [if_neg h1] at h; exact absurd h h1
theorem con_ok {c : UInt8} {x : Tx} (h : conF c x = 0) : inbF c x.msg 1 = 0 ∧ payF x.msg.size x.msg.payload = 0 ∧ x.msg.token = 0 ∧ x.msg.amount = 0 := by
  unfold conF at h
  by_cases h1 : inbF c x.msg 1 = 0
  · rw [if_pos h1] at h
    by_cases h2 : payF x.msg.size x.msg.payload = 0
    · rw [if_pos h2] at h
      by_cases h3 : w8 x.msg.token = 0
      · rw [if_pos h3] at h
        by_cases h4 : w64 x.msg.amount = 0
        · exact ⟨h1, h2, w8_inj (b := 0) h3, w64_inj (b := 0) h4⟩
        · rw [if_neg h4] at h; cases h
      · rw [if_neg h3] at h; cases h
    · rw [if_neg h2] at h; exact absurd h h2
  · rw [if_neg h1] at h; exact absurd h h1
/-- What an accepted transaction's receipt bears. -/
theorem rcm_app {c : UInt8} (hc : rolB c = true) (L : PLg) (x : Tx) (hL : L.chain = c) (hj : JOk L x) : RcM c (appR L x) := by
  have hs := hj.shp
  rw [hL] at hs
  obtain ⟨-, hk, -, -⟩ := shp_parts hs
  have hf := (shp_ok hs).from_
  show RcM c { rcpF L x with hash := hashF x }
  unfold RcM
  dsimp only
  unfold rcpF
  by_cases k1 : w8 x.kind = 1
  · rw [if_pos k1]
    exact ⟨fun h => (by cases h), fun h => (by cases h)⟩
  rw [if_neg k1]
  by_cases k2 : w8 x.kind = 2
  · rw [if_pos k2]
    refine ⟨fun _ => ?_, fun h => (by cases h)⟩
    have hb : burF c x = 0 := by
      unfold kndF at hk
      rw [if_neg k1, if_pos k2] at hk
      exact hk
    unfold burF at hb
    by_cases hr : rteF c x.dest x.to_ = 0
    · rw [if_pos hr] at hb
      obtain ⟨r1, r2, r3⟩ := rte_ok hr
      refine ⟨hL, rfl, ⟨.inr rfl, by show chnB L.chain = true; rw [hL]; exact rol_chn hc, r1, fun e => r2 (e.symm.trans hL), hf, r3, by show (0 : UInt64).toNat < _; decide, fun _ => ⟨hb, rfl, blank_zero⟩, fun e => absurd e (by show ¬ (2 : UInt8) = 1; decide)⟩⟩
    · rw [if_neg hr] at hb
      exact absurd hb hr
  rw [if_neg k2]
  by_cases k4 : w8 x.kind = 4
  · rw [if_pos k4]
    refine ⟨fun _ => ?_, fun h => (by cases h)⟩
    have hb : sndF c x = 0 := by
      unfold kndF at hk
      rw [if_neg k1, if_neg k2, if_pos k4] at hk
      exact hk
    unfold sndF at hb
    by_cases hr : rteF c x.dest x.to_ = 0
    · rw [if_pos hr] at hb
      obtain ⟨r1, r2, r3⟩ := rte_ok hr
      refine ⟨hL, rfl, ⟨.inl rfl, by show chnB L.chain = true; rw [hL]; exact rol_chn hc, r1, fun e => r2 (e.symm.trans hL), hf, r3, by show (0 : UInt64).toNat < _; decide, fun e => absurd e (by show ¬ (1 : UInt8) = 2; decide), fun _ => ⟨hb, rfl, rfl⟩⟩⟩
    · rw [if_neg hr] at hb
      exact absurd hb hr
  rw [if_neg k4]
  refine ⟨fun h => (by cases h), fun _ => ?_⟩
  by_cases k3 : w8 x.kind = 3
  · have hb : mntF c x = 0 := by
      unfold kndF at hk
      rw [if_neg k1, if_neg k2, if_neg k4, if_pos k3] at hk
      exact hk
    obtain ⟨q1, q2, q3, q4⟩ := mnt_ok hb
    have hi := inb_ok q1
    exact ⟨hi.to_, ⟨.inr hi.kind, hi.from_, by show chnB x.msg.to_ = true; rw [hi.to_]; exact rol_chn hc, fun e => hi.peer (e.trans hi.to_), hi.snd, hi.rcv, hi.seq, fun _ => ⟨q2, q3, q4⟩, fun e => absurd (hi.kind.symm.trans e) (by decide)⟩⟩
  · have hb : conF c x = 0 := by
      unfold kndF at hk
      rw [if_neg k1, if_neg k2, if_neg k4, if_neg k3] at hk
      exact hk
    obtain ⟨q1, q2, q3, q4⟩ := con_ok hb
    have hi := inb_ok q1
    exact ⟨hi.to_, ⟨.inl hi.kind, hi.from_, by show chnB x.msg.to_ = true; rw [hi.to_]; exact rol_chn hc, fun e => hi.peer (e.trans hi.to_), hi.snd, hi.rcv, hi.seq, fun e => absurd (hi.kind.symm.trans e) (by decide), fun _ => ⟨q2, q3, q4⟩⟩⟩
theorem rcm_appF {c : UInt8} (hc : rolB c = true) (L : PLg) (x : Tx) (hL : L.chain = c) : RcM c (appF L x).2 := by
  by_cases hj : (judR L 0 x).1 = 0
  · rw [appF_acc hj]
    exact rcm_app hc L x hL (judR_ok hj).1
  · rw [appF_ref hj]
    exact ⟨fun h => (by cases h), fun h => (by cases h)⟩
theorem rcm_run {c : UInt8} (hc : rolB c = true) : ∀ (X : List Tx) (L : PLg) (i : Nat) (rs : List Receipt), L.chain = c → (∀ r ∈ rs, RcM c r) → ∀ r ∈ (runF L X i rs).1.1.1, RcM c r
  | [], _, _, _, _, hr => hr
  | x :: X, L, i, rs, hL, hr => by
    unfold runF
    by_cases h : (appF L x).2.code = 0
    · rw [if_pos h]
      refine rcm_run hc X _ _ _ ((appF_same L x).2.2.1.trans hL) (fun r hr' => ?_)
      rcases List.mem_append.1 hr' with g | g
      · exact hr r g
      · rw [List.mem_singleton.1 g]
        exact rcm_appF hc L x hL
    · rw [if_neg h]
      exact hr
theorem fnd_mem (d : Dig) : ∀ l : List Receipt, (fndR d l).2 = 0 → (fndR d l).1 ∈ l
  | [], h => absurd h (by show ¬ (46 : Int) = 0; decide)
  | r :: l, h => by
    unfold fndR at h ⊢
    by_cases g : eqA r.hash d = true
    · rw [if_pos g]; exact List.mem_cons_self ..
    · rw [if_neg g] at h ⊢
      exact List.mem_cons_of_mem _ (fnd_mem d l h)
/-- Every receipt that a step answers is sound. -/
theorem rcm_stp {c : UInt8} (hc : rolB c = true) {L1 L2 : PLg} {g : GOp} {X : List Tx} (h1 : RcI c (RcM c) L1) (h3 : (ldF L1.st.now (keyC 3)).toNat ≤ L1.receipts.length) : ∀ r ∈ (stpF L1 L2 g X).1.rs, RcM c r := by
  have nil : ∀ r ∈ ([] : List Receipt), RcM c r := fun r hr => by cases hr
  unfold stpF
  by_cases k15 : g.kind = 15
  · rw [if_pos k15]; exact nil
  rw [if_neg k15]
  by_cases k16 : g.kind = 16
  · rw [if_pos k16]; exact nil
  rw [if_neg k16]
  by_cases k17 : g.kind = 17
  · rw [if_pos k17]; exact nil
  rw [if_neg k17]
  have bat : ∀ cm, ∀ r ∈ (batF cm L1 X).1.1.1, RcM c r := fun cm => by
    unfold batF
    split
    · split
      · exact rcm_run hc X _ 0 [] h1.1 nil
      · exact nil
    · exact nil
  unfold stpH
  by_cases k1 : g.kind = 1
  · rw [if_pos k1]; exact nil
  rw [if_neg k1]
  by_cases k2 : g.kind = 2
  · rw [if_pos k2]; exact nil
  rw [if_neg k2]
  by_cases k3 : g.kind = 3
  · rw [if_pos k3]
    intro r hr
    have hr' : r ∈ [(appF L1 g.tx).2] := hr
    rw [List.mem_singleton.1 hr']
    exact rcm_appF hc L1 g.tx h1.1
  rw [if_neg k3]
  by_cases k4 : g.kind = 4
  · rw [if_pos k4]; exact nil
  rw [if_neg k4]
  by_cases k5 : g.kind = 5
  · rw [if_pos k5]; exact bat true
  rw [if_neg k5]
  by_cases k6 : g.kind = 6
  · rw [if_pos k6]; exact bat false
  rw [if_neg k6]
  by_cases k7 : g.kind = 7
  · rw [if_pos k7]; exact nil
  rw [if_neg k7]
  by_cases k8 : g.kind = 8
  · rw [if_pos k8]; exact nil
  rw [if_neg k8]
  by_cases k9 : g.kind = 9
  · rw [if_pos k9]; exact nil
  rw [if_neg k9]
  by_cases k10 : g.kind = 10
  · rw [if_pos k10]; exact nil
  rw [if_neg k10]
  by_cases k11 : g.kind = 11
  · rw [if_pos k11]; exact nil
  rw [if_neg k11]
  by_cases k12 : g.kind = 12
  · rw [if_pos k12]; exact nil
  rw [if_neg k12]
  by_cases k13 : g.kind = 13
  · rw [if_pos k13]; exact nil
  rw [if_neg k13]
  by_cases k14 : g.kind = 14
  · rw [if_pos k14]; exact nil
  rw [if_neg k14]
  by_cases k18 : g.kind = 18
  · rw [if_pos k18]
    show ∀ r ∈ (exeF L1 g.gas X).1.rs, RcM c r
    unfold exeF
    split
    · split
      · refine rcm_run hc X _ 0 [] ?_ nil
        unfold begF
        repeat' split
        all_goals exact h1.1
      · exact nil
    · exact nil
  rw [if_neg k18]
  by_cases k19 : g.kind = 19
  · rw [if_pos k19]; exact nil
  rw [if_neg k19]
  by_cases k20 : g.kind = 20
  · rw [if_pos k20]
    intro r hr
    have hr' : r ∈ (if (rcAF L1 g.seq).2 = 0 then [(rcAF L1 g.seq).1] else []) := hr
    split at hr'
    · rename_i q
      rw [List.mem_singleton.1 hr']
      unfold rcAF at q ⊢
      split at q
      · rename_i ho
        rw [if_pos ho]
        split at q
        · cases q
        · rename_i hlt
          rw [if_neg hlt]
          have hl : g.seq.toNat < L1.receipts.length := by omega
          show RcM c ((L1.receipts[g.seq.toNat]?).getD Receipt.zero)
          rw [List.getElem?_eq_getElem hl]
          exact h1.2 _ (List.getElem_mem hl)
      · cases q
    · cases hr'
  rw [if_neg k20]
  by_cases k21 : g.kind = 21
  · rw [if_pos k21]
    intro r hr
    have hr' : r ∈ (if (rcFF L1 (hashF g.tx)).2 = 0 then [(rcFF L1 (hashF g.tx)).1] else []) := hr
    split at hr'
    · rename_i q
      rw [List.mem_singleton.1 hr']
      unfold rcFF at q ⊢
      split at q
      · rename_i ho
        rw [if_pos ho]
        exact h1.2 _ (List.mem_of_mem_take (fnd_mem _ _ q))
      · cases q
    · cases hr'
  rw [if_neg k21]
  repeat' split
  all_goals exact nil
theorem MsgOk.stamp {m : Message} (h : MsgOk m) {s : UInt64} (hs : s.toNat < 281474976710656) : MsgOk { m with seq := s } := ⟨h.kind, h.from_, h.to_, h.ne, h.snd, h.rcv, hs, h.brn, h.pln⟩
/-- The transaction that consumes a message. -/
def cnsT (m : Message) (a : UInt8) : Tx := if m.kind = 2 then { Tx.zero with kind := 3, chain := m.to_, from_ := a, nonce := 0, fee := 0, msg := m } else { Tx.zero with kind := 5, chain := m.to_, from_ := m.receiver, nonce := 0, fee := 1, msg := m }
theorem stray_z (x : Tx) (hk : w8 x.kind = 3 ∨ w8 x.kind = 5) (h1 : x.to_ = 0) (h2 : x.dest = 0) (h3 : x.token = 0) (h4 : x.amount = 0) (h5 : x.size = 0) (h6 : x.payload = Vector.replicate 32 0) : strayF x = 0 := by
  unfold strayF
  have hf : fieldsF x.kind = 16 := by
    unfold fieldsF
    rcases hk with k | k
    · rw [if_neg (by rw [k]; decide), if_neg (by rw [k]; decide), if_neg (by rw [k]; decide), if_pos (.inl k)]
    · rw [if_neg (by rw [k]; decide), if_neg (by rw [k]; decide), if_neg (by rw [k]; decide), if_pos (.inr k)]
  have hg : filledF x = 0 ∨ filledF x = 16 := by
    unfold filledF
    rw [h1, h2, h3, h4, h5, h6, if_pos (show w8 0 = 0 from rfl), if_pos (show w8 0 = 0 from rfl), if_pos (show w8 0 = 0 from rfl), if_pos (show w64 0 = 0 from rfl), if_pos (show w8 0 = 0 from rfl), if_pos blank_zero]
    split
    · left; rfl
    · right; rfl
  rw [hf]
  rcases hg with e | e
  · rw [e]; decide
  · rw [e]; decide
theorem MsgOk.inb {m : Message} (h : MsgOk m) {q : UInt8} (hq : m.kind = q) : inbF m.to_ m q = 0 := by
  have h1 := h.snd
  have h2 := h.rcv
  have h3 := h.seq
  unfold inbF
  rw [if_pos (by rw [hq]), if_pos rfl, if_pos h.from_, if_neg (fun e => h.ne (w8_inj e))]
  unfold w8 w64
  rw [if_neg (by omega), if_neg (by omega), if_neg (by omega)]
/-- It has a sound shape. -/
theorem cns_shape {m : Message} (h : MsgOk m) {a : UInt8} (ha : a.toNat < 64) : shpF m.to_ (cnsT m a) = 0 := by
  have h2 := h.rcv
  unfold cnsT
  by_cases hk : m.kind = 2
  · rw [if_pos hk]
    obtain ⟨b1, b2, b3⟩ := h.brn hk
    unfold shpF
    have e1 : envF m.to_ { Tx.zero with kind := 3, chain := m.to_, from_ := a, nonce := 0, fee := 0, msg := m } = 0 := by
      unfold envF
      rw [if_neg (by show ¬ fieldsF 3 = 0; decide), if_pos rfl, if_neg (by show ¬ 64 ≤ w8 a; unfold w8; omega), if_neg (by show ¬ 9223372036854775807 < w64 0; decide)]
    have e2 : kndF m.to_ { Tx.zero with kind := 3, chain := m.to_, from_ := a, nonce := 0, fee := 0, msg := m } = 0 := by
      unfold kndF
      rw [if_neg (by show ¬ w8 3 = 1; decide), if_neg (by show ¬ w8 3 = 2; decide), if_neg (by show ¬ w8 3 = 4; decide), if_pos (by show w8 3 = 3; rfl)]
      unfold mntF
      dsimp only
      rw [if_pos (h.inb hk), if_pos b1, if_pos (by rw [b2]; rfl), if_pos b3]
    rw [if_pos e1, if_pos e2, if_pos (stray_z _ (.inl rfl) rfl rfl rfl rfl rfl rfl), if_neg (by show ¬ w64 0 < (0 : Int); decide)]
  · rw [if_neg hk]
    have hk1 : m.kind = 1 := h.kind.resolve_right hk
    obtain ⟨b1, b2, b3⟩ := h.pln hk1
    unfold shpF
    have e1 : envF m.to_ { Tx.zero with kind := 5, chain := m.to_, from_ := m.receiver, nonce := 0, fee := 1, msg := m } = 0 := by
      unfold envF
      rw [if_neg (by show ¬ fieldsF 5 = 0; decide), if_pos rfl, if_neg (by show ¬ 64 ≤ w8 m.receiver; unfold w8; omega), if_neg (by show ¬ 9223372036854775807 < w64 1; decide)]
    have e2 : kndF m.to_ { Tx.zero with kind := 5, chain := m.to_, from_ := m.receiver, nonce := 0, fee := 1, msg := m } = 0 := by
      unfold kndF
      rw [if_neg (by show ¬ w8 5 = 1; decide), if_neg (by show ¬ w8 5 = 2; decide), if_neg (by show ¬ w8 5 = 4; decide), if_neg (by show ¬ w8 5 = 3; decide)]
      unfold conF
      dsimp only
      rw [if_pos (h.inb hk1), if_pos b1, if_pos (by rw [b2]; rfl), if_pos (by rw [b3]; rfl), if_pos rfl]
    rw [if_pos e1, if_pos e2, if_pos (stray_z _ (.inr rfl) rfl rfl rfl rfl rfl rfl), if_neg (by show ¬ w64 1 < (1 : Int); decide)]
end Go.Proofs.Qxb6500786aGreat
