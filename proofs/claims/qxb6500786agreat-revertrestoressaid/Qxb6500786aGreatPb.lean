import Derived.DeepKeys2
import Derived.Test.Qxb6500786aGreatPa

import Derived.StillTailTactics
import Derived.Deep.QuietTactic
import Derived.BigQuiet
import Derived.Deep.RegionHeld
import Derived.Deep.CutRange
import Derived.Laws.ResultCell
import Derived.Laws.Rows
import Derived.DeepKeys
import Derived.DataBytes
import Derived.Laws.StructEq
import Derived.Laws.AppendOwn
import Derived.Laws.MakeOwn
import Derived.Lib.AppendStr
set_option linter.unusedSimpArgs false
set_option linter.unusedVariables false
namespace Go.Proofs.Qxb6500786aGreat
open Go.RowKit Go.Blk
attribute [local go_sem ↓] execOp_load execOp_store execOp_alloc
attribute [local go_sem] Tryz.ld24 Tryz.st24 Tryz.ld36 Tryz.st36 Tryz.ld28 Tryz.st28 Tryz.ld32 Tryz.st32 Tryz.ld33 Tryz.st33 Tryz.ld34 Tryz.st34 Tryz.ld5 Tryz.st5 Tryz.ld31 Tryz.st31 Tryz.ld30 Tryz.st30 Tryz.ld41 Tryz.st41 Tryz.ld44 Tryz.st44 Tryz.ld4 Tryz.st4 Tryz.ld173 Tryz.st173 Tryz.ld174 Tryz.st174 Tryz.ld95 Tryz.st95 Tryz.ld45 Tryz.st45 Tryz.ld207 Tryz.st207 Tryz.ld3 Tryz.st3 Tryz.ld189 Tryz.st189 Tryz.ld2 Tryz.st2 Tryz.ld9 Tryz.st9 Tryz.ld12 Tryz.st12 Tryz.ld21 Tryz.st21 Tryz.ld22 Tryz.st22 Tryz.ld46 Tryz.st46 Tryz.ld92 Tryz.st92 Tryz.ld94 Tryz.st94 Tryz.ld96 Tryz.st96 Tryz.ld97 Tryz.st97 Tryz.ld105 Tryz.st105 Tryz.ld117 Tryz.st117 Tryz.ld122 Tryz.st122 Tryz.ld123 Tryz.st123 Tryz.ld133 Tryz.st133 Tryz.ld155 Tryz.st155 Tryz.ld163 Tryz.st163 Tryz.ld190 Tryz.st190 Tryz.ld197 Tryz.st197 Tryz.ld201 Tryz.st201 Tryz.ld202 Tryz.st202 Tryz.ld209 Tryz.st209 Tryz.ld216 Tryz.st216 Tryz.ld230 Tryz.st230 Tryz.ld238 Tryz.st238 Tryz.ld242 Tryz.st242 Tryz.ld251 Tryz.st251 Tryz.ld260 Tryz.st260 Tryz.ld286 Tryz.st286 Tryz.ld292 Tryz.st292 Tryz.ld298 Tryz.st298 Tryz.ld309 Tryz.st309 Tryz.ld35 Tryz.st35 Tryz.ld48 Tryz.st48 Tryz.ld47 Tryz.st47 Tryz.ld79 Tryz.st79 Tryz.ld177 Tryz.st177 Tryz.ld180 Tryz.st180 Tryz.ld231 Tryz.st231 Tryz.ld232 Tryz.st232 Tryz.ld26 Tryz.st26 Tryz.ld38 Tryz.st38 Tryz.ld40 Tryz.st40 Tryz.ld43 Tryz.st43 Tryz.ld50 Tryz.st50 Tryz.ld52 Tryz.st52 Tryz.ld54 Tryz.st54 Tryz.ld81 Tryz.st81 Tryz.ld112 Tryz.st112 Tryz.ld120 Tryz.st120 Tryz.ld176 Tryz.st176 Tryz.ld179 Tryz.st179 Tryz.ld182 Tryz.st182 Tryz.ld184 Tryz.st184 Tryz.ld234 Tryz.st234 Tryz.ld236 Tryz.st236 Tryz.ld240 Tryz.st240 Tryz.ld246 Tryz.st246 Tryz.ld249 Tryz.st249 Tryz.al35 Tryz.al48 Tryz.al47 Tryz.al79 Tryz.al177 Tryz.al180 Tryz.al231 Tryz.al232 Tryz.al26 Tryz.al38 Tryz.al40 Tryz.al43 Tryz.al50 Tryz.al52 Tryz.al54 Tryz.al81 Tryz.al112 Tryz.al120 Tryz.al176 Tryz.al179 Tryz.al182 Tryz.al184 Tryz.al234 Tryz.al236 Tryz.al240 Tryz.al246 Tryz.al249
attribute [local go_sem] Player.length_enc Player.ok_enc Player.all_get Player.all_set Player.hand_get Player.hand_set Player.aside_get Player.aside_set Message.length_enc Message.ok_enc Message.all_get Message.all_set Message.kind_get Message.kind_set Message.from__get Message.from__set Message.to__get Message.to__set Message.sender_get Message.sender_set Message.receiver_get Message.receiver_set Message.seq_get Message.seq_set Message.token_get Message.token_set Message.amount_get Message.amount_set Message.size_get Message.size_set Message.payload_get Message.payload_set Tx.length_enc Tx.ok_enc Tx.all_get Tx.all_set Tx.kind_get Tx.kind_set Tx.chain_get Tx.chain_set Tx.from__get Tx.from__set Tx.nonce_get Tx.nonce_set Tx.fee_get Tx.fee_set Tx.to__get Tx.to__set Tx.dest_get Tx.dest_set Tx.token_get Tx.token_set Tx.amount_get Tx.amount_set Tx.size_get Tx.size_set Tx.payload_get Tx.payload_set Tx.msg_get Tx.msg_set Tx.msg_kind_get Tx.msg_kind_set Tx.msg_from__get Tx.msg_from__set Tx.msg_to__get Tx.msg_to__set Tx.msg_sender_get Tx.msg_sender_set Tx.msg_receiver_get Tx.msg_receiver_set Tx.msg_seq_get Tx.msg_seq_set Tx.msg_token_get Tx.msg_token_set Tx.msg_amount_get Tx.msg_amount_set Tx.msg_size_get Tx.msg_size_set Tx.msg_payload_get Tx.msg_payload_set GOp.length_enc GOp.ok_enc GOp.all_get GOp.all_set GOp.kind_get GOp.kind_set GOp.tx_get GOp.tx_set GOp.txs_get GOp.txs_set GOp.gas_get GOp.gas_set GOp.acct_get GOp.acct_set GOp.token_get GOp.token_set GOp.chain_get GOp.chain_set GOp.seq_get GOp.seq_set GOp.tx_kind_get GOp.tx_kind_set GOp.tx_chain_get GOp.tx_chain_set GOp.tx_from__get GOp.tx_from__set GOp.tx_nonce_get GOp.tx_nonce_set GOp.tx_fee_get GOp.tx_fee_set GOp.tx_to__get GOp.tx_to__set GOp.tx_dest_get GOp.tx_dest_set GOp.tx_token_get GOp.tx_token_set GOp.tx_amount_get GOp.tx_amount_set GOp.tx_size_get GOp.tx_size_set GOp.tx_payload_get GOp.tx_payload_set GOp.tx_msg_get GOp.tx_msg_set GOp.tx_msg_kind_get GOp.tx_msg_kind_set GOp.tx_msg_from__get GOp.tx_msg_from__set GOp.tx_msg_to__get GOp.tx_msg_to__set GOp.tx_msg_sender_get GOp.tx_msg_sender_set GOp.tx_msg_receiver_get GOp.tx_msg_receiver_set GOp.tx_msg_seq_get GOp.tx_msg_seq_set GOp.tx_msg_token_get GOp.tx_msg_token_set GOp.tx_msg_amount_get GOp.tx_msg_amount_set GOp.tx_msg_size_get GOp.tx_msg_size_set GOp.tx_msg_payload_get GOp.tx_msg_payload_set Summary.length_enc Summary.ok_enc Summary.all_get Summary.all_set Summary.height_get Summary.height_set Summary.txs_get Summary.txs_set Summary.gas_get Summary.gas_set Summary.fees_get Summary.fees_set Summary.sent_get Summary.sent_set Summary.took_get Summary.took_set Summary.minted_get Summary.minted_set Summary.burned_get Summary.burned_set Summary.root_get Summary.root_set Detail.length_enc Detail.ok_enc Detail.all_get Detail.all_set Detail.code_get Detail.code_set Detail.have__get Detail.have__set Detail.need_get Detail.need_set Slot.length_enc Slot.ok_enc Slot.all_get Slot.all_set Slot.nonce_get Slot.nonce_set Slot.balances_get Slot.balances_set Tree.length_enc Tree.ok_enc Tree.all_get Tree.all_set Tree.leaves_get Tree.leaves_set Mark.length_enc Mark.ok_enc Mark.all_get Mark.all_set Mark.from__get Mark.from__set Mark.seq_get Mark.seq_set Receipt.length_enc Receipt.ok_enc Receipt.all_get Receipt.all_set Receipt.code_get Receipt.code_set Receipt.hash_get Receipt.hash_set Receipt.index_get Receipt.index_set Receipt.gas_get Receipt.gas_set Receipt.fee_get Receipt.fee_set Receipt.hasSent_get Receipt.hasSent_set Receipt.sent_get Receipt.sent_set Receipt.hasTook_get Receipt.hasTook_set Receipt.took_get Receipt.took_set Receipt.sent_kind_get Receipt.sent_kind_set Receipt.sent_from__get Receipt.sent_from__set Receipt.sent_to__get Receipt.sent_to__set Receipt.sent_sender_get Receipt.sent_sender_set Receipt.sent_receiver_get Receipt.sent_receiver_set Receipt.sent_seq_get Receipt.sent_seq_set Receipt.sent_token_get Receipt.sent_token_set Receipt.sent_amount_get Receipt.sent_amount_set Receipt.sent_size_get Receipt.sent_size_set Receipt.sent_payload_get Receipt.sent_payload_set Receipt.took_kind_get Receipt.took_kind_set Receipt.took_from__get Receipt.took_from__set Receipt.took_to__get Receipt.took_to__set Receipt.took_sender_get Receipt.took_sender_set Receipt.took_receiver_get Receipt.took_receiver_set Receipt.took_seq_get Receipt.took_seq_set Receipt.took_token_get Receipt.took_token_set Receipt.took_amount_get Receipt.took_amount_set Receipt.took_size_get Receipt.took_size_set Receipt.took_payload_get Receipt.took_payload_set Store.length_enc Store.ok_enc Store.all_get Store.all_set Store.now_get Store.now_set Store.saved_get Store.saved_set GState.length_enc GState.ok_enc GState.all_get GState.all_set GState.kv_get GState.kv_set GState.tree_get GState.tree_set GState.stale_get GState.stale_set GState.touched_get GState.touched_set GState.kv_now_get GState.kv_now_set GState.kv_saved_get GState.kv_saved_set GState.tree_leaves_get GState.tree_leaves_set History.length_enc History.ok_enc History.all_get History.all_set History.ring_get History.ring_set History.closed_get History.closed_set Ledger.length_enc Ledger.ok_enc Ledger.all_get Ledger.all_set Ledger.chain_get Ledger.chain_set Ledger.st_get Ledger.st_set Ledger.height_get Ledger.height_set Ledger.open__get Ledger.open__set Ledger.gasLimit_get Ledger.gasLimit_set Ledger.past_get Ledger.past_set Ledger.begun_get Ledger.begun_set Ledger.sent_get Ledger.sent_set Ledger.took_get Ledger.took_set Ledger.receipts_get Ledger.receipts_set Ledger.st_kv_get Ledger.st_kv_set Ledger.st_tree_get Ledger.st_tree_set Ledger.st_stale_get Ledger.st_stale_set Ledger.st_touched_get Ledger.st_touched_set Ledger.st_kv_now_get Ledger.st_kv_now_set Ledger.st_kv_saved_get Ledger.st_kv_saved_set Ledger.st_tree_leaves_get Ledger.st_tree_leaves_set Ledger.past_ring_get Ledger.past_ring_set Ledger.past_closed_get Ledger.past_closed_set Ledger.begun_kv_get Ledger.begun_kv_set Ledger.begun_tree_get Ledger.begun_tree_set Ledger.begun_stale_get Ledger.begun_stale_set Ledger.begun_touched_get Ledger.begun_touched_set Ledger.begun_kv_now_get Ledger.begun_kv_now_set Ledger.begun_kv_saved_get Ledger.begun_kv_saved_set Ledger.begun_tree_leaves_get Ledger.begun_tree_leaves_set Purse.length_enc Purse.ok_enc Purse.all_get Purse.all_set Purse.st_get Purse.st_set Purse.n_get Purse.n_set Purse.account_get Purse.account_set Purse.token_get Purse.token_set Purse.amount_get Purse.amount_set Plan.length_enc Plan.ok_enc Plan.all_get Plan.all_set Plan.purse_get Plan.purse_set Plan.nonce_get Plan.nonce_set Plan.gasUsed_get Plan.gasUsed_set Plan.fees_get Plan.fees_set Plan.hasSupply_get Plan.hasSupply_set Plan.token_get Plan.token_set Plan.supply_get Plan.supply_set Plan.flowAt_get Plan.flowAt_set Plan.flow_get Plan.flow_set Plan.receipt_get Plan.receipt_set Plan.purse_st_get Plan.purse_st_set Plan.purse_n_get Plan.purse_n_set Plan.purse_account_get Plan.purse_account_set Plan.purse_token_get Plan.purse_token_set Plan.purse_amount_get Plan.purse_amount_set Plan.receipt_code_get Plan.receipt_code_set Plan.receipt_hash_get Plan.receipt_hash_set Plan.receipt_index_get Plan.receipt_index_set Plan.receipt_gas_get Plan.receipt_gas_set Plan.receipt_fee_get Plan.receipt_fee_set Plan.receipt_hasSent_get Plan.receipt_hasSent_set Plan.receipt_sent_get Plan.receipt_sent_set Plan.receipt_hasTook_get Plan.receipt_hasTook_set Plan.receipt_took_get Plan.receipt_took_set Plan.receipt_sent_kind_get Plan.receipt_sent_kind_set Plan.receipt_sent_from__get Plan.receipt_sent_from__set Plan.receipt_sent_to__get Plan.receipt_sent_to__set Plan.receipt_sent_sender_get Plan.receipt_sent_sender_set Plan.receipt_sent_receiver_get Plan.receipt_sent_receiver_set Plan.receipt_sent_seq_get Plan.receipt_sent_seq_set Plan.receipt_sent_token_get Plan.receipt_sent_token_set Plan.receipt_sent_amount_get Plan.receipt_sent_amount_set Plan.receipt_sent_size_get Plan.receipt_sent_size_set Plan.receipt_sent_payload_get Plan.receipt_sent_payload_set Plan.receipt_took_kind_get Plan.receipt_took_kind_set Plan.receipt_took_from__get Plan.receipt_took_from__set Plan.receipt_took_to__get Plan.receipt_took_to__set Plan.receipt_took_sender_get Plan.receipt_took_sender_set Plan.receipt_took_receiver_get Plan.receipt_took_receiver_set Plan.receipt_took_seq_get Plan.receipt_took_seq_set Plan.receipt_took_token_get Plan.receipt_took_token_set Plan.receipt_took_amount_get Plan.receipt_took_amount_set Plan.receipt_took_size_get Plan.receipt_took_size_set Plan.receipt_took_payload_get Plan.receipt_took_payload_set Move.length_enc Move.ok_enc Move.all_get Move.all_set Move.account_get Move.account_set Move.token_get Move.token_set Move.down_get Move.down_set Move.amount_get Move.amount_set Books.length_enc Books.ok_enc Books.all_get Books.all_set Books.sums_get Books.sums_set Books.stored_get Books.stored_set Books.marks_get Books.marks_set Pair.length_enc Pair.ok_enc Pair.all_get Pair.all_set Pair.key_get Pair.key_set Pair.value_get Pair.value_set
attribute [local go_sem] size_put size_ext blk_put free_put blk_alloc free_alloc blk_drew free_drew blk_ext free_ext lookOr_some putOr_some segAt_some cellAt_some storeIn_some put_put put_alloc_new length_arr ok_arr_u8 ok_arr_u32 ok_arr_u64 ok_arr_i64 ok_arr_sl cellsV_agg cellsV_int cellsV_bool cellsV_string cellsV_pointer cellsV_slice cellsV_sl ok_int ok_bool ok_string ok_pointer ok_slice ok_sl toList_arr seg_arr set_arr nth_splice nth_splice0 seg_splice seg_splice0 splice_splice splice_splice0 length_splice_if
attribute [local go_sem ↓] execOp_box
attribute [local go_sem] box_run nth_arr_u8 put_arr_u8 blk_drewN free_drewN put_drewN blk_raw free_raw
theorem addO_some {a b u : UInt64} (h : addO a b = some u) : u = a + b ∧ a.toNat + b.toNat ≤ 9223372036854775807 := by
  unfold addO at h
  split at h
  · rename_i hh
    exact ⟨(Option.some.inj h).symm, hh⟩
  · cases h
theorem subO_some {a b u : UInt64} (h : subO a b = some u) : u = a - b ∧ a.toNat ≤ 9223372036854775807 ∧ b.toNat ≤ a.toNat := by
  unfold subO at h
  split at h
  · rename_i hh
    exact ⟨(Option.some.inj h).symm, hh.1, hh.2⟩
  · cases h
def rcp0 (L : PLg) (x : Tx) : Receipt := { Receipt.zero with gas := gasU x, fee := x.fee, index := ldF L.st.now (keyC 3) }
/-- The receipt of an accepted transaction, the hash apart. -/
def rcpF (L : PLg) (x : Tx) : Receipt :=
  if w8 x.kind = 1 then rcp0 L x else if w8 x.kind = 2 then { rcp0 L x with hasSent := true, sent := burnM L.chain x }
  else if w8 x.kind = 4 then { rcp0 L x with hasSent := true, sent := plainM L.chain x } else { rcp0 L x with hasTook := true, took := x.msg }
def pln0 (L : PLg) (bl : Nat) (x : Tx) : Plan := { Plan.zero with purse := pOf (some ⟨bl, 1, none⟩) (purL L.st.now x), nonce := ldF L.st.now (keyN x.from_) + 1, gasUsed := ldF L.st.now (keyC 1) + gasU x, fees := ldF L.st.now (keyC 2) + x.fee, receipt := rcpF L x }
/-- The plan of an accepted transaction. -/
def plnF (L : PLg) (bl : Nat) (x : Tx) : Plan :=
  if w8 x.kind = 2 then { pln0 L bl x with hasSupply := true, token := x.token, supply := ldF L.st.now (keyS x.token) - x.amount, flowAt := fU 11 x.token, flow := ldF L.st.now (keyC (fU 11 x.token)) + x.amount }
  else if w8 x.kind = 3 then { pln0 L bl x with hasSupply := true, token := x.msg.token, supply := ldF L.st.now (keyS x.msg.token) + x.msg.amount, flowAt := fU 7 x.msg.token, flow := ldF L.st.now (keyC (fU 7 x.msg.token)) + x.msg.amount }
  else pln0 L bl x
/-- What the kinds ask. -/
def KOk (now : List Pair) (x : Tx) : Prop :=
  (w8 x.kind = 1 ∧ (debR now (feeL now x) x.from_ x.token x.amount).1 = true ∧ (crdR now (debR now (feeL now x) x.from_ x.token x.amount).2 x.to_ x.token x.amount).1 = true) ∨
  (w8 x.kind = 2 ∧ (debR now (feeL now x) x.from_ x.token x.amount).1 = true ∧ (ldF now (keyS x.token)).toNat ≤ 9223372036854775807 ∧ x.amount.toNat ≤ (ldF now (keyS x.token)).toNat ∧ (ldF now (keyC (fU 11 x.token))).toNat + x.amount.toNat ≤ 9223372036854775807) ∨
  (w8 x.kind = 4) ∨
  (w8 x.kind = 3 ∧ ldF now (keyM x.msg.from_ x.msg.seq) = 0 ∧ (ldF now (keyS x.msg.token)).toNat + x.msg.amount.toNat ≤ 9223372036854775807 ∧ (ldF now (keyC (fU 7 x.msg.token))).toNat + x.msg.amount.toNat ≤ 9223372036854775807 ∧ (crdR now (feeL now x) x.msg.receiver x.msg.token x.msg.amount).1 = true) ∨
  (w8 x.kind = 5 ∧ ldF now (keyM x.msg.from_ x.msg.seq) = 0)
/-- A transaction that is accepted. -/
structure JOk (L : PLg) (x : Tx) : Prop where
  shp : shpF L.chain x = 0
  opn : L.open_ = true
  gasb : (ldF L.st.now (keyC 1)).toNat + (gasU x).toNat ≤ 9223372036854775807
  gasl : w64 (ldF L.st.now (keyC 1) + gasU x) ≤ w64 L.gasLimit
  feeb : (ldF L.st.now (keyC 2)).toNat + x.fee.toNat ≤ 9223372036854775807
  non : x.nonce = ldF L.st.now (keyN x.from_)
  nonb : (ldF L.st.now (keyN x.from_)).toNat + 1 ≤ 9223372036854775807
  dfee : (debR L.st.now [] x.from_ 0 x.fee).1 = true
  dseq : (crdR L.st.now (kndL L.st.now (feeL L.st.now x) x) 0 0 x.fee).1 = true
  knd : KOk L.st.now x
theorem admF_ok {L : PLg} {x : Tx} {P : Plan} (h : (admF L x P).1 = 0) : L.open_ = true ∧ (ldF L.st.now (keyC 1)).toNat + (gasU x).toNat ≤ 9223372036854775807 ∧ w64 (ldF L.st.now (keyC 1) + gasU x) ≤ w64 L.gasLimit ∧ (ldF L.st.now (keyC 2)).toNat + x.fee.toNat ≤ 9223372036854775807 ∧ (admF L x P).2 = { P with gasUsed := ldF L.st.now (keyC 1) + gasU x, fees := ldF L.st.now (keyC 2) + x.fee, receipt := { P.receipt with gas := gasU x, fee := x.fee, index := ldF L.st.now (keyC 3) } } := by
  revert h
  unfold admF
  split
  · rename_i ho
    split
    · intro e; dsimp only at e; omega
    · rename_i u hu
      obtain ⟨rfl, hu2⟩ := addO_some hu
      split
      · intro e; dsimp only at e; omega
      · rename_i hl
        split
        · intro e; dsimp only at e; omega
        · rename_i f hf
          obtain ⟨rfl, hf2⟩ := addO_some hf
          intro _
          exact ⟨ho, hu2, by omega, hf2, rfl⟩
  · intro e; dsimp only at e; omega
theorem sndR_ok2 {L : PLg} {bl : Nat} {x : Tx} {P : Plan} (h : (sndR L bl x P).1 = 0) : x.nonce = ldF L.st.now (keyN x.from_) ∧ (ldF L.st.now (keyN x.from_)).toNat + 1 ≤ 9223372036854775807 ∧ (debR L.st.now [] x.from_ 0 x.fee).1 = true ∧ (sndR L bl x P).2 = { P with nonce := ldF L.st.now (keyN x.from_) + 1, purse := pOf (some ⟨bl, 1, none⟩) (feeL L.st.now x) } := by
  revert h
  unfold sndR
  split
  · intro e; dsimp only at e; omega
  · split
    · intro e; dsimp only at e; omega
    · rename_i h1 h2
      split
      · intro e; dsimp only at e; omega
      · rename_i m hm
        obtain ⟨rfl, hm2⟩ := addO_some hm
        intro e
        dsimp only at e
        have hd : (debR L.st.now [] x.from_ 0 x.fee).1 = true := by
          cases hb : (debR L.st.now [] x.from_ 0 x.fee).1 with
          | true => rfl
          | false => rw [hb, if_neg (by simp)] at e; omega
        refine ⟨?_, hm2, hd, rfl⟩
        unfold w64 at h1 h2
        exact UInt64.toNat_inj.1 (by omega)
theorem judR_ok {L : PLg} {bl : Nat} {x : Tx} (h : (judR L bl x).1 = 0) : JOk L x ∧ (judR L bl x).2 = plnF L bl x := by
  unfold judR at h ⊢
  by_cases hs : shpF L.chain x = 0
  rotate_left 1
  · rw [if_neg hs] at h; exact absurd h hs
  rw [if_pos hs] at h ⊢
  by_cases ha : (admF L x Plan.zero).1 = 0
  rotate_left 1
  · rw [if_neg ha] at h; exact absurd h ha
  rw [if_pos ha] at h ⊢
  obtain ⟨a1, a2, a3, a4, a5⟩ := admF_ok ha
  rw [a5] at h ⊢
  clear a5 ha
  by_cases hn : (sndR L bl x { Plan.zero with gasUsed := ldF L.st.now (keyC 1) + gasU x, fees := ldF L.st.now (keyC 2) + x.fee, receipt := { Plan.zero.receipt with gas := gasU x, fee := x.fee, index := ldF L.st.now (keyC 3) } }).1 = 0
  rotate_left 1
  · rw [if_neg hn] at h; exact absurd h hn
  rw [if_pos hn] at h ⊢
  obtain ⟨n1, n2, n3, n4⟩ := sndR_ok2 hn
  rw [n4] at h ⊢
  clear n4 hn
  dsimp only at h ⊢
  have hkd := shp_kind hs
  obtain ⟨P0, hP0⟩ : ∃ P0 : Plan, P0 = { Plan.zero with gasUsed := ldF L.st.now (keyC 1) + gasU x, fees := ldF L.st.now (keyC 2) + x.fee, receipt := { Plan.zero.receipt with gas := gasU x, fee := x.fee, index := ldF L.st.now (keyC 3) }, nonce := ldF L.st.now (keyN x.from_) + 1, purse := pOf (some ⟨bl, 1, none⟩) (feeL L.st.now x) } := ⟨_, rfl⟩
  have hK : (kndR L.st.now L.chain bl (feeL L.st.now x) x P0).1 = 0 ∧ (crdR L.st.now (kndL L.st.now (feeL L.st.now x) x) 0 0 x.fee).1 = true := by
    rw [← hP0] at h
    by_cases hk : (kndR L.st.now L.chain bl (feeL L.st.now x) x P0).1 = 0
    · rw [if_pos hk] at h
      dsimp only at h
      refine ⟨hk, ?_⟩
      cases hb : (crdR L.st.now (kndL L.st.now (feeL L.st.now x) x) 0 0 x.fee).1 with
      | true => rfl
      | false => rw [hb, if_neg (by simp)] at h; omega
    · rw [if_neg hk] at h; exact absurd h hk
  obtain ⟨hk, hc⟩ := hK
  rw [← hP0, if_pos hk]
  have key : KOk L.st.now x ∧ wP bl (kndR L.st.now L.chain bl (feeL L.st.now x) x P0).2 (purL L.st.now x) = plnF L bl x := by
    unfold plnF pln0 rcpF KOk
    clear h hc
    unfold kndR at hk ⊢
    rcases hkd with k | k | k | k | k
    · simp only [if_pos k] at hk ⊢
      rw [if_neg (by omega), if_neg (by omega)]
      unfold trnR at hk ⊢
      by_cases hd : (debR L.st.now (feeL L.st.now x) x.from_ x.token x.amount).1 = true
      · rw [if_pos hd] at hk ⊢
        dsimp only at hk
        have hc : (crdR L.st.now (debR L.st.now (feeL L.st.now x) x.from_ x.token x.amount).2 x.to_ x.token x.amount).1 = true := by
          cases hb : (crdR L.st.now (debR L.st.now (feeL L.st.now x) x.from_ x.token x.amount).2 x.to_ x.token x.amount).1 with
          | true => rfl
          | false => rw [hb, if_neg (by simp)] at hk; omega
        exact ⟨Or.inl ⟨k, hd, hc⟩, by rw [hP0]; rfl⟩
      · rw [if_neg hd] at hk; dsimp only at hk; omega
    · have k1 : ¬ w8 x.kind = 1 := by omega
      simp only [if_neg k1, if_pos k] at hk ⊢
      unfold brnR at hk ⊢
      by_cases hd : (debR L.st.now (feeL L.st.now x) x.from_ x.token x.amount).1 = true
      · rw [if_pos hd] at hk ⊢
        cases hsu : subO (ldF L.st.now (keyS x.token)) x.amount with
        | none => rw [hsu] at hk; dsimp only at hk; omega
        | some s =>
          rw [hsu] at hk
          dsimp only at hk ⊢
          obtain ⟨rfl, hs1, hs2⟩ := subO_some hsu
          cases had : addO (ldF L.st.now (keyC (fU 11 x.token))) x.amount with
          | none => rw [had] at hk; dsimp only at hk; omega
          | some f =>
            obtain ⟨rfl, hf1⟩ := addO_some had
            exact ⟨Or.inr (Or.inl ⟨k, hd, hs1, hs2, hf1⟩), by rw [hP0]; rfl⟩
      · rw [if_neg hd] at hk; dsimp only at hk; omega
    · have k1 : ¬ w8 x.kind = 1 := by omega
      have k2 : ¬ w8 x.kind = 2 := by omega
      have k3 : ¬ w8 x.kind = 3 := by omega
      simp only [if_neg k1, if_neg k2, if_neg k3, if_pos k] at hk ⊢
      exact ⟨Or.inr (Or.inr (Or.inl k)), by rw [hP0]; rfl⟩
    · have k1 : ¬ w8 x.kind = 1 := by omega
      have k2 : ¬ w8 x.kind = 2 := by omega
      have k4 : ¬ w8 x.kind = 4 := by omega
      simp only [if_neg k1, if_neg k2, if_neg k4, if_pos k] at hk ⊢
      unfold mntR at hk ⊢
      by_cases hm : ldF L.st.now (keyM x.msg.from_ x.msg.seq) ≠ 0
      · rw [if_pos hm] at hk; dsimp only at hk; omega
      rw [if_neg hm] at hk ⊢
      cases hsu : addO (ldF L.st.now (keyS x.msg.token)) x.msg.amount with
      | none => rw [hsu] at hk; dsimp only at hk; omega
      | some s =>
        rw [hsu] at hk
        dsimp only at hk ⊢
        obtain ⟨rfl, hs1⟩ := addO_some hsu
        cases had : addO (ldF L.st.now (keyC (fU 7 x.msg.token))) x.msg.amount with
        | none => rw [had] at hk; dsimp only at hk; omega
        | some f =>
          rw [had] at hk
          dsimp only at hk ⊢
          obtain ⟨rfl, hf1⟩ := addO_some had
          by_cases hd : (crdR L.st.now (feeL L.st.now x) x.msg.receiver x.msg.token x.msg.amount).1 = true
          · rw [if_pos hd]
            exact ⟨Or.inr (Or.inr (Or.inr (Or.inl ⟨k, by simpa using hm, hs1, hf1, hd⟩))), by rw [hP0]; rfl⟩
          · rw [if_neg hd] at hk; dsimp only at hk; omega
    · have k1 : ¬ w8 x.kind = 1 := by omega
      have k2 : ¬ w8 x.kind = 2 := by omega
      have k4 : ¬ w8 x.kind = 4 := by omega
      have k3 : ¬ w8 x.kind = 3 := by omega
      simp only [if_neg k1, if_neg k2, if_neg k4, if_neg k3] at hk ⊢
      unfold conR at hk ⊢
      by_cases hm : ldF L.st.now (keyM x.msg.from_ x.msg.seq) ≠ 0
      · rw [if_pos hm] at hk; dsimp only at hk; omega
      rw [if_neg hm]
      exact ⟨Or.inr (Or.inr (Or.inr (Or.inr ⟨k, by simpa using hm⟩))), by rw [hP0]; rfl⟩
  exact ⟨⟨hs, a1, a2, a3, a4, n1, n2, n3, hc, key.1⟩, key.2⟩
end Go.Proofs.Qxb6500786aGreat
