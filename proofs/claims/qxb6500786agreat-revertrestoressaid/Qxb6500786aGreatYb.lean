import Derived.DeepKeys2
import Derived.Test.Qxb6500786aGreatYa
import Derived.Test.Qxb6500786aGreatUb
import Derived.Test.Qxb6500786aGreatUq

import Derived.StillTailTactics
import Derived.Deep.QuietTactic
import Derived.BigQuiet
import Derived.Deep.RegionHeld
import Derived.Deep.CutRange
import Derived.Laws.ResultCell
import Derived.Laws.Rows
import Derived.DeepKeys
import Derived.DataBytes
import Derived.Laws.StructEq
import Derived.Laws.AppendOwn
import Derived.Laws.MakeOwn
import Derived.Lib.AppendStr
set_option linter.unusedSimpArgs false
set_option linter.unusedVariables false
namespace Go.Proofs.Qxb6500786aGreat
open Go.RowKit Go.Blk
attribute [local go_sem ↓] execOp_load execOp_store execOp_alloc
attribute [local go_sem] Tryz.ld24 Tryz.st24 Tryz.ld36 Tryz.st36 Tryz.ld28 Tryz.st28 Tryz.ld32 Tryz.st32 Tryz.ld33 Tryz.st33 Tryz.ld34 Tryz.st34 Tryz.ld5 Tryz.st5 Tryz.ld31 Tryz.st31 Tryz.ld30 Tryz.st30 Tryz.ld41 Tryz.st41 Tryz.ld44 Tryz.st44 Tryz.ld4 Tryz.st4 Tryz.ld173 Tryz.st173 Tryz.ld174 Tryz.st174 Tryz.ld95 Tryz.st95 Tryz.ld45 Tryz.st45 Tryz.ld207 Tryz.st207 Tryz.ld3 Tryz.st3 Tryz.ld189 Tryz.st189 Tryz.ld2 Tryz.st2 Tryz.ld9 Tryz.st9 Tryz.ld12 Tryz.st12 Tryz.ld21 Tryz.st21 Tryz.ld22 Tryz.st22 Tryz.ld46 Tryz.st46 Tryz.ld92 Tryz.st92 Tryz.ld94 Tryz.st94 Tryz.ld96 Tryz.st96 Tryz.ld97 Tryz.st97 Tryz.ld105 Tryz.st105 Tryz.ld117 Tryz.st117 Tryz.ld122 Tryz.st122 Tryz.ld123 Tryz.st123 Tryz.ld133 Tryz.st133 Tryz.ld155 Tryz.st155 Tryz.ld163 Tryz.st163 Tryz.ld190 Tryz.st190 Tryz.ld197 Tryz.st197 Tryz.ld201 Tryz.st201 Tryz.ld202 Tryz.st202 Tryz.ld209 Tryz.st209 Tryz.ld216 Tryz.st216 Tryz.ld230 Tryz.st230 Tryz.ld238 Tryz.st238 Tryz.ld242 Tryz.st242 Tryz.ld251 Tryz.st251 Tryz.ld260 Tryz.st260 Tryz.ld286 Tryz.st286 Tryz.ld292 Tryz.st292 Tryz.ld298 Tryz.st298 Tryz.ld309 Tryz.st309 Tryz.ld35 Tryz.st35 Tryz.ld48 Tryz.st48 Tryz.ld47 Tryz.st47 Tryz.ld79 Tryz.st79 Tryz.ld177 Tryz.st177 Tryz.ld180 Tryz.st180 Tryz.ld231 Tryz.st231 Tryz.ld232 Tryz.st232 Tryz.ld26 Tryz.st26 Tryz.ld38 Tryz.st38 Tryz.ld40 Tryz.st40 Tryz.ld43 Tryz.st43 Tryz.ld50 Tryz.st50 Tryz.ld52 Tryz.st52 Tryz.ld54 Tryz.st54 Tryz.ld81 Tryz.st81 Tryz.ld112 Tryz.st112 Tryz.ld120 Tryz.st120 Tryz.ld176 Tryz.st176 Tryz.ld179 Tryz.st179 Tryz.ld182 Tryz.st182 Tryz.ld184 Tryz.st184 Tryz.ld234 Tryz.st234 Tryz.ld236 Tryz.st236 Tryz.ld240 Tryz.st240 Tryz.ld246 Tryz.st246 Tryz.ld249 Tryz.st249 Tryz.al35 Tryz.al48 Tryz.al47 Tryz.al79 Tryz.al177 Tryz.al180 Tryz.al231 Tryz.al232 Tryz.al26 Tryz.al38 Tryz.al40 Tryz.al43 Tryz.al50 Tryz.al52 Tryz.al54 Tryz.al81 Tryz.al112 Tryz.al120 Tryz.al176 Tryz.al179 Tryz.al182 Tryz.al184 Tryz.al234 Tryz.al236 Tryz.al240 Tryz.al246 Tryz.al249
attribute [local go_sem] Player.length_enc Player.ok_enc Player.all_get Player.all_set Player.hand_get Player.hand_set Player.aside_get Player.aside_set Message.length_enc Message.ok_enc Message.all_get Message.all_set Message.kind_get Message.kind_set Message.from__get Message.from__set Message.to__get Message.to__set Message.sender_get Message.sender_set Message.receiver_get Message.receiver_set Message.seq_get Message.seq_set Message.token_get Message.token_set Message.amount_get Message.amount_set Message.size_get Message.size_set Message.payload_get Message.payload_set Tx.length_enc Tx.ok_enc Tx.all_get Tx.all_set Tx.kind_get Tx.kind_set Tx.chain_get Tx.chain_set Tx.from__get Tx.from__set Tx.nonce_get Tx.nonce_set Tx.fee_get Tx.fee_set Tx.to__get Tx.to__set Tx.dest_get Tx.dest_set Tx.token_get Tx.token_set Tx.amount_get Tx.amount_set Tx.size_get Tx.size_set Tx.payload_get Tx.payload_set Tx.msg_get Tx.msg_set Tx.msg_kind_get Tx.msg_kind_set Tx.msg_from__get Tx.msg_from__set Tx.msg_to__get Tx.msg_to__set Tx.msg_sender_get Tx.msg_sender_set Tx.msg_receiver_get Tx.msg_receiver_set Tx.msg_seq_get Tx.msg_seq_set Tx.msg_token_get Tx.msg_token_set Tx.msg_amount_get Tx.msg_amount_set Tx.msg_size_get Tx.msg_size_set Tx.msg_payload_get Tx.msg_payload_set GOp.length_enc GOp.ok_enc GOp.all_get GOp.all_set GOp.kind_get GOp.kind_set GOp.tx_get GOp.tx_set GOp.txs_get GOp.txs_set GOp.gas_get GOp.gas_set GOp.acct_get GOp.acct_set GOp.token_get GOp.token_set GOp.chain_get GOp.chain_set GOp.seq_get GOp.seq_set GOp.tx_kind_get GOp.tx_kind_set GOp.tx_chain_get GOp.tx_chain_set GOp.tx_from__get GOp.tx_from__set GOp.tx_nonce_get GOp.tx_nonce_set GOp.tx_fee_get GOp.tx_fee_set GOp.tx_to__get GOp.tx_to__set GOp.tx_dest_get GOp.tx_dest_set GOp.tx_token_get GOp.tx_token_set GOp.tx_amount_get GOp.tx_amount_set GOp.tx_size_get GOp.tx_size_set GOp.tx_payload_get GOp.tx_payload_set GOp.tx_msg_get GOp.tx_msg_set GOp.tx_msg_kind_get GOp.tx_msg_kind_set GOp.tx_msg_from__get GOp.tx_msg_from__set GOp.tx_msg_to__get GOp.tx_msg_to__set GOp.tx_msg_sender_get GOp.tx_msg_sender_set GOp.tx_msg_receiver_get GOp.tx_msg_receiver_set GOp.tx_msg_seq_get GOp.tx_msg_seq_set GOp.tx_msg_token_get GOp.tx_msg_token_set GOp.tx_msg_amount_get GOp.tx_msg_amount_set GOp.tx_msg_size_get GOp.tx_msg_size_set GOp.tx_msg_payload_get GOp.tx_msg_payload_set Summary.length_enc Summary.ok_enc Summary.all_get Summary.all_set Summary.height_get Summary.height_set Summary.txs_get Summary.txs_set Summary.gas_get Summary.gas_set Summary.fees_get Summary.fees_set Summary.sent_get Summary.sent_set Summary.took_get Summary.took_set Summary.minted_get Summary.minted_set Summary.burned_get Summary.burned_set Summary.root_get Summary.root_set Detail.length_enc Detail.ok_enc Detail.all_get Detail.all_set Detail.code_get Detail.code_set Detail.have__get Detail.have__set Detail.need_get Detail.need_set Slot.length_enc Slot.ok_enc Slot.all_get Slot.all_set Slot.nonce_get Slot.nonce_set Slot.balances_get Slot.balances_set Tree.length_enc Tree.ok_enc Tree.all_get Tree.all_set Tree.leaves_get Tree.leaves_set Mark.length_enc Mark.ok_enc Mark.all_get Mark.all_set Mark.from__get Mark.from__set Mark.seq_get Mark.seq_set Receipt.length_enc Receipt.ok_enc Receipt.all_get Receipt.all_set Receipt.code_get Receipt.code_set Receipt.hash_get Receipt.hash_set Receipt.index_get Receipt.index_set Receipt.gas_get Receipt.gas_set Receipt.fee_get Receipt.fee_set Receipt.hasSent_get Receipt.hasSent_set Receipt.sent_get Receipt.sent_set Receipt.hasTook_get Receipt.hasTook_set Receipt.took_get Receipt.took_set Receipt.sent_kind_get Receipt.sent_kind_set Receipt.sent_from__get Receipt.sent_from__set Receipt.sent_to__get Receipt.sent_to__set Receipt.sent_sender_get Receipt.sent_sender_set Receipt.sent_receiver_get Receipt.sent_receiver_set Receipt.sent_seq_get Receipt.sent_seq_set Receipt.sent_token_get Receipt.sent_token_set Receipt.sent_amount_get Receipt.sent_amount_set Receipt.sent_size_get Receipt.sent_size_set Receipt.sent_payload_get Receipt.sent_payload_set Receipt.took_kind_get Receipt.took_kind_set Receipt.took_from__get Receipt.took_from__set Receipt.took_to__get Receipt.took_to__set Receipt.took_sender_get Receipt.took_sender_set Receipt.took_receiver_get Receipt.took_receiver_set Receipt.took_seq_get Receipt.took_seq_set Receipt.took_token_get Receipt.took_token_set Receipt.took_amount_get Receipt.took_amount_set Receipt.took_size_get Receipt.took_size_set Receipt.took_payload_get Receipt.took_payload_set Store.length_enc Store.ok_enc Store.all_get Store.all_set Store.now_get Store.now_set Store.saved_get Store.saved_set GState.length_enc GState.ok_enc GState.all_get GState.all_set GState.kv_get GState.kv_set GState.tree_get GState.tree_set GState.stale_get GState.stale_set GState.touched_get GState.touched_set GState.kv_now_get GState.kv_now_set GState.kv_saved_get GState.kv_saved_set GState.tree_leaves_get GState.tree_leaves_set History.length_enc History.ok_enc History.all_get History.all_set History.ring_get History.ring_set History.closed_get History.closed_set Ledger.length_enc Ledger.ok_enc Ledger.all_get Ledger.all_set Ledger.chain_get Ledger.chain_set Ledger.st_get Ledger.st_set Ledger.height_get Ledger.height_set Ledger.open__get Ledger.open__set Ledger.gasLimit_get Ledger.gasLimit_set Ledger.past_get Ledger.past_set Ledger.begun_get Ledger.begun_set Ledger.sent_get Ledger.sent_set Ledger.took_get Ledger.took_set Ledger.receipts_get Ledger.receipts_set Ledger.st_kv_get Ledger.st_kv_set Ledger.st_tree_get Ledger.st_tree_set Ledger.st_stale_get Ledger.st_stale_set Ledger.st_touched_get Ledger.st_touched_set Ledger.st_kv_now_get Ledger.st_kv_now_set Ledger.st_kv_saved_get Ledger.st_kv_saved_set Ledger.st_tree_leaves_get Ledger.st_tree_leaves_set Ledger.past_ring_get Ledger.past_ring_set Ledger.past_closed_get Ledger.past_closed_set Ledger.begun_kv_get Ledger.begun_kv_set Ledger.begun_tree_get Ledger.begun_tree_set Ledger.begun_stale_get Ledger.begun_stale_set Ledger.begun_touched_get Ledger.begun_touched_set Ledger.begun_kv_now_get Ledger.begun_kv_now_set Ledger.begun_kv_saved_get Ledger.begun_kv_saved_set Ledger.begun_tree_leaves_get Ledger.begun_tree_leaves_set Purse.length_enc Purse.ok_enc Purse.all_get Purse.all_set Purse.st_get Purse.st_set Purse.n_get Purse.n_set Purse.account_get Purse.account_set Purse.token_get Purse.token_set Purse.amount_get Purse.amount_set Plan.length_enc Plan.ok_enc Plan.all_get Plan.all_set Plan.purse_get Plan.purse_set Plan.nonce_get Plan.nonce_set Plan.gasUsed_get Plan.gasUsed_set Plan.fees_get Plan.fees_set Plan.hasSupply_get Plan.hasSupply_set Plan.token_get Plan.token_set Plan.supply_get Plan.supply_set Plan.flowAt_get Plan.flowAt_set Plan.flow_get Plan.flow_set Plan.receipt_get Plan.receipt_set Plan.purse_st_get Plan.purse_st_set Plan.purse_n_get Plan.purse_n_set Plan.purse_account_get Plan.purse_account_set Plan.purse_token_get Plan.purse_token_set Plan.purse_amount_get Plan.purse_amount_set Plan.receipt_code_get Plan.receipt_code_set Plan.receipt_hash_get Plan.receipt_hash_set Plan.receipt_index_get Plan.receipt_index_set Plan.receipt_gas_get Plan.receipt_gas_set Plan.receipt_fee_get Plan.receipt_fee_set Plan.receipt_hasSent_get Plan.receipt_hasSent_set Plan.receipt_sent_get Plan.receipt_sent_set Plan.receipt_hasTook_get Plan.receipt_hasTook_set Plan.receipt_took_get Plan.receipt_took_set Plan.receipt_sent_kind_get Plan.receipt_sent_kind_set Plan.receipt_sent_from__get Plan.receipt_sent_from__set Plan.receipt_sent_to__get Plan.receipt_sent_to__set Plan.receipt_sent_sender_get Plan.receipt_sent_sender_set Plan.receipt_sent_receiver_get Plan.receipt_sent_receiver_set Plan.receipt_sent_seq_get Plan.receipt_sent_seq_set Plan.receipt_sent_token_get Plan.receipt_sent_token_set Plan.receipt_sent_amount_get Plan.receipt_sent_amount_set Plan.receipt_sent_size_get Plan.receipt_sent_size_set Plan.receipt_sent_payload_get Plan.receipt_sent_payload_set Plan.receipt_took_kind_get Plan.receipt_took_kind_set Plan.receipt_took_from__get Plan.receipt_took_from__set Plan.receipt_took_to__get Plan.receipt_took_to__set Plan.receipt_took_sender_get Plan.receipt_took_sender_set Plan.receipt_took_receiver_get Plan.receipt_took_receiver_set Plan.receipt_took_seq_get Plan.receipt_took_seq_set Plan.receipt_took_token_get Plan.receipt_took_token_set Plan.receipt_took_amount_get Plan.receipt_took_amount_set Plan.receipt_took_size_get Plan.receipt_took_size_set Plan.receipt_took_payload_get Plan.receipt_took_payload_set Move.length_enc Move.ok_enc Move.all_get Move.all_set Move.account_get Move.account_set Move.token_get Move.token_set Move.down_get Move.down_set Move.amount_get Move.amount_set Books.length_enc Books.ok_enc Books.all_get Books.all_set Books.sums_get Books.sums_set Books.stored_get Books.stored_set Books.marks_get Books.marks_set Pair.length_enc Pair.ok_enc Pair.all_get Pair.all_set Pair.key_get Pair.key_set Pair.value_get Pair.value_set
attribute [local go_sem] size_put size_ext blk_put free_put blk_alloc free_alloc blk_drew free_drew blk_ext free_ext lookOr_some putOr_some segAt_some cellAt_some storeIn_some put_put put_alloc_new length_arr ok_arr_u8 ok_arr_u32 ok_arr_u64 ok_arr_i64 ok_arr_sl cellsV_agg cellsV_int cellsV_bool cellsV_string cellsV_pointer cellsV_slice cellsV_sl ok_int ok_bool ok_string ok_pointer ok_slice ok_sl toList_arr seg_arr set_arr nth_splice nth_splice0 seg_splice seg_splice0 splice_splice splice_splice0 length_splice_if
attribute [local go_sem ↓] execOp_box
attribute [local go_sem] box_run nth_arr_u8 put_arr_u8 blk_drewN free_drewN put_drewN blk_raw free_raw
/-- What has been met of a sender so far. -/
def erA (er : Vector UInt64 64) (a : UInt8) : UInt64 := (er[a.toNat]?).getD 0
def erS (er : Vector UInt64 64) (a : UInt8) : Vector UInt64 64 := er.setIfInBounds a.toNat (erA er a + 1)
theorem erS_at (er : Vector UInt64 64) {a : UInt8} (h : a.toNat < 64) (b : UInt8) : erA (erS er a) b = if b = a then erA er a + 1 else erA er b := by
  unfold erS erA
  rw [Vector.getElem?_setIfInBounds]
  by_cases e : b = a
  · subst e
    rw [if_pos rfl, if_pos rfl, if_pos h]
    rfl
  · have : ¬ a.toNat = b.toNat := fun q => e (UInt8.toNat_inj.1 q.symm)
    rw [if_neg this, if_neg e]
/-- Preflight's loop, plainly. -/
noncomputable def pfN (c : UInt8) (nn : UInt8 → UInt64) : List Tx → Nat → UInt64 → Vector UInt64 64 → Int × Int
  | [], _, _, _ => (-1, 0)
  | x :: X, i, gl, er => if shpF c x = 0 then (if w64 gl < gasF x then ((i : Int), 24) else if w64 x.nonce < w64 (nn x.from_ + erA er x.from_) then ((i : Int), 25) else if w64 (nn x.from_ + erA er x.from_) < w64 x.nonce then ((i : Int), 26) else pfN c nn X (i + 1) (gl - gasU x) (erS er x.from_)) else ((i : Int), shpF c x)
noncomputable def pfF (L : PLg) (X : List Tx) : Int × Int := if cbF L X.length = 0 then pfN L.chain (fun a => ldF L.st.now (keyN a)) X 0 (L.gasLimit - ldF L.st.now (keyC 1)) (Vector.replicate 64 0) else (-1, cbF L X.length)
/-- Renumber, plainly. -/
def rnN (nn : UInt8 → UInt64) : List Tx → Vector UInt64 64 → List Tx
  | [], _ => []
  | x :: X, er => if 64 ≤ x.from_.toNat then x :: rnN nn X er else { x with nonce := nn x.from_ + erA er x.from_ } :: rnN nn X (erS er x.from_)
def rnF (L : PLg) (X : List Tx) : List Tx := rnN (fun a => ldF L.st.now (keyN a)) X (Vector.replicate 64 0)
theorem rnN_len (nn : UInt8 → UInt64) : ∀ (X : List Tx) (er : Vector UInt64 64), (rnN nn X er).length = X.length
  | [], _ => rfl
  | x :: X, er => by
    unfold rnN
    split
    · rw [List.length_cons, List.length_cons, rnN_len nn X]
    · rw [List.length_cons, List.length_cons, rnN_len nn X]
theorem pf_ge (c : UInt8) (nn : UInt8 → UInt64) : ∀ (X : List Tx) (i : Nat) (gl : UInt64) (er : Vector UInt64 64), (pfN c nn X i gl er).2 ≠ 0 → (i : Int) ≤ (pfN c nn X i gl er).1
  | [], _, _, _, h => absurd rfl h
  | x :: X, i, gl, er, h => by
    unfold pfN at h ⊢
    split
    · rename_i h1
      rw [if_pos h1] at h
      split
      · exact Int.le_refl _
      · rename_i h2
        rw [if_neg h2] at h
        split
        · exact Int.le_refl _
        · rename_i h3
          rw [if_neg h3] at h
          split
          · exact Int.le_refl _
          · rename_i h4
            rw [if_neg h4] at h
            have := pf_ge c nn X (i + 1) _ _ h
            omega
    · exact Int.le_refl _
/-- A transaction whose shape, gas and nonce are in order fails only for these. -/
theorem jud_pf {n : Nat} {L : PLg} (h : LI n L) (hn : n < 10000000) (x : Tx) (hs : shpF L.chain x = 0) (ho : L.open_ = true) (hg : (ldF L.st.now (keyC 1)).toNat + (gasU x).toNat ≤ L.gasLimit.toNat) (hno : x.nonce = ldF L.st.now (keyN x.from_)) : (judR L 0 x).1 = 0 ∨ (judR L 0 x).1 = 45 ∨ (judR L 0 x).1 = 27 ∨ (judR L 0 x).1 = 28 ∨ (judR L 0 x).1 = 29 ∨ (judR L 0 x).1 = 30 ∨ (judR L 0 x).1 = 48 := by
  obtain ⟨nf1, nf2, nf3⟩ := no_fault h hn x
  have hgl := (h.op ho).2.2.2.1
  unfold judR at nf1 nf2 nf3 ⊢
  rw [if_pos hs] at nf1 nf2 nf3 ⊢
  by_cases h1 : (admF L x Plan.zero).1 = 0
  · rw [if_pos h1] at nf1 nf2 nf3 ⊢
    by_cases h2 : (sndR L 0 x (admF L x Plan.zero).2).1 = 0
    · rw [if_pos h2] at nf1 nf2 nf3 ⊢
      by_cases h3 : (kndR L.st.now L.chain 0 (feeL L.st.now x) x (sndR L 0 x (admF L x Plan.zero).2).2).1 = 0
      · rw [if_pos h3] at nf1 nf2 nf3 ⊢
        dsimp only at nf1 nf2 nf3 ⊢
        split
        · exact .inl rfl
        · rename_i q
          rw [if_neg q] at nf2
          exact absurd rfl nf2
      · rw [if_neg h3] at nf1 nf2 nf3 ⊢
        generalize (sndR L 0 x (admF L x Plan.zero).2).2 = P at h3 nf1 nf2 nf3 ⊢
        have : ∀ v : Int, v = (kndR L.st.now L.chain 0 (feeL L.st.now x) x P).1 → v = 0 ∨ v = 28 ∨ v = 43 ∨ v = 44 ∨ v = 48 ∨ v = 29 ∨ v = 30 := by
          intro v hv
          rw [hv]
          unfold kndR trnR brnR senR mntR conR
          repeat' split
          all_goals first | (dsimp only; omega) | (dsimp only; split <;> omega)
        have := this _ rfl
        omega
    · rw [if_neg h2] at nf1 nf2 nf3 ⊢
      generalize (admF L x Plan.zero).2 = P at h2 nf1 nf2 nf3 ⊢
      unfold sndR at nf1 h2 ⊢
      rw [if_neg (by rw [hno]; omega), if_neg (by rw [hno]; omega)] at nf1 h2 ⊢
      split
      · rename_i q
        rw [q] at nf1
        exact absurd rfl nf1
      · dsimp only
        split
        · exact .inl rfl
        · exact .inr (.inr (.inl rfl))
  · rw [if_neg h1]
    unfold admF at h1 ⊢
    rw [if_pos ho] at h1 ⊢
    cases ha : addO (ldF L.st.now (keyC 1)) (gasU x) with
    | none =>
      exfalso
      unfold addO at ha
      split at ha <;> simp_all
      all_goals omega
    | some u =>
      have hu := (addO_some ha).1
      rw [ha] at h1
      dsimp only at h1 ⊢
      have hle : ¬ w64 L.gasLimit < w64 u := by
        have e : u.toNat = (ldF L.st.now (keyC 1)).toNat + (gasU x).toNat := by rw [hu]; exact u64_add (by omega)
        unfold w64
        omega
      rw [if_neg hle] at h1 ⊢
      split
      · exact .inr (.inl rfl)
      · exact .inl rfl
/-- Preflight against execution. -/
theorem pf_run {c : UInt8} {nn : UInt8 → UInt64} : ∀ (X : List Tx) {n : Nat} {L : PLg} {i : Nat} {gl : UInt64} {er : Vector UInt64 64} {rs : List Receipt}, LI n L → n + X.length < 10000000 → L.open_ = true → L.chain = c → gl.toNat + (ldF L.st.now (keyC 1)).toNat = L.gasLimit.toNat → (∀ a : UInt8, a.toNat < 64 → ldF L.st.now (keyN a) = nn a + erA er a) → ((pfN c nn X i gl er).2 ≠ 0 → (runF L X i rs).1.2 ≠ 0 ∧ (i : Int) ≤ (runF L X i rs).1.1.2 ∧ (runF L X i rs).1.1.2 ≤ (pfN c nn X i gl er).1) ∧ ((pfN c nn X i gl er).2 = 0 → ((runF L X i rs).1.2 = 0 ∨ (runF L X i rs).1.2 = 45 ∨ (runF L X i rs).1.2 = 27 ∨ (runF L X i rs).1.2 = 28 ∨ (runF L X i rs).1.2 = 29 ∨ (runF L X i rs).1.2 = 30 ∨ (runF L X i rs).1.2 = 48))
  | [], _, _, _, _, _, _, _, _, _, _, _, _ => ⟨fun h => absurd rfl h, fun _ => .inl rfl⟩
  | x :: X, n, L, i, gl, er, rs, h, hn, ho, hc, hg, hnn => by
    have hl : (x :: X).length = X.length + 1 := rfl
    rw [hl] at hn
    have hgu := gasU_w x
    have hge := pf_ge c nn (x :: X) i gl er
    -- a refusal here
    have ref : (judR L 0 x).1 ≠ 0 → (runF L (x :: X) i rs).1.2 = (judR L 0 x).1 ∧ (runF L (x :: X) i rs).1.1.2 = (i : Int) := fun hj => by
      unfold runF
      rw [appF_ref hj]
      dsimp only
      rw [if_neg hj]
      exact ⟨rfl, rfl⟩
    by_cases hj : (judR L 0 x).1 = 0
    · -- accepted
      have hJ := (judR_ok hj).1
      have hs : shpF c x = 0 := by rw [← hc]; exact hJ.shp
      have hfr := (shp_ok hs).from_
      obtain ⟨a1, -, -⟩ := acc_lo hJ
      have hgb := hJ.gasb
      have hgl := hJ.gasl
      have e1 : (ldF L.st.now (keyC 1) + gasU x).toNat = (ldF L.st.now (keyC 1)).toNat + (gasU x).toNat := u64_add (by omega)
      have hgl' : (ldF L.st.now (keyC 1)).toNat + (gasU x).toNat ≤ L.gasLimit.toNat := by
        unfold w64 at hgl
        omega
      have hng : ¬ w64 gl < gasF x := by
        rw [hgu]
        unfold w64
        omega
      have hw : x.nonce = nn x.from_ + erA er x.from_ := by rw [hJ.non]; exact hnn _ hfr
      have h1 := h.evt (Evt.app L x hJ hj) (by omega)
      have hr : runF L (x :: X) i rs = runF (accL L x) X (i + 1) (rs ++ [appR L x]) := by
        show (if (appF L x).2.code = 0 then runF (appF L x).1 X (i + 1) (rs ++ [(appF L x).2]) else _) = _
        rw [appF_acc hj]
        dsimp only
        rw [if_pos (show (appR L x).code = 0 from rcpF_code L x)]
      have hp : pfN c nn (x :: X) i gl er = pfN c nn X (i + 1) (gl - gasU x) (erS er x.from_) := by
        show (if shpF c x = 0 then _ else _) = _
        rw [if_pos hs, if_neg hng, if_neg (by rw [hw]; omega), if_neg (by rw [hw]; omega)]
      obtain ⟨s1, s2, s3, s4, s5, s6, s7, s8⟩ := enactF_same L x (plnH L 0 x) (purL L.st.now x)
      have e3 : (accL L x).open_ = L.open_ := s3
      have e4 : (accL L x).gasLimit = L.gasLimit := s4
      have e5 : (accL L x).chain = L.chain := s1
      have ih := pf_run (c := c) (nn := nn) X (i := i + 1) (gl := gl - gasU x) (er := erS er x.from_) (rs := rs ++ [appR L x]) h1 (by omega) (by rw [e3]; exact ho) (by rw [e5]; exact hc) (by
        rw [a1, e1, e4, u64_sub (by omega)]
        omega) (fun a ha => by
        rw [acc_N hJ, erS_at er hfr]
        by_cases e : a = x.from_
        · rw [if_pos e, if_pos e, hnn a ha, e, UInt64.add_assoc]
        · rw [if_neg e, if_neg e, hnn a ha])
      rw [hr, hp]
      refine ⟨fun q => ?_, ih.2⟩
      obtain ⟨q1, q2, q3⟩ := ih.1 q
      exact ⟨q1, by omega, q3⟩
    · obtain ⟨r1, r2⟩ := ref hj
      rw [r1, r2]
      refine ⟨fun q => ⟨hj, Int.le_refl _, hge q⟩, fun q => ?_⟩
      -- Preflight passed it
      have hsh : shpF c x = 0 := by
        rcases Decidable.em (shpF c x = 0) with e | e
        · exact e
        · unfold pfN at q
          rw [if_neg e] at q
          exact absurd q e
      unfold pfN at q
      rw [if_pos hsh] at q
      have g1 : ¬ w64 gl < gasF x := fun e => by rw [if_pos e] at q; cases q
      rw [if_neg g1] at q
      have g2 : ¬ w64 x.nonce < w64 (nn x.from_ + erA er x.from_) := fun e => by rw [if_pos e] at q; cases q
      rw [if_neg g2] at q
      have g3 : ¬ w64 (nn x.from_ + erA er x.from_) < w64 x.nonce := fun e => by rw [if_pos e] at q; cases q
      have hfr := (shp_ok hsh).from_
      refine jud_pf h (by omega) x (by rw [hc]; exact hsh) ho ?_ ?_
      · rw [hgu] at g1
        unfold w64 at g1
        omega
      · rw [hnn _ hfr]
        apply w64_inj
        omega
theorem pf_rn (c : UInt8) (nn : UInt8 → UInt64) : ∀ (X : List Tx) (i : Nat) (gl : UInt64) (er : Vector UInt64 64), (pfN c nn (rnN nn X er) i gl er).2 ≠ 25 ∧ (pfN c nn (rnN nn X er) i gl er).2 ≠ 26
  | [], _, _, _ => ⟨by show (0 : Int) ≠ 25; decide, by show (0 : Int) ≠ 26; decide⟩
  | x :: X, i, gl, er => by
    unfold rnN
    by_cases hf : 64 ≤ x.from_.toNat
    · rw [if_pos hf]
      unfold pfN
      have hs : shpF c x ≠ 0 := fun e => by have := (shp_ok e).from_; omega
      rw [if_neg hs]
      have := shp_rng c x
      dsimp only
      omega
    · rw [if_neg hf]
      unfold pfN
      have hr := shp_rng c { x with nonce := nn x.from_ + erA er x.from_ }
      split
      · split
        · exact ⟨by dsimp only; omega, by dsimp only; omega⟩
        · rw [if_neg (by show ¬ w64 (nn x.from_ + erA er x.from_) < w64 (nn x.from_ + erA er x.from_); omega), if_neg (by show ¬ w64 (nn x.from_ + erA er x.from_) < w64 (nn x.from_ + erA er x.from_); omega)]
          exact pf_rn c nn X (i + 1) _ _
      · dsimp only
        omega
theorem cb_rng (L : PLg) (n : Nat) : cbF L n = 0 ∨ cbF L n = 36 ∨ cbF L n = 37 ∨ cbF L n = 34 ∨ cbF L n = 23 := by
  unfold cbF
  repeat' split
  all_goals omega
/-- PreflightIsSound, plainly: the batch. -/
theorem pf_law {n : Nat} {L : PLg} {X : List Tx} (h : LI n L) (hn : n + X.length < 10000000) : ((pfF L X).2 ≠ 0 ∧ (pfF L X).1 < 0 ∧ (batF false L X).1.2 = (pfF L X).2 ∧ (batF false L X).1.1.2 = -1) ∨ ((pfF L X).2 ≠ 0 ∧ 0 ≤ (pfF L X).1 ∧ (batF false L X).1.2 ≠ 0 ∧ 0 ≤ (batF false L X).1.1.2 ∧ (batF false L X).1.1.2 ≤ (pfF L X).1) ∨ ((pfF L X).2 = 0 ∧ ((batF false L X).1.2 = 0 ∨ (batF false L X).1.2 = 45 ∨ (batF false L X).1.2 = 27 ∨ (batF false L X).1.2 = 28 ∨ (batF false L X).1.2 = 29 ∨ (batF false L X).1.2 = 30 ∨ (batF false L X).1.2 = 48)) := by
  unfold pfF batF
  by_cases h0 : cbF L X.length = 0
  · rw [if_pos h0, if_pos h0]
    obtain ⟨hn0, ho, hs, hck⟩ := ckF_ok h0
    have hLI : LI n { L with st := (ckF L.st).2 } := h.evt (Evt.ck L ho hs) (by omega)
    obtain ⟨L0, hL0⟩ : ∃ L0, L0 = { L with st := (ckF L.st).2 } := ⟨_, rfl⟩
    have e1 : L0.st.now = L.st.now := by rw [hL0]; show (ckF L.st).2.now = _; rw [hck]
    have e2 : L0.open_ = L.open_ := by rw [hL0]
    have e3 : L0.chain = L.chain := by rw [hL0]
    have e4 : L0.gasLimit = L.gasLimit := by rw [hL0]
    rw [← hL0] at hLI ⊢
    have hgs := h.now.gas
    have key := pf_run (c := L.chain) (nn := fun a => ldF L.st.now (keyN a)) X (i := 0) (gl := L.gasLimit - ldF L.st.now (keyC 1)) (er := Vector.replicate 64 0) (rs := []) hLI hn (by rw [e2]; exact ho) e3 (by
      rw [e1, e4, u64_sub hgs]
      omega) (fun a ha => by
      rw [e1]
      unfold erA
      simp [ha])
    have hge := pf_ge L.chain (fun a => ldF L.st.now (keyN a)) X 0 (L.gasLimit - ldF L.st.now (keyC 1)) (Vector.replicate 64 0)
    obtain ⟨p, hp⟩ : ∃ p, p = pfN L.chain (fun a => ldF L.st.now (keyN a)) X 0 (L.gasLimit - ldF L.st.now (keyC 1)) (Vector.replicate 64 0) := ⟨_, rfl⟩
    rw [← hp] at key hge ⊢
    by_cases hp0 : p.2 = 0
    · right; right
      refine ⟨hp0, ?_⟩
      have := key.2 hp0
      by_cases hr : (runF L0 X 0 []).1.2 = 0
      · rw [if_pos hr]; exact .inl rfl
      · rw [if_neg hr]; exact this
    · right; left
      obtain ⟨q1, q2, q3⟩ := key.1 hp0
      rw [if_neg q1]
      exact ⟨hp0, hge hp0, q1, q2, q3⟩
  · rw [if_neg h0, if_neg h0]
    exact .inl ⟨h0, by dsimp only; omega, rfl, rfl⟩
theorem pf_law2 (L : PLg) (X : List Tx) : (pfF L (rnF L X)).2 ≠ 25 ∧ (pfF L (rnF L X)).2 ≠ 26 := by
  unfold pfF
  split
  · exact pf_rn _ _ X 0 _ _
  · have := cb_rng L (rnF L X).length
    dsimp only
    omega
end Go.Proofs.Qxb6500786aGreat
