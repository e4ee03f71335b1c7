import Derived.DeepKeys2
import Derived.Test.Qxb6500786aGreatWp
import Derived.Test.Qxb6500786aGreatQo

import Derived.StillTailTactics
import Derived.Deep.QuietTactic
import Derived.BigQuiet
import Derived.Deep.RegionHeld
import Derived.Deep.CutRange
import Derived.Laws.ResultCell
import Derived.Laws.Rows
import Derived.DeepKeys
import Derived.DataBytes
import Derived.Laws.StructEq
import Derived.Laws.AppendOwn
import Derived.Laws.MakeOwn
import Derived.Lib.AppendStr
set_option linter.unusedSimpArgs false
set_option linter.unusedVariables false
namespace Go.Proofs.Qxb6500786aGreat
open Go.RowKit Go.Blk
attribute [local go_sem ↓] execOp_load execOp_store execOp_alloc
attribute [local go_sem] Tryz.ld24 Tryz.st24 Tryz.ld36 Tryz.st36 Tryz.ld28 Tryz.st28 Tryz.ld32 Tryz.st32 Tryz.ld33 Tryz.st33 Tryz.ld34 Tryz.st34 Tryz.ld5 Tryz.st5 Tryz.ld31 Tryz.st31 Tryz.ld30 Tryz.st30 Tryz.ld41 Tryz.st41 Tryz.ld44 Tryz.st44 Tryz.ld4 Tryz.st4 Tryz.ld173 Tryz.st173 Tryz.ld174 Tryz.st174 Tryz.ld95 Tryz.st95 Tryz.ld45 Tryz.st45 Tryz.ld207 Tryz.st207 Tryz.ld3 Tryz.st3 Tryz.ld189 Tryz.st189 Tryz.ld2 Tryz.st2 Tryz.ld9 Tryz.st9 Tryz.ld12 Tryz.st12 Tryz.ld21 Tryz.st21 Tryz.ld22 Tryz.st22 Tryz.ld46 Tryz.st46 Tryz.ld92 Tryz.st92 Tryz.ld94 Tryz.st94 Tryz.ld96 Tryz.st96 Tryz.ld97 Tryz.st97 Tryz.ld105 Tryz.st105 Tryz.ld117 Tryz.st117 Tryz.ld122 Tryz.st122 Tryz.ld123 Tryz.st123 Tryz.ld133 Tryz.st133 Tryz.ld155 Tryz.st155 Tryz.ld163 Tryz.st163 Tryz.ld190 Tryz.st190 Tryz.ld197 Tryz.st197 Tryz.ld201 Tryz.st201 Tryz.ld202 Tryz.st202 Tryz.ld209 Tryz.st209 Tryz.ld216 Tryz.st216 Tryz.ld230 Tryz.st230 Tryz.ld238 Tryz.st238 Tryz.ld242 Tryz.st242 Tryz.ld251 Tryz.st251 Tryz.ld260 Tryz.st260 Tryz.ld286 Tryz.st286 Tryz.ld292 Tryz.st292 Tryz.ld298 Tryz.st298 Tryz.ld309 Tryz.st309 Tryz.ld35 Tryz.st35 Tryz.ld48 Tryz.st48 Tryz.ld47 Tryz.st47 Tryz.ld79 Tryz.st79 Tryz.ld177 Tryz.st177 Tryz.ld180 Tryz.st180 Tryz.ld231 Tryz.st231 Tryz.ld232 Tryz.st232 Tryz.ld26 Tryz.st26 Tryz.ld38 Tryz.st38 Tryz.ld40 Tryz.st40 Tryz.ld43 Tryz.st43 Tryz.ld50 Tryz.st50 Tryz.ld52 Tryz.st52 Tryz.ld54 Tryz.st54 Tryz.ld81 Tryz.st81 Tryz.ld112 Tryz.st112 Tryz.ld120 Tryz.st120 Tryz.ld176 Tryz.st176 Tryz.ld179 Tryz.st179 Tryz.ld182 Tryz.st182 Tryz.ld184 Tryz.st184 Tryz.ld234 Tryz.st234 Tryz.ld236 Tryz.st236 Tryz.ld240 Tryz.st240 Tryz.ld246 Tryz.st246 Tryz.ld249 Tryz.st249 Tryz.al35 Tryz.al48 Tryz.al47 Tryz.al79 Tryz.al177 Tryz.al180 Tryz.al231 Tryz.al232 Tryz.al26 Tryz.al38 Tryz.al40 Tryz.al43 Tryz.al50 Tryz.al52 Tryz.al54 Tryz.al81 Tryz.al112 Tryz.al120 Tryz.al176 Tryz.al179 Tryz.al182 Tryz.al184 Tryz.al234 Tryz.al236 Tryz.al240 Tryz.al246 Tryz.al249
attribute [local go_sem] Player.length_enc Player.ok_enc Player.all_get Player.all_set Player.hand_get Player.hand_set Player.aside_get Player.aside_set Message.length_enc Message.ok_enc Message.all_get Message.all_set Message.kind_get Message.kind_set Message.from__get Message.from__set Message.to__get Message.to__set Message.sender_get Message.sender_set Message.receiver_get Message.receiver_set Message.seq_get Message.seq_set Message.token_get Message.token_set Message.amount_get Message.amount_set Message.size_get Message.size_set Message.payload_get Message.payload_set Tx.length_enc Tx.ok_enc Tx.all_get Tx.all_set Tx.kind_get Tx.kind_set Tx.chain_get Tx.chain_set Tx.from__get Tx.from__set Tx.nonce_get Tx.nonce_set Tx.fee_get Tx.fee_set Tx.to__get Tx.to__set Tx.dest_get Tx.dest_set Tx.token_get Tx.token_set Tx.amount_get Tx.amount_set Tx.size_get Tx.size_set Tx.payload_get Tx.payload_set Tx.msg_get Tx.msg_set Tx.msg_kind_get Tx.msg_kind_set Tx.msg_from__get Tx.msg_from__set Tx.msg_to__get Tx.msg_to__set Tx.msg_sender_get Tx.msg_sender_set Tx.msg_receiver_get Tx.msg_receiver_set Tx.msg_seq_get Tx.msg_seq_set Tx.msg_token_get Tx.msg_token_set Tx.msg_amount_get Tx.msg_amount_set Tx.msg_size_get Tx.msg_size_set Tx.msg_payload_get Tx.msg_payload_set GOp.length_enc GOp.ok_enc GOp.all_get GOp.all_set GOp.kind_get GOp.kind_set GOp.tx_get GOp.tx_set GOp.txs_get GOp.txs_set GOp.gas_get GOp.gas_set GOp.acct_get GOp.acct_set GOp.token_get GOp.token_set GOp.chain_get GOp.chain_set GOp.seq_get GOp.seq_set GOp.tx_kind_get GOp.tx_kind_set GOp.tx_chain_get GOp.tx_chain_set GOp.tx_from__get GOp.tx_from__set GOp.tx_nonce_get GOp.tx_nonce_set GOp.tx_fee_get GOp.tx_fee_set GOp.tx_to__get GOp.tx_to__set GOp.tx_dest_get GOp.tx_dest_set GOp.tx_token_get GOp.tx_token_set GOp.tx_amount_get GOp.tx_amount_set GOp.tx_size_get GOp.tx_size_set GOp.tx_payload_get GOp.tx_payload_set GOp.tx_msg_get GOp.tx_msg_set GOp.tx_msg_kind_get GOp.tx_msg_kind_set GOp.tx_msg_from__get GOp.tx_msg_from__set GOp.tx_msg_to__get GOp.tx_msg_to__set GOp.tx_msg_sender_get GOp.tx_msg_sender_set GOp.tx_msg_receiver_get GOp.tx_msg_receiver_set GOp.tx_msg_seq_get GOp.tx_msg_seq_set GOp.tx_msg_token_get GOp.tx_msg_token_set GOp.tx_msg_amount_get GOp.tx_msg_amount_set GOp.tx_msg_size_get GOp.tx_msg_size_set GOp.tx_msg_payload_get GOp.tx_msg_payload_set Summary.length_enc Summary.ok_enc Summary.all_get Summary.all_set Summary.height_get Summary.height_set Summary.txs_get Summary.txs_set Summary.gas_get Summary.gas_set Summary.fees_get Summary.fees_set Summary.sent_get Summary.sent_set Summary.took_get Summary.took_set Summary.minted_get Summary.minted_set Summary.burned_get Summary.burned_set Summary.root_get Summary.root_set Detail.length_enc Detail.ok_enc Detail.all_get Detail.all_set Detail.code_get Detail.code_set Detail.have__get Detail.have__set Detail.need_get Detail.need_set Slot.length_enc Slot.ok_enc Slot.all_get Slot.all_set Slot.nonce_get Slot.nonce_set Slot.balances_get Slot.balances_set Tree.length_enc Tree.ok_enc Tree.all_get Tree.all_set Tree.leaves_get Tree.leaves_set Mark.length_enc Mark.ok_enc Mark.all_get Mark.all_set Mark.from__get Mark.from__set Mark.seq_get Mark.seq_set Receipt.length_enc Receipt.ok_enc Receipt.all_get Receipt.all_set Receipt.code_get Receipt.code_set Receipt.hash_get Receipt.hash_set Receipt.index_get Receipt.index_set Receipt.gas_get Receipt.gas_set Receipt.fee_get Receipt.fee_set Receipt.hasSent_get Receipt.hasSent_set Receipt.sent_get Receipt.sent_set Receipt.hasTook_get Receipt.hasTook_set Receipt.took_get Receipt.took_set Receipt.sent_kind_get Receipt.sent_kind_set Receipt.sent_from__get Receipt.sent_from__set Receipt.sent_to__get Receipt.sent_to__set Receipt.sent_sender_get Receipt.sent_sender_set Receipt.sent_receiver_get Receipt.sent_receiver_set Receipt.sent_seq_get Receipt.sent_seq_set Receipt.sent_token_get Receipt.sent_token_set Receipt.sent_amount_get Receipt.sent_amount_set Receipt.sent_size_get Receipt.sent_size_set Receipt.sent_payload_get Receipt.sent_payload_set Receipt.took_kind_get Receipt.took_kind_set Receipt.took_from__get Receipt.took_from__set Receipt.took_to__get Receipt.took_to__set Receipt.took_sender_get Receipt.took_sender_set Receipt.took_receiver_get Receipt.took_receiver_set Receipt.took_seq_get Receipt.took_seq_set Receipt.took_token_get Receipt.took_token_set Receipt.took_amount_get Receipt.took_amount_set Receipt.took_size_get Receipt.took_size_set Receipt.took_payload_get Receipt.took_payload_set Store.length_enc Store.ok_enc Store.all_get Store.all_set Store.now_get Store.now_set Store.saved_get Store.saved_set GState.length_enc GState.ok_enc GState.all_get GState.all_set GState.kv_get GState.kv_set GState.tree_get GState.tree_set GState.stale_get GState.stale_set GState.touched_get GState.touched_set GState.kv_now_get GState.kv_now_set GState.kv_saved_get GState.kv_saved_set GState.tree_leaves_get GState.tree_leaves_set History.length_enc History.ok_enc History.all_get History.all_set History.ring_get History.ring_set History.closed_get History.closed_set Ledger.length_enc Ledger.ok_enc Ledger.all_get Ledger.all_set Ledger.chain_get Ledger.chain_set Ledger.st_get Ledger.st_set Ledger.height_get Ledger.height_set Ledger.open__get Ledger.open__set Ledger.gasLimit_get Ledger.gasLimit_set Ledger.past_get Ledger.past_set Ledger.begun_get Ledger.begun_set Ledger.sent_get Ledger.sent_set Ledger.took_get Ledger.took_set Ledger.receipts_get Ledger.receipts_set Ledger.st_kv_get Ledger.st_kv_set Ledger.st_tree_get Ledger.st_tree_set Ledger.st_stale_get Ledger.st_stale_set Ledger.st_touched_get Ledger.st_touched_set Ledger.st_kv_now_get Ledger.st_kv_now_set Ledger.st_kv_saved_get Ledger.st_kv_saved_set Ledger.st_tree_leaves_get Ledger.st_tree_leaves_set Ledger.past_ring_get Ledger.past_ring_set Ledger.past_closed_get Ledger.past_closed_set Ledger.begun_kv_get Ledger.begun_kv_set Ledger.begun_tree_get Ledger.begun_tree_set Ledger.begun_stale_get Ledger.begun_stale_set Ledger.begun_touched_get Ledger.begun_touched_set Ledger.begun_kv_now_get Ledger.begun_kv_now_set Ledger.begun_kv_saved_get Ledger.begun_kv_saved_set Ledger.begun_tree_leaves_get Ledger.begun_tree_leaves_set Purse.length_enc Purse.ok_enc Purse.all_get Purse.all_set Purse.st_get Purse.st_set Purse.n_get Purse.n_set Purse.account_get Purse.account_set Purse.token_get Purse.token_set Purse.amount_get Purse.amount_set Plan.length_enc Plan.ok_enc Plan.all_get Plan.all_set Plan.purse_get Plan.purse_set Plan.nonce_get Plan.nonce_set Plan.gasUsed_get Plan.gasUsed_set Plan.fees_get Plan.fees_set Plan.hasSupply_get Plan.hasSupply_set Plan.token_get Plan.token_set Plan.supply_get Plan.supply_set Plan.flowAt_get Plan.flowAt_set Plan.flow_get Plan.flow_set Plan.receipt_get Plan.receipt_set Plan.purse_st_get Plan.purse_st_set Plan.purse_n_get Plan.purse_n_set Plan.purse_account_get Plan.purse_account_set Plan.purse_token_get Plan.purse_token_set Plan.purse_amount_get Plan.purse_amount_set Plan.receipt_code_get Plan.receipt_code_set Plan.receipt_hash_get Plan.receipt_hash_set Plan.receipt_index_get Plan.receipt_index_set Plan.receipt_gas_get Plan.receipt_gas_set Plan.receipt_fee_get Plan.receipt_fee_set Plan.receipt_hasSent_get Plan.receipt_hasSent_set Plan.receipt_sent_get Plan.receipt_sent_set Plan.receipt_hasTook_get Plan.receipt_hasTook_set Plan.receipt_took_get Plan.receipt_took_set Plan.receipt_sent_kind_get Plan.receipt_sent_kind_set Plan.receipt_sent_from__get Plan.receipt_sent_from__set Plan.receipt_sent_to__get Plan.receipt_sent_to__set Plan.receipt_sent_sender_get Plan.receipt_sent_sender_set Plan.receipt_sent_receiver_get Plan.receipt_sent_receiver_set Plan.receipt_sent_seq_get Plan.receipt_sent_seq_set Plan.receipt_sent_token_get Plan.receipt_sent_token_set Plan.receipt_sent_amount_get Plan.receipt_sent_amount_set Plan.receipt_sent_size_get Plan.receipt_sent_size_set Plan.receipt_sent_payload_get Plan.receipt_sent_payload_set Plan.receipt_took_kind_get Plan.receipt_took_kind_set Plan.receipt_took_from__get Plan.receipt_took_from__set Plan.receipt_took_to__get Plan.receipt_took_to__set Plan.receipt_took_sender_get Plan.receipt_took_sender_set Plan.receipt_took_receiver_get Plan.receipt_took_receiver_set Plan.receipt_took_seq_get Plan.receipt_took_seq_set Plan.receipt_took_token_get Plan.receipt_took_token_set Plan.receipt_took_amount_get Plan.receipt_took_amount_set Plan.receipt_took_size_get Plan.receipt_took_size_set Plan.receipt_took_payload_get Plan.receipt_took_payload_set Move.length_enc Move.ok_enc Move.all_get Move.all_set Move.account_get Move.account_set Move.token_get Move.token_set Move.down_get Move.down_set Move.amount_get Move.amount_set Books.length_enc Books.ok_enc Books.all_get Books.all_set Books.sums_get Books.sums_set Books.stored_get Books.stored_set Books.marks_get Books.marks_set Pair.length_enc Pair.ok_enc Pair.all_get Pair.all_set Pair.key_get Pair.key_set Pair.value_get Pair.value_set
attribute [local go_sem] size_put size_ext blk_put free_put blk_alloc free_alloc blk_drew free_drew blk_ext free_ext lookOr_some putOr_some segAt_some cellAt_some storeIn_some put_put put_alloc_new length_arr ok_arr_u8 ok_arr_u32 ok_arr_u64 ok_arr_i64 ok_arr_sl cellsV_agg cellsV_int cellsV_bool cellsV_string cellsV_pointer cellsV_slice cellsV_sl ok_int ok_bool ok_string ok_pointer ok_slice ok_sl toList_arr seg_arr set_arr nth_splice nth_splice0 seg_splice seg_splice0 splice_splice splice_splice0 length_splice_if
attribute [local go_sem ↓] execOp_box
attribute [local go_sem] box_run nth_arr_u8 put_arr_u8 blk_drewN free_drewN put_drewN blk_raw free_raw
/-- The guards against the impossible do not speak. -/
theorem crd_ok {now : List Pair} {l : List PE} {a t : UInt8} {x : UInt64} {B : UInt8 → UInt8 → UInt64} (hB : pvF now l = B) (h : (B a t).toNat + x.toNat ≤ 9223372036854775807) : (crdR now l a t x).1 = true := (crdR_iff now l a t x).2 (by rw [hB]; exact h)
theorem deb_pvF {now : List Pair} {l : List PE} {a t : UInt8} {x : UInt64} {B : UInt8 → UInt8 → UInt64} (hB : pvF now l = B) (h : (debR now l a t x).1 = true) : pvF now (debR now l a t x).2 = debB B a t x ∧ x.toNat ≤ (B a t).toNat := by
  have h1 := debR_pv h
  have h2 := (debR_iff now l a t x).1 h
  rw [hB] at h1 h2
  exact ⟨h1, h2.2⟩
theorem crd_pvF {now : List Pair} {l : List PE} {a t : UInt8} {x : UInt64} {B : UInt8 → UInt8 → UInt64} (hB : pvF now l = B) (h : (crdR now l a t x).1 = true) : pvF now (crdR now l a t x).2 = crdB B a t x := by
  have h1 := crdR_pv h
  rw [hB] at h1
  exact h1
theorem pvF_nil (now : List Pair) : pvF now [] = balB now := rfl
/-- In a sound ledger no transaction meets the codes of the impossible. -/
theorem no_fault {n : Nat} {L : PLg} (h : LI n L) (hn : n < 10000000) (x : Tx) : (judR L 0 x).1 ≠ 42 ∧ (judR L 0 x).1 ≠ 43 ∧ (judR L 0 x).1 ≠ 44 := by
  have hS := h.now
  unfold judR
  by_cases hsh : shpF L.chain x = 0
  rotate_left 1
  · rw [if_neg hsh]
    have := shp_rng L.chain x
    dsimp only
    omega
  rw [if_pos hsh]
  by_cases had : (admF L x Plan.zero).1 = 0
  rotate_left 1
  · rw [if_neg had]
    have : (admF L x Plan.zero).1 = 0 ∨ (admF L x Plan.zero).1 = 23 ∨ (admF L x Plan.zero).1 = 24 ∨ (admF L x Plan.zero).1 = 45 := by
      unfold admF
      repeat' split
      all_goals first | exact .inl rfl | exact .inr (.inl rfl) | exact .inr (.inr (.inl rfl)) | exact .inr (.inr (.inr rfl))
    omega
  rw [if_pos had]
  by_cases hsn : (sndR L 0 x (admF L x Plan.zero).2).1 = 0
  rotate_left 1
  · rw [if_neg hsn]
    have : (sndR L 0 x (admF L x Plan.zero).2).1 = 0 ∨ (sndR L 0 x (admF L x Plan.zero).2).1 = 25 ∨ (sndR L 0 x (admF L x Plan.zero).2).1 = 26 ∨ (sndR L 0 x (admF L x Plan.zero).2).1 = 27 := by
      unfold sndR
      split
      · exact .inr (.inl rfl)
      · split
        · exact .inr (.inr (.inl rfl))
        · split
          · rename_i hno
            exfalso
            have hb := hS.non x.from_
            unfold addO at hno
            split at hno <;> first | (cases hno; done) | skip
            all_goals
              have e1 : (1 : UInt64).toNat = 1 := rfl
              simp_all
              try omega
          · dsimp only
            split
            · exact .inl rfl
            · exact .inr (.inr (.inr rfl))
    omega
  rw [if_pos hsn]
  obtain ⟨-, -, hdf, -⟩ := sndR_ok2 hsn
  obtain ⟨p1, hfe⟩ := deb_pvF (pvF_nil L.st.now) hdf
  have hso := shp_ok hsh
  have hsf := hso.from_
  -- balances behind the fee
  have tf : ∀ t, tot (debB (balB L.st.now) x.from_ 0 x.fee) t + (if (0 : UInt8) = t then x.fee.toNat else 0) = tot (balB L.st.now) t := fun t => tot_deb hsf hfe t
  have sm : ∀ t : UInt8, t.toNat < 4 → tot (balB L.st.now) t ≤ 9223372036854775807 := fun t ht => by rw [hS.sum t ht]; exact hS.sup t ht
  have s0 := sm 0 (by decide)
  have t0 := tf 0
  rw [if_pos rfl] at t0
  obtain ⟨B1, hB1⟩ : ∃ B1, B1 = debB (balB L.st.now) x.from_ 0 x.fee := ⟨_, rfl⟩
  have pf : pvF L.st.now (feeL L.st.now x) = B1 := by rw [hB1]; exact p1
  rw [← hB1] at tf t0
  clear p1
  have hkd := shp_kind hsh
  -- what the kind leaves: its code, and room for the fee
  have key : ∀ P, ((kndR L.st.now L.chain 0 (feeL L.st.now x) x P).1 ≠ 42 ∧ (kndR L.st.now L.chain 0 (feeL L.st.now x) x P).1 ≠ 43 ∧ (kndR L.st.now L.chain 0 (feeL L.st.now x) x P).1 ≠ 44) ∧ ((kndR L.st.now L.chain 0 (feeL L.st.now x) x P).1 = 0 → (crdR L.st.now (kndL L.st.now (feeL L.st.now x) x) 0 0 x.fee).1 = true) := by
    intro P
    unfold kndR kndL
    by_cases k1 : w8 x.kind = 1
    · rw [if_pos k1, if_pos k1]
      obtain ⟨hto, htk⟩ := hso.trn k1
      unfold trnR
      by_cases hd : (debR L.st.now (feeL L.st.now x) x.from_ x.token x.amount).1 = true
      · rw [if_pos hd]
        obtain ⟨p2, ha2⟩ := deb_pvF pf hd
        have t2 := fun t => tot_deb hsf ha2 t
        obtain ⟨B2, hB2⟩ : ∃ B2, B2 = debB B1 x.from_ x.token x.amount := ⟨_, rfl⟩
        rw [← hB2] at p2 t2
        have hge := tot_ge B2 x.token hto
        have t2k := t2 x.token
        rw [if_pos rfl] at t2k
        have tfk := tf x.token
        have smk := sm x.token htk
        have hcr : (crdR L.st.now (debR L.st.now (feeL L.st.now x) x.from_ x.token x.amount).2 x.to_ x.token x.amount).1 = true := crd_ok p2 (by omega)
        rw [if_pos hcr]
        refine ⟨by dsimp only; omega, fun _ => ?_⟩
        have p3 := crd_pvF p2 hcr
        have t3 := fun t => tot_crd hto (B := B2) (t := x.token) (v := x.amount) (by omega) t
        refine crd_ok p3 ?_
        have hg3 := tot_ge (crdB B2 x.to_ x.token x.amount) 0 (a := 0) (by decide)
        have t30 := t3 0
        have t20 := t2 0
        by_cases e : x.token = 0
        · rw [if_pos e] at t30 t20; omega
        · rw [if_neg e] at t30 t20; omega
      · rw [if_neg hd]
        exact ⟨by dsimp only; omega, fun q => absurd q (by dsimp only; omega)⟩
    rw [if_neg k1, if_neg k1]
    by_cases k2 : w8 x.kind = 2
    · rw [if_pos k2, if_pos k2]
      have htk := hso.brn k2
      unfold brnR
      by_cases hd : (debR L.st.now (feeL L.st.now x) x.from_ x.token x.amount).1 = true
      · rw [if_pos hd]
        obtain ⟨p2, ha2⟩ := deb_pvF pf hd
        have t2 := fun t => tot_deb hsf ha2 t
        have hge1 := tot_ge B1 x.token hsf
        obtain ⟨B2, hB2⟩ : ∃ B2, B2 = debB B1 x.from_ x.token x.amount := ⟨_, rfl⟩
        rw [← hB2] at p2 t2
        have tfk := tf x.token
        have hsu := hS.sum x.token htk
        have hcr0 : (crdR L.st.now (debR L.st.now (feeL L.st.now x) x.from_ x.token x.amount).2 0 0 x.fee).1 = true := by
          refine crd_ok p2 ?_
          have hg3 := tot_ge B2 0 (a := 0) (by decide)
          have t20 := t2 0
          omega
        cases hs : subO (ldF L.st.now (keyS x.token)) x.amount with
        | none =>
          exfalso
          have hsp := hS.sup x.token htk
          have hle : x.amount.toNat ≤ (ldF L.st.now (keyS x.token)).toNat := by
            have : (B1 x.from_ x.token).toNat ≤ tot B1 x.token := hge1
            have : tot B1 x.token ≤ tot (balB L.st.now) x.token := by omega
            omega
          unfold subO at hs
          split at hs <;> simp_all
          all_goals omega
        | some s =>
          dsimp only
          cases ha : addO (ldF L.st.now (keyC (fU 11 x.token))) x.amount with
          | none => exact ⟨by dsimp only; omega, fun q => absurd q (by dsimp only; omega)⟩
          | some f => exact ⟨by dsimp only; omega, fun _ => hcr0⟩
      · rw [if_neg hd]
        exact ⟨by dsimp only; omega, fun q => absurd q (by dsimp only; omega)⟩
    rw [if_neg k2, if_neg k2]
    have base : (crdR L.st.now (feeL L.st.now x) 0 0 x.fee).1 = true := by
      refine crd_ok pf ?_
      have hg := tot_ge B1 0 (a := 0) (by decide)
      omega
    by_cases k4 : w8 x.kind = 4
    · rw [if_pos k4, if_pos k4]
      exact ⟨by show (0 : Int) ≠ 42 ∧ (0 : Int) ≠ 43 ∧ (0 : Int) ≠ 44; omega, fun _ => base⟩
    rw [if_neg k4, if_neg k4]
    by_cases k3 : w8 x.kind = 3
    · rw [if_pos k3, if_pos k3]
      obtain ⟨hrc, htk⟩ := hso.mnt k3
      unfold mntR
      by_cases hm : ldF L.st.now (keyM x.msg.from_ x.msg.seq) ≠ 0
      · rw [if_pos hm]
        exact ⟨by dsimp only; omega, fun q => absurd q (by dsimp only; omega)⟩
      · rw [if_neg hm]
        cases hs : addO (ldF L.st.now (keyS x.msg.token)) x.msg.amount with
        | none => exact ⟨by dsimp only; omega, fun q => absurd q (by dsimp only; omega)⟩
        | some s =>
          dsimp only
          cases ha : addO (ldF L.st.now (keyC (fU 7 x.msg.token))) x.msg.amount with
          | none => exact ⟨by dsimp only; omega, fun q => absurd q (by dsimp only; omega)⟩
          | some f =>
            dsimp only
            have hsa := (addO_some hs).2
            have hsu := hS.sum x.msg.token htk
            have hge := tot_ge B1 x.msg.token hrc
            have tfk := tf x.msg.token
            have hcr : (crdR L.st.now (feeL L.st.now x) x.msg.receiver x.msg.token x.msg.amount).1 = true := crd_ok pf (by omega)
            rw [if_pos hcr]
            refine ⟨by dsimp only; omega, fun _ => ?_⟩
            have p3 := crd_pvF pf hcr
            have t3 := fun t => tot_crd hrc (B := B1) (t := x.msg.token) (v := x.msg.amount) (by omega) t
            refine crd_ok p3 ?_
            have hg3 := tot_ge (crdB B1 x.msg.receiver x.msg.token x.msg.amount) 0 (a := 0) (by decide)
            have t30 := t3 0
            by_cases e : x.msg.token = 0
            · rw [if_pos e] at t30
              rw [e] at hsa hsu
              omega
            · rw [if_neg e] at t30; omega
    · rw [if_neg k3, if_neg k3]
      unfold conR
      by_cases hm : ldF L.st.now (keyM x.msg.from_ x.msg.seq) ≠ 0
      · rw [if_pos hm]
        exact ⟨by dsimp only; omega, fun q => absurd q (by dsimp only; omega)⟩
      · rw [if_neg hm]
        exact ⟨by dsimp only; omega, fun _ => base⟩
  obtain ⟨q1, q2⟩ := key (sndR L 0 x (admF L x Plan.zero).2).2
  by_cases hkn : (kndR L.st.now L.chain 0 (feeL L.st.now x) x (sndR L 0 x (admF L x Plan.zero).2).2).1 = 0
  · rw [if_pos hkn]
    rw [if_pos (q2 hkn)]
    dsimp only
    omega
  · rw [if_neg hkn]
    exact q1
end Go.Proofs.Qxb6500786aGreat
