import Derived.DeepKeys2
import Derived.Test.Qxb6500786aGreatDa
import Derived.Test.Qxb6500786aGreatJb

import Derived.StillTailTactics
import Derived.Deep.QuietTactic
import Derived.BigQuiet
import Derived.Deep.RegionHeld
import Derived.Deep.CutRange
import Derived.Laws.ResultCell
import Derived.Laws.Rows
import Derived.DeepKeys
import Derived.DataBytes
import Derived.Laws.StructEq
import Derived.Laws.AppendOwn
import Derived.Laws.MakeOwn
import Derived.Lib.AppendStr
set_option linter.unusedSimpArgs false
set_option linter.unusedVariables false
namespace Go.Proofs.Qxb6500786aGreat
open Go.RowKit Go.Blk
attribute [local go_sem ↓] execOp_load execOp_store execOp_alloc
attribute [local go_sem] Tryz.ld24 Tryz.st24 Tryz.ld36 Tryz.st36 Tryz.ld28 Tryz.st28 Tryz.ld32 Tryz.st32 Tryz.ld33 Tryz.st33 Tryz.ld34 Tryz.st34 Tryz.ld5 Tryz.st5 Tryz.ld31 Tryz.st31 Tryz.ld30 Tryz.st30 Tryz.ld41 Tryz.st41 Tryz.ld44 Tryz.st44 Tryz.ld4 Tryz.st4 Tryz.ld173 Tryz.st173 Tryz.ld174 Tryz.st174 Tryz.ld95 Tryz.st95 Tryz.ld45 Tryz.st45 Tryz.ld207 Tryz.st207 Tryz.ld3 Tryz.st3 Tryz.ld189 Tryz.st189 Tryz.ld2 Tryz.st2 Tryz.ld9 Tryz.st9 Tryz.ld12 Tryz.st12 Tryz.ld21 Tryz.st21 Tryz.ld22 Tryz.st22 Tryz.ld46 Tryz.st46 Tryz.ld92 Tryz.st92 Tryz.ld94 Tryz.st94 Tryz.ld96 Tryz.st96 Tryz.ld97 Tryz.st97 Tryz.ld105 Tryz.st105 Tryz.ld117 Tryz.st117 Tryz.ld122 Tryz.st122 Tryz.ld123 Tryz.st123 Tryz.ld133 Tryz.st133 Tryz.ld155 Tryz.st155 Tryz.ld163 Tryz.st163 Tryz.ld190 Tryz.st190 Tryz.ld197 Tryz.st197 Tryz.ld201 Tryz.st201 Tryz.ld202 Tryz.st202 Tryz.ld209 Tryz.st209 Tryz.ld216 Tryz.st216 Tryz.ld230 Tryz.st230 Tryz.ld238 Tryz.st238 Tryz.ld242 Tryz.st242 Tryz.ld251 Tryz.st251 Tryz.ld260 Tryz.st260 Tryz.ld286 Tryz.st286 Tryz.ld292 Tryz.st292 Tryz.ld298 Tryz.st298 Tryz.ld309 Tryz.st309 Tryz.ld35 Tryz.st35 Tryz.ld48 Tryz.st48 Tryz.ld47 Tryz.st47 Tryz.ld79 Tryz.st79 Tryz.ld177 Tryz.st177 Tryz.ld180 Tryz.st180 Tryz.ld231 Tryz.st231 Tryz.ld232 Tryz.st232 Tryz.ld26 Tryz.st26 Tryz.ld38 Tryz.st38 Tryz.ld40 Tryz.st40 Tryz.ld43 Tryz.st43 Tryz.ld50 Tryz.st50 Tryz.ld52 Tryz.st52 Tryz.ld54 Tryz.st54 Tryz.ld81 Tryz.st81 Tryz.ld112 Tryz.st112 Tryz.ld120 Tryz.st120 Tryz.ld176 Tryz.st176 Tryz.ld179 Tryz.st179 Tryz.ld182 Tryz.st182 Tryz.ld184 Tryz.st184 Tryz.ld234 Tryz.st234 Tryz.ld236 Tryz.st236 Tryz.ld240 Tryz.st240 Tryz.ld246 Tryz.st246 Tryz.ld249 Tryz.st249 Tryz.al35 Tryz.al48 Tryz.al47 Tryz.al79 Tryz.al177 Tryz.al180 Tryz.al231 Tryz.al232 Tryz.al26 Tryz.al38 Tryz.al40 Tryz.al43 Tryz.al50 Tryz.al52 Tryz.al54 Tryz.al81 Tryz.al112 Tryz.al120 Tryz.al176 Tryz.al179 Tryz.al182 Tryz.al184 Tryz.al234 Tryz.al236 Tryz.al240 Tryz.al246 Tryz.al249
attribute [local go_sem] Player.length_enc Player.ok_enc Player.all_get Player.all_set Player.hand_get Player.hand_set Player.aside_get Player.aside_set Message.length_enc Message.ok_enc Message.all_get Message.all_set Message.kind_get Message.kind_set Message.from__get Message.from__set Message.to__get Message.to__set Message.sender_get Message.sender_set Message.receiver_get Message.receiver_set Message.seq_get Message.seq_set Message.token_get Message.token_set Message.amount_get Message.amount_set Message.size_get Message.size_set Message.payload_get Message.payload_set Tx.length_enc Tx.ok_enc Tx.all_get Tx.all_set Tx.kind_get Tx.kind_set Tx.chain_get Tx.chain_set Tx.from__get Tx.from__set Tx.nonce_get Tx.nonce_set Tx.fee_get Tx.fee_set Tx.to__get Tx.to__set Tx.dest_get Tx.dest_set Tx.token_get Tx.token_set Tx.amount_get Tx.amount_set Tx.size_get Tx.size_set Tx.payload_get Tx.payload_set Tx.msg_get Tx.msg_set Tx.msg_kind_get Tx.msg_kind_set Tx.msg_from__get Tx.msg_from__set Tx.msg_to__get Tx.msg_to__set Tx.msg_sender_get Tx.msg_sender_set Tx.msg_receiver_get Tx.msg_receiver_set Tx.msg_seq_get Tx.msg_seq_set Tx.msg_token_get Tx.msg_token_set Tx.msg_amount_get Tx.msg_amount_set Tx.msg_size_get Tx.msg_size_set Tx.msg_payload_get Tx.msg_payload_set GOp.length_enc GOp.ok_enc GOp.all_get GOp.all_set GOp.kind_get GOp.kind_set GOp.tx_get GOp.tx_set GOp.txs_get GOp.txs_set GOp.gas_get GOp.gas_set GOp.acct_get GOp.acct_set GOp.token_get GOp.token_set GOp.chain_get GOp.chain_set GOp.seq_get GOp.seq_set GOp.tx_kind_get GOp.tx_kind_set GOp.tx_chain_get GOp.tx_chain_set GOp.tx_from__get GOp.tx_from__set GOp.tx_nonce_get GOp.tx_nonce_set GOp.tx_fee_get GOp.tx_fee_set GOp.tx_to__get GOp.tx_to__set GOp.tx_dest_get GOp.tx_dest_set GOp.tx_token_get GOp.tx_token_set GOp.tx_amount_get GOp.tx_amount_set GOp.tx_size_get GOp.tx_size_set GOp.tx_payload_get GOp.tx_payload_set GOp.tx_msg_get GOp.tx_msg_set GOp.tx_msg_kind_get GOp.tx_msg_kind_set GOp.tx_msg_from__get GOp.tx_msg_from__set GOp.tx_msg_to__get GOp.tx_msg_to__set GOp.tx_msg_sender_get GOp.tx_msg_sender_set GOp.tx_msg_receiver_get GOp.tx_msg_receiver_set GOp.tx_msg_seq_get GOp.tx_msg_seq_set GOp.tx_msg_token_get GOp.tx_msg_token_set GOp.tx_msg_amount_get GOp.tx_msg_amount_set GOp.tx_msg_size_get GOp.tx_msg_size_set GOp.tx_msg_payload_get GOp.tx_msg_payload_set Summary.length_enc Summary.ok_enc Summary.all_get Summary.all_set Summary.height_get Summary.height_set Summary.txs_get Summary.txs_set Summary.gas_get Summary.gas_set Summary.fees_get Summary.fees_set Summary.sent_get Summary.sent_set Summary.took_get Summary.took_set Summary.minted_get Summary.minted_set Summary.burned_get Summary.burned_set Summary.root_get Summary.root_set Detail.length_enc Detail.ok_enc Detail.all_get Detail.all_set Detail.code_get Detail.code_set Detail.have__get Detail.have__set Detail.need_get Detail.need_set Slot.length_enc Slot.ok_enc Slot.all_get Slot.all_set Slot.nonce_get Slot.nonce_set Slot.balances_get Slot.balances_set Tree.length_enc Tree.ok_enc Tree.all_get Tree.all_set Tree.leaves_get Tree.leaves_set Mark.length_enc Mark.ok_enc Mark.all_get Mark.all_set Mark.from__get Mark.from__set Mark.seq_get Mark.seq_set Receipt.length_enc Receipt.ok_enc Receipt.all_get Receipt.all_set Receipt.code_get Receipt.code_set Receipt.hash_get Receipt.hash_set Receipt.index_get Receipt.index_set Receipt.gas_get Receipt.gas_set Receipt.fee_get Receipt.fee_set Receipt.hasSent_get Receipt.hasSent_set Receipt.sent_get Receipt.sent_set Receipt.hasTook_get Receipt.hasTook_set Receipt.took_get Receipt.took_set Receipt.sent_kind_get Receipt.sent_kind_set Receipt.sent_from__get Receipt.sent_from__set Receipt.sent_to__get Receipt.sent_to__set Receipt.sent_sender_get Receipt.sent_sender_set Receipt.sent_receiver_get Receipt.sent_receiver_set Receipt.sent_seq_get Receipt.sent_seq_set Receipt.sent_token_get Receipt.sent_token_set Receipt.sent_amount_get Receipt.sent_amount_set Receipt.sent_size_get Receipt.sent_size_set Receipt.sent_payload_get Receipt.sent_payload_set Receipt.took_kind_get Receipt.took_kind_set Receipt.took_from__get Receipt.took_from__set Receipt.took_to__get Receipt.took_to__set Receipt.took_sender_get Receipt.took_sender_set Receipt.took_receiver_get Receipt.took_receiver_set Receipt.took_seq_get Receipt.took_seq_set Receipt.took_token_get Receipt.took_token_set Receipt.took_amount_get Receipt.took_amount_set Receipt.took_size_get Receipt.took_size_set Receipt.took_payload_get Receipt.took_payload_set Store.length_enc Store.ok_enc Store.all_get Store.all_set Store.now_get Store.now_set Store.saved_get Store.saved_set GState.length_enc GState.ok_enc GState.all_get GState.all_set GState.kv_get GState.kv_set GState.tree_get GState.tree_set GState.stale_get GState.stale_set GState.touched_get GState.touched_set GState.kv_now_get GState.kv_now_set GState.kv_saved_get GState.kv_saved_set GState.tree_leaves_get GState.tree_leaves_set History.length_enc History.ok_enc History.all_get History.all_set History.ring_get History.ring_set History.closed_get History.closed_set Ledger.length_enc Ledger.ok_enc Ledger.all_get Ledger.all_set Ledger.chain_get Ledger.chain_set Ledger.st_get Ledger.st_set Ledger.height_get Ledger.height_set Ledger.open__get Ledger.open__set Ledger.gasLimit_get Ledger.gasLimit_set Ledger.past_get Ledger.past_set Ledger.begun_get Ledger.begun_set Ledger.sent_get Ledger.sent_set Ledger.took_get Ledger.took_set Ledger.receipts_get Ledger.receipts_set Ledger.st_kv_get Ledger.st_kv_set Ledger.st_tree_get Ledger.st_tree_set Ledger.st_stale_get Ledger.st_stale_set Ledger.st_touched_get Ledger.st_touched_set Ledger.st_kv_now_get Ledger.st_kv_now_set Ledger.st_kv_saved_get Ledger.st_kv_saved_set Ledger.st_tree_leaves_get Ledger.st_tree_leaves_set Ledger.past_ring_get Ledger.past_ring_set Ledger.past_closed_get Ledger.past_closed_set Ledger.begun_kv_get Ledger.begun_kv_set Ledger.begun_tree_get Ledger.begun_tree_set Ledger.begun_stale_get Ledger.begun_stale_set Ledger.begun_touched_get Ledger.begun_touched_set Ledger.begun_kv_now_get Ledger.begun_kv_now_set Ledger.begun_kv_saved_get Ledger.begun_kv_saved_set Ledger.begun_tree_leaves_get Ledger.begun_tree_leaves_set Purse.length_enc Purse.ok_enc Purse.all_get Purse.all_set Purse.st_get Purse.st_set Purse.n_get Purse.n_set Purse.account_get Purse.account_set Purse.token_get Purse.token_set Purse.amount_get Purse.amount_set Plan.length_enc Plan.ok_enc Plan.all_get Plan.all_set Plan.purse_get Plan.purse_set Plan.nonce_get Plan.nonce_set Plan.gasUsed_get Plan.gasUsed_set Plan.fees_get Plan.fees_set Plan.hasSupply_get Plan.hasSupply_set Plan.token_get Plan.token_set Plan.supply_get Plan.supply_set Plan.flowAt_get Plan.flowAt_set Plan.flow_get Plan.flow_set Plan.receipt_get Plan.receipt_set Plan.purse_st_get Plan.purse_st_set Plan.purse_n_get Plan.purse_n_set Plan.purse_account_get Plan.purse_account_set Plan.purse_token_get Plan.purse_token_set Plan.purse_amount_get Plan.purse_amount_set Plan.receipt_code_get Plan.receipt_code_set Plan.receipt_hash_get Plan.receipt_hash_set Plan.receipt_index_get Plan.receipt_index_set Plan.receipt_gas_get Plan.receipt_gas_set Plan.receipt_fee_get Plan.receipt_fee_set Plan.receipt_hasSent_get Plan.receipt_hasSent_set Plan.receipt_sent_get Plan.receipt_sent_set Plan.receipt_hasTook_get Plan.receipt_hasTook_set Plan.receipt_took_get Plan.receipt_took_set Plan.receipt_sent_kind_get Plan.receipt_sent_kind_set Plan.receipt_sent_from__get Plan.receipt_sent_from__set Plan.receipt_sent_to__get Plan.receipt_sent_to__set Plan.receipt_sent_sender_get Plan.receipt_sent_sender_set Plan.receipt_sent_receiver_get Plan.receipt_sent_receiver_set Plan.receipt_sent_seq_get Plan.receipt_sent_seq_set Plan.receipt_sent_token_get Plan.receipt_sent_token_set Plan.receipt_sent_amount_get Plan.receipt_sent_amount_set Plan.receipt_sent_size_get Plan.receipt_sent_size_set Plan.receipt_sent_payload_get Plan.receipt_sent_payload_set Plan.receipt_took_kind_get Plan.receipt_took_kind_set Plan.receipt_took_from__get Plan.receipt_took_from__set Plan.receipt_took_to__get Plan.receipt_took_to__set Plan.receipt_took_sender_get Plan.receipt_took_sender_set Plan.receipt_took_receiver_get Plan.receipt_took_receiver_set Plan.receipt_took_seq_get Plan.receipt_took_seq_set Plan.receipt_took_token_get Plan.receipt_took_token_set Plan.receipt_took_amount_get Plan.receipt_took_amount_set Plan.receipt_took_size_get Plan.receipt_took_size_set Plan.receipt_took_payload_get Plan.receipt_took_payload_set Move.length_enc Move.ok_enc Move.all_get Move.all_set Move.account_get Move.account_set Move.token_get Move.token_set Move.down_get Move.down_set Move.amount_get Move.amount_set Books.length_enc Books.ok_enc Books.all_get Books.all_set Books.sums_get Books.sums_set Books.stored_get Books.stored_set Books.marks_get Books.marks_set Pair.length_enc Pair.ok_enc Pair.all_get Pair.all_set Pair.key_get Pair.key_set Pair.value_get Pair.value_set
attribute [local go_sem] size_put size_ext blk_put free_put blk_alloc free_alloc blk_drew free_drew blk_ext free_ext lookOr_some putOr_some segAt_some cellAt_some storeIn_some put_put put_alloc_new length_arr ok_arr_u8 ok_arr_u32 ok_arr_u64 ok_arr_i64 ok_arr_sl cellsV_agg cellsV_int cellsV_bool cellsV_string cellsV_pointer cellsV_slice cellsV_sl ok_int ok_bool ok_string ok_pointer ok_slice ok_sl toList_arr seg_arr set_arr nth_splice nth_splice0 seg_splice seg_splice0 splice_splice splice_splice0 length_splice_if
attribute [local go_sem ↓] execOp_box
attribute [local go_sem] box_run nth_arr_u8 put_arr_u8 blk_drewN free_drewN put_drewN blk_raw free_raw
theorem dmpN_non {L : PLg} {c : UInt8} (hw : WfS c L.st.now) : ∀ k, k ≤ L.st.now.length → ∀ a : UInt8, a.toNat < 64 → ((dmpN L k).non[a.toNat]?).getD 0 = ldF (L.st.now.take k) (keyN a)
  | 0, _, a, ha => by
    show ((Vector.replicate 64 (0 : UInt64))[a.toNat]?).getD 0 = ldF [] (keyN a)
    rw [Vector.getElem?_eq_getElem (by omega)]
    simp [ldF, getO]
  | k + 1, hk, a, ha => by
    have ih := dmpN_non hw k (by omega) a ha
    have hp : L.st.now[k]? = some L.st.now[k] := List.getElem?_eq_getElem (by omega)
    obtain ⟨p, hpp⟩ : ∃ p, p = L.st.now[k] := ⟨_, rfl⟩
    rw [← hpp] at hp
    obtain ⟨e, hnk⟩ := take_nd hw.nd hp
    rw [dmpN_succ hp, e, ldF_snoc hnk]
    have skip : ∀ d : PDump, d.non = (dmpN L k).non → p.key ≠ keyN a → (d.non[a.toNat]?).getD 0 = if p.key = keyN a then p.value else ldF (L.st.now.take k) (keyN a) := fun d hd hne => by
      rw [if_neg hne, hd]; exact ih
    rcases (hw.ok p (List.mem_of_getElem? hp)).1 with ⟨b, hb, q⟩ | ⟨b, s, hb, hs, q⟩ | ⟨s, hs, q⟩ | ⟨f, s, h1, h2, h3, q⟩ | ⟨i, h1, h2, q⟩
    · have hr : (rowU p.key).toNat = b.toNat := by
        rw [rowU_nat, q, keyN_nat]
        have := b.toNat_lt
        omega
      unfold dmpP
      rw [if_pos (by rw [q, tbl_N])]
      simp only [hr]
      rw [dif_pos (by omega)]
      dsimp only
      rw [Vector.getElem?_set]
      by_cases hq : b = a
      · subst hq
        rw [if_pos rfl, if_pos q]
        rfl
      · rw [if_neg (fun f => hq (UInt8.toNat_inj.1 (by omega))), if_neg (fun f => hq (by rw [q] at f; exact keyN_inj f))]
        exact ih
    · refine skip _ ?_ (by rw [q]; exact ne_of_false (kBN _ _ _))
      unfold dmpP
      rw [if_neg (by rw [q, tbl_B]; omega), if_pos (by rw [q, tbl_B])]
      split <;> rfl
    · refine skip _ ?_ (by rw [q]; exact ne_of_false (kSN _ _))
      unfold dmpP
      rw [if_neg (by rw [q, tbl_S]; omega), if_neg (by rw [q, tbl_S]; omega), if_neg (by rw [q, tbl_S]; omega)]
    · refine skip _ ?_ (by rw [q]; exact ne_of_false (kMN _ _ _))
      unfold dmpP
      rw [if_neg (by rw [q, tbl_M]; omega), if_neg (by rw [q, tbl_M]; omega), if_pos (by rw [q, tbl_M])]
    · refine skip _ ?_ (by rw [q]; exact ne_of_false (kCN _ _))
      unfold dmpP
      rw [if_neg (by rw [q, tbl_C]; omega), if_neg (by rw [q, tbl_C]; omega), if_neg (by rw [q, tbl_C]; omega)]
/-- The nonces of a dump are the store's. -/
theorem dmpD_nonx {L : PLg} {c : UInt8} (hw : WfS c L.st.now) (a : UInt8) (ha : a.toNat < 64) : ((dmpD L).non[a.toNat]?).getD 0 = ldF L.st.now (keyN a) := by
  have := dmpN_non hw _ (Nat.le_refl _) a ha
  rw [List.take_length] at this
  exact this
/-- The marks of a store, in the store's order. -/
def mkL (l : List Pair) : List Mark := (l.filter (fun p => tbl p.key == 4)).map (fun p => mkR (rowU p.key))
theorem fold_mkL : ∀ (l : List Pair) (d : PDump), (l.foldl dmpP d).marks = d.marks ++ mkL l
  | [], d => by simp [mkL]
  | p :: l, d => by
    rw [List.foldl_cons, fold_mkL l]
    unfold mkL
    by_cases h4 : tbl p.key = 4
    · rw [List.filter_cons_of_pos (by simp [h4]), List.map_cons]
      have : (dmpP d p).marks = d.marks ++ [mkR (rowU p.key)] := by
        unfold dmpP
        rw [if_neg (by omega), if_neg (by omega), if_pos h4]
      rw [this, List.append_assoc]
      rfl
    · rw [List.filter_cons_of_neg (by simp [h4])]
      have : (dmpP d p).marks = d.marks := by
        unfold dmpP
        repeat' split
        all_goals first | rfl | exact absurd ‹_› h4
      rw [this]
theorem dmpD_marks (L : PLg) : (dmpD L).marks = srtF mkB (mkL L.st.now) := by
  show srtF mkB (dmpN L L.st.now.length).marks = _
  unfold dmpN
  rw [List.take_length, fold_mkL]
  rfl
theorem mkR_key {f : UInt8} {s : UInt64} (hs : s.toNat < 281474976710656) : mkR (rowU (keyM f s)) = ⟨f, s⟩ := by
  have e : (rowU (keyM f s)).toNat = f.toNat * 281474976710656 + s.toNat := by
    rw [rowU_nat, keyM_nat f s hs]
    have := f.toNat_lt
    omega
  unfold mkR
  rw [e]
  have := f.toNat_lt
  have h1 : (f.toNat * 281474976710656 + s.toNat) / 281474976710656 = f.toNat := by omega
  have h2 : (f.toNat * 281474976710656 + s.toNat) % 281474976710656 = s.toNat := by omega
  rw [h1, h2]
  simp
theorem key_M {c : UInt8} {k : UInt64} (h : KeyOk c k) (ht : tbl k = 4) : ∃ (f : UInt8) (s : UInt64), chnB f = true ∧ f ≠ c ∧ s.toNat < 281474976710656 ∧ k = keyM f s := by
  rcases h with ⟨a, -, e⟩ | ⟨a, t, -, -, e⟩ | ⟨t, -, e⟩ | ⟨f, s, h1, h2, h3, e⟩ | ⟨i, -, -, e⟩
  · rw [e, tbl_N] at ht; omega
  · rw [e, tbl_B] at ht; omega
  · rw [e, tbl_S] at ht; omega
  · exact ⟨f, s, h1, h2, h3, e⟩
  · rw [e, tbl_C] at ht; omega
theorem wf_mem {c : UInt8} {l : List Pair} (hw : WfS c l) (k : UInt64) : k ∈ l.map (·.key) ↔ ldF l k ≠ 0 := by
  constructor
  · intro h
    obtain ⟨p, hp, rfl⟩ := List.mem_map.1 h
    rw [ldF_of_mem hw.nd p hp]
    exact (hw.ok p hp).2
  · intro h
    apply Classical.byContradiction
    intro q
    apply h
    unfold ldF
    have : getO l k = none := by
      clear hw h
      induction l with
      | nil => rfl
      | cons p l ih =>
        unfold getO
        rw [List.map_cons, List.mem_cons, not_or] at q
        rw [if_neg (fun e => q.1 e.symm)]
        exact ih q.2
    rw [this]
    rfl
theorem mkL_mem {c : UInt8} {l : List Pair} (hw : WfS c l) (m : Mark) : m ∈ mkL l ↔ (m.seq.toNat < 281474976710656 ∧ ldF l (keyM m.from_ m.seq) ≠ 0) := by
  unfold mkL
  rw [List.mem_map]
  constructor
  · rintro ⟨p, hp, rfl⟩
    obtain ⟨h1, h2⟩ := List.mem_filter.1 hp
    obtain ⟨f, s, -, -, h3, e⟩ := key_M (hw.ok p h1).1 (by simpa using h2)
    rw [e, mkR_key h3]
    exact ⟨h3, by rw [← e]; exact (wf_mem hw _).1 (List.mem_map_of_mem h1)⟩
  · rintro ⟨h1, h2⟩
    obtain ⟨p, hp, e⟩ := List.mem_map.1 ((wf_mem hw _).2 h2)
    refine ⟨p, List.mem_filter.2 ⟨hp, ?_⟩, ?_⟩
    · rw [e, tbl_M]; rfl
    · rw [e, mkR_key h1]
theorem mkL_ok {c : UInt8} {l : List Pair} (hw : WfS c l) {m : Mark} (h : m ∈ mkL l) : chnB m.from_ = true ∧ m.from_ ≠ c := by
  unfold mkL at h
  obtain ⟨p, hp, rfl⟩ := List.mem_map.1 h
  obtain ⟨h1, h2⟩ := List.mem_filter.1 hp
  obtain ⟨f, s, g1, g2, h3, e⟩ := key_M (hw.ok p h1).1 (by simpa using h2)
  rw [e, mkR_key h3]
  exact ⟨g1, g2⟩
theorem mkL_nodup {c : UInt8} {l : List Pair} (hw : WfS c l) : (mkL l).Nodup := by
  unfold mkL
  have h0 : l.Pairwise (fun p q => p.key ≠ q.key) := List.pairwise_map.1 hw.nd
  have h1 := List.Pairwise.filter (fun p : Pair => tbl p.key == 4) h0
  refine List.pairwise_map.2 (h1.imp_of_mem ?_)
  intro p q hp hq hne e
  obtain ⟨p1, p2⟩ := List.mem_filter.1 hp
  obtain ⟨q1, q2⟩ := List.mem_filter.1 hq
  obtain ⟨f, s, -, -, h3, e1⟩ := key_M (hw.ok p p1).1 (by simpa using p2)
  obtain ⟨f', s', -, -, h3', e2⟩ := key_M (hw.ok q q1).1 (by simpa using q2)
  rw [e1, e2, mkR_key h3, mkR_key h3'] at e
  injection e with a b
  exact hne (by rw [e1, e2, a, b])
section
variable {α : Type} {bef : α → α → Bool}
theorem insAt_spec2 (m : α) (S : List α) : ∀ n, n ≤ S.length → (∀ j e, insAt bef m S n ≤ j → j < n → S[j]? = some e → bef m e = true) ∧ (∀ e, 0 < insAt bef m S n → S[insAt bef m S n - 1]? = some e → bef m e = false)
  | 0, _ => ⟨fun j e _ h => by omega, fun e h => by unfold insAt at h; omega⟩
  | n + 1, hn => by
    have ih := insAt_spec2 m S n (by omega)
    have hs : S[n]? = some (S[n]'(by omega)) := List.getElem?_eq_getElem (by omega)
    have e1 : insAt bef m S (n + 1) = if bef m (S[n]'(by omega)) = true then insAt bef m S n else n + 1 := by
      show (match S[n]? with | some e => if bef m e = true then insAt bef m S n else n + 1 | none => n + 1) = _
      rw [hs]
    rw [e1]
    by_cases q : bef m (S[n]'(by omega)) = true
    · rw [if_pos q]
      refine ⟨fun j e h1 h2 h3 => ?_, ih.2⟩
      by_cases hj : j = n
      · subst hj
        rw [hs] at h3
        rw [← Option.some.inj h3]
        exact q
      · exact ih.1 j e h1 (by omega) h3
    · rw [if_neg q]
      refine ⟨fun j e h1 h2 => by omega, fun e _ h3 => ?_⟩
      rw [Nat.add_sub_cancel, hs] at h3
      rw [← Option.some.inj h3]
      simpa using q
theorem insS_mem2 (m : α) (S : List α) (x : α) : x ∈ insS bef m S ↔ x = m ∨ x ∈ S := by
  unfold insS
  rw [List.mem_append, List.mem_cons]
  have : x ∈ S ↔ x ∈ S.take (insAt bef m S S.length) ∨ x ∈ S.drop (insAt bef m S S.length) := by
    rw [← List.mem_append, List.take_append_drop]
  rw [this]
  constructor
  · rintro (h | h | h)
    · exact .inr (.inl h)
    · exact .inl h
    · exact .inr (.inr h)
  · rintro (h | h | h)
    · exact .inr (.inl h)
    · exact .inl h
    · exact .inr (.inr h)
theorem insS_pw2 (ht : ∀ x y z, bef x y = true → bef y z = true → bef x z = true) (hx : ∀ x y, x ≠ y → bef x y = false → bef y x = true) (m : α) (S : List α) (hS : S.Pairwise (fun x y => bef x y = true)) (hm : m ∉ S) : (insS bef m S).Pairwise (fun x y => bef x y = true) := by
  obtain ⟨i, hi⟩ : ∃ i, i = insAt bef m S S.length := ⟨_, rfl⟩
  have hsp := insAt_spec2 (bef := bef) m S S.length (Nat.le_refl _)
  rw [← hi] at hsp
  have hle : i ≤ S.length := by rw [hi]; exact insAt_le _ _ _ _
  unfold insS
  rw [← hi]
  have hS2 := hS
  rw [← List.take_append_drop i S] at hS2
  obtain ⟨p1, p2, p3⟩ := List.pairwise_append.1 hS2
  have before : ∀ x ∈ S.take i, bef x m = true := by
    intro x hx1
    have h0 : 0 < i := by
      cases i with
      | zero => simp at hx1
      | succ i => omega
    have hs : S[i - 1]? = some (S[i - 1]'(by omega)) := List.getElem?_eq_getElem (by omega)
    have hb := hsp.2 _ h0 hs
    have hl : bef (S[i - 1]'(by omega)) m = true := hx _ _ (fun e => hm (by rw [e]; exact List.getElem_mem _)) hb
    obtain ⟨j, hj, e⟩ := List.getElem_of_mem hx1
    rw [List.length_take] at hj
    have e' : x = S[j]'(by omega) := by rw [← e, List.getElem_take]
    by_cases q : j = i - 1
    · subst q; rw [e']; exact hl
    · rw [e']
      exact ht _ _ _ (List.pairwise_iff_getElem.1 hS j (i - 1) (by omega) (by omega) (by omega)) hl
  have behind : ∀ y ∈ S.drop i, bef m y = true := by
    intro y hy
    obtain ⟨j, hj, e⟩ := List.getElem_of_mem hy
    rw [List.length_drop] at hj
    have e' : S[i + j]? = some y := by rw [← e, List.getElem_drop]; exact List.getElem?_eq_getElem (by omega)
    exact hsp.1 (i + j) y (by omega) (by omega) e'
  refine List.pairwise_append.2 ⟨p1, List.pairwise_cons.2 ⟨behind, p2⟩, fun x h1 y h2 => ?_⟩
  rcases List.mem_cons.1 h2 with rfl | h2
  · exact before x h1
  · exact p3 x h1 y h2
theorem srtN_ok2 (ht : ∀ x y z, bef x y = true → bef y z = true → bef x z = true) (hx : ∀ x y, x ≠ y → bef x y = false → bef y x = true) (K : List α) (hK : K.Nodup) : ∀ n, n ≤ K.length → (srtN bef K n).Pairwise (fun x y => bef x y = true) ∧ ∀ x, x ∈ srtN bef K n ↔ x ∈ K.take n
  | 0, _ => ⟨List.Pairwise.nil, fun x => by simp [srtN]⟩
  | n + 1, h => by
    have ih := srtN_ok2 ht hx K hK n (by omega)
    have hs : K[n]? = some (K[n]'(by omega)) := List.getElem?_eq_getElem (by omega)
    have e : srtN bef K (n + 1) = insS bef (K[n]'(by omega)) (srtN bef K n) := by
      show (match K[n]? with | some m => insS bef m (srtN bef K n) | none => srtN bef K n) = _
      rw [hs]
    have e2 : K.take (n + 1) = K.take n ++ [K[n]'(by omega)] := take_at hs
    have hni : K[n]'(by omega) ∉ K.take n := by
      have : (K.take (n + 1)).Nodup := List.Sublist.nodup (List.take_sublist _ _) hK
      rw [e2] at this
      have := (List.pairwise_append.1 this).2.2
      intro q
      exact this _ q _ (List.mem_singleton.2 rfl) rfl
    rw [e]
    refine ⟨insS_pw2 ht hx _ _ ih.1 (fun q => hni ((ih.2 _).1 q)), fun x => ?_⟩
    rw [insS_mem2, ih.2, e2, List.mem_append, List.mem_singleton, Or.comm]
theorem pw_uniq2 (hi : ∀ x y, bef x y = true → bef y x = true → False) : ∀ (l l' : List α), l.Pairwise (fun x y => bef x y = true) → l'.Pairwise (fun x y => bef x y = true) → (∀ x, x ∈ l ↔ x ∈ l') → l = l'
  | [], [], _, _, _ => rfl
  | [], b :: l', _, _, h => absurd ((h b).2 (List.mem_cons_self ..)) (by simp)
  | a :: l, [], _, _, h => absurd ((h a).1 (List.mem_cons_self ..)) (by simp)
  | a :: l, b :: l', h1, h2, h => by
    obtain ⟨p1, p2⟩ := List.pairwise_cons.1 h1
    obtain ⟨q1, q2⟩ := List.pairwise_cons.1 h2
    have hab : a = b := by
      rcases List.mem_cons.1 ((h a).1 (List.mem_cons_self ..)) with e | e
      · exact e
      · rcases List.mem_cons.1 ((h b).2 (List.mem_cons_self ..)) with e' | e'
        · exact e'.symm
        · exact (hi _ _ (q1 a e) (p1 b e')).elim
    subst hab
    refine congrArg (a :: ·) (pw_uniq2 hi l l' p2 q2 (fun x => ⟨fun hx => ?_, fun hx => ?_⟩))
    · rcases List.mem_cons.1 ((h x).1 (List.mem_cons_of_mem _ hx)) with e | e
      · subst e; exact (hi _ _ (p1 x hx) (p1 x hx)).elim
      · exact e
    · rcases List.mem_cons.1 ((h x).2 (List.mem_cons_of_mem _ hx)) with e | e
      · subst e; exact (hi _ _ (q1 x hx) (q1 x hx)).elim
      · exact e
end
theorem mkB_tr (x y z : Mark) (h : mkB x y = true) (h2 : mkB y z = true) : mkB x z = true := by
  rw [mkB_iff] at h h2 ⊢
  omega
theorem mkB_tot (x y : Mark) (hne : x ≠ y) (h : mkB x y = false) : mkB y x = true := by
  have h' : ¬ mkB x y = true := by rw [h]; decide
  rw [mkB_iff] at h' ⊢
  apply Classical.byContradiction
  intro q
  apply hne
  obtain ⟨f, s⟩ := x
  obtain ⟨f', s'⟩ := y
  dsimp only at h' q
  have e1 : f = f' := UInt8.toNat_inj.1 (by omega)
  have e2 : s = s' := UInt64.toNat_inj.1 (by omega)
  rw [e1, e2]
theorem mkB_as (x y : Mark) (h : mkB x y = true) (h2 : mkB y x = true) : False := by
  rw [mkB_iff] at h h2
  omega
/-- The marks of a dump: sorted, and those of the store. -/
theorem dmpD_mks {L : PLg} {c : UInt8} (hw : WfS c L.st.now) : (dmpD L).marks.Pairwise (fun x y => mkB x y = true) ∧ ∀ m, m ∈ (dmpD L).marks ↔ m ∈ mkL L.st.now := by
  rw [dmpD_marks]
  have h := srtN_ok2 mkB_tr mkB_tot (mkL L.st.now) (mkL_nodup hw) _ (Nat.le_refl _)
  rw [List.take_length] at h
  exact h
theorem mks_snd {L L0 : PLg} (hw : WfS L0.chain L.st.now) : mkSnd L0 (dmpD L).marks = true := by
  obtain ⟨h1, h2⟩ := dmpD_mks hw
  refine (mkSnd_iff _ _).2 (fun j hj m hm => ?_)
  have hmem := (h2 m).1 (List.mem_of_getElem? hm)
  have hok := mkL_ok hw hmem
  have hsq := ((mkL_mem hw m).1 hmem).1
  refine ⟨?_, by omega, fun m' hj0 hm' => ?_⟩
  · unfold peerB
    rw [hok.1]
    simp [hok.2]
  · obtain ⟨a1, a2⟩ := List.getElem?_eq_some_iff.1 hm
    obtain ⟨b1, b2⟩ := List.getElem?_eq_some_iff.1 hm'
    have := List.pairwise_iff_getElem.1 h1 (j - 1) j b1 a1 (by omega)
    rw [a2, b2] at this
    exact this
theorem totN_ok {b : Vector UInt64 256} (h : ∀ t, t < 4 → colS b t 256 ≤ 9223372036854775807) : ∀ i, i ≤ 256 → ∃ v, totN b i = some v
  | 0, _ => ⟨_, rfl⟩
  | i + 1, hi => by
    obtain ⟨w, hw⟩ := totN_ok h i (by omega)
    have h1 := totN_col i w hw (i % 4) (Nat.mod_lt _ (by decide))
    have h2 : colS b (i % 4) (i + 1) = colS b (i % 4) i + ((b[i]?).getD 0).toNat := by
      show colS b (i % 4) i + (if i % 4 = i % 4 then _ else 0) = _
      rw [if_pos rfl]
    have h3 := colS_mono b (i % 4) (i + 1) (256 - (i + 1))
    have e : i + 1 + (256 - (i + 1)) = 256 := by omega
    rw [e] at h3
    have h4 := h (i % 4) (Nat.mod_lt _ (by decide))
    unfold totN
    rw [hw]
    dsimp only
    unfold addO
    rw [if_pos (by omega)]
    exact ⟨_, rfl⟩
theorem nd_len2 {α : Type} [DecidableEq α] : ∀ (l l' : List α), l.Nodup → (∀ x ∈ l, x ∈ l') → l.length ≤ l'.length
  | [], _, _, _ => Nat.zero_le _
  | a :: l, l', h, hs => by
    obtain ⟨h1, h2⟩ := List.nodup_cons.1 h
    have ha := hs a (List.mem_cons_self ..)
    have := nd_len2 l (l'.erase a) h2 (fun x hx => (List.mem_erase_of_ne (fun e => h1 (by rw [← e]; exact hx))).2 (hs x (List.mem_cons_of_mem _ hx)))
    rw [List.length_erase_of_mem ha] at this
    have := List.length_pos_of_mem ha
    rw [List.length_cons]
    omega
/-- Two sound stores that read alike are alike. -/
theorem sto_same {c : UInt8} {l l' : List Pair} (h : WfS c l) (h' : WfS c l') (he : ∀ k, KeyOk c k → ldF l k = ldF l' k) : stoE l l' = true := by
  have key : ∀ k, k ∈ l.map (·.key) ↔ k ∈ l'.map (·.key) := by
    intro k
    rw [wf_mem h, wf_mem h']
    by_cases q : KeyOk c k
    · rw [he k q]
    · have n1 : ldF l k = 0 := Classical.byContradiction (fun e => by
        obtain ⟨p, hp, e1⟩ := List.mem_map.1 ((wf_mem h k).2 e)
        exact q (by rw [← e1]; exact (h.ok p hp).1))
      have n2 : ldF l' k = 0 := Classical.byContradiction (fun e => by
        obtain ⟨p, hp, e1⟩ := List.mem_map.1 ((wf_mem h' k).2 e)
        exact q (by rw [← e1]; exact (h'.ok p hp).1))
      rw [n1, n2]
  refine (stoE_iff _ _).2 ⟨?_, fun p hp => ?_⟩
  · have a1 := nd_len2 (l.map (fun p : Pair => p.key)) (l'.map (fun p : Pair => p.key)) h.nd (fun x hx => (key x).1 hx)
    have a2 := nd_len2 (l'.map (fun p : Pair => p.key)) (l.map (fun p : Pair => p.key)) h'.nd (fun x hx => (key x).2 hx)
    rw [List.length_map, List.length_map] at a1 a2
    omega
  · obtain ⟨p', hp', e⟩ := List.mem_map.1 ((key p.key).1 (List.mem_map_of_mem hp))
    have g := h'.nd.get hp'
    rw [e] at g
    rw [g]
    have v1 := ldF_of_mem h.nd p hp
    have v2 := ldF_of_mem h'.nd p' hp'
    rw [he _ (h.ok p hp).1, ← e, v2] at v1
    rw [v1]
end Go.Proofs.Qxb6500786aGreat
