import Derived.DeepKeys2
import Derived.Test.Qxb6500786aGreatMo
import Derived.Test.Qxb6500786aGreatPe

import Derived.StillTailTactics
import Derived.Deep.QuietTactic
import Derived.BigQuiet
import Derived.Deep.RegionHeld
import Derived.Deep.CutRange
import Derived.Laws.ResultCell
import Derived.Laws.Rows
import Derived.DeepKeys
import Derived.DataBytes
import Derived.Laws.StructEq
import Derived.Laws.AppendOwn
import Derived.Laws.MakeOwn
import Derived.Lib.AppendStr
set_option linter.unusedSimpArgs false
set_option linter.unusedVariables false
namespace Go.Proofs.Qxb6500786aGreat
open Go.RowKit Go.Blk
attribute [local go_sem ↓] execOp_load execOp_store execOp_alloc
attribute [local go_sem] Tryz.ld24 Tryz.st24 Tryz.ld36 Tryz.st36 Tryz.ld28 Tryz.st28 Tryz.ld32 Tryz.st32 Tryz.ld33 Tryz.st33 Tryz.ld34 Tryz.st34 Tryz.ld5 Tryz.st5 Tryz.ld31 Tryz.st31 Tryz.ld30 Tryz.st30 Tryz.ld41 Tryz.st41 Tryz.ld44 Tryz.st44 Tryz.ld4 Tryz.st4 Tryz.ld173 Tryz.st173 Tryz.ld174 Tryz.st174 Tryz.ld95 Tryz.st95 Tryz.ld45 Tryz.st45 Tryz.ld207 Tryz.st207 Tryz.ld3 Tryz.st3 Tryz.ld189 Tryz.st189 Tryz.ld2 Tryz.st2 Tryz.ld9 Tryz.st9 Tryz.ld12 Tryz.st12 Tryz.ld21 Tryz.st21 Tryz.ld22 Tryz.st22 Tryz.ld46 Tryz.st46 Tryz.ld92 Tryz.st92 Tryz.ld94 Tryz.st94 Tryz.ld96 Tryz.st96 Tryz.ld97 Tryz.st97 Tryz.ld105 Tryz.st105 Tryz.ld117 Tryz.st117 Tryz.ld122 Tryz.st122 Tryz.ld123 Tryz.st123 Tryz.ld133 Tryz.st133 Tryz.ld155 Tryz.st155 Tryz.ld163 Tryz.st163 Tryz.ld190 Tryz.st190 Tryz.ld197 Tryz.st197 Tryz.ld201 Tryz.st201 Tryz.ld202 Tryz.st202 Tryz.ld209 Tryz.st209 Tryz.ld216 Tryz.st216 Tryz.ld230 Tryz.st230 Tryz.ld238 Tryz.st238 Tryz.ld242 Tryz.st242 Tryz.ld251 Tryz.st251 Tryz.ld260 Tryz.st260 Tryz.ld286 Tryz.st286 Tryz.ld292 Tryz.st292 Tryz.ld298 Tryz.st298 Tryz.ld309 Tryz.st309 Tryz.ld35 Tryz.st35 Tryz.ld48 Tryz.st48 Tryz.ld47 Tryz.st47 Tryz.ld79 Tryz.st79 Tryz.ld177 Tryz.st177 Tryz.ld180 Tryz.st180 Tryz.ld231 Tryz.st231 Tryz.ld232 Tryz.st232 Tryz.ld26 Tryz.st26 Tryz.ld38 Tryz.st38 Tryz.ld40 Tryz.st40 Tryz.ld43 Tryz.st43 Tryz.ld50 Tryz.st50 Tryz.ld52 Tryz.st52 Tryz.ld54 Tryz.st54 Tryz.ld81 Tryz.st81 Tryz.ld112 Tryz.st112 Tryz.ld120 Tryz.st120 Tryz.ld176 Tryz.st176 Tryz.ld179 Tryz.st179 Tryz.ld182 Tryz.st182 Tryz.ld184 Tryz.st184 Tryz.ld234 Tryz.st234 Tryz.ld236 Tryz.st236 Tryz.ld240 Tryz.st240 Tryz.ld246 Tryz.st246 Tryz.ld249 Tryz.st249 Tryz.al35 Tryz.al48 Tryz.al47 Tryz.al79 Tryz.al177 Tryz.al180 Tryz.al231 Tryz.al232 Tryz.al26 Tryz.al38 Tryz.al40 Tryz.al43 Tryz.al50 Tryz.al52 Tryz.al54 Tryz.al81 Tryz.al112 Tryz.al120 Tryz.al176 Tryz.al179 Tryz.al182 Tryz.al184 Tryz.al234 Tryz.al236 Tryz.al240 Tryz.al246 Tryz.al249
attribute [local go_sem] Player.length_enc Player.ok_enc Player.all_get Player.all_set Player.hand_get Player.hand_set Player.aside_get Player.aside_set Message.length_enc Message.ok_enc Message.all_get Message.all_set Message.kind_get Message.kind_set Message.from__get Message.from__set Message.to__get Message.to__set Message.sender_get Message.sender_set Message.receiver_get Message.receiver_set Message.seq_get Message.seq_set Message.token_get Message.token_set Message.amount_get Message.amount_set Message.size_get Message.size_set Message.payload_get Message.payload_set Tx.length_enc Tx.ok_enc Tx.all_get Tx.all_set Tx.kind_get Tx.kind_set Tx.chain_get Tx.chain_set Tx.from__get Tx.from__set Tx.nonce_get Tx.nonce_set Tx.fee_get Tx.fee_set Tx.to__get Tx.to__set Tx.dest_get Tx.dest_set Tx.token_get Tx.token_set Tx.amount_get Tx.amount_set Tx.size_get Tx.size_set Tx.payload_get Tx.payload_set Tx.msg_get Tx.msg_set Tx.msg_kind_get Tx.msg_kind_set Tx.msg_from__get Tx.msg_from__set Tx.msg_to__get Tx.msg_to__set Tx.msg_sender_get Tx.msg_sender_set Tx.msg_receiver_get Tx.msg_receiver_set Tx.msg_seq_get Tx.msg_seq_set Tx.msg_token_get Tx.msg_token_set Tx.msg_amount_get Tx.msg_amount_set Tx.msg_size_get Tx.msg_size_set Tx.msg_payload_get Tx.msg_payload_set GOp.length_enc GOp.ok_enc GOp.all_get GOp.all_set GOp.kind_get GOp.kind_set GOp.tx_get GOp.tx_set GOp.txs_get GOp.txs_set GOp.gas_get GOp.gas_set GOp.acct_get GOp.acct_set GOp.token_get GOp.token_set GOp.chain_get GOp.chain_set GOp.seq_get GOp.seq_set GOp.tx_kind_get GOp.tx_kind_set GOp.tx_chain_get GOp.tx_chain_set GOp.tx_from__get GOp.tx_from__set GOp.tx_nonce_get GOp.tx_nonce_set GOp.tx_fee_get GOp.tx_fee_set GOp.tx_to__get GOp.tx_to__set GOp.tx_dest_get GOp.tx_dest_set GOp.tx_token_get GOp.tx_token_set GOp.tx_amount_get GOp.tx_amount_set GOp.tx_size_get GOp.tx_size_set GOp.tx_payload_get GOp.tx_payload_set GOp.tx_msg_get GOp.tx_msg_set GOp.tx_msg_kind_get GOp.tx_msg_kind_set GOp.tx_msg_from__get GOp.tx_msg_from__set GOp.tx_msg_to__get GOp.tx_msg_to__set GOp.tx_msg_sender_get GOp.tx_msg_sender_set GOp.tx_msg_receiver_get GOp.tx_msg_receiver_set GOp.tx_msg_seq_get GOp.tx_msg_seq_set GOp.tx_msg_token_get GOp.tx_msg_token_set GOp.tx_msg_amount_get GOp.tx_msg_amount_set GOp.tx_msg_size_get GOp.tx_msg_size_set GOp.tx_msg_payload_get GOp.tx_msg_payload_set Summary.length_enc Summary.ok_enc Summary.all_get Summary.all_set Summary.height_get Summary.height_set Summary.txs_get Summary.txs_set Summary.gas_get Summary.gas_set Summary.fees_get Summary.fees_set Summary.sent_get Summary.sent_set Summary.took_get Summary.took_set Summary.minted_get Summary.minted_set Summary.burned_get Summary.burned_set Summary.root_get Summary.root_set Detail.length_enc Detail.ok_enc Detail.all_get Detail.all_set Detail.code_get Detail.code_set Detail.have__get Detail.have__set Detail.need_get Detail.need_set Slot.length_enc Slot.ok_enc Slot.all_get Slot.all_set Slot.nonce_get Slot.nonce_set Slot.balances_get Slot.balances_set Tree.length_enc Tree.ok_enc Tree.all_get Tree.all_set Tree.leaves_get Tree.leaves_set Mark.length_enc Mark.ok_enc Mark.all_get Mark.all_set Mark.from__get Mark.from__set Mark.seq_get Mark.seq_set Receipt.length_enc Receipt.ok_enc Receipt.all_get Receipt.all_set Receipt.code_get Receipt.code_set Receipt.hash_get Receipt.hash_set Receipt.index_get Receipt.index_set Receipt.gas_get Receipt.gas_set Receipt.fee_get Receipt.fee_set Receipt.hasSent_get Receipt.hasSent_set Receipt.sent_get Receipt.sent_set Receipt.hasTook_get Receipt.hasTook_set Receipt.took_get Receipt.took_set Receipt.sent_kind_get Receipt.sent_kind_set Receipt.sent_from__get Receipt.sent_from__set Receipt.sent_to__get Receipt.sent_to__set Receipt.sent_sender_get Receipt.sent_sender_set Receipt.sent_receiver_get Receipt.sent_receiver_set Receipt.sent_seq_get Receipt.sent_seq_set Receipt.sent_token_get Receipt.sent_token_set Receipt.sent_amount_get Receipt.sent_amount_set Receipt.sent_size_get Receipt.sent_size_set Receipt.sent_payload_get Receipt.sent_payload_set Receipt.took_kind_get Receipt.took_kind_set Receipt.took_from__get Receipt.took_from__set Receipt.took_to__get Receipt.took_to__set Receipt.took_sender_get Receipt.took_sender_set Receipt.took_receiver_get Receipt.took_receiver_set Receipt.took_seq_get Receipt.took_seq_set Receipt.took_token_get Receipt.took_token_set Receipt.took_amount_get Receipt.took_amount_set Receipt.took_size_get Receipt.took_size_set Receipt.took_payload_get Receipt.took_payload_set Store.length_enc Store.ok_enc Store.all_get Store.all_set Store.now_get Store.now_set Store.saved_get Store.saved_set GState.length_enc GState.ok_enc GState.all_get GState.all_set GState.kv_get GState.kv_set GState.tree_get GState.tree_set GState.stale_get GState.stale_set GState.touched_get GState.touched_set GState.kv_now_get GState.kv_now_set GState.kv_saved_get GState.kv_saved_set GState.tree_leaves_get GState.tree_leaves_set History.length_enc History.ok_enc History.all_get History.all_set History.ring_get History.ring_set History.closed_get History.closed_set Ledger.length_enc Ledger.ok_enc Ledger.all_get Ledger.all_set Ledger.chain_get Ledger.chain_set Ledger.st_get Ledger.st_set Ledger.height_get Ledger.height_set Ledger.open__get Ledger.open__set Ledger.gasLimit_get Ledger.gasLimit_set Ledger.past_get Ledger.past_set Ledger.begun_get Ledger.begun_set Ledger.sent_get Ledger.sent_set Ledger.took_get Ledger.took_set Ledger.receipts_get Ledger.receipts_set Ledger.st_kv_get Ledger.st_kv_set Ledger.st_tree_get Ledger.st_tree_set Ledger.st_stale_get Ledger.st_stale_set Ledger.st_touched_get Ledger.st_touched_set Ledger.st_kv_now_get Ledger.st_kv_now_set Ledger.st_kv_saved_get Ledger.st_kv_saved_set Ledger.st_tree_leaves_get Ledger.st_tree_leaves_set Ledger.past_ring_get Ledger.past_ring_set Ledger.past_closed_get Ledger.past_closed_set Ledger.begun_kv_get Ledger.begun_kv_set Ledger.begun_tree_get Ledger.begun_tree_set Ledger.begun_stale_get Ledger.begun_stale_set Ledger.begun_touched_get Ledger.begun_touched_set Ledger.begun_kv_now_get Ledger.begun_kv_now_set Ledger.begun_kv_saved_get Ledger.begun_kv_saved_set Ledger.begun_tree_leaves_get Ledger.begun_tree_leaves_set Purse.length_enc Purse.ok_enc Purse.all_get Purse.all_set Purse.st_get Purse.st_set Purse.n_get Purse.n_set Purse.account_get Purse.account_set Purse.token_get Purse.token_set Purse.amount_get Purse.amount_set Plan.length_enc Plan.ok_enc Plan.all_get Plan.all_set Plan.purse_get Plan.purse_set Plan.nonce_get Plan.nonce_set Plan.gasUsed_get Plan.gasUsed_set Plan.fees_get Plan.fees_set Plan.hasSupply_get Plan.hasSupply_set Plan.token_get Plan.token_set Plan.supply_get Plan.supply_set Plan.flowAt_get Plan.flowAt_set Plan.flow_get Plan.flow_set Plan.receipt_get Plan.receipt_set Plan.purse_st_get Plan.purse_st_set Plan.purse_n_get Plan.purse_n_set Plan.purse_account_get Plan.purse_account_set Plan.purse_token_get Plan.purse_token_set Plan.purse_amount_get Plan.purse_amount_set Plan.receipt_code_get Plan.receipt_code_set Plan.receipt_hash_get Plan.receipt_hash_set Plan.receipt_index_get Plan.receipt_index_set Plan.receipt_gas_get Plan.receipt_gas_set Plan.receipt_fee_get Plan.receipt_fee_set Plan.receipt_hasSent_get Plan.receipt_hasSent_set Plan.receipt_sent_get Plan.receipt_sent_set Plan.receipt_hasTook_get Plan.receipt_hasTook_set Plan.receipt_took_get Plan.receipt_took_set Plan.receipt_sent_kind_get Plan.receipt_sent_kind_set Plan.receipt_sent_from__get Plan.receipt_sent_from__set Plan.receipt_sent_to__get Plan.receipt_sent_to__set Plan.receipt_sent_sender_get Plan.receipt_sent_sender_set Plan.receipt_sent_receiver_get Plan.receipt_sent_receiver_set Plan.receipt_sent_seq_get Plan.receipt_sent_seq_set Plan.receipt_sent_token_get Plan.receipt_sent_token_set Plan.receipt_sent_amount_get Plan.receipt_sent_amount_set Plan.receipt_sent_size_get Plan.receipt_sent_size_set Plan.receipt_sent_payload_get Plan.receipt_sent_payload_set Plan.receipt_took_kind_get Plan.receipt_took_kind_set Plan.receipt_took_from__get Plan.receipt_took_from__set Plan.receipt_took_to__get Plan.receipt_took_to__set Plan.receipt_took_sender_get Plan.receipt_took_sender_set Plan.receipt_took_receiver_get Plan.receipt_took_receiver_set Plan.receipt_took_seq_get Plan.receipt_took_seq_set Plan.receipt_took_token_get Plan.receipt_took_token_set Plan.receipt_took_amount_get Plan.receipt_took_amount_set Plan.receipt_took_size_get Plan.receipt_took_size_set Plan.receipt_took_payload_get Plan.receipt_took_payload_set Move.length_enc Move.ok_enc Move.all_get Move.all_set Move.account_get Move.account_set Move.token_get Move.token_set Move.down_get Move.down_set Move.amount_get Move.amount_set Books.length_enc Books.ok_enc Books.all_get Books.all_set Books.sums_get Books.sums_set Books.stored_get Books.stored_set Books.marks_get Books.marks_set Pair.length_enc Pair.ok_enc Pair.all_get Pair.all_set Pair.key_get Pair.key_set Pair.value_get Pair.value_set
attribute [local go_sem] size_put size_ext blk_put free_put blk_alloc free_alloc blk_drew free_drew blk_ext free_ext lookOr_some putOr_some segAt_some cellAt_some storeIn_some put_put put_alloc_new length_arr ok_arr_u8 ok_arr_u32 ok_arr_u64 ok_arr_i64 ok_arr_sl cellsV_agg cellsV_int cellsV_bool cellsV_string cellsV_pointer cellsV_slice cellsV_sl ok_int ok_bool ok_string ok_pointer ok_slice ok_sl toList_arr seg_arr set_arr nth_splice nth_splice0 seg_splice seg_splice0 splice_splice splice_splice0 length_splice_if
attribute [local go_sem ↓] execOp_box
attribute [local go_sem] box_run nth_arr_u8 put_arr_u8 blk_drewN free_drewN put_drewN blk_raw free_raw
attribute [local irreducible] updL topD leafF
/-- No key twice. -/
def Nd (l : List Pair) : Prop := (l.map (·.key)).Nodup
theorem putF_keys (l : List Pair) (k v : UInt64) : (putF l k v).map (·.key) = if k ∈ l.map (·.key) then l.map (·.key) else l.map (·.key) ++ [k] := by
  induction l with
  | nil => simp [putF]
  | cons p r ih =>
    unfold putF
    by_cases h : p.key = k
    · rw [if_pos h]; simp [h]
    · rw [if_neg h, List.map_cons, ih]
      have h2 : ¬ k = p.key := fun e => h e.symm
      by_cases h3 : k ∈ r.map (·.key)
      · rw [if_pos h3, if_pos (by rw [List.map_cons]; exact List.mem_cons_of_mem _ h3), List.map_cons]
      · rw [if_neg h3, if_neg (by rw [List.map_cons]; intro hm; rcases List.mem_cons.1 hm with e | e; exact h2 e; exact h3 e), List.map_cons]
        rfl
theorem Nd.save {l : List Pair} (h : Nd l) (k v : UInt64) : Nd (saveF l k v) := by
  unfold saveF
  split
  · unfold Nd delF
    exact List.Nodup.sublist (List.Sublist.map _ List.filter_sublist) h
  · unfold Nd
    rw [putF_keys]
    split
    · exact h
    · rename_i hk
      exact List.nodup_append.2 ⟨h, by simp, fun a ha b hb => by
        rw [List.mem_singleton] at hb
        intro e
        exact hk (by rw [← hb, ← e]; exact ha)⟩
theorem Nd.get {l : List Pair} (h : Nd l) {p : Pair} (hp : p ∈ l) : getO l p.key = some p.value := by
  induction l with
  | nil => cases hp
  | cons q r ih =>
    unfold Nd at h
    rw [List.map_cons, List.nodup_cons] at h
    unfold getO
    rcases List.mem_cons.1 hp with e | e
    · rw [e, if_pos rfl]
    · rw [if_neg (fun e2 => h.1 (by rw [e2]; exact List.mem_map.2 ⟨p, e, rfl⟩))]
      exact ih h.2 e
theorem Nd.fl : ∀ (l : List PE) {S : PSt}, Nd S.now → Nd (flF S l).now
  | [], _, h => h
  | e :: l, S, h => Nd.fl l (S := { touchF S e.a with now := saveF S.now (keyB e.a e.t) e.v }) (h.save _ _)
theorem Nd.en {S : PSt} (h : Nd S.now) (x : Tx) (P : Plan) (l : List PE) : Nd (enS S x P l).now := by
  have h0 : Nd (enS0 S x P l).now := by unfold enS0; exact (Nd.fl l h).save _ _
  have h1 : Nd (enS1 (enS0 S x P l) P).now := by
    unfold enS1
    split
    · exact (h0.save _ _).save _ _
    · exact h0
  unfold enS enS2
  exact ((h1.save _ _).save _ _).save _ _
theorem flF_sv (l : List PE) : ∀ S, (flF S l).saved = S.saved := by
  induction l with
  | nil => intro S; rfl
  | cons e l ih =>
    intro S
    show (flF _ l).saved = _
    rw [ih]
    show (touchF S e.a).saved = S.saved
    unfold touchF
    split <;> rfl
theorem enS_sv (S : PSt) (x : Tx) (P : Plan) (l : List PE) : (enS S x P l).saved = S.saved := by
  have h0 : (enS0 S x P l).saved = S.saved := by
    unfold enS0
    dsimp only
    rw [← flF_sv l S]
    unfold touchF
    split <;> rfl
  have h1 : (enS1 (enS0 S x P l) P).saved = S.saved := by
    unfold enS1
    split
    · exact h0
    · exact h0
  unfold enS enS2
  exact h1
theorem enactF_nd {L : PLg} (h : Nd L.st.now) (x : Tx) (P : Plan) (l : List PE) : Nd (enactF L x P l).st.now ∧ (enactF L x P l).st.saved = L.st.saved := by
  have h1 := Nd.en h x P l
  have h2 := enS_sv L.st x P l
  unfold enactF
  generalize enS L.st x P l = E at h1 h2 ⊢
  split
  · exact ⟨h1.save _ _, h2⟩
  · split
    · unfold markF
      exact ⟨((h1.save _ _).save _ _).save _ _, h2⟩
    · exact ⟨h1, h2⟩
theorem appF_nd {L : PLg} (h : Nd L.st.now) (x : Tx) : Nd (appF L x).1.st.now ∧ (appF L x).1.st.saved = L.st.saved ∧ (appF L x).1.st.now.length ≤ L.st.now.length + 20 := by
  have h1 := enactF_nd h x (plnH L 0 x) (purL L.st.now x)
  have h2 := enactF_len L x (plnH L 0 x) (purL L.st.now x)
  have h3 := purL_len L.st.now x
  unfold appF
  generalize enactF L x (plnH L 0 x) (purL L.st.now x) = E at h1 h2 ⊢
  split
  · exact ⟨h1.1, h1.2, by dsimp only; omega⟩
  · exact ⟨h, rfl, by dsimp only; omega⟩
theorem runF_nd {X : List Tx} : ∀ {L : PLg} {i : Nat} {rs : List Receipt}, Nd L.st.now → Nd (runF L X i rs).2.st.now ∧ (runF L X i rs).2.st.saved = L.st.saved ∧ (runF L X i rs).2.st.now.length ≤ L.st.now.length + 20 * X.length := by
  induction X with
  | nil => intro L i rs h; exact ⟨h, rfl, Nat.le_refl _⟩
  | cons x X ih =>
    intro L i rs h
    obtain ⟨h1, h2, h3⟩ := appF_nd h x
    unfold runF
    split
    · obtain ⟨g1, g2, g3⟩ := ih (L := (appF L x).1) (i := i + 1) (rs := rs ++ [(appF L x).2]) h1
      exact ⟨g1, g2.trans h2, by rw [List.length_cons]; omega⟩
    · exact ⟨h1, h2, by rw [List.length_cons]; dsimp only; omega⟩
theorem save0_len (l : List Pair) (k : UInt64) : (saveF l k 0).length ≤ l.length := by unfold saveF; rw [if_pos rfl]; exact delF_len l k
theorem clrN_le (now : List Pair) : ∀ t, (clrN now t).length ≤ now.length
  | 0 => Nat.le_refl _
  | t + 1 => Nat.le_trans (save0_len _ _) (Nat.le_trans (save0_len _ _) (clrN_le now t))
theorem clrN_nd {now : List Pair} (h : Nd now) : ∀ t, Nd (clrN now t)
  | 0 => h
  | t + 1 => ((clrN_nd h t).save _ _).save _ _
theorem clrA_le (now : List Pair) : (clrA now).length ≤ now.length := Nat.le_trans (save0_len _ _) (Nat.le_trans (save0_len _ _) (Nat.le_trans (save0_len _ _) (Nat.le_trans (save0_len _ _) (Nat.le_trans (save0_len _ _) (clrN_le now 4)))))
theorem clrA_nd {now : List Pair} (h : Nd now) : Nd (clrA now) := (((((clrN_nd h 4).save _ _).save _ _).save _ _).save _ _).save _ _
theorem clrA_345 (now : List Pair) : ldF (clrA now) (keyC 3) = 0 ∧ ldF (clrA now) (keyC 4) = 0 ∧ ldF (clrA now) (keyC 5) = 0 := by
  have n34 : keyC 3 ≠ keyC 4 := keyC_ne (by decide) (by decide) (by decide)
  have n35 : keyC 3 ≠ keyC 5 := keyC_ne (by decide) (by decide) (by decide)
  have n31 : keyC 3 ≠ keyC 1 := keyC_ne (by decide) (by decide) (by decide)
  have n32 : keyC 3 ≠ keyC 2 := keyC_ne (by decide) (by decide) (by decide)
  have n45 : keyC 4 ≠ keyC 5 := keyC_ne (by decide) (by decide) (by decide)
  unfold clrA
  refine ⟨?_, ?_, ?_⟩
  · rw [ldF_ne _ _ _ n35, ldF_ne _ _ _ n34, ldF_ne _ _ _ n32, ldF_ne _ _ _ n31, ldF_same]
  · rw [ldF_ne _ _ _ n45, ldF_same]
  · rw [ldF_same]
/-- A ledger between blocks: m blocks old, n rows at most. -/
structure Cld (L : PLg) (m n : Nat) : Prop where
  op : L.open_ = false
  gl : L.gasLimit = 0
  s : L.sent = []
  t : L.took = []
  r : L.receipts = []
  bg : L.begun = zS
  sv : L.st.saved = []
  stl : L.st.stale = 0
  nd : Nd L.st.now
  c3 : ldF L.st.now (keyC 3) = 0
  c4 : ldF L.st.now (keyC 4) = 0
  c5 : ldF L.st.now (keyC 5) = 0
  nl : L.st.now.length ≤ n
  ht : L.height.toNat ≤ m
  cl : L.past.closed.toNat ≤ m
theorem Cld.mono {L : PLg} {m n m' n' : Nat} (h : Cld L m n) (hm : m ≤ m') (hn : n ≤ n') : Cld L m' n' := ⟨h.op, h.gl, h.s, h.t, h.r, h.bg, h.sv, h.stl, h.nd, h.c3, h.c4, h.c5, Nat.le_trans h.nl hn, Nat.le_trans h.ht hm, Nat.le_trans h.cl hm⟩
theorem rootS_self {S : PSt} (h : S.stale = 0) : rootS S = S := by
  have hu : updL S 64 = S.leaves := by
    apply Vector.ext
    intro i hi
    unfold updL
    rw [Vector.getElem_ofFn, h]
    simp
  unfold rootS
  rw [hu]
  obtain ⟨a, b, c, d, e⟩ := S
  dsimp only at h
  subst h
  rfl
theorem Cld.rot {L : PLg} {m n : Nat} (h : Cld L m n) : rotL L = L := by
  unfold rotL
  rw [rootS_self h.stl]
theorem Cld.exok {L : PLg} {m n : Nat} (h : Cld L m n) (g : UInt64) (X : List Tx) (hb : n + 20 * X.length + 100 < 1000000000) (hX : X.length ≤ 1000000) : ExOk L g X := by
  have hnl := h.nl
  refine ⟨hX, fun _ => ⟨h.sv, ⟨?_, ?_, ?_, ?_, ?_, ?_, ?_⟩, by omega⟩⟩
  · show (ldF L.st.now (keyC 3)).toNat ≤ 0
    rw [h.c3]; exact Nat.le_refl _
  · show (ldF L.st.now (keyC 4)).toNat ≤ 0
    rw [h.c4]; exact Nat.le_refl _
  · show (ldF L.st.now (keyC 5)).toNat ≤ 0
    rw [h.c5]; exact Nat.le_refl _
  · show 0 + X.length ≤ _; omega
  · show 0 + X.length ≤ _; omega
  · show 0 + X.length ≤ _; omega
  · show L.st.now.length + 20 * X.length + 20 < _; omega
/-- A block either leaves the ledger as it was, or closes. -/
theorem Cld.exe {L : PLg} {m n : Nat} (h : Cld L m n) (g : UInt64) (X : List Tx) (hm : m < 1000000000) : (exeF L g X).1.code ≠ 0 ∧ (exeF L g X).2 = L ∨ (exeF L g X).1.code = 0 ∧ Cld (exeF L g X).2 (m + 1) (n + 20 * X.length) := by
  have hbg : (begF L g).1 = 0 ∧ (begF L g).2 = begL L g ∨ (begF L g).1 ≠ 0 ∧ (begF L g).2 = L := by
    unfold begF
    rw [if_neg (by rw [h.op]; simp)]
    split
    · exact Or.inr ⟨by dsimp only; omega, rfl⟩
    · exact Or.inl ⟨rfl, rfl⟩
  unfold exeF
  rcases hbg with ⟨b1, b2⟩ | ⟨b1, b2⟩
  rotate_left 1
  · rw [if_neg b1]
    exact Or.inl ⟨b1, b2⟩
  rw [if_pos b1, b2]
  obtain ⟨g1, g2, g3⟩ := runF_nd (X := X) (L := begL L g) (i := 0) (rs := []) h.nd
  obtain ⟨s1, s2, s3, s4, s5, s6⟩ := runF_same (X := X) (L := begL L g) (i := 0) (rs := [])
  generalize runF (begL L g) X 0 [] = R at g1 g2 g3 s1 s2 s3 s4 s5 s6
  obtain ⟨⟨⟨rs, fl⟩, cd⟩, L3⟩ := R
  dsimp only at g1 g2 g3 s1 s2 s3 s4 s5 s6 ⊢
  by_cases hc : cd = 0
  · rw [if_pos hc]
    right
    have hdp : ¬ 0 < L3.st.saved.length := by rw [g2]; show ¬ 0 < L.st.saved.length; rw [h.sv]; simp
    have hen : endF L3 = ((smT L3 4, 0), endL L3) := by
      unfold endF
      rw [if_pos (by rw [s2]; rfl), if_neg hdp]
    rw [hen]
    refine ⟨rfl, ?_⟩
    dsimp only
    obtain ⟨q3, q4, q5⟩ := clrA_345 L3.st.now
    have hh : (smT L3 4).height.toNat ≤ m + 1 := by
      show L3.height.toNat ≤ _
      rw [s4]
      show (L.height + 1).toNat ≤ _
      rw [UInt64.toNat_add]
      have := h.ht
      have e1 : (1 : UInt64).toNat = 1 := rfl
      omega
    refine ⟨rfl, rfl, rfl, rfl, rfl, rfl, ?_, ?_, clrA_nd g1, q3, q4, q5, ?_, ?_, hh⟩
    · show (rootS L3.st).saved = []
      simp only [rootS]
      rw [g2]
      exact h.sv
    · show (rootS L3.st).stale = 0
      simp only [rootS]
    · show (clrA L3.st.now).length ≤ _
      have h1 := clrA_le L3.st.now
      have h2 := h.nl
      have h3 : (begL L g).st.now.length = L.st.now.length := rfl
      omega
    · show L3.height.toNat ≤ _
      exact hh
  · rw [if_neg hc]
    left
    refine ⟨hc, ?_⟩
    dsimp only
    have hab : abF L3 = (0, ubF (abL L3)) := by
      unfold abF
      rw [if_pos (by rw [s2]; rfl)]
    rw [hab]
    dsimp only
    obtain ⟨c, st, ht, op, gl, pa, bg, se, tk, rc⟩ := L
    obtain ⟨c3, st3, ht3, op3, gl3, pa3, bg3, se3, tk3, rc3⟩ := L3
    have k1 := h.op
    have k2 := h.gl
    have k3 := h.s
    have k4 := h.t
    have k5 := h.r
    have k6 := h.bg
    dsimp only [begL] at s1 s3 s4 s6 k1 k2 k3 k4 k5 k6
    subst s1
    subst s3
    subst s4
    subst s6
    subst k1
    subst k2
    subst k3
    subst k4
    subst k5
    subst k6
    unfold ubF abL
    dsimp only
    congr 1
    exact UInt64.toNat_inj.1 (by
      rw [UInt64.toNat_sub, UInt64.toNat_add]
      have := h.ht
      dsimp only at this
      have e1 : (1 : UInt64).toNat = 1 := rfl
      omega)
theorem topD_stale {S S' : PSt} (h : S.stale = 0) (h' : S'.stale = 0) (hl : S'.leaves = S.leaves) : rootD S' = rootD S := by
  have hu : ∀ S : PSt, S.stale = 0 → updL S 64 = S.leaves := fun S h => by
    apply Vector.ext
    intro i hi
    unfold updL
    rw [Vector.getElem_ofFn, h]
    simp
  unfold rootD
  rw [hu S h, hu S' h', hl]
/-- An empty block. -/
theorem Cld.exe1 {L : PLg} {m n : Nat} (h : Cld L m n) : (exeF L 1 []).1.code = 0 ∧ rootD (exeF L 1 []).2.st = rootD L.st := by
  have hb : begF L 1 = (0, begL L 1) := by
    unfold begF
    rw [if_neg (by rw [h.op]; simp), if_neg (by rintro (e | e); cases e; exact absurd e (by decide))]
  unfold exeF
  rw [hb]
  dsimp only
  rw [if_pos rfl]
  unfold runF
  dsimp only
  rw [if_pos rfl]
  have hdp : ¬ 0 < (begL L 1).st.saved.length := by show ¬ 0 < L.st.saved.length; rw [h.sv]; simp
  have hen : endF (begL L 1) = ((smT (begL L 1) 4, 0), endL (begL L 1)) := by
    unfold endF
    rw [if_pos (show (begL L 1).open_ = true from rfl), if_neg hdp]
  rw [hen]
  refine ⟨rfl, ?_⟩
  dsimp only
  have e1 : rootS (begL L 1).st = L.st := rootS_self h.stl
  have e2 : (endL (begL L 1)).st = { L.st with now := clrA L.st.now } := by
    unfold endL
    dsimp only
    rw [e1]
    rfl
  rw [e2]
  exact topD_stale h.stl h.stl rfl
theorem Cld.rep {L : PLg} {m n : Nat} (h : Cld L m n) (g : UInt64) (s s0 : Sl) (X : List Tx) (hm : m + 1 < 1000000000) : ((exeF L g X).1.code ≠ 0 ∧ (exeF L g X).2 = L ∧ repF L [(g, s, X), (1, s0, [])] 0 = ((0, rootD L.st, (exeF L g X).1.code), L)) ∨ ((exeF L g X).1.code = 0 ∧ Cld (exeF L g X).2 (m + 1) (n + 20 * X.length) ∧ Cld (exeF (exeF L g X).2 1 []).2 (m + 2) (n + 20 * X.length) ∧ (exeF (exeF L g X).2 1 []).1.code = 0 ∧ repF L [(g, s, X), (1, s0, [])] 0 = ((2, rootD (exeF L g X).2.st, 0), (exeF (exeF L g X).2 1 []).2)) := by
  rcases h.exe g X (show m < 1000000000 by omega) with ⟨c, e⟩ | ⟨c, hc⟩
  · left
    refine ⟨c, e, ?_⟩
    unfold repF
    rw [if_neg c, e, h.rot]
  · right
    have h1 := hc.exe1
    have h2 : Cld (exeF (exeF L g X).2 1 []).2 (m + 2) (n + 20 * X.length) := by
      rcases hc.exe 1 [] hm with ⟨c', _⟩ | ⟨_, q⟩
      · exact absurd h1.1 c'
      · exact q.mono (Nat.le_refl _) (by simp)
    refine ⟨c, hc, h2, h1.1, ?_⟩
    unfold repF
    rw [if_pos c]
    unfold repF
    rw [if_pos h1.1]
    unfold repF
    rw [h1.2, h2.rot]
theorem Cld.repok {L : PLg} {m n : Nat} (h : Cld L m n) (g : UInt64) (s s0 : Sl) (X : List Tx) (hm : m < 1000000000) (hb : n + 20 * X.length + 200 < 1000000000) (hX : X.length ≤ 1000000) : RepOk L [(g, s, X), (1, s0, [])] := by
  refine ⟨h.exok g X (by omega) hX, ?_, trivial⟩
  rcases h.exe g X hm with ⟨c, e⟩ | ⟨c, hc⟩
  · rw [e]; exact h.exok 1 [] (by simp; omega) (by simp)
  · exact hc.exok 1 [] (by simp; omega) (by simp)
theorem Cld.eql {L : PLg} {m n : Nat} (h : Cld L m n) : eqlF L L = true := by
  unfold eqlF
  rw [if_pos rfl, if_pos rfl, if_pos rfl, if_pos rfl, if_pos rfl, if_pos ((stoE_iff _ _).2 ⟨rfl, fun p hp => h.nd.get hp⟩), if_pos ((hisE_iff _ _).2 ⟨rfl, fun j _ _ => rfl⟩), if_pos (show sntE L L = true from eqA_self _), if_pos (show tkE L L = true from eqA_self _)]
  exact eqA_self _
theorem Cld.eqi {L : PLg} {m n : Nat} (h : Cld L m n) (hm : m < 1000000000) (hn : n + 20 < 1000000000) : EqI L := by
  have := h.nl
  have := h.cl
  refine ⟨⟨?_, ?_, ?_, ?_, ?_, ?_, by omega⟩, by omega, ?_⟩
  · rw [h.c3]; exact Nat.zero_le _
  · rw [h.c4]; exact Nat.zero_le _
  · rw [h.c5]; exact Nat.zero_le _
  · rw [h.r]; exact Nat.zero_le _
  · rw [h.s]; exact Nat.zero_le _
  · rw [h.t]; exact Nat.zero_le _
  · rw [h.r]; intro r hr; cases hr
theorem newL_cld (c : UInt8) : Cld (newL c) 0 0 := by
  refine ⟨rfl, rfl, rfl, rfl, rfl, ?_, rfl, rfl, List.nodup_nil, rfl, rfl, rfl, Nat.le_refl _, Nat.le_refl _, Nat.le_refl _⟩
  rfl
theorem newL_clo (c : UInt8) : cloL (newL c) = newL c := by
  unfold cloL
  rfl
end Go.Proofs.Qxb6500786aGreat
