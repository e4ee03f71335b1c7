import Derived.Test.Qxb6500786aGreatQf

import Derived.StillTailTactics
import Derived.Deep.QuietTactic
import Derived.BigQuiet
import Derived.Deep.RegionHeld
import Derived.Deep.CutRange
import Derived.Laws.ResultCell
import Derived.Laws.Rows
import Derived.DeepKeys
import Derived.DataBytes
import Derived.Laws.StructEq
import Derived.Laws.AppendOwn
import Derived.Laws.MakeOwn
import Derived.Lib.AppendStr
set_option linter.unusedSimpArgs false
set_option linter.unusedVariables false
namespace Go.Proofs.Qxb6500786aGreat
open Go.RowKit Go.Blk
attribute [local go_sem ↓] execOp_load execOp_store execOp_alloc
attribute [local go_sem] Tryz.ld24 Tryz.st24 Tryz.ld36 Tryz.st36 Tryz.ld28 Tryz.st28 Tryz.ld32 Tryz.st32 Tryz.ld33 Tryz.st33 Tryz.ld34 Tryz.st34 Tryz.ld5 Tryz.st5 Tryz.ld31 Tryz.st31 Tryz.ld30 Tryz.st30 Tryz.ld41 Tryz.st41 Tryz.ld44 Tryz.st44 Tryz.ld4 Tryz.st4 Tryz.ld173 Tryz.st173 Tryz.ld174 Tryz.st174 Tryz.ld95 Tryz.st95 Tryz.ld45 Tryz.st45 Tryz.ld207 Tryz.st207 Tryz.ld3 Tryz.st3 Tryz.ld189 Tryz.st189 Tryz.ld2 Tryz.st2 Tryz.ld9 Tryz.st9 Tryz.ld12 Tryz.st12 Tryz.ld21 Tryz.st21 Tryz.ld22 Tryz.st22 Tryz.ld46 Tryz.st46 Tryz.ld92 Tryz.st92 Tryz.ld94 Tryz.st94 Tryz.ld96 Tryz.st96 Tryz.ld97 Tryz.st97 Tryz.ld105 Tryz.st105 Tryz.ld117 Tryz.st117 Tryz.ld122 Tryz.st122 Tryz.ld123 Tryz.st123 Tryz.ld133 Tryz.st133 Tryz.ld155 Tryz.st155 Tryz.ld163 Tryz.st163 Tryz.ld190 Tryz.st190 Tryz.ld197 Tryz.st197 Tryz.ld201 Tryz.st201 Tryz.ld202 Tryz.st202 Tryz.ld209 Tryz.st209 Tryz.ld216 Tryz.st216 Tryz.ld230 Tryz.st230 Tryz.ld238 Tryz.st238 Tryz.ld242 Tryz.st242 Tryz.ld251 Tryz.st251 Tryz.ld260 Tryz.st260 Tryz.ld286 Tryz.st286 Tryz.ld292 Tryz.st292 Tryz.ld298 Tryz.st298 Tryz.ld309 Tryz.st309 Tryz.ld35 Tryz.st35 Tryz.ld48 Tryz.st48 Tryz.ld47 Tryz.st47 Tryz.ld79 Tryz.st79 Tryz.ld177 Tryz.st177 Tryz.ld180 Tryz.st180 Tryz.ld231 Tryz.st231 Tryz.ld232 Tryz.st232 Tryz.ld26 Tryz.st26 Tryz.ld38 Tryz.st38 Tryz.ld40 Tryz.st40 Tryz.ld43 Tryz.st43 Tryz.ld50 Tryz.st50 Tryz.ld52 Tryz.st52 Tryz.ld54 Tryz.st54 Tryz.ld81 Tryz.st81 Tryz.ld112 Tryz.st112 Tryz.ld120 Tryz.st120 Tryz.ld176 Tryz.st176 Tryz.ld179 Tryz.st179 Tryz.ld182 Tryz.st182 Tryz.ld184 Tryz.st184 Tryz.ld234 Tryz.st234 Tryz.ld236 Tryz.st236 Tryz.ld240 Tryz.st240 Tryz.ld246 Tryz.st246 Tryz.ld249 Tryz.st249 Tryz.al35 Tryz.al48 Tryz.al47 Tryz.al79 Tryz.al177 Tryz.al180 Tryz.al231 Tryz.al232 Tryz.al26 Tryz.al38 Tryz.al40 Tryz.al43 Tryz.al50 Tryz.al52 Tryz.al54 Tryz.al81 Tryz.al112 Tryz.al120 Tryz.al176 Tryz.al179 Tryz.al182 Tryz.al184 Tryz.al234 Tryz.al236 Tryz.al240 Tryz.al246 Tryz.al249
attribute [local go_sem] Player.length_enc Player.ok_enc Player.all_get Player.all_set Player.hand_get Player.hand_set Player.aside_get Player.aside_set Message.length_enc Message.ok_enc Message.all_get Message.all_set Message.kind_get Message.kind_set Message.from__get Message.from__set Message.to__get Message.to__set Message.sender_get Message.sender_set Message.receiver_get Message.receiver_set Message.seq_get Message.seq_set Message.token_get Message.token_set Message.amount_get Message.amount_set Message.size_get Message.size_set Message.payload_get Message.payload_set Tx.length_enc Tx.ok_enc Tx.all_get Tx.all_set Tx.kind_get Tx.kind_set Tx.chain_get Tx.chain_set Tx.from__get Tx.from__set Tx.nonce_get Tx.nonce_set Tx.fee_get Tx.fee_set Tx.to__get Tx.to__set Tx.dest_get Tx.dest_set Tx.token_get Tx.token_set Tx.amount_get Tx.amount_set Tx.size_get Tx.size_set Tx.payload_get Tx.payload_set Tx.msg_get Tx.msg_set Tx.msg_kind_get Tx.msg_kind_set Tx.msg_from__get Tx.msg_from__set Tx.msg_to__get Tx.msg_to__set Tx.msg_sender_get Tx.msg_sender_set Tx.msg_receiver_get Tx.msg_receiver_set Tx.msg_seq_get Tx.msg_seq_set Tx.msg_token_get Tx.msg_token_set Tx.msg_amount_get Tx.msg_amount_set Tx.msg_size_get Tx.msg_size_set Tx.msg_payload_get Tx.msg_payload_set GOp.length_enc GOp.ok_enc GOp.all_get GOp.all_set GOp.kind_get GOp.kind_set GOp.tx_get GOp.tx_set GOp.txs_get GOp.txs_set GOp.gas_get GOp.gas_set GOp.acct_get GOp.acct_set GOp.token_get GOp.token_set GOp.chain_get GOp.chain_set GOp.seq_get GOp.seq_set GOp.tx_kind_get GOp.tx_kind_set GOp.tx_chain_get GOp.tx_chain_set GOp.tx_from__get GOp.tx_from__set GOp.tx_nonce_get GOp.tx_nonce_set GOp.tx_fee_get GOp.tx_fee_set GOp.tx_to__get GOp.tx_to__set GOp.tx_dest_get GOp.tx_dest_set GOp.tx_token_get GOp.tx_token_set GOp.tx_amount_get GOp.tx_amount_set GOp.tx_size_get GOp.tx_size_set GOp.tx_payload_get GOp.tx_payload_set GOp.tx_msg_get GOp.tx_msg_set GOp.tx_msg_kind_get GOp.tx_msg_kind_set GOp.tx_msg_from__get GOp.tx_msg_from__set GOp.tx_msg_to__get GOp.tx_msg_to__set GOp.tx_msg_sender_get GOp.tx_msg_sender_set GOp.tx_msg_receiver_get GOp.tx_msg_receiver_set GOp.tx_msg_seq_get GOp.tx_msg_seq_set GOp.tx_msg_token_get GOp.tx_msg_token_set GOp.tx_msg_amount_get GOp.tx_msg_amount_set GOp.tx_msg_size_get GOp.tx_msg_size_set GOp.tx_msg_payload_get GOp.tx_msg_payload_set Summary.length_enc Summary.ok_enc Summary.all_get Summary.all_set Summary.height_get Summary.height_set Summary.txs_get Summary.txs_set Summary.gas_get Summary.gas_set Summary.fees_get Summary.fees_set Summary.sent_get Summary.sent_set Summary.took_get Summary.took_set Summary.minted_get Summary.minted_set Summary.burned_get Summary.burned_set Summary.root_get Summary.root_set Detail.length_enc Detail.ok_enc Detail.all_get Detail.all_set Detail.code_get Detail.code_set Detail.have__get Detail.have__set Detail.need_get Detail.need_set Slot.length_enc Slot.ok_enc Slot.all_get Slot.all_set Slot.nonce_get Slot.nonce_set Slot.balances_get Slot.balances_set Tree.length_enc Tree.ok_enc Tree.all_get Tree.all_set Tree.leaves_get Tree.leaves_set Mark.length_enc Mark.ok_enc Mark.all_get Mark.all_set Mark.from__get Mark.from__set Mark.seq_get Mark.seq_set Receipt.length_enc Receipt.ok_enc Receipt.all_get Receipt.all_set Receipt.code_get Receipt.code_set Receipt.hash_get Receipt.hash_set Receipt.index_get Receipt.index_set Receipt.gas_get Receipt.gas_set Receipt.fee_get Receipt.fee_set Receipt.hasSent_get Receipt.hasSent_set Receipt.sent_get Receipt.sent_set Receipt.hasTook_get Receipt.hasTook_set Receipt.took_get Receipt.took_set Receipt.sent_kind_get Receipt.sent_kind_set Receipt.sent_from__get Receipt.sent_from__set Receipt.sent_to__get Receipt.sent_to__set Receipt.sent_sender_get Receipt.sent_sender_set Receipt.sent_receiver_get Receipt.sent_receiver_set Receipt.sent_seq_get Receipt.sent_seq_set Receipt.sent_token_get Receipt.sent_token_set Receipt.sent_amount_get Receipt.sent_amount_set Receipt.sent_size_get Receipt.sent_size_set Receipt.sent_payload_get Receipt.sent_payload_set Receipt.took_kind_get Receipt.took_kind_set Receipt.took_from__get Receipt.took_from__set Receipt.took_to__get Receipt.took_to__set Receipt.took_sender_get Receipt.took_sender_set Receipt.took_receiver_get Receipt.took_receiver_set Receipt.took_seq_get Receipt.took_seq_set Receipt.took_token_get Receipt.took_token_set Receipt.took_amount_get Receipt.took_amount_set Receipt.took_size_get Receipt.took_size_set Receipt.took_payload_get Receipt.took_payload_set Store.length_enc Store.ok_enc Store.all_get Store.all_set Store.now_get Store.now_set Store.saved_get Store.saved_set GState.length_enc GState.ok_enc GState.all_get GState.all_set GState.kv_get GState.kv_set GState.tree_get GState.tree_set GState.stale_get GState.stale_set GState.touched_get GState.touched_set GState.kv_now_get GState.kv_now_set GState.kv_saved_get GState.kv_saved_set GState.tree_leaves_get GState.tree_leaves_set History.length_enc History.ok_enc History.all_get History.all_set History.ring_get History.ring_set History.closed_get History.closed_set Ledger.length_enc Ledger.ok_enc Ledger.all_get Ledger.all_set Ledger.chain_get Ledger.chain_set Ledger.st_get Ledger.st_set Ledger.height_get Ledger.height_set Ledger.open__get Ledger.open__set Ledger.gasLimit_get Ledger.gasLimit_set Ledger.past_get Ledger.past_set Ledger.begun_get Ledger.begun_set Ledger.sent_get Ledger.sent_set Ledger.took_get Ledger.took_set Ledger.receipts_get Ledger.receipts_set Ledger.st_kv_get Ledger.st_kv_set Ledger.st_tree_get Ledger.st_tree_set Ledger.st_stale_get Ledger.st_stale_set Ledger.st_touched_get Ledger.st_touched_set Ledger.st_kv_now_get Ledger.st_kv_now_set Ledger.st_kv_saved_get Ledger.st_kv_saved_set Ledger.st_tree_leaves_get Ledger.st_tree_leaves_set Ledger.past_ring_get Ledger.past_ring_set Ledger.past_closed_get Ledger.past_closed_set Ledger.begun_kv_get Ledger.begun_kv_set Ledger.begun_tree_get Ledger.begun_tree_set Ledger.begun_stale_get Ledger.begun_stale_set Ledger.begun_touched_get Ledger.begun_touched_set Ledger.begun_kv_now_get Ledger.begun_kv_now_set Ledger.begun_kv_saved_get Ledger.begun_kv_saved_set Ledger.begun_tree_leaves_get Ledger.begun_tree_leaves_set Purse.length_enc Purse.ok_enc Purse.all_get Purse.all_set Purse.st_get Purse.st_set Purse.n_get Purse.n_set Purse.account_get Purse.account_set Purse.token_get Purse.token_set Purse.amount_get Purse.amount_set Plan.length_enc Plan.ok_enc Plan.all_get Plan.all_set Plan.purse_get Plan.purse_set Plan.nonce_get Plan.nonce_set Plan.gasUsed_get Plan.gasUsed_set Plan.fees_get Plan.fees_set Plan.hasSupply_get Plan.hasSupply_set Plan.token_get Plan.token_set Plan.supply_get Plan.supply_set Plan.flowAt_get Plan.flowAt_set Plan.flow_get Plan.flow_set Plan.receipt_get Plan.receipt_set Plan.purse_st_get Plan.purse_st_set Plan.purse_n_get Plan.purse_n_set Plan.purse_account_get Plan.purse_account_set Plan.purse_token_get Plan.purse_token_set Plan.purse_amount_get Plan.purse_amount_set Plan.receipt_code_get Plan.receipt_code_set Plan.receipt_hash_get Plan.receipt_hash_set Plan.receipt_index_get Plan.receipt_index_set Plan.receipt_gas_get Plan.receipt_gas_set Plan.receipt_fee_get Plan.receipt_fee_set Plan.receipt_hasSent_get Plan.receipt_hasSent_set Plan.receipt_sent_get Plan.receipt_sent_set Plan.receipt_hasTook_get Plan.receipt_hasTook_set Plan.receipt_took_get Plan.receipt_took_set Plan.receipt_sent_kind_get Plan.receipt_sent_kind_set Plan.receipt_sent_from__get Plan.receipt_sent_from__set Plan.receipt_sent_to__get Plan.receipt_sent_to__set Plan.receipt_sent_sender_get Plan.receipt_sent_sender_set Plan.receipt_sent_receiver_get Plan.receipt_sent_receiver_set Plan.receipt_sent_seq_get Plan.receipt_sent_seq_set Plan.receipt_sent_token_get Plan.receipt_sent_token_set Plan.receipt_sent_amount_get Plan.receipt_sent_amount_set Plan.receipt_sent_size_get Plan.receipt_sent_size_set Plan.receipt_sent_payload_get Plan.receipt_sent_payload_set Plan.receipt_took_kind_get Plan.receipt_took_kind_set Plan.receipt_took_from__get Plan.receipt_took_from__set Plan.receipt_took_to__get Plan.receipt_took_to__set Plan.receipt_took_sender_get Plan.receipt_took_sender_set Plan.receipt_took_receiver_get Plan.receipt_took_receiver_set Plan.receipt_took_seq_get Plan.receipt_took_seq_set Plan.receipt_took_token_get Plan.receipt_took_token_set Plan.receipt_took_amount_get Plan.receipt_took_amount_set Plan.receipt_took_size_get Plan.receipt_took_size_set Plan.receipt_took_payload_get Plan.receipt_took_payload_set Move.length_enc Move.ok_enc Move.all_get Move.all_set Move.account_get Move.account_set Move.token_get Move.token_set Move.down_get Move.down_set Move.amount_get Move.amount_set Books.length_enc Books.ok_enc Books.all_get Books.all_set Books.sums_get Books.sums_set Books.stored_get Books.stored_set Books.marks_get Books.marks_set Pair.length_enc Pair.ok_enc Pair.all_get Pair.all_set Pair.key_get Pair.key_set Pair.value_get Pair.value_set
attribute [local go_sem] size_put size_ext blk_put free_put blk_alloc free_alloc blk_drew free_drew blk_ext free_ext lookOr_some putOr_some segAt_some cellAt_some storeIn_some put_put put_alloc_new length_arr ok_arr_u8 ok_arr_u32 ok_arr_u64 ok_arr_i64 ok_arr_sl cellsV_agg cellsV_int cellsV_bool cellsV_string cellsV_pointer cellsV_slice cellsV_sl ok_int ok_bool ok_string ok_pointer ok_slice ok_sl toList_arr seg_arr set_arr nth_splice nth_splice0 seg_splice seg_splice0 splice_splice splice_splice0 length_splice_if
attribute [local go_sem ↓] execOp_box
attribute [local go_sem] box_run nth_arr_u8 put_arr_u8 blk_drewN free_drewN put_drewN blk_raw free_raw
/-- The leaves that are not stale are those of the store. -/
def CohS (S : PSt) : Prop := ∀ (i : Nat) (h : i < 64), S.stale.toNat.testBit i = false → S.leaves[i] = leafF S.now i
/-- Two stores differ only in the slots of m. -/
def LvD (l l' : List Pair) (m : UInt64) : Prop := ∀ i, i < 64 → m.toNat.testBit i = false → leafF l i = leafF l' i
theorem leaf_congr {l l' : List Pair} {i : Nat} (hN : ldF l (keyN (UInt8.ofNat i)) = ldF l' (keyN (UInt8.ofNat i))) (hB : ∀ t, ldF l (keyB (UInt8.ofNat i) t) = ldF l' (keyB (UInt8.ofNat i) t)) : leafF l i = leafF l' i := by
  have h1 : ∀ t, slH l (UInt8.ofNat i) t = slH l' (UInt8.ofNat i) t := fun t => by
    induction t with
    | zero => exact hN
    | succ t ih => unfold slH; rw [ih, hB]
  have h2 : ∀ t, slB l (UInt8.ofNat i) t = slB l' (UInt8.ofNat i) t := fun t => by
    induction t with
    | zero => unfold slB; rw [hN]
    | succ t ih => unfold slB; rw [ih, hB]
  unfold leafF
  rw [h1, h2]
attribute [local irreducible] leafF updL topD
theorem LvD.refl (l : List Pair) (m : UInt64) : LvD l l m := fun _ _ _ => rfl
theorem or_bit {a b : UInt64} {i : Nat} (h : (a ||| b).toNat.testBit i = false) : a.toNat.testBit i = false ∧ b.toNat.testBit i = false := by
  rw [UInt64.toNat_or, Nat.testBit_or] at h
  simpa using h
theorem LvD.trans {a b c : List Pair} {m m' : UInt64} (h : LvD a b m) (h2 : LvD b c m') : LvD a c (m ||| m') := fun i hi hb => (h i hi (or_bit hb).1).trans (h2 i hi (or_bit hb).2)
theorem LvD.save {l : List Pair} {k v : UInt64} (hN : ∀ a, k ≠ keyN a) (hB : ∀ a t, k ≠ keyB a t) (m : UInt64) : LvD l (saveF l k v) m := fun i hi hb => by
  refine leaf_congr ?_ (fun t => ?_)
  · rw [ldF_save, if_neg (fun q => hN _ q.symm)]
  · rw [ldF_save, if_neg (fun q => hB _ _ q.symm)]
theorem LvD.slot {l : List Pair} {k v : UInt64} {a : UInt8} (ha : a.toNat < 64) (hk : k = keyN a ∨ ∃ t, k = keyB a t) : LvD l (saveF l k v) (bitN a.toNat) := fun i hi hb => by
  rw [bitN_bit _ _ ha] at hb
  have hne : a.toNat ≠ i := by simpa using hb
  have hne2 : UInt8.ofNat i ≠ a := fun e => hne ((ofNat8_eq (by omega)).1 e.symm)
  refine leaf_congr ?_ (fun t => ?_)
  · rw [ldF_save, if_neg]
    rcases hk with rfl | ⟨t, rfl⟩
    · rw [kNN]; exact hne2
    · exact ne_of_false (kNB _ _ _)
  · rw [ldF_save, if_neg]
    rcases hk with rfl | ⟨s, rfl⟩
    · exact ne_of_false (kBN _ _ _)
    · rw [kBB]; exact fun q => hne2 q.1
/-- A state changed in the slots that it notes. -/
structure ChS (S S' : PSt) : Prop where
  sv : S'.saved = S.saved
  lf : S'.leaves = S.leaves
  ex : ∃ m : UInt64, S'.stale = S.stale ||| m ∧ (∀ (j : Nat) (hj : j < 9), S'.touched[j] = if j = S.saved.length then S.touched[j] ||| m else S.touched[j]) ∧ LvD S.now S'.now m
theorem ChS.refl (S : PSt) : ChS S S := ⟨rfl, rfl, 0, by simp, fun j hj => by split <;> simp, LvD.refl _ _⟩
theorem ChS.trans {S S' S'' : PSt} (h : ChS S S') (h2 : ChS S' S'') : ChS S S'' := by
  obtain ⟨a1, a2, m, a3, a4, a5⟩ := h
  obtain ⟨b1, b2, m', b3, b4, b5⟩ := h2
  refine ⟨b1.trans a1, b2.trans a2, m ||| m', ?_, fun j hj => ?_, a5.trans b5⟩
  · rw [b3, a3, UInt64.or_assoc]
  · rw [b4 j hj, a4 j hj, a1]
    by_cases e : j = S.saved.length
    · rw [if_pos e, if_pos e, if_pos e, UInt64.or_assoc]
    · rw [if_neg e, if_neg e, if_neg e]
theorem ChS.save {S : PSt} {k v : UInt64} (hN : ∀ a, k ≠ keyN a) (hB : ∀ a t, k ≠ keyB a t) : ChS S { S with now := saveF S.now k v } := ⟨rfl, rfl, 0, by simp, fun j hj => by split <;> simp, LvD.save hN hB 0⟩
theorem ChS.C (S : PSt) (c v : UInt64) : ChS S { S with now := saveF S.now (keyC c) v } := ChS.save (fun a => ne_of_false (kCN c a)) (fun a t => ne_of_false (kCB c a t))
theorem ChS.S (S : PSt) (t : UInt8) (v : UInt64) : ChS S { S with now := saveF S.now (keyS t) v } := ChS.save (fun a => ne_of_false (kSN t a)) (fun a s => ne_of_false (kSB t a s))
theorem ChS.M (S : PSt) (f : UInt8) (s v : UInt64) : ChS S { S with now := saveF S.now (keyM f s) v } := ChS.save (fun a => ne_of_false (kMN f s a)) (fun a t => ne_of_false (kMB f s a t))
theorem ChS.slot {S : PSt} (h8 : S.saved.length ≤ 8) {k v : UInt64} {a : UInt8} (ha : a.toNat < 64) (hk : k = keyN a ∨ ∃ t, k = keyB a t) : ChS S { touchF S a with now := saveF S.now k v } := by
  unfold touchF
  rw [dif_pos (by omega)]
  refine ⟨rfl, rfl, bitN a.toNat, rfl, fun j hj => ?_, LvD.slot ha hk⟩
  show (S.touched.set S.saved.length (S.touched[S.saved.length] ||| bitN a.toNat))[j] = _
  rw [Vector.getElem_set]
  by_cases e : j = S.saved.length
  · subst e; simp
  · rw [if_neg (fun q => e q.symm), if_neg e]
theorem ChS.fl : ∀ (l : List PE) (S : PSt), S.saved.length ≤ 8 → (∀ e ∈ l, e.a.toNat < 64) → ChS S (flF S l)
  | [], S, _, _ => ChS.refl S
  | e :: l, S, h8, hl => by
    have h1 : ChS S { touchF S e.a with now := saveF S.now (keyB e.a e.t) e.v } := ChS.slot h8 (hl e (List.mem_cons_self ..)) (.inr ⟨_, rfl⟩)
    exact h1.trans (ChS.fl l _ (by rw [h1.sv]; exact h8) (fun q hq => hl q (List.mem_cons_of_mem _ hq)))
theorem ChS.acc {L : PLg} {x : Tx} (hj : JOk L x) (h8 : L.st.saved.length ≤ 8) : ChS L.st (accL L x).st := by
  have hs := shp_ok hj.shp
  have h0 : ChS L.st (enS0 L.st x (plnH L 0 x) (purL L.st.now x)) := by
    have f := ChS.fl (purL L.st.now x) L.st h8 (fun e he => (purL_mem hs he).1)
    exact f.trans (ChS.slot (by rw [f.sv]; exact h8) hs.from_ (.inl rfl))
  have h1 : ChS L.st (enS1 (enS0 L.st x (plnH L 0 x) (purL L.st.now x)) (plnH L 0 x)) := by
    unfold enS1
    split
    · exact (h0.trans (ChS.S _ _ _)).trans (ChS.C _ _ _)
    · exact h0
  have h2 : ChS L.st (enS L.st x (plnH L 0 x) (purL L.st.now x)) := ((h1.trans (ChS.C _ _ _)).trans (ChS.C _ _ _)).trans (ChS.C _ _ _)
  show ChS L.st (enactF L x (plnH L 0 x) (purL L.st.now x)).st
  unfold enactF
  generalize enS L.st x (plnH L 0 x) (purL L.st.now x) = S2 at h2 ⊢
  generalize plnH L 0 x = P
  split
  · exact h2.trans (ChS.C _ _ _)
  · split
    · have h3 := h2.trans (ChS.C S2 5 (ldF S2.now (keyC 5) + 1))
      generalize hS3 : ({ S2 with now := saveF S2.now (keyC 5) (ldF S2.now (keyC 5) + 1) } : PSt) = S3 at h3
      have h4 := h3.trans (ChS.M S3 P.receipt.took.from_ P.receipt.took.seq 1)
      have h5 := h4.trans (ChS.C _ 6 (ldF (saveF S3.now (keyM P.receipt.took.from_ P.receipt.took.seq) 1) (keyC 6) + 1))
      exact h5
    · exact h2
/-- Each level differs from the one before it in the slots noted there. -/
def Chn (S : PSt) : Prop := ∀ (j : Nat) (h : j + 1 < 9) (l l' : List Pair), (S.saved ++ [S.now])[j]? = some l → (S.saved ++ [S.now])[j + 1]? = some l' → LvD l l' (S.touched[j + 1])
theorem CohS.ch {S S' : PSt} (h : CohS S) (hc : ChS S S') : CohS S' := by
  obtain ⟨a1, a2, m, a3, a4, a5⟩ := hc
  intro i hi hb
  rw [a3] at hb
  have h1 := h i hi (or_bit hb).1
  have h2 := a5 i hi (or_bit hb).2
  rw [← h2, ← h1]
  simp only [a2]
theorem get_snoc {α : Type} {l : List α} {x y : α} {j : Nat} (h : (l ++ [x])[j]? = some y) : (j < l.length ∧ l[j]? = some y) ∨ (j = l.length ∧ y = x) := by
  by_cases e : j < l.length
  · rw [List.getElem?_append_left e] at h
    exact .inl ⟨e, h⟩
  · rw [List.getElem?_append_right (by omega)] at h
    obtain ⟨h1, h2⟩ := List.getElem?_eq_some_iff.1 h
    have h1' : j - l.length < 1 := h1
    refine .inr ⟨by omega, ?_⟩
    rw [← h2]
    have : j - l.length = 0 := by omega
    simp [this]
theorem Chn.ch {S S' : PSt} (h : Chn S) (hc : ChS S S') : Chn S' := by
  obtain ⟨a1, a2, m, a3, a4, a5⟩ := hc
  intro j hj l l' h1 h2
  rw [a1] at h1 h2
  rw [a4 (j + 1) hj]
  rcases get_snoc h2 with ⟨g1, g2⟩ | ⟨g1, g2⟩
  · rw [if_neg (by omega)]
    refine h j hj l l' ?_ ?_
    · rw [List.getElem?_append_left (by omega)] at h1 ⊢; exact h1
    · rw [List.getElem?_append_left g1]; exact g2
  · rw [if_pos g1, g2]
    refine LvD.trans (h j hj l S.now ?_ ?_) a5
    · rw [List.getElem?_append_left (by omega)] at h1 ⊢; exact h1
    · rw [List.getElem?_append_right (by omega), g1]; simp
/-- The root of a store. -/
def rtN (now : List Pair) : Dig := topD (Vector.ofFn fun i : Fin 64 => leafF now i.val)
theorem CohS.upd {S : PSt} (h : CohS S) : updL S 64 = Vector.ofFn fun i : Fin 64 => leafF S.now i.val := by
  apply Vector.ext
  intro i hi
  unfold updL
  rw [Vector.getElem_ofFn, Vector.getElem_ofFn]
  dsimp only
  by_cases e : S.stale.toNat.testBit i = true
  · rw [if_pos ⟨hi, e⟩]
  · rw [if_neg (fun q => e q.2)]
    exact h i hi (by simpa using e)
theorem CohS.root {S : PSt} (h : CohS S) : rootD S = rtN S.now := by
  unfold rootD rtN
  rw [h.upd]
theorem CohS.rt {S : PSt} (h : CohS S) : CohS (rootS S) := by
  intro i hi _
  show (updL S 64)[i] = leafF S.now i
  simp only [h.upd, Vector.getElem_ofFn]
theorem rtN_congr {l l' : List Pair} (h : ∀ i, i < 64 → leafF l i = leafF l' i) : rtN l = rtN l' := by
  have e : (Vector.ofFn fun i : Fin 64 => leafF l i.val) = Vector.ofFn fun i : Fin 64 => leafF l' i.val := by
    apply Vector.ext
    intro i hi
    rw [Vector.getElem_ofFn, Vector.getElem_ofFn]
    exact h i hi
  unfold rtN
  rw [e]
theorem leaf_clr (l : List Pair) (i : Nat) : leafF (clrA l) i = leafF l i := leaf_congr (clrA_keep l (fun c _ => ne_of_false (kNC _ c))) (fun t => clrA_keep l (fun c _ => ne_of_false (kBC _ t c)))
/-- A ledger whose tree is in step with its store. -/
structure CI (L : PLg) : Prop where
  coh : CohS L.st
  chn : Chn L.st
  bg : L.open_ = true → CohS L.begun ∧ L.begun.saved = []
theorem Chn.nil {S : PSt} (h : S.saved = []) : Chn S := by
  intro j hj l l' h1 h2
  rw [h] at h2
  simp at h2
theorem CI.evt {k : Nat} {L L' : PLg} (h : CI L) (h8 : L.st.saved.length ≤ 8) (hcl : L.open_ = false → L.st.saved = []) (he : Evt L L' k) : CI L' := by
  cases he with
  | app x hj h0 =>
    have hc := ChS.acc hj h8
    obtain ⟨s1, s2, s3, s4, s5, s6, s7, s8⟩ := enactF_same L x (plnH L 0 x) (purL L.st.now x)
    refine ⟨h.coh.ch hc, h.chn.ch hc, fun q => ?_⟩
    have e2 : (accL L x).begun = L.begun := s2
    rw [e2]
    exact h.bg hj.opn
  | beg g ho hg hg2 => exact ⟨h.coh, h.chn, fun _ => ⟨h.coh, hcl ho⟩⟩
  | en ho hs =>
    refine ⟨?_, Chn.nil hs, fun q => (by cases q)⟩
    intro i hi _
    show (updL L.st 64)[i] = leafF (clrA L.st.now) i
    rw [leaf_clr]
    simp only [h.coh.upd, Vector.getElem_ofFn]
  | ck ho h9 =>
    have e : (ckF L.st).2 = { L.st with saved := L.st.saved ++ [L.st.now], touched := L.st.touched.set (L.st.saved.length + 1) 0 } := by
      unfold ckF; rw [dif_pos h9]
    rw [e]
    refine ⟨h.coh, ?_, h.bg⟩
    intro j hj l l' h1 h2
    have h1' : ((L.st.saved ++ [L.st.now]) ++ [L.st.now])[j]? = some l := h1
    have h2' : ((L.st.saved ++ [L.st.now]) ++ [L.st.now])[j + 1]? = some l' := h2
    show LvD l l' ((L.st.touched.set (L.st.saved.length + 1) 0)[j + 1])
    rw [Vector.getElem_set]
    have hlen : (L.st.saved ++ [L.st.now]).length = L.st.saved.length + 1 := by rw [List.length_append]; rfl
    rcases get_snoc h2' with ⟨g1, g2⟩ | ⟨g1, g2⟩
    · rw [if_neg (by omega)]
      rw [List.getElem?_append_left (by omega)] at h1'
      exact h.chn j hj l l' h1' g2
    · rw [List.getElem?_append_left (by omega)] at h1'
      rcases get_snoc h1' with ⟨q1, q2⟩ | ⟨q1, q2⟩
      · omega
      · rw [q2, g2]; exact LvD.refl _ _
  | rv h0 h8 =>
    obtain ⟨s, l0, hsl⟩ : ∃ s l0, L.st.saved = s ++ [l0] := by
      cases hq : L.st.saved.reverse with
      | nil => rw [List.reverse_eq_nil_iff] at hq; rw [hq] at h0; cases h0
      | cons a b => exact ⟨b.reverse, a, by rw [← List.reverse_reverse L.st.saved, hq, List.reverse_cons]⟩
    have hlen : L.st.saved.length = s.length + 1 := by rw [hsl, List.length_append]; rfl
    have e : (rvF L.st).2 = { L.st with now := l0, saved := s, stale := L.st.stale ||| L.st.touched[L.st.saved.length]'(by omega), touched := L.st.touched.set L.st.saved.length 0 (by omega) } := by
      unfold rvF
      rw [dif_pos ⟨h0, by omega⟩]
      have e1 : (L.st.saved.getLast?).getD [] = l0 := by rw [hsl, List.getLast?_concat]; rfl
      have e2 : L.st.saved.take (L.st.saved.length - 1) = s := by rw [hlen]; rw [hsl]; simp
      dsimp only
      rw [e1, e2]
    rw [e]
    have hlast := h.chn s.length (by omega) l0 L.st.now (by rw [hsl]; simp) (by rw [hsl]; simp)
    refine ⟨?_, ?_, h.bg⟩
    · intro i hi hb
      have hb' : (L.st.stale ||| L.st.touched[L.st.saved.length]'(by omega)).toNat.testBit i = false := hb
      have h2 := hlast i hi (by have := (or_bit hb').2; simpa only [hlen] using this)
      show L.st.leaves[i] = leafF l0 i
      rw [h2]
      exact h.coh i hi (or_bit hb').1
    · intro j hj l l' h1 h2
      have h1' : (s ++ [l0])[j]? = some l := h1
      have h2' : (s ++ [l0])[j + 1]? = some l' := h2
      have hj2 : j + 1 < s.length + 1 := by
        have := (List.getElem?_eq_some_iff.1 h2').1
        rw [List.length_append] at this
        exact this
      show LvD l l' ((L.st.touched.set L.st.saved.length 0 (by omega))[j + 1])
      rw [Vector.getElem_set, if_neg (by omega)]
      refine h.chn j hj l l' ?_ ?_
      · rw [hsl, List.getElem?_append_left (by rw [List.length_append]; show j < s.length + 1; omega)]; exact h1'
      · rw [hsl, List.getElem?_append_left (by rw [List.length_append]; show j + 1 < s.length + 1; omega)]; exact h2'
  | cm h0 h8 =>
    obtain ⟨s, l0, hsl⟩ : ∃ s l0, L.st.saved = s ++ [l0] := by
      cases hq : L.st.saved.reverse with
      | nil => rw [List.reverse_eq_nil_iff] at hq; rw [hq] at h0; cases h0
      | cons a b => exact ⟨b.reverse, a, by rw [← List.reverse_reverse L.st.saved, hq, List.reverse_cons]⟩
    have hlen : L.st.saved.length = s.length + 1 := by rw [hsl, List.length_append]; rfl
    have e : (cmF L.st).2 = { L.st with saved := s, touched := (L.st.touched.set s.length (L.st.touched[s.length]'(by omega) ||| L.st.touched[s.length + 1]'(by omega)) (by omega)).set (s.length + 1) 0 (by omega) } := by
      unfold cmF
      rw [dif_pos ⟨h0, by omega⟩]
      have e2 : L.st.saved.take s.length = s := by rw [hsl]; simp
      simp only [hlen, Nat.add_sub_cancel, e2]
    rw [e]
    refine ⟨h.coh, ?_, h.bg⟩
    intro j hj l l' h1 h2
    have h1' : (s ++ [L.st.now])[j]? = some l := h1
    have h2' : (s ++ [L.st.now])[j + 1]? = some l' := h2
    show LvD l l' (((L.st.touched.set s.length (L.st.touched[s.length]'(by omega) ||| L.st.touched[s.length + 1]'(by omega)) (by omega)).set (s.length + 1) 0 (by omega))[j + 1])
    rw [Vector.getElem_set, Vector.getElem_set]
    rcases get_snoc h2' with ⟨g1, g2⟩ | ⟨g1, g2⟩
    · rw [if_neg (by omega), if_neg (by omega)]
      refine h.chn j hj l l' ?_ ?_
      · rw [hsl, List.getElem?_append_left (by rw [List.length_append]; show j < s.length + 1; omega)]
        rw [List.getElem?_append_left (by omega)] at h1' ⊢
        exact h1'
      · rw [hsl, List.getElem?_append_left (by rw [List.length_append]; show j + 1 < s.length + 1; omega), List.getElem?_append_left g1]
        exact g2
    · rw [if_neg (by omega), if_pos (by omega), g2]
      have q1 := h.chn j hj l l0 (by
        rw [hsl, List.getElem?_append_left (by rw [List.length_append]; show j < s.length + 1; omega)]
        rw [List.getElem?_append_left (by omega)] at h1' ⊢
        exact h1') (by rw [hsl, g1]; simp)
      have q2 := h.chn (j + 1) (by omega) l0 L.st.now (by rw [hsl, g1]; simp) (by rw [hsl, g1]; simp)
      have q3 := q1.trans q2
      simp only [← g1] at *
      exact q3
  | ab ho =>
    obtain ⟨b1, b2⟩ := h.bg ho
    exact ⟨b1, Chn.nil b2, fun q => (by cases q)⟩
  | rot =>
    refine ⟨h.coh.rt, ?_, h.bg⟩
    intro j hj l l' h1 h2
    exact h.chn j hj l l' h1 h2
  | clo => exact ⟨h.coh, h.chn, h.bg⟩
theorem leaf_nil (i : Nat) : leafF [] i = empL := by
  have : slH [] (UInt8.ofNat i) 4 = 0 := by
    have h : ∀ t, slH [] (UInt8.ofNat i) t = 0 := fun t => by
      induction t with
      | zero => rfl
      | succ t ih =>
        unfold slH
        rw [ih]
        show (0 : UInt64) ||| 0 = 0
        decide
    exact h 4
  unfold leafF
  rw [if_neg (by rw [this]; simp)]
theorem newL_ci (c : UInt8) : CI (newL c) := by
  refine ⟨?_, Chn.nil rfl, fun q => (by cases q)⟩
  intro i hi _
  show (Vector.replicate 64 empL)[i] = leafF [] i
  rw [leaf_nil, Vector.getElem_replicate]
end Go.Proofs.Qxb6500786aGreat
