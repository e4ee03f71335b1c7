import Derived.DeepKeys2
import Derived.Test.Qxb6500786aGreatQb
import Derived.Test.Qxb6500786aGreatNf
import Derived.Test.Qxb6500786aGreatNj

import Derived.StillTailTactics
import Derived.Deep.QuietTactic
import Derived.BigQuiet
import Derived.Deep.RegionHeld
import Derived.Deep.CutRange
import Derived.Laws.ResultCell
import Derived.Laws.Rows
import Derived.DeepKeys
import Derived.DataBytes
import Derived.Laws.StructEq
import Derived.Laws.AppendOwn
import Derived.Laws.MakeOwn
import Derived.Lib.AppendStr
set_option linter.unusedSimpArgs false
set_option linter.unusedVariables false
namespace Go.Proofs.Qxb6500786aGreat
open Go.RowKit Go.Blk
attribute [local go_sem ↓] execOp_load execOp_store execOp_alloc
attribute [local go_sem] Tryz.ld24 Tryz.st24 Tryz.ld36 Tryz.st36 Tryz.ld28 Tryz.st28 Tryz.ld32 Tryz.st32 Tryz.ld33 Tryz.st33 Tryz.ld34 Tryz.st34 Tryz.ld5 Tryz.st5 Tryz.ld31 Tryz.st31 Tryz.ld30 Tryz.st30 Tryz.ld41 Tryz.st41 Tryz.ld44 Tryz.st44 Tryz.ld4 Tryz.st4 Tryz.ld173 Tryz.st173 Tryz.ld174 Tryz.st174 Tryz.ld95 Tryz.st95 Tryz.ld45 Tryz.st45 Tryz.ld207 Tryz.st207 Tryz.ld3 Tryz.st3 Tryz.ld189 Tryz.st189 Tryz.ld2 Tryz.st2 Tryz.ld9 Tryz.st9 Tryz.ld12 Tryz.st12 Tryz.ld21 Tryz.st21 Tryz.ld22 Tryz.st22 Tryz.ld46 Tryz.st46 Tryz.ld92 Tryz.st92 Tryz.ld94 Tryz.st94 Tryz.ld96 Tryz.st96 Tryz.ld97 Tryz.st97 Tryz.ld105 Tryz.st105 Tryz.ld117 Tryz.st117 Tryz.ld122 Tryz.st122 Tryz.ld123 Tryz.st123 Tryz.ld133 Tryz.st133 Tryz.ld155 Tryz.st155 Tryz.ld163 Tryz.st163 Tryz.ld190 Tryz.st190 Tryz.ld197 Tryz.st197 Tryz.ld201 Tryz.st201 Tryz.ld202 Tryz.st202 Tryz.ld209 Tryz.st209 Tryz.ld216 Tryz.st216 Tryz.ld230 Tryz.st230 Tryz.ld238 Tryz.st238 Tryz.ld242 Tryz.st242 Tryz.ld251 Tryz.st251 Tryz.ld260 Tryz.st260 Tryz.ld286 Tryz.st286 Tryz.ld292 Tryz.st292 Tryz.ld298 Tryz.st298 Tryz.ld309 Tryz.st309 Tryz.ld35 Tryz.st35 Tryz.ld48 Tryz.st48 Tryz.ld47 Tryz.st47 Tryz.ld79 Tryz.st79 Tryz.ld177 Tryz.st177 Tryz.ld180 Tryz.st180 Tryz.ld231 Tryz.st231 Tryz.ld232 Tryz.st232 Tryz.ld26 Tryz.st26 Tryz.ld38 Tryz.st38 Tryz.ld40 Tryz.st40 Tryz.ld43 Tryz.st43 Tryz.ld50 Tryz.st50 Tryz.ld52 Tryz.st52 Tryz.ld54 Tryz.st54 Tryz.ld81 Tryz.st81 Tryz.ld112 Tryz.st112 Tryz.ld120 Tryz.st120 Tryz.ld176 Tryz.st176 Tryz.ld179 Tryz.st179 Tryz.ld182 Tryz.st182 Tryz.ld184 Tryz.st184 Tryz.ld234 Tryz.st234 Tryz.ld236 Tryz.st236 Tryz.ld240 Tryz.st240 Tryz.ld246 Tryz.st246 Tryz.ld249 Tryz.st249 Tryz.al35 Tryz.al48 Tryz.al47 Tryz.al79 Tryz.al177 Tryz.al180 Tryz.al231 Tryz.al232 Tryz.al26 Tryz.al38 Tryz.al40 Tryz.al43 Tryz.al50 Tryz.al52 Tryz.al54 Tryz.al81 Tryz.al112 Tryz.al120 Tryz.al176 Tryz.al179 Tryz.al182 Tryz.al184 Tryz.al234 Tryz.al236 Tryz.al240 Tryz.al246 Tryz.al249
attribute [local go_sem] Player.length_enc Player.ok_enc Player.all_get Player.all_set Player.hand_get Player.hand_set Player.aside_get Player.aside_set Message.length_enc Message.ok_enc Message.all_get Message.all_set Message.kind_get Message.kind_set Message.from__get Message.from__set Message.to__get Message.to__set Message.sender_get Message.sender_set Message.receiver_get Message.receiver_set Message.seq_get Message.seq_set Message.token_get Message.token_set Message.amount_get Message.amount_set Message.size_get Message.size_set Message.payload_get Message.payload_set Tx.length_enc Tx.ok_enc Tx.all_get Tx.all_set Tx.kind_get Tx.kind_set Tx.chain_get Tx.chain_set Tx.from__get Tx.from__set Tx.nonce_get Tx.nonce_set Tx.fee_get Tx.fee_set Tx.to__get Tx.to__set Tx.dest_get Tx.dest_set Tx.token_get Tx.token_set Tx.amount_get Tx.amount_set Tx.size_get Tx.size_set Tx.payload_get Tx.payload_set Tx.msg_get Tx.msg_set Tx.msg_kind_get Tx.msg_kind_set Tx.msg_from__get Tx.msg_from__set Tx.msg_to__get Tx.msg_to__set Tx.msg_sender_get Tx.msg_sender_set Tx.msg_receiver_get Tx.msg_receiver_set Tx.msg_seq_get Tx.msg_seq_set Tx.msg_token_get Tx.msg_token_set Tx.msg_amount_get Tx.msg_amount_set Tx.msg_size_get Tx.msg_size_set Tx.msg_payload_get Tx.msg_payload_set GOp.length_enc GOp.ok_enc GOp.all_get GOp.all_set GOp.kind_get GOp.kind_set GOp.tx_get GOp.tx_set GOp.txs_get GOp.txs_set GOp.gas_get GOp.gas_set GOp.acct_get GOp.acct_set GOp.token_get GOp.token_set GOp.chain_get GOp.chain_set GOp.seq_get GOp.seq_set GOp.tx_kind_get GOp.tx_kind_set GOp.tx_chain_get GOp.tx_chain_set GOp.tx_from__get GOp.tx_from__set GOp.tx_nonce_get GOp.tx_nonce_set GOp.tx_fee_get GOp.tx_fee_set GOp.tx_to__get GOp.tx_to__set GOp.tx_dest_get GOp.tx_dest_set GOp.tx_token_get GOp.tx_token_set GOp.tx_amount_get GOp.tx_amount_set GOp.tx_size_get GOp.tx_size_set GOp.tx_payload_get GOp.tx_payload_set GOp.tx_msg_get GOp.tx_msg_set GOp.tx_msg_kind_get GOp.tx_msg_kind_set GOp.tx_msg_from__get GOp.tx_msg_from__set GOp.tx_msg_to__get GOp.tx_msg_to__set GOp.tx_msg_sender_get GOp.tx_msg_sender_set GOp.tx_msg_receiver_get GOp.tx_msg_receiver_set GOp.tx_msg_seq_get GOp.tx_msg_seq_set GOp.tx_msg_token_get GOp.tx_msg_token_set GOp.tx_msg_amount_get GOp.tx_msg_amount_set GOp.tx_msg_size_get GOp.tx_msg_size_set GOp.tx_msg_payload_get GOp.tx_msg_payload_set Summary.length_enc Summary.ok_enc Summary.all_get Summary.all_set Summary.height_get Summary.height_set Summary.txs_get Summary.txs_set Summary.gas_get Summary.gas_set Summary.fees_get Summary.fees_set Summary.sent_get Summary.sent_set Summary.took_get Summary.took_set Summary.minted_get Summary.minted_set Summary.burned_get Summary.burned_set Summary.root_get Summary.root_set Detail.length_enc Detail.ok_enc Detail.all_get Detail.all_set Detail.code_get Detail.code_set Detail.have__get Detail.have__set Detail.need_get Detail.need_set Slot.length_enc Slot.ok_enc Slot.all_get Slot.all_set Slot.nonce_get Slot.nonce_set Slot.balances_get Slot.balances_set Tree.length_enc Tree.ok_enc Tree.all_get Tree.all_set Tree.leaves_get Tree.leaves_set Mark.length_enc Mark.ok_enc Mark.all_get Mark.all_set Mark.from__get Mark.from__set Mark.seq_get Mark.seq_set Receipt.length_enc Receipt.ok_enc Receipt.all_get Receipt.all_set Receipt.code_get Receipt.code_set Receipt.hash_get Receipt.hash_set Receipt.index_get Receipt.index_set Receipt.gas_get Receipt.gas_set Receipt.fee_get Receipt.fee_set Receipt.hasSent_get Receipt.hasSent_set Receipt.sent_get Receipt.sent_set Receipt.hasTook_get Receipt.hasTook_set Receipt.took_get Receipt.took_set Receipt.sent_kind_get Receipt.sent_kind_set Receipt.sent_from__get Receipt.sent_from__set Receipt.sent_to__get Receipt.sent_to__set Receipt.sent_sender_get Receipt.sent_sender_set Receipt.sent_receiver_get Receipt.sent_receiver_set Receipt.sent_seq_get Receipt.sent_seq_set Receipt.sent_token_get Receipt.sent_token_set Receipt.sent_amount_get Receipt.sent_amount_set Receipt.sent_size_get Receipt.sent_size_set Receipt.sent_payload_get Receipt.sent_payload_set Receipt.took_kind_get Receipt.took_kind_set Receipt.took_from__get Receipt.took_from__set Receipt.took_to__get Receipt.took_to__set Receipt.took_sender_get Receipt.took_sender_set Receipt.took_receiver_get Receipt.took_receiver_set Receipt.took_seq_get Receipt.took_seq_set Receipt.took_token_get Receipt.took_token_set Receipt.took_amount_get Receipt.took_amount_set Receipt.took_size_get Receipt.took_size_set Receipt.took_payload_get Receipt.took_payload_set Store.length_enc Store.ok_enc Store.all_get Store.all_set Store.now_get Store.now_set Store.saved_get Store.saved_set GState.length_enc GState.ok_enc GState.all_get GState.all_set GState.kv_get GState.kv_set GState.tree_get GState.tree_set GState.stale_get GState.stale_set GState.touched_get GState.touched_set GState.kv_now_get GState.kv_now_set GState.kv_saved_get GState.kv_saved_set GState.tree_leaves_get GState.tree_leaves_set History.length_enc History.ok_enc History.all_get History.all_set History.ring_get History.ring_set History.closed_get History.closed_set Ledger.length_enc Ledger.ok_enc Ledger.all_get Ledger.all_set Ledger.chain_get Ledger.chain_set Ledger.st_get Ledger.st_set Ledger.height_get Ledger.height_set Ledger.open__get Ledger.open__set Ledger.gasLimit_get Ledger.gasLimit_set Ledger.past_get Ledger.past_set Ledger.begun_get Ledger.begun_set Ledger.sent_get Ledger.sent_set Ledger.took_get Ledger.took_set Ledger.receipts_get Ledger.receipts_set Ledger.st_kv_get Ledger.st_kv_set Ledger.st_tree_get Ledger.st_tree_set Ledger.st_stale_get Ledger.st_stale_set Ledger.st_touched_get Ledger.st_touched_set Ledger.st_kv_now_get Ledger.st_kv_now_set Ledger.st_kv_saved_get Ledger.st_kv_saved_set Ledger.st_tree_leaves_get Ledger.st_tree_leaves_set Ledger.past_ring_get Ledger.past_ring_set Ledger.past_closed_get Ledger.past_closed_set Ledger.begun_kv_get Ledger.begun_kv_set Ledger.begun_tree_get Ledger.begun_tree_set Ledger.begun_stale_get Ledger.begun_stale_set Ledger.begun_touched_get Ledger.begun_touched_set Ledger.begun_kv_now_get Ledger.begun_kv_now_set Ledger.begun_kv_saved_get Ledger.begun_kv_saved_set Ledger.begun_tree_leaves_get Ledger.begun_tree_leaves_set Purse.length_enc Purse.ok_enc Purse.all_get Purse.all_set Purse.st_get Purse.st_set Purse.n_get Purse.n_set Purse.account_get Purse.account_set Purse.token_get Purse.token_set Purse.amount_get Purse.amount_set Plan.length_enc Plan.ok_enc Plan.all_get Plan.all_set Plan.purse_get Plan.purse_set Plan.nonce_get Plan.nonce_set Plan.gasUsed_get Plan.gasUsed_set Plan.fees_get Plan.fees_set Plan.hasSupply_get Plan.hasSupply_set Plan.token_get Plan.token_set Plan.supply_get Plan.supply_set Plan.flowAt_get Plan.flowAt_set Plan.flow_get Plan.flow_set Plan.receipt_get Plan.receipt_set Plan.purse_st_get Plan.purse_st_set Plan.purse_n_get Plan.purse_n_set Plan.purse_account_get Plan.purse_account_set Plan.purse_token_get Plan.purse_token_set Plan.purse_amount_get Plan.purse_amount_set Plan.receipt_code_get Plan.receipt_code_set Plan.receipt_hash_get Plan.receipt_hash_set Plan.receipt_index_get Plan.receipt_index_set Plan.receipt_gas_get Plan.receipt_gas_set Plan.receipt_fee_get Plan.receipt_fee_set Plan.receipt_hasSent_get Plan.receipt_hasSent_set Plan.receipt_sent_get Plan.receipt_sent_set Plan.receipt_hasTook_get Plan.receipt_hasTook_set Plan.receipt_took_get Plan.receipt_took_set Plan.receipt_sent_kind_get Plan.receipt_sent_kind_set Plan.receipt_sent_from__get Plan.receipt_sent_from__set Plan.receipt_sent_to__get Plan.receipt_sent_to__set Plan.receipt_sent_sender_get Plan.receipt_sent_sender_set Plan.receipt_sent_receiver_get Plan.receipt_sent_receiver_set Plan.receipt_sent_seq_get Plan.receipt_sent_seq_set Plan.receipt_sent_token_get Plan.receipt_sent_token_set Plan.receipt_sent_amount_get Plan.receipt_sent_amount_set Plan.receipt_sent_size_get Plan.receipt_sent_size_set Plan.receipt_sent_payload_get Plan.receipt_sent_payload_set Plan.receipt_took_kind_get Plan.receipt_took_kind_set Plan.receipt_took_from__get Plan.receipt_took_from__set Plan.receipt_took_to__get Plan.receipt_took_to__set Plan.receipt_took_sender_get Plan.receipt_took_sender_set Plan.receipt_took_receiver_get Plan.receipt_took_receiver_set Plan.receipt_took_seq_get Plan.receipt_took_seq_set Plan.receipt_took_token_get Plan.receipt_took_token_set Plan.receipt_took_amount_get Plan.receipt_took_amount_set Plan.receipt_took_size_get Plan.receipt_took_size_set Plan.receipt_took_payload_get Plan.receipt_took_payload_set Move.length_enc Move.ok_enc Move.all_get Move.all_set Move.account_get Move.account_set Move.token_get Move.token_set Move.down_get Move.down_set Move.amount_get Move.amount_set Books.length_enc Books.ok_enc Books.all_get Books.all_set Books.sums_get Books.sums_set Books.stored_get Books.stored_set Books.marks_get Books.marks_set Pair.length_enc Pair.ok_enc Pair.all_get Pair.all_set Pair.key_get Pair.key_set Pair.value_get Pair.value_set
attribute [local go_sem] size_put size_ext blk_put free_put blk_alloc free_alloc blk_drew free_drew blk_ext free_ext lookOr_some putOr_some segAt_some cellAt_some storeIn_some put_put put_alloc_new length_arr ok_arr_u8 ok_arr_u32 ok_arr_u64 ok_arr_i64 ok_arr_sl cellsV_agg cellsV_int cellsV_bool cellsV_string cellsV_pointer cellsV_slice cellsV_sl ok_int ok_bool ok_string ok_pointer ok_slice ok_sl toList_arr seg_arr set_arr nth_splice nth_splice0 seg_splice seg_splice0 splice_splice splice_splice0 length_splice_if
attribute [local go_sem ↓] execOp_box
attribute [local go_sem] box_run nth_arr_u8 put_arr_u8 blk_drewN free_drewN put_drewN blk_raw free_raw
theorem shp_parts {c : UInt8} {x : Tx} (h : shpF c x = 0) : envF c x = 0 ∧ kndF c x = 0 ∧ strayF x = 0 ∧ ¬ w64 x.fee < feeF x := by
  unfold shpF at h
  by_cases e : envF c x = 0
  · rw [if_pos e] at h
    by_cases k : kndF c x = 0
    · rw [if_pos k] at h
      by_cases s : strayF x = 0
      · rw [if_pos s] at h
        by_cases f : w64 x.fee < feeF x
        · rw [if_pos f] at h; cases h
        · exact ⟨e, k, s, f⟩
      · rw [if_neg s] at h; cases h
    · rw [if_neg k] at h; exact absurd h k
  · rw [if_neg e] at h; exact absurd h e
theorem w8_ne {a b : UInt8} (h : ¬ w8 a = w8 b) : a ≠ b := fun e => h (by rw [e])
/-- An inbound message. -/
structure InbOk (c : UInt8) (m : Message) (q : UInt8) : Prop where
  kind : m.kind = q
  to_ : m.to_ = c
  from_ : chnB m.from_ = true
  peer : m.from_ ≠ c
  snd : m.sender.toNat < 64
  rcv : m.receiver.toNat < 64
  seq : m.seq.toNat < 281474976710656
theorem inb_ok {c : UInt8} {m : Message} {q : UInt8} (h : inbF c m q = 0) : InbOk c m q := by
  have hq := inb_seq h
  unfold inbF at h
  by_cases h1 : w8 m.kind = w8 q
  · rw [if_pos h1] at h
    by_cases h2 : w8 m.to_ = w8 c
    · rw [if_pos h2] at h
      by_cases h3 : chnB m.from_ = true
      · rw [if_pos h3] at h
        by_cases h4 : w8 m.from_ = w8 c
        · rw [if_pos h4] at h; cases h
        · rw [if_neg h4] at h
          by_cases h5 : 64 ≤ w8 m.sender
          · rw [if_pos h5] at h; cases h
          · rw [if_neg h5] at h
            by_cases h6 : 64 ≤ w8 m.receiver
            · rw [if_pos h6] at h; cases h
            · unfold w8 at h5 h6
              exact ⟨w8_inj h1, w8_inj h2, h3, w8_ne h4, by omega, by omega, hq⟩
      · rw [if_neg h3] at h; cases h
    · rw [if_neg h2] at h; cases h
  · rw [if_neg h1] at h; cases h
theorem shp_inb {c : UInt8} {x : Tx} (h : shpF c x = 0) : (w8 x.kind = 3 → inbF c x.msg 2 = 0) ∧ (w8 x.kind = 5 → inbF c x.msg 1 = 0) := by
  obtain ⟨-, hk, -, -⟩ := shp_parts h
  unfold kndF at hk
  constructor
  · intro k
    rw [if_neg (by omega), if_neg (by omega), if_neg (by omega), if_pos k] at hk
    unfold mntF at hk
    by_cases e : inbF c x.msg 2 = 0
    · exact e
    · rw [if_neg e] at hk; exact hk
  · intro k
    rw [if_neg (by omega), if_neg (by omega), if_neg (by omega), if_neg (by omega)] at hk
    unfold conF at hk
    by_cases e : inbF c x.msg 1 = 0
    · exact e
    · rw [if_neg e] at hk; exact hk
/-- A key of a sound store. -/
def KeyOk (c : UInt8) (k : UInt64) : Prop := (∃ a : UInt8, a.toNat < 64 ∧ k = keyN a) ∨ (∃ a t : UInt8, a.toNat < 64 ∧ t.toNat < 4 ∧ k = keyB a t) ∨ (∃ t : UInt8, t.toNat < 4 ∧ k = keyS t) ∨ (∃ (f : UInt8) (s : UInt64), chnB f = true ∧ f ≠ c ∧ s.toNat < 281474976710656 ∧ k = keyM f s) ∨ (∃ i : UInt64, 1 ≤ i.toNat ∧ i.toNat ≤ 14 ∧ k = keyC i)
theorem KeyOk.N {c a : UInt8} (h : a.toNat < 64) : KeyOk c (keyN a) := .inl ⟨a, h, rfl⟩
theorem KeyOk.B {c a t : UInt8} (h : a.toNat < 64) (ht : t.toNat < 4) : KeyOk c (keyB a t) := .inr (.inl ⟨a, t, h, ht, rfl⟩)
theorem KeyOk.S {c t : UInt8} (ht : t.toNat < 4) : KeyOk c (keyS t) := .inr (.inr (.inl ⟨t, ht, rfl⟩))
theorem KeyOk.M {c f : UInt8} {s : UInt64} (h1 : chnB f = true) (h2 : f ≠ c) (h3 : s.toNat < 281474976710656) : KeyOk c (keyM f s) := .inr (.inr (.inr (.inl ⟨f, s, h1, h2, h3, rfl⟩)))
theorem KeyOk.C {c : UInt8} {i : UInt64} (h : 1 ≤ i.toNat ∧ i.toNat ≤ 14) : KeyOk c (keyC i) := .inr (.inr (.inr (.inr ⟨i, h.1, h.2, rfl⟩)))
/-- A sound store: keys of the tables, none twice, no zero. -/
structure WfS (c : UInt8) (l : List Pair) : Prop where
  nd : Nd l
  ok : ∀ p ∈ l, KeyOk c p.key ∧ p.value ≠ 0
theorem putF_mem {l : List Pair} {k v : UInt64} {p : Pair} (h : p ∈ putF l k v) : p ∈ l ∨ (p.key = k ∧ p.value = v) := by
  induction l with
  | nil => simp [putF] at h; subst h; exact .inr ⟨rfl, rfl⟩
  | cons q r ih =>
    unfold putF at h
    by_cases e : q.key = k
    · rw [if_pos e] at h
      rcases List.mem_cons.1 h with rfl | h
      · exact .inr ⟨e, rfl⟩
      · exact .inl (List.mem_cons_of_mem _ h)
    · rw [if_neg e] at h
      rcases List.mem_cons.1 h with rfl | h
      · exact .inl (List.mem_cons_self ..)
      · rcases ih h with g | g
        · exact .inl (List.mem_cons_of_mem _ g)
        · exact .inr g
theorem saveF_mem {l : List Pair} {k v : UInt64} {p : Pair} (h : p ∈ saveF l k v) : (p ∈ l) ∨ (v ≠ 0 ∧ p.key = k ∧ p.value = v) := by
  unfold saveF at h
  by_cases e : v = 0
  · rw [if_pos e] at h
    exact .inl ((List.mem_filter.1 h).1)
  · rw [if_neg e] at h
    rcases putF_mem h with g | g
    · exact .inl g
    · exact .inr ⟨e, g⟩
theorem WfS.save {c : UInt8} {l : List Pair} (h : WfS c l) {k : UInt64} (v : UInt64) (hk : v ≠ 0 → KeyOk c k) : WfS c (saveF l k v) := by
  refine ⟨h.nd.save _ _, fun p hp => ?_⟩
  rcases saveF_mem hp with g | ⟨g1, g2, g3⟩
  · exact h.ok p g
  · rw [g2, g3]; exact ⟨hk g1, g1⟩
theorem WfS.fl {c : UInt8} : ∀ (l : List PE) {S : PSt}, WfS c S.now → (∀ e ∈ l, e.a.toNat < 64 ∧ e.t.toNat < 4) → WfS c (flF S l).now
  | [], _, h, _ => h
  | e :: l, S, h, hl => WfS.fl l (S := { touchF S e.a with now := saveF S.now (keyB e.a e.t) e.v }) (h.save _ (fun _ => KeyOk.B (hl e (List.mem_cons_self ..)).1 (hl e (List.mem_cons_self ..)).2)) (fun q hq => hl q (List.mem_cons_of_mem _ hq))
theorem WfS.clrN {c : UInt8} {l : List Pair} (h : WfS c l) : ∀ t, WfS c (clrN l t)
  | 0 => h
  | t + 1 => ((WfS.clrN h t).save _ (fun e => absurd rfl e)).save _ (fun e => absurd rfl e)
theorem WfS.clrA {c : UInt8} {l : List Pair} (h : WfS c l) : WfS c (clrA l) := (((((h.clrN 4).save _ (fun e => absurd rfl e)).save _ (fun e => absurd rfl e)).save _ (fun e => absurd rfl e)).save _ (fun e => absurd rfl e)).save _ (fun e => absurd rfl e)
/-- An accepted transaction keeps the store sound. -/
theorem WfS.acc {L : PLg} {x : Tx} (h : WfS L.chain L.st.now) (hj : JOk L x) : WfS L.chain (accL L x).st.now := by
  have hs := shp_ok hj.shp
  rw [acc_now hj]
  have h0 : WfS L.chain (accN0 L x) := (WfS.fl _ h (fun e he => purL_mem hs he)).save _ (fun _ => KeyOk.N hs.from_)
  have h1 : WfS L.chain (accN1 L x) := by
    unfold accN1
    by_cases k2 : w8 x.kind = 2
    · rw [if_pos k2]
      exact (h0.save _ (fun _ => KeyOk.S (hs.brn k2))).save _ (fun _ => KeyOk.C (by have := hs.brn k2; rw [fU11_nt this]; omega))
    · rw [if_neg k2]
      by_cases k3 : w8 x.kind = 3
      · rw [if_pos k3]
        exact (h0.save _ (fun _ => KeyOk.S (hs.mnt k3).2)).save _ (fun _ => KeyOk.C (by have := (hs.mnt k3).2; rw [fU7_nt this]; omega))
      · rw [if_neg k3]; exact h0
  have h2 : WfS L.chain (accN2 L x) := ((h1.save _ (fun _ => KeyOk.C (by decide))).save _ (fun _ => KeyOk.C (by decide))).save _ (fun _ => KeyOk.C (by decide))
  unfold accN
  by_cases hS : isS x
  · rw [if_pos hS]
    exact h2.save _ (fun _ => KeyOk.C (by decide))
  · rw [if_neg hS]
    by_cases hT : isT x
    · rw [if_pos hT]
      have hi : ∃ q, InbOk L.chain x.msg q := by
        rcases hT with k | k
        · exact ⟨2, inb_ok ((shp_inb hj.shp).1 k)⟩
        · exact ⟨1, inb_ok ((shp_inb hj.shp).2 k)⟩
      obtain ⟨q, hi⟩ := hi
      exact ((h2.save _ (fun _ => KeyOk.C (by decide))).save _ (fun _ => KeyOk.M hi.from_ hi.peer hi.seq)).save _ (fun _ => KeyOk.C (by decide))
    · rw [if_neg hT]; exact h2
/-- What happens to a ledger. -/
inductive Evt : PLg → PLg → Nat → Prop
  | app (L : PLg) (x : Tx) : JOk L x → (judR L 0 x).1 = 0 → Evt L (accL L x) 1
  | beg (L : PLg) (g : UInt64) : L.open_ = false → g ≠ 0 → g.toNat ≤ 10000 → Evt L (begL L g) 1
  | en (L : PLg) : L.open_ = true → L.st.saved = [] → Evt L (endL L) 0
  | ck (L : PLg) : L.open_ = true → L.st.saved.length < 8 → Evt L { L with st := (ckF L.st).2 } 0
  | rv (L : PLg) : 0 < L.st.saved.length → L.st.saved.length ≤ 8 → Evt L { L with st := (rvF L.st).2 } 0
  | cm (L : PLg) : 0 < L.st.saved.length → L.st.saved.length ≤ 8 → Evt L { L with st := (cmF L.st).2 } 0
  | ab (L : PLg) : L.open_ = true → Evt L (ubF (abL L)) 0
  | rot (L : PLg) : Evt L (rotL L) 0
  | clo (L : PLg) : Evt L (cloL L) 0
/-- One thing after the other. -/
inductive Evs : PLg → PLg → Nat → Prop
  | nil (L : PLg) : Evs L L 0
  | snoc {L L' L'' : PLg} {m n : Nat} : Evs L L' m → Evt L' L'' n → Evs L L'' (m + n)
theorem Evs.one {L L' : PLg} {n : Nat} (h : Evt L L' n) : Evs L L' n := by
  have := Evs.snoc (Evs.nil L) h
  rwa [Nat.zero_add] at this
theorem Evs.trans {L L' L'' : PLg} {m n : Nat} (h : Evs L L' m) (h2 : Evs L' L'' n) : Evs L L'' (m + n) := by
  induction h2 with
  | nil => exact h
  | snoc a b ih => rw [← Nat.add_assoc]; exact Evs.snoc ih b
theorem evs_app (L : PLg) (x : Tx) : ∃ n, n ≤ 1 ∧ Evs L (appF L x).1 n := by
  by_cases h : (judR L 0 x).1 = 0
  · rw [appF_acc h]
    exact ⟨1, Nat.le_refl _, Evs.one (Evt.app L x (judR_ok h).1 h)⟩
  · rw [appF_ref h]
    exact ⟨0, Nat.zero_le _, Evs.nil L⟩
theorem evs_run {X : List Tx} : ∀ {L : PLg} {i : Nat} {rs : List Receipt}, ∃ n, n ≤ X.length ∧ Evs L (runF L X i rs).2 n := by
  induction X with
  | nil => intro L i rs; exact ⟨0, Nat.le_refl _, Evs.nil L⟩
  | cons x X ih =>
    intro L i rs
    obtain ⟨n, hn, he⟩ := evs_app L x
    unfold runF
    by_cases h : (appF L x).2.code = 0
    · rw [if_pos h]
      obtain ⟨m, hm, he2⟩ := ih (L := (appF L x).1) (i := i + 1) (rs := rs ++ [(appF L x).2])
      exact ⟨n + m, by simp only [List.length_cons]; omega, he.trans he2⟩
    · rw [if_neg h]
      exact ⟨n, by simp only [List.length_cons]; omega, he⟩
theorem evs_beg (L : PLg) (g : UInt64) : ∃ n, n ≤ 1 ∧ Evs L (begF L g).2 n := by
  unfold begF
  by_cases h : L.open_ = true
  · rw [if_pos h]; exact ⟨0, by omega, Evs.nil L⟩
  · rw [if_neg h]
    by_cases g0 : g = 0 ∨ 10000 < w64 g
    · rw [if_pos g0]; exact ⟨0, by omega, Evs.nil L⟩
    · rw [if_neg g0]
      refine ⟨1, by omega, Evs.one (Evt.beg L g (by simpa using h) (fun e => g0 (.inl e)) ?_)⟩
      have : ¬ 10000 < w64 g := fun e => g0 (.inr e)
      unfold w64 at this
      omega
theorem evs_end (L : PLg) : Evs L (endF L).2 0 := by
  unfold endF
  by_cases h : L.open_ = true
  · rw [if_pos h]
    by_cases s : 0 < L.st.saved.length
    · rw [if_pos s]; exact Evs.nil L
    · rw [if_neg s]
      exact Evs.one (Evt.en L h (List.length_eq_zero_iff.1 (by omega)))
  · rw [if_neg h]; exact Evs.nil L
theorem evs_ab (L : PLg) : Evs L (abF L).2 0 := by
  unfold abF
  by_cases h : L.open_ = true
  · rw [if_pos h]; exact Evs.one (Evt.ab L h)
  · rw [if_neg h]; exact Evs.nil L
theorem evs_exe (L : PLg) (g : UInt64) (X : List Tx) : ∃ n, n ≤ X.length + 1 ∧ Evs L (exeF L g X).2 n := by
  obtain ⟨n, hn, he⟩ := evs_beg L g
  unfold exeF
  by_cases h : (begF L g).1 = 0
  · rw [if_pos h]
    obtain ⟨m, hm, he2⟩ := evs_run (X := X) (L := (begF L g).2) (i := 0) (rs := [])
    by_cases h2 : (runF (begF L g).2 X 0 []).1.2 = 0
    · rw [if_pos h2]
      exact ⟨n + m + 0, by omega, (he.trans he2).trans (evs_end _)⟩
    · rw [if_neg h2]
      exact ⟨n + m + 0, by omega, (he.trans he2).trans (evs_ab _)⟩
  · rw [if_neg h]
    exact ⟨n, by omega, he⟩
theorem evs_ck (L : PLg) : Evs L (ckL L).2 0 := by
  unfold ckL
  by_cases h : L.open_ = true
  · rw [if_pos h]
    by_cases s : L.st.saved.length < 8
    · exact Evs.one (Evt.ck L h s)
    · have e : (ckF L.st).2 = L.st := by unfold ckF; rw [dif_neg s]
      show Evs L { L with st := (ckF L.st).2 } 0
      rw [e]; exact Evs.nil L
  · rw [if_neg h]; exact Evs.nil L
theorem evs_rv (L : PLg) (h8 : L.st.saved.length ≤ 8) : Evs L (rvL L).2 0 := by
  by_cases s : 0 < L.st.saved.length
  · exact Evs.one (Evt.rv L s h8)
  · have e : (rvF L.st).2 = L.st := by unfold rvF; rw [dif_neg (fun q => s q.1)]
    show Evs L { L with st := (rvF L.st).2 } 0
    rw [e]; exact Evs.nil L
theorem evs_cm (L : PLg) (h8 : L.st.saved.length ≤ 8) : Evs L (cmL L).2 0 := by
  by_cases s : 0 < L.st.saved.length
  · exact Evs.one (Evt.cm L s h8)
  · have e : (cmF L.st).2 = L.st := by unfold cmF; rw [dif_neg (fun q => s q.1)]
    show Evs L { L with st := (cmF L.st).2 } 0
    rw [e]; exact Evs.nil L
theorem evs_bat (cm : Bool) (L : PLg) (X : List Tx) : ∃ n, n ≤ X.length ∧ Evs L (batF cm L X).2 n := by
  unfold batF
  by_cases h : cbF L X.length = 0
  · rw [if_pos h]
    obtain ⟨hn, ho, hs, hc⟩ := ckF_ok h
    have e0 : Evs L { L with st := (ckF L.st).2 } 0 := Evs.one (Evt.ck L ho hs)
    obtain ⟨m, hm, he2⟩ := evs_run (X := X) (L := { L with st := (ckF L.st).2 }) (i := 0) (rs := [])
    have hsv : (runF { L with st := (ckF L.st).2 } X 0 []).2.st.saved.length = L.st.saved.length + 1 := by
      rw [runF_sv]
      show (ckF L.st).2.saved.length = _
      rw [hc]
      show (L.st.saved ++ [L.st.now]).length = _
      rw [List.length_append]; rfl
    have e1 := e0.trans he2
    rw [Nat.zero_add] at e1
    have er := e1.snoc (Evt.rv _ (by rw [hsv]; omega) (by rw [hsv]; omega))
    have ec := e1.snoc (Evt.cm _ (by rw [hsv]; omega) (by rw [hsv]; omega))
    rw [Nat.add_zero] at er ec
    by_cases h2 : (runF { L with st := (ckF L.st).2 } X 0 []).1.2 = 0
    · rw [if_pos h2]
      refine ⟨m, hm, ?_⟩
      cases cm with
      | true => exact ec
      | false => exact er
    · rw [if_neg h2]
      exact ⟨m, hm, er⟩
  · rw [if_neg h]
    exact ⟨0, Nat.zero_le _, Evs.nil L⟩
theorem evs_rvN : ∀ (k : Nat) (L : PLg), L.st.saved.length ≤ 8 → k ≤ L.st.saved.length → Evs L { L with st := rvN L.st k } 0
  | 0, L, _, _ => Evs.nil L
  | k + 1, L, h8, hk => by
    have e1 := Evs.one (Evt.rv L (by omega) h8)
    obtain ⟨g1, g2, g3⟩ := rvF_pos (S := L.st) (k := L.st.saved.length - 1) (by omega) h8
    exact e1.trans (evs_rvN k { L with st := (rvF L.st).2 } (by show (rvF L.st).2.saved.length ≤ 8; omega) (by show k ≤ (rvF L.st).2.saved.length; omega))
theorem evs_cmN : ∀ (k : Nat) (L : PLg), L.st.saved.length ≤ 8 → k ≤ L.st.saved.length → Evs L { L with st := cmN L.st k } 0
  | 0, L, _, _ => Evs.nil L
  | k + 1, L, h8, hk => by
    have e1 := Evs.one (Evt.cm L (by omega) h8)
    obtain ⟨g1, g2, g3⟩ := cmF_pos (S := L.st) (k := L.st.saved.length - 1) (by omega) h8
    exact e1.trans (evs_cmN k { L with st := (cmF L.st).2 } (by show (cmF L.st).2.saved.length ≤ 8; omega) (by show k ≤ (cmF L.st).2.saved.length; omega))
theorem evs_rvTo (L : PLg) (d : Int) (h8 : L.st.saved.length ≤ 8) : Evs L (rvTo L d).2 0 := by
  unfold rvTo
  by_cases h : d < 0 ∨ (L.st.saved.length : Int) < d
  · rw [if_pos h]; exact Evs.nil L
  · rw [if_neg h]; exact evs_rvN _ L h8 (by omega)
theorem evs_cmTo (L : PLg) (d : Int) (h8 : L.st.saved.length ≤ 8) : Evs L (cmTo L d).2 0 := by
  unfold cmTo
  by_cases h : d < 0 ∨ (L.st.saved.length : Int) < d
  · rw [if_pos h]; exact Evs.nil L
  · rw [if_neg h]; exact evs_cmN _ L h8 (by omega)
end Go.Proofs.Qxb6500786aGreat
