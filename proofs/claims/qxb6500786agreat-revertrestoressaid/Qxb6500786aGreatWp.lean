import Derived.DeepKeys2
import Derived.Test.Qxb6500786aGreatNn
import Derived.Test.Qxb6500786aGreatNo
import Derived.Test.Qxb6500786aGreatNm
import Derived.Test.Qxb6500786aGreatQf

import Derived.StillTailTactics
import Derived.Deep.QuietTactic
import Derived.BigQuiet
import Derived.Deep.RegionHeld
import Derived.Deep.CutRange
import Derived.Laws.ResultCell
import Derived.Laws.Rows
import Derived.DeepKeys
import Derived.DataBytes
import Derived.Laws.StructEq
import Derived.Laws.AppendOwn
import Derived.Laws.MakeOwn
import Derived.Lib.AppendStr
set_option linter.unusedSimpArgs false
set_option linter.unusedVariables false
namespace Go.Proofs.Qxb6500786aGreat
open Go.RowKit Go.Blk
attribute [local go_sem ↓] execOp_load execOp_store execOp_alloc
attribute [local go_sem] Tryz.ld24 Tryz.st24 Tryz.ld36 Tryz.st36 Tryz.ld28 Tryz.st28 Tryz.ld32 Tryz.st32 Tryz.ld33 Tryz.st33 Tryz.ld34 Tryz.st34 Tryz.ld5 Tryz.st5 Tryz.ld31 Tryz.st31 Tryz.ld30 Tryz.st30 Tryz.ld41 Tryz.st41 Tryz.ld44 Tryz.st44 Tryz.ld4 Tryz.st4 Tryz.ld173 Tryz.st173 Tryz.ld174 Tryz.st174 Tryz.ld95 Tryz.st95 Tryz.ld45 Tryz.st45 Tryz.ld207 Tryz.st207 Tryz.ld3 Tryz.st3 Tryz.ld189 Tryz.st189 Tryz.ld2 Tryz.st2 Tryz.ld9 Tryz.st9 Tryz.ld12 Tryz.st12 Tryz.ld21 Tryz.st21 Tryz.ld22 Tryz.st22 Tryz.ld46 Tryz.st46 Tryz.ld92 Tryz.st92 Tryz.ld94 Tryz.st94 Tryz.ld96 Tryz.st96 Tryz.ld97 Tryz.st97 Tryz.ld105 Tryz.st105 Tryz.ld117 Tryz.st117 Tryz.ld122 Tryz.st122 Tryz.ld123 Tryz.st123 Tryz.ld133 Tryz.st133 Tryz.ld155 Tryz.st155 Tryz.ld163 Tryz.st163 Tryz.ld190 Tryz.st190 Tryz.ld197 Tryz.st197 Tryz.ld201 Tryz.st201 Tryz.ld202 Tryz.st202 Tryz.ld209 Tryz.st209 Tryz.ld216 Tryz.st216 Tryz.ld230 Tryz.st230 Tryz.ld238 Tryz.st238 Tryz.ld242 Tryz.st242 Tryz.ld251 Tryz.st251 Tryz.ld260 Tryz.st260 Tryz.ld286 Tryz.st286 Tryz.ld292 Tryz.st292 Tryz.ld298 Tryz.st298 Tryz.ld309 Tryz.st309 Tryz.ld35 Tryz.st35 Tryz.ld48 Tryz.st48 Tryz.ld47 Tryz.st47 Tryz.ld79 Tryz.st79 Tryz.ld177 Tryz.st177 Tryz.ld180 Tryz.st180 Tryz.ld231 Tryz.st231 Tryz.ld232 Tryz.st232 Tryz.ld26 Tryz.st26 Tryz.ld38 Tryz.st38 Tryz.ld40 Tryz.st40 Tryz.ld43 Tryz.st43 Tryz.ld50 Tryz.st50 Tryz.ld52 Tryz.st52 Tryz.ld54 Tryz.st54 Tryz.ld81 Tryz.st81 Tryz.ld112 Tryz.st112 Tryz.ld120 Tryz.st120 Tryz.ld176 Tryz.st176 Tryz.ld179 Tryz.st179 Tryz.ld182 Tryz.st182 Tryz.ld184 Tryz.st184 Tryz.ld234 Tryz.st234 Tryz.ld236 Tryz.st236 Tryz.ld240 Tryz.st240 Tryz.ld246 Tryz.st246 Tryz.ld249 Tryz.st249 Tryz.al35 Tryz.al48 Tryz.al47 Tryz.al79 Tryz.al177 Tryz.al180 Tryz.al231 Tryz.al232 Tryz.al26 Tryz.al38 Tryz.al40 Tryz.al43 Tryz.al50 Tryz.al52 Tryz.al54 Tryz.al81 Tryz.al112 Tryz.al120 Tryz.al176 Tryz.al179 Tryz.al182 Tryz.al184 Tryz.al234 Tryz.al236 Tryz.al240 Tryz.al246 Tryz.al249
attribute [local go_sem] Player.length_enc Player.ok_enc Player.all_get Player.all_set Player.hand_get Player.hand_set Player.aside_get Player.aside_set Message.length_enc Message.ok_enc Message.all_get Message.all_set Message.kind_get Message.kind_set Message.from__get Message.from__set Message.to__get Message.to__set Message.sender_get Message.sender_set Message.receiver_get Message.receiver_set Message.seq_get Message.seq_set Message.token_get Message.token_set Message.amount_get Message.amount_set Message.size_get Message.size_set Message.payload_get Message.payload_set Tx.length_enc Tx.ok_enc Tx.all_get Tx.all_set Tx.kind_get Tx.kind_set Tx.chain_get Tx.chain_set Tx.from__get Tx.from__set Tx.nonce_get Tx.nonce_set Tx.fee_get Tx.fee_set Tx.to__get Tx.to__set Tx.dest_get Tx.dest_set Tx.token_get Tx.token_set Tx.amount_get Tx.amount_set Tx.size_get Tx.size_set Tx.payload_get Tx.payload_set Tx.msg_get Tx.msg_set Tx.msg_kind_get Tx.msg_kind_set Tx.msg_from__get Tx.msg_from__set Tx.msg_to__get Tx.msg_to__set Tx.msg_sender_get Tx.msg_sender_set Tx.msg_receiver_get Tx.msg_receiver_set Tx.msg_seq_get Tx.msg_seq_set Tx.msg_token_get Tx.msg_token_set Tx.msg_amount_get Tx.msg_amount_set Tx.msg_size_get Tx.msg_size_set Tx.msg_payload_get Tx.msg_payload_set GOp.length_enc GOp.ok_enc GOp.all_get GOp.all_set GOp.kind_get GOp.kind_set GOp.tx_get GOp.tx_set GOp.txs_get GOp.txs_set GOp.gas_get GOp.gas_set GOp.acct_get GOp.acct_set GOp.token_get GOp.token_set GOp.chain_get GOp.chain_set GOp.seq_get GOp.seq_set GOp.tx_kind_get GOp.tx_kind_set GOp.tx_chain_get GOp.tx_chain_set GOp.tx_from__get GOp.tx_from__set GOp.tx_nonce_get GOp.tx_nonce_set GOp.tx_fee_get GOp.tx_fee_set GOp.tx_to__get GOp.tx_to__set GOp.tx_dest_get GOp.tx_dest_set GOp.tx_token_get GOp.tx_token_set GOp.tx_amount_get GOp.tx_amount_set GOp.tx_size_get GOp.tx_size_set GOp.tx_payload_get GOp.tx_payload_set GOp.tx_msg_get GOp.tx_msg_set GOp.tx_msg_kind_get GOp.tx_msg_kind_set GOp.tx_msg_from__get GOp.tx_msg_from__set GOp.tx_msg_to__get GOp.tx_msg_to__set GOp.tx_msg_sender_get GOp.tx_msg_sender_set GOp.tx_msg_receiver_get GOp.tx_msg_receiver_set GOp.tx_msg_seq_get GOp.tx_msg_seq_set GOp.tx_msg_token_get GOp.tx_msg_token_set GOp.tx_msg_amount_get GOp.tx_msg_amount_set GOp.tx_msg_size_get GOp.tx_msg_size_set GOp.tx_msg_payload_get GOp.tx_msg_payload_set Summary.length_enc Summary.ok_enc Summary.all_get Summary.all_set Summary.height_get Summary.height_set Summary.txs_get Summary.txs_set Summary.gas_get Summary.gas_set Summary.fees_get Summary.fees_set Summary.sent_get Summary.sent_set Summary.took_get Summary.took_set Summary.minted_get Summary.minted_set Summary.burned_get Summary.burned_set Summary.root_get Summary.root_set Detail.length_enc Detail.ok_enc Detail.all_get Detail.all_set Detail.code_get Detail.code_set Detail.have__get Detail.have__set Detail.need_get Detail.need_set Slot.length_enc Slot.ok_enc Slot.all_get Slot.all_set Slot.nonce_get Slot.nonce_set Slot.balances_get Slot.balances_set Tree.length_enc Tree.ok_enc Tree.all_get Tree.all_set Tree.leaves_get Tree.leaves_set Mark.length_enc Mark.ok_enc Mark.all_get Mark.all_set Mark.from__get Mark.from__set Mark.seq_get Mark.seq_set Receipt.length_enc Receipt.ok_enc Receipt.all_get Receipt.all_set Receipt.code_get Receipt.code_set Receipt.hash_get Receipt.hash_set Receipt.index_get Receipt.index_set Receipt.gas_get Receipt.gas_set Receipt.fee_get Receipt.fee_set Receipt.hasSent_get Receipt.hasSent_set Receipt.sent_get Receipt.sent_set Receipt.hasTook_get Receipt.hasTook_set Receipt.took_get Receipt.took_set Receipt.sent_kind_get Receipt.sent_kind_set Receipt.sent_from__get Receipt.sent_from__set Receipt.sent_to__get Receipt.sent_to__set Receipt.sent_sender_get Receipt.sent_sender_set Receipt.sent_receiver_get Receipt.sent_receiver_set Receipt.sent_seq_get Receipt.sent_seq_set Receipt.sent_token_get Receipt.sent_token_set Receipt.sent_amount_get Receipt.sent_amount_set Receipt.sent_size_get Receipt.sent_size_set Receipt.sent_payload_get Receipt.sent_payload_set Receipt.took_kind_get Receipt.took_kind_set Receipt.took_from__get Receipt.took_from__set Receipt.took_to__get Receipt.took_to__set Receipt.took_sender_get Receipt.took_sender_set Receipt.took_receiver_get Receipt.took_receiver_set Receipt.took_seq_get Receipt.took_seq_set Receipt.took_token_get Receipt.took_token_set Receipt.took_amount_get Receipt.took_amount_set Receipt.took_size_get Receipt.took_size_set Receipt.took_payload_get Receipt.took_payload_set Store.length_enc Store.ok_enc Store.all_get Store.all_set Store.now_get Store.now_set Store.saved_get Store.saved_set GState.length_enc GState.ok_enc GState.all_get GState.all_set GState.kv_get GState.kv_set GState.tree_get GState.tree_set GState.stale_get GState.stale_set GState.touched_get GState.touched_set GState.kv_now_get GState.kv_now_set GState.kv_saved_get GState.kv_saved_set GState.tree_leaves_get GState.tree_leaves_set History.length_enc History.ok_enc History.all_get History.all_set History.ring_get History.ring_set History.closed_get History.closed_set Ledger.length_enc Ledger.ok_enc Ledger.all_get Ledger.all_set Ledger.chain_get Ledger.chain_set Ledger.st_get Ledger.st_set Ledger.height_get Ledger.height_set Ledger.open__get Ledger.open__set Ledger.gasLimit_get Ledger.gasLimit_set Ledger.past_get Ledger.past_set Ledger.begun_get Ledger.begun_set Ledger.sent_get Ledger.sent_set Ledger.took_get Ledger.took_set Ledger.receipts_get Ledger.receipts_set Ledger.st_kv_get Ledger.st_kv_set Ledger.st_tree_get Ledger.st_tree_set Ledger.st_stale_get Ledger.st_stale_set Ledger.st_touched_get Ledger.st_touched_set Ledger.st_kv_now_get Ledger.st_kv_now_set Ledger.st_kv_saved_get Ledger.st_kv_saved_set Ledger.st_tree_leaves_get Ledger.st_tree_leaves_set Ledger.past_ring_get Ledger.past_ring_set Ledger.past_closed_get Ledger.past_closed_set Ledger.begun_kv_get Ledger.begun_kv_set Ledger.begun_tree_get Ledger.begun_tree_set Ledger.begun_stale_get Ledger.begun_stale_set Ledger.begun_touched_get Ledger.begun_touched_set Ledger.begun_kv_now_get Ledger.begun_kv_now_set Ledger.begun_kv_saved_get Ledger.begun_kv_saved_set Ledger.begun_tree_leaves_get Ledger.begun_tree_leaves_set Purse.length_enc Purse.ok_enc Purse.all_get Purse.all_set Purse.st_get Purse.st_set Purse.n_get Purse.n_set Purse.account_get Purse.account_set Purse.token_get Purse.token_set Purse.amount_get Purse.amount_set Plan.length_enc Plan.ok_enc Plan.all_get Plan.all_set Plan.purse_get Plan.purse_set Plan.nonce_get Plan.nonce_set Plan.gasUsed_get Plan.gasUsed_set Plan.fees_get Plan.fees_set Plan.hasSupply_get Plan.hasSupply_set Plan.token_get Plan.token_set Plan.supply_get Plan.supply_set Plan.flowAt_get Plan.flowAt_set Plan.flow_get Plan.flow_set Plan.receipt_get Plan.receipt_set Plan.purse_st_get Plan.purse_st_set Plan.purse_n_get Plan.purse_n_set Plan.purse_account_get Plan.purse_account_set Plan.purse_token_get Plan.purse_token_set Plan.purse_amount_get Plan.purse_amount_set Plan.receipt_code_get Plan.receipt_code_set Plan.receipt_hash_get Plan.receipt_hash_set Plan.receipt_index_get Plan.receipt_index_set Plan.receipt_gas_get Plan.receipt_gas_set Plan.receipt_fee_get Plan.receipt_fee_set Plan.receipt_hasSent_get Plan.receipt_hasSent_set Plan.receipt_sent_get Plan.receipt_sent_set Plan.receipt_hasTook_get Plan.receipt_hasTook_set Plan.receipt_took_get Plan.receipt_took_set Plan.receipt_sent_kind_get Plan.receipt_sent_kind_set Plan.receipt_sent_from__get Plan.receipt_sent_from__set Plan.receipt_sent_to__get Plan.receipt_sent_to__set Plan.receipt_sent_sender_get Plan.receipt_sent_sender_set Plan.receipt_sent_receiver_get Plan.receipt_sent_receiver_set Plan.receipt_sent_seq_get Plan.receipt_sent_seq_set Plan.receipt_sent_token_get Plan.receipt_sent_token_set Plan.receipt_sent_amount_get Plan.receipt_sent_amount_set Plan.receipt_sent_size_get Plan.receipt_sent_size_set Plan.receipt_sent_payload_get Plan.receipt_sent_payload_set Plan.receipt_took_kind_get Plan.receipt_took_kind_set Plan.receipt_took_from__get Plan.receipt_took_from__set Plan.receipt_took_to__get Plan.receipt_took_to__set Plan.receipt_took_sender_get Plan.receipt_took_sender_set Plan.receipt_took_receiver_get Plan.receipt_took_receiver_set Plan.receipt_took_seq_get Plan.receipt_took_seq_set Plan.receipt_took_token_get Plan.receipt_took_token_set Plan.receipt_took_amount_get Plan.receipt_took_amount_set Plan.receipt_took_size_get Plan.receipt_took_size_set Plan.receipt_took_payload_get Plan.receipt_took_payload_set Move.length_enc Move.ok_enc Move.all_get Move.all_set Move.account_get Move.account_set Move.token_get Move.token_set Move.down_get Move.down_set Move.amount_get Move.amount_set Books.length_enc Books.ok_enc Books.all_get Books.all_set Books.sums_get Books.sums_set Books.stored_get Books.stored_set Books.marks_get Books.marks_set Pair.length_enc Pair.ok_enc Pair.all_get Pair.all_set Pair.key_get Pair.key_set Pair.value_get Pair.value_set
attribute [local go_sem] size_put size_ext blk_put free_put blk_alloc free_alloc blk_drew free_drew blk_ext free_ext lookOr_some putOr_some segAt_some cellAt_some storeIn_some put_put put_alloc_new length_arr ok_arr_u8 ok_arr_u32 ok_arr_u64 ok_arr_i64 ok_arr_sl cellsV_agg cellsV_int cellsV_bool cellsV_string cellsV_pointer cellsV_slice cellsV_sl ok_int ok_bool ok_string ok_pointer ok_slice ok_sl toList_arr seg_arr set_arr nth_splice nth_splice0 seg_splice seg_splice0 splice_splice splice_splice0 length_splice_if
attribute [local go_sem ↓] execOp_box
attribute [local go_sem] box_run nth_arr_u8 put_arr_u8 blk_drewN free_drewN put_drewN blk_raw free_raw
/-- The move between two balances. -/
def mvD (a t : UInt8) (was is : UInt64) : Option Move := if w64 was = w64 is then none else if w64 is < w64 was then some ⟨a, t, true, was - is⟩ else some ⟨a, t, false, is - was⟩
/-- Diff, plainly: the moves of the first n balances. -/
def difF (v w : View) (n : Nat) : List Move := (List.range n).filterMap fun i => if h : i < 256 then mvD (UInt8.ofNat (i / 4)) (UInt8.ofNat (i % 4)) v.balances[i] w.balances[i] else none
theorem difF_len (v w : View) (n : Nat) : (difF v w n).length ≤ n := by
  unfold difF
  have := List.length_filterMap_le (fun i => if h : i < 256 then mvD (UInt8.ofNat (i / 4)) (UInt8.ofNat (i % 4)) v.balances[i] w.balances[i] else none) (List.range n)
  rw [List.length_range] at this
  exact this
theorem difF_succ (v w : View) {n : Nat} (h : n < 256) : difF v w (n + 1) = difF v w n ++ (mvD (UInt8.ofNat (n / 4)) (UInt8.ofNat (n % 4)) v.balances[n] w.balances[n]).toList := by
  unfold difF
  rw [List.range_succ, List.filterMap_append]
  congr 1
  simp only [List.filterMap_cons, List.filterMap_nil, dif_pos h]
  split <;> simp_all
/-- The place of a move. -/
def kap (m : Move) : Nat := m.account.toNat * 256 + m.token.toNat
theorem mvB_iff (x y : Move) : mvB x y = true ↔ kap x < kap y := by
  have h1 := x.token.toNat_lt
  have h2 := y.token.toNat_lt
  unfold mvB kap
  show (if ((x.account.toNat : Int) = (y.account.toNat : Int)) then decide ((x.token.toNat : Int) < (y.token.toNat : Int)) else decide ((x.account.toNat : Int) < (y.account.toNat : Int))) = true ↔ _
  by_cases h : (x.account.toNat : Int) = (y.account.toNat : Int)
  · rw [if_pos h, decide_eq_true_eq]; omega
  · rw [if_neg h, decide_eq_true_eq]; omega
theorem insAt_spec {α : Type} (bef : α → α → Bool) (m : α) (S : List α) : ∀ n, n ≤ S.length → (∀ j, insAt bef m S n ≤ j → j < n → ∀ e, S[j]? = some e → bef m e = true) ∧ (0 < insAt bef m S n → ∀ e, S[insAt bef m S n - 1]? = some e → bef m e = false)
  | 0, _ => ⟨fun j h1 h2 => absurd h2 (Nat.not_lt_zero _), fun h => absurd h (by unfold insAt; omega)⟩
  | n + 1, hn => by
    obtain ⟨i1, i2⟩ := insAt_spec bef m S n (by omega)
    have hs : S[n]? = some S[n] := List.getElem?_eq_getElem (by omega)
    unfold insAt
    rw [hs]
    dsimp only
    by_cases hb : bef m S[n] = true
    · rw [if_pos hb]
      refine ⟨fun j h1 h2 e he => ?_, i2⟩
      by_cases hj : j = n
      · rw [hj, hs] at he
        rw [← Option.some.inj he]
        exact hb
      · exact i1 j h1 (by omega) e he
    · rw [if_neg hb]
      refine ⟨fun j h1 h2 => by omega, fun _ e he => ?_⟩
      rw [Nat.add_sub_cancel, hs] at he
      rw [← Option.some.inj he]
      simpa using hb
def Asc (S : List Move) : Prop := S.Pairwise (fun a b => kap a < kap b)
theorem insS_mem {α : Type} (bef : α → α → Bool) (m : α) (S : List α) (x : α) : x ∈ insS bef m S ↔ x = m ∨ x ∈ S := by
  unfold insS
  rw [List.mem_append, List.mem_cons]
  have : x ∈ S ↔ x ∈ S.take (insAt bef m S S.length) ∨ x ∈ S.drop (insAt bef m S S.length) := by
    rw [← List.mem_append, List.take_append_drop]
  rw [this]
  constructor
  · rintro (h | h | h)
    · exact .inr (.inl h)
    · exact .inl h
    · exact .inr (.inr h)
  · rintro (h | h | h)
    · exact .inr (.inl h)
    · exact .inl h
    · exact .inr (.inr h)
theorem insS_asc {m : Move} {S : List Move} (h : Asc S) (hd : ∀ x ∈ S, kap x ≠ kap m) : Asc (insS mvB m S) := by
  obtain ⟨i1, i2⟩ := insAt_spec mvB m S S.length (Nat.le_refl _)
  have hle := insAt_le mvB m S S.length
  unfold insS
  obtain ⟨p, hp⟩ : ∃ p, p = insAt mvB m S S.length := ⟨_, rfl⟩
  rw [← hp] at i1 i2 hle ⊢
  have h' := h
  unfold Asc at h h' ⊢
  rw [← List.take_append_drop p S, List.pairwise_append] at h
  obtain ⟨g1, g2, g3⟩ := h
  have dr : ∀ b ∈ S.drop p, kap m < kap b := fun b hb => by
    obtain ⟨j, hj, e⟩ := List.mem_iff_getElem.1 hb
    rw [List.getElem_drop] at e
    rw [List.length_drop] at hj
    exact (mvB_iff m b).1 (i1 (p + j) (by omega) (by omega) b (by rw [← e]; exact List.getElem?_eq_getElem (by omega)))
  have tk : ∀ a ∈ S.take p, kap a < kap m := fun a ha => by
    obtain ⟨j, hj, e⟩ := List.mem_iff_getElem.1 ha
    rw [List.length_take] at hj
    rw [List.getElem_take] at e
    have hp0 : 0 < p := by omega
    have hlt : p - 1 < S.length := by omega
    have hb := i2 hp0 S[p - 1] (List.getElem?_eq_getElem hlt)
    have hk : kap S[p - 1] < kap m := by
      have h1 : ¬ kap m < kap S[p - 1] := fun q => by rw [(mvB_iff m S[p - 1]).2 q] at hb; cases hb
      have h2 := hd S[p - 1] (List.getElem_mem hlt)
      omega
    by_cases hj1 : j = p - 1
    · subst hj1
      rw [← e]; exact hk
    · have := List.pairwise_iff_getElem.1 h' j (p - 1) (by omega) hlt (by omega)
      rw [e] at this
      omega
  rw [List.pairwise_append, List.pairwise_cons]
  refine ⟨g1, ⟨dr, g2⟩, fun a ha b hb => ?_⟩
  rcases List.mem_cons.1 hb with rfl | hb
  · exact tk a ha
  · exact g3 a ha b hb
theorem srtN_ok {K : List Move} (hK : K.Pairwise (fun a b => kap a ≠ kap b)) : ∀ n, n ≤ K.length → Asc (srtN mvB K n) ∧ ∀ x, x ∈ srtN mvB K n ↔ x ∈ K.take n
  | 0, _ => ⟨List.Pairwise.nil, fun x => by simp [srtN]⟩
  | n + 1, hn => by
    obtain ⟨i1, i2⟩ := srtN_ok hK n (by omega)
    have hs : K[n]? = some K[n] := List.getElem?_eq_getElem (by omega)
    have ht : K.take (n + 1) = K.take n ++ [K[n]] := (List.take_append_getElem (by omega)).symm
    unfold srtN
    rw [hs]
    dsimp only
    refine ⟨insS_asc i1 (fun x hx => ?_), fun x => ?_⟩
    · obtain ⟨j, hj, e⟩ := List.mem_iff_getElem.1 ((i2 x).1 hx)
      rw [List.length_take] at hj
      rw [List.getElem_take] at e
      have := List.pairwise_iff_getElem.1 hK j n (by omega) (by omega) (by omega)
      rw [e] at this
      exact this
    · rw [insS_mem, i2, ht, List.mem_append, List.mem_singleton]
      exact ⟨fun h => h.symm, fun h => h.symm⟩
theorem asc_eq : ∀ {A B : List Move}, Asc A → Asc B → (∀ x, x ∈ A ↔ x ∈ B) → A = B
  | [], [], _, _, _ => rfl
  | [], b :: B, _, _, h => absurd ((h b).2 (List.mem_cons_self ..)) (by simp)
  | a :: A, [], _, _, h => absurd ((h a).1 (List.mem_cons_self ..)) (by simp)
  | a :: A, b :: B, hA, hB, h => by
    unfold Asc at hA hB
    rw [List.pairwise_cons] at hA hB
    have hab : a = b := by
      rcases List.mem_cons.1 ((h a).1 (List.mem_cons_self ..)) with e | e
      · exact e
      · rcases List.mem_cons.1 ((h b).2 (List.mem_cons_self ..)) with f | f
        · exact f.symm
        · have h1 := hB.1 a e
          have h2 := hA.1 b f
          omega
    subst hab
    congr 1
    refine asc_eq hA.2 hB.2 (fun x => ⟨fun hx => ?_, fun hx => ?_⟩)
    · rcases List.mem_cons.1 ((h x).1 (List.mem_cons_of_mem _ hx)) with e | e
      · have := hA.1 x hx; rw [e] at this; omega
      · exact e
    · rcases List.mem_cons.1 ((h x).2 (List.mem_cons_of_mem _ hx)) with e | e
      · have := hB.1 x hx; rw [e] at this; omega
      · exact e
theorem mvD_kap {a t : UInt8} {was is : UInt64} {m : Move} (h : mvD a t was is = some m) : kap m = a.toNat * 256 + t.toNat := by
  unfold mvD at h
  split at h
  · cases h
  · split at h
    · rw [← Option.some.inj h]; rfl
    · rw [← Option.some.inj h]; rfl
theorem ofN4 {i : Nat} (h : i < 256) : (UInt8.ofNat (i / 4)).toNat = i / 4 ∧ (UInt8.ofNat (i % 4)).toNat = i % 4 := by
  constructor
  · rw [UInt8.toNat_ofNat']; omega
  · rw [UInt8.toNat_ofNat']; omega
theorem difF_asc (v w : View) (n : Nat) : Asc (difF v w n) := by
  unfold Asc difF
  rw [List.pairwise_filterMap]
  refine (List.pairwise_lt_range (n := n)).imp ?_
  intro i j hij m hm m' hm'
  by_cases h1 : i < 256
  · by_cases h2 : j < 256
    · rw [dif_pos h1] at hm
      rw [dif_pos h2] at hm'
      rw [mvD_kap hm, mvD_kap hm', (ofN4 h1).1, (ofN4 h1).2, (ofN4 h2).1, (ofN4 h2).2]
      omega
    · rw [dif_neg h2] at hm'; cases hm'
  · rw [dif_neg h1] at hm; cases hm
theorem difF_mem {v w : View} {m : Move} : m ∈ difF v w 256 ↔ ∃ (i : Nat) (h : i < 256), mvD (UInt8.ofNat (i / 4)) (UInt8.ofNat (i % 4)) v.balances[i] w.balances[i] = some m := by
  unfold difF
  rw [List.mem_filterMap]
  constructor
  · rintro ⟨i, hi, e⟩
    have hi' := List.mem_range.1 hi
    rw [dif_pos hi'] at e
    exact ⟨i, hi', e⟩
  · rintro ⟨i, hi, e⟩
    exact ⟨i, List.mem_range.2 hi, by rw [dif_pos hi]; exact e⟩
theorem pvL_some : ∀ {l : List PE} {a t : UInt8} {v : UInt64}, pvL l a t = some v → (⟨a, t, v⟩ : PE) ∈ l
  | [], _, _, _, h => by cases h
  | e :: l, a, t, v, h => by
    unfold pvL at h
    by_cases g : e.a = a ∧ e.t = t
    · rw [if_pos g] at h
      have hv := Option.some.inj h
      rw [← g.1, ← g.2, ← hv]
      exact List.mem_cons_self ..
    · rw [if_neg g] at h
      exact List.mem_cons_of_mem _ (pvL_some h)
theorem pvL_none : ∀ {l : List PE} {a t : UInt8}, pvL l a t = none → ∀ e ∈ l, ¬ (e.a = a ∧ e.t = t)
  | [], _, _, _, e, he => by cases he
  | q :: l, a, t, h, e, he => by
    unfold pvL at h
    by_cases g : q.a = a ∧ q.t = t
    · rw [if_pos g] at h; cases h
    · rw [if_neg g] at h
      rcases List.mem_cons.1 he with rfl | he
      · exact g
      · exact pvL_none h e he
theorem DistP.mem : ∀ {l : List PE}, DistP l → ∀ e ∈ l, pvL l e.a e.t = some e.v
  | [], _, e, he => by cases he
  | q :: l, h, e, he => by
    unfold pvL
    rcases List.mem_cons.1 he with rfl | he
    · rw [if_pos ⟨rfl, rfl⟩]
    · rw [if_neg (fun g => pvL_none h.1 e he ⟨g.1.symm, g.2.symm⟩)]
      exact DistP.mem h.2 e he
theorem DistP.pw : ∀ {l : List PE}, DistP l → l.Pairwise (fun e e' => ¬ (e.a = e'.a ∧ e.t = e'.t))
  | [], _ => List.Pairwise.nil
  | q :: l, h => by
    rw [List.pairwise_cons]
    exact ⟨fun e he g => pvL_none h.1 e he ⟨g.1.symm, g.2.symm⟩, DistP.pw h.2⟩
theorem mvOf_eq (now : List Pair) (e : PE) : mvOf now e = mvD e.a e.t (ldF now (keyB e.a e.t)) e.v := by
  unfold mvOf mvD
  by_cases h : w64 e.v = w64 (ldF now (keyB e.a e.t))
  · have h2 : w64 (ldF now (keyB e.a e.t)) = w64 e.v := h.symm
    rw [if_pos h, if_pos h2]
  · have h2 : ¬ w64 (ldF now (keyB e.a e.t)) = w64 e.v := fun q => h q.symm
    rw [if_neg h, if_neg h2]
theorem mvL_pw {now : List Pair} {l : List PE} (h : DistP l) : (mvL now l).Pairwise (fun a b => kap a ≠ kap b) := by
  unfold mvL
  rw [List.pairwise_filterMap]
  refine h.pw.imp ?_
  intro e e' hne m hm m' hm'
  rw [mvOf_eq] at hm hm'
  rw [mvD_kap hm, mvD_kap hm']
  intro q
  have h1 := e.t.toNat_lt
  have h2 := e'.t.toNat_lt
  exact hne ⟨UInt8.toNat_inj.1 (by omega), UInt8.toNat_inj.1 (by omega)⟩
/-- What Moves foretells is what the views tell. -/
theorem mov_dif {L : PLg} {x : Tx} (hj : (judR L 0 x).1 = 0) : (movF L x).1 = difF (viewF L) (viewF (appF L x).1) 256 := by
  have hJ := (judR_ok hj).1
  have hd := DistP.pur L.st.now x
  have hs := shp_ok hJ.shp
  rw [show movF L x = (srtF mvB (mvL L.st.now (purL L.st.now x)), 0) from if_pos hj, appF_acc hj]
  dsimp only
  have hb : ∀ a t, ldF (accL L x).st.now (keyB a t) = pvF L.st.now (purL L.st.now x) a t := fun a t => by rw [acc_B hJ, pv_pur hJ]
  obtain ⟨s1, s2⟩ := srtN_ok (mvL_pw (now := L.st.now) hd) _ (Nat.le_refl _)
  refine asc_eq s1 (difF_asc _ _ _) (fun m => ?_)
  unfold srtF
  rw [s2, List.take_length, difF_mem]
  unfold mvL
  rw [List.mem_filterMap]
  constructor
  · rintro ⟨e, he, hm⟩
    rw [mvOf_eq] at hm
    obtain ⟨ha, ht⟩ := purL_mem hs he
    have hi : e.a.toNat * 4 + e.t.toNat < 256 := by omega
    refine ⟨e.a.toNat * 4 + e.t.toNat, hi, ?_⟩
    have e1 : UInt8.ofNat ((e.a.toNat * 4 + e.t.toNat) / 4) = e.a := by
      apply UInt8.toNat_inj.1
      rw [(ofN4 hi).1]; omega
    have e2 : UInt8.ofNat ((e.a.toNat * 4 + e.t.toNat) % 4) = e.t := by
      apply UInt8.toNat_inj.1
      rw [(ofN4 hi).2]; omega
    rw [← hm]
    show mvD _ _ (vN (vwB L.st.now) 256 : Vector UInt64 256)[e.a.toNat * 4 + e.t.toNat] (vN (vwB (accL L x).st.now) 256 : Vector UInt64 256)[e.a.toNat * 4 + e.t.toNat] = _
    rw [vN_at _ _ hi, vN_at _ _ hi]
    unfold vwB
    rw [e1, e2, hb]
    unfold pvF
    rw [hd.mem e he]
    rfl
  · rintro ⟨i, hi, hm⟩
    have hm' : mvD (UInt8.ofNat (i / 4)) (UInt8.ofNat (i % 4)) (vN (vwB L.st.now) 256 : Vector UInt64 256)[i] (vN (vwB (accL L x).st.now) 256 : Vector UInt64 256)[i] = some m := hm
    rw [vN_at _ _ hi, vN_at _ _ hi] at hm'
    unfold vwB at hm'
    rw [hb] at hm'
    unfold pvF at hm'
    cases hp : pvL (purL L.st.now x) (UInt8.ofNat (i / 4)) (UInt8.ofNat (i % 4)) with
    | none =>
      rw [hp, Option.getD_none] at hm'
      unfold mvD at hm'
      rw [if_pos rfl] at hm'
      cases hm'
    | some v =>
      rw [hp] at hm'
      exact ⟨_, pvL_some hp, by rw [mvOf_eq]; exact hm'⟩
theorem dif_self (v : View) : difF v v 256 = [] := by
  rw [List.eq_nil_iff_forall_not_mem]
  intro m hm
  obtain ⟨i, hi, e⟩ := difF_mem.1 hm
  unfold mvD at e
  rw [if_pos rfl] at e
  cases e
/-- CheckForetells, plainly: the moves. -/
theorem mov_any (L : PLg) (x : Tx) : (movF L x).1 = difF (viewF L) (viewF (appF L x).1) 256 := by
  by_cases hj : (judR L 0 x).1 = 0
  · exact mov_dif hj
  · rw [show movF L x = ([], (judR L 0 x).1) from if_neg hj, appF_ref hj]
    exact (dif_self _).symm
theorem val_rng (t : UInt8) (a : UInt64) : 0 ≤ valF t a ∧ valF t a ≤ 22 := by
  unfold valF
  repeat' split
  all_goals omega
theorem rte_rng (c d t : UInt8) : 0 ≤ rteF c d t ∧ rteF c d t ≤ 22 := by
  unfold rteF
  repeat' split
  all_goals omega
theorem pay_rng (z : UInt8) (p : Vector UInt8 32) : 0 ≤ payF z p ∧ payF z p ≤ 22 := by
  unfold payF
  repeat' split
  all_goals omega
theorem inb_rng (c : UInt8) (m : Message) (q : UInt8) : 0 ≤ inbF c m q ∧ inbF c m q ≤ 22 := by
  unfold inbF
  repeat' split
  all_goals omega
theorem knd_rng (c : UInt8) (x : Tx) : 0 ≤ kndF c x ∧ kndF c x ≤ 22 := by
  have h1 := val_rng x.token x.amount
  have h2 := rte_rng c x.dest x.to_
  have h3 := pay_rng x.size x.payload
  have h4 := inb_rng c x.msg 2
  have h5 := inb_rng c x.msg 1
  have h6 := val_rng x.msg.token x.msg.amount
  have h7 := pay_rng x.msg.size x.msg.payload
  unfold kndF trnF burF sndF mntF conF
  repeat' split
  all_goals omega
/-- The codes of a shape. -/
theorem shp_rng (c : UInt8) (x : Tx) : 0 ≤ shpF c x ∧ shpF c x ≤ 22 := by
  have h1 := knd_rng c x
  have h2 : 0 ≤ envF c x ∧ envF c x ≤ 22 := by
    unfold envF
    repeat' split
    all_goals omega
  unfold shpF
  repeat' split
  all_goals omega
/-- The codes of a judgement. -/
theorem jud_rng (L : PLg) (x : Tx) : (shpF L.chain x ≠ 0 ∧ (judR L 0 x).1 = shpF L.chain x) ∨ (shpF L.chain x = 0 ∧ ((judR L 0 x).1 = 0 ∨ 23 ≤ (judR L 0 x).1 ∧ (judR L 0 x).1 ≤ 30 ∨ 42 ≤ (judR L 0 x).1 ∧ (judR L 0 x).1 ≤ 48)) := by
  unfold judR
  by_cases h : shpF L.chain x = 0
  · right
    refine ⟨h, ?_⟩
    rw [if_pos h]
    by_cases h1 : (admF L x Plan.zero).1 = 0
    · rw [if_pos h1]
      by_cases h2 : (sndR L 0 x (admF L x Plan.zero).2).1 = 0
      · rw [if_pos h2]
        by_cases h3 : (kndR L.st.now L.chain 0 (feeL L.st.now x) x (sndR L 0 x (admF L x Plan.zero).2).2).1 = 0
        · rw [if_pos h3]
          dsimp only
          split <;> omega
        · rw [if_neg h3]
          generalize (sndR L 0 x (admF L x Plan.zero).2).2 = P at h3 ⊢
          unfold kndR trnR brnR senR mntR conR at h3 ⊢
          repeat' split
          all_goals first | (dsimp only; omega) | (dsimp only; split <;> omega)
      · rw [if_neg h2]
        generalize (admF L x Plan.zero).2 = P at h2 ⊢
        unfold sndR at h2 ⊢
        repeat' split
        all_goals first | (dsimp only; omega) | (dsimp only; split <;> omega)
    · rw [if_neg h1]
      unfold admF at h1 ⊢
      repeat' split
      all_goals first | (dsimp only; omega) | (dsimp only; split <;> omega)
  · left
    refine ⟨h, ?_⟩
    rw [if_neg h]
/-- A code speaks of the shape exactly if the shape has a fault. -/
theorem cls_shp (L : PLg) (x : Tx) : (shpF L.chain x ≠ 0) ↔ classOf (judR L 0 x).1 = 1 := by
  have hs := shp_rng L.chain x
  have hc : ∀ c : Int, 1 ≤ c → c ≤ 22 → classOf c = 1 := fun c h1 h2 => by
    have : c = 1 ∨ c = 2 ∨ c = 3 ∨ c = 4 ∨ c = 5 ∨ c = 6 ∨ c = 7 ∨ c = 8 ∨ c = 9 ∨ c = 10 ∨ c = 11 ∨ c = 12 ∨ c = 13 ∨ c = 14 ∨ c = 15 ∨ c = 16 ∨ c = 17 ∨ c = 18 ∨ c = 19 ∨ c = 20 ∨ c = 21 ∨ c = 22 := by omega
    rcases this with rfl | rfl | rfl | rfl | rfl | rfl | rfl | rfl | rfl | rfl | rfl | rfl | rfl | rfl | rfl | rfl | rfl | rfl | rfl | rfl | rfl | rfl <;> rfl
  have hd : ∀ c : Int, (c = 0 ∨ 23 ≤ c ∧ c ≤ 30 ∨ 42 ≤ c ∧ c ≤ 48) → classOf c ≠ 1 := fun c h => by
    have : c = 0 ∨ c = 23 ∨ c = 24 ∨ c = 25 ∨ c = 26 ∨ c = 27 ∨ c = 28 ∨ c = 29 ∨ c = 30 ∨ c = 42 ∨ c = 43 ∨ c = 44 ∨ c = 45 ∨ c = 46 ∨ c = 47 ∨ c = 48 := by omega
    rcases this with rfl | rfl | rfl | rfl | rfl | rfl | rfl | rfl | rfl | rfl | rfl | rfl | rfl | rfl | rfl | rfl <;> decide
  rcases jud_rng L x with ⟨h, e⟩ | ⟨h, e⟩
  · rw [e]
    exact ⟨fun _ => hc _ (by omega) hs.2, fun _ => h⟩
  · exact ⟨fun q => absurd h q, fun q => absurd q (hd _ e)⟩
theorem app_code (L : PLg) (x : Tx) : (appF L x).2.code = (judR L 0 x).1 := by
  by_cases hj : (judR L 0 x).1 = 0
  · rw [appF_acc hj, hj]
    exact rcpF_code L x
  · rw [appF_ref hj]
theorem why_code (L : PLg) (x : Tx) : (whyF L x).code = (judR L 0 x).1 := by
  unfold whyF whyC
  repeat' split
  all_goals rfl
theorem mov_code (L : PLg) (x : Tx) : (movF L x).2 = (judR L 0 x).1 := by
  unfold movF
  split
  · rename_i h; exact h.symm
  · rfl
end Go.Proofs.Qxb6500786aGreat
