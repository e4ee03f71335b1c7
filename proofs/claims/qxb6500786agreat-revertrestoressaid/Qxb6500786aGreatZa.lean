import Derived.DeepKeys2
import Derived.Test.Qxb6500786aGreatYb
import Derived.Test.Qxb6500786aGreatXb

import Derived.StillTailTactics
import Derived.Deep.QuietTactic
import Derived.BigQuiet
import Derived.Deep.RegionHeld
import Derived.Deep.CutRange
import Derived.Laws.ResultCell
import Derived.Laws.Rows
import Derived.DeepKeys
import Derived.DataBytes
import Derived.Laws.StructEq
import Derived.Laws.AppendOwn
import Derived.Laws.MakeOwn
import Derived.Lib.AppendStr
set_option linter.unusedSimpArgs false
set_option linter.unusedVariables false
namespace Go.Proofs.Qxb6500786aGreat
open Go.RowKit Go.Blk
attribute [local go_sem ↓] execOp_load execOp_store execOp_alloc
attribute [local go_sem] Tryz.ld24 Tryz.st24 Tryz.ld36 Tryz.st36 Tryz.ld28 Tryz.st28 Tryz.ld32 Tryz.st32 Tryz.ld33 Tryz.st33 Tryz.ld34 Tryz.st34 Tryz.ld5 Tryz.st5 Tryz.ld31 Tryz.st31 Tryz.ld30 Tryz.st30 Tryz.ld41 Tryz.st41 Tryz.ld44 Tryz.st44 Tryz.ld4 Tryz.st4 Tryz.ld173 Tryz.st173 Tryz.ld174 Tryz.st174 Tryz.ld95 Tryz.st95 Tryz.ld45 Tryz.st45 Tryz.ld207 Tryz.st207 Tryz.ld3 Tryz.st3 Tryz.ld189 Tryz.st189 Tryz.ld2 Tryz.st2 Tryz.ld9 Tryz.st9 Tryz.ld12 Tryz.st12 Tryz.ld21 Tryz.st21 Tryz.ld22 Tryz.st22 Tryz.ld46 Tryz.st46 Tryz.ld92 Tryz.st92 Tryz.ld94 Tryz.st94 Tryz.ld96 Tryz.st96 Tryz.ld97 Tryz.st97 Tryz.ld105 Tryz.st105 Tryz.ld117 Tryz.st117 Tryz.ld122 Tryz.st122 Tryz.ld123 Tryz.st123 Tryz.ld133 Tryz.st133 Tryz.ld155 Tryz.st155 Tryz.ld163 Tryz.st163 Tryz.ld190 Tryz.st190 Tryz.ld197 Tryz.st197 Tryz.ld201 Tryz.st201 Tryz.ld202 Tryz.st202 Tryz.ld209 Tryz.st209 Tryz.ld216 Tryz.st216 Tryz.ld230 Tryz.st230 Tryz.ld238 Tryz.st238 Tryz.ld242 Tryz.st242 Tryz.ld251 Tryz.st251 Tryz.ld260 Tryz.st260 Tryz.ld286 Tryz.st286 Tryz.ld292 Tryz.st292 Tryz.ld298 Tryz.st298 Tryz.ld309 Tryz.st309 Tryz.ld35 Tryz.st35 Tryz.ld48 Tryz.st48 Tryz.ld47 Tryz.st47 Tryz.ld79 Tryz.st79 Tryz.ld177 Tryz.st177 Tryz.ld180 Tryz.st180 Tryz.ld231 Tryz.st231 Tryz.ld232 Tryz.st232 Tryz.ld26 Tryz.st26 Tryz.ld38 Tryz.st38 Tryz.ld40 Tryz.st40 Tryz.ld43 Tryz.st43 Tryz.ld50 Tryz.st50 Tryz.ld52 Tryz.st52 Tryz.ld54 Tryz.st54 Tryz.ld81 Tryz.st81 Tryz.ld112 Tryz.st112 Tryz.ld120 Tryz.st120 Tryz.ld176 Tryz.st176 Tryz.ld179 Tryz.st179 Tryz.ld182 Tryz.st182 Tryz.ld184 Tryz.st184 Tryz.ld234 Tryz.st234 Tryz.ld236 Tryz.st236 Tryz.ld240 Tryz.st240 Tryz.ld246 Tryz.st246 Tryz.ld249 Tryz.st249 Tryz.al35 Tryz.al48 Tryz.al47 Tryz.al79 Tryz.al177 Tryz.al180 Tryz.al231 Tryz.al232 Tryz.al26 Tryz.al38 Tryz.al40 Tryz.al43 Tryz.al50 Tryz.al52 Tryz.al54 Tryz.al81 Tryz.al112 Tryz.al120 Tryz.al176 Tryz.al179 Tryz.al182 Tryz.al184 Tryz.al234 Tryz.al236 Tryz.al240 Tryz.al246 Tryz.al249
attribute [local go_sem] Player.length_enc Player.ok_enc Player.all_get Player.all_set Player.hand_get Player.hand_set Player.aside_get Player.aside_set Message.length_enc Message.ok_enc Message.all_get Message.all_set Message.kind_get Message.kind_set Message.from__get Message.from__set Message.to__get Message.to__set Message.sender_get Message.sender_set Message.receiver_get Message.receiver_set Message.seq_get Message.seq_set Message.token_get Message.token_set Message.amount_get Message.amount_set Message.size_get Message.size_set Message.payload_get Message.payload_set Tx.length_enc Tx.ok_enc Tx.all_get Tx.all_set Tx.kind_get Tx.kind_set Tx.chain_get Tx.chain_set Tx.from__get Tx.from__set Tx.nonce_get Tx.nonce_set Tx.fee_get Tx.fee_set Tx.to__get Tx.to__set Tx.dest_get Tx.dest_set Tx.token_get Tx.token_set Tx.amount_get Tx.amount_set Tx.size_get Tx.size_set Tx.payload_get Tx.payload_set Tx.msg_get Tx.msg_set Tx.msg_kind_get Tx.msg_kind_set Tx.msg_from__get Tx.msg_from__set Tx.msg_to__get Tx.msg_to__set Tx.msg_sender_get Tx.msg_sender_set Tx.msg_receiver_get Tx.msg_receiver_set Tx.msg_seq_get Tx.msg_seq_set Tx.msg_token_get Tx.msg_token_set Tx.msg_amount_get Tx.msg_amount_set Tx.msg_size_get Tx.msg_size_set Tx.msg_payload_get Tx.msg_payload_set GOp.length_enc GOp.ok_enc GOp.all_get GOp.all_set GOp.kind_get GOp.kind_set GOp.tx_get GOp.tx_set GOp.txs_get GOp.txs_set GOp.gas_get GOp.gas_set GOp.acct_get GOp.acct_set GOp.token_get GOp.token_set GOp.chain_get GOp.chain_set GOp.seq_get GOp.seq_set GOp.tx_kind_get GOp.tx_kind_set GOp.tx_chain_get GOp.tx_chain_set GOp.tx_from__get GOp.tx_from__set GOp.tx_nonce_get GOp.tx_nonce_set GOp.tx_fee_get GOp.tx_fee_set GOp.tx_to__get GOp.tx_to__set GOp.tx_dest_get GOp.tx_dest_set GOp.tx_token_get GOp.tx_token_set GOp.tx_amount_get GOp.tx_amount_set GOp.tx_size_get GOp.tx_size_set GOp.tx_payload_get GOp.tx_payload_set GOp.tx_msg_get GOp.tx_msg_set GOp.tx_msg_kind_get GOp.tx_msg_kind_set GOp.tx_msg_from__get GOp.tx_msg_from__set GOp.tx_msg_to__get GOp.tx_msg_to__set GOp.tx_msg_sender_get GOp.tx_msg_sender_set GOp.tx_msg_receiver_get GOp.tx_msg_receiver_set GOp.tx_msg_seq_get GOp.tx_msg_seq_set GOp.tx_msg_token_get GOp.tx_msg_token_set GOp.tx_msg_amount_get GOp.tx_msg_amount_set GOp.tx_msg_size_get GOp.tx_msg_size_set GOp.tx_msg_payload_get GOp.tx_msg_payload_set Summary.length_enc Summary.ok_enc Summary.all_get Summary.all_set Summary.height_get Summary.height_set Summary.txs_get Summary.txs_set Summary.gas_get Summary.gas_set Summary.fees_get Summary.fees_set Summary.sent_get Summary.sent_set Summary.took_get Summary.took_set Summary.minted_get Summary.minted_set Summary.burned_get Summary.burned_set Summary.root_get Summary.root_set Detail.length_enc Detail.ok_enc Detail.all_get Detail.all_set Detail.code_get Detail.code_set Detail.have__get Detail.have__set Detail.need_get Detail.need_set Slot.length_enc Slot.ok_enc Slot.all_get Slot.all_set Slot.nonce_get Slot.nonce_set Slot.balances_get Slot.balances_set Tree.length_enc Tree.ok_enc Tree.all_get Tree.all_set Tree.leaves_get Tree.leaves_set Mark.length_enc Mark.ok_enc Mark.all_get Mark.all_set Mark.from__get Mark.from__set Mark.seq_get Mark.seq_set Receipt.length_enc Receipt.ok_enc Receipt.all_get Receipt.all_set Receipt.code_get Receipt.code_set Receipt.hash_get Receipt.hash_set Receipt.index_get Receipt.index_set Receipt.gas_get Receipt.gas_set Receipt.fee_get Receipt.fee_set Receipt.hasSent_get Receipt.hasSent_set Receipt.sent_get Receipt.sent_set Receipt.hasTook_get Receipt.hasTook_set Receipt.took_get Receipt.took_set Receipt.sent_kind_get Receipt.sent_kind_set Receipt.sent_from__get Receipt.sent_from__set Receipt.sent_to__get Receipt.sent_to__set Receipt.sent_sender_get Receipt.sent_sender_set Receipt.sent_receiver_get Receipt.sent_receiver_set Receipt.sent_seq_get Receipt.sent_seq_set Receipt.sent_token_get Receipt.sent_token_set Receipt.sent_amount_get Receipt.sent_amount_set Receipt.sent_size_get Receipt.sent_size_set Receipt.sent_payload_get Receipt.sent_payload_set Receipt.took_kind_get Receipt.took_kind_set Receipt.took_from__get Receipt.took_from__set Receipt.took_to__get Receipt.took_to__set Receipt.took_sender_get Receipt.took_sender_set Receipt.took_receiver_get Receipt.took_receiver_set Receipt.took_seq_get Receipt.took_seq_set Receipt.took_token_get Receipt.took_token_set Receipt.took_amount_get Receipt.took_amount_set Receipt.took_size_get Receipt.took_size_set Receipt.took_payload_get Receipt.took_payload_set Store.length_enc Store.ok_enc Store.all_get Store.all_set Store.now_get Store.now_set Store.saved_get Store.saved_set GState.length_enc GState.ok_enc GState.all_get GState.all_set GState.kv_get GState.kv_set GState.tree_get GState.tree_set GState.stale_get GState.stale_set GState.touched_get GState.touched_set GState.kv_now_get GState.kv_now_set GState.kv_saved_get GState.kv_saved_set GState.tree_leaves_get GState.tree_leaves_set History.length_enc History.ok_enc History.all_get History.all_set History.ring_get History.ring_set History.closed_get History.closed_set Ledger.length_enc Ledger.ok_enc Ledger.all_get Ledger.all_set Ledger.chain_get Ledger.chain_set Ledger.st_get Ledger.st_set Ledger.height_get Ledger.height_set Ledger.open__get Ledger.open__set Ledger.gasLimit_get Ledger.gasLimit_set Ledger.past_get Ledger.past_set Ledger.begun_get Ledger.begun_set Ledger.sent_get Ledger.sent_set Ledger.took_get Ledger.took_set Ledger.receipts_get Ledger.receipts_set Ledger.st_kv_get Ledger.st_kv_set Ledger.st_tree_get Ledger.st_tree_set Ledger.st_stale_get Ledger.st_stale_set Ledger.st_touched_get Ledger.st_touched_set Ledger.st_kv_now_get Ledger.st_kv_now_set Ledger.st_kv_saved_get Ledger.st_kv_saved_set Ledger.st_tree_leaves_get Ledger.st_tree_leaves_set Ledger.past_ring_get Ledger.past_ring_set Ledger.past_closed_get Ledger.past_closed_set Ledger.begun_kv_get Ledger.begun_kv_set Ledger.begun_tree_get Ledger.begun_tree_set Ledger.begun_stale_get Ledger.begun_stale_set Ledger.begun_touched_get Ledger.begun_touched_set Ledger.begun_kv_now_get Ledger.begun_kv_now_set Ledger.begun_kv_saved_get Ledger.begun_kv_saved_set Ledger.begun_tree_leaves_get Ledger.begun_tree_leaves_set Purse.length_enc Purse.ok_enc Purse.all_get Purse.all_set Purse.st_get Purse.st_set Purse.n_get Purse.n_set Purse.account_get Purse.account_set Purse.token_get Purse.token_set Purse.amount_get Purse.amount_set Plan.length_enc Plan.ok_enc Plan.all_get Plan.all_set Plan.purse_get Plan.purse_set Plan.nonce_get Plan.nonce_set Plan.gasUsed_get Plan.gasUsed_set Plan.fees_get Plan.fees_set Plan.hasSupply_get Plan.hasSupply_set Plan.token_get Plan.token_set Plan.supply_get Plan.supply_set Plan.flowAt_get Plan.flowAt_set Plan.flow_get Plan.flow_set Plan.receipt_get Plan.receipt_set Plan.purse_st_get Plan.purse_st_set Plan.purse_n_get Plan.purse_n_set Plan.purse_account_get Plan.purse_account_set Plan.purse_token_get Plan.purse_token_set Plan.purse_amount_get Plan.purse_amount_set Plan.receipt_code_get Plan.receipt_code_set Plan.receipt_hash_get Plan.receipt_hash_set Plan.receipt_index_get Plan.receipt_index_set Plan.receipt_gas_get Plan.receipt_gas_set Plan.receipt_fee_get Plan.receipt_fee_set Plan.receipt_hasSent_get Plan.receipt_hasSent_set Plan.receipt_sent_get Plan.receipt_sent_set Plan.receipt_hasTook_get Plan.receipt_hasTook_set Plan.receipt_took_get Plan.receipt_took_set Plan.receipt_sent_kind_get Plan.receipt_sent_kind_set Plan.receipt_sent_from__get Plan.receipt_sent_from__set Plan.receipt_sent_to__get Plan.receipt_sent_to__set Plan.receipt_sent_sender_get Plan.receipt_sent_sender_set Plan.receipt_sent_receiver_get Plan.receipt_sent_receiver_set Plan.receipt_sent_seq_get Plan.receipt_sent_seq_set Plan.receipt_sent_token_get Plan.receipt_sent_token_set Plan.receipt_sent_amount_get Plan.receipt_sent_amount_set Plan.receipt_sent_size_get Plan.receipt_sent_size_set Plan.receipt_sent_payload_get Plan.receipt_sent_payload_set Plan.receipt_took_kind_get Plan.receipt_took_kind_set Plan.receipt_took_from__get Plan.receipt_took_from__set Plan.receipt_took_to__get Plan.receipt_took_to__set Plan.receipt_took_sender_get Plan.receipt_took_sender_set Plan.receipt_took_receiver_get Plan.receipt_took_receiver_set Plan.receipt_took_seq_get Plan.receipt_took_seq_set Plan.receipt_took_token_get Plan.receipt_took_token_set Plan.receipt_took_amount_get Plan.receipt_took_amount_set Plan.receipt_took_size_get Plan.receipt_took_size_set Plan.receipt_took_payload_get Plan.receipt_took_payload_set Move.length_enc Move.ok_enc Move.all_get Move.all_set Move.account_get Move.account_set Move.token_get Move.token_set Move.down_get Move.down_set Move.amount_get Move.amount_set Books.length_enc Books.ok_enc Books.all_get Books.all_set Books.sums_get Books.sums_set Books.stored_get Books.stored_set Books.marks_get Books.marks_set Pair.length_enc Pair.ok_enc Pair.all_get Pair.all_set Pair.key_get Pair.key_set Pair.value_get Pair.value_set
attribute [local go_sem] size_put size_ext blk_put free_put blk_alloc free_alloc blk_drew free_drew blk_ext free_ext lookOr_some putOr_some segAt_some cellAt_some storeIn_some put_put put_alloc_new length_arr ok_arr_u8 ok_arr_u32 ok_arr_u64 ok_arr_i64 ok_arr_sl cellsV_agg cellsV_int cellsV_bool cellsV_string cellsV_pointer cellsV_slice cellsV_sl ok_int ok_bool ok_string ok_pointer ok_slice ok_sl toList_arr seg_arr set_arr nth_splice nth_splice0 seg_splice seg_splice0 splice_splice splice_splice0 length_splice_if
attribute [local go_sem ↓] execOp_box
attribute [local go_sem] box_run nth_arr_u8 put_arr_u8 blk_drewN free_drewN put_drewN blk_raw free_raw
/-- Marks are kept as ones. -/
def MkV (l : List Pair) : Prop := ∀ (f : UInt8) (s : UInt64), s.toNat < 281474976710656 → ldF l (keyM f s) = 0 ∨ ldF l (keyM f s) = 1
structure MvI (L : PLg) : Prop where
  lv : ∀ l ∈ L.st.saved ++ [L.st.now], MkV l
  bg : L.open_ = true → MkV L.begun.now
theorem MvI.now {L : PLg} (h : MvI L) : MkV L.st.now := h.lv _ (List.mem_append_right _ (List.mem_singleton.2 rfl))
theorem MvI.sav {L : PLg} (h : MvI L) {l : List Pair} (hl : l ∈ L.st.saved) : MkV l := h.lv _ (List.mem_append_left _ hl)
theorem MvI.evt {n : Nat} {L L' : PLg} {k : Nat} (hL : LI n L) (h : MvI L) (he : Evt L L' k) : MvI L' := by
  cases he with
  | app x hj h0 =>
    obtain ⟨s1, s2, s3, s4, s5, s6, s7, s8⟩ := enactF_same L x (plnH L 0 x) (purL L.st.now x)
    have sv : (accL L x).st.saved = L.st.saved := enactF_sv L x (plnH L 0 x) (purL L.st.now x)
    have e2 : (accL L x).begun = L.begun := s2
    have e3 : (accL L x).open_ = L.open_ := s3
    refine ⟨fun l hl => ?_, fun q => by rw [e2]; exact h.bg (by rw [← e3]; exact q)⟩
    rw [sv] at hl
    rcases List.mem_append.1 hl with g | g
    · exact h.sav g
    · rw [List.mem_singleton.1 g]
      intro f s hs
      rw [acc_M hj f s hs]
      split
      · exact .inr rfl
      · exact h.now f s hs
  | beg g ho hg hg2 => exact ⟨h.lv, fun _ => h.now⟩
  | en ho hs =>
    obtain ⟨f1, f2, f3, f4, f5, f6, f7, f8, f9, f10, f11⟩ := endL_f L
    refine ⟨fun l hl => ?_, fun q => by rw [f4] at q; cases q⟩
    rw [f2, f3, hs] at hl
    have e : l = clrA L.st.now := by simpa using hl
    rw [e]
    intro f s hs
    rw [clrA_keep _ (fun i _ => ne_of_false (kMC f s i))]
    exact h.now f s hs
  | ck ho h8 =>
    have e : (ckF L.st).2 = { L.st with saved := L.st.saved ++ [L.st.now], touched := L.st.touched.set (L.st.saved.length + 1) 0 } := by
      unfold ckF
      rw [dif_pos h8]
    refine ⟨fun l hl => ?_, h.bg⟩
    have hl' : l ∈ (ckF L.st).2.saved ++ [(ckF L.st).2.now] := hl
    rw [e] at hl'
    rcases List.mem_append.1 hl' with g | g
    · exact h.lv l g
    · rw [List.mem_singleton.1 g]; exact h.now
  | rv h1 h2 =>
    have e : (rvF L.st).2.now = (L.st.saved.getLast?).getD [] ∧ (rvF L.st).2.saved = L.st.saved.take (L.st.saved.length - 1) := by
      unfold rvF
      rw [dif_pos ⟨h1, by omega⟩]
      exact ⟨rfl, rfl⟩
    refine ⟨fun l hl => ?_, h.bg⟩
    have hl' : l ∈ (rvF L.st).2.saved ++ [(rvF L.st).2.now] := hl
    rw [e.1, e.2] at hl'
    rcases List.mem_append.1 hl' with g | g
    · exact h.sav (List.mem_of_mem_take g)
    · rw [List.mem_singleton.1 g]
      have hne : L.st.saved ≠ [] := fun q => by rw [q] at h1; cases h1
      rw [List.getLast?_eq_some_getLast hne]
      exact h.sav (List.getLast_mem hne)
  | cm h1 h2 =>
    have e : (cmF L.st).2.now = L.st.now ∧ (cmF L.st).2.saved = L.st.saved.take (L.st.saved.length - 1) := by
      unfold cmF
      rw [dif_pos ⟨h1, by omega⟩]
      exact ⟨rfl, rfl⟩
    refine ⟨fun l hl => ?_, h.bg⟩
    have hl' : l ∈ (cmF L.st).2.saved ++ [(cmF L.st).2.now] := hl
    rw [e.1, e.2] at hl'
    rcases List.mem_append.1 hl' with g | g
    · exact h.sav (List.mem_of_mem_take g)
    · rw [List.mem_singleton.1 g]; exact h.now
  | ab ho =>
    refine ⟨fun l hl => ?_, fun q => by cases q⟩
    have hl' : l ∈ L.begun.saved ++ [L.begun.now] := hl
    rw [(hL.op ho).2.2.2.2] at hl'
    have e : l = L.begun.now := by simpa using hl'
    rw [e]
    exact h.bg ho
  | rot =>
    exact ⟨fun l hl => h.lv l (by simpa only [rotL, rootS] using hl), fun q => by simpa only [rotL] using h.bg (by simpa only [rotL] using q)⟩
  | clo => exact ⟨h.lv, h.bg⟩
theorem MvI.evs {n k : Nat} {L L' : PLg} (hL : LI n L) (h : MvI L) (he : Evs L L' k) (hn : n + k < 10000000) : MvI L' := by
  induction he with
  | nil => exact h
  | snoc a b ih => exact MvI.evt (hL.evs a (by omega)) (ih (by omega)) b
theorem MvI.rld {n : Nat} {L : PLg} (hL : LI n L) (h : MvI L) (hn : n ≤ 10000000) (k : Nat) : MvI (rldF L k).2 := by
  by_cases ho : L.open_ = true
  · rw [rldF_open ho]; exact h
  · have ho' : L.open_ = false := by cases hh : L.open_ <;> simp_all
    by_cases hv : ∃ v, LdOk (splF (dmpD L) k) v
    · obtain ⟨v, hv⟩ := hv
      rw [rldF_ok ho' hv]
      have hD := ldL_ld (splF (dmpD L) k) v
      have hG : MkG (splF (dmpD L) k).chain (splF (dmpD L) k).marks := mkSnd_G hv.2.2.1
      have hml : (splF (dmpD L) k).marks.length < 9223372036854775807 := by
        rw [(spl_ok hv).1, dmpD_mk]
        have := hL.now.mrk
        have := hL.now.mkn
        omega
      have hS := ldL_st (v := v) hG hml
      have key : (lhL (ldL (splF (dmpD L) k) v) (splF (dmpD L) k).hist).st.now = (ldL (splF (dmpD L) k) v).st.now ∧ (lhL (ldL (splF (dmpD L) k) v) (splF (dmpD L) k).hist).st.saved = (ldL (splF (dmpD L) k) v).st.saved ∧ (lhL (ldL (splF (dmpD L) k) v) (splF (dmpD L) k).hist).open_ = (ldL (splF (dmpD L) k) v).open_ := by
        unfold lhL
        split
        · exact ⟨rfl, rfl, rfl⟩
        · rw [lhN_past]
          simp only [rotL, rootS, and_self]
      have hsv : (ldL (splF (dmpD L) k) v).st.saved = [] := hD.2.sv
      have hop : (ldL (splF (dmpD L) k) v).open_ = false := by rw [hD.1]; rfl
      refine ⟨fun l hl => ?_, fun q => ?_⟩
      · have hl' : l ∈ (lhL (ldL (splF (dmpD L) k) v) (splF (dmpD L) k).hist).st.saved ++ [(lhL (ldL (splF (dmpD L) k) v) (splF (dmpD L) k).hist).st.now] := hl
        rw [key.1, key.2.1, hsv] at hl'
        have e : l = (ldL (splF (dmpD L) k) v).st.now := by simpa using hl'
        rw [e]
        intro f s hs
        rcases hS.M f s hs with ⟨q, -⟩ | ⟨q, -⟩
        · exact .inr q
        · exact .inl q
      · have q' : (lhL (ldL (splF (dmpD L) k) v) (splF (dmpD L) k).hist).open_ = true := q
        rw [key.2.2, hop] at q'
        cases q'
    · rw [rldF_bad ho' (fun v hq => hv ⟨v, hq⟩)]
      exact h
/-- The step keeps the marks ones. -/
theorem MvI.stp {n : Nat} {L1 L2 : PLg} {g : GOp} {X : List Tx} (hL : LI n L1) (h1 : MvI L1) (h2 : MvI L2) (hn : n + X.length + 1 < 10000000) : MvI (stpF L1 L2 g X).2.1 ∧ MvI (stpF L1 L2 g X).2.2 := by
  unfold stpF
  by_cases k15 : g.kind = 15
  · rw [if_pos k15]
    exact ⟨h1, h1.evt hL (Evt.clo L1)⟩
  rw [if_neg k15]
  by_cases k16 : g.kind = 16
  · rw [if_pos k16]
    exact ⟨h2, h1⟩
  rw [if_neg k16]
  by_cases k17 : g.kind = 17
  · rw [if_pos k17]
    exact ⟨h1.rld hL (by omega) _, h2⟩
  rw [if_neg k17]
  obtain ⟨m, hm, he⟩ := evs_stpH L1 g X hL.dep
  exact ⟨h1.evs hL he (by omega), h2⟩
theorem newL_mvi (c : UInt8) : MvI (newL c) := by
  refine ⟨fun l hl => ?_, fun q => (by cases q)⟩
  have hl' : l ∈ ([] : List (List Pair)) ++ [([] : List Pair)] := hl
  have e : l = [] := by simpa using hl'
  rw [e]
  intro f s hs
  exact .inl rfl
/-- A code that no guard has spoken. -/
def okC (c : Int) : Prop := 0 ≤ c ∧ c ≤ 48 ∧ c ≠ 42 ∧ c ≠ 43 ∧ c ≠ 44
theorem okC_cls {c : Int} (h : okC c) : classOf c ≠ 5 ∧ classOf c ≠ 6 := by
  obtain ⟨h1, h2, h3, h4, h5⟩ := h
  have : c = 0 ∨ c = 1 ∨ c = 2 ∨ c = 3 ∨ c = 4 ∨ c = 5 ∨ c = 6 ∨ c = 7 ∨ c = 8 ∨ c = 9 ∨ c = 10 ∨ c = 11 ∨ c = 12 ∨ c = 13 ∨ c = 14 ∨ c = 15 ∨ c = 16 ∨ c = 17 ∨ c = 18 ∨ c = 19 ∨ c = 20 ∨ c = 21 ∨ c = 22 ∨ c = 23 ∨ c = 24 ∨ c = 25 ∨ c = 26 ∨ c = 27 ∨ c = 28 ∨ c = 29 ∨ c = 30 ∨ c = 31 ∨ c = 32 ∨ c = 33 ∨ c = 34 ∨ c = 35 ∨ c = 36 ∨ c = 37 ∨ c = 38 ∨ c = 39 ∨ c = 40 ∨ c = 41 ∨ c = 45 ∨ c = 46 ∨ c = 47 ∨ c = 48 := by omega
  rcases this with rfl | rfl | rfl | rfl | rfl | rfl | rfl | rfl | rfl | rfl | rfl | rfl | rfl | rfl | rfl | rfl | rfl | rfl | rfl | rfl | rfl | rfl | rfl | rfl | rfl | rfl | rfl | rfl | rfl | rfl | rfl | rfl | rfl | rfl | rfl | rfl | rfl | rfl | rfl | rfl | rfl | rfl | rfl | rfl | rfl | rfl <;> decide
theorem jud_okC {n : Nat} {L : PLg} (h : LI n L) (hn : n < 10000000) (x : Tx) : okC (judR L 0 x).1 := by
  obtain ⟨n1, n2, n3⟩ := no_fault h hn x
  have hs := shp_rng L.chain x
  unfold okC
  rcases jud_rng L x with ⟨-, e⟩ | ⟨-, e⟩ <;> omega
theorem run_okC : ∀ (X : List Tx) {n : Nat} {L : PLg} {i : Nat} {rs : List Receipt}, LI n L → n + X.length < 10000000 → okC (runF L X i rs).1.2
  | [], _, _, _, _, _, _ => ⟨Int.le_refl _, by show (0 : Int) ≤ 48; decide, by show (0 : Int) ≠ 42; decide, by show (0 : Int) ≠ 43; decide, by show (0 : Int) ≠ 44; decide⟩
  | x :: X, n, L, i, rs, h, hn => by
    have hl : (x :: X).length = X.length + 1 := rfl
    rw [hl] at hn
    unfold runF
    by_cases hj : (judR L 0 x).1 = 0
    · have h1 := h.evt (Evt.app L x (judR_ok hj).1 hj) (by omega)
      rw [appF_acc hj]
      dsimp only
      rw [if_pos (show (appR L x).code = 0 from rcpF_code L x)]
      exact run_okC X h1 (by omega)
    · rw [appF_ref hj]
      dsimp only
      rw [if_neg hj]
      exact jud_okC h (by omega) x
theorem bat_okC {n : Nat} {L : PLg} {X : List Tx} {cm : Bool} (h : LI n L) (hn : n + X.length < 10000000) : okC (batF cm L X).1.2 := by
  have h0 : okC 0 := by unfold okC; omega
  unfold batF
  by_cases hc : cbF L X.length = 0
  · rw [if_pos hc]
    obtain ⟨hn0, ho, hs, hck⟩ := ckF_ok hc
    have hLI : LI n { L with st := (ckF L.st).2 } := h.evt (Evt.ck L ho hs) (by omega)
    split
    · exact h0
    · exact run_okC X hLI hn
  · rw [if_neg hc]
    have := cb_rng L X.length
    show okC (cbF L X.length)
    unfold okC
    omega
theorem fnd_okC (d : Dig) : ∀ l : List Receipt, okC (fndR d l).2
  | [] => by show okC 46; unfold okC; omega
  | r :: l => by
    unfold fndR
    split
    · show okC 0; unfold okC; omega
    · exact fnd_okC d l
/-- No step meets a guard. -/
theorem stp_okC {n : Nat} {L1 L2 : PLg} {g : GOp} {X : List Tx} (h : LI n L1) (hn : n + X.length + 1 < 10000000) : okC (stpF L1 L2 g X).1.code := by
  have h0 : okC 0 := by unfold okC; omega
  have z : ∀ c : Int, (0 ≤ c ∧ c ≤ 41 ∨ c = 46 ∨ c = 47) → okC c := fun c hc => by unfold okC; omega
  unfold stpF
  by_cases k15 : g.kind = 15
  · rw [if_pos k15]; exact h0
  rw [if_neg k15]
  by_cases k16 : g.kind = 16
  · rw [if_pos k16]; exact h0
  rw [if_neg k16]
  by_cases k17 : g.kind = 17
  · rw [if_pos k17]
    show okC (rldF L1 (g.seq.toNat % 10)).1
    unfold rldF
    repeat' split
    all_goals (apply z; dsimp only; omega)
  rw [if_neg k17]
  unfold stpH
  by_cases k1 : g.kind = 1
  · rw [if_pos k1]
    show okC (begF L1 g.gas).1
    unfold begF
    repeat' split
    all_goals (apply z; dsimp only; omega)
  rw [if_neg k1]
  by_cases k2 : g.kind = 2
  · rw [if_pos k2]
    show okC (endF L1).1.2
    unfold endF
    repeat' split
    all_goals (apply z; dsimp only; omega)
  rw [if_neg k2]
  by_cases k3 : g.kind = 3
  · rw [if_pos k3]
    show okC (appF L1 g.tx).2.code
    rw [app_code]
    exact jud_okC h (by omega) _
  rw [if_neg k3]
  by_cases k4 : g.kind = 4
  · rw [if_pos k4]; exact jud_okC h (by omega) _
  rw [if_neg k4]
  by_cases k5 : g.kind = 5
  · rw [if_pos k5]; exact bat_okC h (by omega)
  rw [if_neg k5]
  by_cases k6 : g.kind = 6
  · rw [if_pos k6]; exact bat_okC h (by omega)
  rw [if_neg k6]
  by_cases k7 : g.kind = 7
  · rw [if_pos k7]
    show okC (ckL L1).1
    unfold ckL ckF
    repeat' split
    all_goals (apply z; dsimp only; omega)
  rw [if_neg k7]
  by_cases k8 : g.kind = 8
  · rw [if_pos k8]
    show okC (rvF L1.st).1
    unfold rvF
    repeat' split
    all_goals (apply z; dsimp only; omega)
  rw [if_neg k8]
  by_cases k9 : g.kind = 9
  · rw [if_pos k9]
    show okC (cmF L1.st).1
    unfold cmF
    repeat' split
    all_goals (apply z; dsimp only; omega)
  rw [if_neg k9]
  by_cases k10 : g.kind = 10
  · rw [if_pos k10]; exact h0
  rw [if_neg k10]
  by_cases k11 : g.kind = 11
  · rw [if_pos k11]
    show okC (balF L1.st.now g.acct g.token).2
    unfold balF
    repeat' split
    all_goals (apply z; dsimp only; omega)
  rw [if_neg k11]
  by_cases k12 : g.kind = 12
  · rw [if_pos k12]
    show okC (nonF L1.st.now g.acct).2
    unfold nonF
    repeat' split
    all_goals (apply z; dsimp only; omega)
  rw [if_neg k12]
  by_cases k13 : g.kind = 13
  · rw [if_pos k13]
    show okC (supF L1.st.now g.token).2
    unfold supF
    repeat' split
    all_goals (apply z; dsimp only; omega)
  rw [if_neg k13]
  by_cases k14 : g.kind = 14
  · rw [if_pos k14]
    show okC (csmF L1 g.chain g.seq).2
    unfold csmF
    repeat' split
    all_goals (apply z; dsimp only; omega)
  rw [if_neg k14]
  by_cases k18 : g.kind = 18
  · rw [if_pos k18]
    show okC (exeF L1 g.gas X).1.code
    unfold exeF
    by_cases hb : (begF L1 g.gas).1 = 0
    · rw [if_pos hb]
      have hbe : LI (n + 1) (begF L1 g.gas).2 := by
        obtain ⟨m, hm, he⟩ := evs_beg L1 g.gas
        exact (h.evs he (by omega)).mono (by omega)
      split
      · show okC (endF _).1.2
        unfold endF
        repeat' split
        all_goals (apply z; dsimp only; omega)
      · exact run_okC X hbe (by omega)
    · rw [if_neg hb]
      show okC (begF L1 g.gas).1
      unfold begF
      repeat' split
      all_goals (apply z; dsimp only; omega)
  rw [if_neg k18]
  by_cases k19 : g.kind = 19
  · rw [if_pos k19]
    show okC (movF L1 g.tx).2
    rw [mov_code]
    exact jud_okC h (by omega) _
  rw [if_neg k19]
  by_cases k20 : g.kind = 20
  · rw [if_pos k20]
    show okC (rcAF L1 g.seq).2
    unfold rcAF
    repeat' split
    all_goals (apply z; dsimp only; omega)
  rw [if_neg k20]
  by_cases k21 : g.kind = 21
  · rw [if_pos k21]
    show okC (rcFF L1 (hashF g.tx)).2
    unfold rcFF
    split
    · exact fnd_okC _ _
    · apply z; dsimp only; omega
  rw [if_neg k21]
  by_cases k22 : g.kind = 22
  · rw [if_pos k22]
    show okC (sumF L1.past g.seq).2
    unfold sumF
    repeat' split
    all_goals (apply z; dsimp only; omega)
  rw [if_neg k22]
  by_cases k23 : g.kind = 23
  · rw [if_pos k23]
    show okC (rvTo L1 (sqI g.seq)).1
    unfold rvTo
    repeat' split
    all_goals (apply z; dsimp only; omega)
  rw [if_neg k23]
  by_cases k24 : g.kind = 24
  · rw [if_pos k24]
    show okC (cmTo L1 (sqI g.seq)).1
    unfold cmTo
    repeat' split
    all_goals (apply z; dsimp only; omega)
  rw [if_neg k24]
  by_cases k25 : g.kind = 25
  · rw [if_pos k25]
    show okC (whyF L1 g.tx).code
    rw [why_code]
    exact jud_okC h (by omega) _
  rw [if_neg k25]
  by_cases k26 : g.kind = 26
  · rw [if_pos k26]
    show okC (sltF L1.st.now g.acct).2
    unfold sltF
    repeat' split
    all_goals (apply z; dsimp only; omega)
  rw [if_neg k26]
  by_cases k27 : g.kind = 27
  · rw [if_pos k27]
    show okC (abF L1).1
    unfold abF
    repeat' split
    all_goals (apply z; dsimp only; omega)
  rw [if_neg k27]
  exact z 41 (by omega)
end Go.Proofs.Qxb6500786aGreat
