import Derived.Test.Qxb6500786aGreatKk

import Derived.StillTailTactics
import Derived.Deep.QuietTactic
import Derived.BigQuiet
import Derived.Deep.RegionHeld
import Derived.Deep.CutRange
import Derived.Laws.ResultCell
import Derived.Laws.Rows
import Derived.DeepKeys
import Derived.DataBytes
import Derived.Laws.StructEq
import Derived.Laws.AppendOwn
import Derived.Laws.MakeOwn
import Derived.Lib.AppendStr
set_option linter.unusedSimpArgs false
set_option linter.unusedVariables false
namespace Go.Proofs.Qxb6500786aGreat
open Go.RowKit Go.Blk
attribute [local go_sem ↓] execOp_load execOp_store execOp_alloc
attribute [local go_sem] Tryz.ld24 Tryz.st24 Tryz.ld36 Tryz.st36 Tryz.ld28 Tryz.st28 Tryz.ld32 Tryz.st32 Tryz.ld33 Tryz.st33 Tryz.ld34 Tryz.st34 Tryz.ld5 Tryz.st5 Tryz.ld31 Tryz.st31 Tryz.ld30 Tryz.st30 Tryz.ld41 Tryz.st41 Tryz.ld44 Tryz.st44 Tryz.ld4 Tryz.st4 Tryz.ld173 Tryz.st173 Tryz.ld174 Tryz.st174 Tryz.ld95 Tryz.st95 Tryz.ld45 Tryz.st45 Tryz.ld207 Tryz.st207 Tryz.ld3 Tryz.st3 Tryz.ld189 Tryz.st189 Tryz.ld2 Tryz.st2 Tryz.ld9 Tryz.st9 Tryz.ld12 Tryz.st12 Tryz.ld21 Tryz.st21 Tryz.ld22 Tryz.st22 Tryz.ld46 Tryz.st46 Tryz.ld92 Tryz.st92 Tryz.ld94 Tryz.st94 Tryz.ld96 Tryz.st96 Tryz.ld97 Tryz.st97 Tryz.ld105 Tryz.st105 Tryz.ld117 Tryz.st117 Tryz.ld122 Tryz.st122 Tryz.ld123 Tryz.st123 Tryz.ld133 Tryz.st133 Tryz.ld155 Tryz.st155 Tryz.ld163 Tryz.st163 Tryz.ld190 Tryz.st190 Tryz.ld197 Tryz.st197 Tryz.ld201 Tryz.st201 Tryz.ld202 Tryz.st202 Tryz.ld209 Tryz.st209 Tryz.ld216 Tryz.st216 Tryz.ld230 Tryz.st230 Tryz.ld238 Tryz.st238 Tryz.ld242 Tryz.st242 Tryz.ld251 Tryz.st251 Tryz.ld260 Tryz.st260 Tryz.ld286 Tryz.st286 Tryz.ld292 Tryz.st292 Tryz.ld298 Tryz.st298 Tryz.ld309 Tryz.st309 Tryz.ld35 Tryz.st35 Tryz.ld48 Tryz.st48 Tryz.ld47 Tryz.st47 Tryz.ld79 Tryz.st79 Tryz.ld177 Tryz.st177 Tryz.ld180 Tryz.st180 Tryz.ld231 Tryz.st231 Tryz.ld232 Tryz.st232 Tryz.ld26 Tryz.st26 Tryz.ld38 Tryz.st38 Tryz.ld40 Tryz.st40 Tryz.ld43 Tryz.st43 Tryz.ld50 Tryz.st50 Tryz.ld52 Tryz.st52 Tryz.ld54 Tryz.st54 Tryz.ld81 Tryz.st81 Tryz.ld112 Tryz.st112 Tryz.ld120 Tryz.st120 Tryz.ld176 Tryz.st176 Tryz.ld179 Tryz.st179 Tryz.ld182 Tryz.st182 Tryz.ld184 Tryz.st184 Tryz.ld234 Tryz.st234 Tryz.ld236 Tryz.st236 Tryz.ld240 Tryz.st240 Tryz.ld246 Tryz.st246 Tryz.ld249 Tryz.st249 Tryz.al35 Tryz.al48 Tryz.al47 Tryz.al79 Tryz.al177 Tryz.al180 Tryz.al231 Tryz.al232 Tryz.al26 Tryz.al38 Tryz.al40 Tryz.al43 Tryz.al50 Tryz.al52 Tryz.al54 Tryz.al81 Tryz.al112 Tryz.al120 Tryz.al176 Tryz.al179 Tryz.al182 Tryz.al184 Tryz.al234 Tryz.al236 Tryz.al240 Tryz.al246 Tryz.al249
attribute [local go_sem] Player.length_enc Player.ok_enc Player.all_get Player.all_set Player.hand_get Player.hand_set Player.aside_get Player.aside_set Message.length_enc Message.ok_enc Message.all_get Message.all_set Message.kind_get Message.kind_set Message.from__get Message.from__set Message.to__get Message.to__set Message.sender_get Message.sender_set Message.receiver_get Message.receiver_set Message.seq_get Message.seq_set Message.token_get Message.token_set Message.amount_get Message.amount_set Message.size_get Message.size_set Message.payload_get Message.payload_set Tx.length_enc Tx.ok_enc Tx.all_get Tx.all_set Tx.kind_get Tx.kind_set Tx.chain_get Tx.chain_set Tx.from__get Tx.from__set Tx.nonce_get Tx.nonce_set Tx.fee_get Tx.fee_set Tx.to__get Tx.to__set Tx.dest_get Tx.dest_set Tx.token_get Tx.token_set Tx.amount_get Tx.amount_set Tx.size_get Tx.size_set Tx.payload_get Tx.payload_set Tx.msg_get Tx.msg_set Tx.msg_kind_get Tx.msg_kind_set Tx.msg_from__get Tx.msg_from__set Tx.msg_to__get Tx.msg_to__set Tx.msg_sender_get Tx.msg_sender_set Tx.msg_receiver_get Tx.msg_receiver_set Tx.msg_seq_get Tx.msg_seq_set Tx.msg_token_get Tx.msg_token_set Tx.msg_amount_get Tx.msg_amount_set Tx.msg_size_get Tx.msg_size_set Tx.msg_payload_get Tx.msg_payload_set GOp.length_enc GOp.ok_enc GOp.all_get GOp.all_set GOp.kind_get GOp.kind_set GOp.tx_get GOp.tx_set GOp.txs_get GOp.txs_set GOp.gas_get GOp.gas_set GOp.acct_get GOp.acct_set GOp.token_get GOp.token_set GOp.chain_get GOp.chain_set GOp.seq_get GOp.seq_set GOp.tx_kind_get GOp.tx_kind_set GOp.tx_chain_get GOp.tx_chain_set GOp.tx_from__get GOp.tx_from__set GOp.tx_nonce_get GOp.tx_nonce_set GOp.tx_fee_get GOp.tx_fee_set GOp.tx_to__get GOp.tx_to__set GOp.tx_dest_get GOp.tx_dest_set GOp.tx_token_get GOp.tx_token_set GOp.tx_amount_get GOp.tx_amount_set GOp.tx_size_get GOp.tx_size_set GOp.tx_payload_get GOp.tx_payload_set GOp.tx_msg_get GOp.tx_msg_set GOp.tx_msg_kind_get GOp.tx_msg_kind_set GOp.tx_msg_from__get GOp.tx_msg_from__set GOp.tx_msg_to__get GOp.tx_msg_to__set GOp.tx_msg_sender_get GOp.tx_msg_sender_set GOp.tx_msg_receiver_get GOp.tx_msg_receiver_set GOp.tx_msg_seq_get GOp.tx_msg_seq_set GOp.tx_msg_token_get GOp.tx_msg_token_set GOp.tx_msg_amount_get GOp.tx_msg_amount_set GOp.tx_msg_size_get GOp.tx_msg_size_set GOp.tx_msg_payload_get GOp.tx_msg_payload_set Summary.length_enc Summary.ok_enc Summary.all_get Summary.all_set Summary.height_get Summary.height_set Summary.txs_get Summary.txs_set Summary.gas_get Summary.gas_set Summary.fees_get Summary.fees_set Summary.sent_get Summary.sent_set Summary.took_get Summary.took_set Summary.minted_get Summary.minted_set Summary.burned_get Summary.burned_set Summary.root_get Summary.root_set Detail.length_enc Detail.ok_enc Detail.all_get Detail.all_set Detail.code_get Detail.code_set Detail.have__get Detail.have__set Detail.need_get Detail.need_set Slot.length_enc Slot.ok_enc Slot.all_get Slot.all_set Slot.nonce_get Slot.nonce_set Slot.balances_get Slot.balances_set Tree.length_enc Tree.ok_enc Tree.all_get Tree.all_set Tree.leaves_get Tree.leaves_set Mark.length_enc Mark.ok_enc Mark.all_get Mark.all_set Mark.from__get Mark.from__set Mark.seq_get Mark.seq_set Receipt.length_enc Receipt.ok_enc Receipt.all_get Receipt.all_set Receipt.code_get Receipt.code_set Receipt.hash_get Receipt.hash_set Receipt.index_get Receipt.index_set Receipt.gas_get Receipt.gas_set Receipt.fee_get Receipt.fee_set Receipt.hasSent_get Receipt.hasSent_set Receipt.sent_get Receipt.sent_set Receipt.hasTook_get Receipt.hasTook_set Receipt.took_get Receipt.took_set Receipt.sent_kind_get Receipt.sent_kind_set Receipt.sent_from__get Receipt.sent_from__set Receipt.sent_to__get Receipt.sent_to__set Receipt.sent_sender_get Receipt.sent_sender_set Receipt.sent_receiver_get Receipt.sent_receiver_set Receipt.sent_seq_get Receipt.sent_seq_set Receipt.sent_token_get Receipt.sent_token_set Receipt.sent_amount_get Receipt.sent_amount_set Receipt.sent_size_get Receipt.sent_size_set Receipt.sent_payload_get Receipt.sent_payload_set Receipt.took_kind_get Receipt.took_kind_set Receipt.took_from__get Receipt.took_from__set Receipt.took_to__get Receipt.took_to__set Receipt.took_sender_get Receipt.took_sender_set Receipt.took_receiver_get Receipt.took_receiver_set Receipt.took_seq_get Receipt.took_seq_set Receipt.took_token_get Receipt.took_token_set Receipt.took_amount_get Receipt.took_amount_set Receipt.took_size_get Receipt.took_size_set Receipt.took_payload_get Receipt.took_payload_set Store.length_enc Store.ok_enc Store.all_get Store.all_set Store.now_get Store.now_set Store.saved_get Store.saved_set GState.length_enc GState.ok_enc GState.all_get GState.all_set GState.kv_get GState.kv_set GState.tree_get GState.tree_set GState.stale_get GState.stale_set GState.touched_get GState.touched_set GState.kv_now_get GState.kv_now_set GState.kv_saved_get GState.kv_saved_set GState.tree_leaves_get GState.tree_leaves_set History.length_enc History.ok_enc History.all_get History.all_set History.ring_get History.ring_set History.closed_get History.closed_set Ledger.length_enc Ledger.ok_enc Ledger.all_get Ledger.all_set Ledger.chain_get Ledger.chain_set Ledger.st_get Ledger.st_set Ledger.height_get Ledger.height_set Ledger.open__get Ledger.open__set Ledger.gasLimit_get Ledger.gasLimit_set Ledger.past_get Ledger.past_set Ledger.begun_get Ledger.begun_set Ledger.sent_get Ledger.sent_set Ledger.took_get Ledger.took_set Ledger.receipts_get Ledger.receipts_set Ledger.st_kv_get Ledger.st_kv_set Ledger.st_tree_get Ledger.st_tree_set Ledger.st_stale_get Ledger.st_stale_set Ledger.st_touched_get Ledger.st_touched_set Ledger.st_kv_now_get Ledger.st_kv_now_set Ledger.st_kv_saved_get Ledger.st_kv_saved_set Ledger.st_tree_leaves_get Ledger.st_tree_leaves_set Ledger.past_ring_get Ledger.past_ring_set Ledger.past_closed_get Ledger.past_closed_set Ledger.begun_kv_get Ledger.begun_kv_set Ledger.begun_tree_get Ledger.begun_tree_set Ledger.begun_stale_get Ledger.begun_stale_set Ledger.begun_touched_get Ledger.begun_touched_set Ledger.begun_kv_now_get Ledger.begun_kv_now_set Ledger.begun_kv_saved_get Ledger.begun_kv_saved_set Ledger.begun_tree_leaves_get Ledger.begun_tree_leaves_set Purse.length_enc Purse.ok_enc Purse.all_get Purse.all_set Purse.st_get Purse.st_set Purse.n_get Purse.n_set Purse.account_get Purse.account_set Purse.token_get Purse.token_set Purse.amount_get Purse.amount_set Plan.length_enc Plan.ok_enc Plan.all_get Plan.all_set Plan.purse_get Plan.purse_set Plan.nonce_get Plan.nonce_set Plan.gasUsed_get Plan.gasUsed_set Plan.fees_get Plan.fees_set Plan.hasSupply_get Plan.hasSupply_set Plan.token_get Plan.token_set Plan.supply_get Plan.supply_set Plan.flowAt_get Plan.flowAt_set Plan.flow_get Plan.flow_set Plan.receipt_get Plan.receipt_set Plan.purse_st_get Plan.purse_st_set Plan.purse_n_get Plan.purse_n_set Plan.purse_account_get Plan.purse_account_set Plan.purse_token_get Plan.purse_token_set Plan.purse_amount_get Plan.purse_amount_set Plan.receipt_code_get Plan.receipt_code_set Plan.receipt_hash_get Plan.receipt_hash_set Plan.receipt_index_get Plan.receipt_index_set Plan.receipt_gas_get Plan.receipt_gas_set Plan.receipt_fee_get Plan.receipt_fee_set Plan.receipt_hasSent_get Plan.receipt_hasSent_set Plan.receipt_sent_get Plan.receipt_sent_set Plan.receipt_hasTook_get Plan.receipt_hasTook_set Plan.receipt_took_get Plan.receipt_took_set Plan.receipt_sent_kind_get Plan.receipt_sent_kind_set Plan.receipt_sent_from__get Plan.receipt_sent_from__set Plan.receipt_sent_to__get Plan.receipt_sent_to__set Plan.receipt_sent_sender_get Plan.receipt_sent_sender_set Plan.receipt_sent_receiver_get Plan.receipt_sent_receiver_set Plan.receipt_sent_seq_get Plan.receipt_sent_seq_set Plan.receipt_sent_token_get Plan.receipt_sent_token_set Plan.receipt_sent_amount_get Plan.receipt_sent_amount_set Plan.receipt_sent_size_get Plan.receipt_sent_size_set Plan.receipt_sent_payload_get Plan.receipt_sent_payload_set Plan.receipt_took_kind_get Plan.receipt_took_kind_set Plan.receipt_took_from__get Plan.receipt_took_from__set Plan.receipt_took_to__get Plan.receipt_took_to__set Plan.receipt_took_sender_get Plan.receipt_took_sender_set Plan.receipt_took_receiver_get Plan.receipt_took_receiver_set Plan.receipt_took_seq_get Plan.receipt_took_seq_set Plan.receipt_took_token_get Plan.receipt_took_token_set Plan.receipt_took_amount_get Plan.receipt_took_amount_set Plan.receipt_took_size_get Plan.receipt_took_size_set Plan.receipt_took_payload_get Plan.receipt_took_payload_set Move.length_enc Move.ok_enc Move.all_get Move.all_set Move.account_get Move.account_set Move.token_get Move.token_set Move.down_get Move.down_set Move.amount_get Move.amount_set Books.length_enc Books.ok_enc Books.all_get Books.all_set Books.sums_get Books.sums_set Books.stored_get Books.stored_set Books.marks_get Books.marks_set Pair.length_enc Pair.ok_enc Pair.all_get Pair.all_set Pair.key_get Pair.key_set Pair.value_get Pair.value_set
attribute [local go_sem] size_put size_ext blk_put free_put blk_alloc free_alloc blk_drew free_drew blk_ext free_ext lookOr_some putOr_some segAt_some cellAt_some storeIn_some put_put put_alloc_new length_arr ok_arr_u8 ok_arr_u32 ok_arr_u64 ok_arr_i64 ok_arr_sl cellsV_agg cellsV_int cellsV_bool cellsV_string cellsV_pointer cellsV_slice cellsV_sl ok_int ok_bool ok_string ok_pointer ok_slice ok_sl toList_arr seg_arr set_arr nth_splice nth_splice0 seg_splice seg_splice0 splice_splice splice_splice0 length_splice_if
attribute [local go_sem ↓] execOp_box
attribute [local go_sem] box_run nth_arr_u8 put_arr_u8 blk_drewN free_drewN put_drewN blk_raw free_raw
theorem und197 : Tryz.prog.underlying 197 = some (.slice 5) := by kernel_rfl
def encB (x : UInt8) : List Value := [u8v x]
theorem encB_len (s : UInt8) : (encB s).length = 1 := rfl
theorem encB_one (s : UInt8) : (encB s).all (fun v => v.oneCell') = true := by simp [encB, u8v, oneC_int]
theorem el197 : ElT encB 1 1 197 5 := ⟨und197, info5, encB_len, encB_one, by omega, by omega⟩
theorem flat_encB (xs : List UInt8) : xs.flatMap encB = bv xs := by
  induction xs with
  | nil => rfl
  | cons x xs ih => rw [List.flatMap_cons, ih]; rfl
/-- Bytes in new memory. -/
abbrev OutB (W V : World) (a : Option Addr) (n c : Nat) (xs : List UInt8) : Prop := OutG encB 1 5 W V a n c xs
/-- Blocks that hold no bytes stay. -/
def Nb (W W' : World) : Prop := W.heap.size ≤ W'.heap.size ∧ ∀ k, k < W.heap.size → (∀ cur fz, W.heap[k]? ≠ some (.cells cur 5 fz)) → W'.heap[k]? = W.heap[k]?
theorem Nb.refl (W : World) : Nb W W := ⟨Nat.le_refl _, fun _ _ _ => rfl⟩
theorem Nb.trans {W W' W'' : World} (h : Nb W W') (h' : Nb W' W'') : Nb W W'' := ⟨Nat.le_trans h.1 h'.1, fun k hk hc => (h'.2 k (Nat.lt_of_lt_of_le hk h.1) (fun cur fz => by rw [h.2 k hk hc]; exact hc cur fz)).trans (h.2 k hk hc)⟩
theorem Nb.ext {W W' : World} (h : W.Extends W') : Nb W W' := ⟨h.size, fun k hk _ => h.block k hk⟩
theorem Nb.row {W W' : World} {v : Value} {B n : Nat} {xs : List Value} (h : W.ownsRow B 5 1 v n xs) (hs : W.heap.size ≤ W'.heap.size) (hk : ∀ k, k < W.heap.size → v.ownBlock ≠ some k → W'.heap[k]? = W.heap[k]?) : Nb W W' := ⟨hs, fun k hlt hc => hk k hlt (fun e => by
  obtain ⟨_, _, cur, fz, hh⟩ := row_at h k e
  exact hc cur fz hh)⟩
theorem Nb.new {W V : World} {A : Array Value} {t : TypeId} (h : Nb (W.alloc (.cells A t)) V) (ht : t ≠ 5) : blk V W.heap.size = some A.toList ∧ free V W.heap.size = true := by
  have h1 : (W.alloc (.cells A t)).heap[W.heap.size]? = some (.cells A t) := by simp only [World.alloc, Array.getElem?_push_size]
  have h2 := h.2 W.heap.size (by rw [World.size_alloc]; omega) (fun cur fz e => by
    rw [h1] at e
    injection e with e
    injection e with _ e2
    exact ht e2)
  refine ⟨(blk_of_heap h2).trans ?_, (free_of_heap h2).trans ?_⟩
  · rw [blk_alloc, if_pos rfl]
  · rw [free_alloc, if_pos rfl]
/-- Bytes of any place appended. -/
theorem OutB.bytes {W V : World} {a : Option Addr} {n c : Nat} {ts : List UInt8} (h : OutB W V a n c ts) {sp : Option Addr} {k : Nat} {xs : List UInt8} (hs : Bs V sp k xs) (cs : Nat) (hl : ts.length + xs.length ≤ 1000000000) :
    ∃ a' c' V', (Builtin.append_ #[197, 197] 197 #[.slice a n c, .slice sp k cs]).run Tryz.prog V = .ok (.slice a' (n + k) c') V' ∧ OutB W V' a' (n + k) c' (ts ++ xs) ∧ Nb V V' := by
  obtain ⟨i, z, hi, hz, hsz', hby, hzc⟩ := el197.info
  obtain ⟨h1, h2, h3⟩ := h
  obtain ⟨s1, s2, s3⟩ := hs
  by_cases h0 : k = 0
  · subst h0
    obtain rfl : xs = [] := List.length_eq_zero_iff.1 s1
    refine ⟨a, c, V, app_nilG und197 ⟨i, z, hi, hz, hsz', hzc⟩ 197 h1 sp cs, ?_⟩
    rw [List.append_nil]
    exact ⟨⟨h1, h2, h3⟩, Nb.refl _⟩
  · obtain ⟨b, o, C, rfl, hC, hoc, hseg⟩ := s2 h0
    have hnews : ∀ j u, (xs.flatMap encB)[j]? = some u → V.cell? ((⟨b, o, none⟩ : Addr).add j) = some u := fun j u hu => by
      rw [add_addr, cell_blk hC]
      rw [flat_encB] at hu
      have hj : j < k := by
        have := (List.getElem?_eq_some_iff.1 hu).1
        rw [length_bv] at this
        omega
      have h9 := seg_nth C o k j
      rw [hseg, if_pos hj, hu] at h9
      exact h9.symm
    have hone' : ∀ u ∈ xs.flatMap encB, u.oneCell' = true := fun u hu => by
      obtain ⟨x, _, hx⟩ := List.mem_flatMap.1 hu
      exact List.all_eq_true.1 (encB_one x) u hx
    have hfl : (xs.flatMap encB).length = k * 1 := by rw [flat_encB, length_bv, s1, Nat.mul_one]
    obtain ⟨v', w', hr, g1, g2, _⟩ := run_append_own (P := Tryz.prog) V W.heap.size 197 197 5 i _ 1 1 und197 hi hz hsz' hby hzc (by omega) (.slice a n c) ts.length _ h1 ⟨b, o, none⟩ k cs (xs.flatMap encB) hfl hnews hone' (by simp only [maxLen]; omega) (by omega) h2.size
    have g3 : w'.ownsRow W.heap.size 5 1 v' (ts ++ xs).length ((ts ++ xs).flatMap encB) := by
      rw [List.length_append, List.flatMap_append, s1]
      exact g1
    obtain ⟨a', c', rfl⟩ := row_val g3
    have hm : (ts ++ xs).length = n + k := by rw [List.length_append, s1, h3]
    refine ⟨a', c', w', by rw [hm] at hr; exact hr, ⟨?_, grown_ext h2 g2 (fun x hx => (row_at h1 x hx).1), hm.symm⟩, Nb.row h1 g2.size (fun k hk hn => g2.block k hk (fun e => hn e.symm))⟩
    rw [← hm]
    exact g3
theorem OutB.bs {W V : World} {a : Option Addr} {n c : Nat} {ts : List UInt8} (h : OutB W V a n c ts) : Bs V a n ts := by
  have hr := h.rw el197
  refine ⟨hr.1, fun h0 => ?_, ?_⟩
  · obtain ⟨x, b, C, hx, e1, e2, e3, e4⟩ := hr.at (i := 0) (by omega)
    refine ⟨b, 0, C, e1, e2, by omega, ?_⟩
    apply List.ext_getElem?
    intro j
    rw [seg_nth, bv_at, Nat.zero_add]
    by_cases hj : j < n
    · rw [if_pos hj]
      obtain ⟨y, b', C', hy, f1, f2, f3, f4⟩ := hr.at hj
      have eb : b' = b := by rw [e1] at f1; cases f1; rfl
      rw [eb, e2] at f2
      cases f2
      rw [hy]
      rw [Nat.mul_one] at f4
      have := nth_in (j := 0) (v := u8v y) f4 rfl (by omega)
      exact this
    · rw [if_neg hj, List.getElem?_eq_none (by rw [hr.1]; omega)]; rfl
  · obtain ⟨h1, h2 | ⟨g, cap, cur, e1, e2⟩⟩ := h.1
    · left
      injection h2.1
    · right
      injection e1 with e3 e4 e5
      exact ⟨g, 0, e3⟩
theorem OutB.one {W V : World} {a : Option Addr} {n c : Nat} {ts : List UInt8} (h : OutB W V a n c ts) (x : UInt8) (hl : ts.length ≤ 1000000000) (y : Int) (hy : y = w8 x) :
    ∃ a' c' V', (Builtin.append_ #[197, 197] 197 #[.slice a n c, .slice (some ⟨V.heap.size, 0, none⟩) 1 1]).run Tryz.prog (V.alloc (.cells #[.int .u8 y] 5)) = .ok (.slice a' (n + 1) c') V' ∧ OutB W V' a' (n + 1) c' (ts ++ [x]) ∧ Nb V V' := by
  subst hy
  obtain ⟨a', c', V', h1, h2, h3⟩ := h.app el197 x hl #[.int .u8 (w8 x)] rfl 1
  exact ⟨a', c', V', h1, h2, Nb.row h.1 h3.size h3.block⟩
theorem bslice197 (w : World) (x : Int) : (bsliceOp 197 1 #[(0, .int .u8 x)]).run Tryz.prog w = .ok (.value (.slice (some ⟨w.heap.size, 0, none⟩) 1 1)) (w.alloc (.cells #[.int .u8 x] 5)) := by kernel_rfl
attribute [local go_sem ↓] execOp_bslice
attribute [local go_sem] bslice197
def PutB (W0 W : World) (xs : List UInt8) (e : Ending) (V : World) : Prop := ∃ a n c, e = .returned (.slice a n c) ∧ OutB W0 V a n c xs ∧ Nb W V
theorem putU8_any (W0 W : World) (a : Option Addr) (n c : Nat) (ts : List UInt8) (h : OutB W0 W a n c ts) (hl : ts.length ≤ 1000000000) (x : UInt8) : Calls Tryz.prog 142 #[.slice a n c, .int .u8 (w8 x)] W (PutB W0 W (ts ++ [x])) := by
  obtain ⟨a', c', V', hrun, hO, hN⟩ := h.one x hl _ rfl
  have HO := hid_of hO
  have HN := hid_of hN
  clear h hO hN
  go_enter Tryz.func142, Tryz.ntmps142
  go_wp2_with (at_builtin; refine wpList_append_run rfl _ _ 197 rfl _ _ _ _ rfl rfl hrun ?_)
  try go_ret
  exact ⟨a', n + 1, c', rfl, HO.out, HN.out⟩
/-- Eight bytes, the most significant first. -/
def be8 (v : UInt64) : List UInt8 := [(v >>> 56).toUInt8, (v >>> 48).toUInt8, (v >>> 40).toUInt8, (v >>> 32).toUInt8, (v >>> 24).toUInt8, (v >>> 16).toUInt8, (v >>> 8).toUInt8, v.toUInt8]
theorem be8_len (v : UInt64) : (be8 v).length = 8 := rfl
theorem by8_0 (v : UInt64) : w64 v % 256 = w8 v.toUInt8 := by have := x64_byte v; rw [IntKind.wrap_u8] at this; exact this
theorem by8_1 (v : UInt64) : w64 v / (256 : Int) % 256 = w8 (v >>> 8).toUInt8 := by
  unfold w64 w8
  rw [UInt64.toNat_toUInt8, UInt64.toNat_shiftRight, Nat.shiftRight_eq_div_pow]
  show (v.toNat : Int) / 256 % 256 = ((v.toNat / 2 ^ (8 % 64) % 256 : Nat) : Int)
  have : 2 ^ (8 % 64) = 256 := by decide
  rw [this]
  omega
theorem by8_2 (v : UInt64) : w64 v / (65536 : Int) % 256 = w8 (v >>> 16).toUInt8 := by
  unfold w64 w8
  rw [UInt64.toNat_toUInt8, UInt64.toNat_shiftRight, Nat.shiftRight_eq_div_pow]
  show (v.toNat : Int) / 65536 % 256 = ((v.toNat / 2 ^ (16 % 64) % 256 : Nat) : Int)
  have : 2 ^ (16 % 64) = 65536 := by decide
  rw [this]
  omega
theorem by8_3 (v : UInt64) : w64 v / (16777216 : Int) % 256 = w8 (v >>> 24).toUInt8 := by
  unfold w64 w8
  rw [UInt64.toNat_toUInt8, UInt64.toNat_shiftRight, Nat.shiftRight_eq_div_pow]
  show (v.toNat : Int) / 16777216 % 256 = ((v.toNat / 2 ^ (24 % 64) % 256 : Nat) : Int)
  have : 2 ^ (24 % 64) = 16777216 := by decide
  rw [this]
  omega
theorem by8_4 (v : UInt64) : w64 v / (4294967296 : Int) % 256 = w8 (v >>> 32).toUInt8 := by
  unfold w64 w8
  rw [UInt64.toNat_toUInt8, UInt64.toNat_shiftRight, Nat.shiftRight_eq_div_pow]
  show (v.toNat : Int) / 4294967296 % 256 = ((v.toNat / 2 ^ (32 % 64) % 256 : Nat) : Int)
  have : 2 ^ (32 % 64) = 4294967296 := by decide
  rw [this]
  omega
theorem by8_5 (v : UInt64) : w64 v / (1099511627776 : Int) % 256 = w8 (v >>> 40).toUInt8 := by
  unfold w64 w8
  rw [UInt64.toNat_toUInt8, UInt64.toNat_shiftRight, Nat.shiftRight_eq_div_pow]
  show (v.toNat : Int) / 1099511627776 % 256 = ((v.toNat / 2 ^ (40 % 64) % 256 : Nat) : Int)
  have : 2 ^ (40 % 64) = 1099511627776 := by decide
  rw [this]
  omega
theorem by8_6 (v : UInt64) : w64 v / (281474976710656 : Int) % 256 = w8 (v >>> 48).toUInt8 := by
  unfold w64 w8
  rw [UInt64.toNat_toUInt8, UInt64.toNat_shiftRight, Nat.shiftRight_eq_div_pow]
  show (v.toNat : Int) / 281474976710656 % 256 = ((v.toNat / 2 ^ (48 % 64) % 256 : Nat) : Int)
  have : 2 ^ (48 % 64) = 281474976710656 := by decide
  rw [this]
  omega
theorem by8_7 (v : UInt64) : w64 v / (72057594037927936 : Int) % 256 = w8 (v >>> 56).toUInt8 := by
  unfold w64 w8
  rw [UInt64.toNat_toUInt8, UInt64.toNat_shiftRight, Nat.shiftRight_eq_div_pow]
  show (v.toNat : Int) / 72057594037927936 % 256 = ((v.toNat / 2 ^ (56 % 64) % 256 : Nat) : Int)
  have : 2 ^ (56 % 64) = 72057594037927936 := by decide
  rw [this]
  omega
set_option maxRecDepth 100000 in
theorem frame20 (f : Nat → Value) : frameN 20 f = #[f 0, f 1, f 2, f 3, f 4, f 5, f 6, f 7, f 8, f 9, f 10, f 11, f 12, f 13, f 14, f 15, f 16, f 17, f 18, f 19] := by kernel_rfl
def p64I (W0 W : World) (ts : List UInt8) (v : UInt64) (F : Nat → Value) (V : World) : Prop := F 1 = .int .u64 (w64 v) ∧ ∃ (j : Nat) (a : Option Addr) (n c : Nat), j ≤ 8 ∧ F 5 = .int .i64 (7 - (j : Int)) ∧ F 0 = .slice a n c ∧ Hid (OutB W0 V a n c (ts ++ (be8 v).take j) ∧ Nb W V)
set_option maxRecDepth 20000 in
set_option maxHeartbeats 4000000 in
theorem putU64_any (W0 W : World) (a : Option Addr) (n c : Nat) (ts : List UInt8) (h : OutB W0 W a n c ts) (hl : ts.length ≤ 999999990) (v : UInt64) : Calls Tryz.prog 143 #[.slice a n c, .int .u64 (w64 v)] W (PutB W0 W (ts ++ be8 v)) := by
  have HO := hid_of h
  obtain ⟨Q, hQ⟩ : ∃ Q : Ending → World → Prop, Q = PutB W0 W (ts ++ be8 v) := ⟨_, rfl⟩
  rw [← hQ]
  have HQ := hid_of hQ
  clear hQ h
  go_enter Tryz.func143, Tryz.ntmps143
  go_wp2_with fail
  refine wp_loop_f 20 (p64I W0 W ts v) (fun f _ => ((intOf (f 5)) + 1).toNat) rfl ⟨rfl, 0, a, n, c, by omega, rfl, rfl, ⟨by simpa using HO.out, Nb.refl W⟩⟩ ?_
  intro F V hrel
  obtain ⟨f1, j, a1, n1, c1, hj, f5, f0, HI⟩ := hrel
  have H5 := hid_of f5
  rw [frame20, f0, f1, f5]
  clear f0 f1 f5
  by_cases hj8 : j = 8
  · subst hj8
    have HP : Hid (Q (.returned (.slice a1 n1 c1)) V) := by
      show Q _ _
      rw [HQ.out]
      exact ⟨a1, n1, c1, rfl, HI.out.1, HI.out.2⟩
    clear HI
    go_wp2_with fail
    try go_ret
    exact HP.out
  have hlen : (ts ++ (be8 v).take j).length ≤ 1000000000 := by rw [List.length_append, List.length_take]; have := be8_len v; omega
  have hjc : j = 0 ∨ j = 1 ∨ j = 2 ∨ j = 3 ∨ j = 4 ∨ j = 5 ∨ j = 6 ∨ j = 7 := by omega
  rcases hjc with rfl | rfl | rfl | rfl | rfl | rfl | rfl | rfl
  · obtain ⟨a2, c2, V2, hrun, hO, hN⟩ := HI.out.1.one ((v >>> 56).toUInt8) hlen _ (by8_7 v)
    have HJ : Hid (OutB W0 V2 a2 (n1 + 1) c2 (ts ++ (be8 v).take 1) ∧ Nb W V2) := by
      refine ⟨?_, HI.out.2.trans hN⟩
      rw [List.append_assoc] at hO
      exact hO
    clear HI hO hN hlen hj hj8
    go_wp2_with (at_builtin; refine wpList_append_run rfl _ _ 197 rfl _ _ _ _ rfl rfl hrun ?_)
    refine ⟨rfl, rfl, ⟨rfl, 1, a2, n1 + 1, c2, by omega, ?_, rfl, HJ.out⟩, ?_⟩
    · first | rfl | (show Value.int .i64 _ = _; go_num)
    · show ((intOf (Value.int .i64 _)) + 1).toNat < ((intOf (F 5)) + 1).toNat
      rw [H5.out]
      simp [intOf]
  · obtain ⟨a2, c2, V2, hrun, hO, hN⟩ := HI.out.1.one ((v >>> 48).toUInt8) hlen _ (by8_6 v)
    have HJ : Hid (OutB W0 V2 a2 (n1 + 1) c2 (ts ++ (be8 v).take 2) ∧ Nb W V2) := by
      refine ⟨?_, HI.out.2.trans hN⟩
      rw [List.append_assoc] at hO
      exact hO
    clear HI hO hN hlen hj hj8
    go_wp2_with (at_builtin; refine wpList_append_run rfl _ _ 197 rfl _ _ _ _ rfl rfl hrun ?_)
    refine ⟨rfl, rfl, ⟨rfl, 2, a2, n1 + 1, c2, by omega, ?_, rfl, HJ.out⟩, ?_⟩
    · first | rfl | (show Value.int .i64 _ = _; go_num)
    · show ((intOf (Value.int .i64 _)) + 1).toNat < ((intOf (F 5)) + 1).toNat
      rw [H5.out]
      simp [intOf]
  · obtain ⟨a2, c2, V2, hrun, hO, hN⟩ := HI.out.1.one ((v >>> 40).toUInt8) hlen _ (by8_5 v)
    have HJ : Hid (OutB W0 V2 a2 (n1 + 1) c2 (ts ++ (be8 v).take 3) ∧ Nb W V2) := by
      refine ⟨?_, HI.out.2.trans hN⟩
      rw [List.append_assoc] at hO
      exact hO
    clear HI hO hN hlen hj hj8
    go_wp2_with (at_builtin; refine wpList_append_run rfl _ _ 197 rfl _ _ _ _ rfl rfl hrun ?_)
    refine ⟨rfl, rfl, ⟨rfl, 3, a2, n1 + 1, c2, by omega, ?_, rfl, HJ.out⟩, ?_⟩
    · first | rfl | (show Value.int .i64 _ = _; go_num)
    · show ((intOf (Value.int .i64 _)) + 1).toNat < ((intOf (F 5)) + 1).toNat
      rw [H5.out]
      simp [intOf]
  · obtain ⟨a2, c2, V2, hrun, hO, hN⟩ := HI.out.1.one ((v >>> 32).toUInt8) hlen _ (by8_4 v)
    have HJ : Hid (OutB W0 V2 a2 (n1 + 1) c2 (ts ++ (be8 v).take 4) ∧ Nb W V2) := by
      refine ⟨?_, HI.out.2.trans hN⟩
      rw [List.append_assoc] at hO
      exact hO
    clear HI hO hN hlen hj hj8
    go_wp2_with (at_builtin; refine wpList_append_run rfl _ _ 197 rfl _ _ _ _ rfl rfl hrun ?_)
    refine ⟨rfl, rfl, ⟨rfl, 4, a2, n1 + 1, c2, by omega, ?_, rfl, HJ.out⟩, ?_⟩
    · first | rfl | (show Value.int .i64 _ = _; go_num)
    · show ((intOf (Value.int .i64 _)) + 1).toNat < ((intOf (F 5)) + 1).toNat
      rw [H5.out]
      simp [intOf]
  · obtain ⟨a2, c2, V2, hrun, hO, hN⟩ := HI.out.1.one ((v >>> 24).toUInt8) hlen _ (by8_3 v)
    have HJ : Hid (OutB W0 V2 a2 (n1 + 1) c2 (ts ++ (be8 v).take 5) ∧ Nb W V2) := by
      refine ⟨?_, HI.out.2.trans hN⟩
      rw [List.append_assoc] at hO
      exact hO
    clear HI hO hN hlen hj hj8
    go_wp2_with (at_builtin; refine wpList_append_run rfl _ _ 197 rfl _ _ _ _ rfl rfl hrun ?_)
    refine ⟨rfl, rfl, ⟨rfl, 5, a2, n1 + 1, c2, by omega, ?_, rfl, HJ.out⟩, ?_⟩
    · first | rfl | (show Value.int .i64 _ = _; go_num)
    · show ((intOf (Value.int .i64 _)) + 1).toNat < ((intOf (F 5)) + 1).toNat
      rw [H5.out]
      simp [intOf]
  · obtain ⟨a2, c2, V2, hrun, hO, hN⟩ := HI.out.1.one ((v >>> 16).toUInt8) hlen _ (by8_2 v)
    have HJ : Hid (OutB W0 V2 a2 (n1 + 1) c2 (ts ++ (be8 v).take 6) ∧ Nb W V2) := by
      refine ⟨?_, HI.out.2.trans hN⟩
      rw [List.append_assoc] at hO
      exact hO
    clear HI hO hN hlen hj hj8
    go_wp2_with (at_builtin; refine wpList_append_run rfl _ _ 197 rfl _ _ _ _ rfl rfl hrun ?_)
    refine ⟨rfl, rfl, ⟨rfl, 6, a2, n1 + 1, c2, by omega, ?_, rfl, HJ.out⟩, ?_⟩
    · first | rfl | (show Value.int .i64 _ = _; go_num)
    · show ((intOf (Value.int .i64 _)) + 1).toNat < ((intOf (F 5)) + 1).toNat
      rw [H5.out]
      simp [intOf]
  · obtain ⟨a2, c2, V2, hrun, hO, hN⟩ := HI.out.1.one ((v >>> 8).toUInt8) hlen _ (by8_1 v)
    have HJ : Hid (OutB W0 V2 a2 (n1 + 1) c2 (ts ++ (be8 v).take 7) ∧ Nb W V2) := by
      refine ⟨?_, HI.out.2.trans hN⟩
      rw [List.append_assoc] at hO
      exact hO
    clear HI hO hN hlen hj hj8
    go_wp2_with (at_builtin; refine wpList_append_run rfl _ _ 197 rfl _ _ _ _ rfl rfl hrun ?_)
    refine ⟨rfl, rfl, ⟨rfl, 7, a2, n1 + 1, c2, by omega, ?_, rfl, HJ.out⟩, ?_⟩
    · first | rfl | (show Value.int .i64 _ = _; go_num)
    · show ((intOf (Value.int .i64 _)) + 1).toNat < ((intOf (F 5)) + 1).toNat
      rw [H5.out]
      simp [intOf]
  · obtain ⟨a2, c2, V2, hrun, hO, hN⟩ := HI.out.1.one (v.toUInt8) hlen _ (by8_0 v)
    have HJ : Hid (OutB W0 V2 a2 (n1 + 1) c2 (ts ++ (be8 v).take 8) ∧ Nb W V2) := by
      refine ⟨?_, HI.out.2.trans hN⟩
      rw [List.append_assoc] at hO
      exact hO
    clear HI hO hN hlen hj hj8
    go_wp2_with (at_builtin; refine wpList_append_run rfl _ _ 197 rfl _ _ _ _ rfl rfl hrun ?_)
    refine ⟨rfl, rfl, ⟨rfl, 8, a2, n1 + 1, c2, by omega, ?_, rfl, HJ.out⟩, ?_⟩
    · first | rfl | (show Value.int .i64 _ = _; go_num)
    · show ((intOf (Value.int .i64 _)) + 1).toNat < ((intOf (F 5)) + 1).toNat
      rw [H5.out]
      simp [intOf]
end Go.Proofs.Qxb6500786aGreat
