
import Derived.Test.Qxb6500786aGreatRow
import Derived.StillTailTactics
import Derived.Deep.QuietTactic
import Derived.BigQuiet
import Derived.Deep.RegionHeld
import Derived.Deep.CutRange
import Derived.Laws.ResultCell
import Derived.Laws.Rows
import Derived.DeepKeys
import Derived.DataBytes
import Derived.Laws.StructEq
import Derived.Laws.AppendOwn
import Derived.Laws.MakeOwn
import Derived.Lib.AppendStr
set_option linter.unusedSimpArgs false
set_option linter.unusedVariables false
namespace Go.Proofs.Qxb6500786aGreat
open Go.RowKit Go.Blk
attribute [local go_sem ↓] execOp_load execOp_store execOp_alloc
attribute [local go_sem] Tryz.ld24 Tryz.st24 Tryz.ld36 Tryz.st36 Tryz.ld28 Tryz.st28 Tryz.ld32 Tryz.st32 Tryz.ld33 Tryz.st33 Tryz.ld34 Tryz.st34 Tryz.ld5 Tryz.st5 Tryz.ld31 Tryz.st31 Tryz.ld30 Tryz.st30 Tryz.ld41 Tryz.st41 Tryz.ld44 Tryz.st44 Tryz.ld4 Tryz.st4 Tryz.ld173 Tryz.st173 Tryz.ld174 Tryz.st174 Tryz.ld95 Tryz.st95 Tryz.ld45 Tryz.st45 Tryz.ld207 Tryz.st207 Tryz.ld3 Tryz.st3 Tryz.ld189 Tryz.st189 Tryz.ld2 Tryz.st2 Tryz.ld9 Tryz.st9 Tryz.ld12 Tryz.st12 Tryz.ld21 Tryz.st21 Tryz.ld22 Tryz.st22 Tryz.ld46 Tryz.st46 Tryz.ld92 Tryz.st92 Tryz.ld94 Tryz.st94 Tryz.ld96 Tryz.st96 Tryz.ld97 Tryz.st97 Tryz.ld105 Tryz.st105 Tryz.ld117 Tryz.st117 Tryz.ld122 Tryz.st122 Tryz.ld123 Tryz.st123 Tryz.ld133 Tryz.st133 Tryz.ld155 Tryz.st155 Tryz.ld163 Tryz.st163 Tryz.ld190 Tryz.st190 Tryz.ld197 Tryz.st197 Tryz.ld201 Tryz.st201 Tryz.ld202 Tryz.st202 Tryz.ld209 Tryz.st209 Tryz.ld216 Tryz.st216 Tryz.ld230 Tryz.st230 Tryz.ld238 Tryz.st238 Tryz.ld242 Tryz.st242 Tryz.ld251 Tryz.st251 Tryz.ld260 Tryz.st260 Tryz.ld286 Tryz.st286 Tryz.ld292 Tryz.st292 Tryz.ld298 Tryz.st298 Tryz.ld309 Tryz.st309 Tryz.ld35 Tryz.st35 Tryz.ld48 Tryz.st48 Tryz.ld47 Tryz.st47 Tryz.ld79 Tryz.st79 Tryz.ld177 Tryz.st177 Tryz.ld180 Tryz.st180 Tryz.ld231 Tryz.st231 Tryz.ld232 Tryz.st232 Tryz.ld26 Tryz.st26 Tryz.ld38 Tryz.st38 Tryz.ld40 Tryz.st40 Tryz.ld43 Tryz.st43 Tryz.ld50 Tryz.st50 Tryz.ld52 Tryz.st52 Tryz.ld54 Tryz.st54 Tryz.ld81 Tryz.st81 Tryz.ld112 Tryz.st112 Tryz.ld120 Tryz.st120 Tryz.ld176 Tryz.st176 Tryz.ld179 Tryz.st179 Tryz.ld182 Tryz.st182 Tryz.ld184 Tryz.st184 Tryz.ld234 Tryz.st234 Tryz.ld236 Tryz.st236 Tryz.ld240 Tryz.st240 Tryz.ld246 Tryz.st246 Tryz.ld249 Tryz.st249 Tryz.al35 Tryz.al48 Tryz.al47 Tryz.al79 Tryz.al177 Tryz.al180 Tryz.al231 Tryz.al232 Tryz.al26 Tryz.al38 Tryz.al40 Tryz.al43 Tryz.al50 Tryz.al52 Tryz.al54 Tryz.al81 Tryz.al112 Tryz.al120 Tryz.al176 Tryz.al179 Tryz.al182 Tryz.al184 Tryz.al234 Tryz.al236 Tryz.al240 Tryz.al246 Tryz.al249
attribute [local go_sem] Player.length_enc Player.ok_enc Player.all_get Player.all_set Player.hand_get Player.hand_set Player.aside_get Player.aside_set Message.length_enc Message.ok_enc Message.all_get Message.all_set Message.kind_get Message.kind_set Message.from__get Message.from__set Message.to__get Message.to__set Message.sender_get Message.sender_set Message.receiver_get Message.receiver_set Message.seq_get Message.seq_set Message.token_get Message.token_set Message.amount_get Message.amount_set Message.size_get Message.size_set Message.payload_get Message.payload_set Tx.length_enc Tx.ok_enc Tx.all_get Tx.all_set Tx.kind_get Tx.kind_set Tx.chain_get Tx.chain_set Tx.from__get Tx.from__set Tx.nonce_get Tx.nonce_set Tx.fee_get Tx.fee_set Tx.to__get Tx.to__set Tx.dest_get Tx.dest_set Tx.token_get Tx.token_set Tx.amount_get Tx.amount_set Tx.size_get Tx.size_set Tx.payload_get Tx.payload_set Tx.msg_get Tx.msg_set Tx.msg_kind_get Tx.msg_kind_set Tx.msg_from__get Tx.msg_from__set Tx.msg_to__get Tx.msg_to__set Tx.msg_sender_get Tx.msg_sender_set Tx.msg_receiver_get Tx.msg_receiver_set Tx.msg_seq_get Tx.msg_seq_set Tx.msg_token_get Tx.msg_token_set Tx.msg_amount_get Tx.msg_amount_set Tx.msg_size_get Tx.msg_size_set Tx.msg_payload_get Tx.msg_payload_set GOp.length_enc GOp.ok_enc GOp.all_get GOp.all_set GOp.kind_get GOp.kind_set GOp.tx_get GOp.tx_set GOp.txs_get GOp.txs_set GOp.gas_get GOp.gas_set GOp.acct_get GOp.acct_set GOp.token_get GOp.token_set GOp.chain_get GOp.chain_set GOp.seq_get GOp.seq_set GOp.tx_kind_get GOp.tx_kind_set GOp.tx_chain_get GOp.tx_chain_set GOp.tx_from__get GOp.tx_from__set GOp.tx_nonce_get GOp.tx_nonce_set GOp.tx_fee_get GOp.tx_fee_set GOp.tx_to__get GOp.tx_to__set GOp.tx_dest_get GOp.tx_dest_set GOp.tx_token_get GOp.tx_token_set GOp.tx_amount_get GOp.tx_amount_set GOp.tx_size_get GOp.tx_size_set GOp.tx_payload_get GOp.tx_payload_set GOp.tx_msg_get GOp.tx_msg_set GOp.tx_msg_kind_get GOp.tx_msg_kind_set GOp.tx_msg_from__get GOp.tx_msg_from__set GOp.tx_msg_to__get GOp.tx_msg_to__set GOp.tx_msg_sender_get GOp.tx_msg_sender_set GOp.tx_msg_receiver_get GOp.tx_msg_receiver_set GOp.tx_msg_seq_get GOp.tx_msg_seq_set GOp.tx_msg_token_get GOp.tx_msg_token_set GOp.tx_msg_amount_get GOp.tx_msg_amount_set GOp.tx_msg_size_get GOp.tx_msg_size_set GOp.tx_msg_payload_get GOp.tx_msg_payload_set Summary.length_enc Summary.ok_enc Summary.all_get Summary.all_set Summary.height_get Summary.height_set Summary.txs_get Summary.txs_set Summary.gas_get Summary.gas_set Summary.fees_get Summary.fees_set Summary.sent_get Summary.sent_set Summary.took_get Summary.took_set Summary.minted_get Summary.minted_set Summary.burned_get Summary.burned_set Summary.root_get Summary.root_set Detail.length_enc Detail.ok_enc Detail.all_get Detail.all_set Detail.code_get Detail.code_set Detail.have__get Detail.have__set Detail.need_get Detail.need_set Slot.length_enc Slot.ok_enc Slot.all_get Slot.all_set Slot.nonce_get Slot.nonce_set Slot.balances_get Slot.balances_set Tree.length_enc Tree.ok_enc Tree.all_get Tree.all_set Tree.leaves_get Tree.leaves_set Mark.length_enc Mark.ok_enc Mark.all_get Mark.all_set Mark.from__get Mark.from__set Mark.seq_get Mark.seq_set Receipt.length_enc Receipt.ok_enc Receipt.all_get Receipt.all_set Receipt.code_get Receipt.code_set Receipt.hash_get Receipt.hash_set Receipt.index_get Receipt.index_set Receipt.gas_get Receipt.gas_set Receipt.fee_get Receipt.fee_set Receipt.hasSent_get Receipt.hasSent_set Receipt.sent_get Receipt.sent_set Receipt.hasTook_get Receipt.hasTook_set Receipt.took_get Receipt.took_set Receipt.sent_kind_get Receipt.sent_kind_set Receipt.sent_from__get Receipt.sent_from__set Receipt.sent_to__get Receipt.sent_to__set Receipt.sent_sender_get Receipt.sent_sender_set Receipt.sent_receiver_get Receipt.sent_receiver_set Receipt.sent_seq_get Receipt.sent_seq_set Receipt.sent_token_get Receipt.sent_token_set Receipt.sent_amount_get Receipt.sent_amount_set Receipt.sent_size_get Receipt.sent_size_set Receipt.sent_payload_get Receipt.sent_payload_set Receipt.took_kind_get Receipt.took_kind_set Receipt.took_from__get Receipt.took_from__set Receipt.took_to__get Receipt.took_to__set Receipt.took_sender_get Receipt.took_sender_set Receipt.took_receiver_get Receipt.took_receiver_set Receipt.took_seq_get Receipt.took_seq_set Receipt.took_token_get Receipt.took_token_set Receipt.took_amount_get Receipt.took_amount_set Receipt.took_size_get Receipt.took_size_set Receipt.took_payload_get Receipt.took_payload_set Store.length_enc Store.ok_enc Store.all_get Store.all_set Store.now_get Store.now_set Store.saved_get Store.saved_set GState.length_enc GState.ok_enc GState.all_get GState.all_set GState.kv_get GState.kv_set GState.tree_get GState.tree_set GState.stale_get GState.stale_set GState.touched_get GState.touched_set GState.kv_now_get GState.kv_now_set GState.kv_saved_get GState.kv_saved_set GState.tree_leaves_get GState.tree_leaves_set History.length_enc History.ok_enc History.all_get History.all_set History.ring_get History.ring_set History.closed_get History.closed_set Ledger.length_enc Ledger.ok_enc Ledger.all_get Ledger.all_set Ledger.chain_get Ledger.chain_set Ledger.st_get Ledger.st_set Ledger.height_get Ledger.height_set Ledger.open__get Ledger.open__set Ledger.gasLimit_get Ledger.gasLimit_set Ledger.past_get Ledger.past_set Ledger.begun_get Ledger.begun_set Ledger.sent_get Ledger.sent_set Ledger.took_get Ledger.took_set Ledger.receipts_get Ledger.receipts_set Ledger.st_kv_get Ledger.st_kv_set Ledger.st_tree_get Ledger.st_tree_set Ledger.st_stale_get Ledger.st_stale_set Ledger.st_touched_get Ledger.st_touched_set Ledger.st_kv_now_get Ledger.st_kv_now_set Ledger.st_kv_saved_get Ledger.st_kv_saved_set Ledger.st_tree_leaves_get Ledger.st_tree_leaves_set Ledger.past_ring_get Ledger.past_ring_set Ledger.past_closed_get Ledger.past_closed_set Ledger.begun_kv_get Ledger.begun_kv_set Ledger.begun_tree_get Ledger.begun_tree_set Ledger.begun_stale_get Ledger.begun_stale_set Ledger.begun_touched_get Ledger.begun_touched_set Ledger.begun_kv_now_get Ledger.begun_kv_now_set Ledger.begun_kv_saved_get Ledger.begun_kv_saved_set Ledger.begun_tree_leaves_get Ledger.begun_tree_leaves_set Purse.length_enc Purse.ok_enc Purse.all_get Purse.all_set Purse.st_get Purse.st_set Purse.n_get Purse.n_set Purse.account_get Purse.account_set Purse.token_get Purse.token_set Purse.amount_get Purse.amount_set Plan.length_enc Plan.ok_enc Plan.all_get Plan.all_set Plan.purse_get Plan.purse_set Plan.nonce_get Plan.nonce_set Plan.gasUsed_get Plan.gasUsed_set Plan.fees_get Plan.fees_set Plan.hasSupply_get Plan.hasSupply_set Plan.token_get Plan.token_set Plan.supply_get Plan.supply_set Plan.flowAt_get Plan.flowAt_set Plan.flow_get Plan.flow_set Plan.receipt_get Plan.receipt_set Plan.purse_st_get Plan.purse_st_set Plan.purse_n_get Plan.purse_n_set Plan.purse_account_get Plan.purse_account_set Plan.purse_token_get Plan.purse_token_set Plan.purse_amount_get Plan.purse_amount_set Plan.receipt_code_get Plan.receipt_code_set Plan.receipt_hash_get Plan.receipt_hash_set Plan.receipt_index_get Plan.receipt_index_set Plan.receipt_gas_get Plan.receipt_gas_set Plan.receipt_fee_get Plan.receipt_fee_set Plan.receipt_hasSent_get Plan.receipt_hasSent_set Plan.receipt_sent_get Plan.receipt_sent_set Plan.receipt_hasTook_get Plan.receipt_hasTook_set Plan.receipt_took_get Plan.receipt_took_set Plan.receipt_sent_kind_get Plan.receipt_sent_kind_set Plan.receipt_sent_from__get Plan.receipt_sent_from__set Plan.receipt_sent_to__get Plan.receipt_sent_to__set Plan.receipt_sent_sender_get Plan.receipt_sent_sender_set Plan.receipt_sent_receiver_get Plan.receipt_sent_receiver_set Plan.receipt_sent_seq_get Plan.receipt_sent_seq_set Plan.receipt_sent_token_get Plan.receipt_sent_token_set Plan.receipt_sent_amount_get Plan.receipt_sent_amount_set Plan.receipt_sent_size_get Plan.receipt_sent_size_set Plan.receipt_sent_payload_get Plan.receipt_sent_payload_set Plan.receipt_took_kind_get Plan.receipt_took_kind_set Plan.receipt_took_from__get Plan.receipt_took_from__set Plan.receipt_took_to__get Plan.receipt_took_to__set Plan.receipt_took_sender_get Plan.receipt_took_sender_set Plan.receipt_took_receiver_get Plan.receipt_took_receiver_set Plan.receipt_took_seq_get Plan.receipt_took_seq_set Plan.receipt_took_token_get Plan.receipt_took_token_set Plan.receipt_took_amount_get Plan.receipt_took_amount_set Plan.receipt_took_size_get Plan.receipt_took_size_set Plan.receipt_took_payload_get Plan.receipt_took_payload_set Move.length_enc Move.ok_enc Move.all_get Move.all_set Move.account_get Move.account_set Move.token_get Move.token_set Move.down_get Move.down_set Move.amount_get Move.amount_set Books.length_enc Books.ok_enc Books.all_get Books.all_set Books.sums_get Books.sums_set Books.stored_get Books.stored_set Books.marks_get Books.marks_set Pair.length_enc Pair.ok_enc Pair.all_get Pair.all_set Pair.key_get Pair.key_set Pair.value_get Pair.value_set
attribute [local go_sem] size_put size_ext blk_put free_put blk_alloc free_alloc blk_drew free_drew blk_ext free_ext lookOr_some putOr_some segAt_some cellAt_some storeIn_some put_put put_alloc_new length_arr ok_arr_u8 ok_arr_u32 ok_arr_u64 ok_arr_i64 ok_arr_sl cellsV_agg cellsV_int cellsV_bool cellsV_string cellsV_pointer cellsV_slice cellsV_sl ok_int ok_bool ok_string ok_pointer ok_slice ok_sl toList_arr seg_arr set_arr nth_splice nth_splice0 seg_splice seg_splice0 splice_splice splice_splice0 length_splice_if
attribute [local go_sem ↓] execOp_box
attribute [local go_sem] box_run nth_arr_u8 put_arr_u8 blk_drewN free_drewN put_drewN blk_raw free_raw
/-- A slice whose elements are these. -/
def Rw {α : Type} (en : α → List Value) (sz : Nat) (W : World) (a : Option Addr) (n : Nat) (L : List α) : Prop := L.length = n ∧ ∀ i x, L[i]? = some x → ∃ b C, a = some ⟨b, 0, none⟩ ∧ blk W b = some C ∧ n * sz ≤ C.length ∧ seg C (i * sz) sz = en x
theorem rw_own {α : Type} {e : α → List Value} {sz : Nat} (hsz : ∀ x, (e x).length = sz) {B : Nat} {W : World} {ty : TypeId} {a : Option Addr} {n c : Nat} {K : List α} (h : W.ownsRow B ty sz (.slice a n c) K.length (K.flatMap e)) : Rw e sz W a n K ∧ n ≤ c ∧ c ≤ maxLen := by
  obtain ⟨a', b, c', h1, h2, h3, h4, h5, h6⟩ := own_at hsz h
  injection h1 with e1 e2 e3
  subst e1; subst e2; subst e3
  refine ⟨⟨rfl, fun i x hx => ?_⟩, h3, h2⟩
  obtain ⟨y, C, g1, g2, g3, g4, g5⟩ := h5.get (i := i) (List.getElem?_eq_some_iff.1 hx).1
  obtain rfl : y = x := Option.some.inj (g1.symm.trans hx)
  rw [Nat.zero_add] at g4 g5
  exact ⟨b, C, g2, g3, g4, g5⟩
theorem Rw.grow {α : Type} {en : α → List Value} {sz : Nat} {W W' : World} {a : Option Addr} {n : Nat} {L : List α} (h : Rw en sz W a n L) (he : W.Extends W') : Rw en sz W' a n L := ⟨h.1, fun i x hx => by
  obtain ⟨b, C, h1, h2, h3⟩ := h.2 i x hx
  exact ⟨b, C, h1, (he.blk (blk_lt h2)).trans h2, h3⟩⟩
theorem Rw.at {α : Type} {en : α → List Value} {sz : Nat} {W : World} {a : Option Addr} {n : Nat} {L : List α} (h : Rw en sz W a n L) {i : Nat} (hi : i < n) : ∃ x b C, L[i]? = some x ∧ a = some ⟨b, 0, none⟩ ∧ blk W b = some C ∧ n * sz ≤ C.length ∧ seg C (i * sz) sz = en x := by
  have hx : L[i]? = some (L[i]'(by rw [h.1]; exact hi)) := List.getElem?_eq_getElem _
  obtain ⟨b, C, r⟩ := h.2 i _ hx
  exact ⟨_, b, C, hx, r⟩
def Bs (W : World) (a : Option Addr) (n : Nat) (xs : List UInt8) : Prop := xs.length = n ∧ (n ≠ 0 → ∃ b o C, a = some ⟨b, o, none⟩ ∧ blk W b = some C ∧ o + n ≤ C.length ∧ seg C o n = bv xs) ∧ (a = none ∨ ∃ b o, a = some ⟨b, o, none⟩)
theorem bv_at (xs : List UInt8) (i : Nat) : (bv xs)[i]? = (xs[i]?).map u8v := by simp [bv]
theorem Bs.get {W : World} {a : Option Addr} {n : Nat} {xs : List UInt8} (h : Bs W a n xs) {i : Nat} (hi : i < n) : ∃ b o C x, a = some ⟨b, o, none⟩ ∧ blk W b = some C ∧ o + n ≤ C.length ∧ xs[i]? = some x ∧ nth C (o + i) = some (.int .u8 (w8 x)) := by
  obtain ⟨b, o, C, h1, h2, h3, h4⟩ := h.2.1 (by omega)
  have hx : xs[i]? = some (xs[i]'(by rw [h.1]; exact hi)) := List.getElem?_eq_getElem _
  refine ⟨b, o, C, _, h1, h2, h3, hx, ?_⟩
  have h5 := seg_nth C o n i
  rw [h4, bv_at, hx, if_pos hi] at h5
  exact h5.symm
theorem bs_own {B : Nat} {W : World} {a : Option Addr} {n c : Nat} {xs : List UInt8} (h : W.ownsRow B 5 1 (.slice a n c) xs.length (bv xs)) : Bs W a n xs ∧ n ≤ c ∧ c ≤ maxLen := by
  have hb : bv xs = xs.flatMap (fun x => [u8v x]) := by
    unfold bv
    rw [List.map_eq_flatMap]
  have hl := h.1
  obtain ⟨_, ⟨h1, h2⟩ | ⟨g, cap, cur, h1, h2, h3, h4, h5, h6, h7⟩⟩ := h
  · injection h1 with e1 e2 e3
    subst e1 e2 e3
    exact ⟨⟨h2, fun h => absurd rfl h, .inl rfl⟩, Nat.le_refl _, by simp [maxLen]⟩
  · injection h1 with e1 e2 e3
    subst e1 e2 e3
    refine ⟨⟨rfl, fun h0 => ⟨g, 0, cur.toList, rfl, ?_, by simp [h6]; exact h4, ?_⟩, .inr ⟨g, 0, rfl⟩⟩, h4, h5⟩
    · exact blk_mk h3
    · unfold seg
      rw [Nat.mul_one] at h7
      rw [List.drop_zero]; exact h7
theorem take_at {α : Type} {L : List α} {i : Nat} {x : α} (h : L[i]? = some x) : L.take (i + 1) = L.take i ++ [x] := by
  rw [List.take_add_one, h]; rfl
theorem seg_nth1 {C : List Value} {i : Nat} {v : Value} (h : nth C i = some v) : seg C i 1 = [v] := by
  unfold nth at h
  unfold seg
  obtain ⟨hi, e⟩ := List.getElem?_eq_some_iff.1 h
  rw [List.drop_eq_getElem_cons hi, e]
  rfl
theorem Rw.drewN {α : Type} {en : α → List Value} {sz : Nat} {W : World} {a : Option Addr} {n : Nat} {L : List α} (h : Rw en sz W a n L) (k : Nat) : Rw en sz (W.drewN k) a n L := h
/-- What a block is for. -/
inductive Lab where
  | no
  | a (g n : Nat)
abbrev Own := Nat → Lab
def lab (O : Own) (n : Nat) (l : Lab) : Own := fun k => if k < n then O k else l
theorem lab_lt {O : Own} {n : Nat} {l : Lab} {k : Nat} (h : k < n) : lab O n l k = O k := if_pos h
theorem lab_ge {O : Own} {n : Nat} {l : Lab} {k : Nat} (h : n ≤ k) : lab O n l k = l := if_neg (by omega)
/-- What may change: blocks whose label is in L, and new ones. -/
structure Fr (L : Lab → Prop) (O : Own) (W : World) (O' : Own) (W' : World) : Prop where
  os : W'.os = W.os
  tape : W'.tape = W.tape
  output : W'.output = W.output
  size : W.heap.size ≤ W'.heap.size
  keep : ∀ k, k < W.heap.size → O' k = O k
  block : ∀ k, k < W.heap.size → ¬ L (O k) → W'.heap[k]? = W.heap[k]?
theorem Fr.refl (L : Lab → Prop) (O : Own) (W : World) : Fr L O W O W := ⟨rfl, rfl, rfl, Nat.le_refl _, fun _ _ => rfl, fun _ _ _ => rfl⟩
theorem Fr.trans {L : Lab → Prop} {O O' O'' : Own} {W W' W'' : World} (h : Fr L O W O' W') (h' : Fr L O' W' O'' W'') : Fr L O W O'' W'' :=
  ⟨h'.os.trans h.os, h'.tape.trans h.tape, h'.output.trans h.output, Nat.le_trans h.size h'.size, fun k hk => (h'.keep k (Nat.lt_of_lt_of_le hk h.size)).trans (h.keep k hk), fun k hk hl => (h'.block k (Nat.lt_of_lt_of_le hk h.size) (by rw [h.keep k hk]; exact hl)).trans (h.block k hk hl)⟩
theorem Fr.mono {L L' : Lab → Prop} {O O' : Own} {W W' : World} (h : Fr L O W O' W') (hl : ∀ l, L l → L' l) : Fr L' O W O' W' :=
  ⟨h.os, h.tape, h.output, h.size, h.keep, fun k hk hn => h.block k hk fun h1 => hn (hl _ h1)⟩
theorem Fr.drewN {L : Lab → Prop} {O O' : Own} {W W' : World} (h : Fr L O W O' W') (n : Nat) : Fr L O W O' (W'.drewN n) := ⟨h.os, h.tape, h.output, h.size, h.keep, h.block⟩
theorem Fr.drew {L : Lab → Prop} {O O' : Own} {W W' : World} (h : Fr L O W O' W') : Fr L O W O' W'.drew := ⟨h.os, h.tape, h.output, h.size, h.keep, h.block⟩
theorem Fr.of_drewN {L : Lab → Prop} {O O' : Own} {W W' : World} {n : Nat} (h : Fr L O (W.drewN n) O' W') : Fr L O W O' W' := ⟨h.os, h.tape, h.output, h.size, h.keep, h.block⟩
theorem Fr.put {L : Lab → Prop} {O O' : Own} {W W' : World} (h : Fr L O W O' W') {b : Nat} (hb : L (O' b)) (C : List Value) : Fr L O W O' (Blk.put W' b C) := by
  refine ⟨h.os, h.tape, h.output, by rw [size_put]; exact h.size, h.keep, fun k hk hn => ?_⟩
  rw [heap_put, if_neg (fun e : k = b => hn (by rw [← h.keep k hk, e]; exact hb))]
  exact h.block k hk hn
theorem Fr.put_new {L : Lab → Prop} {O O' : Own} {W W' : World} (h : Fr L O W O' W') {b : Nat} (hb : W.heap.size ≤ b) (C : List Value) : Fr L O W O' (Blk.put W' b C) := by
  refine ⟨h.os, h.tape, h.output, by rw [size_put]; exact h.size, h.keep, fun k hk hn => ?_⟩
  rw [heap_put, if_neg (by omega)]
  exact h.block k hk hn
theorem Fr.of_extends {L : Lab → Prop} {O : Own} {W W' : World} (h : W.Extends W') : Fr L O W O W' := ⟨h.os, h.tape, h.output, h.size, fun _ _ => rfl, fun k hk _ => h.block k hk⟩
theorem Fr.relab {L : Lab → Prop} {O O' : Own} {W W' : World} (h : Fr L O W O' W') (l : Lab) : Fr L O W (lab O' W'.heap.size l) W' := ⟨h.os, h.tape, h.output, h.size, fun k hk => (lab_lt (Nat.lt_of_lt_of_le hk h.size)).trans (h.keep k hk), h.block⟩
theorem Fr.blk {L : Lab → Prop} {O O' : Own} {W W' : World} (h : Fr L O W O' W') {k : Nat} {C : List Value} (hk : blk W k = some C) (hl : ¬ L (O k)) : blk W' k = some C := (blk_of_heap (h.block k (blk_lt hk) hl)).trans hk
theorem Fr.free {L : Lab → Prop} {O O' : Own} {W W' : World} (h : Fr L O W O' W') {k : Nat} {C : List Value} (hk : Blk.blk W k = some C) (hf : Blk.free W k = true) (hl : ¬ L (O k)) : Blk.free W' k = true := (free_of_heap (h.block k (blk_lt hk) hl)).trans hf
theorem Fr.extends {L : Lab → Prop} {O O' : Own} {w0 W W' : World} (h : Fr L O W O' W') (he : w0.Extends W) (hd : ∀ k, k < w0.heap.size → ¬ L (O k)) : w0.Extends W' := by
  have hb : ∀ i, i < w0.heap.size → W'.heap[i]? = w0.heap[i]? := fun i hi => (h.block i (Nat.lt_of_lt_of_le hi he.size) (hd i hi)).trans (he.block i hi)
  exact ⟨h.os.trans he.os, h.tape.trans he.tape, h.output.trans he.output, Nat.le_trans he.size h.size, fun a ha => World.cell?_of_block (hb _ ha), fun a ha => World.frozen?_of_block (hb _ ha), hb⟩
theorem Fr.grown {O : Own} {l : Lab} {W W' : World} {v : Value} (hg : W.grownBy W' v.ownBlock) (hl : ∀ k, v.ownBlock = some k → O k = l) : Fr (fun x => x = l) O W (lab O W.heap.size l) W' :=
  ⟨hg.os, hg.tape, hg.output, hg.size, fun k hk => lab_lt hk, fun k hk hn => hg.block k hk (fun e => hn (hl k e.symm))⟩
/-- A row with its label. -/
def RowL (B : Nat) (O : Own) (l : Lab) (W : World) (e : TypeId) (sz : Nat) (v : Value) (n : Nat) (xs : List Value) : Prop := W.ownsRow B e sz v n xs ∧ ∀ k, v.ownBlock = some k → O k = l
theorem RowL.keep {B : Nat} {O O' : Own} {l : Lab} {W W' : World} {e : TypeId} {sz : Nat} {v : Value} {n : Nat} {xs : List Value} (h : RowL B O l W e sz v n xs) (hw : ∀ k, k < W.heap.size → O k = l → W'.heap[k]? = W.heap[k]? ∧ O' k = O k) : RowL B O' l W' e sz v n xs :=
  ⟨row_keep h.1 (fun k hk => (hw k (row_at h.1 k hk).2.1 (h.2 k hk)).1), fun k hk => ((hw k (row_at h.1 k hk).2.1 (h.2 k hk)).2).trans (h.2 k hk)⟩
theorem RowL.fr {L : Lab → Prop} {B : Nat} {O O' : Own} {l : Lab} {W W' : World} {e : TypeId} {sz : Nat} {v : Value} {n : Nat} {xs : List Value} (h : RowL B O l W e sz v n xs) (hf : Fr L O W O' W') (hl : ¬ L l) : RowL B O' l W' e sz v n xs :=
  h.keep (fun k hk ho => ⟨hf.block k hk (by rw [ho]; exact hl), hf.keep k hk⟩)
theorem RowL.nil (B : Nat) (O : Own) (l : Lab) (W : World) (e : TypeId) (sz : Nat) : RowL B O l W e sz (.slice none 0 0) 0 [] := ⟨⟨by simp, .inl ⟨rfl, rfl⟩⟩, fun k hk => by simp [Value.ownBlock] at hk⟩
theorem RowL.rw {α : Type} {e : α → List Value} {sz : Nat} (hsz : ∀ x, (e x).length = sz) {B : Nat} {O : Own} {l : Lab} {W : World} {ty : TypeId} {a : Option Addr} {n c : Nat} {K : List α} (h : RowL B O l W ty sz (.slice a n c) K.length (K.flatMap e)) : Rw e sz W a n K ∧ n ≤ c ∧ c ≤ maxLen := rw_own hsz h.1
theorem flat_take {α : Type} (en : α → List Value) (sz : Nat) (hsz : ∀ x, (en x).length = sz) : ∀ (K : List α) (D : List Value), K.length * sz ≤ D.length → (∀ i x, K[i]? = some x → seg D (i * sz) sz = en x) → D.take (K.length * sz) = K.flatMap en
  | [], D, _, _ => by simp
  | x :: K, D, hl, h => by
    have h0 := h 0 x rfl
    have ih := flat_take en sz hsz K (D.drop sz) (by rw [List.length_drop]; rw [List.length_cons, Nat.add_mul] at hl; omega) (fun i y hy => by
      have := h (i + 1) y (by simpa using hy)
      unfold seg at this ⊢
      rw [List.drop_drop, show sz + i * sz = (i + 1) * sz by rw [Nat.add_mul]; omega]
      exact this)
    rw [List.flatMap_cons, ← ih, ← h0, List.length_cons, Nat.add_mul, Nat.one_mul, Nat.add_comm, Nat.zero_mul]
    unfold seg
    rw [List.drop_zero, List.take_add]
theorem RowL.open {α : Type} {en : α → List Value} {sz : Nat} (hsz : ∀ x, (en x).length = sz) {B : Nat} {O : Own} {l : Lab} {W : World} {ty : TypeId} {a : Option Addr} {n c : Nat} {K : List α} (h : RowL B O l W ty sz (.slice a n c) K.length (K.flatMap en)) (hn : 0 < n) :
    ∃ g C, a = some ⟨g, 0, none⟩ ∧ blk W g = some C ∧ free W g = true ∧ n * sz ≤ C.length ∧ O g = l ∧ B ≤ g ∧ K.length = n ∧ (∀ i x, K[i]? = some x → seg C (i * sz) sz = en x) ∧
    ∀ (D : List Value) (K' : List α), D.length = C.length → K'.length = K.length → (∀ i x, K'[i]? = some x → seg D (i * sz) sz = en x) → RowL B O l (put W g D) ty sz (.slice a n c) K'.length (K'.flatMap en) := by
  have hr := (rw_own hsz h.1).1
  obtain ⟨⟨h1, h2 | ⟨g, cap, cur, e1, e2, e3, e4, e5, e6, e7⟩⟩, hl⟩ := h
  · have := hr.1; omega
  · injection e1 with e1a e1b e1c
    subst e1a
    subst e1c
    have hg : O g = l := hl g rfl
    have hle : K.length * sz ≤ c * sz := Nat.mul_le_mul_right _ e4
    refine ⟨g, cur.toList, rfl, blk_mk e3, free_mk e3, by rw [Array.length_toList, e6, ← hr.1]; exact hle, hg, e2, hr.1, fun i x hx => ?_, fun D K' hD hK' hs => ?_⟩
    · obtain ⟨b, C, q1, q2, q3, q4⟩ := hr.2 i x hx
      injection q1 with q1; injection q1 with q1
      subst q1
      rw [blk_mk e3] at q2
      injection q2 with q2
      rw [q2]; exact q4
    · have hcl : cur.toList.length = c * sz := by rw [Array.length_toList]; exact e6
      have hDl : K'.length * sz ≤ D.length := by rw [hD, hcl, hK']; exact hle
      have hft := flat_take en sz hsz K' D hDl hs
      refine ⟨⟨?_, .inr ⟨g, c, D.toArray, by rw [hK', e1b], e2, ?_, by rw [hK']; exact e4, e5, by rw [List.size_toArray, hD, hcl], hft⟩⟩, fun k hk => ?_⟩
      · rw [← hft, List.length_take]; omega
      · rw [heap_put, if_pos rfl, e3]; rfl
      · simp [Value.ownBlock] at hk; rw [← hk]; exact hg
/-- One thing appended to a labelled row. -/
theorem appL {α : Type} (en : α → List Value) (sz bytes : Nat) (t e : TypeId) (ht : Tryz.prog.underlying t = some (.slice e)) (hinfo : ∃ i z, Tryz.prog.info? e = some i ∧ i.zero = some z ∧ i.size = sz ∧ i.bytes = bytes ∧ z.cells.size = sz) (hln : ∀ x, (en x).length = sz) (hone : ∀ x, (en x).all (fun v => v.oneCell') = true) (hsz : 0 < sz) (hb1 : bytes ≤ 1000)
    {B : Nat} {O : Own} {l : Lab} {W : World} (ty : TypeId) {a : Option Addr} {n c : Nat} {K : List α} (x : α) (h : RowL B O l W e sz (.slice a n c) K.length (K.flatMap en)) (hB : B ≤ W.heap.size) (hl : K.length ≤ 10000000000) (A : Array Value) (hA : A = (en x).toArray) (c1 : Nat) :
    ∃ a' c' W', (Builtin.append_ #[t, t] ty #[.slice a n c, .slice (some ⟨W.heap.size, 0, none⟩) 1 c1]).run Tryz.prog (W.alloc (.cells A e)) = .ok (.slice a' (n + 1) c') W' ∧ RowL B (lab O W.heap.size l) l W' e sz (.slice a' (n + 1) c') (K ++ [x]).length ((K ++ [x]).flatMap en) ∧ Fr (fun y => y = l) O W (lab O W.heap.size l) W' := by
  subst hA
  have hx1 : W.Extends (W.alloc (.cells (en x).toArray e)) := extends_alloc (ext_Ext (Ext.refl _)) _
  have hrow := row_keep h.1 (fun k hk => hx1.block k (row_at h.1 k hk).2.1)
  obtain ⟨v', W', hr, ho, hg, hbk⟩ := appG en sz bytes t e ht hinfo hln hone hsz hb1 B (W.alloc (.cells (en x).toArray e)) ty (.slice a n c) K x W.heap.size c1 hrow ((blk_alloc _ _ _ _).trans (if_pos rfl)) (Nat.le_trans hB hx1.size) hl
  obtain ⟨a', c', rfl⟩ := row_val ho
  have hKn : K.length = n := (rw_own hln h.1).1.1
  have hm : (K ++ [x]).length = n + 1 := by rw [List.length_append, List.length_singleton, hKn]
  rw [hm] at hr ho hbk
  have hsz1 : W.heap.size ≤ (W.alloc (.cells (en x).toArray e)).heap.size := hx1.size
  refine ⟨a', c', W', hr, ⟨by rw [hm]; exact ho, fun k hk => ?_⟩, ?_⟩
  · rcases hbk with hbk | hbk
    · rw [hbk] at hk
      rw [lab_lt (row_at h.1 k hk).2.1]
      exact h.2 k hk
    · rw [hbk] at hk
      have : k = (W.alloc (.cells (en x).toArray e)).heap.size := (Option.some.inj hk).symm
      exact lab_ge (by omega)
  · have f1 := Fr.of_extends (L := fun y => y = l) (O := O) hx1
    refine ⟨hg.os.trans f1.os, hg.tape.trans f1.tape, hg.output.trans f1.output, Nat.le_trans hsz1 hg.size, fun k hk => lab_lt hk, fun k hk hn => ?_⟩
    exact (hg.block k (by omega) (fun e1 => hn (h.2 k e1.symm))).trans (hx1.block k hk)
theorem RowL.openT {α : Type} {en : α → List Value} {sz : Nat} (hsz : ∀ x, (en x).length = sz) {B : Nat} {O : Own} {l : Lab} {W : World} {ty : TypeId} {a : Option Addr} {n c : Nat} {K : List α} (h : RowL B O l W ty sz (.slice a n c) K.length (K.flatMap en)) (hn : 0 < n) :
    ∃ g C, a = some ⟨g, 0, none⟩ ∧ W.heap[g]? = some (.cells C.toArray ty (0, 0)) ∧ n * sz ≤ C.length ∧ O g = l ∧ B ≤ g ∧ K.length = n ∧ (∀ i x, K[i]? = some x → seg C (i * sz) sz = en x) ∧
    ∀ (O' : Own) (W' : World) (D : List Value) (K' : List α), W'.heap[g]? = some (.cells D.toArray ty (0, 0)) → D.length = C.length → K'.length = K.length → (∀ i x, K'[i]? = some x → seg D (i * sz) sz = en x) → O' g = l → RowL B O' l W' ty sz (.slice a n c) K'.length (K'.flatMap en) := by
  have hr := (rw_own hsz h.1).1
  obtain ⟨⟨h1, h2 | ⟨g, cap, cur, e1, e2, e3, e4, e5, e6, e7⟩⟩, hl⟩ := h
  · have := hr.1; omega
  · injection e1 with e1a e1b e1c
    subst e1a
    subst e1c
    have hg : O g = l := hl g rfl
    have hle : K.length * sz ≤ c * sz := Nat.mul_le_mul_right _ e4
    refine ⟨g, cur.toList, rfl, e3, by rw [Array.length_toList, e6, ← hr.1]; exact hle, hg, e2, hr.1, fun i x hx => ?_, fun O' W' D K' hW hD hK' hs ho => ?_⟩
    · obtain ⟨b, C, q1, q2, q3, q4⟩ := hr.2 i x hx
      injection q1 with q1; injection q1 with q1
      subst q1
      rw [blk_mk e3] at q2
      injection q2 with q2
      rw [q2]; exact q4
    · have hcl : cur.toList.length = c * sz := by rw [Array.length_toList]; exact e6
      have hDl : K'.length * sz ≤ D.length := by rw [hD, hcl, hK']; exact hle
      have hft := flat_take en sz hsz K' D hDl hs
      refine ⟨⟨?_, .inr ⟨g, c, D.toArray, by rw [hK', e1b], e2, hW, by rw [hK']; exact e4, e5, by rw [List.size_toArray, hD, hcl], hft⟩⟩, fun k hk => ?_⟩
      · rw [← hft, List.length_take]; omega
      · simp [Value.ownBlock] at hk; rw [← hk]; exact ho
abbrev Tup := Vector Int 4
def cmpEq (t : TypeId) (x y : Operand) (u v : Value) : Sem Next := do pure (.value (← (do eqGuard .eql t x y u v; binOp .eql t u v)))
theorem seg_off {C X : List Value} {o p n : Nat} (h : o + X.length ≤ C.length) (hd : p + n ≤ o ∨ o + X.length ≤ p) : seg (splice C o X) p n = seg C p n := by
  unfold seg
  apply List.ext_getElem?
  intro r
  rw [List.getElem?_take, List.getElem?_take]
  by_cases hr : r < n
  · rw [if_pos hr, if_pos hr, List.getElem?_drop, List.getElem?_drop]
    unfold splice
    rcases hd with hd | hd
    · rw [List.append_assoc, List.getElem?_append_left (by rw [List.length_take]; omega), List.getElem?_take, if_pos (by omega)]
    · rw [List.getElem?_append_right (by rw [List.length_append, List.length_take]; omega), List.length_append, List.length_take, List.getElem?_drop]
      congr 1
      omega
  · rw [if_neg hr, if_neg hr]
theorem RowL.set {α : Type} {en : α → List Value} {sz : Nat} (hsz : ∀ x, (en x).length = sz) {B : Nat} {O : Own} {l : Lab} {W : World} {ty : TypeId} {a : Option Addr} {n c : Nat} {K : List α} (h : RowL B O l W ty sz (.slice a n c) K.length (K.flatMap en)) {i : Nat} (hi : i < n) (x : α) :
    ∃ g C, a = some ⟨g, 0, none⟩ ∧ blk W g = some C ∧ free W g = true ∧ O g = l ∧ B ≤ g ∧ i * sz + sz ≤ C.length ∧ (∀ i x, K[i]? = some x → seg C (i * sz) sz = en x) ∧ RowL B O l (put W g (splice C (i * sz) (en x))) ty sz (.slice a n c) (K.set i x).length ((K.set i x).flatMap en) := by
  obtain ⟨g, C, e1, e2, e3, e4, e5, e6, e7, e8, e9⟩ := h.open hsz (by omega)
  have hle : (i + 1) * sz ≤ n * sz := Nat.mul_le_mul_right _ hi
  rw [Nat.add_mul, Nat.one_mul] at hle
  refine ⟨g, C, e1, e2, e3, e5, e6, by omega, e8, e9 _ _ (length_splice _ _ _ (by rw [hsz]; omega)) (by simp) (fun j y hy => ?_)⟩
  rw [List.getElem?_set] at hy
  by_cases hij : i = j
  · subst hij
    rw [if_pos rfl, if_pos (by omega)] at hy
    rw [seg_splice0 (by rw [hsz]; omega) (by rw [hsz]; exact Nat.le_refl _), ← Option.some.inj hy, seg_all _ _ (hsz x)]
  · rw [if_neg hij] at hy
    have hj : j < K.length := (List.getElem?_eq_some_iff.1 hy).1
    rw [seg_off (by rw [hsz]; omega) ?_]
    · exact e8 j y hy
    · rw [hsz]
      rcases Nat.lt_or_gt_of_ne hij with h1 | h1
      · right
        have := Nat.mul_le_mul_right sz h1
        rw [Nat.succ_mul] at this; omega
      · left
        have := Nat.mul_le_mul_right sz h1
        rw [Nat.succ_mul] at this; omega
theorem hid_of {p : Prop} (h : p) : Hid p := h
theorem Rw.ext' {α : Type} {en : α → List Value} {sz : Nat} {W W' : World} {a : Option Addr} {n : Nat} {L : List α} (h : Rw en sz W a n L) (he : W.Extends W') : Rw en sz W' a n L := h.grow he
theorem rw_cell {α : Type} {en : α → List Value} {W : World} {a : Option Addr} {n : Nat} {L : List α} (h : Rw en 1 W a n L) {i : Nat} {x : α} (hx : L[i]? = some x) {v : Value} (hv : en x = [v]) : ∃ b C, a = some ⟨b, 0, none⟩ ∧ blk W b = some C ∧ i + 1 ≤ C.length ∧ i < n ∧ nth C i = some v := by
  obtain ⟨b, C, h1, h2, h3, h4⟩ := h.2 i x hx
  have hi : i < n := by rw [← h.1]; exact (List.getElem?_eq_some_iff.1 hx).1
  rw [Nat.mul_one, hv] at h4
  exact ⟨b, C, h1, h2, by omega, hi, (nth_in (j := 0) h4 rfl (by omega))⟩

def dead : Lab → Obj → Obj
  | .no, x => x
  | .a _ _, _ => .view ⟨0, 0, none⟩ 0
def core (O : Own) (W : World) : World := { W with heap := W.heap.mapIdx fun k x => dead (O k) x }
theorem core_heap (O : Own) (W : World) (k : Nat) : (core O W).heap[k]? = (W.heap[k]?).map (dead (O k)) := by
  unfold core
  simp [Array.getElem?_mapIdx]
theorem core_size (O : Own) (W : World) : (core O W).heap.size = W.heap.size := by
  unfold core; simp
theorem core_blk {O : Own} {W : World} {k : Nat} {C : List Value} (h : blk (core O W) k = some C) : blk W k = some C ∧ O k = .no := by
  have hh := core_heap O W k
  unfold blk at h ⊢
  rw [hh] at h
  cases hk : W.heap[k]? with
  | none => rw [hk] at h; cases h
  | some x =>
    rw [hk] at h
    cases ho : O k with
    | no => rw [ho] at h; exact ⟨h, rfl⟩
    | a g n => rw [ho] at h; cases h
theorem blk_core {O : Own} {W : World} {k : Nat} {C : List Value} (h : blk W k = some C) (ho : O k = .no) : blk (core O W) k = some C := by
  have hh := core_heap O W k
  unfold blk at h ⊢
  rw [hh, ho]
  cases hk : W.heap[k]? with
  | none => rw [hk] at h; cases h
  | some x => rw [hk] at h; exact h
theorem ext_of {w w' : World} (h1 : w'.os = w.os) (h2 : w'.tape = w.tape) (h3 : w'.output = w.output) (h4 : w.heap.size ≤ w'.heap.size) (h5 : ∀ k, k < w.heap.size → w'.heap[k]? = w.heap[k]?) : w.Extends w' :=
  (Fr.extends (L := fun _ => False) (O := fun _ => Lab.no) (O' := fun _ => Lab.no) ⟨h1, h2, h3, h4, fun _ _ => rfl, fun k hk _ => h5 k hk⟩ (ext_Ext (Ext.refl _)) (fun _ _ h => h))
theorem core_fr {L : Lab → Prop} {O O' : Own} {W W' : World} (h : Fr L O W O' W') (hl : ¬ L .no) : (core O W).Extends (core O' W') := by
  refine ext_of h.os h.tape h.output (by rw [core_size, core_size]; exact h.size) (fun k hk => ?_)
  rw [core_size] at hk
  rw [core_heap, core_heap, h.keep k hk]
  cases ho : O k with
  | no => rw [h.block k hk (by rw [ho]; exact hl)]
  | a g n =>
    have h1 : k < W'.heap.size := Nat.lt_of_lt_of_le hk h.size
    rw [Array.getElem?_eq_getElem hk, Array.getElem?_eq_getElem h1]
    rfl
theorem Rw.uncore {α : Type} {en : α → List Value} {sz : Nat} {O : Own} {W : World} {a : Option Addr} {n : Nat} {L : List α} (h : Rw en sz (core O W) a n L) : Rw en sz W a n L := ⟨h.1, fun i x hx => by
  obtain ⟨b, C, h1, h2, h3⟩ := h.2 i x hx
  exact ⟨b, C, h1, (core_blk h2).1, h3⟩⟩
theorem Rw.tocore {α : Type} {en : α → List Value} {sz : Nat} {O : Own} {W : World} {a : Option Addr} {n : Nat} {L : List α} (h : Rw en sz W a n L) (ho : ∀ b C, a = some ⟨b, 0, none⟩ → blk W b = some C → O b = .no) : Rw en sz (core O W) a n L := ⟨h.1, fun i x hx => by
  obtain ⟨b, C, h1, h2, h3⟩ := h.2 i x hx
  exact ⟨b, C, h1, blk_core h2 (ho b C h1 h2), h3⟩⟩
theorem At.uncore {α : Type} {e : α → List Value} {sz : Nat} {O : Own} {W : World} {b o : Nat} {a : Option Addr} {n : Nat} {L : List α} (h : At e sz (core O W) b o a n L) : At e sz W b o a n L := ⟨h.1, fun h0 => by
  obtain ⟨h1, C, h2, h3⟩ := h.2 h0
  exact ⟨h1, C, (core_blk h2).1, h3⟩⟩
theorem At.tocore {α : Type} {e : α → List Value} {sz : Nat} {O : Own} {W : World} {b o : Nat} {a : Option Addr} {n : Nat} {L : List α} (h : At e sz W b o a n L) (ho : n ≠ 0 → O b = .no) : At e sz (core O W) b o a n L := ⟨h.1, fun h0 => by
  obtain ⟨h1, C, h2, h3⟩ := h.2 h0
  exact ⟨h1, C, blk_core h2 (ho h0), h3⟩⟩
theorem core_ext {O : Own} {W W' : World} (he : W.Extends W') : (core O W).Extends (core O W') := core_fr (L := fun _ => False) (Fr.of_extends he) (fun h => h)
theorem core_new {O : Own} {W W1 : World} (hx : W.Extends W1) (l : Lab) : (core O W).Extends (core (lab O W.heap.size l) W1) := core_fr (L := fun _ => False) ⟨hx.os, hx.tape, hx.output, hx.size, fun k hk => lab_lt hk, fun k hk _ => hx.block k hk⟩ (fun h => h)
def Sub (W W' : World) : Prop := ∀ b C, blk W b = some C → blk W' b = some C
theorem Sub.trans {W W' W'' : World} (h : Sub W W') (h' : Sub W' W'') : Sub W W'' := fun b C hb => h' b C (h b C hb)
theorem Sub.ext {W W' : World} (h : W.Extends W') : Sub W W' := fun b C hb => (h.blk (blk_lt hb)).trans hb
theorem Sub.core (O : Own) (W : World) : Sub (core O W) W := fun b C hb => (core_blk hb).1
theorem Sub.cores {O O' : Own} {W W' : World} (h : ∀ b C, blk W b = some C → O b = .no → blk W' b = some C ∧ O' b = .no) : Sub (Go.Proofs.Qxb6500786aGreat.core O W) (Go.Proofs.Qxb6500786aGreat.core O' W') := fun b C hb => by
  obtain ⟨h1, h2⟩ := core_blk hb
  obtain ⟨h3, h4⟩ := h b C h1 h2
  exact blk_core h3 h4
theorem Rw.sub {α : Type} {en : α → List Value} {sz : Nat} {W W' : World} {a : Option Addr} {n : Nat} {L : List α} (h : Rw en sz W a n L) (hs : Sub W W') : Rw en sz W' a n L := ⟨h.1, fun i x hx => by
  obtain ⟨b, C, h1, h2, h3⟩ := h.2 i x hx
  exact ⟨b, C, h1, hs b C h2, h3⟩⟩
theorem At.sub {α : Type} {e : α → List Value} {sz : Nat} {W W' : World} {b o : Nat} {a : Option Addr} {n : Nat} {L : List α} (h : At e sz W b o a n L) (hs : Sub W W') : At e sz W' b o a n L := ⟨h.1, fun h0 => by
  obtain ⟨h1, C, h2, h3⟩ := h.2 h0
  exact ⟨h1, C, hs b C h2, h3⟩⟩
/-- Only the blocks from n on. -/
def newc (n : Nat) (V : World) : World := core (lab (fun _ => .a 0 0) n .no) V
theorem newc_blk {n : Nat} {V : World} {b : Nat} {C : List Value} (h : blk (newc n V) b = some C) : blk V b = some C ∧ n ≤ b := by
  obtain ⟨h1, h2⟩ := core_blk h
  refine ⟨h1, Nat.le_of_not_lt fun hb => ?_⟩
  rw [lab_lt hb] at h2; cases h2
theorem blk_newc {n : Nat} {V : World} {b : Nat} {C : List Value} (h : blk V b = some C) (hb : n ≤ b) : blk (newc n V) b = some C := blk_core h (lab_ge hb)
theorem newc_core {n : Nat} {V : World} (O : Own) : Sub (newc n V) (core (lab O n .no) V) := fun b C hb => by
  obtain ⟨h1, h2⟩ := newc_blk hb
  exact blk_core h1 (lab_ge h2)
theorem newc_le {n m : Nat} {V : World} (h : n ≤ m) : Sub (newc m V) (newc n V) := fun b C hb => by
  obtain ⟨h1, h2⟩ := newc_blk hb
  exact blk_newc h1 (Nat.le_trans h h2)
theorem newc_ext {n : Nat} {V V' : World} (h : V.Extends V') : Sub (newc n V) (newc n V') := fun b C hb => by
  obtain ⟨h1, h2⟩ := newc_blk hb
  exact blk_newc ((h.blk (blk_lt h1)).trans h1) h2
/-- The program, through a pointer to its cells. -/
theorem newc_sub (n : Nat) (V : World) : Sub (newc n V) V := fun _ _ hb => (newc_blk hb).1
theorem RowL.nw {α : Type} {e : α → List Value} {sz : Nat} (hsz : ∀ x, (e x).length = sz) {B : Nat} {O : Own} {l : Lab} {W : World} {ty : TypeId} {a : Option Addr} {n c : Nat} {K : List α} (h : RowL B O l W ty sz (.slice a n c) K.length (K.flatMap e)) : Rw e sz (newc B W) a n K := (h.rw hsz).1.tocore (fun b C e _ => lab_ge (row_at h.1 b (by rw [e]; rfl)).1)
theorem Fr.grow {L : Lab → Prop} {O : Own} {V V' : World} (he : V.Extends V') : Fr L O V (lab O V.heap.size .no) V' := ⟨he.os, he.tape, he.output, he.size, fun k hk => lab_lt hk, fun k hk _ => he.block k hk⟩

end Go.Proofs.Qxb6500786aGreat
