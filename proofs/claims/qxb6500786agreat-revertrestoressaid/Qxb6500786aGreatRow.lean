
import Derived.Test.Qxb6500786aGreatBase
import Derived.StillTailTactics
import Derived.Deep.QuietTactic
import Derived.BigQuiet
import Derived.Deep.RegionHeld
import Derived.Deep.CutRange
import Derived.Laws.ResultCell
import Derived.Laws.Rows
import Derived.DeepKeys
import Derived.DataBytes
import Derived.Laws.StructEq
import Derived.Laws.AppendOwn
import Derived.Laws.MakeOwn
set_option linter.unusedSimpArgs false
set_option linter.unusedVariables false
namespace Go.Proofs.Qxb6500786aGreat
open Go.RowKit Go.Blk
attribute [local go_sem ↓] execOp_load execOp_store execOp_alloc
attribute [local go_sem] Tryz.ld24 Tryz.st24 Tryz.ld36 Tryz.st36 Tryz.ld28 Tryz.st28 Tryz.ld32 Tryz.st32 Tryz.ld33 Tryz.st33 Tryz.ld34 Tryz.st34 Tryz.ld5 Tryz.st5 Tryz.ld31 Tryz.st31 Tryz.ld30 Tryz.st30 Tryz.ld41 Tryz.st41 Tryz.ld44 Tryz.st44 Tryz.ld4 Tryz.st4 Tryz.ld173 Tryz.st173 Tryz.ld174 Tryz.st174 Tryz.ld95 Tryz.st95 Tryz.ld45 Tryz.st45 Tryz.ld207 Tryz.st207 Tryz.ld3 Tryz.st3 Tryz.ld189 Tryz.st189 Tryz.ld2 Tryz.st2 Tryz.ld9 Tryz.st9 Tryz.ld12 Tryz.st12 Tryz.ld21 Tryz.st21 Tryz.ld22 Tryz.st22 Tryz.ld46 Tryz.st46 Tryz.ld92 Tryz.st92 Tryz.ld94 Tryz.st94 Tryz.ld96 Tryz.st96 Tryz.ld97 Tryz.st97 Tryz.ld105 Tryz.st105 Tryz.ld117 Tryz.st117 Tryz.ld122 Tryz.st122 Tryz.ld123 Tryz.st123 Tryz.ld133 Tryz.st133 Tryz.ld155 Tryz.st155 Tryz.ld163 Tryz.st163 Tryz.ld190 Tryz.st190 Tryz.ld197 Tryz.st197 Tryz.ld201 Tryz.st201 Tryz.ld202 Tryz.st202 Tryz.ld209 Tryz.st209 Tryz.ld216 Tryz.st216 Tryz.ld230 Tryz.st230 Tryz.ld238 Tryz.st238 Tryz.ld242 Tryz.st242 Tryz.ld251 Tryz.st251 Tryz.ld260 Tryz.st260 Tryz.ld286 Tryz.st286 Tryz.ld292 Tryz.st292 Tryz.ld298 Tryz.st298 Tryz.ld309 Tryz.st309 Tryz.ld35 Tryz.st35 Tryz.ld48 Tryz.st48 Tryz.ld47 Tryz.st47 Tryz.ld79 Tryz.st79 Tryz.ld177 Tryz.st177 Tryz.ld180 Tryz.st180 Tryz.ld231 Tryz.st231 Tryz.ld232 Tryz.st232 Tryz.ld26 Tryz.st26 Tryz.ld38 Tryz.st38 Tryz.ld40 Tryz.st40 Tryz.ld43 Tryz.st43 Tryz.ld50 Tryz.st50 Tryz.ld52 Tryz.st52 Tryz.ld54 Tryz.st54 Tryz.ld81 Tryz.st81 Tryz.ld112 Tryz.st112 Tryz.ld120 Tryz.st120 Tryz.ld176 Tryz.st176 Tryz.ld179 Tryz.st179 Tryz.ld182 Tryz.st182 Tryz.ld184 Tryz.st184 Tryz.ld234 Tryz.st234 Tryz.ld236 Tryz.st236 Tryz.ld240 Tryz.st240 Tryz.ld246 Tryz.st246 Tryz.ld249 Tryz.st249 Tryz.al35 Tryz.al48 Tryz.al47 Tryz.al79 Tryz.al177 Tryz.al180 Tryz.al231 Tryz.al232 Tryz.al26 Tryz.al38 Tryz.al40 Tryz.al43 Tryz.al50 Tryz.al52 Tryz.al54 Tryz.al81 Tryz.al112 Tryz.al120 Tryz.al176 Tryz.al179 Tryz.al182 Tryz.al184 Tryz.al234 Tryz.al236 Tryz.al240 Tryz.al246 Tryz.al249
attribute [local go_sem] Player.length_enc Player.ok_enc Player.all_get Player.all_set Player.hand_get Player.hand_set Player.aside_get Player.aside_set Message.length_enc Message.ok_enc Message.all_get Message.all_set Message.kind_get Message.kind_set Message.from__get Message.from__set Message.to__get Message.to__set Message.sender_get Message.sender_set Message.receiver_get Message.receiver_set Message.seq_get Message.seq_set Message.token_get Message.token_set Message.amount_get Message.amount_set Message.size_get Message.size_set Message.payload_get Message.payload_set Tx.length_enc Tx.ok_enc Tx.all_get Tx.all_set Tx.kind_get Tx.kind_set Tx.chain_get Tx.chain_set Tx.from__get Tx.from__set Tx.nonce_get Tx.nonce_set Tx.fee_get Tx.fee_set Tx.to__get Tx.to__set Tx.dest_get Tx.dest_set Tx.token_get Tx.token_set Tx.amount_get Tx.amount_set Tx.size_get Tx.size_set Tx.payload_get Tx.payload_set Tx.msg_get Tx.msg_set Tx.msg_kind_get Tx.msg_kind_set Tx.msg_from__get Tx.msg_from__set Tx.msg_to__get Tx.msg_to__set Tx.msg_sender_get Tx.msg_sender_set Tx.msg_receiver_get Tx.msg_receiver_set Tx.msg_seq_get Tx.msg_seq_set Tx.msg_token_get Tx.msg_token_set Tx.msg_amount_get Tx.msg_amount_set Tx.msg_size_get Tx.msg_size_set Tx.msg_payload_get Tx.msg_payload_set GOp.length_enc GOp.ok_enc GOp.all_get GOp.all_set GOp.kind_get GOp.kind_set GOp.tx_get GOp.tx_set GOp.txs_get GOp.txs_set GOp.gas_get GOp.gas_set GOp.acct_get GOp.acct_set GOp.token_get GOp.token_set GOp.chain_get GOp.chain_set GOp.seq_get GOp.seq_set GOp.tx_kind_get GOp.tx_kind_set GOp.tx_chain_get GOp.tx_chain_set GOp.tx_from__get GOp.tx_from__set GOp.tx_nonce_get GOp.tx_nonce_set GOp.tx_fee_get GOp.tx_fee_set GOp.tx_to__get GOp.tx_to__set GOp.tx_dest_get GOp.tx_dest_set GOp.tx_token_get GOp.tx_token_set GOp.tx_amount_get GOp.tx_amount_set GOp.tx_size_get GOp.tx_size_set GOp.tx_payload_get GOp.tx_payload_set GOp.tx_msg_get GOp.tx_msg_set GOp.tx_msg_kind_get GOp.tx_msg_kind_set GOp.tx_msg_from__get GOp.tx_msg_from__set GOp.tx_msg_to__get GOp.tx_msg_to__set GOp.tx_msg_sender_get GOp.tx_msg_sender_set GOp.tx_msg_receiver_get GOp.tx_msg_receiver_set GOp.tx_msg_seq_get GOp.tx_msg_seq_set GOp.tx_msg_token_get GOp.tx_msg_token_set GOp.tx_msg_amount_get GOp.tx_msg_amount_set GOp.tx_msg_size_get GOp.tx_msg_size_set GOp.tx_msg_payload_get GOp.tx_msg_payload_set Summary.length_enc Summary.ok_enc Summary.all_get Summary.all_set Summary.height_get Summary.height_set Summary.txs_get Summary.txs_set Summary.gas_get Summary.gas_set Summary.fees_get Summary.fees_set Summary.sent_get Summary.sent_set Summary.took_get Summary.took_set Summary.minted_get Summary.minted_set Summary.burned_get Summary.burned_set Summary.root_get Summary.root_set Detail.length_enc Detail.ok_enc Detail.all_get Detail.all_set Detail.code_get Detail.code_set Detail.have__get Detail.have__set Detail.need_get Detail.need_set Slot.length_enc Slot.ok_enc Slot.all_get Slot.all_set Slot.nonce_get Slot.nonce_set Slot.balances_get Slot.balances_set Tree.length_enc Tree.ok_enc Tree.all_get Tree.all_set Tree.leaves_get Tree.leaves_set Mark.length_enc Mark.ok_enc Mark.all_get Mark.all_set Mark.from__get Mark.from__set Mark.seq_get Mark.seq_set Receipt.length_enc Receipt.ok_enc Receipt.all_get Receipt.all_set Receipt.code_get Receipt.code_set Receipt.hash_get Receipt.hash_set Receipt.index_get Receipt.index_set Receipt.gas_get Receipt.gas_set Receipt.fee_get Receipt.fee_set Receipt.hasSent_get Receipt.hasSent_set Receipt.sent_get Receipt.sent_set Receipt.hasTook_get Receipt.hasTook_set Receipt.took_get Receipt.took_set Receipt.sent_kind_get Receipt.sent_kind_set Receipt.sent_from__get Receipt.sent_from__set Receipt.sent_to__get Receipt.sent_to__set Receipt.sent_sender_get Receipt.sent_sender_set Receipt.sent_receiver_get Receipt.sent_receiver_set Receipt.sent_seq_get Receipt.sent_seq_set Receipt.sent_token_get Receipt.sent_token_set Receipt.sent_amount_get Receipt.sent_amount_set Receipt.sent_size_get Receipt.sent_size_set Receipt.sent_payload_get Receipt.sent_payload_set Receipt.took_kind_get Receipt.took_kind_set Receipt.took_from__get Receipt.took_from__set Receipt.took_to__get Receipt.took_to__set Receipt.took_sender_get Receipt.took_sender_set Receipt.took_receiver_get Receipt.took_receiver_set Receipt.took_seq_get Receipt.took_seq_set Receipt.took_token_get Receipt.took_token_set Receipt.took_amount_get Receipt.took_amount_set Receipt.took_size_get Receipt.took_size_set Receipt.took_payload_get Receipt.took_payload_set Store.length_enc Store.ok_enc Store.all_get Store.all_set Store.now_get Store.now_set Store.saved_get Store.saved_set GState.length_enc GState.ok_enc GState.all_get GState.all_set GState.kv_get GState.kv_set GState.tree_get GState.tree_set GState.stale_get GState.stale_set GState.touched_get GState.touched_set GState.kv_now_get GState.kv_now_set GState.kv_saved_get GState.kv_saved_set GState.tree_leaves_get GState.tree_leaves_set History.length_enc History.ok_enc History.all_get History.all_set History.ring_get History.ring_set History.closed_get History.closed_set Ledger.length_enc Ledger.ok_enc Ledger.all_get Ledger.all_set Ledger.chain_get Ledger.chain_set Ledger.st_get Ledger.st_set Ledger.height_get Ledger.height_set Ledger.open__get Ledger.open__set Ledger.gasLimit_get Ledger.gasLimit_set Ledger.past_get Ledger.past_set Ledger.begun_get Ledger.begun_set Ledger.sent_get Ledger.sent_set Ledger.took_get Ledger.took_set Ledger.receipts_get Ledger.receipts_set Ledger.st_kv_get Ledger.st_kv_set Ledger.st_tree_get Ledger.st_tree_set Ledger.st_stale_get Ledger.st_stale_set Ledger.st_touched_get Ledger.st_touched_set Ledger.st_kv_now_get Ledger.st_kv_now_set Ledger.st_kv_saved_get Ledger.st_kv_saved_set Ledger.st_tree_leaves_get Ledger.st_tree_leaves_set Ledger.past_ring_get Ledger.past_ring_set Ledger.past_closed_get Ledger.past_closed_set Ledger.begun_kv_get Ledger.begun_kv_set Ledger.begun_tree_get Ledger.begun_tree_set Ledger.begun_stale_get Ledger.begun_stale_set Ledger.begun_touched_get Ledger.begun_touched_set Ledger.begun_kv_now_get Ledger.begun_kv_now_set Ledger.begun_kv_saved_get Ledger.begun_kv_saved_set Ledger.begun_tree_leaves_get Ledger.begun_tree_leaves_set Purse.length_enc Purse.ok_enc Purse.all_get Purse.all_set Purse.st_get Purse.st_set Purse.n_get Purse.n_set Purse.account_get Purse.account_set Purse.token_get Purse.token_set Purse.amount_get Purse.amount_set Plan.length_enc Plan.ok_enc Plan.all_get Plan.all_set Plan.purse_get Plan.purse_set Plan.nonce_get Plan.nonce_set Plan.gasUsed_get Plan.gasUsed_set Plan.fees_get Plan.fees_set Plan.hasSupply_get Plan.hasSupply_set Plan.token_get Plan.token_set Plan.supply_get Plan.supply_set Plan.flowAt_get Plan.flowAt_set Plan.flow_get Plan.flow_set Plan.receipt_get Plan.receipt_set Plan.purse_st_get Plan.purse_st_set Plan.purse_n_get Plan.purse_n_set Plan.purse_account_get Plan.purse_account_set Plan.purse_token_get Plan.purse_token_set Plan.purse_amount_get Plan.purse_amount_set Plan.receipt_code_get Plan.receipt_code_set Plan.receipt_hash_get Plan.receipt_hash_set Plan.receipt_index_get Plan.receipt_index_set Plan.receipt_gas_get Plan.receipt_gas_set Plan.receipt_fee_get Plan.receipt_fee_set Plan.receipt_hasSent_get Plan.receipt_hasSent_set Plan.receipt_sent_get Plan.receipt_sent_set Plan.receipt_hasTook_get Plan.receipt_hasTook_set Plan.receipt_took_get Plan.receipt_took_set Plan.receipt_sent_kind_get Plan.receipt_sent_kind_set Plan.receipt_sent_from__get Plan.receipt_sent_from__set Plan.receipt_sent_to__get Plan.receipt_sent_to__set Plan.receipt_sent_sender_get Plan.receipt_sent_sender_set Plan.receipt_sent_receiver_get Plan.receipt_sent_receiver_set Plan.receipt_sent_seq_get Plan.receipt_sent_seq_set Plan.receipt_sent_token_get Plan.receipt_sent_token_set Plan.receipt_sent_amount_get Plan.receipt_sent_amount_set Plan.receipt_sent_size_get Plan.receipt_sent_size_set Plan.receipt_sent_payload_get Plan.receipt_sent_payload_set Plan.receipt_took_kind_get Plan.receipt_took_kind_set Plan.receipt_took_from__get Plan.receipt_took_from__set Plan.receipt_took_to__get Plan.receipt_took_to__set Plan.receipt_took_sender_get Plan.receipt_took_sender_set Plan.receipt_took_receiver_get Plan.receipt_took_receiver_set Plan.receipt_took_seq_get Plan.receipt_took_seq_set Plan.receipt_took_token_get Plan.receipt_took_token_set Plan.receipt_took_amount_get Plan.receipt_took_amount_set Plan.receipt_took_size_get Plan.receipt_took_size_set Plan.receipt_took_payload_get Plan.receipt_took_payload_set Move.length_enc Move.ok_enc Move.all_get Move.all_set Move.account_get Move.account_set Move.token_get Move.token_set Move.down_get Move.down_set Move.amount_get Move.amount_set Books.length_enc Books.ok_enc Books.all_get Books.all_set Books.sums_get Books.sums_set Books.stored_get Books.stored_set Books.marks_get Books.marks_set Pair.length_enc Pair.ok_enc Pair.all_get Pair.all_set Pair.key_get Pair.key_set Pair.value_get Pair.value_set
attribute [local go_sem] size_put size_ext blk_put free_put blk_alloc free_alloc blk_drew free_drew blk_ext free_ext lookOr_some putOr_some segAt_some cellAt_some storeIn_some put_put put_alloc_new length_arr ok_arr_u8 ok_arr_u32 ok_arr_u64 ok_arr_i64 ok_arr_sl cellsV_agg cellsV_int cellsV_bool cellsV_string cellsV_pointer cellsV_slice cellsV_sl ok_int ok_bool ok_string ok_pointer ok_slice ok_sl toList_arr seg_arr set_arr nth_splice nth_splice0 seg_splice seg_splice0 splice_splice splice_splice0 length_splice_if
attribute [local go_sem ↓] execOp_box
attribute [local go_sem] box_run nth_arr_u8 put_arr_u8 blk_drewN free_drewN put_drewN blk_raw free_raw
theorem add_addr (b o n : Nat) : (⟨b, o, none⟩ : Addr).add n = ⟨b, o + n, none⟩ := by
  unfold Addr.add; split
  · simp_all
  · rfl
/-- Where an appended row lies: where it lay, or in a new block. -/
theorem append_block_gen {P : Program} (w : World) (base : Nat) (t ty e : TypeId) (i : TypeInfo) (z : Value) (size bytes : Nat) (ht : P.underlying t = some (.slice e)) (hi : P.info? e = some i) (hz : i.zero = some z)
    (hsize : i.size = size) (hby : i.bytes = bytes) (hzs : z.cells.size = size) (hsz : 0 < size)
    (v : Value) (n : Nat) (xs : List Value) (hown : w.ownsRow base e size v n xs)
    (a : Addr) (m c : Nat) (news : List Value) (hl : news.length = m * size) (hnews : ∀ j u, news[j]? = some u → w.cell? (a.add j) = some u) (h1 : ∀ u ∈ news, u.oneCell' = true)
    (h63 : n + m ≤ maxLen) (hbytes : (n + m) * bytes ≤ 140737488355328) (v' : Value) (w' : World) (hrun : (Builtin.append_ #[t, t] ty #[v, .slice (some a) m c]).run P w = .ok v' w') :
    v'.ownBlock = v.ownBlock ∨ v'.ownBlock = some w.heap.size := by
  subst hsize
  subst hby
  have hsmall : n + m ≤ 9223372036854775807 := by simp only [maxLen] at h63; omega
  rcases hown.2 with ⟨rfl, rfl⟩ | ⟨g, cap, cur, rfl, hbg, hg, hnc, hcm, hcs, htake⟩
  · by_cases hm : m = 0
    · subst hm
      have hn : news = [] := List.eq_nil_of_length_eq_zero (by simpa using hl)
      subst hn
      have hr : (Builtin.append_ #[t, t] ty #[.slice none 0 0, .slice (some a) 0 c]).run P w = .ok (.slice none 0 0) w := by
        simp [Builtin.append_, run_underlying ht, sizeOf, typeInfo, hi, Builtin.lenOf, Builtin.firstCells, loadCells, loadCellsFrom]
      rw [hr] at hrun
      injection hrun with h2 h3
      subst h2
      exact .inl rfl
    · have hr := run_append_nil (P := P) w t ty e i z ht hi hz a m c news hl hnews (by omega) (by omega) (by have hb := hbytes; simp only [Nat.zero_add] at hb; omega)
      rw [hr] at hrun
      injection hrun with h2 h3
      subst h2
      exact .inr rfl
  · by_cases hroom : n + m ≤ cap
    · have hfit : n * i.size + news.length ≤ cur.size := by rw [hl, hcs, ← Nat.add_mul]; exact Nat.mul_le_mul_right _ hroom
      have hr := run_append_room (P := P) w t ty e i ht hi g n cap cur hg a m c news hl hnews h1 hroom hfit
      rw [hr] at hrun
      injection hrun with h2 h3
      subst h2
      exact .inl rfl
    · have holds : ∀ j u, xs[j]? = some u → w.cell? ((⟨g, 0, none⟩ : Addr).add j) = some u := hown.cells (g := g) rfl
      have hr := run_append_grow (P := P) w t ty e i z ht hi hz ⟨g, 0, none⟩ n cap xs hown.1 holds a m c news hl hnews (by omega) (by omega) (growslice_fits (by omega) hbytes)
      rw [hr] at hrun
      injection hrun with h2 h3
      subst h2
      exact .inr rfl
def makeOp (t : TypeId) (l c : Value) : Sem Next := do pure (.value (← Instr.makeSlice t l c))
theorem execOp_make (a : Act) (dst : Option Tmp) (t : TypeId) (l c : Operand) (ty : TypeId) (pos : String) (after : Array Edge) (guard : Option (Nat × Bool)) :
    execOp a.eval { dst, op := .makeSlice t l c, type := ty, pos, after, guard } = makeOp t (a.eval l) (a.eval c) := rfl
theorem wp_append_run {P : Program} {w : World} {o : Oper} {a : Act} {K : Act → World → Prop} {Q : Exit → Act → World → Prop} (s x : Operand) (t : TypeId)
    (ho : o.op = .call { callee := .builtin .append, args := #[s, x], argTypes := #[t, t] }) (v u v' : Value) (w' : World) (hs : a.eval s = v) (hx : a.eval x = u) (hr : (Builtin.append_ #[t, t] o.type #[v, u]).run P w = .ok v' w') (h : K (a.put o.dst v') w') : o.wp P a w K Q := by
  unfold Oper.wp execOp
  simp only [ho, resolve, invoke, builtin, Sem.run_bind, Sem.run_pure, Result.andThen_ok, List.map_toArray, List.map_cons, List.map_nil, hs, hx, hr]
  exact h
theorem row_keep {B : Nat} {W W' : World} {e : TypeId} {size : Nat} {v : Value} {n : Nat} {xs : List Value} (h : W.ownsRow B e size v n xs) (hw : ∀ k, v.ownBlock = some k → W'.heap[k]? = W.heap[k]?) : W'.ownsRow B e size v n xs := by
  obtain ⟨h1, h2 | ⟨g, cap, cur, e1, e2, e3, e4⟩⟩ := h
  · exact ⟨h1, .inl h2⟩
  · exact ⟨h1, .inr ⟨g, cap, cur, e1, e2, by rw [hw g (by rw [e1]; rfl)]; exact e3, e4⟩⟩
theorem row_at {B : Nat} {W : World} {e : TypeId} {size : Nat} {v : Value} {n : Nat} {xs : List Value} (h : W.ownsRow B e size v n xs) (k : Nat) (hk : v.ownBlock = some k) : B ≤ k ∧ k < W.heap.size ∧ ∃ cur fz, W.heap[k]? = some (.cells cur e fz) := by
  obtain ⟨h1, h2 | ⟨g, cap, cur, e1, e2, e3, e4⟩⟩ := h
  · rw [h2.1] at hk; simp [Value.ownBlock] at hk
  · rw [e1] at hk
    simp [Value.ownBlock] at hk
    subst hk
    exact ⟨e2, (Array.getElem?_eq_some_iff.1 e3).1, cur, _, e3⟩
theorem wpList_append_run {w : World} {ops : Array Oper} {rest : List Oper} {o : Oper} {a : Act} {Q : Exit → Act → World → Prop} (hgd : o.guard = none) (s x : Operand) (t : TypeId)
    (ho : o.op = .call { callee := .builtin .append, args := #[s, x], argTypes := #[t, t] }) (v u v' : Value) (w' : World) (hs : a.eval s = v) (hx : a.eval x = u) (hr : (Builtin.append_ #[t, t] o.type #[v, u]).run Tryz.prog w = .ok v' w')
    (hK : wpList Tryz.prog ops Q rest (a.put o.dst v') w') : wpList Tryz.prog ops Q (o :: rest) a w := by
  refine wpList_plain hgd fun K hK' => ?_
  unfold Oper.wp
  simp [execOp, ho, resolve, invoke, builtin, hs, hx, hr, Result.andThen]
  exact hK' _ _ hK
def bsliceOp (t : TypeId) (len : Nat) (parts : Array (Nat × Value)) : Sem Next := do pure (.value (← Instr.buildSlice t len parts))
theorem execOp_bslice (a : Act) (dst : Option Tmp) (t : TypeId) (len : Nat) (parts : Array (Nat × Operand)) (ty : TypeId) (pos : String) (after : Array Edge) (guard : Option (Nat × Bool)) :
    execOp a.eval { dst, op := .buildSlice t len parts, type := ty, pos, after, guard } = bsliceOp t len (parts.map fun (i, x) => (i, a.eval x)) := rfl
theorem row_val {B : Nat} {W : World} {e : TypeId} {size : Nat} {v : Value} {n : Nat} {xs : List Value} (h : W.ownsRow B e size v n xs) : ∃ a c, v = .slice a n c := by
  obtain ⟨h1, h2 | ⟨g, cap, cur, e1, e2⟩⟩ := h
  · exact ⟨none, 0, by rw [h2.1, h2.2]⟩
  · exact ⟨_, cap, e1⟩

theorem grown_ext {w W W' : World} {r : Option Nat} (h : w.Extends W) (hg : W.grownBy W' r) (hr : ∀ k, r = some k → w.heap.size ≤ k) : w.Extends W' := h.grown hg hr
theorem seg_in {C D : List Value} {o n p m : Nat} (h : seg C o n = D) (hp : p + m ≤ n) : seg C (o + p) m = seg D p m := by
  subst h
  unfold seg
  rw [List.drop_take, List.take_take, List.drop_drop, Nat.min_eq_left (by omega)]
theorem nth_in {C D : List Value} {o n j : Nat} {v : Value} (h : seg C o n = D) (hv : nth D j = some v) (hj : j < n) : nth C (o + j) = some v := by
  subst h
  unfold nth seg at *
  rw [List.getElem?_take, if_pos hj, List.getElem?_drop] at hv
  exact hv
/-- A row of things in memory. -/
def At {α : Type} (e : α → List Value) (sz : Nat) (W : World) (b o : Nat) (a : Option Addr) (n : Nat) (L : List α) : Prop :=
  L.length = n ∧ (n ≠ 0 → a = some ⟨b, o, none⟩ ∧ ∃ C, blk W b = some C ∧ o + n * sz ≤ C.length ∧ ∀ i x, L[i]? = some x → seg C (o + i * sz) sz = e x)
theorem At.mono {α : Type} {e : α → List Value} {sz : Nat} {W W' : World} {b o : Nat} {a : Option Addr} {n : Nat} {L : List α} (h : At e sz W b o a n L) (hb : n ≠ 0 → blk W' b = blk W b) : At e sz W' b o a n L := by
  refine ⟨h.1, fun h0 => ?_⟩
  obtain ⟨h1, C, h2, h3⟩ := h.2 h0
  exact ⟨h1, C, (hb h0).trans h2, h3⟩
theorem At.get {α : Type} {e : α → List Value} {sz : Nat} {W : World} {b o : Nat} {a : Option Addr} {n : Nat} {L : List α} (h : At e sz W b o a n L) {i : Nat} (hi : i < n) : ∃ x C, L[i]? = some x ∧ a = some ⟨b, o, none⟩ ∧ blk W b = some C ∧ o + n * sz ≤ C.length ∧ seg C (o + i * sz) sz = e x := by
  obtain ⟨h1, C, h2, h3, h4⟩ := h.2 (by omega)
  have hx : L[i]? = some (L[i]'(by rw [h.1]; exact hi)) := List.getElem?_eq_getElem _
  exact ⟨_, C, hx, h1, h2, h3, h4 i _ hx⟩
theorem seg_flatG {α : Type} (e : α → List Value) (sz : Nat) (hsz : ∀ x, (e x).length = sz) : ∀ (K : List α) (j : Nat) (x : α), K[j]? = some x → seg (K.flatMap e) (j * sz) sz = e x
  | [], j, x, h => by simp at h
  | y :: K, 0, x, h => by
    obtain rfl : y = x := by simpa using h
    rw [List.flatMap_cons]
    unfold seg
    rw [Nat.zero_mul, List.drop_zero, List.take_append_of_le_length (by rw [hsz]; omega)]
    exact List.take_of_length_le (by rw [hsz]; omega)
  | y :: K, j + 1, x, h => by
    have ih := seg_flatG e sz hsz K j x (by simpa using h)
    rw [List.flatMap_cons]
    unfold seg at ih ⊢
    rw [show (j + 1) * sz = (e y).length + j * sz by rw [hsz, Nat.add_mul]; omega, ← List.drop_drop, List.drop_left]
    exact ih
/-- An own row, as a row in memory. -/
theorem own_at {α : Type} {e : α → List Value} {sz : Nat} (hsz : ∀ x, (e x).length = sz) {B : Nat} {W : World} {ty : TypeId} {v : Value} {K : List α} (h : W.ownsRow B ty sz v K.length (K.flatMap e)) : ∃ a b c, v = .slice a K.length c ∧ c ≤ maxLen ∧ K.length ≤ c ∧ (K.length ≠ 0 → B ≤ b ∧ W.heap[b]?.map (fun o => match o with | .cells _ t z => (t, z) | _ => (0, (1, 1))) = some (ty, (0, 0))) ∧ At e sz W b 0 a K.length K ∧ (∀ k, v.ownBlock = some k → k = b) := by
  obtain ⟨h1, h2 | ⟨g, cap, cur, e1, e2, e3, e4, e5, e6, e7⟩⟩ := h
  · refine ⟨none, 0, 0, ?_, Nat.zero_le _, by rw [h2.2]; omega, fun h0 => absurd h2.2 h0, ⟨rfl, fun h0 => absurd h2.2 h0⟩, fun k hk => ?_⟩
    · rw [h2.1, h2.2]
    · rw [h2.1] at hk; simp [Value.ownBlock] at hk
  · refine ⟨_, g, cap, e1, e5, e4, fun _ => ⟨e2, by rw [e3]; rfl⟩, ⟨rfl, fun _ => ⟨rfl, cur.toList, blk_mk e3, ?_, fun i x hx => ?_⟩⟩, fun k hk => ?_⟩
    · have hcl : cur.toList.length = cap * sz := by rw [Array.length_toList]; exact e6
      have hle : K.length * sz ≤ cap * sz := Nat.mul_le_mul_right _ e4
      omega
    · have h3 := seg_flatG e sz hsz K i x hx
      have hi : i < K.length := (List.getElem?_eq_some_iff.1 hx).1
      rw [← e7] at h3
      rw [← h3, Nat.zero_add]
      unfold seg
      have hm : (i + 1) * sz ≤ K.length * sz := Nat.mul_le_mul_right _ hi
      rw [Nat.add_mul] at hm
      rw [List.drop_take, List.take_take, Nat.min_eq_left (by omega)]
    · rw [e1] at hk
      simp [Value.ownBlock] at hk
      exact hk.symm
/-- One thing appended to an own row. -/
theorem appG {α : Type} (en : α → List Value) (sz bytes : Nat) (t e : TypeId) (ht : Tryz.prog.underlying t = some (.slice e)) (hinfo : ∃ i z, Tryz.prog.info? e = some i ∧ i.zero = some z ∧ i.size = sz ∧ i.bytes = bytes ∧ z.cells.size = sz) (hln : ∀ x, (en x).length = sz) (hone : ∀ x, (en x).all (fun v => v.oneCell') = true) (hsz : 0 < sz) (hb1 : bytes ≤ 1000)
    (base : Nat) (w : World) (ty : TypeId) (v : Value) (K : List α) (x : α) (g c : Nat) (h : w.ownsRow base e sz v K.length (K.flatMap en)) (hg : blk w g = some (en x)) (hb : base ≤ w.heap.size) (hl : K.length ≤ 10000000000) :
    ∃ v' w', (Builtin.append_ #[t, t] ty #[v, .slice (some ⟨g, 0, none⟩) 1 c]).run Tryz.prog w = .ok v' w' ∧ w'.ownsRow base e sz v' (K ++ [x]).length ((K ++ [x]).flatMap en) ∧ w.grownBy w' v.ownBlock ∧ (v'.ownBlock = v.ownBlock ∨ v'.ownBlock = some w.heap.size) := by
  obtain ⟨i, z, hi, hz, hsz', hby, hzc⟩ := hinfo
  have hnews : ∀ j u, (en x)[j]? = some u → w.cell? ((⟨g, 0, none⟩ : Addr).add j) = some u := fun j u hu => by
    rw [add_addr, cell_blk hg, Nat.zero_add]
    exact hu
  have hone' : ∀ u ∈ en x, u.oneCell' = true := fun u hu => List.all_eq_true.1 (hone x) u hu
  have hby2 : (K.length + 1) * bytes ≤ 140737488355328 := Nat.le_trans (Nat.mul_le_mul (show K.length + 1 ≤ 10000000001 by omega) hb1) (by decide)
  obtain ⟨v', w', hr, h1, h2, _⟩ := run_append_own (P := Tryz.prog) w base t ty e i _ sz bytes ht hi hz hsz' hby hzc hsz v K.length _ h ⟨g, 0, none⟩ 1 c (en x) (by rw [hln]; omega) hnews hone' (by simp only [maxLen]; omega) hby2 hb
  refine ⟨v', w', hr, ?_, h2, ?_⟩
  · rw [List.length_append, List.flatMap_append]
    simpa using h1
  · exact append_block_gen (P := Tryz.prog) w base t ty e i _ sz bytes ht hi hz hsz' hby hzc hsz v K.length _ h ⟨g, 0, none⟩ 1 c (en x) (by rw [hln]; omega) hnews hone' (by simp only [maxLen]; omega) hby2 v' w' hr
theorem info5 : ∃ i z, Tryz.prog.info? 5 = some i ∧ i.zero = some z ∧ i.size = 1 ∧ i.bytes = 1 ∧ z.cells.size = 1 := by
  have hq : (Tryz.prog.info? 5).map (fun i => (i.zero, i.size, i.bytes)) = some (some (.int .u8 0), 1, 1) := by kernel_rfl
  cases hx : Tryz.prog.info? 5 with
  | none => rw [hx] at hq; simp at hq
  | some i =>
    rw [hx] at hq
    simp only [Option.map_some, Option.some.injEq, Prod.mk.injEq] at hq
    exact ⟨i, _, rfl, hq.1, hq.2.1, hq.2.2, by rfl⟩
theorem info9 : ∃ i z, Tryz.prog.info? 9 = some i ∧ i.zero = some z ∧ i.size = 1 ∧ i.bytes = 16 ∧ z.cells.size = 1 := by
  have hq : (Tryz.prog.info? 9).map (fun i => (i.zero, i.size, i.bytes)) = some (some (.string ⟨#[]⟩), 1, 16) := by kernel_rfl
  cases hx : Tryz.prog.info? 9 with
  | none => rw [hx] at hq; simp at hq
  | some i =>
    rw [hx] at hq
    simp only [Option.map_some, Option.some.injEq, Prod.mk.injEq] at hq
    exact ⟨i, _, rfl, hq.1, hq.2.1, hq.2.2, by rfl⟩
theorem splice_nth {C : List Value} {o : Nat} {v : Value} (h : o < C.length) (k : Nat) : nth (splice C o [v]) k = if k = o then some v else nth C k := by
  unfold nth splice
  have h1 : (C.take o).length = o := by rw [List.length_take]; omega
  rw [List.append_assoc]
  by_cases hk : k < o
  · rw [if_neg (by omega), List.getElem?_append_left (by omega), List.getElem?_take, if_pos hk]
  · rw [List.getElem?_append_right (by omega), h1]
    by_cases hk2 : k = o
    · subst hk2
      rw [if_pos rfl, Nat.sub_self]
      rfl
    · rw [if_neg hk2, List.getElem?_append_right (by simp; omega), List.getElem?_drop]
      congr 1
      simp
      omega
theorem seg_nth (C : List Value) (o n : Nat) (j : Nat) : (seg C o n)[j]? = if j < n then nth C (o + j) else none := by
  unfold seg nth
  rw [List.getElem?_take, List.getElem?_drop]
theorem seg_splice_off {C : List Value} {o p n : Nat} {v : Value} (h : o < C.length) (hd : o < p ∨ p + n ≤ o) : seg (splice C o [v]) p n = seg C p n := by
  apply List.ext_getElem?
  intro j
  rw [seg_nth, seg_nth]
  split
  · rw [splice_nth h, if_neg (by omega)]
  · rfl
theorem seg_splice_in {C D : List Value} {p n j : Nat} {v : Value} (h : seg C p n = D) (hl : p + n ≤ C.length) (hj : j < n) : seg (splice C (p + j) [v]) p n = splice D j [v] := by
  have hD : D.length = n := by rw [← h]; unfold seg; simp; omega
  apply List.ext_getElem?
  intro k
  rw [seg_nth]
  have e : (splice D j [v])[k]? = nth (splice D j [v]) k := rfl
  rw [e, splice_nth (by omega), splice_nth (by omega)]
  by_cases hk : k < n
  · rw [if_pos hk]
    by_cases hkj : k = j
    · rw [if_pos (by omega), if_pos hkj]
    · rw [if_neg (by omega), if_neg hkj]
      have := seg_nth C p n k
      rw [h, if_pos hk] at this
      exact this.symm
  · rw [if_neg hk, if_neg (by omega)]
    exact (List.getElem?_eq_none (by omega)).symm
theorem length_splice1 {C : List Value} {o : Nat} {v : Value} (h : o < C.length) : (splice C o [v]).length = C.length := length_splice C o [v] (by simp; omega)
/-- What may change, beside new blocks. -/
structure Side (D : Nat → Prop) (w w' : World) : Prop where
  os : w'.os = w.os
  tape : w'.tape = w.tape
  output : w'.output = w.output
  size : w.heap.size ≤ w'.heap.size
  block : ∀ k, k < w.heap.size → ¬ D k → w'.heap[k]? = w.heap[k]?
theorem Side.refl (D : Nat → Prop) (w : World) : Side D w w := ⟨rfl, rfl, rfl, Nat.le_refl _, fun _ _ _ => rfl⟩
theorem Side.trans {D : Nat → Prop} {w w' w'' : World} (h : Side D w w') (h' : Side D w' w'') : Side D w w'' :=
  ⟨h'.os.trans h.os, h'.tape.trans h.tape, h'.output.trans h.output, Nat.le_trans h.size h'.size, fun k hk hd => (h'.block k (Nat.lt_of_lt_of_le hk h.size) hd).trans (h.block k hk hd)⟩
theorem Side.of_extends {D : Nat → Prop} {w w' : World} (h : w.Extends w') : Side D w w' := ⟨h.os, h.tape, h.output, h.size, fun k hk _ => h.block k hk⟩
theorem Side.put {D : Nat → Prop} {w w' : World} (h : Side D w w') {b : Nat} (hb : D b) (C : List Value) : Side D w (Blk.put w' b C) := by
  refine ⟨h.os, h.tape, h.output, by rw [size_put]; exact h.size, fun k hk hd => ?_⟩
  rw [heap_put, if_neg (fun e : k = b => hd (by rw [e]; exact hb))]
  exact h.block k hk hd
theorem Side.drewN {D : Nat → Prop} {w w' : World} (h : Side D w w') (n : Nat) : Side D w (w'.drewN n) := ⟨h.os, h.tape, h.output, h.size, h.block⟩
theorem Side.drew {D : Nat → Prop} {w w' : World} (h : Side D w w') : Side D w w'.drew := ⟨h.os, h.tape, h.output, h.size, h.block⟩
theorem Side.mono {D D' : Nat → Prop} {w w' : World} (h : Side D w w') (hd : ∀ k, D k → D' k) : Side D' w w' := ⟨h.os, h.tape, h.output, h.size, fun k hk hn => h.block k hk fun h1 => hn (hd k h1)⟩
theorem Side.blk {D : Nat → Prop} {w w' : World} (h : Side D w w') {k : Nat} (hk : k < w.heap.size) (hd : ¬ D k) : blk w' k = blk w k := blk_of_heap (h.block k hk hd)
theorem Side.extends {D : Nat → Prop} {w0 w w' : World} (h : Side D w w') (he : w0.Extends w) (hd : ∀ k, D k → w0.heap.size ≤ k) : w0.Extends w' := by
  have hb : ∀ i, i < w0.heap.size → w'.heap[i]? = w0.heap[i]? := fun i hi => (h.block i (Nat.lt_of_lt_of_le hi he.size) (fun h1 => by have := hd i h1; omega)).trans (he.block i hi)
  exact ⟨h.os.trans he.os, h.tape.trans he.tape, h.output.trans he.output, Nat.le_trans he.size h.size, fun a ha => World.cell?_of_block (hb _ ha), fun a ha => World.frozen?_of_block (hb _ ha), hb⟩
theorem least_of {p : Nat → Prop} : ∀ n, p n → ∃ k, p k ∧ ∀ m, m < k → ¬ p m := fun n => by
  induction n using Nat.strongRecOn with
  | ind n ih =>
    intro hn
    by_cases h : ∃ m, m < n ∧ p m
    · obtain ⟨m, h1, h2⟩ := h
      exact ih m h1 h2
    · exact ⟨n, hn, fun m hm hp => h ⟨m, hm, hp⟩⟩
open Classical in
noncomputable def leastN (p : Nat → Prop) : Nat := if h : ∃ k, p k ∧ ∀ m, m < k → ¬ p m then Classical.choose h else 0
theorem leastN_spec {p : Nat → Prop} {n : Nat} (h : p n) : p (leastN p) ∧ leastN p ≤ n := by
  have hx := least_of n h
  unfold leastN
  rw [dif_pos hx]
  have hs := Classical.choose_spec hx
  exact ⟨hs.1, Nat.le_of_not_lt fun hlt => hs.2 n hlt h⟩
/-- A loop whose relation carries its own measure. -/
theorem wp_loop_ix {P : Program} {c : Code} {Q : Exit → Act → World → Prop} {T : Array Value} {w : World} (N : Nat) (I : Nat → (Nat → Value) → World → Prop) (n0 : Nat) (hN : T.size = N) (h0 : I n0 (slots T) w)
    (round : ∀ n f w, I n f w → ∀ μ : (Nat → Value) → World → Nat, Hid (∀ m f' w', I m f' w' → m < n → μ f' w' < μ f w) → c.wp P (Exit.then (RoundEnd N (fun f w => ∃ n, I n f w) μ f w) Q) ⟨frameN N f, []⟩ w) :
    (Code.loop c).wp P Q ⟨T, []⟩ w := by
  refine wp_loop_f N (fun f w => ∃ n, I n f w) (fun f w => leastN fun n => I n f w) hN ⟨n0, h0⟩ ?_
  rintro f w ⟨n, hI⟩
  refine round (leastN fun n => I n f w) f w (leastN_spec (p := fun n => I n f w) hI).1 _ ?_
  intro m f' w' hm hlt
  exact Nat.lt_of_le_of_lt (leastN_spec (p := fun n => I n f' w') hm).2 hlt
def buildOp (t : TypeId) (parts : Array (Nat × Value)) : Sem Next := do pure (.value (← Instr.build t parts))
theorem execOp_build (a : Act) (dst : Option Tmp) (t : TypeId) (parts : Array (Nat × Operand)) (ty : TypeId) (pos : String) (after : Array Edge) (guard : Option (Nat × Bool)) :
    execOp a.eval { dst, op := .build t parts, type := ty, pos, after, guard } = buildOp t (parts.map fun (i, x) => (i, a.eval x)) := rfl
def sliceOp (t : TypeId) (x : Value) (lo hi mx : Option Value) : Sem Next := do pure (.value (← Instr.sliceAt t x lo hi mx))
theorem execOp_slice (a : Act) (dst : Option Tmp) (t : TypeId) (x : Operand) (lo hi mx : Option Operand) (ty : TypeId) (pos : String) (after : Array Edge) (guard : Option (Nat × Bool)) :
    execOp a.eval { dst, op := .slice t x lo hi mx, type := ty, pos, after, guard } = sliceOp t (a.eval x) (lo.map a.eval) (hi.map a.eval) (mx.map a.eval) := rfl
def cutA (a : Option Addr) (l c : Nat) : Option Addr := if c = l then a else a.map (·.add l)
theorem cutA_zero (a : Option Addr) (c : Nat) : cutA a 0 c = a := by
  unfold cutA; split
  · rfl
  · cases a with
    | none => rfl
    | some x => simp [Addr.add]
theorem slice_lo {P : Program} {t e : TypeId} (hu : P.underlying t = some (.slice e)) (hs : (P.info? e).map (·.size) = some 1) (w : World) (a : Option Addr) (len cap l : Nat) (h : l ≤ len) :
    (sliceOp t (.slice a len cap) (some (.int .i64 (l : Int))) none none).run P w = .ok (.value (.slice (cutA a l cap) (len - l) (cap - l))) w := by
  cases hi : P.info? e with
  | none => simp [hi] at hs
  | some i =>
    have h1 : i.size = 1 := by simpa [hi] using hs
    have h2 : (0 : Int) ≤ l ∧ (l : Int) ≤ len := by omega
    simp [sliceOp, Instr.sliceAt, Instr.slice, Instr.sliceBounds, Instr.sliceBound, run_underlying hu, asIntOf, sizeOf, typeInfo, hi, h1, h2, cutA, h]
theorem slice_hi {P : Program} {t e : TypeId} (hu : P.underlying t = some (.slice e)) (hs : (P.info? e).map (·.size) = some 1) (w : World) (a : Option Addr) (len cap l : Nat) (h : l ≤ cap) :
    (sliceOp t (.slice a len cap) none (some (.int .i64 (l : Int))) none).run P w = .ok (.value (.slice a l cap)) w := by
  cases hi : P.info? e with
  | none => simp [hi] at hs
  | some i =>
    have h1 : i.size = 1 := by simpa [hi] using hs
    have h2 : (0 : Int) ≤ l ∧ (l : Int) ≤ cap := by omega
    have h3 := cutA_zero a cap
    simp only [cutA, Option.map] at h3
    simp [sliceOp, Instr.sliceAt, Instr.slice, Instr.sliceBounds, Instr.sliceBound, run_underlying hu, asIntOf, sizeOf, typeInfo, hi, h1, h2, h]
    cases a with
    | none => simp
    | some x => simp [Addr.add]
theorem slice_lohi {P : Program} {t e : TypeId} (hu : P.underlying t = some (.slice e)) (hs : (P.info? e).map (·.size) = some 1) (w : World) (a : Option Addr) (len cap l h : Nat) (h1 : l ≤ h) (h2 : h ≤ cap) :
    (sliceOp t (.slice a len cap) (some (.int .i64 (l : Int))) (some (.int .i64 (h : Int))) none).run P w = .ok (.value (.slice (cutA a l cap) (h - l) (cap - l))) w := by
  cases hi : P.info? e with
  | none => simp [hi] at hs
  | some i =>
    have q1 : i.size = 1 := by simpa [hi] using hs
    have q2 : (0 : Int) ≤ h ∧ (h : Int) ≤ cap := by omega
    have q3 : (0 : Int) ≤ l ∧ (l : Int) ≤ h := by omega
    simp [sliceOp, Instr.sliceAt, Instr.slice, Instr.sliceBounds, Instr.sliceBound, run_underlying hu, asIntOf, sizeOf, typeInfo, hi, q1, q2, q3, cutA, h1, h2]
def bv (xs : List UInt8) : List Value := xs.map u8v
theorem length_bv (xs : List UInt8) : (bv xs).length = xs.length := by simp [bv]
end Go.Proofs.Qxb6500786aGreat
