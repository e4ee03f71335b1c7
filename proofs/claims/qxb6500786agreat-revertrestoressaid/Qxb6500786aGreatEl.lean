
import Derived.Test.Qxb6500786aGreatOw
import Derived.StillTailTactics
import Derived.Deep.QuietTactic
import Derived.BigQuiet
import Derived.Deep.RegionHeld
import Derived.Deep.CutRange
import Derived.Laws.ResultCell
import Derived.Laws.Rows
import Derived.DeepKeys
import Derived.DataBytes
import Derived.Laws.StructEq
import Derived.Laws.AppendOwn
import Derived.Laws.MakeOwn
import Derived.Lib.AppendStr
set_option linter.unusedSimpArgs false
set_option linter.unusedVariables false
namespace Go.Proofs.Qxb6500786aGreat
open Go.RowKit Go.Blk
attribute [local go_sem ↓] execOp_load execOp_store execOp_alloc
attribute [local go_sem] Tryz.ld24 Tryz.st24 Tryz.ld36 Tryz.st36 Tryz.ld28 Tryz.st28 Tryz.ld32 Tryz.st32 Tryz.ld33 Tryz.st33 Tryz.ld34 Tryz.st34 Tryz.ld5 Tryz.st5 Tryz.ld31 Tryz.st31 Tryz.ld30 Tryz.st30 Tryz.ld41 Tryz.st41 Tryz.ld44 Tryz.st44 Tryz.ld4 Tryz.st4 Tryz.ld173 Tryz.st173 Tryz.ld174 Tryz.st174 Tryz.ld95 Tryz.st95 Tryz.ld45 Tryz.st45 Tryz.ld207 Tryz.st207 Tryz.ld3 Tryz.st3 Tryz.ld189 Tryz.st189 Tryz.ld2 Tryz.st2 Tryz.ld9 Tryz.st9 Tryz.ld12 Tryz.st12 Tryz.ld21 Tryz.st21 Tryz.ld22 Tryz.st22 Tryz.ld46 Tryz.st46 Tryz.ld92 Tryz.st92 Tryz.ld94 Tryz.st94 Tryz.ld96 Tryz.st96 Tryz.ld97 Tryz.st97 Tryz.ld105 Tryz.st105 Tryz.ld117 Tryz.st117 Tryz.ld122 Tryz.st122 Tryz.ld123 Tryz.st123 Tryz.ld133 Tryz.st133 Tryz.ld155 Tryz.st155 Tryz.ld163 Tryz.st163 Tryz.ld190 Tryz.st190 Tryz.ld197 Tryz.st197 Tryz.ld201 Tryz.st201 Tryz.ld202 Tryz.st202 Tryz.ld209 Tryz.st209 Tryz.ld216 Tryz.st216 Tryz.ld230 Tryz.st230 Tryz.ld238 Tryz.st238 Tryz.ld242 Tryz.st242 Tryz.ld251 Tryz.st251 Tryz.ld260 Tryz.st260 Tryz.ld286 Tryz.st286 Tryz.ld292 Tryz.st292 Tryz.ld298 Tryz.st298 Tryz.ld309 Tryz.st309 Tryz.ld35 Tryz.st35 Tryz.ld48 Tryz.st48 Tryz.ld47 Tryz.st47 Tryz.ld79 Tryz.st79 Tryz.ld177 Tryz.st177 Tryz.ld180 Tryz.st180 Tryz.ld231 Tryz.st231 Tryz.ld232 Tryz.st232 Tryz.ld26 Tryz.st26 Tryz.ld38 Tryz.st38 Tryz.ld40 Tryz.st40 Tryz.ld43 Tryz.st43 Tryz.ld50 Tryz.st50 Tryz.ld52 Tryz.st52 Tryz.ld54 Tryz.st54 Tryz.ld81 Tryz.st81 Tryz.ld112 Tryz.st112 Tryz.ld120 Tryz.st120 Tryz.ld176 Tryz.st176 Tryz.ld179 Tryz.st179 Tryz.ld182 Tryz.st182 Tryz.ld184 Tryz.st184 Tryz.ld234 Tryz.st234 Tryz.ld236 Tryz.st236 Tryz.ld240 Tryz.st240 Tryz.ld246 Tryz.st246 Tryz.ld249 Tryz.st249 Tryz.al35 Tryz.al48 Tryz.al47 Tryz.al79 Tryz.al177 Tryz.al180 Tryz.al231 Tryz.al232 Tryz.al26 Tryz.al38 Tryz.al40 Tryz.al43 Tryz.al50 Tryz.al52 Tryz.al54 Tryz.al81 Tryz.al112 Tryz.al120 Tryz.al176 Tryz.al179 Tryz.al182 Tryz.al184 Tryz.al234 Tryz.al236 Tryz.al240 Tryz.al246 Tryz.al249
attribute [local go_sem] Player.length_enc Player.ok_enc Player.all_get Player.all_set Player.hand_get Player.hand_set Player.aside_get Player.aside_set Message.length_enc Message.ok_enc Message.all_get Message.all_set Message.kind_get Message.kind_set Message.from__get Message.from__set Message.to__get Message.to__set Message.sender_get Message.sender_set Message.receiver_get Message.receiver_set Message.seq_get Message.seq_set Message.token_get Message.token_set Message.amount_get Message.amount_set Message.size_get Message.size_set Message.payload_get Message.payload_set Tx.length_enc Tx.ok_enc Tx.all_get Tx.all_set Tx.kind_get Tx.kind_set Tx.chain_get Tx.chain_set Tx.from__get Tx.from__set Tx.nonce_get Tx.nonce_set Tx.fee_get Tx.fee_set Tx.to__get Tx.to__set Tx.dest_get Tx.dest_set Tx.token_get Tx.token_set Tx.amount_get Tx.amount_set Tx.size_get Tx.size_set Tx.payload_get Tx.payload_set Tx.msg_get Tx.msg_set Tx.msg_kind_get Tx.msg_kind_set Tx.msg_from__get Tx.msg_from__set Tx.msg_to__get Tx.msg_to__set Tx.msg_sender_get Tx.msg_sender_set Tx.msg_receiver_get Tx.msg_receiver_set Tx.msg_seq_get Tx.msg_seq_set Tx.msg_token_get Tx.msg_token_set Tx.msg_amount_get Tx.msg_amount_set Tx.msg_size_get Tx.msg_size_set Tx.msg_payload_get Tx.msg_payload_set GOp.length_enc GOp.ok_enc GOp.all_get GOp.all_set GOp.kind_get GOp.kind_set GOp.tx_get GOp.tx_set GOp.txs_get GOp.txs_set GOp.gas_get GOp.gas_set GOp.acct_get GOp.acct_set GOp.token_get GOp.token_set GOp.chain_get GOp.chain_set GOp.seq_get GOp.seq_set GOp.tx_kind_get GOp.tx_kind_set GOp.tx_chain_get GOp.tx_chain_set GOp.tx_from__get GOp.tx_from__set GOp.tx_nonce_get GOp.tx_nonce_set GOp.tx_fee_get GOp.tx_fee_set GOp.tx_to__get GOp.tx_to__set GOp.tx_dest_get GOp.tx_dest_set GOp.tx_token_get GOp.tx_token_set GOp.tx_amount_get GOp.tx_amount_set GOp.tx_size_get GOp.tx_size_set GOp.tx_payload_get GOp.tx_payload_set GOp.tx_msg_get GOp.tx_msg_set GOp.tx_msg_kind_get GOp.tx_msg_kind_set GOp.tx_msg_from__get GOp.tx_msg_from__set GOp.tx_msg_to__get GOp.tx_msg_to__set GOp.tx_msg_sender_get GOp.tx_msg_sender_set GOp.tx_msg_receiver_get GOp.tx_msg_receiver_set GOp.tx_msg_seq_get GOp.tx_msg_seq_set GOp.tx_msg_token_get GOp.tx_msg_token_set GOp.tx_msg_amount_get GOp.tx_msg_amount_set GOp.tx_msg_size_get GOp.tx_msg_size_set GOp.tx_msg_payload_get GOp.tx_msg_payload_set Summary.length_enc Summary.ok_enc Summary.all_get Summary.all_set Summary.height_get Summary.height_set Summary.txs_get Summary.txs_set Summary.gas_get Summary.gas_set Summary.fees_get Summary.fees_set Summary.sent_get Summary.sent_set Summary.took_get Summary.took_set Summary.minted_get Summary.minted_set Summary.burned_get Summary.burned_set Summary.root_get Summary.root_set Detail.length_enc Detail.ok_enc Detail.all_get Detail.all_set Detail.code_get Detail.code_set Detail.have__get Detail.have__set Detail.need_get Detail.need_set Slot.length_enc Slot.ok_enc Slot.all_get Slot.all_set Slot.nonce_get Slot.nonce_set Slot.balances_get Slot.balances_set Tree.length_enc Tree.ok_enc Tree.all_get Tree.all_set Tree.leaves_get Tree.leaves_set Mark.length_enc Mark.ok_enc Mark.all_get Mark.all_set Mark.from__get Mark.from__set Mark.seq_get Mark.seq_set Receipt.length_enc Receipt.ok_enc Receipt.all_get Receipt.all_set Receipt.code_get Receipt.code_set Receipt.hash_get Receipt.hash_set Receipt.index_get Receipt.index_set Receipt.gas_get Receipt.gas_set Receipt.fee_get Receipt.fee_set Receipt.hasSent_get Receipt.hasSent_set Receipt.sent_get Receipt.sent_set Receipt.hasTook_get Receipt.hasTook_set Receipt.took_get Receipt.took_set Receipt.sent_kind_get Receipt.sent_kind_set Receipt.sent_from__get Receipt.sent_from__set Receipt.sent_to__get Receipt.sent_to__set Receipt.sent_sender_get Receipt.sent_sender_set Receipt.sent_receiver_get Receipt.sent_receiver_set Receipt.sent_seq_get Receipt.sent_seq_set Receipt.sent_token_get Receipt.sent_token_set Receipt.sent_amount_get Receipt.sent_amount_set Receipt.sent_size_get Receipt.sent_size_set Receipt.sent_payload_get Receipt.sent_payload_set Receipt.took_kind_get Receipt.took_kind_set Receipt.took_from__get Receipt.took_from__set Receipt.took_to__get Receipt.took_to__set Receipt.took_sender_get Receipt.took_sender_set Receipt.took_receiver_get Receipt.took_receiver_set Receipt.took_seq_get Receipt.took_seq_set Receipt.took_token_get Receipt.took_token_set Receipt.took_amount_get Receipt.took_amount_set Receipt.took_size_get Receipt.took_size_set Receipt.took_payload_get Receipt.took_payload_set Store.length_enc Store.ok_enc Store.all_get Store.all_set Store.now_get Store.now_set Store.saved_get Store.saved_set GState.length_enc GState.ok_enc GState.all_get GState.all_set GState.kv_get GState.kv_set GState.tree_get GState.tree_set GState.stale_get GState.stale_set GState.touched_get GState.touched_set GState.kv_now_get GState.kv_now_set GState.kv_saved_get GState.kv_saved_set GState.tree_leaves_get GState.tree_leaves_set History.length_enc History.ok_enc History.all_get History.all_set History.ring_get History.ring_set History.closed_get History.closed_set Ledger.length_enc Ledger.ok_enc Ledger.all_get Ledger.all_set Ledger.chain_get Ledger.chain_set Ledger.st_get Ledger.st_set Ledger.height_get Ledger.height_set Ledger.open__get Ledger.open__set Ledger.gasLimit_get Ledger.gasLimit_set Ledger.past_get Ledger.past_set Ledger.begun_get Ledger.begun_set Ledger.sent_get Ledger.sent_set Ledger.took_get Ledger.took_set Ledger.receipts_get Ledger.receipts_set Ledger.st_kv_get Ledger.st_kv_set Ledger.st_tree_get Ledger.st_tree_set Ledger.st_stale_get Ledger.st_stale_set Ledger.st_touched_get Ledger.st_touched_set Ledger.st_kv_now_get Ledger.st_kv_now_set Ledger.st_kv_saved_get Ledger.st_kv_saved_set Ledger.st_tree_leaves_get Ledger.st_tree_leaves_set Ledger.past_ring_get Ledger.past_ring_set Ledger.past_closed_get Ledger.past_closed_set Ledger.begun_kv_get Ledger.begun_kv_set Ledger.begun_tree_get Ledger.begun_tree_set Ledger.begun_stale_get Ledger.begun_stale_set Ledger.begun_touched_get Ledger.begun_touched_set Ledger.begun_kv_now_get Ledger.begun_kv_now_set Ledger.begun_kv_saved_get Ledger.begun_kv_saved_set Ledger.begun_tree_leaves_get Ledger.begun_tree_leaves_set Purse.length_enc Purse.ok_enc Purse.all_get Purse.all_set Purse.st_get Purse.st_set Purse.n_get Purse.n_set Purse.account_get Purse.account_set Purse.token_get Purse.token_set Purse.amount_get Purse.amount_set Plan.length_enc Plan.ok_enc Plan.all_get Plan.all_set Plan.purse_get Plan.purse_set Plan.nonce_get Plan.nonce_set Plan.gasUsed_get Plan.gasUsed_set Plan.fees_get Plan.fees_set Plan.hasSupply_get Plan.hasSupply_set Plan.token_get Plan.token_set Plan.supply_get Plan.supply_set Plan.flowAt_get Plan.flowAt_set Plan.flow_get Plan.flow_set Plan.receipt_get Plan.receipt_set Plan.purse_st_get Plan.purse_st_set Plan.purse_n_get Plan.purse_n_set Plan.purse_account_get Plan.purse_account_set Plan.purse_token_get Plan.purse_token_set Plan.purse_amount_get Plan.purse_amount_set Plan.receipt_code_get Plan.receipt_code_set Plan.receipt_hash_get Plan.receipt_hash_set Plan.receipt_index_get Plan.receipt_index_set Plan.receipt_gas_get Plan.receipt_gas_set Plan.receipt_fee_get Plan.receipt_fee_set Plan.receipt_hasSent_get Plan.receipt_hasSent_set Plan.receipt_sent_get Plan.receipt_sent_set Plan.receipt_hasTook_get Plan.receipt_hasTook_set Plan.receipt_took_get Plan.receipt_took_set Plan.receipt_sent_kind_get Plan.receipt_sent_kind_set Plan.receipt_sent_from__get Plan.receipt_sent_from__set Plan.receipt_sent_to__get Plan.receipt_sent_to__set Plan.receipt_sent_sender_get Plan.receipt_sent_sender_set Plan.receipt_sent_receiver_get Plan.receipt_sent_receiver_set Plan.receipt_sent_seq_get Plan.receipt_sent_seq_set Plan.receipt_sent_token_get Plan.receipt_sent_token_set Plan.receipt_sent_amount_get Plan.receipt_sent_amount_set Plan.receipt_sent_size_get Plan.receipt_sent_size_set Plan.receipt_sent_payload_get Plan.receipt_sent_payload_set Plan.receipt_took_kind_get Plan.receipt_took_kind_set Plan.receipt_took_from__get Plan.receipt_took_from__set Plan.receipt_took_to__get Plan.receipt_took_to__set Plan.receipt_took_sender_get Plan.receipt_took_sender_set Plan.receipt_took_receiver_get Plan.receipt_took_receiver_set Plan.receipt_took_seq_get Plan.receipt_took_seq_set Plan.receipt_took_token_get Plan.receipt_took_token_set Plan.receipt_took_amount_get Plan.receipt_took_amount_set Plan.receipt_took_size_get Plan.receipt_took_size_set Plan.receipt_took_payload_get Plan.receipt_took_payload_set Move.length_enc Move.ok_enc Move.all_get Move.all_set Move.account_get Move.account_set Move.token_get Move.token_set Move.down_get Move.down_set Move.amount_get Move.amount_set Books.length_enc Books.ok_enc Books.all_get Books.all_set Books.sums_get Books.sums_set Books.stored_get Books.stored_set Books.marks_get Books.marks_set Pair.length_enc Pair.ok_enc Pair.all_get Pair.all_set Pair.key_get Pair.key_set Pair.value_get Pair.value_set
attribute [local go_sem] size_put size_ext blk_put free_put blk_alloc free_alloc blk_drew free_drew blk_ext free_ext lookOr_some putOr_some segAt_some cellAt_some storeIn_some put_put put_alloc_new length_arr ok_arr_u8 ok_arr_u32 ok_arr_u64 ok_arr_i64 ok_arr_sl cellsV_agg cellsV_int cellsV_bool cellsV_string cellsV_pointer cellsV_slice cellsV_sl ok_int ok_bool ok_string ok_pointer ok_slice ok_sl toList_arr seg_arr set_arr nth_splice nth_splice0 seg_splice seg_splice0 splice_splice splice_splice0 length_splice_if
attribute [local go_sem ↓] execOp_box
attribute [local go_sem] box_run nth_arr_u8 put_arr_u8 blk_drewN free_drewN put_drewN blk_raw free_raw
theorem row_base {B B' : Nat} {W : World} {e : TypeId} {size : Nat} {v : Value} {n : Nat} {xs : List Value} (h : W.ownsRow B e size v n xs) (hb : B' ≤ B) : W.ownsRow B' e size v n xs := by
  obtain ⟨h1, h2 | ⟨g, cap, cur, e1, e2, e3⟩⟩ := h
  · exact ⟨h1, .inl h2⟩
  · exact ⟨h1, .inr ⟨g, cap, cur, e1, by omega, e3⟩⟩
/-- What may happen while a row v of one's own becomes v': only its block is written, or a new one is made. -/
structure Gro (W W' : World) (v v' : Value) : Prop where
  size : W.heap.size ≤ W'.heap.size
  block : ∀ k, k < W.heap.size → v.ownBlock ≠ some k → W'.heap[k]? = W.heap[k]?
  own : ∀ k, v'.ownBlock = some k → v.ownBlock = some k ∨ W.heap.size ≤ k
/-- An element type of a row. -/
structure ElT {α : Type} (en : α → List Value) (sz bytes : Nat) (t e : TypeId) : Prop where
  und : Tryz.prog.underlying t = some (.slice e)
  info : ∃ i z, Tryz.prog.info? e = some i ∧ i.zero = some z ∧ i.size = sz ∧ i.bytes = bytes ∧ z.cells.size = sz
  len : ∀ x, (en x).length = sz
  one : ∀ x, (en x).all (fun v => v.oneCell') = true
  pos : 0 < sz
  small : bytes ≤ 1000
/-- A row in new memory. -/
def OutG {α : Type} (en : α → List Value) (sz : Nat) (e : TypeId) (W V : World) (a : Option Addr) (n c : Nat) (ts : List α) : Prop := V.ownsRow W.heap.size e sz (.slice a n c) ts.length (ts.flatMap en) ∧ W.Extends V ∧ n = ts.length
section
variable {α : Type} {en : α → List Value} {sz bytes : Nat} {t e : TypeId} {W V V' : World} {a : Option Addr} {n c : Nat} {ts : List α}
theorem OutG.ext (h : OutG en sz e W V a n c ts) (he : V.Extends V') : OutG en sz e W V' a n c ts := by
  refine ⟨?_, h.2.1.trans he, h.2.2⟩
  exact row_keep h.1 (fun k hk => he.block k (row_at h.1 k hk).2.1)
theorem OutG.nil (he : W.Extends V) : OutG en sz e W V none 0 0 [] := ⟨⟨by simp, .inl ⟨rfl, rfl⟩⟩, he, rfl⟩
theorem OutG.made (W V : World) (he : W.Extends V) (A : Array Value) (cap : Nat) (hA : A.size = cap * sz) (hc : cap ≤ 1000000000) : OutG en sz e W (V.alloc (.cells A e)) (some ⟨V.heap.size, 0, none⟩) 0 cap [] := ⟨World.ownsRow_made V A cap he.size (by simp only [maxLen]; omega) hA, extends_alloc he _, rfl⟩
theorem OutG.base {W0 : World} (h : OutG en sz e W0 V a n c ts) (he : W.Extends W0) : OutG en sz e W V a n c ts := ⟨row_base h.1 he.size, he.trans h.2.1, h.2.2⟩
theorem OutG.rw (hE : ElT en sz bytes t e) (h : OutG en sz e W V a n c ts) : Rw en sz V a n ts := (rw_own hE.len h.1).1
theorem OutG.nw (hE : ElT en sz bytes t e) (h : OutG en sz e W V a n c ts) : Rw en sz (newc W.heap.size V) a n ts := (rw_own hE.len h.1).1.tocore (fun b C e' _ => lab_ge (row_at h.1 b (by rw [e']; rfl)).1)
theorem OutG.app (hE : ElT en sz bytes t e) (h : OutG en sz e W V a n c ts) (x : α) (hl : ts.length ≤ 1000000000) (A : Array Value) (hA : A = (en x).toArray) (c1 : Nat) :
    ∃ a' c' V', (Builtin.append_ #[t, t] t #[.slice a n c, .slice (some ⟨V.heap.size, 0, none⟩) 1 c1]).run Tryz.prog (V.alloc (.cells A e)) = .ok (.slice a' (n + 1) c') V' ∧ OutG en sz e W V' a' (n + 1) c' (ts ++ [x]) ∧ Gro V V' (.slice a n c) (.slice a' (n + 1) c') := by
  subst hA
  have hx1 : V.Extends (V.alloc (.cells (en x).toArray e)) := extends_alloc (ext_Ext (Ext.refl _)) _
  have h1 := h.ext hx1
  obtain ⟨v', V', hr, ho, hg, hbk⟩ := appG en sz bytes t e hE.und hE.info hE.len hE.one hE.pos hE.small W.heap.size (V.alloc (.cells (en x).toArray e)) t (.slice a n c) ts x V.heap.size c1 h1.1 ((blk_alloc _ _ _ _).trans (if_pos rfl)) h1.2.1.size (by omega)
  obtain ⟨a', c', rfl⟩ := row_val ho
  have hm : (ts ++ [x]).length = n + 1 := by rw [List.length_append, List.length_singleton, h.2.2]
  rw [hm] at hr hbk
  refine ⟨a', c', V', hr, ⟨by rw [← hm]; exact ho, grown_ext h1.2.1 hg (fun k hk => (row_at h1.1 k hk).1), hm.symm⟩, ?_⟩
  refine ⟨Nat.le_trans hx1.size hg.size, fun k hk hn => (hg.block k (Nat.lt_of_lt_of_le hk hx1.size) (fun e => hn e.symm)).trans (hx1.block k hk), fun k hk => ?_⟩
  rcases hbk with hbk | hbk
  · exact .inl (hbk ▸ hk)
  · right
    rw [hbk] at hk
    have := (Option.some.inj hk).symm
    have := hx1.size
    omega
end
theorem rw_cells {α : Type} {en : α → List Value} {sz : Nat} (hln : ∀ x, (en x).length = sz) (hsz : 0 < sz) {W : World} {sp : Option Addr} {M : List α} (h : Rw en sz W sp M.length M) (hM : M ≠ []) : ∃ b C, sp = some ⟨b, 0, none⟩ ∧ blk W b = some C ∧ ∀ j u, (M.flatMap en)[j]? = some u → nth C j = some u := by
  have hpos : 0 < M.length := List.length_pos_iff.2 hM
  obtain ⟨b, C, e1, e2, e3, -⟩ := h.2 0 _ (List.getElem?_eq_getElem hpos)
  refine ⟨b, C, e1, e2, fun j u hu => ?_⟩
  have hfl : ∀ K : List α, (K.flatMap en).length = K.length * sz := fun K => by
    induction K with
    | nil => simp
    | cons x K ih => rw [List.flatMap_cons, List.length_append, hln, ih, List.length_cons, Nat.add_mul]; omega
  have hj : j < M.length * sz := by
    rw [← hfl]; exact (List.getElem?_eq_some_iff.1 hu).1
  have hi : j / sz < M.length := by rw [Nat.div_lt_iff_lt_mul hsz]; exact hj
  have hr : j % sz < sz := Nat.mod_lt _ hsz
  have hjr : j / sz * sz + j % sz = j := Nat.div_add_mod' j sz
  have hx := List.getElem?_eq_getElem hi
  obtain ⟨b', C', f1, f2, f3, f4⟩ := h.2 _ _ hx
  have eb : b' = b := by rw [e1] at f1; exact (congrArg Addr.block (Option.some.inj f1)).symm
  rw [eb, e2] at f2
  cases f2
  have g1 := seg_flatG en sz hln M _ _ hx
  have g2 : (seg (M.flatMap en) (j / sz * sz) sz)[j % sz]? = some u := by
    rw [seg_nth, if_pos hr, hjr]; exact hu
  rw [g1, ← f4, seg_nth, if_pos hr, hjr] at g2
  exact g2
/-- Nothing appended. -/
theorem app_nilG {sz : Nat} {t e : TypeId} (ht : Tryz.prog.underlying t = some (.slice e)) (hinfo : ∃ i z, Tryz.prog.info? e = some i ∧ i.zero = some z ∧ i.size = sz ∧ z.cells.size = sz) (ty : TypeId) {base : Nat} {w : World} {v : Value} {n : Nat} {xs : List Value} (h : w.ownsRow base e sz v n xs) (sp : Option Addr) (c : Nat) : (Builtin.append_ #[t, t] ty #[v, .slice sp 0 c]).run Tryz.prog w = .ok v w := by
  obtain ⟨i, z, hi, hz, hs, hzc⟩ := hinfo
  have hl0 : ∀ (x : Addr), (loadCells x 0).run Tryz.prog w = .ok #[] w := fun x => by simpa using run_loadCells_list (P := Tryz.prog) w x [] (by simp)
  obtain ⟨_, h | h⟩ := h
  · rw [h.1]
    cases sp <;> simp [Builtin.append_, run_underlying ht, sizeOf, typeInfo, hi, hs, Builtin.lenOf, Builtin.firstCells, hl0, storeCells]
  · obtain ⟨g, cap, cur, h1, _, h2, h3, h4, h5, h6⟩ := h
    rw [h1]
    cases sp <;> simp [Builtin.append_, run_underlying ht, sizeOf, typeInfo, hi, hs, Builtin.lenOf, Builtin.firstCells, h3, hl0, storeCells]
/-- Many things appended to an own row. -/
theorem appM {α : Type} {en : α → List Value} {sz bytes : Nat} {t e : TypeId} (hE : ElT en sz bytes t e) (base : Nat) (w : World) (ty : TypeId) (v : Value) (K M : List α) (sp : Option Addr) (c : Nat) (h : w.ownsRow base e sz v K.length (K.flatMap en)) (hM : Rw en sz w sp M.length M) (hb : base ≤ w.heap.size) (hl : K.length + M.length ≤ 10000000000) :
    ∃ a' n' c' w', (Builtin.append_ #[t, t] ty #[v, .slice sp M.length c]).run Tryz.prog w = .ok (.slice a' n' c') w' ∧ w'.ownsRow base e sz (.slice a' n' c') (K ++ M).length ((K ++ M).flatMap en) ∧ w.grownBy w' v.ownBlock := by
  obtain ⟨i, z, hi, hz, hsz', hby, hzc⟩ := hE.info
  by_cases h0 : M = []
  · subst h0
    obtain ⟨a', c', rfl⟩ := row_val h
    exact ⟨a', K.length, c', w, app_nilG hE.und ⟨i, z, hi, hz, hsz', hzc⟩ ty h sp c, by rw [List.append_nil]; exact h, ⟨rfl, rfl, rfl, Nat.le_refl _, fun _ _ _ => rfl⟩⟩
  · obtain ⟨b, C, rfl, hC, hn⟩ := rw_cells hE.len hE.pos hM h0
    have hnews : ∀ j u, (M.flatMap en)[j]? = some u → w.cell? ((⟨b, 0, none⟩ : Addr).add j) = some u := fun j u hu => by
      rw [add_addr, cell_blk hC, Nat.zero_add]
      exact hn j u hu
    have hone' : ∀ u ∈ M.flatMap en, u.oneCell' = true := fun u hu => by
      obtain ⟨x, _, hx⟩ := List.mem_flatMap.1 hu
      exact List.all_eq_true.1 (hE.one x) u hx
    have hfl : ∀ K : List α, (K.flatMap en).length = K.length * sz := fun K => by
      induction K with
      | nil => simp
      | cons x K ih => rw [List.flatMap_cons, List.length_append, hE.len, ih, List.length_cons, Nat.add_mul]; omega
    have hby2 : (K.length + M.length) * bytes ≤ 140737488355328 := Nat.le_trans (Nat.mul_le_mul (show K.length + M.length ≤ 10000000001 by omega) hE.small) (by decide)
    obtain ⟨v', w', hr, h1, h2, _⟩ := run_append_own (P := Tryz.prog) w base t ty e i _ sz bytes hE.und hi hz hsz' hby hzc hE.pos v K.length _ h ⟨b, 0, none⟩ M.length c (M.flatMap en) (hfl M) hnews hone' (by simp only [maxLen]; omega) hby2 hb
    obtain ⟨a', c', rfl⟩ := row_val h1
    refine ⟨a', _, c', w', hr, ?_, h2⟩
    rw [List.length_append, List.flatMap_append]
    exact h1
theorem splice_set {C : List Value} {i : Nat} (v : Value) (h : i < C.length) : splice C i [v] = C.set i v := by
  unfold splice
  rw [List.set_eq_take_append_cons_drop, if_pos h]
  simp
/-- One thing appended to a labelled row; the bound is on the bytes. -/
theorem appLB {α : Type} {en : α → List Value} {sz bytes : Nat} {t e : TypeId} (hE : ElT en sz bytes t e)
    {B : Nat} {O : Own} {l : Lab} {W : World} (ty : TypeId) {a : Option Addr} {n c : Nat} {K : List α} (x : α) (h : RowL B O l W e sz (.slice a n c) K.length (K.flatMap en)) (hB : B ≤ W.heap.size) (hl : (K.length + 1) * bytes ≤ 140737488355328) (hl2 : K.length + 1 ≤ 1000000000000) (A : Array Value) (hA : A = (en x).toArray) (c1 : Nat) :
    ∃ a' c' W', (Builtin.append_ #[t, t] ty #[.slice a n c, .slice (some ⟨W.heap.size, 0, none⟩) 1 c1]).run Tryz.prog (W.alloc (.cells A e)) = .ok (.slice a' (n + 1) c') W' ∧ RowL B (lab O W.heap.size l) l W' e sz (.slice a' (n + 1) c') (K ++ [x]).length ((K ++ [x]).flatMap en) ∧ Fr (fun y => y = l) O W (lab O W.heap.size l) W' := by
  subst hA
  have hx1 : W.Extends (W.alloc (.cells (en x).toArray e)) := extends_alloc (ext_Ext (Ext.refl _)) _
  have hrow := row_keep h.1 (fun k hk => hx1.block k (row_at h.1 k hk).2.1)
  obtain ⟨i, z, hi, hz, hsz', hby, hzc⟩ := hE.info
  have hg0 : blk (W.alloc (.cells (en x).toArray e)) W.heap.size = some (en x) := (blk_alloc _ _ _ _).trans (if_pos rfl)
  have hnews : ∀ j u, (en x)[j]? = some u → (W.alloc (.cells (en x).toArray e)).cell? ((⟨W.heap.size, 0, none⟩ : Addr).add j) = some u := fun j u hu => by
    rw [add_addr, cell_blk hg0, Nat.zero_add]
    exact hu
  have hone' : ∀ u ∈ en x, u.oneCell' = true := fun u hu => List.all_eq_true.1 (hE.one x) u hu
  obtain ⟨v', W', hr, h1, hg, _⟩ := run_append_own (P := Tryz.prog) (W.alloc (.cells (en x).toArray e)) B t ty e i _ sz bytes hE.und hi hz hsz' hby hzc hE.pos (.slice a n c) K.length _ hrow ⟨W.heap.size, 0, none⟩ 1 c1 (en x) (by rw [hE.len]; omega) hnews hone' (by simp only [maxLen]; omega) hl (Nat.le_trans hB hx1.size)
  have hbk := append_block_gen (P := Tryz.prog) (W.alloc (.cells (en x).toArray e)) B t ty e i _ sz bytes hE.und hi hz hsz' hby hzc hE.pos (.slice a n c) K.length _ hrow ⟨W.heap.size, 0, none⟩ 1 c1 (en x) (by rw [hE.len]; omega) hnews hone' (by simp only [maxLen]; omega) hl v' W' hr
  have ho : W'.ownsRow B e sz v' (K ++ [x]).length ((K ++ [x]).flatMap en) := by
    rw [List.length_append, List.flatMap_append]
    simpa using h1
  obtain ⟨a', c', rfl⟩ := row_val ho
  have hKn : K.length = n := (rw_own hE.len h.1).1.1
  have hm : (K ++ [x]).length = n + 1 := by rw [List.length_append, List.length_singleton, hKn]
  rw [hm] at hr ho hbk
  have hsz1 : W.heap.size ≤ (W.alloc (.cells (en x).toArray e)).heap.size := hx1.size
  refine ⟨a', c', W', hr, ⟨by rw [hm]; exact ho, fun k hk => ?_⟩, ?_⟩
  · rcases hbk with hbk | hbk
    · rw [hbk] at hk
      rw [lab_lt (row_at h.1 k hk).2.1]
      exact h.2 k hk
    · rw [hbk] at hk
      have : k = (W.alloc (.cells (en x).toArray e)).heap.size := (Option.some.inj hk).symm
      exact lab_ge (by omega)
  · have f1 := Fr.of_extends (L := fun y => y = l) (O := O) hx1
    refine ⟨hg.os.trans f1.os, hg.tape.trans f1.tape, hg.output.trans f1.output, Nat.le_trans hsz1 hg.size, fun k hk => lab_lt hk, fun k hk hn => ?_⟩
    exact (hg.block k (by omega) (fun e1 => hn (h.2 k e1.symm))).trans (hx1.block k hk)
/-- Many things appended to a labelled row. -/
theorem appML {α : Type} {en : α → List Value} {sz bytes : Nat} {t e : TypeId} (hE : ElT en sz bytes t e)
    {B : Nat} {O : Own} {l : Lab} {W : World} (ty : TypeId) {a : Option Addr} {n c : Nat} {K : List α} (M : List α) (h : RowL B O l W e sz (.slice a n c) K.length (K.flatMap en)) (hB : B ≤ W.heap.size) (hl : (K.length + M.length) * bytes ≤ 140737488355328) (hl2 : K.length + M.length ≤ 1000000000000) (sp : Option Addr) (cs : Nat) (hM : Rw en sz W sp M.length M) :
    ∃ a' c' W', (Builtin.append_ #[t, t] ty #[.slice a n c, .slice sp M.length cs]).run Tryz.prog W = .ok (.slice a' (n + M.length) c') W' ∧ RowL B (lab O W.heap.size l) l W' e sz (.slice a' (n + M.length) c') (K ++ M).length ((K ++ M).flatMap en) ∧ Fr (fun y => y = l) O W (lab O W.heap.size l) W' := by
  obtain ⟨i, z, hi, hz, hsz', hby, hzc⟩ := hE.info
  have hKn : K.length = n := (rw_own hE.len h.1).1.1
  by_cases h0 : M = []
  · subst h0
    have hF : Fr (fun y => y = l) O W (lab O W.heap.size l) W := ⟨rfl, rfl, rfl, Nat.le_refl _, fun k hk => lab_lt hk, fun _ _ _ => rfl⟩
    refine ⟨a, c, W, app_nilG hE.und ⟨i, z, hi, hz, hsz', hzc⟩ ty h.1 sp cs, ?_, hF⟩
    rw [List.append_nil]
    exact h.keep (fun k hk _ => ⟨rfl, lab_lt hk⟩)
  · obtain ⟨b, C, rfl, hC, hn⟩ := rw_cells hE.len hE.pos hM h0
    have hnews : ∀ j u, (M.flatMap en)[j]? = some u → W.cell? ((⟨b, 0, none⟩ : Addr).add j) = some u := fun j u hu => by
      rw [add_addr, cell_blk hC, Nat.zero_add]
      exact hn j u hu
    have hone' : ∀ u ∈ M.flatMap en, u.oneCell' = true := fun u hu => by
      obtain ⟨x, _, hx⟩ := List.mem_flatMap.1 hu
      exact List.all_eq_true.1 (hE.one x) u hx
    have hfl : ∀ K : List α, (K.flatMap en).length = K.length * sz := fun K => by
      induction K with
      | nil => simp
      | cons x K ih => rw [List.flatMap_cons, List.length_append, hE.len, ih, List.length_cons, Nat.add_mul]; omega
    obtain ⟨v', W', hr, h1, hg, _⟩ := run_append_own (P := Tryz.prog) W B t ty e i _ sz bytes hE.und hi hz hsz' hby hzc hE.pos (.slice a n c) K.length _ h.1 ⟨b, 0, none⟩ M.length cs (M.flatMap en) (hfl M) hnews hone' (by simp only [maxLen]; omega) hl hB
    have hbk := append_block_gen (P := Tryz.prog) W B t ty e i _ sz bytes hE.und hi hz hsz' hby hzc hE.pos (.slice a n c) K.length _ h.1 ⟨b, 0, none⟩ M.length cs (M.flatMap en) (hfl M) hnews hone' (by simp only [maxLen]; omega) hl v' W' hr
    have ho : W'.ownsRow B e sz v' (K ++ M).length ((K ++ M).flatMap en) := by
      rw [List.length_append, List.flatMap_append]
      exact h1
    obtain ⟨a', c', rfl⟩ := row_val ho
    have hm : (K ++ M).length = n + M.length := by rw [List.length_append, hKn]
    rw [hm] at hr ho hbk
    refine ⟨a', c', W', hr, ⟨by rw [hm]; exact ho, fun k hk => ?_⟩, ?_⟩
    · rcases hbk with hbk | hbk
      · rw [hbk] at hk
        rw [lab_lt (row_at h.1 k hk).2.1]
        exact h.2 k hk
      · rw [hbk] at hk
        have : k = W.heap.size := (Option.some.inj hk).symm
        exact lab_ge (by omega)
    · exact ⟨hg.os, hg.tape, hg.output, hg.size, fun k hk => lab_lt hk, fun k hk hn => hg.block k hk (fun e1 => hn (h.2 k e1.symm))⟩
end Go.Proofs.Qxb6500786aGreat
