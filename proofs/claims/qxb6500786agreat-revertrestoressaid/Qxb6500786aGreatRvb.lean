import Derived.DeepKeys2
import Derived.Test.Qxb6500786aGreatOd
import Derived.Test.Qxb6500786aGreatTyc
import Derived.Test.Qxb6500786aGreatBg
import Derived.Test.Qxb6500786aGreatNr

import Derived.StillTailTactics
import Derived.Deep.QuietTactic
import Derived.BigQuiet
import Derived.Deep.RegionHeld
import Derived.Deep.CutRange
import Derived.Laws.ResultCell
import Derived.Laws.Rows
import Derived.DeepKeys
import Derived.DataBytes
import Derived.Laws.StructEq
import Derived.Laws.AppendOwn
import Derived.Laws.MakeOwn
import Derived.Lib.AppendStr
set_option linter.unusedSimpArgs false
set_option linter.unusedVariables false
namespace Go.Proofs.Qxb6500786aGreat
open Go.RowKit Go.Blk
attribute [local go_sem ↓] execOp_load execOp_store execOp_alloc
attribute [local go_sem] Tryz.ld24 Tryz.st24 Tryz.ld36 Tryz.st36 Tryz.ld28 Tryz.st28 Tryz.ld32 Tryz.st32 Tryz.ld33 Tryz.st33 Tryz.ld34 Tryz.st34 Tryz.ld5 Tryz.st5 Tryz.ld31 Tryz.st31 Tryz.ld30 Tryz.st30 Tryz.ld41 Tryz.st41 Tryz.ld44 Tryz.st44 Tryz.ld4 Tryz.st4 Tryz.ld173 Tryz.st173 Tryz.ld174 Tryz.st174 Tryz.ld95 Tryz.st95 Tryz.ld45 Tryz.st45 Tryz.ld207 Tryz.st207 Tryz.ld3 Tryz.st3 Tryz.ld189 Tryz.st189 Tryz.ld2 Tryz.st2 Tryz.ld9 Tryz.st9 Tryz.ld12 Tryz.st12 Tryz.ld21 Tryz.st21 Tryz.ld22 Tryz.st22 Tryz.ld46 Tryz.st46 Tryz.ld92 Tryz.st92 Tryz.ld94 Tryz.st94 Tryz.ld96 Tryz.st96 Tryz.ld97 Tryz.st97 Tryz.ld105 Tryz.st105 Tryz.ld117 Tryz.st117 Tryz.ld122 Tryz.st122 Tryz.ld123 Tryz.st123 Tryz.ld133 Tryz.st133 Tryz.ld155 Tryz.st155 Tryz.ld163 Tryz.st163 Tryz.ld190 Tryz.st190 Tryz.ld197 Tryz.st197 Tryz.ld201 Tryz.st201 Tryz.ld202 Tryz.st202 Tryz.ld209 Tryz.st209 Tryz.ld216 Tryz.st216 Tryz.ld230 Tryz.st230 Tryz.ld238 Tryz.st238 Tryz.ld242 Tryz.st242 Tryz.ld251 Tryz.st251 Tryz.ld260 Tryz.st260 Tryz.ld286 Tryz.st286 Tryz.ld292 Tryz.st292 Tryz.ld298 Tryz.st298 Tryz.ld309 Tryz.st309 Tryz.ld35 Tryz.st35 Tryz.ld48 Tryz.st48 Tryz.ld47 Tryz.st47 Tryz.ld79 Tryz.st79 Tryz.ld177 Tryz.st177 Tryz.ld180 Tryz.st180 Tryz.ld231 Tryz.st231 Tryz.ld232 Tryz.st232 Tryz.ld26 Tryz.st26 Tryz.ld38 Tryz.st38 Tryz.ld40 Tryz.st40 Tryz.ld43 Tryz.st43 Tryz.ld50 Tryz.st50 Tryz.ld52 Tryz.st52 Tryz.ld54 Tryz.st54 Tryz.ld81 Tryz.st81 Tryz.ld112 Tryz.st112 Tryz.ld120 Tryz.st120 Tryz.ld176 Tryz.st176 Tryz.ld179 Tryz.st179 Tryz.ld182 Tryz.st182 Tryz.ld184 Tryz.st184 Tryz.ld234 Tryz.st234 Tryz.ld236 Tryz.st236 Tryz.ld240 Tryz.st240 Tryz.ld246 Tryz.st246 Tryz.ld249 Tryz.st249 Tryz.al35 Tryz.al48 Tryz.al47 Tryz.al79 Tryz.al177 Tryz.al180 Tryz.al231 Tryz.al232 Tryz.al26 Tryz.al38 Tryz.al40 Tryz.al43 Tryz.al50 Tryz.al52 Tryz.al54 Tryz.al81 Tryz.al112 Tryz.al120 Tryz.al176 Tryz.al179 Tryz.al182 Tryz.al184 Tryz.al234 Tryz.al236 Tryz.al240 Tryz.al246 Tryz.al249
attribute [local go_sem] Player.length_enc Player.ok_enc Player.all_get Player.all_set Player.hand_get Player.hand_set Player.aside_get Player.aside_set Message.length_enc Message.ok_enc Message.all_get Message.all_set Message.kind_get Message.kind_set Message.from__get Message.from__set Message.to__get Message.to__set Message.sender_get Message.sender_set Message.receiver_get Message.receiver_set Message.seq_get Message.seq_set Message.token_get Message.token_set Message.amount_get Message.amount_set Message.size_get Message.size_set Message.payload_get Message.payload_set Tx.length_enc Tx.ok_enc Tx.all_get Tx.all_set Tx.kind_get Tx.kind_set Tx.chain_get Tx.chain_set Tx.from__get Tx.from__set Tx.nonce_get Tx.nonce_set Tx.fee_get Tx.fee_set Tx.to__get Tx.to__set Tx.dest_get Tx.dest_set Tx.token_get Tx.token_set Tx.amount_get Tx.amount_set Tx.size_get Tx.size_set Tx.payload_get Tx.payload_set Tx.msg_get Tx.msg_set Tx.msg_kind_get Tx.msg_kind_set Tx.msg_from__get Tx.msg_from__set Tx.msg_to__get Tx.msg_to__set Tx.msg_sender_get Tx.msg_sender_set Tx.msg_receiver_get Tx.msg_receiver_set Tx.msg_seq_get Tx.msg_seq_set Tx.msg_token_get Tx.msg_token_set Tx.msg_amount_get Tx.msg_amount_set Tx.msg_size_get Tx.msg_size_set Tx.msg_payload_get Tx.msg_payload_set GOp.length_enc GOp.ok_enc GOp.all_get GOp.all_set GOp.kind_get GOp.kind_set GOp.tx_get GOp.tx_set GOp.txs_get GOp.txs_set GOp.gas_get GOp.gas_set GOp.acct_get GOp.acct_set GOp.token_get GOp.token_set GOp.chain_get GOp.chain_set GOp.seq_get GOp.seq_set GOp.tx_kind_get GOp.tx_kind_set GOp.tx_chain_get GOp.tx_chain_set GOp.tx_from__get GOp.tx_from__set GOp.tx_nonce_get GOp.tx_nonce_set GOp.tx_fee_get GOp.tx_fee_set GOp.tx_to__get GOp.tx_to__set GOp.tx_dest_get GOp.tx_dest_set GOp.tx_token_get GOp.tx_token_set GOp.tx_amount_get GOp.tx_amount_set GOp.tx_size_get GOp.tx_size_set GOp.tx_payload_get GOp.tx_payload_set GOp.tx_msg_get GOp.tx_msg_set GOp.tx_msg_kind_get GOp.tx_msg_kind_set GOp.tx_msg_from__get GOp.tx_msg_from__set GOp.tx_msg_to__get GOp.tx_msg_to__set GOp.tx_msg_sender_get GOp.tx_msg_sender_set GOp.tx_msg_receiver_get GOp.tx_msg_receiver_set GOp.tx_msg_seq_get GOp.tx_msg_seq_set GOp.tx_msg_token_get GOp.tx_msg_token_set GOp.tx_msg_amount_get GOp.tx_msg_amount_set GOp.tx_msg_size_get GOp.tx_msg_size_set GOp.tx_msg_payload_get GOp.tx_msg_payload_set Summary.length_enc Summary.ok_enc Summary.all_get Summary.all_set Summary.height_get Summary.height_set Summary.txs_get Summary.txs_set Summary.gas_get Summary.gas_set Summary.fees_get Summary.fees_set Summary.sent_get Summary.sent_set Summary.took_get Summary.took_set Summary.minted_get Summary.minted_set Summary.burned_get Summary.burned_set Summary.root_get Summary.root_set Detail.length_enc Detail.ok_enc Detail.all_get Detail.all_set Detail.code_get Detail.code_set Detail.have__get Detail.have__set Detail.need_get Detail.need_set Slot.length_enc Slot.ok_enc Slot.all_get Slot.all_set Slot.nonce_get Slot.nonce_set Slot.balances_get Slot.balances_set Tree.length_enc Tree.ok_enc Tree.all_get Tree.all_set Tree.leaves_get Tree.leaves_set Mark.length_enc Mark.ok_enc Mark.all_get Mark.all_set Mark.from__get Mark.from__set Mark.seq_get Mark.seq_set Receipt.length_enc Receipt.ok_enc Receipt.all_get Receipt.all_set Receipt.code_get Receipt.code_set Receipt.hash_get Receipt.hash_set Receipt.index_get Receipt.index_set Receipt.gas_get Receipt.gas_set Receipt.fee_get Receipt.fee_set Receipt.hasSent_get Receipt.hasSent_set Receipt.sent_get Receipt.sent_set Receipt.hasTook_get Receipt.hasTook_set Receipt.took_get Receipt.took_set Receipt.sent_kind_get Receipt.sent_kind_set Receipt.sent_from__get Receipt.sent_from__set Receipt.sent_to__get Receipt.sent_to__set Receipt.sent_sender_get Receipt.sent_sender_set Receipt.sent_receiver_get Receipt.sent_receiver_set Receipt.sent_seq_get Receipt.sent_seq_set Receipt.sent_token_get Receipt.sent_token_set Receipt.sent_amount_get Receipt.sent_amount_set Receipt.sent_size_get Receipt.sent_size_set Receipt.sent_payload_get Receipt.sent_payload_set Receipt.took_kind_get Receipt.took_kind_set Receipt.took_from__get Receipt.took_from__set Receipt.took_to__get Receipt.took_to__set Receipt.took_sender_get Receipt.took_sender_set Receipt.took_receiver_get Receipt.took_receiver_set Receipt.took_seq_get Receipt.took_seq_set Receipt.took_token_get Receipt.took_token_set Receipt.took_amount_get Receipt.took_amount_set Receipt.took_size_get Receipt.took_size_set Receipt.took_payload_get Receipt.took_payload_set Store.length_enc Store.ok_enc Store.all_get Store.all_set Store.now_get Store.now_set Store.saved_get Store.saved_set GState.length_enc GState.ok_enc GState.all_get GState.all_set GState.kv_get GState.kv_set GState.tree_get GState.tree_set GState.stale_get GState.stale_set GState.touched_get GState.touched_set GState.kv_now_get GState.kv_now_set GState.kv_saved_get GState.kv_saved_set GState.tree_leaves_get GState.tree_leaves_set History.length_enc History.ok_enc History.all_get History.all_set History.ring_get History.ring_set History.closed_get History.closed_set Ledger.length_enc Ledger.ok_enc Ledger.all_get Ledger.all_set Ledger.chain_get Ledger.chain_set Ledger.st_get Ledger.st_set Ledger.height_get Ledger.height_set Ledger.open__get Ledger.open__set Ledger.gasLimit_get Ledger.gasLimit_set Ledger.past_get Ledger.past_set Ledger.begun_get Ledger.begun_set Ledger.sent_get Ledger.sent_set Ledger.took_get Ledger.took_set Ledger.receipts_get Ledger.receipts_set Ledger.st_kv_get Ledger.st_kv_set Ledger.st_tree_get Ledger.st_tree_set Ledger.st_stale_get Ledger.st_stale_set Ledger.st_touched_get Ledger.st_touched_set Ledger.st_kv_now_get Ledger.st_kv_now_set Ledger.st_kv_saved_get Ledger.st_kv_saved_set Ledger.st_tree_leaves_get Ledger.st_tree_leaves_set Ledger.past_ring_get Ledger.past_ring_set Ledger.past_closed_get Ledger.past_closed_set Ledger.begun_kv_get Ledger.begun_kv_set Ledger.begun_tree_get Ledger.begun_tree_set Ledger.begun_stale_get Ledger.begun_stale_set Ledger.begun_touched_get Ledger.begun_touched_set Ledger.begun_kv_now_get Ledger.begun_kv_now_set Ledger.begun_kv_saved_get Ledger.begun_kv_saved_set Ledger.begun_tree_leaves_get Ledger.begun_tree_leaves_set Purse.length_enc Purse.ok_enc Purse.all_get Purse.all_set Purse.st_get Purse.st_set Purse.n_get Purse.n_set Purse.account_get Purse.account_set Purse.token_get Purse.token_set Purse.amount_get Purse.amount_set Plan.length_enc Plan.ok_enc Plan.all_get Plan.all_set Plan.purse_get Plan.purse_set Plan.nonce_get Plan.nonce_set Plan.gasUsed_get Plan.gasUsed_set Plan.fees_get Plan.fees_set Plan.hasSupply_get Plan.hasSupply_set Plan.token_get Plan.token_set Plan.supply_get Plan.supply_set Plan.flowAt_get Plan.flowAt_set Plan.flow_get Plan.flow_set Plan.receipt_get Plan.receipt_set Plan.purse_st_get Plan.purse_st_set Plan.purse_n_get Plan.purse_n_set Plan.purse_account_get Plan.purse_account_set Plan.purse_token_get Plan.purse_token_set Plan.purse_amount_get Plan.purse_amount_set Plan.receipt_code_get Plan.receipt_code_set Plan.receipt_hash_get Plan.receipt_hash_set Plan.receipt_index_get Plan.receipt_index_set Plan.receipt_gas_get Plan.receipt_gas_set Plan.receipt_fee_get Plan.receipt_fee_set Plan.receipt_hasSent_get Plan.receipt_hasSent_set Plan.receipt_sent_get Plan.receipt_sent_set Plan.receipt_hasTook_get Plan.receipt_hasTook_set Plan.receipt_took_get Plan.receipt_took_set Plan.receipt_sent_kind_get Plan.receipt_sent_kind_set Plan.receipt_sent_from__get Plan.receipt_sent_from__set Plan.receipt_sent_to__get Plan.receipt_sent_to__set Plan.receipt_sent_sender_get Plan.receipt_sent_sender_set Plan.receipt_sent_receiver_get Plan.receipt_sent_receiver_set Plan.receipt_sent_seq_get Plan.receipt_sent_seq_set Plan.receipt_sent_token_get Plan.receipt_sent_token_set Plan.receipt_sent_amount_get Plan.receipt_sent_amount_set Plan.receipt_sent_size_get Plan.receipt_sent_size_set Plan.receipt_sent_payload_get Plan.receipt_sent_payload_set Plan.receipt_took_kind_get Plan.receipt_took_kind_set Plan.receipt_took_from__get Plan.receipt_took_from__set Plan.receipt_took_to__get Plan.receipt_took_to__set Plan.receipt_took_sender_get Plan.receipt_took_sender_set Plan.receipt_took_receiver_get Plan.receipt_took_receiver_set Plan.receipt_took_seq_get Plan.receipt_took_seq_set Plan.receipt_took_token_get Plan.receipt_took_token_set Plan.receipt_took_amount_get Plan.receipt_took_amount_set Plan.receipt_took_size_get Plan.receipt_took_size_set Plan.receipt_took_payload_get Plan.receipt_took_payload_set Move.length_enc Move.ok_enc Move.all_get Move.all_set Move.account_get Move.account_set Move.token_get Move.token_set Move.down_get Move.down_set Move.amount_get Move.amount_set Books.length_enc Books.ok_enc Books.all_get Books.all_set Books.sums_get Books.sums_set Books.stored_get Books.stored_set Books.marks_get Books.marks_set Pair.length_enc Pair.ok_enc Pair.all_get Pair.all_set Pair.key_get Pair.key_set Pair.value_get Pair.value_set
attribute [local go_sem] size_put size_ext blk_put free_put blk_alloc free_alloc blk_drew free_drew blk_ext free_ext lookOr_some putOr_some segAt_some cellAt_some storeIn_some put_put put_alloc_new length_arr ok_arr_u8 ok_arr_u32 ok_arr_u64 ok_arr_i64 ok_arr_sl cellsV_agg cellsV_int cellsV_bool cellsV_string cellsV_pointer cellsV_slice cellsV_sl ok_int ok_bool ok_string ok_pointer ok_slice ok_sl toList_arr seg_arr set_arr nth_splice nth_splice0 seg_splice seg_splice0 splice_splice splice_splice0 length_splice_if
attribute [local go_sem ↓] execOp_box
attribute [local go_sem] box_run nth_arr_u8 put_arr_u8 blk_drewN free_drewN put_drewN blk_raw free_raw
/-- An element type of a row, larger ones too. -/
structure ElV {α : Type} (en : α → List Value) (sz bytes : Nat) (t e : TypeId) : Prop where
  und : Tryz.prog.underlying t = some (.slice e)
  info : ∃ i z, Tryz.prog.info? e = some i ∧ i.zero = some z ∧ i.size = sz ∧ i.bytes = bytes ∧ z.cells.size = sz
  len : ∀ x, (en x).length = sz
  one : ∀ x, (en x).all (fun v => v.oneCell') = true
  pos : 0 < sz
  small : bytes ≤ 3000
/-- Some more are appended to a row of one's own. -/
theorem appV {α : Type} {en : α → List Value} {sz bytes : Nat} {t e : TypeId} (hE : ElV en sz bytes t e) (base : Nat) (w : World) {a : Option Addr} {n c : Nat} (K M : List α) (sp : Option Addr) (cs : Nat) (h : w.ownsRow base e sz (.slice a n c) K.length (K.flatMap en)) (hM : Rw en sz w sp M.length M) (hb : base ≤ w.heap.size) (hl : K.length + M.length ≤ 1000000000) :
    ∃ a' c' w', (Builtin.append_ #[t, t] t #[.slice a n c, .slice sp M.length cs]).run Tryz.prog w = .ok (.slice a' (n + M.length) c') w' ∧ w'.ownsRow base e sz (.slice a' (n + M.length) c') (K ++ M).length ((K ++ M).flatMap en) ∧ w.grownBy w' (Value.slice a n c).ownBlock ∧ (∀ k, (Value.slice a' (n + M.length) c').ownBlock = some k → (Value.slice a n c).ownBlock = some k ∨ w.heap.size ≤ k) := by
  obtain ⟨i, z, hi, hz, hsz', hby, hzc⟩ := hE.info
  have hKn : K.length = n := (rw_own hE.len h).1.1
  by_cases h0 : M = []
  · subst h0
    refine ⟨a, c, w, app_nilG hE.und ⟨i, z, hi, hz, hsz', hzc⟩ t h sp cs, ?_, ⟨rfl, rfl, rfl, Nat.le_refl _, fun _ _ _ => rfl⟩, fun k hk => .inl hk⟩
    rw [List.append_nil]
    exact h
  · obtain ⟨b, C, rfl, hC, hn⟩ := rw_cells hE.len hE.pos hM h0
    have hnews : ∀ j u, (M.flatMap en)[j]? = some u → w.cell? ((⟨b, 0, none⟩ : Addr).add j) = some u := fun j u hu => by
      rw [add_addr, cell_blk hC, Nat.zero_add]
      exact hn j u hu
    have hone' : ∀ u ∈ M.flatMap en, u.oneCell' = true := fun u hu => by
      obtain ⟨x, _, hx⟩ := List.mem_flatMap.1 hu
      exact List.all_eq_true.1 (hE.one x) u hx
    have hfl : ∀ K : List α, (K.flatMap en).length = K.length * sz := fun K => by
      induction K with
      | nil => simp
      | cons x K ih => rw [List.flatMap_cons, List.length_append, hE.len, ih, List.length_cons, Nat.add_mul]; omega
    have hby2 : (K.length + M.length) * bytes ≤ 140737488355328 := Nat.le_trans (Nat.mul_le_mul (show K.length + M.length ≤ 1000000001 by omega) hE.small) (by decide)
    obtain ⟨v', w', hr, h1, hg, _⟩ := run_append_own (P := Tryz.prog) w base t t e i _ sz bytes hE.und hi hz hsz' hby hzc hE.pos (.slice a n c) K.length _ h ⟨b, 0, none⟩ M.length cs (M.flatMap en) (hfl M) hnews hone' (by simp only [maxLen]; omega) hby2 hb
    have hbk := append_block_gen (P := Tryz.prog) w base t t e i _ sz bytes hE.und hi hz hsz' hby hzc hE.pos (.slice a n c) K.length _ h ⟨b, 0, none⟩ M.length cs (M.flatMap en) (hfl M) hnews hone' (by simp only [maxLen]; omega) hby2 v' w' hr
    have ho : w'.ownsRow base e sz v' (K ++ M).length ((K ++ M).flatMap en) := by
      rw [List.length_append, List.flatMap_append]
      exact h1
    obtain ⟨a', c', rfl⟩ := row_val ho
    have hm : (K ++ M).length = n + M.length := by rw [List.length_append, hKn]
    rw [hm] at hr ho hbk
    refine ⟨a', c', w', hr, by rw [hm]; exact ho, hg, fun k hk => ?_⟩
    rcases hbk with hbk | hbk
    · rw [hbk] at hk; exact .inl hk
    · rw [hbk] at hk
      have : w.heap.size = k := Option.some.inj hk
      exact .inr (by omega)
theorem info61 : ∃ i z, Tryz.prog.info? 61 = some i ∧ i.zero = some z ∧ i.size = 343 ∧ i.bytes = 2744 ∧ z.cells.size = 343 := by
  have hq : (Tryz.prog.info? 61).map (fun i => (i.zero, i.size, i.bytes)) = some (some (.agg View.zero.enc.toArray), 343, 2744) := by kernel_rfl
  cases hx : Tryz.prog.info? 61 with
  | none => rw [hx] at hq; simp at hq
  | some i =>
    rw [hx] at hq
    simp only [Option.map_some, Option.some.injEq, Prod.mk.injEq] at hq
    exact ⟨i, _, rfl, hq.1, hq.2.1, hq.2.2, by show (View.zero.enc.toArray).size = 343; rw [List.size_toArray, View.length_enc]⟩
theorem und122 : Tryz.prog.underlying 122 = some (.slice 61) := by kernel_rfl
theorem elv122 : ElV View.enc 343 2744 122 61 := ⟨und122, info61, View.length_enc, View.one_enc, by omega, by omega⟩
theorem elv123 : ElV encD 32 32 123 47 := ⟨und123, info47, encD_len, encD_one, by omega, by omega⟩
end Go.Proofs.Qxb6500786aGreat
namespace Go.Proofs.Qxb6500786aGreat.Kp
open Go.RowKit Go.Blk
section
variable {W : World} {fr : List (Nat × PLg)} {V V' : World} {b1 b2 : Nat} {bx : List (Nat × List Value)} {L1 L2 : PLg} {vs : List Value}
/-- A kept row grows, or new rows are made. -/
theorem TwJ.grow2 (h : TwJ ⟨W, fr, obL V vs⟩ b1 b2 bx L1 L2 V) {v : Value} (hv : ∀ k, v.ownBlock = some k → ∃ u ∈ vs, u.ownBlock = some k) (hwe : W.Extends V') (hsz : V.heap.size ≤ V'.heap.size) (hblk : ∀ k, k < V.heap.size → v.ownBlock ≠ some k → V'.heap[k]? = V.heap[k]?) {vs' : List Value} (hvs : ∀ u ∈ vs', ∀ k, u.ownBlock = some k → (∃ w ∈ vs, w.ownBlock = some k) ∨ V.heap.size ≤ k) : TwJ ⟨W, fr, obL V' vs'⟩ b1 b2 bx L1 L2 V' := by
  by_cases hn : v.ownBlock = none
  · -- nothing is written
    have hadd : TwJ ⟨W, fr, obL V (v :: vs)⟩ b1 b2 bx L1 L2 V := by
      have : obL V (v :: vs) = obL V vs := by
        unfold obL
        rw [List.flatMap_cons]
        have : obOf V v = [] := by unfold obOf; rw [hn]
        rw [this, List.nil_append]
      rw [this]; exact h
    exact hadd.grow (List.mem_cons_self ..) hwe hsz hblk (fun u hu k hk => by
      rcases hvs u hu k hk with ⟨w, hw, e⟩ | e
      · exact .inl ⟨w, List.mem_cons_of_mem _ hw, e⟩
      · exact .inr e)
  · obtain ⟨k, hk⟩ : ∃ k, v.ownBlock = some k := by
      cases hq : v.ownBlock with
      | none => exact absurd hq hn
      | some k => exact ⟨k, rfl⟩
    obtain ⟨u, hu, e⟩ := hv k hk
    exact h.grow hu hwe hsz (fun j hj hne => hblk j hj (by rw [hk, ← e]; exact hne)) hvs
/-- Other rows, in memory that has grown. -/
theorem TwJ.reb2 (h : TwJ ⟨W, fr, obL V vs⟩ b1 b2 bx L1 L2 V) (he : V.Extends V') {vs' : List Value} (hvs : ∀ u ∈ vs', ∀ k, u.ownBlock = some k → (∃ w ∈ vs, w.ownBlock = some k) ∨ V.heap.size ≤ k) : TwJ ⟨W, fr, obL V' vs'⟩ b1 b2 bx L1 L2 V' :=
  h.grow2 (v := .slice none 0 0) (fun k hk => by simp [Value.ownBlock] at hk) (h.we.trans he) he.size (fun k hk _ => he.block k hk) hvs
/-- One more is appended to a kept row. -/
theorem TwJ.appV {α : Type} {en : α → List Value} {sz bytes : Nat} {t e : TypeId} (hE : ElV en sz bytes t e) (h : TwJ ⟨W, fr, obL V vs⟩ b1 b2 bx L1 L2 V) {a : Option Addr} {n c : Nat} {K : List α} (hv : Value.slice a n c ∈ vs) (hR : V.ownsRow W.heap.size e sz (.slice a n c) K.length (K.flatMap en)) (hK : K.length < 1000000000) (x : α) :
    ∃ a' c' V', (Builtin.append_ #[t, t] t #[.slice a n c, .slice (some ⟨V.heap.size, 0, none⟩) 1 1]).run Tryz.prog (V.alloc (.cells (en x).toArray e)) = .ok (.slice a' (n + 1) c') V' ∧ V'.ownsRow W.heap.size e sz (.slice a' (n + 1) c') (K ++ [x]).length ((K ++ [x]).flatMap en) ∧ (∀ k, k < V.heap.size → (Value.slice a n c).ownBlock ≠ some k → V'.heap[k]? = V.heap[k]?) ∧ (∀ k, (Value.slice a' (n + 1) c').ownBlock = some k → (Value.slice a n c).ownBlock = some k ∨ V.heap.size ≤ k) ∧ V.heap.size ≤ V'.heap.size ∧ ∀ vs' : List Value, (∀ u ∈ vs', u = .slice a' (n + 1) c' ∨ u ∈ vs) → TwJ ⟨W, fr, obL V' vs'⟩ b1 b2 bx L1 L2 V' := by
  have hx1 : V.Extends (V.alloc (.cells (en x).toArray e)) := extends_alloc (ext_Ext (Ext.refl _)) _
  have hw1 : W.Extends (V.alloc (.cells (en x).toArray e)) := h.we.trans hx1
  have hR1 := row_keep hR (fun k hk => hx1.block k (row_at hR k hk).2.1)
  have hbk : blk (V.alloc (.cells (en x).toArray e)) V.heap.size = some (en x) := (blk_alloc _ _ _ _).trans (if_pos rfl)
  have hM : Rw en sz (V.alloc (.cells (en x).toArray e)) (some ⟨V.heap.size, 0, none⟩) [x].length [x] := by
    refine ⟨rfl, fun i z hz => ⟨V.heap.size, _, rfl, hbk, ?_, ?_⟩⟩
    · rw [hE.len]; show 1 * sz ≤ _; omega
    · have hi : i = 0 := by
        have := (List.getElem?_eq_some_iff.1 hz).1
        have : i < 1 := this
        omega
      subst hi
      have hzx : x = z := Option.some.inj hz
      subst hzx
      rw [Nat.zero_mul]
      exact seg_all _ _ (hE.len x)
  obtain ⟨a', c', V', hr, hO, hg, hown⟩ := Qxb6500786aGreat.appV hE W.heap.size (V.alloc (.cells (en x).toArray e)) K [x] (some ⟨V.heap.size, 0, none⟩) 1 hR1 hM hw1.size (by show K.length + 1 ≤ _; omega)
  have hwe : W.Extends V' := grown_ext hw1 hg (fun k hk => (row_at hR1 k hk).1)
  have hblk : ∀ k, k < V.heap.size → (Value.slice a n c).ownBlock ≠ some k → V'.heap[k]? = V.heap[k]? := fun k hk hn => (hg.block k (Nat.lt_of_lt_of_le hk hx1.size) (fun q => hn q.symm)).trans (hx1.block k hk)
  have hsz : V.heap.size ≤ V'.heap.size := Nat.le_trans hx1.size hg.size
  have hown' : ∀ k, (Value.slice a' (n + 1) c').ownBlock = some k → (Value.slice a n c).ownBlock = some k ∨ V.heap.size ≤ k := fun k hk => by
    rcases hown k hk with q | q
    · exact .inl q
    · exact .inr (Nat.le_trans hx1.size q)
  refine ⟨a', c', V', hr, hO, hblk, hown', hsz, fun vs' hvs => h.grow hv hwe hsz hblk (fun u hu k hk => ?_)⟩
  rcases hvs u hu with rfl | hu
  · rcases hown' k hk with q | q
    · exact .inl ⟨_, hv, q⟩
    · exact .inr q
  · exact .inl ⟨u, hu, hk⟩
end
end Go.Proofs.Qxb6500786aGreat.Kp
namespace Go.Proofs.Qxb6500786aGreat
end Go.Proofs.Qxb6500786aGreat
