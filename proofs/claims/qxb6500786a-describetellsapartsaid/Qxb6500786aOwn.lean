import Derived.Test.Qxb6500786aStr2
import Derived.StillTailTactics
import Derived.Deep.QuietTactic
import Derived.BigQuiet
import Derived.Deep.RegionHeld
import Derived.Deep.CutRange
import Derived.Laws.ResultCell
import Derived.Laws.Rows
import Derived.DeepKeys
import Derived.DataBytes
import Derived.Laws.StructEq
import Derived.Laws.AppendOwn
set_option linter.unusedSimpArgs false
set_option linter.unusedVariables false
namespace Go.Proofs.Qxb6500786a
open Go.RowKit Go.Blk
attribute [local go_sem ↓] execOp_load execOp_store execOp_alloc
attribute [local go_sem] Try.ld33 Try.st33 Try.ld24 Try.st24 Try.ld29 Try.st29 Try.ld30 Try.st30 Try.ld31 Try.st31 Try.ld5 Try.st5 Try.ld28 Try.st28 Try.ld27 Try.st27 Try.ld26 Try.st26 Try.ld2 Try.st2 Try.ld3 Try.st3 Try.ld4 Try.st4 Try.ld9 Try.st9 Try.ld12 Try.st12 Try.ld21 Try.st21 Try.ld22 Try.st22 Try.ld41 Try.st41 Try.ld50 Try.st50 Try.ld55 Try.st55 Try.ld63 Try.st63 Try.ld78 Try.st78 Try.ld87 Try.st87 Try.ld91 Try.st91 Try.ld32 Try.st32 Try.ld47 Try.st47 Try.ld52 Try.st52 Try.ld71 Try.st71 Try.ld35 Try.st35 Try.ld37 Try.st37 Try.ld39 Try.st39 Try.al32 Try.al47 Try.al52 Try.al71 Try.al35 Try.al37 Try.al39
attribute [local go_sem] Message.length_enc Message.ok_enc Message.all_get Message.all_set Message.kind_get Message.kind_set Message.from__get Message.from__set Message.to__get Message.to__set Message.sender_get Message.sender_set Message.receiver_get Message.receiver_set Message.seq_get Message.seq_set Message.token_get Message.token_set Message.amount_get Message.amount_set Message.size_get Message.size_set Message.payload_get Message.payload_set Tx.length_enc Tx.ok_enc Tx.all_get Tx.all_set Tx.kind_get Tx.kind_set Tx.chain_get Tx.chain_set Tx.from__get Tx.from__set Tx.nonce_get Tx.nonce_set Tx.fee_get Tx.fee_set Tx.to__get Tx.to__set Tx.dest_get Tx.dest_set Tx.token_get Tx.token_set Tx.amount_get Tx.amount_set Tx.size_get Tx.size_set Tx.payload_get Tx.payload_set Tx.msg_get Tx.msg_set Tx.msg_kind_get Tx.msg_kind_set Tx.msg_from__get Tx.msg_from__set Tx.msg_to__get Tx.msg_to__set Tx.msg_sender_get Tx.msg_sender_set Tx.msg_receiver_get Tx.msg_receiver_set Tx.msg_seq_get Tx.msg_seq_set Tx.msg_token_get Tx.msg_token_set Tx.msg_amount_get Tx.msg_amount_set Tx.msg_size_get Tx.msg_size_set Tx.msg_payload_get Tx.msg_payload_set GOp.length_enc GOp.ok_enc GOp.all_get GOp.all_set GOp.kind_get GOp.kind_set GOp.tx_get GOp.tx_set GOp.txs_get GOp.txs_set GOp.gas_get GOp.gas_set GOp.acct_get GOp.acct_set GOp.token_get GOp.token_set GOp.chain_get GOp.chain_set GOp.seq_get GOp.seq_set GOp.tx_kind_get GOp.tx_kind_set GOp.tx_chain_get GOp.tx_chain_set GOp.tx_from__get GOp.tx_from__set GOp.tx_nonce_get GOp.tx_nonce_set GOp.tx_fee_get GOp.tx_fee_set GOp.tx_to__get GOp.tx_to__set GOp.tx_dest_get GOp.tx_dest_set GOp.tx_token_get GOp.tx_token_set GOp.tx_amount_get GOp.tx_amount_set GOp.tx_size_get GOp.tx_size_set GOp.tx_payload_get GOp.tx_payload_set GOp.tx_msg_get GOp.tx_msg_set GOp.tx_msg_kind_get GOp.tx_msg_kind_set GOp.tx_msg_from__get GOp.tx_msg_from__set GOp.tx_msg_to__get GOp.tx_msg_to__set GOp.tx_msg_sender_get GOp.tx_msg_sender_set GOp.tx_msg_receiver_get GOp.tx_msg_receiver_set GOp.tx_msg_seq_get GOp.tx_msg_seq_set GOp.tx_msg_token_get GOp.tx_msg_token_set GOp.tx_msg_amount_get GOp.tx_msg_amount_set GOp.tx_msg_size_get GOp.tx_msg_size_set GOp.tx_msg_payload_get GOp.tx_msg_payload_set
attribute [local go_sem] size_put size_ext blk_put free_put blk_alloc free_alloc blk_drew free_drew blk_ext free_ext lookOr_some putOr_some segAt_some cellAt_some storeIn_some put_put put_alloc_new length_arr ok_arr_u8 ok_arr_u32 ok_arr_u64 ok_arr_i64 ok_arr_sl cellsV_agg cellsV_int cellsV_bool cellsV_string cellsV_pointer cellsV_slice cellsV_sl ok_int ok_bool ok_string ok_pointer ok_slice ok_sl toList_arr seg_arr set_arr nth_splice nth_splice0 seg_splice seg_splice0 splice_splice splice_splice0 length_splice_if
attribute [local go_sem ↓] execOp_box
attribute [local go_sem] box_run nth_arr_u8 put_arr_u8
def OwnB (base : Nat) (w : World) (v : Value) (xs : List UInt8) : Prop := w.ownsRow base 5 1 v xs.length (bv xs)

theorem append_own (base : Nat) (w : World) (ty : TypeId) (v : Value) (xs ys : List UInt8) (sp : Option Addr) (c : Nat) (h : OwnB base w v xs) (hs : srcB w sp ys.length = some (bv ys)) (hb : base ≤ w.heap.size) (hl : xs.length + ys.length ≤ 70368744177664) :
    ∃ v' w', (Builtin.append_ #[63, 63] ty #[v, .slice sp ys.length c]).run Try.prog w = .ok v' w' ∧ OwnB base w' v' (xs ++ ys) ∧ w.grownBy w' v.ownBlock := by
  obtain ⟨i, hi, hz, hsz, hby⟩ : ∃ i, Try.prog.info? 5 = some i ∧ i.zero = some (.int .u8 0) ∧ i.size = 1 ∧ i.bytes = 1 := by
    have hq : (Try.prog.info? 5).map (fun i => (i.zero, i.size, i.bytes)) = some (some (.int .u8 0), 1, 1) := by kernel_rfl
    cases hx : Try.prog.info? 5 with
    | none => rw [hx] at hq; simp at hq
    | some i =>
      rw [hx] at hq
      simp only [Option.map_some, Option.some.injEq, Prod.mk.injEq] at hq
      exact ⟨i, rfl, hq.1, hq.2.1, hq.2.2⟩
  by_cases h0 : ys = []
  · subst h0
    refine ⟨v, w, ?_, by rw [List.append_nil]; exact h, ⟨rfl, rfl, rfl, Nat.le_refl _, fun _ _ _ => rfl⟩⟩
    have hl0 : ∀ (x : Addr), (loadCells x 0).run Try.prog w = .ok #[] w := fun x => by simpa using run_loadCells_list (P := Try.prog) w x [] (by simp)
    obtain ⟨_, h | h⟩ := h
    · rw [h.1]
      cases sp <;> simp [Builtin.append_, run_underlying Try.underlying63, sizeOf, typeInfo, hi, hsz, Builtin.lenOf, Builtin.firstCells, hl0, storeCells]
    · obtain ⟨g, cap, cur, rfl, h1, h2, h3, h4, h5, h6⟩ := h
      cases sp <;> simp [Builtin.append_, run_underlying Try.underlying63, sizeOf, typeInfo, hi, hsz, Builtin.lenOf, Builtin.firstCells, h3, hl0, storeCells]
  · have hpos : 0 < ys.length := List.length_pos_iff.2 h0
    obtain ⟨b, o, S, rfl, hS, hfit, hseg⟩ : ∃ b o S, sp = some ⟨b, o, none⟩ ∧ blk w b = some S ∧ o + ys.length ≤ S.length ∧ seg S o ys.length = bv ys := by
      unfold srcB at hs
      rw [if_neg (by omega)] at hs
      split at hs
      · rename_i b o
        split at hs
        · rename_i S hS
          split at hs
          · rename_i hf
            exact ⟨b, o, S, rfl, hS, hf, by simpa using hs⟩
          · simp at hs
        · simp at hs
      · simp at hs
    obtain ⟨v', w', hr, h1, h2, _⟩ := run_append_own (P := Try.prog) w base 63 ty 5 i (.int .u8 0) 1 1 Try.underlying63 hi hz hsz hby rfl (by decide) v xs.length (bv xs) h ⟨b, o, none⟩ ys.length c (bv ys) (by rw [length_bv]; omega)
      (by
        intro j u hu
        rw [add_addr, cell_blk hS]
        rw [← hseg] at hu
        unfold seg at hu
        rw [List.getElem?_take] at hu
        split at hu
        · rw [List.getElem?_drop] at hu; exact hu
        · simp at hu)
      (by have := one_bv ys; simpa using this) (by simp only [maxLen]; omega) (by omega) hb
    refine ⟨v', w', hr, ?_, h2⟩
    unfold OwnB
    rw [List.length_append, bv_append]
    exact h1
def makeOp (t : TypeId) (l c : Value) : Sem Next := do pure (.value (← Instr.makeSlice t l c))
theorem execOp_make (a : Act) (dst : Option Tmp) (t : TypeId) (l c : Operand) (ty : TypeId) (pos : String) (after : Array Edge) (guard : Option (Nat × Bool)) :
    execOp a.eval { dst, op := .makeSlice t l c, type := ty, pos, after, guard } = makeOp t (a.eval l) (a.eval c) := rfl
def zerosA (c : Nat) : Array Value := (bv (List.replicate c 0)).toArray
theorem made_zeros (c : Nat) : madeCells (Value.int .u8 0).cells c = zerosA c := by
  apply Array.ext
  · simp [madeCells, zerosA, length_bv]
  · intro i h1 h2
    simp [madeCells, zerosA, bv, Value.cells]
    rw [Nat.mod_one]
    rfl
theorem make63 (w : World) (l c : Nat) (h : l ≤ c) (hc : c ≤ 281474976710656) : (makeOp 63 (.int .i64 (l : Int)) (.int .i64 (c : Int))).run Try.prog w = .ok (.value (.slice (some ⟨w.heap.size, 0, none⟩) l c)) (w.alloc (.cells (zerosA c) 5)) := by
  obtain ⟨i, hi, hz, hsz, hby⟩ : ∃ i, Try.prog.info? 5 = some i ∧ i.zero = some (.int .u8 0) ∧ i.size = 1 ∧ i.bytes = 1 := by
    have hq : (Try.prog.info? 5).map (fun i => (i.zero, i.size, i.bytes)) = some (some (.int .u8 0), 1, 1) := by kernel_rfl
    cases hx : Try.prog.info? 5 with
    | none => rw [hx] at hq; simp at hq
    | some i =>
      rw [hx] at hq
      simp only [Option.map_some, Option.some.injEq, Prod.mk.injEq] at hq
      exact ⟨i, rfl, hq.1, hq.2.1, hq.2.2⟩
  have hr := run_make (P := Try.prog) w 63 5 i _ Try.underlying63 hi hz .i64 .i64 (l : Int) (c : Int) (by omega) (by omega) (by rw [hby]; omega) (by omega)
  unfold makeOp
  rw [Sem.run_bind, hr, hsz, Int.toNat_natCast, Int.toNat_natCast, Nat.mul_one, made_zeros]
  rfl
theorem made_own (w : World) (c base : Nat) (hb : base ≤ w.heap.size) (hc : c ≤ 281474976710656) : OwnB base (w.alloc (.cells (zerosA c) 5)) (.slice (some ⟨w.heap.size, 0, none⟩) 0 c) [] := by
  refine ⟨rfl, .inr ⟨w.heap.size, c, zerosA c, rfl, hb, ?_, Nat.zero_le _, by simp only [maxLen]; omega, ?_, rfl⟩⟩
  · rw [heap_alloc, if_pos rfl]
  · simp [zerosA, length_bv]
theorem wp_append_run {P : Program} {w : World} {o : Oper} {a : Act} {K : Act → World → Prop} {Q : Exit → Act → World → Prop} (s x : Operand) (t : TypeId)
    (ho : o.op = .call { callee := .builtin .append, args := #[s, x], argTypes := #[t, t] }) (v u v' : Value) (w' : World) (hs : a.eval s = v) (hx : a.eval x = u) (hr : (Builtin.append_ #[t, t] o.type #[v, u]).run P w = .ok v' w') (h : K (a.put o.dst v') w') : o.wp P a w K Q := by
  unfold Oper.wp execOp
  simp only [ho, resolve, invoke, builtin, Sem.run_bind, Sem.run_pure, Result.andThen_ok, List.map_toArray, List.map_cons, List.map_nil, hs, hx, hr]
  exact h
theorem row_keep {B : Nat} {W W' : World} {e : TypeId} {size : Nat} {v : Value} {n : Nat} {xs : List Value} (h : W.ownsRow B e size v n xs) (hw : ∀ k, v.ownBlock = some k → W'.heap[k]? = W.heap[k]?) : W'.ownsRow B e size v n xs := by
  obtain ⟨h1, h2 | ⟨g, cap, cur, e1, e2, e3, e4⟩⟩ := h
  · exact ⟨h1, .inl h2⟩
  · exact ⟨h1, .inr ⟨g, cap, cur, e1, e2, by rw [hw g (by rw [e1]; rfl)]; exact e3, e4⟩⟩
theorem row_at {B : Nat} {W : World} {e : TypeId} {size : Nat} {v : Value} {n : Nat} {xs : List Value} (h : W.ownsRow B e size v n xs) (k : Nat) (hk : v.ownBlock = some k) : B ≤ k ∧ k < W.heap.size ∧ ∃ cur fz, W.heap[k]? = some (.cells cur e fz) := by
  obtain ⟨h1, h2 | ⟨g, cap, cur, e1, e2, e3, e4⟩⟩ := h
  · rw [h2.1] at hk; simp [Value.ownBlock] at hk
  · rw [e1] at hk
    simp [Value.ownBlock] at hk
    subst hk
    exact ⟨e2, (Array.getElem?_eq_some_iff.1 e3).1, cur, _, e3⟩
end Go.Proofs.Qxb6500786a
