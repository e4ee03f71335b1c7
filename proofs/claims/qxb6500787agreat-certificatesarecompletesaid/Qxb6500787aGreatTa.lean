
import Derived.Test.Qxb6500787aGreatSe
import Derived.Test.Qxb6500787aGreatTyb
import Derived.StillTailTactics
import Derived.Deep.QuietTactic
import Derived.BigQuiet
import Derived.Deep.RegionHeld
import Derived.Deep.CutRange
import Derived.Laws.ResultCell
import Derived.Laws.Rows
import Derived.DeepKeys
import Derived.DataBytes
import Derived.Laws.StructEq
import Derived.Laws.AppendOwn
import Derived.Laws.MakeOwn
import Derived.Lib.AppendStr
set_option linter.unusedSimpArgs false
set_option linter.unusedVariables false
namespace Go.Proofs.Qxb6500787aGreat
open Go.RowKit Go.Blk
attribute [local go_sem ↓] execOp_load execOp_store execOp_alloc
attribute [local go_sem] Tryz.ld26 Tryz.st26 Tryz.ld27 Tryz.st27 Tryz.ld28 Tryz.st28 Tryz.ld3 Tryz.st3 Tryz.ld29 Tryz.st29 Tryz.ld44 Tryz.st44 Tryz.ld4 Tryz.st4 Tryz.ld50 Tryz.st50 Tryz.ld32 Tryz.st32 Tryz.ld49 Tryz.st49 Tryz.ld68 Tryz.st68 Tryz.ld9 Tryz.st9 Tryz.ld40 Tryz.st40 Tryz.ld138 Tryz.st138 Tryz.ld139 Tryz.st139 Tryz.ld146 Tryz.st146 Tryz.ld183 Tryz.st183 Tryz.ld184 Tryz.st184 Tryz.ld192 Tryz.st192 Tryz.ld195 Tryz.st195 Tryz.ld217 Tryz.st217 Tryz.ld159 Tryz.st159 Tryz.ld142 Tryz.st142 Tryz.ld2 Tryz.st2 Tryz.ld5 Tryz.st5 Tryz.ld12 Tryz.st12 Tryz.ld21 Tryz.st21 Tryz.ld22 Tryz.st22 Tryz.ld24 Tryz.st24 Tryz.ld58 Tryz.st58 Tryz.ld97 Tryz.st97 Tryz.ld101 Tryz.st101 Tryz.ld116 Tryz.st116 Tryz.ld121 Tryz.st121 Tryz.ld135 Tryz.st135 Tryz.ld136 Tryz.st136 Tryz.ld143 Tryz.st143 Tryz.ld148 Tryz.st148 Tryz.ld154 Tryz.st154 Tryz.ld173 Tryz.st173 Tryz.ld187 Tryz.st187 Tryz.ld222 Tryz.st222 Tryz.ld241 Tryz.st241 Tryz.ld248 Tryz.st248 Tryz.ld268 Tryz.st268 Tryz.ld272 Tryz.st272 Tryz.ld153 Tryz.st153 Tryz.ld255 Tryz.st255 Tryz.ld256 Tryz.st256 Tryz.ld129 Tryz.st129 Tryz.ld152 Tryz.st152 Tryz.ld31 Tryz.st31 Tryz.ld46 Tryz.st46 Tryz.ld52 Tryz.st52 Tryz.ld54 Tryz.st54 Tryz.ld60 Tryz.st60 Tryz.ld70 Tryz.st70 Tryz.ld74 Tryz.st74 Tryz.ld93 Tryz.st93 Tryz.ld141 Tryz.st141 Tryz.ld151 Tryz.st151 Tryz.ld170 Tryz.st170 Tryz.ld186 Tryz.st186 Tryz.ld189 Tryz.st189 Tryz.ld194 Tryz.st194 Tryz.ld197 Tryz.st197 Tryz.ld219 Tryz.st219 Tryz.ld224 Tryz.st224 Tryz.ld230 Tryz.st230 Tryz.ld235 Tryz.st235 Tryz.ld243 Tryz.st243 Tryz.ld247 Tryz.st247 Tryz.ld252 Tryz.st252 Tryz.ld258 Tryz.st258 Tryz.al153 Tryz.al255 Tryz.al256 Tryz.al129 Tryz.al152 Tryz.al31 Tryz.al46 Tryz.al52 Tryz.al54 Tryz.al60 Tryz.al70 Tryz.al74 Tryz.al93 Tryz.al141 Tryz.al151 Tryz.al170 Tryz.al186 Tryz.al189 Tryz.al194 Tryz.al197 Tryz.al219 Tryz.al224 Tryz.al230 Tryz.al235 Tryz.al243 Tryz.al247 Tryz.al252 Tryz.al258
attribute [local go_sem] Request.length_enc Request.ok_enc Request.all_get Request.all_set Request.kind_get Request.kind_set Request.blob_get Request.blob_set Request.items_get Request.items_set Request.pred_get Request.pred_set Request.slots_get Request.slots_set Trace.length_enc Trace.ok_enc Trace.all_get Trace.all_set Trace.op_get Trace.op_set Trace.calls_get Trace.calls_set Item.length_enc Item.ok_enc Item.all_get Item.all_set Item.del_get Item.del_set Item.pred_get Item.pred_set Item.args_get Item.args_set Reply.length_enc Reply.ok_enc Reply.all_get Reply.all_set Reply.code_get Reply.code_set Reply.kind_get Reply.kind_set Reply.index_get Reply.index_set Reply.yes_get Reply.yes_set Reply.preds_get Reply.preds_set Reply.rules_get Reply.rules_set Reply.arity_get Reply.arity_set Reply.rows_get Reply.rows_set Reply.fact_get Reply.fact_set Reply.fact_del_get Reply.fact_del_set Reply.fact_pred_get Reply.fact_pred_set Reply.fact_args_get Reply.fact_args_set GEntry.length_enc GEntry.ok_enc GEntry.all_get GEntry.all_set GEntry.seq_get GEntry.seq_set GEntry.kind_get GEntry.kind_set GEntry.code_get GEntry.code_set GOp.length_enc GOp.ok_enc GOp.all_get GOp.all_set GOp.kind_get GOp.kind_set GOp.raw_get GOp.raw_set Reader.length_enc Reader.ok_enc Reader.all_get Reader.all_set Reader.buf_get Reader.buf_set Reader.at__get Reader.at__set Slot.length_enc Slot.ok_enc Slot.all_get Slot.all_set Slot.bound_get Slot.bound_set Slot.name_get Slot.name_set Session.length_enc Session.ok_enc Session.all_get Session.all_set Session.svc_get Session.svc_set Session.buf_get Session.buf_set Session.closed_get Session.closed_set GProgram.length_enc GProgram.ok_enc GProgram.all_get GProgram.all_set GProgram.pool_get GProgram.pool_set GProgram.preds_get GProgram.preds_set GProgram.rules_get GProgram.rules_set GProgram.strata_get GProgram.strata_set PredInfo.length_enc PredInfo.ok_enc PredInfo.all_get PredInfo.all_set PredInfo.arity_get PredInfo.arity_set PredInfo.base_get PredInfo.base_set PredInfo.stratum_get PredInfo.stratum_set Change.length_enc Change.ok_enc Change.all_get Change.all_set Change.del_get Change.del_set Change.pred_get Change.pred_set Change.t_get Change.t_set Store.length_enc Store.ok_enc Store.all_get Store.all_set Store.names_get Store.names_set Store.arity_get Store.arity_set Store.rows_get Store.rows_set Src.length_enc Src.ok_enc Src.all_get Src.all_set Src.b_get Src.b_set Src.at__get Src.at__set Atom.length_enc Atom.ok_enc Atom.all_get Atom.all_set Atom.pred_get Atom.pred_set Atom.args_get Atom.args_set GRule.length_enc GRule.ok_enc GRule.all_get GRule.all_set GRule.head_get GRule.head_set GRule.body_get GRule.body_set GRule.head_pred_get GRule.head_pred_set GRule.head_args_get GRule.head_args_set Cert.length_enc Cert.ok_enc Cert.all_get Cert.all_set Cert.names_get Cert.names_set Cert.nodes_get Cert.nodes_set Fact.length_enc Fact.ok_enc Fact.all_get Fact.all_set Fact.pred_get Fact.pred_set Fact.t_get Fact.t_set Literal.length_enc Literal.ok_enc Literal.all_get Literal.all_set Literal.neg_get Literal.neg_set Literal.atom_get Literal.atom_set Literal.atom_pred_get Literal.atom_pred_set Literal.atom_args_get Literal.atom_args_set Engine.length_enc Engine.ok_enc Engine.all_get Engine.all_set Engine.prog_get Engine.prog_set Engine.st_get Engine.st_set SrcCertm.length_enc SrcCertm.ok_enc SrcCertm.all_get SrcCertm.all_set SrcCertm.b_get SrcCertm.b_set SrcCertm.at__get SrcCertm.at__set GNode.length_enc GNode.ok_enc GNode.all_get GNode.all_set GNode.rule_get GNode.rule_set GNode.pred_get GNode.pred_set GNode.vals_get GNode.vals_set GNode.refs_get GNode.refs_set Term.length_enc Term.ok_enc Term.all_get Term.all_set Term.var_get Term.var_set Term.n_get Term.n_set Env.length_enc Env.ok_enc Env.all_get Env.all_set Env.val_get Env.val_set Env.set_get Env.set_set
attribute [local go_sem] size_put size_ext blk_put free_put blk_alloc free_alloc blk_drew free_drew blk_ext free_ext lookOr_some putOr_some segAt_some cellAt_some storeIn_some put_put put_alloc_new length_arr ok_arr_u8 ok_arr_u32 ok_arr_u64 ok_arr_i64 ok_arr_sl cellsV_agg cellsV_int cellsV_bool cellsV_string cellsV_pointer cellsV_slice cellsV_sl ok_int ok_bool ok_string ok_pointer ok_slice ok_sl toList_arr seg_arr set_arr nth_splice nth_splice0 seg_splice seg_splice0 splice_splice splice_splice0 length_splice_if
attribute [local go_sem ↓] execOp_box
attribute [local go_sem] box_run nth_arr_u8 put_arr_u8 blk_drewN free_drewN put_drewN blk_raw free_raw
theorem info146 : ∃ i z, Tryz.prog.info? 212 = some i ∧ i.zero = some z ∧ i.size = 1 ∧ i.bytes = 8 ∧ z.cells.size = 1 := by
  have hq : (Tryz.prog.info? 212).map (fun i => (i.zero.map (fun z => z.cells.size), i.size, i.bytes)) = some (some 1, 1, 8) := by kernel_rfl
  cases hx : Tryz.prog.info? 212 with
  | none => rw [hx] at hq; simp at hq
  | some i =>
    rw [hx] at hq
    simp only [Option.map_some, Option.some.injEq, Prod.mk.injEq] at hq
    obtain ⟨z, hz, hzs⟩ := Option.map_eq_some_iff.1 hq.1
    exact ⟨i, z, rfl, hz, hq.2.1, hq.2.2, hzs⟩
theorem info153 : ∃ i z, Tryz.prog.info? 214 = some i ∧ i.zero = some z ∧ i.size = 4 ∧ i.bytes = 32 ∧ z.cells.size = 4 := by
  have hq : (Tryz.prog.info? 214).map (fun i => (i.zero.map (fun z => z.cells.size), i.size, i.bytes)) = some (some 4, 4, 32) := by kernel_rfl
  cases hx : Tryz.prog.info? 214 with
  | none => rw [hx] at hq; simp at hq
  | some i =>
    rw [hx] at hq
    simp only [Option.map_some, Option.some.injEq, Prod.mk.injEq] at hq
    obtain ⟨z, hz, hzs⟩ := Option.map_eq_some_iff.1 hq.1
    exact ⟨i, z, rfl, hz, hq.2.1, hq.2.2, hzs⟩
theorem Rw.drewN {α : Type} {en : α → List Value} {sz : Nat} {W : World} {a : Option Addr} {n : Nat} {L : List α} (h : Rw en sz W a n L) (k : Nat) : Rw en sz (W.drewN k) a n L := h
/-- What a block is for. -/
inductive Lab where
  | no
  | a (g n : Nat)
abbrev Own := Nat → Lab
def lab (O : Own) (n : Nat) (l : Lab) : Own := fun k => if k < n then O k else l
theorem lab_lt {O : Own} {n : Nat} {l : Lab} {k : Nat} (h : k < n) : lab O n l k = O k := if_pos h
theorem lab_ge {O : Own} {n : Nat} {l : Lab} {k : Nat} (h : n ≤ k) : lab O n l k = l := if_neg (by omega)
/-- What may change: blocks whose label is in L, and new ones. -/
structure Fr (L : Lab → Prop) (O : Own) (W : World) (O' : Own) (W' : World) : Prop where
  os : W'.os = W.os
  tape : W'.tape = W.tape
  output : W'.output = W.output
  size : W.heap.size ≤ W'.heap.size
  keep : ∀ k, k < W.heap.size → O' k = O k
  block : ∀ k, k < W.heap.size → ¬ L (O k) → W'.heap[k]? = W.heap[k]?
theorem Fr.refl (L : Lab → Prop) (O : Own) (W : World) : Fr L O W O W := ⟨rfl, rfl, rfl, Nat.le_refl _, fun _ _ => rfl, fun _ _ _ => rfl⟩
theorem Fr.trans {L : Lab → Prop} {O O' O'' : Own} {W W' W'' : World} (h : Fr L O W O' W') (h' : Fr L O' W' O'' W'') : Fr L O W O'' W'' :=
  ⟨h'.os.trans h.os, h'.tape.trans h.tape, h'.output.trans h.output, Nat.le_trans h.size h'.size, fun k hk => (h'.keep k (Nat.lt_of_lt_of_le hk h.size)).trans (h.keep k hk), fun k hk hl => (h'.block k (Nat.lt_of_lt_of_le hk h.size) (by rw [h.keep k hk]; exact hl)).trans (h.block k hk hl)⟩
theorem Fr.mono {L L' : Lab → Prop} {O O' : Own} {W W' : World} (h : Fr L O W O' W') (hl : ∀ l, L l → L' l) : Fr L' O W O' W' :=
  ⟨h.os, h.tape, h.output, h.size, h.keep, fun k hk hn => h.block k hk fun h1 => hn (hl _ h1)⟩
theorem Fr.drewN {L : Lab → Prop} {O O' : Own} {W W' : World} (h : Fr L O W O' W') (n : Nat) : Fr L O W O' (W'.drewN n) := ⟨h.os, h.tape, h.output, h.size, h.keep, h.block⟩
theorem Fr.drew {L : Lab → Prop} {O O' : Own} {W W' : World} (h : Fr L O W O' W') : Fr L O W O' W'.drew := ⟨h.os, h.tape, h.output, h.size, h.keep, h.block⟩
theorem Fr.of_drewN {L : Lab → Prop} {O O' : Own} {W W' : World} {n : Nat} (h : Fr L O (W.drewN n) O' W') : Fr L O W O' W' := ⟨h.os, h.tape, h.output, h.size, h.keep, h.block⟩
theorem Fr.put {L : Lab → Prop} {O O' : Own} {W W' : World} (h : Fr L O W O' W') {b : Nat} (hb : L (O' b)) (C : List Value) : Fr L O W O' (Blk.put W' b C) := by
  refine ⟨h.os, h.tape, h.output, by rw [size_put]; exact h.size, h.keep, fun k hk hn => ?_⟩
  rw [heap_put, if_neg (fun e : k = b => hn (by rw [← h.keep k hk, e]; exact hb))]
  exact h.block k hk hn
theorem Fr.put_new {L : Lab → Prop} {O O' : Own} {W W' : World} (h : Fr L O W O' W') {b : Nat} (hb : W.heap.size ≤ b) (C : List Value) : Fr L O W O' (Blk.put W' b C) := by
  refine ⟨h.os, h.tape, h.output, by rw [size_put]; exact h.size, h.keep, fun k hk hn => ?_⟩
  rw [heap_put, if_neg (by omega)]
  exact h.block k hk hn
theorem Fr.of_extends {L : Lab → Prop} {O : Own} {W W' : World} (h : W.Extends W') : Fr L O W O W' := ⟨h.os, h.tape, h.output, h.size, fun _ _ => rfl, fun k hk _ => h.block k hk⟩
theorem Fr.relab {L : Lab → Prop} {O O' : Own} {W W' : World} (h : Fr L O W O' W') (l : Lab) : Fr L O W (lab O' W'.heap.size l) W' := ⟨h.os, h.tape, h.output, h.size, fun k hk => (lab_lt (Nat.lt_of_lt_of_le hk h.size)).trans (h.keep k hk), h.block⟩
theorem Fr.blk {L : Lab → Prop} {O O' : Own} {W W' : World} (h : Fr L O W O' W') {k : Nat} {C : List Value} (hk : blk W k = some C) (hl : ¬ L (O k)) : blk W' k = some C := (blk_of_heap (h.block k (blk_lt hk) hl)).trans hk
theorem Fr.free {L : Lab → Prop} {O O' : Own} {W W' : World} (h : Fr L O W O' W') {k : Nat} {C : List Value} (hk : Blk.blk W k = some C) (hf : Blk.free W k = true) (hl : ¬ L (O k)) : Blk.free W' k = true := (free_of_heap (h.block k (blk_lt hk) hl)).trans hf
theorem Fr.extends {L : Lab → Prop} {O O' : Own} {w0 W W' : World} (h : Fr L O W O' W') (he : w0.Extends W) (hd : ∀ k, k < w0.heap.size → ¬ L (O k)) : w0.Extends W' := by
  have hb : ∀ i, i < w0.heap.size → W'.heap[i]? = w0.heap[i]? := fun i hi => (h.block i (Nat.lt_of_lt_of_le hi he.size) (hd i hi)).trans (he.block i hi)
  exact ⟨h.os.trans he.os, h.tape.trans he.tape, h.output.trans he.output, Nat.le_trans he.size h.size, fun a ha => World.cell?_of_block (hb _ ha), fun a ha => World.frozen?_of_block (hb _ ha), hb⟩
theorem Fr.grown {O : Own} {l : Lab} {W W' : World} {v : Value} (hg : W.grownBy W' v.ownBlock) (hl : ∀ k, v.ownBlock = some k → O k = l) : Fr (fun x => x = l) O W (lab O W.heap.size l) W' :=
  ⟨hg.os, hg.tape, hg.output, hg.size, fun k hk => lab_lt hk, fun k hk hn => hg.block k hk (fun e => hn (hl k e.symm))⟩
/-- A row with its label. -/
def RowL (B : Nat) (O : Own) (l : Lab) (W : World) (e : TypeId) (sz : Nat) (v : Value) (n : Nat) (xs : List Value) : Prop := W.ownsRow B e sz v n xs ∧ ∀ k, v.ownBlock = some k → O k = l
theorem RowL.keep {B : Nat} {O O' : Own} {l : Lab} {W W' : World} {e : TypeId} {sz : Nat} {v : Value} {n : Nat} {xs : List Value} (h : RowL B O l W e sz v n xs) (hw : ∀ k, k < W.heap.size → O k = l → W'.heap[k]? = W.heap[k]? ∧ O' k = O k) : RowL B O' l W' e sz v n xs :=
  ⟨row_keep h.1 (fun k hk => (hw k (row_at h.1 k hk).2.1 (h.2 k hk)).1), fun k hk => ((hw k (row_at h.1 k hk).2.1 (h.2 k hk)).2).trans (h.2 k hk)⟩
theorem RowL.fr {L : Lab → Prop} {B : Nat} {O O' : Own} {l : Lab} {W W' : World} {e : TypeId} {sz : Nat} {v : Value} {n : Nat} {xs : List Value} (h : RowL B O l W e sz v n xs) (hf : Fr L O W O' W') (hl : ¬ L l) : RowL B O' l W' e sz v n xs :=
  h.keep (fun k hk ho => ⟨hf.block k hk (by rw [ho]; exact hl), hf.keep k hk⟩)
theorem RowL.nil (B : Nat) (O : Own) (l : Lab) (W : World) (e : TypeId) (sz : Nat) : RowL B O l W e sz (.slice none 0 0) 0 [] := ⟨⟨by simp, .inl ⟨rfl, rfl⟩⟩, fun k hk => by simp [Value.ownBlock] at hk⟩
theorem RowL.rw {α : Type} {e : α → List Value} {sz : Nat} (hsz : ∀ x, (e x).length = sz) {B : Nat} {O : Own} {l : Lab} {W : World} {ty : TypeId} {a : Option Addr} {n c : Nat} {K : List α} (h : RowL B O l W ty sz (.slice a n c) K.length (K.flatMap e)) : Rw e sz W a n K ∧ n ≤ c ∧ c ≤ maxLen := rw_own hsz h.1
theorem flat_take {α : Type} (en : α → List Value) (sz : Nat) (hsz : ∀ x, (en x).length = sz) : ∀ (K : List α) (D : List Value), K.length * sz ≤ D.length → (∀ i x, K[i]? = some x → seg D (i * sz) sz = en x) → D.take (K.length * sz) = K.flatMap en
  | [], D, _, _ => by simp
  | x :: K, D, hl, h => by
    have h0 := h 0 x rfl
    have ih := flat_take en sz hsz K (D.drop sz) (by rw [List.length_drop]; rw [List.length_cons, Nat.add_mul] at hl; omega) (fun i y hy => by
      have := h (i + 1) y (by simpa using hy)
      unfold seg at this ⊢
      rw [List.drop_drop, show sz + i * sz = (i + 1) * sz by rw [Nat.add_mul]; omega]
      exact this)
    rw [List.flatMap_cons, ← ih, ← h0, List.length_cons, Nat.add_mul, Nat.one_mul, Nat.add_comm, Nat.zero_mul]
    unfold seg
    rw [List.drop_zero, List.take_add]
theorem RowL.open {α : Type} {en : α → List Value} {sz : Nat} (hsz : ∀ x, (en x).length = sz) {B : Nat} {O : Own} {l : Lab} {W : World} {ty : TypeId} {a : Option Addr} {n c : Nat} {K : List α} (h : RowL B O l W ty sz (.slice a n c) K.length (K.flatMap en)) (hn : 0 < n) :
    ∃ g C, a = some ⟨g, 0, none⟩ ∧ blk W g = some C ∧ free W g = true ∧ n * sz ≤ C.length ∧ O g = l ∧ B ≤ g ∧ K.length = n ∧ (∀ i x, K[i]? = some x → seg C (i * sz) sz = en x) ∧
    ∀ (D : List Value) (K' : List α), D.length = C.length → K'.length = K.length → (∀ i x, K'[i]? = some x → seg D (i * sz) sz = en x) → RowL B O l (put W g D) ty sz (.slice a n c) K'.length (K'.flatMap en) := by
  have hr := (rw_own hsz h.1).1
  obtain ⟨⟨h1, h2 | ⟨g, cap, cur, e1, e2, e3, e4, e5, e6, e7⟩⟩, hl⟩ := h
  · have := hr.1; omega
  · injection e1 with e1a e1b e1c
    subst e1a
    subst e1c
    have hg : O g = l := hl g rfl
    have hle : K.length * sz ≤ c * sz := Nat.mul_le_mul_right _ e4
    refine ⟨g, cur.toList, rfl, blk_mk e3, free_mk e3, by rw [Array.length_toList, e6, ← hr.1]; exact hle, hg, e2, hr.1, fun i x hx => ?_, fun D K' hD hK' hs => ?_⟩
    · obtain ⟨b, C, q1, q2, q3, q4⟩ := hr.2 i x hx
      injection q1 with q1; injection q1 with q1
      subst q1
      rw [blk_mk e3] at q2
      injection q2 with q2
      rw [q2]; exact q4
    · have hcl : cur.toList.length = c * sz := by rw [Array.length_toList]; exact e6
      have hDl : K'.length * sz ≤ D.length := by rw [hD, hcl, hK']; exact hle
      have hft := flat_take en sz hsz K' D hDl hs
      refine ⟨⟨?_, .inr ⟨g, c, D.toArray, by rw [hK', e1b], e2, ?_, by rw [hK']; exact e4, e5, by rw [List.size_toArray, hD, hcl], hft⟩⟩, fun k hk => ?_⟩
      · rw [← hft, List.length_take]; omega
      · rw [heap_put, if_pos rfl, e3]; rfl
      · simp [Value.ownBlock] at hk; rw [← hk]; exact hg
/-- One thing appended to a labelled row. -/
theorem appL {α : Type} (en : α → List Value) (sz bytes : Nat) (t e : TypeId) (ht : Tryz.prog.underlying t = some (.slice e)) (hinfo : ∃ i z, Tryz.prog.info? e = some i ∧ i.zero = some z ∧ i.size = sz ∧ i.bytes = bytes ∧ z.cells.size = sz) (hln : ∀ x, (en x).length = sz) (hone : ∀ x, (en x).all (fun v => v.oneCell') = true) (hsz : 0 < sz) (hb1 : bytes ≤ 1000)
    {B : Nat} {O : Own} {l : Lab} {W : World} (ty : TypeId) {a : Option Addr} {n c : Nat} {K : List α} (x : α) (h : RowL B O l W e sz (.slice a n c) K.length (K.flatMap en)) (hB : B ≤ W.heap.size) (hl : K.length ≤ 10000000000) (A : Array Value) (hA : A = (en x).toArray) (c1 : Nat) :
    ∃ a' c' W', (Builtin.append_ #[t, t] ty #[.slice a n c, .slice (some ⟨W.heap.size, 0, none⟩) 1 c1]).run Tryz.prog (W.alloc (.cells A e)) = .ok (.slice a' (n + 1) c') W' ∧ RowL B (lab O W.heap.size l) l W' e sz (.slice a' (n + 1) c') (K ++ [x]).length ((K ++ [x]).flatMap en) ∧ Fr (fun y => y = l) O W (lab O W.heap.size l) W' := by
  subst hA
  have hx1 : W.Extends (W.alloc (.cells (en x).toArray e)) := extends_alloc (ext_Ext (Ext.refl _)) _
  have hrow := row_keep h.1 (fun k hk => hx1.block k (row_at h.1 k hk).2.1)
  obtain ⟨v', W', hr, ho, hg, hbk⟩ := appG en sz bytes t e ht hinfo hln hone hsz hb1 B (W.alloc (.cells (en x).toArray e)) ty (.slice a n c) K x W.heap.size c1 hrow ((blk_alloc _ _ _ _).trans (if_pos rfl)) (Nat.le_trans hB hx1.size) hl
  obtain ⟨a', c', rfl⟩ := row_val ho
  have hKn : K.length = n := (rw_own hln h.1).1.1
  have hm : (K ++ [x]).length = n + 1 := by rw [List.length_append, List.length_singleton, hKn]
  rw [hm] at hr ho hbk
  have hsz1 : W.heap.size ≤ (W.alloc (.cells (en x).toArray e)).heap.size := hx1.size
  refine ⟨a', c', W', hr, ⟨by rw [hm]; exact ho, fun k hk => ?_⟩, ?_⟩
  · rcases hbk with hbk | hbk
    · rw [hbk] at hk
      rw [lab_lt (row_at h.1 k hk).2.1]
      exact h.2 k hk
    · rw [hbk] at hk
      have : k = (W.alloc (.cells (en x).toArray e)).heap.size := (Option.some.inj hk).symm
      exact lab_ge (by omega)
  · have f1 := Fr.of_extends (L := fun y => y = l) (O := O) hx1
    refine ⟨hg.os.trans f1.os, hg.tape.trans f1.tape, hg.output.trans f1.output, Nat.le_trans hsz1 hg.size, fun k hk => lab_lt hk, fun k hk hn => ?_⟩
    exact (hg.block k (by omega) (fun e1 => hn (h.2 k e1.symm))).trans (hx1.block k hk)
theorem RowL.openT {α : Type} {en : α → List Value} {sz : Nat} (hsz : ∀ x, (en x).length = sz) {B : Nat} {O : Own} {l : Lab} {W : World} {ty : TypeId} {a : Option Addr} {n c : Nat} {K : List α} (h : RowL B O l W ty sz (.slice a n c) K.length (K.flatMap en)) (hn : 0 < n) :
    ∃ g C, a = some ⟨g, 0, none⟩ ∧ W.heap[g]? = some (.cells C.toArray ty (0, 0)) ∧ n * sz ≤ C.length ∧ O g = l ∧ B ≤ g ∧ K.length = n ∧ (∀ i x, K[i]? = some x → seg C (i * sz) sz = en x) ∧
    ∀ (O' : Own) (W' : World) (D : List Value) (K' : List α), W'.heap[g]? = some (.cells D.toArray ty (0, 0)) → D.length = C.length → K'.length = K.length → (∀ i x, K'[i]? = some x → seg D (i * sz) sz = en x) → O' g = l → RowL B O' l W' ty sz (.slice a n c) K'.length (K'.flatMap en) := by
  have hr := (rw_own hsz h.1).1
  obtain ⟨⟨h1, h2 | ⟨g, cap, cur, e1, e2, e3, e4, e5, e6, e7⟩⟩, hl⟩ := h
  · have := hr.1; omega
  · injection e1 with e1a e1b e1c
    subst e1a
    subst e1c
    have hg : O g = l := hl g rfl
    have hle : K.length * sz ≤ c * sz := Nat.mul_le_mul_right _ e4
    refine ⟨g, cur.toList, rfl, e3, by rw [Array.length_toList, e6, ← hr.1]; exact hle, hg, e2, hr.1, fun i x hx => ?_, fun O' W' D K' hW hD hK' hs ho => ?_⟩
    · obtain ⟨b, C, q1, q2, q3, q4⟩ := hr.2 i x hx
      injection q1 with q1; injection q1 with q1
      subst q1
      rw [blk_mk e3] at q2
      injection q2 with q2
      rw [q2]; exact q4
    · have hcl : cur.toList.length = c * sz := by rw [Array.length_toList]; exact e6
      have hDl : K'.length * sz ≤ D.length := by rw [hD, hcl, hK']; exact hle
      have hft := flat_take en sz hsz K' D hDl hs
      refine ⟨⟨?_, .inr ⟨g, c, D.toArray, by rw [hK', e1b], e2, hW, by rw [hK']; exact e4, e5, by rw [List.size_toArray, hD, hcl], hft⟩⟩, fun k hk => ?_⟩
      · rw [← hft, List.length_take]; omega
      · simp [Value.ownBlock] at hk; rw [← hk]; exact ho
abbrev Tup := Vector Int 4
def tg (t : Tup) (c : Nat) : Int := t.toList.getD c 0
theorem nth_t (t : Tup) (c : Nat) (hc : c < 4) : nth (arr i64v t) c = some (.int .i64 (tg t c)) := by
  rw [nth_arr_i64 t hc]
  congr 2
  unfold tg
  rw [List.getD_eq_getElem?_getD, List.getElem?_eq_getElem (by simpa using hc)]
  simp
theorem tg_ext {a b : Tup} (h : ∀ c, c < 4 → tg a c = tg b c) : a = b := by
  apply Vector.ext
  intro i hi
  have := h i hi
  unfold tg at this
  rw [List.getD_eq_getElem?_getD, List.getD_eq_getElem?_getD, List.getElem?_eq_getElem (by simpa using hi), List.getElem?_eq_getElem (by simpa using hi)] at this
  simpa using this
theorem part146 (w : World) (a : Tup) {c : Nat} (hc : c < 4) : (part 212 (arr i64v a).toArray c).run Tryz.prog w = .ok (.int .i64 (tg a c)) w := by
  refine run_part_plain w (by kernel_rfl) ?_
  have := nth_t a c hc
  unfold nth at this
  simpa using this
theorem eqItems_tup (w : World) (d : Nat) (a b : Tup) : ∀ is : List Nat, (∀ i ∈ is, i < 4) → (Op.eqItems (d + 1) 212 1 (arr i64v a).toArray (arr i64v b).toArray is).run Tryz.prog w = .ok (is.all (fun i => tg a i == tg b i)) w
  | [], _ => by simp [Op.eqItems]
  | i :: is, h => by
    have hi := h i (List.mem_cons_self ..)
    have ih := eqItems_tup w d a b is (fun j hj => h j (List.mem_cons_of_mem _ hj))
    simp only [Op.eqItems, Sem.run_bind, Nat.mul_one, part146 w _ hi, Result.andThen_ok, run_equalIn_int w d 212 .i64 .i64 _ _ Tryz.underlying212]
    cases hx : (tg a i == tg b i)
    · simp [hx]
    · simp [hx, ih]
theorem eq153 (w : World) (d : Nat) (a b : Tup) : (Op.equalIn (d + 2) 214 (.agg (arr i64v a).toArray) (.agg (arr i64v b).toArray)).run Tryz.prog w = .ok (decide (a = b)) w := by
  obtain ⟨i, z, hi, _⟩ := info146
  have hc : Tryz.prog.cellsOf 212 = 1 := by kernel_rfl
  have hb : (List.range 4).all (fun i => tg a i == tg b i) = decide (a = b) := by
    by_cases h : a = b
    · rw [decide_eq_true h, h, List.all_eq_true]
      intro x _; simp
    · rw [decide_eq_false h]
      apply Bool.eq_false_iff.2
      intro h1
      refine h (tg_ext fun c hc => ?_)
      have := List.all_eq_true.1 h1 c (by simpa using hc)
      simpa using this
  rw [run_equalIn_array w (d + 1) _ _ Tryz.underlying214 hi, hc, eqItems_tup w d a b (List.range 4) (fun j hj => by simpa using hj), hb]
def cmpEq (t : TypeId) (x y : Operand) (u v : Value) : Sem Next := do pure (.value (← (do eqGuard .eql t x y u v; binOp .eql t u v)))
theorem execOp_eql153 (a : Act) (dst : Option Tmp) (x y : Operand) (ty : TypeId) (pos : String) (after : Array Edge) (guard : Option (Nat × Bool)) :
    execOp a.eval { dst, op := .binOp .eql 214 x y 214, type := ty, pos, after, guard } = cmpEq 214 x y (a.eval x) (a.eval y) := rfl
theorem execOp_neq153 (a : Act) (dst : Option Tmp) (x y : Operand) (ty : TypeId) (pos : String) (after : Array Edge) (guard : Option (Nat × Bool)) :
    execOp a.eval { dst, op := .binOp .neq 214 x y 214, type := ty, pos, after, guard } = cmpNe 214 x y (a.eval x) (a.eval y) := rfl
theorem guard153 (w : World) (op : BinOp) (x y : Operand) (a b : Tup) : (eqGuard op 214 x y (.agg (arr i64v a).toArray) (.agg (arr i64v b).toArray)).run Tryz.prog w = .ok () w := by
  have ht : Tryz.prog.eqGuardType Tryz.prog.depth 214 = false := by kernel_rfl
  unfold eqGuard
  cases op <;> simp [Sem.run_bind, run_program, ht]
theorem eql153 (w : World) (x y : Operand) (a b : Tup) : (cmpEq 214 x y (.agg (arr i64v a).toArray) (.agg (arr i64v b).toArray)).run Tryz.prog w = .ok (.value (.bool (decide (a = b)))) w := by
  have h1 : (binOp .eql 214 (.agg (arr i64v a).toArray) (.agg (arr i64v b).toArray)).run Tryz.prog w = .ok (.bool (decide (a = b))) w := by rw [run_eql_struct, eq153 w 9998]; rfl
  unfold cmpEq
  simp only [Sem.run_bind, guard153, Result.andThen_ok, h1]
  rfl
theorem neq153 (w : World) (x y : Operand) (a b : Tup) : (cmpNe 214 x y (.agg (arr i64v a).toArray) (.agg (arr i64v b).toArray)).run Tryz.prog w = .ok (.value (.bool (!decide (a = b)))) w := by
  have h1 : (binOp .neq 214 (.agg (arr i64v a).toArray) (.agg (arr i64v b).toArray)).run Tryz.prog w = .ok (.bool (!decide (a = b))) w := by rw [run_neq_struct, eq153 w 9998]; rfl
  unfold cmpNe
  simp only [Sem.run_bind, guard153, Result.andThen_ok, h1]
  rfl
theorem seg_off {C X : List Value} {o p n : Nat} (h : o + X.length ≤ C.length) (hd : p + n ≤ o ∨ o + X.length ≤ p) : seg (splice C o X) p n = seg C p n := by
  unfold seg
  apply List.ext_getElem?
  intro r
  rw [List.getElem?_take, List.getElem?_take]
  by_cases hr : r < n
  · rw [if_pos hr, if_pos hr, List.getElem?_drop, List.getElem?_drop]
    unfold splice
    rcases hd with hd | hd
    · rw [List.append_assoc, List.getElem?_append_left (by rw [List.length_take]; omega), List.getElem?_take, if_pos (by omega)]
    · rw [List.getElem?_append_right (by rw [List.length_append, List.length_take]; omega), List.length_append, List.length_take, List.getElem?_drop]
      congr 1
      omega
  · rw [if_neg hr, if_neg hr]
theorem RowL.set {α : Type} {en : α → List Value} {sz : Nat} (hsz : ∀ x, (en x).length = sz) {B : Nat} {O : Own} {l : Lab} {W : World} {ty : TypeId} {a : Option Addr} {n c : Nat} {K : List α} (h : RowL B O l W ty sz (.slice a n c) K.length (K.flatMap en)) {i : Nat} (hi : i < n) (x : α) :
    ∃ g C, a = some ⟨g, 0, none⟩ ∧ blk W g = some C ∧ free W g = true ∧ O g = l ∧ B ≤ g ∧ i * sz + sz ≤ C.length ∧ (∀ i x, K[i]? = some x → seg C (i * sz) sz = en x) ∧ RowL B O l (put W g (splice C (i * sz) (en x))) ty sz (.slice a n c) (K.set i x).length ((K.set i x).flatMap en) := by
  obtain ⟨g, C, e1, e2, e3, e4, e5, e6, e7, e8, e9⟩ := h.open hsz (by omega)
  have hle : (i + 1) * sz ≤ n * sz := Nat.mul_le_mul_right _ hi
  rw [Nat.add_mul, Nat.one_mul] at hle
  refine ⟨g, C, e1, e2, e3, e5, e6, by omega, e8, e9 _ _ (length_splice _ _ _ (by rw [hsz]; omega)) (by simp) (fun j y hy => ?_)⟩
  rw [List.getElem?_set] at hy
  by_cases hij : i = j
  · subst hij
    rw [if_pos rfl, if_pos (by omega)] at hy
    rw [seg_splice0 (by rw [hsz]; omega) (by rw [hsz]; exact Nat.le_refl _), ← Option.some.inj hy, seg_all _ _ (hsz x)]
  · rw [if_neg hij] at hy
    have hj : j < K.length := (List.getElem?_eq_some_iff.1 hy).1
    rw [seg_off (by rw [hsz]; omega) ?_]
    · exact e8 j y hy
    · rw [hsz]
      rcases Nat.lt_or_gt_of_ne hij with h1 | h1
      · right
        have := Nat.mul_le_mul_right sz h1
        rw [Nat.succ_mul] at this; omega
      · left
        have := Nat.mul_le_mul_right sz h1
        rw [Nat.succ_mul] at this; omega
theorem arr4 (t : Tup) : arr i64v t = [.int .i64 (tg t 0), .int .i64 (tg t 1), .int .i64 (tg t 2), .int .i64 (tg t 3)] := by
  apply List.ext_getElem?
  intro c
  by_cases hc : c < 4
  · have := nth_t t c hc
    unfold nth at this
    rw [this]
    have h : c = 0 ∨ c = 1 ∨ c = 2 ∨ c = 3 := by omega
    rcases h with rfl | rfl | rfl | rfl <;> rfl
  · rw [List.getElem?_eq_none (by rw [length_arr]; omega), List.getElem?_eq_none (by simp; omega)]
def tpl (t : Tup) : List Value := arr i64v t
theorem tpl_len (t : Tup) : (tpl t).length = 4 := length_arr _ _
theorem tpl_one (t : Tup) : (tpl t).all (fun v => v.oneCell') = true := one_arr_i64 t
theorem bslice148_lit (w : World) (a b c d : Int) : (bsliceOp 257 1 #[(0, .agg #[.int .i64 a, .int .i64 b, .int .i64 c, .int .i64 d])]).run Tryz.prog w = .ok (.value (.slice (some ⟨w.heap.size, 0, none⟩) 1 1)) (w.alloc (.cells #[.int .i64 a, .int .i64 b, .int .i64 c, .int .i64 d] 214)) := by kernel_rfl
theorem bslice148 (w : World) (t : Tup) : (bsliceOp 257 1 #[(0, .agg (arr i64v t).toArray)]).run Tryz.prog w = .ok (.value (.slice (some ⟨w.heap.size, 0, none⟩) 1 1)) (w.alloc (.cells (arr i64v t).toArray 214)) := by
  have h := bslice148_lit w (tg t 0) (tg t 1) (tg t 2) (tg t 3)
  rw [arr4 t]; exact h
/-- Rows of tuples in new memory. -/
def Outs (W V : World) (a : Option Addr) (n c : Nat) (ts : List Tup) : Prop := V.ownsRow W.heap.size 214 4 (.slice a n c) ts.length (ts.flatMap tpl) ∧ W.Extends V ∧ n = ts.length
theorem Outs.ext {W V V' : World} {a : Option Addr} {n c : Nat} {ts : List Tup} (h : Outs W V a n c ts) (he : V.Extends V') : Outs W V' a n c ts :=
  ⟨row_keep h.1 (fun k hk => he.block k (row_at h.1 k hk).2.1), h.2.1.trans he, h.2.2⟩
theorem Outs.nil (W V : World) (he : W.Extends V) : Outs W V none 0 0 [] := ⟨⟨by simp, .inl ⟨rfl, rfl⟩⟩, he, rfl⟩
theorem Outs.app {W V : World} {a : Option Addr} {n c : Nat} {ts : List Tup} (h : Outs W V a n c ts) (t : Tup) (hl : ts.length ≤ 10000000000) :
    ∃ a' c' V', (Builtin.append_ #[257, 257] 257 #[.slice a n c, .slice (some ⟨V.heap.size, 0, none⟩) 1 1]).run Tryz.prog (V.alloc (.cells (arr i64v t).toArray 214)) = .ok (.slice a' (n + 1) c') V' ∧ Outs W V' a' (n + 1) c' (ts ++ [t]) := by
  have hx1 : V.Extends (V.alloc (.cells (arr i64v t).toArray 214)) := extends_alloc (ext_Ext (Ext.refl _)) _
  have h1 := h.ext hx1
  obtain ⟨v', V', hr, ho, hg, _⟩ := appG tpl 4 32 257 214 Tryz.underlying257 info153 tpl_len tpl_one (by omega) (by omega) W.heap.size (V.alloc (.cells (arr i64v t).toArray 214)) 148 (.slice a n c) ts t V.heap.size 1 h1.1 ((blk_alloc _ _ _ _).trans (if_pos rfl)) h1.2.1.size (by omega)
  obtain ⟨a', c', rfl⟩ := row_val ho
  have hm : (ts ++ [t]).length = n + 1 := by rw [List.length_append, List.length_singleton, h.2.2]
  rw [hm] at hr
  exact ⟨a', c', V', hr, by rw [← hm]; exact ho, grown_ext h1.2.1 hg (fun k hk => (row_at h1.1 k hk).1), hm.symm⟩
theorem Outs.base {W W0 V : World} {a : Option Addr} {n c : Nat} {ts : List Tup} (h : Outs W0 V a n c ts) (he : W.Extends W0) : Outs W V a n c ts := ⟨row_base h.1 he.size, he.trans h.2.1, h.2.2⟩
theorem hid_of {p : Prop} (h : p) : Hid p := h
theorem Rw.ext' {α : Type} {en : α → List Value} {sz : Nat} {W W' : World} {a : Option Addr} {n : Nat} {L : List α} (h : Rw en sz W a n L) (he : W.Extends W') : Rw en sz W' a n L := h.grow he
theorem tup_at {W : World} {a : Option Addr} {n : Nat} {ts : List Tup} (h : Rw tpl 4 W a n ts) {i : Nat} {t : Tup} (ht : ts[i]? = some t) : ∃ b C, a = some ⟨b, 0, none⟩ ∧ blk W b = some C ∧ i * 4 + 4 ≤ C.length ∧ i < n ∧ seg C (i * 4) 4 = arr i64v t := by
  obtain ⟨b, C, h1, h2, h3, h4⟩ := h.2 i t ht
  have hi : i < n := by rw [← h.1]; exact (List.getElem?_eq_some_iff.1 ht).1
  have : (i + 1) * 4 ≤ n * 4 := Nat.mul_le_mul_right _ hi
  exact ⟨b, C, h1, h2, by omega, hi, h4⟩
theorem rw_cell {α : Type} {en : α → List Value} {W : World} {a : Option Addr} {n : Nat} {L : List α} (h : Rw en 1 W a n L) {i : Nat} {x : α} (hx : L[i]? = some x) {v : Value} (hv : en x = [v]) : ∃ b C, a = some ⟨b, 0, none⟩ ∧ blk W b = some C ∧ i + 1 ≤ C.length ∧ i < n ∧ nth C i = some v := by
  obtain ⟨b, C, h1, h2, h3, h4⟩ := h.2 i x hx
  have hi : i < n := by rw [← h.1]; exact (List.getElem?_eq_some_iff.1 hx).1
  rw [Nat.mul_one, hv] at h4
  exact ⟨b, C, h1, h2, by omega, hi, (nth_in (j := 0) h4 rfl (by omega))⟩

def dead : Lab → Obj → Obj
  | .no, x => x
  | .a _ _, _ => .view ⟨0, 0, none⟩ 0
def core (O : Own) (W : World) : World := { W with heap := W.heap.mapIdx fun k x => dead (O k) x }
theorem core_heap (O : Own) (W : World) (k : Nat) : (core O W).heap[k]? = (W.heap[k]?).map (dead (O k)) := by
  unfold core
  simp [Array.getElem?_mapIdx]
theorem core_size (O : Own) (W : World) : (core O W).heap.size = W.heap.size := by
  unfold core; simp
theorem core_blk {O : Own} {W : World} {k : Nat} {C : List Value} (h : blk (core O W) k = some C) : blk W k = some C ∧ O k = .no := by
  have hh := core_heap O W k
  unfold blk at h ⊢
  rw [hh] at h
  cases hk : W.heap[k]? with
  | none => rw [hk] at h; cases h
  | some x =>
    rw [hk] at h
    cases ho : O k with
    | no => rw [ho] at h; exact ⟨h, rfl⟩
    | a g n => rw [ho] at h; cases h
theorem blk_core {O : Own} {W : World} {k : Nat} {C : List Value} (h : blk W k = some C) (ho : O k = .no) : blk (core O W) k = some C := by
  have hh := core_heap O W k
  unfold blk at h ⊢
  rw [hh, ho]
  cases hk : W.heap[k]? with
  | none => rw [hk] at h; cases h
  | some x => rw [hk] at h; exact h
theorem ext_of {w w' : World} (h1 : w'.os = w.os) (h2 : w'.tape = w.tape) (h3 : w'.output = w.output) (h4 : w.heap.size ≤ w'.heap.size) (h5 : ∀ k, k < w.heap.size → w'.heap[k]? = w.heap[k]?) : w.Extends w' :=
  (Fr.extends (L := fun _ => False) (O := fun _ => Lab.no) (O' := fun _ => Lab.no) ⟨h1, h2, h3, h4, fun _ _ => rfl, fun k hk _ => h5 k hk⟩ (ext_Ext (Ext.refl _)) (fun _ _ h => h))
theorem core_fr {L : Lab → Prop} {O O' : Own} {W W' : World} (h : Fr L O W O' W') (hl : ¬ L .no) : (core O W).Extends (core O' W') := by
  refine ext_of h.os h.tape h.output (by rw [core_size, core_size]; exact h.size) (fun k hk => ?_)
  rw [core_size] at hk
  rw [core_heap, core_heap, h.keep k hk]
  cases ho : O k with
  | no => rw [h.block k hk (by rw [ho]; exact hl)]
  | a g n =>
    have h1 : k < W'.heap.size := Nat.lt_of_lt_of_le hk h.size
    rw [Array.getElem?_eq_getElem hk, Array.getElem?_eq_getElem h1]
    rfl
theorem Rw.uncore {α : Type} {en : α → List Value} {sz : Nat} {O : Own} {W : World} {a : Option Addr} {n : Nat} {L : List α} (h : Rw en sz (core O W) a n L) : Rw en sz W a n L := ⟨h.1, fun i x hx => by
  obtain ⟨b, C, h1, h2, h3⟩ := h.2 i x hx
  exact ⟨b, C, h1, (core_blk h2).1, h3⟩⟩
theorem Rw.tocore {α : Type} {en : α → List Value} {sz : Nat} {O : Own} {W : World} {a : Option Addr} {n : Nat} {L : List α} (h : Rw en sz W a n L) (ho : ∀ b C, a = some ⟨b, 0, none⟩ → blk W b = some C → O b = .no) : Rw en sz (core O W) a n L := ⟨h.1, fun i x hx => by
  obtain ⟨b, C, h1, h2, h3⟩ := h.2 i x hx
  exact ⟨b, C, h1, blk_core h2 (ho b C h1 h2), h3⟩⟩
theorem At.uncore {α : Type} {e : α → List Value} {sz : Nat} {O : Own} {W : World} {b o : Nat} {a : Option Addr} {n : Nat} {L : List α} (h : At e sz (core O W) b o a n L) : At e sz W b o a n L := ⟨h.1, fun h0 => by
  obtain ⟨h1, C, h2, h3⟩ := h.2 h0
  exact ⟨h1, C, (core_blk h2).1, h3⟩⟩
theorem At.tocore {α : Type} {e : α → List Value} {sz : Nat} {O : Own} {W : World} {b o : Nat} {a : Option Addr} {n : Nat} {L : List α} (h : At e sz W b o a n L) (ho : n ≠ 0 → O b = .no) : At e sz (core O W) b o a n L := ⟨h.1, fun h0 => by
  obtain ⟨h1, C, h2, h3⟩ := h.2 h0
  exact ⟨h1, C, blk_core h2 (ho h0), h3⟩⟩
theorem outs_rw {W V : World} {a : Option Addr} {n c : Nat} {ts : List Tup} (h : Outs W V a n c ts) : Rw tpl 4 V a n ts ∧ n ≤ c ∧ c ≤ maxLen := rw_own tpl_len h.1
theorem Outs.rw' {W V : World} {a : Option Addr} {n c : Nat} {ts : List Tup} (h : Outs W V a n c ts) : Rw tpl 4 V a n ts := (rw_own tpl_len h.1).1
theorem core_ext {O : Own} {W W' : World} (he : W.Extends W') : (core O W).Extends (core O W') := core_fr (L := fun _ => False) (Fr.of_extends he) (fun h => h)
theorem core_new {O : Own} {W W1 : World} (hx : W.Extends W1) (l : Lab) : (core O W).Extends (core (lab O W.heap.size l) W1) := core_fr (L := fun _ => False) ⟨hx.os, hx.tape, hx.output, hx.size, fun k hk => lab_lt hk, fun k hk _ => hx.block k hk⟩ (fun h => h)
theorem outs_core {O : Own} {W W1 : World} {a : Option Addr} {n c : Nat} {ts : List Tup} (h : Outs W W1 a n c ts) : Rw tpl 4 (core (lab O W.heap.size .no) W1) a n ts := by
  refine (outs_rw h).1.tocore (fun b C e _ => lab_ge ?_)
  subst e
  exact (row_at h.1 b rfl).1

def Sub (W W' : World) : Prop := ∀ b C, blk W b = some C → blk W' b = some C
theorem Sub.trans {W W' W'' : World} (h : Sub W W') (h' : Sub W' W'') : Sub W W'' := fun b C hb => h' b C (h b C hb)
theorem Sub.ext {W W' : World} (h : W.Extends W') : Sub W W' := fun b C hb => (h.blk (blk_lt hb)).trans hb
theorem Sub.core (O : Own) (W : World) : Sub (core O W) W := fun b C hb => (core_blk hb).1
theorem Sub.cores {O O' : Own} {W W' : World} (h : ∀ b C, blk W b = some C → O b = .no → blk W' b = some C ∧ O' b = .no) : Sub (Go.Proofs.Qxb6500787aGreat.core O W) (Go.Proofs.Qxb6500787aGreat.core O' W') := fun b C hb => by
  obtain ⟨h1, h2⟩ := core_blk hb
  obtain ⟨h3, h4⟩ := h b C h1 h2
  exact blk_core h3 h4
theorem Rw.sub {α : Type} {en : α → List Value} {sz : Nat} {W W' : World} {a : Option Addr} {n : Nat} {L : List α} (h : Rw en sz W a n L) (hs : Sub W W') : Rw en sz W' a n L := ⟨h.1, fun i x hx => by
  obtain ⟨b, C, h1, h2, h3⟩ := h.2 i x hx
  exact ⟨b, C, h1, hs b C h2, h3⟩⟩
theorem At.sub {α : Type} {e : α → List Value} {sz : Nat} {W W' : World} {b o : Nat} {a : Option Addr} {n : Nat} {L : List α} (h : At e sz W b o a n L) (hs : Sub W W') : At e sz W' b o a n L := ⟨h.1, fun h0 => by
  obtain ⟨h1, C, h2, h3⟩ := h.2 h0
  exact ⟨h1, C, hs b C h2, h3⟩⟩
/-- Only the blocks from n on. -/
def newc (n : Nat) (V : World) : World := core (lab (fun _ => .a 0 0) n .no) V
theorem newc_blk {n : Nat} {V : World} {b : Nat} {C : List Value} (h : blk (newc n V) b = some C) : blk V b = some C ∧ n ≤ b := by
  obtain ⟨h1, h2⟩ := core_blk h
  refine ⟨h1, Nat.le_of_not_lt fun hb => ?_⟩
  rw [lab_lt hb] at h2; cases h2
theorem blk_newc {n : Nat} {V : World} {b : Nat} {C : List Value} (h : blk V b = some C) (hb : n ≤ b) : blk (newc n V) b = some C := blk_core h (lab_ge hb)
theorem newc_core {n : Nat} {V : World} (O : Own) : Sub (newc n V) (core (lab O n .no) V) := fun b C hb => by
  obtain ⟨h1, h2⟩ := newc_blk hb
  exact blk_core h1 (lab_ge h2)
theorem newc_le {n m : Nat} {V : World} (h : n ≤ m) : Sub (newc m V) (newc n V) := fun b C hb => by
  obtain ⟨h1, h2⟩ := newc_blk hb
  exact blk_newc h1 (Nat.le_trans h h2)
theorem newc_ext {n : Nat} {V V' : World} (h : V.Extends V') : Sub (newc n V) (newc n V') := fun b C hb => by
  obtain ⟨h1, h2⟩ := newc_blk hb
  exact blk_newc ((h.blk (blk_lt h1)).trans h1) h2
/-- The program, through a pointer to its cells. -/
theorem newc_sub (n : Nat) (V : World) : Sub (newc n V) V := fun _ _ hb => (newc_blk hb).1
theorem RowL.nw {α : Type} {e : α → List Value} {sz : Nat} (hsz : ∀ x, (e x).length = sz) {B : Nat} {O : Own} {l : Lab} {W : World} {ty : TypeId} {a : Option Addr} {n c : Nat} {K : List α} (h : RowL B O l W ty sz (.slice a n c) K.length (K.flatMap e)) : Rw e sz (newc B W) a n K := (h.rw hsz).1.tocore (fun b C e _ => lab_ge (row_at h.1 b (by rw [e]; rfl)).1)
theorem Fr.grow {L : Lab → Prop} {O : Own} {V V' : World} (he : V.Extends V') : Fr L O V (lab O V.heap.size .no) V' := ⟨he.os, he.tape, he.output, he.size, fun k hk => lab_lt hk, fun k hk _ => he.block k hk⟩

end Go.Proofs.Qxb6500787aGreat
