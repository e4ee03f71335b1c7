
import Derived.Test.Qxb6500787aGreatTh
import Derived.StillTailTactics
import Derived.Deep.QuietTactic
import Derived.BigQuiet
import Derived.Deep.RegionHeld
import Derived.Deep.CutRange
import Derived.Laws.ResultCell
import Derived.Laws.Rows
import Derived.DeepKeys
import Derived.DataBytes
import Derived.Laws.StructEq
import Derived.Laws.AppendOwn
import Derived.Laws.MakeOwn
import Derived.Lib.AppendStr
set_option linter.unusedSimpArgs false
set_option linter.unusedVariables false
namespace Go.Proofs.Qxb6500787aGreat
open Go.RowKit Go.Blk
attribute [local go_sem ↓] execOp_load execOp_store execOp_alloc
attribute [local go_sem] Tryz.ld26 Tryz.st26 Tryz.ld27 Tryz.st27 Tryz.ld28 Tryz.st28 Tryz.ld3 Tryz.st3 Tryz.ld29 Tryz.st29 Tryz.ld44 Tryz.st44 Tryz.ld4 Tryz.st4 Tryz.ld50 Tryz.st50 Tryz.ld32 Tryz.st32 Tryz.ld49 Tryz.st49 Tryz.ld68 Tryz.st68 Tryz.ld9 Tryz.st9 Tryz.ld40 Tryz.st40 Tryz.ld138 Tryz.st138 Tryz.ld139 Tryz.st139 Tryz.ld146 Tryz.st146 Tryz.ld183 Tryz.st183 Tryz.ld184 Tryz.st184 Tryz.ld192 Tryz.st192 Tryz.ld195 Tryz.st195 Tryz.ld217 Tryz.st217 Tryz.ld159 Tryz.st159 Tryz.ld142 Tryz.st142 Tryz.ld2 Tryz.st2 Tryz.ld5 Tryz.st5 Tryz.ld12 Tryz.st12 Tryz.ld21 Tryz.st21 Tryz.ld22 Tryz.st22 Tryz.ld24 Tryz.st24 Tryz.ld58 Tryz.st58 Tryz.ld97 Tryz.st97 Tryz.ld101 Tryz.st101 Tryz.ld116 Tryz.st116 Tryz.ld121 Tryz.st121 Tryz.ld135 Tryz.st135 Tryz.ld136 Tryz.st136 Tryz.ld143 Tryz.st143 Tryz.ld148 Tryz.st148 Tryz.ld154 Tryz.st154 Tryz.ld173 Tryz.st173 Tryz.ld187 Tryz.st187 Tryz.ld222 Tryz.st222 Tryz.ld241 Tryz.st241 Tryz.ld248 Tryz.st248 Tryz.ld268 Tryz.st268 Tryz.ld272 Tryz.st272 Tryz.ld153 Tryz.st153 Tryz.ld255 Tryz.st255 Tryz.ld256 Tryz.st256 Tryz.ld129 Tryz.st129 Tryz.ld152 Tryz.st152 Tryz.ld31 Tryz.st31 Tryz.ld46 Tryz.st46 Tryz.ld52 Tryz.st52 Tryz.ld54 Tryz.st54 Tryz.ld60 Tryz.st60 Tryz.ld70 Tryz.st70 Tryz.ld74 Tryz.st74 Tryz.ld93 Tryz.st93 Tryz.ld141 Tryz.st141 Tryz.ld151 Tryz.st151 Tryz.ld170 Tryz.st170 Tryz.ld186 Tryz.st186 Tryz.ld189 Tryz.st189 Tryz.ld194 Tryz.st194 Tryz.ld197 Tryz.st197 Tryz.ld219 Tryz.st219 Tryz.ld224 Tryz.st224 Tryz.ld230 Tryz.st230 Tryz.ld235 Tryz.st235 Tryz.ld243 Tryz.st243 Tryz.ld247 Tryz.st247 Tryz.ld252 Tryz.st252 Tryz.ld258 Tryz.st258 Tryz.al153 Tryz.al255 Tryz.al256 Tryz.al129 Tryz.al152 Tryz.al31 Tryz.al46 Tryz.al52 Tryz.al54 Tryz.al60 Tryz.al70 Tryz.al74 Tryz.al93 Tryz.al141 Tryz.al151 Tryz.al170 Tryz.al186 Tryz.al189 Tryz.al194 Tryz.al197 Tryz.al219 Tryz.al224 Tryz.al230 Tryz.al235 Tryz.al243 Tryz.al247 Tryz.al252 Tryz.al258
attribute [local go_sem] Request.length_enc Request.ok_enc Request.all_get Request.all_set Request.kind_get Request.kind_set Request.blob_get Request.blob_set Request.items_get Request.items_set Request.pred_get Request.pred_set Request.slots_get Request.slots_set Trace.length_enc Trace.ok_enc Trace.all_get Trace.all_set Trace.op_get Trace.op_set Trace.calls_get Trace.calls_set Item.length_enc Item.ok_enc Item.all_get Item.all_set Item.del_get Item.del_set Item.pred_get Item.pred_set Item.args_get Item.args_set Reply.length_enc Reply.ok_enc Reply.all_get Reply.all_set Reply.code_get Reply.code_set Reply.kind_get Reply.kind_set Reply.index_get Reply.index_set Reply.yes_get Reply.yes_set Reply.preds_get Reply.preds_set Reply.rules_get Reply.rules_set Reply.arity_get Reply.arity_set Reply.rows_get Reply.rows_set Reply.fact_get Reply.fact_set Reply.fact_del_get Reply.fact_del_set Reply.fact_pred_get Reply.fact_pred_set Reply.fact_args_get Reply.fact_args_set GEntry.length_enc GEntry.ok_enc GEntry.all_get GEntry.all_set GEntry.seq_get GEntry.seq_set GEntry.kind_get GEntry.kind_set GEntry.code_get GEntry.code_set GOp.length_enc GOp.ok_enc GOp.all_get GOp.all_set GOp.kind_get GOp.kind_set GOp.raw_get GOp.raw_set Reader.length_enc Reader.ok_enc Reader.all_get Reader.all_set Reader.buf_get Reader.buf_set Reader.at__get Reader.at__set Slot.length_enc Slot.ok_enc Slot.all_get Slot.all_set Slot.bound_get Slot.bound_set Slot.name_get Slot.name_set Session.length_enc Session.ok_enc Session.all_get Session.all_set Session.svc_get Session.svc_set Session.buf_get Session.buf_set Session.closed_get Session.closed_set GProgram.length_enc GProgram.ok_enc GProgram.all_get GProgram.all_set GProgram.pool_get GProgram.pool_set GProgram.preds_get GProgram.preds_set GProgram.rules_get GProgram.rules_set GProgram.strata_get GProgram.strata_set PredInfo.length_enc PredInfo.ok_enc PredInfo.all_get PredInfo.all_set PredInfo.arity_get PredInfo.arity_set PredInfo.base_get PredInfo.base_set PredInfo.stratum_get PredInfo.stratum_set Change.length_enc Change.ok_enc Change.all_get Change.all_set Change.del_get Change.del_set Change.pred_get Change.pred_set Change.t_get Change.t_set Store.length_enc Store.ok_enc Store.all_get Store.all_set Store.names_get Store.names_set Store.arity_get Store.arity_set Store.rows_get Store.rows_set Src.length_enc Src.ok_enc Src.all_get Src.all_set Src.b_get Src.b_set Src.at__get Src.at__set Atom.length_enc Atom.ok_enc Atom.all_get Atom.all_set Atom.pred_get Atom.pred_set Atom.args_get Atom.args_set GRule.length_enc GRule.ok_enc GRule.all_get GRule.all_set GRule.head_get GRule.head_set GRule.body_get GRule.body_set GRule.head_pred_get GRule.head_pred_set GRule.head_args_get GRule.head_args_set Cert.length_enc Cert.ok_enc Cert.all_get Cert.all_set Cert.names_get Cert.names_set Cert.nodes_get Cert.nodes_set Fact.length_enc Fact.ok_enc Fact.all_get Fact.all_set Fact.pred_get Fact.pred_set Fact.t_get Fact.t_set Literal.length_enc Literal.ok_enc Literal.all_get Literal.all_set Literal.neg_get Literal.neg_set Literal.atom_get Literal.atom_set Literal.atom_pred_get Literal.atom_pred_set Literal.atom_args_get Literal.atom_args_set Engine.length_enc Engine.ok_enc Engine.all_get Engine.all_set Engine.prog_get Engine.prog_set Engine.st_get Engine.st_set SrcCertm.length_enc SrcCertm.ok_enc SrcCertm.all_get SrcCertm.all_set SrcCertm.b_get SrcCertm.b_set SrcCertm.at__get SrcCertm.at__set GNode.length_enc GNode.ok_enc GNode.all_get GNode.all_set GNode.rule_get GNode.rule_set GNode.pred_get GNode.pred_set GNode.vals_get GNode.vals_set GNode.refs_get GNode.refs_set Term.length_enc Term.ok_enc Term.all_get Term.all_set Term.var_get Term.var_set Term.n_get Term.n_set Env.length_enc Env.ok_enc Env.all_get Env.all_set Env.val_get Env.val_set Env.set_get Env.set_set
attribute [local go_sem] size_put size_ext blk_put free_put blk_alloc free_alloc blk_drew free_drew blk_ext free_ext lookOr_some putOr_some segAt_some cellAt_some storeIn_some put_put put_alloc_new length_arr ok_arr_u8 ok_arr_u32 ok_arr_u64 ok_arr_i64 ok_arr_sl cellsV_agg cellsV_int cellsV_bool cellsV_string cellsV_pointer cellsV_slice cellsV_sl ok_int ok_bool ok_string ok_pointer ok_slice ok_sl toList_arr seg_arr set_arr nth_splice nth_splice0 seg_splice seg_splice0 splice_splice splice_splice0 length_splice_if
attribute [local go_sem ↓] execOp_box
attribute [local go_sem] box_run nth_arr_u8 put_arr_u8 blk_drewN free_drewN put_drewN blk_raw free_raw
theorem rep_cells (n : Nat) (C : List Value) (hl : C.length = n) (h : ∀ k, k < n → nth C k = some (.slice none 0 0)) : C = List.replicate n (.slice none 0 0) := by
  apply List.ext_getElem?
  intro i
  rw [List.getElem?_replicate]
  by_cases hi : i < n
  · rw [if_pos hi]; exact h i hi
  · rw [if_neg hi, List.getElem?_eq_none (by omega)]
theorem make184 (w : World) (n : Nat) (hn : n ≤ 100) : (makeOp 265 (.int .i64 (n : Int)) (.int .i64 (n : Int))).run Tryz.prog w = .ok (.value (.slice (some ⟨w.heap.size, 0, none⟩) n n)) (w.alloc (.cells (Array.replicate n (Value.slice none 0 0)) 257)) := by
  obtain ⟨i, hi, hz, hsz, hby⟩ : ∃ i, Tryz.prog.info? 257 = some i ∧ i.zero = some (.slice none 0 0) ∧ i.size = 1 ∧ i.bytes = 24 := by
    have hq : (Tryz.prog.info? 257).map (fun i => (i.zero, i.size, i.bytes)) = some (some (.slice none 0 0), 1, 24) := by kernel_rfl
    cases hx : Tryz.prog.info? 257 with
    | none => rw [hx] at hq; simp at hq
    | some i =>
      rw [hx] at hq
      simp only [Option.map_some, Option.some.injEq, Prod.mk.injEq] at hq
      exact ⟨i, rfl, hq.1, hq.2.1, hq.2.2⟩
  have hr := run_make (P := Tryz.prog) w 265 257 i _ Tryz.underlying265 hi hz .i64 .i64 (n : Int) (n : Int) (by omega) (by omega) (by rw [hby]; omega) (by omega)
  have hC := rep_cells n (madeCells (Value.slice none 0 0).cells (n * 1)).toList (by rw [Array.length_toList, size_madeCells, Nat.mul_one]) (fun k hk => by
    unfold nth madeCells
    rw [Array.getElem?_toList, Array.getElem?_map, Array.getElem?_range]
    simp only [Nat.mul_one, hk, if_true, Option.map_some]
    simp [Value.cells, Nat.mod_one])
  have hC2 : madeCells (Value.slice none 0 0).cells (n * 1) = Array.replicate n (Value.slice none 0 0) := by
    rw [← List.toArray_replicate, ← hC, Array.toArray_toList]
  unfold makeOp
  rw [Sem.run_bind, hr, hsz, Int.toNat_natCast, hC2]
  rfl
theorem seg_nth1 {C : List Value} {i : Nat} {v : Value} (h : nth C i = some v) : seg C i 1 = [v] := by
  unfold nth at h
  unfold seg
  obtain ⟨hi, e⟩ := List.getElem?_eq_some_iff.1 h
  rw [List.drop_eq_getElem_cons hi, e]
  rfl
abbrev isRo (l : Lab) : Prop := ∃ m, l = .a 8 m
theorem isRo_no : ¬ isRo .no := by rintro ⟨m, e⟩; cases e
/-- Rows of rows of their own: they may grow. -/
structure RelO (W0 : World) (bo : Nat) (R : List (List Tup)) (O : Own) (V : World) : Prop where
  ext : W0.Extends V
  new : W0.heap.size ≤ bo
  old : ∀ k, k < W0.heap.size → O k = .no
  lab : O bo = .a 8 0
  free : free V bo = true
  rows : ∃ C, blk V bo = some C ∧ C.length = R.length ∧ ∀ q L, R[q]? = some L → ∃ a c, nth C q = some (.slice a L.length c) ∧ RowL W0.heap.size O (.a 8 (q + 1)) V 214 4 (.slice a L.length c) L.length (L.flatMap tpl)
theorem RelO.grow {W0 : World} {bo : Nat} {R : List (List Tup)} {O : Own} {V V' : World} (h : RelO W0 bo R O V) (he : V.Extends V') : RelO W0 bo R (Go.Proofs.Qxb6500787aGreat.lab O V.heap.size .no) V' := by
  obtain ⟨C, h1, h2, h3⟩ := h.rows
  have hlt := blk_lt h1
  refine ⟨h.ext.trans he, h.new, fun k hk => ?_, by rw [lab_lt hlt]; exact h.lab, (free_of_heap (he.block bo hlt)).trans h.free, C, (he.blk hlt).trans h1, h2, fun q L hq => ?_⟩
  · rw [lab_lt (Nat.lt_of_lt_of_le hk h.ext.size)]; exact h.old k hk
  · obtain ⟨a, c, g1, g2⟩ := h3 q L hq
    exact ⟨a, c, g1, g2.keep (fun k hk _ => ⟨he.block k hk, lab_lt hk⟩)⟩
def slOf : Value → Sl
  | .slice a n c => ⟨a, n, c⟩
  | _ => ⟨none, 0, 0⟩
theorem RelO.relN {W0 : World} {bo : Nat} {R : List (List Tup)} {O : Own} {V : World} (h : RelO W0 bo R O V) : RelR (newc W0.heap.size V) (some ⟨bo, 0, none⟩) R.length R := by
  obtain ⟨C, h1, h2, h3⟩ := h.rows
  have key : ∀ (q : Nat) (d : Sl) (L : List Tup), (C.map slOf)[q]? = some d → R[q]? = some L → ∃ a c, d = ⟨a, L.length, c⟩ ∧ nth C q = some (.slice a L.length c) ∧ Rw tpl 4 (newc W0.heap.size V) a L.length L := fun q d L hd hq => by
    obtain ⟨a, c, g1, g2⟩ := h3 q L hq
    refine ⟨a, c, ?_, g1, g2.nw tpl_len⟩
    have g1' : C[q]? = some (.slice a L.length c) := g1
    rw [List.getElem?_map, g1'] at hd
    exact (Option.some.inj hd).symm
  refine ⟨C.map slOf, ⟨by rw [List.length_map, h2], fun q d hd => ?_⟩, by rw [List.length_map, h2], fun q d L hd hq => ?_⟩
  · have hq : q < R.length := by
      have := (List.getElem?_eq_some_iff.1 hd).1
      rw [List.length_map] at this; omega
    obtain ⟨a, c, rfl, g1, g2⟩ := key q d _ hd (List.getElem?_eq_getElem hq)
    refine ⟨bo, C, rfl, blk_newc h1 h.new, by omega, ?_⟩
    rw [Nat.mul_one]
    exact seg_nth1 g1
  · obtain ⟨a, c, rfl, g1, g2⟩ := key q d L hd hq
    exact g2
theorem RelO.relR {W0 : World} {bo : Nat} {R : List (List Tup)} {O : Own} {V : World} (h : RelO W0 bo R O V) : RelR V (some ⟨bo, 0, none⟩) R.length R := h.relN.sub (newc_sub _ _)
theorem RelO.drew {W0 : World} {bo : Nat} {R : List (List Tup)} {O : Own} {V : World} (h : RelO W0 bo R O V) : RelO W0 bo R O V.drew := by
  obtain ⟨C, h1, h2, h3⟩ := h.rows
  exact ⟨extends_drew h.ext, h.new, h.old, h.lab, h.free, C, h1, h2, fun q L hq => by
    obtain ⟨a, c, g1, g2⟩ := h3 q L hq
    exact ⟨a, c, g1, g2.keep (fun _ _ _ => ⟨rfl, rfl⟩)⟩⟩
/-- A row's slice is written over with that of a row in new memory. -/
theorem RelO.set {W0 : World} {bo : Nat} {R : List (List Tup)} {O : Own} {V V1 : World} (h : RelO W0 bo R O V) {q : Nat} (hq : q < R.length) {a : Option Addr} {n c : Nat} {ts : List Tup} (ho : Outs V V1 a n c ts) : ∃ C O', blk V1 bo = some C ∧ C.length = R.length ∧ Blk.free V1 bo = true ∧ Fr isRo O V O' V1 ∧ RelO W0 bo (R.set q ts) O' (put V1 bo (splice C q [.slice a n c])) := by
  obtain ⟨C, h1, h2, h3⟩ := h.rows
  have hlt := blk_lt h1
  have he := ho.2.1
  have hn := ho.2.2
  have n0 : ∀ x, ¬ (Lab.a 8 0 = .a 8 (x + 1)) := fun x e => by have := (Lab.a.inj e).2; omega
  have hO : Go.Proofs.Qxb6500787aGreat.lab O V.heap.size (.a 8 (q + 1)) bo = .a 8 0 := by rw [lab_lt hlt]; exact h.lab
  have hb : blk V1 bo = some C := (he.blk hlt).trans h1
  have hf : Blk.free V1 bo = true := (free_of_heap (he.block bo hlt)).trans h.free
  refine ⟨C, Go.Proofs.Qxb6500787aGreat.lab O V.heap.size (.a 8 (q + 1)), hb, h2, hf, ⟨he.os, he.tape, he.output, he.size, fun k hk => lab_lt hk, fun k hk _ => he.block k hk⟩, ?_⟩
  have hkeep : ∀ {x : Nat} {v : Value} {k : Nat} {xs : List Value}, RowL W0.heap.size (Go.Proofs.Qxb6500787aGreat.lab O V.heap.size (.a 8 (q + 1))) (.a 8 (x + 1)) V1 214 4 v k xs → RowL W0.heap.size (Go.Proofs.Qxb6500787aGreat.lab O V.heap.size (.a 8 (q + 1))) (.a 8 (x + 1)) (put V1 bo (splice C q [.slice a n c])) 214 4 v k xs := fun hr => hr.keep (fun b hb hl => ⟨by
    rw [heap_put, if_neg (fun e : b = bo => by rw [e, hO] at hl; exact n0 _ hl)], rfl⟩)
  refine ⟨extends_put (h.ext.trans he) h.new _, h.new, fun k hk => by rw [lab_lt (Nat.lt_of_lt_of_le hk h.ext.size)]; exact h.old k hk, hO, by rw [free_put]; exact hf, splice C q [.slice a n c], by rw [blk_put, if_pos rfl, hb]; rfl, by rw [length_splice1 (by omega), List.length_set]; exact h2, fun x L hx => ?_⟩
  rw [splice_nth (by omega)]
  by_cases hxq : x = q
  · subst hxq
    rw [List.getElem?_set_self hq] at hx
    obtain rfl : ts = L := Option.some.inj hx
    rw [if_pos rfl]
    refine ⟨a, c, by rw [hn], hkeep ⟨row_base (by rw [← hn]; exact (by rw [hn]; have := ho.1; rw [hn] at this; exact this)) h.ext.size, fun k hk => lab_ge ?_⟩⟩
    rw [hn.symm] at hk
    exact (row_at ho.1 k hk).1
  · rw [List.getElem?_set_ne (fun e => hxq e.symm)] at hx
    rw [if_neg hxq]
    obtain ⟨a2, c2, k1, k2⟩ := h3 x L hx
    exact ⟨a2, c2, k1, hkeep (k2.keep (fun k hk _ => ⟨he.block k hk, lab_lt hk⟩))⟩
/-- The relations with one more row. -/
def addR (R : List (List Tup)) (q : Nat) (t : Tup) : List (List Tup) := R.set q (rowsAt R q ++ [t])
theorem RelO.app {W0 : World} {bo : Nat} {R : List (List Tup)} {O : Own} {V : World} (h : RelO W0 bo R O V) {q : Nat} {L : List Tup} (hq : R[q]? = some L) (t : Tup) (hl : L.length ≤ 10000000000) : ∃ C a c a' c' V' O', blk V bo = some C ∧ q < C.length ∧ nth C q = some (.slice a L.length c) ∧ (Builtin.append_ #[257, 257] 257 #[.slice a L.length c, .slice (some ⟨V.heap.size, 0, none⟩) 1 1]).run Tryz.prog (V.alloc (.cells (arr i64v t).toArray 214)) = .ok (.slice a' (L.length + 1) c') V' ∧ blk V' bo = some C ∧ Blk.free V' bo = true ∧ Fr isRo O V O' V' ∧ Fr isRo O V O' (put V' bo (splice C q [.slice a' (L.length + 1) c'])) ∧ RelO W0 bo (addR R q t) O' (put V' bo (splice C q [.slice a' (L.length + 1) c'])) := by
  obtain ⟨C, h1, h2, h3⟩ := h.rows
  obtain ⟨a, c, g1, g2⟩ := h3 q L hq
  have hql : q < R.length := (List.getElem?_eq_some_iff.1 hq).1
  obtain ⟨a', c', V', hrun, hrow, hfr⟩ := appL tpl 4 32 257 214 Tryz.underlying257 info153 tpl_len tpl_one (by omega) (by omega) 257 t g2 h.ext.size hl (arr i64v t).toArray rfl 1
  have hlt := blk_lt h1
  have n0 : ∀ x, ¬ (Lab.a 8 0 = .a 8 (x + 1)) := fun x e => by have := (Lab.a.inj e).2; omega
  have hb : blk V' bo = some C := hfr.blk h1 (by rw [h.lab]; exact n0 q)
  have hf : Blk.free V' bo = true := hfr.free h1 h.free (by rw [h.lab]; exact n0 q)
  have hF1 : Fr isRo O V (Go.Proofs.Qxb6500787aGreat.lab O V.heap.size (.a 8 (q + 1))) V' := hfr.mono (fun l e => ⟨q + 1, e⟩)
  have hO : Go.Proofs.Qxb6500787aGreat.lab O V.heap.size (.a 8 (q + 1)) bo = .a 8 0 := by rw [lab_lt hlt]; exact h.lab
  refine ⟨C, a, c, a', c', V', _, h1, by omega, g1, hrun, hb, hf, hF1, hF1.put (by rw [hO]; exact ⟨0, rfl⟩) _, ?_⟩
  have hkeep : ∀ {x : Nat} {v : Value} {k : Nat} {xs : List Value}, RowL W0.heap.size (Go.Proofs.Qxb6500787aGreat.lab O V.heap.size (.a 8 (q + 1))) (.a 8 (x + 1)) V' 214 4 v k xs → RowL W0.heap.size (Go.Proofs.Qxb6500787aGreat.lab O V.heap.size (.a 8 (q + 1))) (.a 8 (x + 1)) (put V' bo (splice C q [.slice a' (L.length + 1) c'])) 214 4 v k xs := fun hr => hr.keep (fun b hb hl => ⟨by
    rw [heap_put, if_neg (fun e : b = bo => by rw [e, hO] at hl; exact n0 _ hl)], rfl⟩)
  have hra : rowsAt R q = L := rowsAt_some hq
  refine ⟨extends_put (hfr.extends h.ext (fun k hk e => by rw [h.old k hk] at e; cases e)) h.new _, h.new, fun k hk => by rw [lab_lt (Nat.lt_of_lt_of_le hk h.ext.size)]; exact h.old k hk, hO, by rw [free_put]; exact hf, splice C q [.slice a' (L.length + 1) c'], by rw [blk_put, if_pos rfl, hb]; rfl, by rw [length_splice1 (by omega)]; unfold addR; rw [List.length_set]; exact h2, fun x K hx => ?_⟩
  rw [splice_nth (by omega)]
  unfold addR at hx
  by_cases hxq : x = q
  · subst hxq
    rw [List.getElem?_set_self hql, hra] at hx
    obtain rfl : L ++ [t] = K := Option.some.inj hx
    rw [if_pos rfl]
    have hm : (L ++ [t]).length = L.length + 1 := by rw [List.length_append, List.length_singleton]
    rw [hm]
    rw [hm] at hrow
    exact ⟨a', c', rfl, hkeep hrow⟩
  · rw [List.getElem?_set_ne (fun e => hxq e.symm)] at hx
    rw [if_neg hxq]
    obtain ⟨a2, c2, k1, k2⟩ := h3 x K hx
    exact ⟨a2, c2, k1, hkeep (k2.fr hfr (fun e => hxq (by have := (Lab.a.inj e).2; omega)))⟩
theorem relO_new (W : World) (n : Nat) (V : World) (he : W.Extends V) (bo : Nat) (hb : blk V bo = some (List.replicate n (Value.slice none 0 0))) (hf : free V bo = true) (hn : W.heap.size ≤ bo) : RelO W bo (List.replicate n []) (lab (fun _ => .no) W.heap.size (.a 8 0)) V :=
  ⟨he, hn, fun k hk => lab_lt hk, lab_ge hn, hf, _, hb, by simp, fun q L hq => by
    rw [List.getElem?_replicate] at hq
    by_cases h : q < n
    · rw [if_pos h] at hq
      obtain rfl : [] = L := Option.some.inj hq
      exact ⟨none, 0, by unfold nth; rw [List.getElem?_replicate, if_pos h]; rfl, RowL.nil _ _ _ _ _ _⟩
    · rw [if_neg h] at hq; cases hq⟩
theorem run_app_none (w : World) (c : Nat) : (Builtin.append_ #[257, 257] 257 #[.slice none 0 0, .slice none 0 c]).run Tryz.prog w = .ok (.slice none 0 0) w := by
  obtain ⟨i, z, hi, hz, hsz, hby, hzc⟩ := info153
  simp [Builtin.append_, run_underlying Tryz.underlying257, sizeOf, typeInfo, hi, Builtin.lenOf, Builtin.firstCells, loadCells, loadCellsFrom]
/-- A copy of a row of tuples. -/
theorem copyL {V : World} {a : Option Addr} {n : Nat} {L : List Tup} (h : Rw tpl 4 V a n L) (hl : L.length ≤ 10000000000) (c : Nat) : ∃ a' c' V', (Builtin.append_ #[257, 257] 257 #[.slice none 0 0, .slice a n c]).run Tryz.prog V = .ok (.slice a' n c') V' ∧ Outs V V' a' n c' L := by
  have hn := h.1
  cases a with
  | none =>
    have : L = [] := by
      cases L with
      | nil => rfl
      | cons x L =>
        obtain ⟨b, C, e, _⟩ := h.2 0 x rfl
        cases e
    subst this
    obtain rfl : 0 = n := hn
    exact ⟨none, 0, V, run_app_none V c, Outs.nil V V (ext_Ext (Ext.refl _))⟩
  | some ad =>
    obtain ⟨i, z, hi, hz, hsz, hby, hzc⟩ := info153
    have hnews : ∃ ad', ad' = ad ∧ ∀ (j : Nat) (u : Value), (L.flatMap tpl)[j]? = some u → V.cell? (ad'.add j) = some u := by
      refine ⟨ad, rfl, fun j u hu => ?_⟩
      cases hL : L with
      | nil => rw [hL] at hu; simp at hu
      | cons x M =>
        obtain ⟨b, C, e, hb, hc, _⟩ := h.2 0 x (by rw [hL]; rfl)
        obtain rfl : ad = ⟨b, 0, none⟩ := Option.some.inj e
        have hft := flat_take tpl 4 tpl_len L C (by rw [hn]; exact hc) (fun i x hx => by
          obtain ⟨b', C', e', hb', _, hs⟩ := h.2 i x hx
          have e9 : b = b' := congrArg Addr.block (Option.some.inj e')
          subst e9
          rw [hb] at hb'
          have e8 := Option.some.inj hb'
          rw [e8]; exact hs)
        rw [add_addr, cell_blk hb, Nat.zero_add]
        rw [← hft, List.getElem?_take] at hu
        split at hu
        · exact hu
        · cases hu
    obtain ⟨ad', rfl, hnews⟩ := hnews
    have hfl : (L.flatMap tpl).length = n * 4 := by
      rw [← hn]
      clear hnews h hl hn
      induction L with
      | nil => rfl
      | cons x L ih => rw [List.flatMap_cons, List.length_append, ih, tpl_len, List.length_cons]; omega
    obtain ⟨v', V', hr, h1, h2, h3⟩ := run_append_own (P := Tryz.prog) V V.heap.size 257 257 214 i z 4 32 Tryz.underlying257 hi hz hsz hby hzc (by omega) (.slice none 0 0) 0 [] (World.ownsRow_nil _ _ _ _) ad' n c (L.flatMap tpl) hfl hnews (fun u hu => by
      obtain ⟨t, ht, hu⟩ := List.mem_flatMap.1 hu
      exact List.all_eq_true.1 (tpl_one t) u hu) (by simp only [maxLen]; omega) (by omega) (Nat.le_refl _)
    rw [Nat.zero_add, List.nil_append] at h1
    obtain ⟨a', c', rfl⟩ := row_val h1
    exact ⟨a', c', V', hr, by rw [hn]; exact h1, grown_ext (ext_Ext (Ext.refl _)) h2 (fun k hk => by simp [Value.ownBlock] at hk), hn.symm⟩
/-- A program, plainly. -/
structure PP where
  pool : List (List UInt8)
  preds : List PredInfo
  rules : List PR
  strata : Int
/-- A program's cells. -/
def PgR (W : World) (Ce : List Value) (p : PP) : Prop := ∃ sp sd sr : Sl, nth Ce 0 = some sp.val ∧ nth Ce 1 = some sd.val ∧ nth Ce 2 = some sr.val ∧ nth Ce 3 = some (.int .i64 p.strata) ∧ Rw encS 1 W sp.a sp.len p.pool ∧ Rw PredInfo.enc 3 W sd.a sd.len p.preds ∧ ∃ Rs : List GRule, Rw GRule.enc 3 W sr.a sr.len Rs ∧ Rs.length = p.rules.length ∧ ∀ (i : Nat) (x : GRule) (r : PR), Rs[i]? = some x → p.rules[i]? = some r → RuleC W x r
def ProgC (W : World) (bp : Nat) (p : PP) : Prop := ∃ Ce, blk W bp = some Ce ∧ 4 ≤ Ce.length ∧ PgR W Ce p
theorem PgR.sub {W W' : World} {Ce : List Value} {p : PP} (h : PgR W Ce p) (hs : Sub W W') : PgR W' Ce p := by
  obtain ⟨sp, sd, sr, h1, h2, h3, h4, h5, h6, Rs, h7, h8, h9⟩ := h
  exact ⟨sp, sd, sr, h1, h2, h3, h4, h5.sub hs, h6.sub hs, Rs, h7.sub hs, h8, fun i x r hx hr => (h9 i x r hx hr).sub hs⟩
theorem ProgC.sub {W W' : World} {bp : Nat} {p : PP} (h : ProgC W bp p) (hs : Sub W W') : ProgC W' bp p := by
  obtain ⟨Ce, h1, h2, h3⟩ := h
  exact ⟨Ce, hs _ _ h1, h2, h3.sub hs⟩
theorem ProgC.ext {W W' : World} {bp : Nat} {p : PP} (h : ProgC W bp p) (hs : W.Extends W') : ProgC W' bp p := h.sub (Sub.ext hs)
/-- The cells of a program, with lengths. -/
theorem ProgC.cells {W : World} {bp : Nat} {p : PP} (h : ProgC W bp p) : ∃ Ce pa pc da dc ra rc, blk W bp = some Ce ∧ 4 ≤ Ce.length ∧ nth Ce 0 = some (.slice pa p.pool.length pc) ∧ nth Ce 1 = some (.slice da p.preds.length dc) ∧ nth Ce 2 = some (.slice ra p.rules.length rc) ∧ nth Ce 3 = some (.int .i64 p.strata) ∧ Rw encS 1 W pa p.pool.length p.pool ∧ Rw PredInfo.enc 3 W da p.preds.length p.preds ∧ (∀ (i : Nat) (r : PR), p.rules[i]? = some r → ∃ b C x, ra = some ⟨b, 0, none⟩ ∧ blk W b = some C ∧ i * 3 + 3 ≤ C.length ∧ seg C (i * 3) 3 = x.enc ∧ nth C (i * 3) = some (.int .i64 (r.head.pred : Int)) ∧ RuleC W x r) := by
  obtain ⟨Ce, c1, c2, sp, sd, sr, h1, h2, h3, h4, h5, h6, Rs, h7, h8, h9⟩ := h
  have e1 : sp.len = p.pool.length := h5.1.symm
  have e2 : sd.len = p.preds.length := h6.1.symm
  have e3 : sr.len = p.rules.length := by rw [← h8]; exact h7.1.symm
  refine ⟨Ce, sp.a, sp.cap, sd.a, sd.cap, sr.a, sr.cap, c1, c2, by rw [h1, ← e1]; rfl, by rw [h2, ← e2]; rfl, by rw [h3, ← e3]; rfl, h4, by rw [← e1]; exact h5, by rw [← e2]; exact h6, fun i r hr => ?_⟩
  have hi : i < Rs.length := by rw [h8]; exact (List.getElem?_eq_some_iff.1 hr).1
  obtain ⟨x, hx⟩ : ∃ x, Rs[i]? = some x := ⟨_, List.getElem?_eq_getElem hi⟩
  obtain ⟨b, C, k1, k2, k3, k4⟩ := h7.2 i x hx
  have hR := h9 i x r hx hr
  have h5 : (i + 1) * 3 ≤ sr.len * 3 := Nat.mul_le_mul_right _ (by have := h7.1; omega)
  refine ⟨b, C, x, k1, k2, by omega, k4, ?_, hR⟩
  have := nth_in (j := 0) k4 (GRule.head_pred_get x) (by omega)
  rw [hR.1.1] at this; exact this
theorem pred_at {W : World} {a : Option Addr} {n : Nat} {P : List PredInfo} (h : Rw PredInfo.enc 3 W a n P) {q : Nat} {x : PredInfo} (hx : P[q]? = some x) : ∃ b C, a = some ⟨b, 0, none⟩ ∧ blk W b = some C ∧ q * 3 + 3 ≤ C.length ∧ nth C (q * 3) = some (.int .i64 x.arity) ∧ nth C (q * 3 + 1) = some (.bool x.base) ∧ nth C (q * 3 + 2) = some (.int .i64 x.stratum) ∧ q < n := by
  obtain ⟨b, C, k1, k2, k3, k4⟩ := h.2 q x hx
  have hq : q < P.length := (List.getElem?_eq_some_iff.1 hx).1
  have h5 : (q + 1) * 3 ≤ n * 3 := Nat.mul_le_mul_right _ (by have := h.1; omega)
  exact ⟨b, C, k1, k2, by omega, nth_in (j := 0) k4 (PredInfo.arity_get x) (by omega), nth_in (j := 1) k4 (PredInfo.base_get x) (by omega), nth_in (j := 2) k4 (PredInfo.stratum_get x) (by omega), by have := h.1; omega⟩
def pI (p : PP) (q : Nat) : PredInfo := p.preds.getD q PredInfo.zero
theorem pI_at {p : PP} {q : Nat} (h : q < p.preds.length) : p.preds[q]? = some (pI p q) := by
  unfold pI
  rw [List.getD_eq_getElem?_getD, List.getElem?_eq_getElem h]; rfl
/-- A program that the verifier let through, as far as evaluation needs it. -/
structure PPok (p : PP) : Prop where
  nD : p.preds.length ≤ 64
  nR : p.rules.length ≤ 128
  nP : p.pool.length ≤ 256
  st : 1 ≤ p.strata ∧ p.strata ≤ 65
  ar : ∀ x ∈ p.preds, 0 ≤ x.arity ∧ x.arity ≤ 4
  rl : ∀ r ∈ p.rules, RFit p.preds.length r ∧ r.head.pred < p.preds.length
/-- One tuple found. -/
def stepT (h : Nat) (X : List (List Tup) × Bool) (t : Tup) : List (List Tup) × Bool := if t ∈ rowsAt X.1 h then X else (addR X.1 h t, true)
/-- What a rule finds. -/
def fnd (R : List (List Tup)) (r : PR) : List Tup := goM R r.body r.head r.body Env.zero []
/-- The rules of a stratum, one after the other. -/
def rnd (p : PP) (s : Nat) : List PR → List (List Tup) × Bool → List (List Tup) × Bool × Bool
  | [], X => (X.1, X.2, false)
  | r :: rs, X => if (pI p r.head.pred).stratum ≠ (s : Int) then rnd p s rs X else
      let Y := (fnd X.1 r).foldl (stepT r.head.pred) X
      if overB Y.1 then (Y.1, Y.2, true) else rnd p s rs Y
inductive PerfTo (p : PP) : Nat → List (List Tup) → List (List Tup) → Prop where
  | fin (s : Nat) (R : List (List Tup)) : ¬ (s : Int) < p.strata → PerfTo p s R R
  | stop (s : Nat) (R R1 : List (List Tup)) (g : Bool) : (s : Int) < p.strata → rnd p s p.rules (R, false) = (R1, g, true) → PerfTo p s R R1
  | again (s : Nat) (R R1 R2 : List (List Tup)) : (s : Int) < p.strata → rnd p s p.rules (R, false) = (R1, true, false) → PerfTo p s R1 R2 → PerfTo p s R R2
  | next (s : Nat) (R R1 R2 : List (List Tup)) : (s : Int) < p.strata → rnd p s p.rules (R, false) = (R1, false, false) → PerfTo p (s + 1) R1 R2 → PerfTo p s R R2
theorem PerfTo.det {p : PP} {s : Nat} {R R1 R2 : List (List Tup)} (h : PerfTo p s R R1) : PerfTo p s R R2 → R1 = R2 := by
  induction h generalizing R2 with
  | fin s R hs => intro h; cases h with
    | fin => rfl
    | stop _ _ _ _ hs' _ => exact absurd hs' hs
    | again _ _ _ _ hs' _ _ => exact absurd hs' hs
    | next _ _ _ _ hs' _ _ => exact absurd hs' hs
  | stop s R R1 g hs hr => intro h; cases h with
    | fin _ _ hs' => exact absurd hs hs'
    | stop _ _ _ _ _ hr' => rw [hr] at hr'; exact (Prod.mk.inj hr').1
    | again _ _ _ _ _ hr' _ => rw [hr] at hr'; exact absurd (Prod.mk.inj (Prod.mk.inj hr').2).2 (by decide)
    | next _ _ _ _ _ hr' _ => rw [hr] at hr'; exact absurd (Prod.mk.inj (Prod.mk.inj hr').2).2 (by decide)
  | again s R R1 R2' hs hr _ ih => intro h; cases h with
    | fin _ _ hs' => exact absurd hs hs'
    | stop _ _ _ _ _ hr' => rw [hr] at hr'; exact absurd (Prod.mk.inj (Prod.mk.inj hr').2).2 (by decide)
    | again _ _ _ _ _ hr' h' => rw [hr] at hr'; obtain rfl := (Prod.mk.inj hr').1; exact ih h'
    | next _ _ _ _ _ hr' _ => rw [hr] at hr'; exact absurd (Prod.mk.inj (Prod.mk.inj hr').2).1 (by decide)
  | next s R R1 R2' hs hr _ ih => intro h; cases h with
    | fin _ _ hs' => exact absurd hs hs'
    | stop _ _ _ _ _ hr' => rw [hr] at hr'; exact absurd (Prod.mk.inj (Prod.mk.inj hr').2).2 (by decide)
    | again _ _ _ _ _ hr' h' => rw [hr] at hr'; exact absurd (Prod.mk.inj (Prod.mk.inj hr').2).1 (by decide)
    | next _ _ _ _ _ hr' h' => rw [hr] at hr'; obtain rfl := (Prod.mk.inj hr').1; exact ih h'
/-- All lists are without repetition and of constants, and there are as many as predicates. -/
def RInv (p : PP) (R : List (List Tup)) : Prop := SOk R ∧ R.length = p.preds.length
theorem mem_set_cases {α : Type} {L : List α} {q : Nat} {x y : α} (h : y ∈ L.set q x) : y = x ∨ y ∈ L := by
  rcases List.mem_or_eq_of_mem_set h with h | h
  · exact .inr h
  · exact .inl h
theorem RInv.add {p : PP} {R : List (List Tup)} (h : RInv p R) {q : Nat} {t : Tup} (hm : t ∉ rowsAt R q) (ht : TOk t) : RInv p (addR R q t) := by
  refine ⟨fun L hL => ?_, by unfold addR; rw [List.length_set]; exact h.2⟩
  unfold addR at hL
  rcases mem_set_cases hL with rfl | hL
  · have := (h.1.at q).add ht
    unfold addT at this
    rw [if_neg hm] at this; exact this
  · exact h.1 L hL
theorem step_inv {p : PP} {h : Nat} : ∀ (ts : List Tup) (X : List (List Tup) × Bool), (∀ t ∈ ts, TOk t) → RInv p X.1 → RInv p (ts.foldl (stepT h) X).1
  | [], X, _, hI => hI
  | t :: ts, X, ht, hI => by
    rw [List.foldl_cons]
    refine step_inv ts _ (fun x hx => ht x (List.mem_cons_of_mem _ hx)) ?_
    unfold stepT
    by_cases hm : t ∈ rowsAt X.1 h
    · rw [if_pos hm]; exact hI
    · rw [if_neg hm]; exact hI.add hm (ht t (List.mem_cons_self ..))
theorem fnd_ok {p : PP} (hp : PPok p) {R : List (List Tup)} (hI : RInv p R) {r : PR} (hr : r ∈ p.rules) : OutOk (fnd R r) := goM_ok hI.1 (hp.rl r hr).1.1 _ _ _ (fun z hz => ((hp.rl r hr).1.2.2 z hz).1) eok_zero outOk_nil
theorem rnd_inv {p : PP} (hp : PPok p) {s : Nat} : ∀ (rs : List PR) (X : List (List Tup) × Bool), (∀ r ∈ rs, r ∈ p.rules) → RInv p X.1 → RInv p (rnd p s rs X).1
  | [], X, _, hI => hI
  | r :: rs, X, hr, hI => by
    have hr' : ∀ r ∈ rs, r ∈ p.rules := fun x hx => hr x (List.mem_cons_of_mem _ hx)
    unfold rnd
    by_cases hs : (pI p r.head.pred).stratum ≠ (s : Int)
    · rw [if_pos hs]; exact rnd_inv hp rs X hr' hI
    · rw [if_neg hs]
      have h1 := step_inv (h := r.head.pred) _ X (fnd_ok hp hI (hr r (List.mem_cons_self ..))).2 hI
      dsimp only
      by_cases ho : overB ((fnd X.1 r).foldl (stepT r.head.pred) X).1 = true
      · rw [if_pos ho]; exact h1
      · rw [if_neg ho]; exact rnd_inv hp rs _ hr' h1
theorem PerfTo.inv {p : PP} (hp : PPok p) {s : Nat} {R R1 : List (List Tup)} (h : PerfTo p s R R1) : RInv p R → RInv p R1 := by
  induction h with
  | fin => exact id
  | stop s R R1 g hs hr => intro hI; have := rnd_inv hp (s := s) p.rules (R, false) (fun _ h => h) hI; rw [hr] at this; exact this
  | again s R R1 R2 hs hr _ ih => intro hI; have := rnd_inv hp (s := s) p.rules (R, false) (fun _ h => h) hI; rw [hr] at this; exact ih this
  | next s R R1 R2 hs hr _ ih => intro hI; have := rnd_inv hp (s := s) p.rules (R, false) (fun _ h => h) hI; rw [hr] at this; exact ih this
/-- All rows. -/
def totR (R : List (List Tup)) : Nat := (R.map List.length).sum
theorem totR_add {R : List (List Tup)} {q : Nat} (hq : q < R.length) (t : Tup) : totR (addR R q t) = totR R + 1 := by
  unfold addR
  induction R generalizing q with
  | nil => simp at hq
  | cons L R ih =>
    cases q with
    | zero => simp [totR, rowsAt]; omega
    | succ q =>
      have := ih (q := q) (by simpa using hq)
      simp only [List.set_cons_succ, totR, List.map_cons, List.sum_cons] at this ⊢
      have e : rowsAt (L :: R) (q + 1) = rowsAt R q := by simp [rowsAt]
      rw [e]
      omega
theorem totR_le {R : List (List Tup)} (h : overB R = false) : totR R ≤ R.length * 512 := by
  unfold overB at h
  induction R with
  | nil => simp [totR]
  | cons L R ih =>
    rw [List.any_cons, Bool.or_eq_false_iff] at h
    have := ih h.2
    have h1 : L.length ≤ 512 := by have := of_decide_eq_false h.1; omega
    simp only [totR, List.map_cons, List.sum_cons, List.length_cons] at this ⊢
    omega
theorem step_tot {h : Nat} : ∀ (ts : List Tup) (X : List (List Tup) × Bool), h < X.1.length → (ts.foldl (stepT h) X).1.length = X.1.length ∧ totR X.1 ≤ totR (ts.foldl (stepT h) X).1 ∧ (X.2 = false → (ts.foldl (stepT h) X).2 = true → totR X.1 < totR (ts.foldl (stepT h) X).1)
  | [], X, _ => ⟨rfl, Nat.le_refl _, fun h1 h2 => by rw [List.foldl_nil, h1] at h2; cases h2⟩
  | t :: ts, X, hh => by
    rw [List.foldl_cons]
    unfold stepT
    by_cases hm : t ∈ rowsAt X.1 h
    · rw [if_pos hm]; exact step_tot ts X hh
    · rw [if_neg hm]
      have hl : (addR X.1 h t).length = X.1.length := by unfold addR; rw [List.length_set]
      have ih := step_tot (h := h) ts (addR X.1 h t, true) (by rw [hl]; exact hh)
      have ht := totR_add hh t
      dsimp only at ih
      have i1 := ih.1
      have i2 := ih.2.1
      unfold stepT at i1 i2
      refine ⟨i1.trans hl, by omega, fun _ _ => by omega⟩
end Go.Proofs.Qxb6500787aGreat
