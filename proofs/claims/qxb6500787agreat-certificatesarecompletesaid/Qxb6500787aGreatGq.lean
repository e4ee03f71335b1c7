import Derived.Test.Qxb6500787aGreatMm

import Derived.StillTailTactics
import Derived.Deep.QuietTactic
import Derived.BigQuiet
import Derived.Deep.RegionHeld
import Derived.Deep.CutRange
import Derived.Laws.ResultCell
import Derived.Laws.Rows
import Derived.DeepKeys
import Derived.DataBytes
import Derived.Laws.StructEq
import Derived.Laws.AppendOwn
import Derived.Laws.MakeOwn
import Derived.Lib.AppendStr
set_option linter.unusedSimpArgs false
set_option linter.unusedVariables false
namespace Go.Proofs.Qxb6500787aGreat
open Go.RowKit Go.Blk
attribute [local go_sem ↓] execOp_load execOp_store execOp_alloc
attribute [local go_sem] Tryz.ld26 Tryz.st26 Tryz.ld27 Tryz.st27 Tryz.ld28 Tryz.st28 Tryz.ld3 Tryz.st3 Tryz.ld29 Tryz.st29 Tryz.ld44 Tryz.st44 Tryz.ld4 Tryz.st4 Tryz.ld50 Tryz.st50 Tryz.ld32 Tryz.st32 Tryz.ld49 Tryz.st49 Tryz.ld68 Tryz.st68 Tryz.ld9 Tryz.st9 Tryz.ld40 Tryz.st40 Tryz.ld138 Tryz.st138 Tryz.ld139 Tryz.st139 Tryz.ld146 Tryz.st146 Tryz.ld183 Tryz.st183 Tryz.ld184 Tryz.st184 Tryz.ld192 Tryz.st192 Tryz.ld195 Tryz.st195 Tryz.ld217 Tryz.st217 Tryz.ld159 Tryz.st159 Tryz.ld142 Tryz.st142 Tryz.ld2 Tryz.st2 Tryz.ld5 Tryz.st5 Tryz.ld12 Tryz.st12 Tryz.ld21 Tryz.st21 Tryz.ld22 Tryz.st22 Tryz.ld24 Tryz.st24 Tryz.ld58 Tryz.st58 Tryz.ld97 Tryz.st97 Tryz.ld101 Tryz.st101 Tryz.ld116 Tryz.st116 Tryz.ld121 Tryz.st121 Tryz.ld135 Tryz.st135 Tryz.ld136 Tryz.st136 Tryz.ld143 Tryz.st143 Tryz.ld148 Tryz.st148 Tryz.ld154 Tryz.st154 Tryz.ld173 Tryz.st173 Tryz.ld187 Tryz.st187 Tryz.ld222 Tryz.st222 Tryz.ld241 Tryz.st241 Tryz.ld248 Tryz.st248 Tryz.ld268 Tryz.st268 Tryz.ld272 Tryz.st272 Tryz.ld153 Tryz.st153 Tryz.ld255 Tryz.st255 Tryz.ld256 Tryz.st256 Tryz.ld129 Tryz.st129 Tryz.ld152 Tryz.st152 Tryz.ld31 Tryz.st31 Tryz.ld46 Tryz.st46 Tryz.ld52 Tryz.st52 Tryz.ld54 Tryz.st54 Tryz.ld60 Tryz.st60 Tryz.ld70 Tryz.st70 Tryz.ld74 Tryz.st74 Tryz.ld93 Tryz.st93 Tryz.ld141 Tryz.st141 Tryz.ld151 Tryz.st151 Tryz.ld170 Tryz.st170 Tryz.ld186 Tryz.st186 Tryz.ld189 Tryz.st189 Tryz.ld194 Tryz.st194 Tryz.ld197 Tryz.st197 Tryz.ld219 Tryz.st219 Tryz.ld224 Tryz.st224 Tryz.ld230 Tryz.st230 Tryz.ld235 Tryz.st235 Tryz.ld243 Tryz.st243 Tryz.ld247 Tryz.st247 Tryz.ld252 Tryz.st252 Tryz.ld258 Tryz.st258 Tryz.al153 Tryz.al255 Tryz.al256 Tryz.al129 Tryz.al152 Tryz.al31 Tryz.al46 Tryz.al52 Tryz.al54 Tryz.al60 Tryz.al70 Tryz.al74 Tryz.al93 Tryz.al141 Tryz.al151 Tryz.al170 Tryz.al186 Tryz.al189 Tryz.al194 Tryz.al197 Tryz.al219 Tryz.al224 Tryz.al230 Tryz.al235 Tryz.al243 Tryz.al247 Tryz.al252 Tryz.al258
attribute [local go_sem] Request.length_enc Request.ok_enc Request.all_get Request.all_set Request.kind_get Request.kind_set Request.blob_get Request.blob_set Request.items_get Request.items_set Request.pred_get Request.pred_set Request.slots_get Request.slots_set Trace.length_enc Trace.ok_enc Trace.all_get Trace.all_set Trace.op_get Trace.op_set Trace.calls_get Trace.calls_set Item.length_enc Item.ok_enc Item.all_get Item.all_set Item.del_get Item.del_set Item.pred_get Item.pred_set Item.args_get Item.args_set Reply.length_enc Reply.ok_enc Reply.all_get Reply.all_set Reply.code_get Reply.code_set Reply.kind_get Reply.kind_set Reply.index_get Reply.index_set Reply.yes_get Reply.yes_set Reply.preds_get Reply.preds_set Reply.rules_get Reply.rules_set Reply.arity_get Reply.arity_set Reply.rows_get Reply.rows_set Reply.fact_get Reply.fact_set Reply.fact_del_get Reply.fact_del_set Reply.fact_pred_get Reply.fact_pred_set Reply.fact_args_get Reply.fact_args_set GEntry.length_enc GEntry.ok_enc GEntry.all_get GEntry.all_set GEntry.seq_get GEntry.seq_set GEntry.kind_get GEntry.kind_set GEntry.code_get GEntry.code_set GOp.length_enc GOp.ok_enc GOp.all_get GOp.all_set GOp.kind_get GOp.kind_set GOp.raw_get GOp.raw_set Reader.length_enc Reader.ok_enc Reader.all_get Reader.all_set Reader.buf_get Reader.buf_set Reader.at__get Reader.at__set Slot.length_enc Slot.ok_enc Slot.all_get Slot.all_set Slot.bound_get Slot.bound_set Slot.name_get Slot.name_set Session.length_enc Session.ok_enc Session.all_get Session.all_set Session.svc_get Session.svc_set Session.buf_get Session.buf_set Session.closed_get Session.closed_set GProgram.length_enc GProgram.ok_enc GProgram.all_get GProgram.all_set GProgram.pool_get GProgram.pool_set GProgram.preds_get GProgram.preds_set GProgram.rules_get GProgram.rules_set GProgram.strata_get GProgram.strata_set PredInfo.length_enc PredInfo.ok_enc PredInfo.all_get PredInfo.all_set PredInfo.arity_get PredInfo.arity_set PredInfo.base_get PredInfo.base_set PredInfo.stratum_get PredInfo.stratum_set Change.length_enc Change.ok_enc Change.all_get Change.all_set Change.del_get Change.del_set Change.pred_get Change.pred_set Change.t_get Change.t_set Store.length_enc Store.ok_enc Store.all_get Store.all_set Store.names_get Store.names_set Store.arity_get Store.arity_set Store.rows_get Store.rows_set Src.length_enc Src.ok_enc Src.all_get Src.all_set Src.b_get Src.b_set Src.at__get Src.at__set Atom.length_enc Atom.ok_enc Atom.all_get Atom.all_set Atom.pred_get Atom.pred_set Atom.args_get Atom.args_set GRule.length_enc GRule.ok_enc GRule.all_get GRule.all_set GRule.head_get GRule.head_set GRule.body_get GRule.body_set GRule.head_pred_get GRule.head_pred_set GRule.head_args_get GRule.head_args_set Cert.length_enc Cert.ok_enc Cert.all_get Cert.all_set Cert.names_get Cert.names_set Cert.nodes_get Cert.nodes_set Fact.length_enc Fact.ok_enc Fact.all_get Fact.all_set Fact.pred_get Fact.pred_set Fact.t_get Fact.t_set Literal.length_enc Literal.ok_enc Literal.all_get Literal.all_set Literal.neg_get Literal.neg_set Literal.atom_get Literal.atom_set Literal.atom_pred_get Literal.atom_pred_set Literal.atom_args_get Literal.atom_args_set Engine.length_enc Engine.ok_enc Engine.all_get Engine.all_set Engine.prog_get Engine.prog_set Engine.st_get Engine.st_set SrcCertm.length_enc SrcCertm.ok_enc SrcCertm.all_get SrcCertm.all_set SrcCertm.b_get SrcCertm.b_set SrcCertm.at__get SrcCertm.at__set GNode.length_enc GNode.ok_enc GNode.all_get GNode.all_set GNode.rule_get GNode.rule_set GNode.pred_get GNode.pred_set GNode.vals_get GNode.vals_set GNode.refs_get GNode.refs_set Term.length_enc Term.ok_enc Term.all_get Term.all_set Term.var_get Term.var_set Term.n_get Term.n_set Env.length_enc Env.ok_enc Env.all_get Env.all_set Env.val_get Env.val_set Env.set_get Env.set_set
attribute [local go_sem] size_put size_ext blk_put free_put blk_alloc free_alloc blk_drew free_drew blk_ext free_ext lookOr_some putOr_some segAt_some cellAt_some storeIn_some put_put put_alloc_new length_arr ok_arr_u8 ok_arr_u32 ok_arr_u64 ok_arr_i64 ok_arr_sl cellsV_agg cellsV_int cellsV_bool cellsV_string cellsV_pointer cellsV_slice cellsV_sl ok_int ok_bool ok_string ok_pointer ok_slice ok_sl toList_arr seg_arr set_arr nth_splice nth_splice0 seg_splice seg_splice0 splice_splice splice_splice0 length_splice_if
attribute [local go_sem ↓] execOp_box
attribute [local go_sem] box_run nth_arr_u8 put_arr_u8 blk_drewN free_drewN put_drewN blk_raw free_raw
/-- An owner of old blocks. -/
structure LOwn where
  f : Own
  low : ∀ k i j, f k = .a i j → i ≤ 5
def LOwn.grow (o : LOwn) (n : Nat) : LOwn := ⟨lab o.f n .no, fun k i j e => by
  unfold lab at e
  split at e
  · exact o.low k i j e
  · cases e⟩
namespace OcN
variable {Oc : LOwn}
attribute [local go_sem] Tryz.zl75 Tryz.zs75 Tryz.zl52 Tryz.zs52 Tryz.zl53 Tryz.zs53
/-- Lists of rows of one's own: one array, and a row for each predicate. -/
structure RelN (Oc : LOwn) (W0 : World) (bo : Nat) (F : List (List NRow)) (O : Own) (V : World) : Prop where
  ext : W0.Extends V
  new : W0.heap.size ≤ bo
  old : ∀ k, k < W0.heap.size → O k = Oc.f k
  lab : O bo = .a 8 0
  free : Blk.free V bo = true
  rows : ∃ C, blk V bo = some C ∧ C.length = F.length ∧ ∀ (q : Nat) (L : List NRow), F[q]? = some L → ∃ (a : Option Addr) (c : Nat) (K : List Sl), nth C q = some (.slice a L.length c) ∧ RowL W0.heap.size O (.a 8 (q + 1)) V 78 1 (.slice a L.length c) K.length (K.flatMap encR) ∧ K.length = L.length ∧ ∀ (i : Nat) (s : Sl) (r : NRow), K[i]? = some s → L[i]? = some r → Rw encS 1 (core O V) s.a s.len r
theorem RelN.fr {W0 : World} {bo : Nat} {F : List (List NRow)} {O O' : Own} {V V' : World} (h : RelN Oc W0 bo F O V) {L : Lab → Prop} (hF : Fr L O V O' V') (h8 : ∀ j, ¬ L (.a 8 j)) (hn : ¬ L .no) (hc : ∀ k, ¬ L (Oc.f k)) : RelN Oc W0 bo F O' V' := by
  obtain ⟨C, h1, h2, h3⟩ := h.rows
  refine ⟨hF.extends h.ext (fun k hk e => by rw [h.old k hk] at e; exact hc k e), h.new, fun k hk => (hF.keep k (Nat.lt_of_lt_of_le hk h.ext.size)).trans (h.old k hk), (hF.keep bo (blk_lt h1)).trans h.lab, hF.free h1 h.free (by rw [h.lab]; exact h8 0), C, hF.blk h1 (by rw [h.lab]; exact h8 0), h2, fun q L hq => ?_⟩
  obtain ⟨a, c, K, g1, g2, g3, g4⟩ := h3 q L hq
  exact ⟨a, c, K, g1, g2.fr hF (h8 _), g3, fun i s r e1 e2 => (g4 i s r e1 e2).sub (Sub.cores fun b C hb ho => ⟨hF.blk hb (by rw [ho]; exact hn), (hF.keep b (blk_lt hb)).trans ho⟩)⟩
theorem RelN.facts {W0 : World} {bo : Nat} {F : List (List NRow)} {O : Own} {V : World} (h : RelN Oc W0 bo F O V) : FactsAt V (some ⟨bo, 0, none⟩) F.length F := by
  obtain ⟨C, h1, h2, h3⟩ := h.rows
  have key : ∀ q, q < F.length → ∃ s : Sl, nth C q = some (Sl.val s) ∧ ∀ L, F[q]? = some L → RowsAt V s.a s.len L := fun q hq => by
    obtain ⟨a, c, K, g1, g2, g3, g4⟩ := h3 q _ (List.getElem?_eq_getElem hq)
    refine ⟨⟨a, _, c⟩, g1, fun L hL => ?_⟩
    rw [List.getElem?_eq_getElem hq] at hL
    cases hL
    exact ⟨K, (g2.rw encR_len).1, rfl, fun i s r e1 e2 => (g4 i s r e1 e2).sub (Sub.core _ _)⟩
  obtain ⟨Ks, hK⟩ : ∃ Ks : List Sl, Ks.length = F.length ∧ ∀ q s, Ks[q]? = some s → nth C q = some (Sl.val s) ∧ ∀ L, F[q]? = some L → RowsAt V s.a s.len L := by
    refine ⟨(List.range F.length).map fun q => if hq : q < F.length then (key q hq).choose else ⟨none, 0, 0⟩, by simp, fun q s hs => ?_⟩
    rw [List.getElem?_map] at hs
    have hq : q < F.length := by
      by_cases h9 : q < F.length
      · exact h9
      · rw [List.getElem?_eq_none (by rw [List.length_range]; omega)] at hs; cases hs
    rw [List.getElem?_range hq] at hs
    have e : (key q hq).choose = s := by
      have h9 := Option.some.inj hs
      dsimp only at h9
      rw [dif_pos hq] at h9
      exact h9
    rw [← e]
    exact (key q hq).choose_spec
  refine ⟨Ks, ⟨hK.1, fun i s hs => ⟨bo, C, rfl, h1, by omega, ?_⟩⟩, rfl, fun i s L e1 e2 => (hK.2 i s e1).2 L e2⟩
  rw [Nat.mul_one]
  exact seg_nth1 (hK.2 i s hs).1
/-- A list written over with one in new memory. -/
theorem RelN.set {W0 : World} {bo : Nat} {F : List (List NRow)} {O : Own} {V V1 : World} (h : RelN Oc W0 bo F O V) {q : Nat} (hq : q < F.length) {a : Option Addr} {n c : Nat} {K : List Sl} {L : List NRow} (ho : OutG encR 1 78 V V1 a n c K) (hl : K.length = L.length) (hc : ∀ (i : Nat) (s : Sl) (r : NRow), K[i]? = some s → L[i]? = some r → Rw encS 1 (core O V) s.a s.len r) : ∃ C O', blk V1 bo = some C ∧ C.length = F.length ∧ Blk.free V1 bo = true ∧ RelN Oc W0 bo (F.set q L) O' (put V1 bo (splice C q [.slice a n c])) := by
  obtain ⟨C, h1, h2, h3⟩ := h.rows
  have hlt := blk_lt h1
  have he := ho.2.1
  have hn := ho.2.2
  have n0 : ∀ x, ¬ (Lab.a 8 0 = .a 8 (x + 1)) := fun x e => by have := (Lab.a.inj e).2; omega
  have hO : Go.Proofs.Qxb6500787aGreat.lab O V.heap.size (.a 8 (q + 1)) bo = .a 8 0 := by rw [lab_lt hlt]; exact h.lab
  have hb : blk V1 bo = some C := (he.blk hlt).trans h1
  have hf : Blk.free V1 bo = true := (free_of_heap (he.block bo hlt)).trans h.free
  have hcore : Sub (core O V) (core (Go.Proofs.Qxb6500787aGreat.lab O V.heap.size (.a 8 (q + 1))) (put V1 bo (splice C q [.slice a n c]))) := Sub.cores fun b C9 hb9 ho9 => by
    refine ⟨?_, by rw [lab_lt (blk_lt hb9)]; exact ho9⟩
    rw [blk_put, if_neg (fun e => by rw [e, h.lab] at ho9; cases ho9)]
    exact (he.blk (blk_lt hb9)).trans hb9
  refine ⟨C, Go.Proofs.Qxb6500787aGreat.lab O V.heap.size (.a 8 (q + 1)), hb, h2, hf, ?_⟩
  have hkeep : ∀ {x : Nat} {v : Value} {k : Nat} {xs : List Value}, RowL W0.heap.size (Go.Proofs.Qxb6500787aGreat.lab O V.heap.size (.a 8 (q + 1))) (.a 8 (x + 1)) V1 78 1 v k xs → RowL W0.heap.size (Go.Proofs.Qxb6500787aGreat.lab O V.heap.size (.a 8 (q + 1))) (.a 8 (x + 1)) (put V1 bo (splice C q [.slice a n c])) 78 1 v k xs := fun hr => hr.keep (fun b hb hl => ⟨by
    rw [heap_put, if_neg (fun e : b = bo => by rw [e, hO] at hl; exact n0 _ hl)], rfl⟩)
  refine ⟨extends_put (h.ext.trans he) h.new _, h.new, fun k hk => by rw [lab_lt (Nat.lt_of_lt_of_le hk h.ext.size)]; exact h.old k hk, hO, by rw [free_put]; exact hf, splice C q [.slice a n c], by rw [blk_put, if_pos rfl, hb]; rfl, by rw [length_splice1 (by omega), List.length_set]; exact h2, fun x L2 hx => ?_⟩
  rw [splice_nth (by omega)]
  by_cases hxq : x = q
  · subst hxq
    rw [List.getElem?_set_self hq] at hx
    obtain rfl : L = L2 := Option.some.inj hx
    rw [if_pos rfl]
    have hnL : n = L.length := hn.trans hl
    refine ⟨a, c, K, by rw [hnL], hkeep ⟨?_, fun k hk => lab_ge ?_⟩, hl, fun i s r e1 e2 => (hc i s r e1 e2).sub hcore⟩
    · rw [← hnL]; exact row_base ho.1 h.ext.size
    · rw [← hnL] at hk; exact (row_at ho.1 k hk).1
  · rw [List.getElem?_set_ne (fun e => hxq e.symm)] at hx
    rw [if_neg hxq]
    obtain ⟨a2, c2, K2, k1, k2, k3, k4⟩ := h3 x L2 hx
    exact ⟨a2, c2, K2, k1, hkeep (k2.keep (fun k hk _ => ⟨he.block k hk, lab_lt hk⟩)), k3, fun i s r e1 e2 => (k4 i s r e1 e2).sub hcore⟩
theorem RelN.app {W0 : World} {bo : Nat} {F : List (List NRow)} {O : Own} {V : World} (h : RelN Oc W0 bo F O V) {q : Nat} {L : List NRow} (hq : F[q]? = some L) (s : Sl) (r : NRow) (hs : Rw encS 1 (core O V) s.a s.len r) (hl : L.length ≤ 1000000000000 - 1) : ∃ C a c a' c' V' O', blk V bo = some C ∧ q < C.length ∧ C.length = F.length ∧ nth C q = some (.slice a L.length c) ∧ (Builtin.append_ #[75, 75] 75 #[.slice a L.length c, .slice (some ⟨V.heap.size, 0, none⟩) 1 1]).run Tryz.prog (V.alloc (.cells #[.slice s.a s.len s.cap] 78)) = .ok (.slice a' (L.length + 1) c') V' ∧ blk V' bo = some C ∧ Blk.free V' bo = true ∧ Fr (fun y => y = .a 8 (q + 1)) O V O' V' ∧ RelN Oc W0 bo (addRN F q r) O' (put V' bo (splice C q [.slice a' (L.length + 1) c'])) := by
  obtain ⟨C, h1, h2, h3⟩ := h.rows
  obtain ⟨a, c, K, g1, g2, g3, g4⟩ := h3 q L hq
  have hql : q < F.length := (List.getElem?_eq_some_iff.1 hq).1
  obtain ⟨a', c', V', hrun, hrow, hfr⟩ := appLB el75 75 s g2 h.ext.size (by omega) (by omega) #[.slice s.a s.len s.cap] rfl 1
  have hlt := blk_lt h1
  have n0 : ∀ x, ¬ (Lab.a 8 0 = .a 8 (x + 1)) := fun x e => by have := (Lab.a.inj e).2; omega
  have hb : blk V' bo = some C := hfr.blk h1 (by rw [h.lab]; exact n0 q)
  have hf : Blk.free V' bo = true := hfr.free h1 h.free (by rw [h.lab]; exact n0 q)
  have hO : Go.Proofs.Qxb6500787aGreat.lab O V.heap.size (.a 8 (q + 1)) bo = .a 8 0 := by rw [lab_lt hlt]; exact h.lab
  have hcore : Sub (core O V) (core (Go.Proofs.Qxb6500787aGreat.lab O V.heap.size (.a 8 (q + 1))) (put V' bo (splice C q [.slice a' (L.length + 1) c']))) := Sub.cores fun b C9 hb9 ho9 => by
    refine ⟨?_, by rw [lab_lt (blk_lt hb9)]; exact ho9⟩
    rw [blk_put, if_neg (fun e => by rw [e, h.lab] at ho9; cases ho9)]
    exact hfr.blk hb9 (by rw [ho9]; exact fun e => by cases e)
  refine ⟨C, a, c, a', c', V', _, h1, by omega, h2, g1, hrun, hb, hf, hfr, ?_⟩
  have hkeep : ∀ {x : Nat} {v : Value} {k : Nat} {xs : List Value}, RowL W0.heap.size (Go.Proofs.Qxb6500787aGreat.lab O V.heap.size (.a 8 (q + 1))) (.a 8 (x + 1)) V' 78 1 v k xs → RowL W0.heap.size (Go.Proofs.Qxb6500787aGreat.lab O V.heap.size (.a 8 (q + 1))) (.a 8 (x + 1)) (put V' bo (splice C q [.slice a' (L.length + 1) c'])) 78 1 v k xs := fun hr => hr.keep (fun b hb hl => ⟨by
    rw [heap_put, if_neg (fun e : b = bo => by rw [e, hO] at hl; exact n0 _ hl)], rfl⟩)
  have hra : F.getD q [] = L := by rw [List.getD_eq_getElem?_getD, hq]; rfl
  refine ⟨extends_put (hfr.extends h.ext (fun k hk e => by rw [h.old k hk] at e; have := Oc.low _ _ _ e; omega)) h.new _, h.new, fun k hk => by rw [lab_lt (Nat.lt_of_lt_of_le hk h.ext.size)]; exact h.old k hk, hO, by rw [free_put]; exact hf, splice C q [.slice a' (L.length + 1) c'], by rw [blk_put, if_pos rfl, hb]; rfl, by rw [length_splice1 (by omega)]; unfold addRN; rw [List.length_set]; exact h2, fun x M hx => ?_⟩
  rw [splice_nth (by omega)]
  unfold addRN at hx
  by_cases hxq : x = q
  · subst hxq
    rw [List.getElem?_set_self hql, hra] at hx
    obtain rfl : L ++ [r] = M := Option.some.inj hx
    rw [if_pos rfl]
    have hm : (L ++ [r]).length = L.length + 1 := by rw [List.length_append, List.length_singleton]
    have hmK : (K ++ [s]).length = L.length + 1 := by rw [List.length_append, List.length_singleton, g3]
    rw [hm]
    refine ⟨a', c', K ++ [s], rfl, hkeep hrow, hmK, fun i s' r' e1 e2 => ?_⟩
    by_cases hi : i < K.length
    · rw [List.getElem?_append_left hi] at e1
      rw [List.getElem?_append_left (by omega)] at e2
      exact (g4 i s' r' e1 e2).sub hcore
    · rw [List.getElem?_append_right (by omega)] at e1
      rw [List.getElem?_append_right (by omega), ← g3] at e2
      have e0 : i - K.length = 0 := by
        by_cases e3 : i - K.length = 0
        · exact e3
        · rw [List.getElem?_eq_none (by rw [List.length_singleton]; omega)] at e1; cases e1
      rw [e0] at e1 e2
      rw [← Option.some.inj e1, ← Option.some.inj e2]
      exact hs.sub hcore
  · rw [List.getElem?_set_ne (fun e => hxq e.symm)] at hx
    rw [if_neg hxq]
    obtain ⟨a2, c2, K2, k1, k2, k3, k4⟩ := h3 x M hx
    exact ⟨a2, c2, K2, k1, hkeep (k2.fr hfr (fun e => hxq (by have := (Lab.a.inj e).2; omega))), k3, fun i s' r' e1 e2 => (k4 i s' r' e1 e2).sub hcore⟩
/-- Rows are added to a list. -/
theorem RelN.appM {W0 : World} {bo : Nat} {F : List (List NRow)} {O : Own} {V : World} (h : RelN Oc W0 bo F O V) {q : Nat} {L : List NRow} (hq : F[q]? = some L) (KM : List Sl) (M : List NRow) (hKM : KM.length = M.length) (sp : Option Addr) (cs : Nat) (hsp : Rw encR 1 V sp KM.length KM) (hs : ∀ (i : Nat) (s : Sl) (r : NRow), KM[i]? = some s → M[i]? = some r → Rw encS 1 (core O V) s.a s.len r) (hl : L.length + M.length ≤ 1000000000000) : ∃ C a c a' c' V' O', blk V bo = some C ∧ q < C.length ∧ C.length = F.length ∧ nth C q = some (.slice a L.length c) ∧ (Builtin.append_ #[75, 75] 75 #[.slice a L.length c, .slice sp KM.length cs]).run Tryz.prog V = .ok (.slice a' (L.length + KM.length) c') V' ∧ blk V' bo = some C ∧ Blk.free V' bo = true ∧ Fr (fun y => y = .a 8 (q + 1)) O V O' V' ∧ RelN Oc W0 bo (F.set q (L ++ M)) O' (put V' bo (splice C q [.slice a' (L.length + KM.length) c'])) := by
  obtain ⟨C, h1, h2, h3⟩ := h.rows
  obtain ⟨a, c, K, g1, g2, g3, g4⟩ := h3 q L hq
  have hql : q < F.length := (List.getElem?_eq_some_iff.1 hq).1
  obtain ⟨a', c', V', hrun, hrow, hfr⟩ := appML el75 75 KM g2 h.ext.size (by omega) (by omega) sp cs hsp
  have hlt := blk_lt h1
  have n0 : ∀ x, ¬ (Lab.a 8 0 = .a 8 (x + 1)) := fun x e => by have := (Lab.a.inj e).2; omega
  have hb : blk V' bo = some C := hfr.blk h1 (by rw [h.lab]; exact n0 q)
  have hf : Blk.free V' bo = true := hfr.free h1 h.free (by rw [h.lab]; exact n0 q)
  have hO : Go.Proofs.Qxb6500787aGreat.lab O V.heap.size (.a 8 (q + 1)) bo = .a 8 0 := by rw [lab_lt hlt]; exact h.lab
  have hcore : Sub (core O V) (core (Go.Proofs.Qxb6500787aGreat.lab O V.heap.size (.a 8 (q + 1))) (put V' bo (splice C q [.slice a' (L.length + KM.length) c']))) := Sub.cores fun b C9 hb9 ho9 => by
    refine ⟨?_, by rw [lab_lt (blk_lt hb9)]; exact ho9⟩
    rw [blk_put, if_neg (fun e => by rw [e, h.lab] at ho9; cases ho9)]
    exact hfr.blk hb9 (by rw [ho9]; exact fun e => by cases e)
  refine ⟨C, a, c, a', c', V', _, h1, by omega, h2, g1, hrun, hb, hf, hfr, ?_⟩
  have hkeep : ∀ {x : Nat} {v : Value} {k : Nat} {xs : List Value}, RowL W0.heap.size (Go.Proofs.Qxb6500787aGreat.lab O V.heap.size (.a 8 (q + 1))) (.a 8 (x + 1)) V' 78 1 v k xs → RowL W0.heap.size (Go.Proofs.Qxb6500787aGreat.lab O V.heap.size (.a 8 (q + 1))) (.a 8 (x + 1)) (put V' bo (splice C q [.slice a' (L.length + KM.length) c'])) 78 1 v k xs := fun hr => hr.keep (fun b hb hl => ⟨by
    rw [heap_put, if_neg (fun e : b = bo => by rw [e, hO] at hl; exact n0 _ hl)], rfl⟩)
  refine ⟨extends_put (hfr.extends h.ext (fun k hk e => by rw [h.old k hk] at e; have := Oc.low _ _ _ e; omega)) h.new _, h.new, fun k hk => by rw [lab_lt (Nat.lt_of_lt_of_le hk h.ext.size)]; exact h.old k hk, hO, by rw [free_put]; exact hf, splice C q [.slice a' (L.length + KM.length) c'], by rw [blk_put, if_pos rfl, hb]; rfl, by rw [length_splice1 (by omega), List.length_set]; exact h2, fun x N hx => ?_⟩
  rw [splice_nth (by omega)]
  by_cases hxq : x = q
  · subst hxq
    rw [List.getElem?_set_self hql] at hx
    obtain rfl : L ++ M = N := Option.some.inj hx
    rw [if_pos rfl]
    have hm : (L ++ M).length = L.length + KM.length := by rw [List.length_append, hKM]
    have hmK : (K ++ KM).length = L.length + KM.length := by rw [List.length_append, g3]
    rw [hm]
    refine ⟨a', c', K ++ KM, rfl, hkeep hrow, hmK, fun i s' r' e1 e2 => ?_⟩
    by_cases hi : i < K.length
    · rw [List.getElem?_append_left hi] at e1
      rw [List.getElem?_append_left (by omega)] at e2
      exact (g4 i s' r' e1 e2).sub hcore
    · rw [List.getElem?_append_right (by omega)] at e1
      rw [List.getElem?_append_right (by omega), ← g3] at e2
      exact (hs _ s' r' e1 e2).sub hcore
  · rw [List.getElem?_set_ne (fun e => hxq e.symm)] at hx
    rw [if_neg hxq]
    obtain ⟨a2, c2, K2, k1, k2, k3, k4⟩ := h3 x N hx
    exact ⟨a2, c2, K2, k1, hkeep (k2.fr hfr (fun e => hxq (by have := (Lab.a.inj e).2; omega))), k3, fun i s' r' e1 e2 => (k4 i s' r' e1 e2).sub hcore⟩
theorem relN_new (Oc : LOwn) (W : World) (n : Nat) (V : World) (he : W.Extends V) (bo : Nat) (hb : blk V bo = some (List.replicate n (Value.slice none 0 0))) (hf : free V bo = true) (hn : W.heap.size ≤ bo) : RelN Oc W bo (List.replicate n []) (lab Oc.f W.heap.size (.a 8 0)) V :=
  ⟨he, hn, fun k hk => lab_lt hk, lab_ge hn, hf, _, hb, by simp, fun q L hq => by
    rw [List.getElem?_replicate] at hq
    split at hq
    · rename_i hqn
      obtain rfl : [] = L := Option.some.inj hq
      refine ⟨none, 0, [], ?_, RowL.nil _ _ _ _ _ _, rfl, fun i s r e => by cases e⟩
      unfold nth
      rw [List.getElem?_replicate, if_pos hqn]; rfl
    · cases hq⟩
/-- A copy of the lists. -/
def CpPost (Oc : LOwn) (W : World) (F : List (List NRow)) (e : Ending) (V : World) : Prop := ∃ bo O, e = .returned (.slice (some ⟨bo, 0, none⟩) F.length F.length) ∧ RelN Oc W bo F O V
def zCp (Oc : LOwn) (W : World) (bo : Nat) (v0 : Value) (n : Nat) (F : List (List NRow)) (f : Nat → Value) (V : World) : Prop := f 0 = v0 ∧ f 3 = .slice (some ⟨bo, 0, none⟩) n n ∧ ∃ i : Nat, i ≤ n ∧ f 4 = .int .i64 (i : Nat) ∧ Hid (∃ O, RelN Oc W bo (F.take i ++ List.replicate (n - i) []) O V)
attribute [local go_sem ↓] execOp_slice execOp_convert execOp_build execOp_bslice execOp_make
set_option maxRecDepth 40000 in
set_option maxHeartbeats 2000000 in
theorem copyOf_any (Oc : LOwn) (W : World) (a : Option Addr) (n c : Nat) (F : List (List NRow)) (hF : FactsAt (core Oc.f W) a n F) (hn : n ≤ 1000) (hll : ∀ L ∈ F, L.length ≤ 1000000000) : Calls Tryz.prog 77 #[.slice a n c] W (CpPost Oc W F) := by
  obtain ⟨Q, hQ⟩ : ∃ Q, Q = CpPost Oc W F := ⟨_, rfl⟩
  rw [← hQ]
  have HQ := hid_of hQ
  have HF := hid_of hF
  have HLL := hid_of hll
  have hfn : F.length = n := hF.choose_spec.2.1
  have HFN := hid_of hfn
  have hmk : ∀ w, (makeOp 52 (.int .i64 (n : Int)) (.int .i64 (n : Int))).run Tryz.prog w = .ok (.value (.slice (some ⟨w.heap.size, 0, none⟩) n n)) (w.alloc (.cells (List.replicate n (Value.slice none 0 0)).toArray 75)) := fun w => make52 w n (by omega)
  obtain ⟨R0, eR0⟩ : ∃ R0, R0 = List.replicate n (Value.slice none 0 0) := ⟨_, rfl⟩
  simp only [← eR0] at hmk
  have ER0 := hid_of eR0
  clear hQ hF hll hfn eR0
  go_enter Tryz.func77, Tryz.ntmps77
  go_upto_region 3 with fail
  refine wp_world (fun V => W.Extends V ∧ blk V W.heap.size = some R0 ∧ free V W.heap.size = true) ⟨extends_alloc (ext_Ext (Ext.refl _)) _, by rw [blk_alloc, if_pos rfl], by rw [free_alloc, if_pos rfl]⟩ ?_
  rintro V0 ⟨hx0, hb0, hf0⟩
  obtain ⟨bo, ebo⟩ : ∃ bo, bo = W.heap.size := ⟨_, rfl⟩
  rw [← ebo] at hb0 hf0 ⊢
  have HB0 : Hid (∃ O, RelN Oc W bo (F.take 0 ++ List.replicate (n - 0) []) O V0) := ⟨_, relN_new Oc W n V0 hx0 bo (by rw [hb0, ER0.out]) hf0 (by omega)⟩
  clear hx0 hb0 hf0 ebo hmk
  refine wp_loop_f 27 (zCp Oc W bo (.slice a n c) n F) (fun f _ => n - (intOf (f 4)).toNat) rfl ⟨rfl, rfl, 0, by omega, rfl, HB0⟩ ?_
  clear HB0
  intro G V hrel
  obtain ⟨f0, f3, i, hi, f4, HI⟩ := hrel
  have H4 := hid_of f4
  rw [zframe27p, f0, f3, f4]
  clear f0 f3 f4
  obtain ⟨O, hR⟩ := HI.out
  have HR := hid_of hR
  clear HI hR
  by_cases hin : i < n
  rotate_left 1
  · have hin' : ¬ (i : Int) < (n : Int) := by omega
    have HP : Hid (Q (.returned (.slice (some ⟨bo, 0, none⟩) n n)) V) := by
      show Q _ _
      rw [HQ.out]
      refine ⟨bo, O, by rw [HFN.out], ?_⟩
      have h9 := HR.out
      rw [List.take_of_length_le (by have := HFN.out; omega), show n - i = 0 from by omega] at h9
      simpa using h9
    clear HR
    go_wp2_with fail
    try go_ret
    exact HP.out
  have hin' : (i : Int) < (n : Int) := by omega
  have i0 : (0 : Int) ≤ (i : Int) := by omega
  have i2 : ((i : Int)).toNat = i := by omega
  obtain ⟨L, hL⟩ : ∃ L, F[i]? = some L := ⟨_, List.getElem?_eq_getElem (by rw [HFN.out]; exact hin)⟩
  obtain ⟨bf, CF, sf, rfl, m1, m2, m3, m4⟩ := HF.out.at hL
  obtain ⟨sa, sn, sc⟩ := sf
  dsimp only at m3 m4
  obtain ⟨KL, n1, n2, n3⟩ := m4
  obtain ⟨m1, m1o⟩ := core_blk m1
  have hRd : RelN Oc W bo (F.take i ++ List.replicate (n - i) []) O V.drew := HR.out.fr (L := fun _ => False) ((Fr.refl _ _ _).drewN 1) (fun _ e => e) (fun e => e) (fun _ e => e)
  have hcl : (F.take i ++ List.replicate (n - i) []).length = n := by rw [List.length_append, List.length_take, List.length_replicate, HFN.out]; omega
  have hci : (F.take i ++ List.replicate (n - i) ([] : List NRow))[i]? = some [] := by
    rw [List.getElem?_append_right (by rw [List.length_take]; omega), List.length_take, HFN.out, Nat.min_eq_left (by omega), Nat.sub_self, List.getElem?_replicate, if_pos (by omega)]
  have hsub : Sub W V.drew := Sub.ext hRd.ext
  have hKl : KL.length = sn := n1.1
  have hLl : L.length = sn := n2
  have hlb := HLL.out L (List.mem_of_getElem? hL)
  have hOld := HR.out.old
  obtain ⟨C, a9, c9, a', c', V1, O', k1, k2, k3, k4, hrun, k5, k6, k7, k8⟩ := hRd.appM hci KL L (by omega) sa sc (by rw [hKl]; exact (n1.sub (Sub.core _ _)).sub hsub) (fun j s r e1 e2 => (n3 j s r e1 e2).sub (Sub.cores fun b C9 hb9 ho9 => ⟨hsub b C9 hb9, (hOld b (blk_lt hb9)).trans ho9⟩)) (by show 0 + _ ≤ _; omega)
  have hset : (F.take i ++ List.replicate (n - i) ([] : List NRow)).set i ([] ++ L) = F.take (i + 1) ++ List.replicate (n - (i + 1)) [] := by
    have hi9 : (F.take i).length = i := by rw [List.length_take, HFN.out]; omega
    rw [List.set_append_right _ _ (by omega), hi9, Nat.sub_self, show n - i = (n - (i + 1)) + 1 from by omega, List.replicate_succ, List.set_cons_zero, List.take_add_one, hL]
    simp
  rw [hset] at k8
  have k0 : blk V.drew bo = some C := k1
  have HJ : Hid (∃ O, RelN Oc W bo (F.take (i + 1) ++ List.replicate (n - (i + 1)) []) O (put V1 bo (splice C i [.slice a' (([] : List NRow).length + KL.length) c']))) := ⟨O', k8⟩
  have hz : ([] : List NRow).length = 0 := rfl
  rw [hz] at k4 hrun HJ
  rw [hKl, Nat.zero_add] at hrun
  rw [hKl, Nat.zero_add] at HJ
  have hbf : blk V bf = some CF := (HR.out.ext.blk (blk_lt m1)).trans m1
  have hbfV1 : blk V1 bf = some CF := k7.blk (W := V.drew) hbf (by rw [hOld bf (blk_lt m1), m1o]; exact fun e => by cases e)
  have hCV : blk V bo = some C := k1
  have hil : i < C.length := k2
  have hil1 : i + 1 ≤ C.length := k2
  have hneb : bf ≠ bo := fun e => by have h9 := HR.out.new; have h8 := blk_lt m1; omega
  have hSd : blk (put V1 bo (splice C i [.slice a' sn c'])) bf = some CF := by rw [blk_put, if_neg hneb]; exact hbfV1
  clear hL n1 n3 m1o hRd hcl hci hsub hKl hLl hlb hOld k1 k3 k7 k8 hset hz HR m1 k0
  go_upto_region 5 with fail
  repeat go_step
  refine wp_region_held_drew (S := fun W' => blk W' bf = some CF) (by kernel_rfl) hbf (fun hHeld => ?_)
  refine wpAnyH_take (i := 0) (oi := ⟨_, _, _, _, _, _⟩) (v := ?_) rfl (by kernel_rfl) (by kernel_rfl) (by kernel_rfl) (fun _ _ _ h => h) (Or.inl ⟨by rfl, ?_⟩) (by assumption) ?_
  rotate_left 1
  · intro W' hSw
    go_simp
    try with_reducible rfl
  try simp only [Act.put, List.setIfInBounds_toArray, List.set_cons_zero, List.set_cons_succ]
  refine wpAnyH_take (i := 1) (oi := ⟨_, _, _, _, _, _⟩) (v := ?_) rfl (by kernel_rfl) (by kernel_rfl) (by kernel_rfl) (fun _ _ _ h => h) (Or.inl ⟨by rfl, ?_⟩) (by assumption) ?_
  rotate_left 1
  · intro W' hSw
    go_simp
    try with_reducible rfl
  try simp only [Act.put, List.setIfInBounds_toArray, List.set_cons_zero, List.set_cons_succ]
  refine wpAnyH_take (i := 2) (oi := ⟨_, _, _, _, _, _⟩) (v := ?_) rfl (by kernel_rfl) (by kernel_rfl) (by kernel_rfl) (fun _ _ _ h => h) (Or.inl ⟨by rfl, ?_⟩) (by assumption) ?_
  rotate_left 1
  · intro W' hSw
    go_simp
    try with_reducible rfl
  try simp only [Act.put, List.setIfInBounds_toArray, List.set_cons_zero, List.set_cons_succ]
  refine wpAnyH_take (i := 3) (oi := ⟨_, _, _, _, _, _⟩) (v := ?_) rfl (by kernel_rfl) (by kernel_rfl) (by kernel_rfl) (fun _ _ _ h => h) (Or.inl ⟨by rfl, ?_⟩) (by assumption) ?_
  rotate_left 1
  · intro W' hSw
    go_simp
    try with_reducible rfl
  try simp only [Act.put, List.setIfInBounds_toArray, List.set_cons_zero, List.set_cons_succ]
  refine wpAnyH_take (i := 4) (oi := ⟨_, _, _, _, _, _⟩) (v := ?_) rfl (by kernel_rfl) (by kernel_rfl) (by kernel_rfl) (fun _ _ _ h => h) (Or.inl ⟨by rfl, ?_⟩) (by assumption) ?_
  rotate_left 1
  · intro W' hSw
    go_simp
    try with_reducible rfl
  try simp only [Act.put, List.setIfInBounds_toArray, List.set_cons_zero, List.set_cons_succ]
  refine wpAnyH_take (i := 6) (oi := ⟨_, _, _, _, _, _⟩) (v := ?_) rfl (by kernel_rfl) (by kernel_rfl) (by kernel_rfl) (fun _ _ _ h => h) (Or.inl ⟨by rfl, ?_⟩) (by assumption) ?_
  rotate_left 1
  · intro W' hSw
    go_simp
    try with_reducible rfl
  try simp only [Act.put, List.setIfInBounds_toArray, List.set_cons_zero, List.set_cons_succ]
  refine wpAnyH_take (i := 7) (oi := ⟨_, _, _, _, _, _⟩) (v := ?_) rfl (by kernel_rfl) (by kernel_rfl) (by kernel_rfl) (fun _ _ _ h => h) (Or.inl ⟨by rfl, ?_⟩) (by assumption) ?_
  rotate_left 1
  · intro W' hSw
    go_simp
    try with_reducible rfl
  try simp only [Act.put, List.setIfInBounds_toArray, List.set_cons_zero, List.set_cons_succ]
  refine wpAnyH_take (i := 8) (oi := ⟨_, _, _, _, _, _⟩) (v := ?_) rfl (by kernel_rfl) (by kernel_rfl) (by kernel_rfl) (fun _ _ _ h => h) (Or.inl ⟨by rfl, ?_⟩) (by assumption) ?_
  rotate_left 1
  · intro W' hSw
    go_simp
    try with_reducible rfl
  try simp only [Act.put, List.setIfInBounds_toArray, List.set_cons_zero, List.set_cons_succ]
  refine wpAnyH_take (i := 9) (oi := ⟨_, _, _, _, _, _⟩) (v := ?_) rfl (by kernel_rfl) (by kernel_rfl) (by kernel_rfl) (fun _ _ _ h => h) (Or.inl ⟨by rfl, ?_⟩) (by assumption) ?_
  rotate_left 1
  · intro W' hSw
    go_simp
    try with_reducible rfl
  try simp only [Act.put, List.setIfInBounds_toArray, List.set_cons_zero, List.set_cons_succ]
  refine wpAnyH_ready (rs := [5]) (by kernel_rfl) (by simp) ?_
  refine AllReadyH.cons (o := ⟨_, _, _, _, _, _⟩) rfl (fun K' hK => ?_) AllReadyH.nil
  go_simp
  refine hK.out _ _ hbf (fun hHeld => ?_)
  clear hK K'
  try simp only [Act.put, List.setIfInBounds_toArray, List.set_cons_zero, List.set_cons_succ]
  refine wpAnyH_ready (rs := [10]) (by kernel_rfl) (by simp) ?_
  refine AllReadyH.cons (o := ⟨_, _, _, _, _, _⟩) rfl (fun K' hK => ?_) AllReadyH.nil
  refine wp_append_run _ _ 75 rfl _ _ _ _ rfl rfl hrun ?_
  refine hK.out _ _ hbfV1 (fun hHeld => ?_)
  clear hK K'
  try simp only [Act.put, List.setIfInBounds_toArray, List.set_cons_zero, List.set_cons_succ]
  refine wpAnyH_take (i := 11) (oi := ⟨_, _, _, _, _, _⟩) (v := ?_) rfl (by kernel_rfl) (by kernel_rfl) (by kernel_rfl) (fun _ _ _ h => h) (Or.inl ⟨by rfl, ?_⟩) (by assumption) ?_
  rotate_left 1
  · intro W' hSw
    go_simp
    try with_reducible rfl
  try simp only [Act.put, List.setIfInBounds_toArray, List.set_cons_zero, List.set_cons_succ]
  refine wpAnyH_ready (rs := [12]) (by kernel_rfl) (by simp) ?_
  refine AllReadyH.cons (o := ⟨_, _, _, _, _, _⟩) rfl (fun K' hK => ?_) AllReadyH.nil
  go_simp
  refine hK.out _ _ hSd (fun hHeld => ?_)
  clear hK K'
  try simp only [Act.put, List.setIfInBounds_toArray, List.set_cons_zero, List.set_cons_succ]
  refine wpAnyH_done (by kernel_rfl) ?_ _
  clear hHeld hSd
  go_wp2_with fail
  refine ⟨rfl, rfl, ⟨rfl, rfl, i + 1, by omega, ?_, HJ⟩, ?_⟩
  · show Value.int .i64 _ = _
    go_num
  · show n - (intOf (Value.int .i64 _)).toNat < n - (intOf (G 4)).toNat
    rw [H4.out]
    simp [intOf]; omega
theorem RelN.factsC {W0 : World} {bo : Nat} {F : List (List NRow)} {O : Own} {V : World} (h : RelN Oc W0 bo F O V) {U : Own} (hU : ∀ k, W0.heap.size ≤ k → U k = .no) (hU2 : ∀ k, k < W0.heap.size → Oc.f k = .no → U k = .no) : FactsAt (core U V) (some ⟨bo, 0, none⟩) F.length F := by
  obtain ⟨C, h1, h2, h3⟩ := h.rows
  have key : ∀ q, q < F.length → ∃ s : Sl, nth C q = some (Sl.val s) ∧ ∀ L, F[q]? = some L → RowsAt (core U V) s.a s.len L := fun q hq => by
    obtain ⟨a, c, K, g1, g2, g3, g4⟩ := h3 q _ (List.getElem?_eq_getElem hq)
    refine ⟨⟨a, _, c⟩, g1, fun L hL => ?_⟩
    rw [List.getElem?_eq_getElem hq] at hL
    cases hL
    have hs9 : Sub (core O V) (core U V) := Sub.cores fun b Cb hb ho => by
      refine ⟨hb, ?_⟩
      by_cases hk : b < W0.heap.size
      · exact hU2 b hk ((h.old b hk).symm.trans ho)
      · exact hU b (by omega)
    exact ⟨K, (g2.rw encR_len).1.tocore (fun b C e _ => hU b (row_at g2.1 b (by rw [e]; rfl)).1), rfl, fun i s r e1 e2 => (g4 i s r e1 e2).sub hs9⟩
  obtain ⟨Ks, hK⟩ : ∃ Ks : List Sl, Ks.length = F.length ∧ ∀ q s, Ks[q]? = some s → nth C q = some (Sl.val s) ∧ ∀ L, F[q]? = some L → RowsAt (core U V) s.a s.len L := by
    refine ⟨(List.range F.length).map fun q => if hq : q < F.length then (key q hq).choose else ⟨none, 0, 0⟩, by simp, fun q s hs => ?_⟩
    rw [List.getElem?_map] at hs
    have hq : q < F.length := by
      by_cases h9 : q < F.length
      · exact h9
      · rw [List.getElem?_eq_none (by rw [List.length_range]; omega)] at hs; cases hs
    rw [List.getElem?_range hq] at hs
    have e : (key q hq).choose = s := by
      have h9 := Option.some.inj hs
      dsimp only at h9
      rw [dif_pos hq] at h9
      exact h9
    rw [← e]
    exact (key q hq).choose_spec
  refine ⟨Ks, ⟨hK.1, fun i s hs => ⟨bo, C, rfl, blk_core h1 (hU bo h.new), by omega, ?_⟩⟩, rfl, fun i s L e1 e2 => (hK.2 i s e1).2 L e2⟩
  rw [Nat.mul_one]
  exact seg_nth1 (hK.2 i s hs).1
/-- The lists and the steps, in memory. -/
structure PfS (Oc : LOwn) (W : World) (bo : Nat) (O : Own) (V : World) (F : List (List NRow)) (ta : Option Addr) (tn tc : Nat) (KT : List MStep) (T : List NStep) : Prop where
  rel : RelN Oc W bo F O V
  row : RowL W.heap.size O (.a 7 0) V 161 4 (.slice ta tn tc) KT.length (KT.flatMap MStep.enc)
  len : T.length = KT.length
  con : ∀ (i : Nat) (k : MStep) (s : NStep), KT[i]? = some k → T[i]? = some s → StC (core O V) k s
theorem PfS.fr {W : World} {bo : Nat} {O O' : Own} {V V' : World} {F : List (List NRow)} {ta : Option Addr} {tn tc : Nat} {KT : List MStep} {T : List NStep} (h : PfS Oc W bo O V F ta tn tc KT T) (hF : Fr (fun _ => False) O V O' V') : PfS Oc W bo O' V' F ta tn tc KT T :=
  ⟨h.rel.fr hF (fun _ e => e) (fun e => e) (fun _ e => e), h.row.fr hF (fun e => e), h.len, fun i k s h1 h2 => (h.con i k s h1 h2).sub (Sub.cores fun b C hb ho => ⟨hF.blk hb (fun e => e), (hF.keep b (blk_lt hb)).trans ho⟩)⟩
theorem PfS.grow {W : World} {bo : Nat} {O : Own} {V V' : World} {F : List (List NRow)} {ta : Option Addr} {tn tc : Nat} {KT : List MStep} {T : List NStep} (h : PfS Oc W bo O V F ta tn tc KT T) (hx : V.Extends V') : PfS Oc W bo (lab O V.heap.size .no) V' F ta tn tc KT T := h.fr (Fr.grow hx)
/-- The lists, the steps, and what the round has found. -/
structure PfF (Oc : LOwn) (W : World) (bo : Nat) (O : Own) (V : World) (F : List (List NRow)) (ta : Option Addr) (tn tc : Nat) (KT : List MStep) (T : List NStep) (fa : Option Addr) (fn fc : Nat) (K : List MStep) (S : List NStep) : Prop where
  st : PfS Oc W bo O V F ta tn tc KT T
  row : RowL W.heap.size O (.a 7 1) V 161 4 (.slice fa fn fc) K.length (K.flatMap MStep.enc)
  len : S.length = K.length
  con : ∀ (i : Nat) (k : MStep) (s : NStep), K[i]? = some k → S[i]? = some s → StC (core O V) k s
theorem PfS.merge {W : World} {bo : Nat} {O O' : Own} {V0 V : World} {F : List (List NRow)} {ta : Option Addr} {tn tc : Nat} {KT : List MStep} {T : List NStep} {fa : Option Addr} {fn fc : Nat} {K : List MStep} {S : List NStep} (h : PfS Oc W bo O V0 F ta tn tc KT T) (hS : FdS V0 O' V fa fn fc K S) : ∃ O2, PfF Oc W bo O2 V F ta tn tc KT T fa fn fc K S := by
  classical
  obtain ⟨O2, h1, h2, h3⟩ : ∃ O2 : Own, (∀ k, k < V0.heap.size → O2 k = O k) ∧ (∀ k, ¬ k < V0.heap.size → O' k = .a 9 3 → O2 k = .a 7 1) ∧ (∀ k, ¬ k < V0.heap.size → O' k ≠ .a 9 3 → O2 k = .no) :=
    ⟨fun k => if k < V0.heap.size then O k else if O' k = .a 9 3 then .a 7 1 else .no, fun k hk => if_pos hk, fun k hk e => by dsimp only; rw [if_neg hk, if_pos e], fun k hk e => by dsimp only; rw [if_neg hk, if_neg e]⟩
  have hF : Fr (fun _ => False) O V0 O2 V := ⟨hS.ext.os, hS.ext.tape, hS.ext.output, hS.ext.size, h1, fun k hk _ => hS.ext.block k hk⟩
  have hsub : Sub (core O' V) (core O2 V) := Sub.cores fun b C hb ho => by
    by_cases hk : b < V0.heap.size
    · rw [hS.lo b hk] at ho; cases ho
    · exact ⟨hb, h3 b hk (by rw [ho]; exact fun e => by cases e)⟩
  refine ⟨O2, h.fr hF, ⟨row_base hS.row.1 h.rel.ext.size, fun k hk => ?_⟩, hS.len, fun i k s e1 e2 => (hS.con i k s e1 e2).sub hsub⟩
  have h9 := (row_at hS.row.1 k hk).1
  exact h2 k (by omega) (hS.row.2 k hk)
theorem PfF.drewN {W : World} {bo : Nat} {O : Own} {V : World} {F : List (List NRow)} {ta : Option Addr} {tn tc : Nat} {KT : List MStep} {T : List NStep} {fa : Option Addr} {fn fc : Nat} {K : List MStep} {S : List NStep} (h : PfF Oc W bo O V F ta tn tc KT T fa fn fc K S) (n : Nat) : PfF Oc W bo O (V.drewN n) F ta tn tc KT T fa fn fc K S := by
  have hF : Fr (fun _ => False) O V O (V.drewN n) := (Fr.refl _ _ _).drewN n
  exact ⟨h.st.fr hF, h.row.fr hF (fun e => e), h.len, fun i k s h1 h2 => (h.con i k s h1 h2).sub (Sub.cores fun b C hb ho => ⟨hF.blk hb (fun e => e), ho⟩)⟩
/-- One of the facts found is added to its list. -/
theorem PfF.add {W : World} {bo : Nat} {O : Own} {V : World} {F : List (List NRow)} {ta : Option Addr} {tn tc : Nat} {KT : List MStep} {T : List NStep} {fa : Option Addr} {fn fc : Nat} {K : List MStep} {S : List NStep} (h : PfF Oc W bo O V F ta tn tc KT T fa fn fc K S) {i : Nat} {k : MStep} {s : NStep} (hk : K[i]? = some k) (hs : S[i]? = some s) (hp : s.pred < F.length) (hl : (F.getD s.pred []).length ≤ 999999999999) : ∃ C a c a' c' V' O', blk V bo = some C ∧ s.pred < C.length ∧ C.length = F.length ∧ nth C s.pred = some (.slice a (F.getD s.pred []).length c) ∧ (Builtin.append_ #[75, 75] 75 #[.slice a (F.getD s.pred []).length c, .slice (some ⟨V.heap.size, 0, none⟩) 1 1]).run Tryz.prog (V.alloc (.cells #[.slice k.row.a k.row.len k.row.cap] 78)) = .ok (.slice a' ((F.getD s.pred []).length + 1) c') V' ∧ blk V' bo = some C ∧ Blk.free V' bo = true ∧ (∀ b Cb, blk V b = some Cb → O b = .a 7 1 → blk V' b = some Cb) ∧ PfF Oc W bo O' (put V' bo (splice C s.pred [.slice a' ((F.getD s.pred []).length + 1) c'])) (addRN F s.pred s.row) ta tn tc KT T fa fn fc K S := by
  have hL : F[s.pred]? = some (F.getD s.pred []) := by rw [List.getD_eq_getElem?_getD, List.getElem?_eq_getElem hp]; rfl
  have hst := h.con i k s hk hs
  obtain ⟨C, a, c, a', c', V', O', k1, k2, k3, k4, hrun, k5, k6, k7, k8⟩ := h.st.rel.app hL k.row s.row hst.2.2.1 (by omega)
  have hbo : O bo = .a 8 0 := h.st.rel.lab
  have hne7 : ∀ j q : Nat, ¬ (Lab.a 7 j = Lab.a 8 q) := fun j q e => by have := (Lab.a.inj e).1; omega
  have hrow : ∀ {j : Nat} {v : Value} {n : Nat} {xs : List Value}, RowL W.heap.size O (.a 7 j) V 161 4 v n xs → RowL W.heap.size O' (.a 7 j) (put V' bo (splice C s.pred [.slice a' ((F.getD s.pred []).length + 1) c'])) 161 4 v n xs := fun {j} {v} {n} {xs} hr => (hr.fr k7 (hne7 _ _)).keep (fun b hb hl => ⟨by
    rw [heap_put, if_neg (fun e : b = bo => by
      have h9 := k8.lab
      rw [← e, hl] at h9
      exact hne7 _ _ h9)], rfl⟩)
  have hsub : Sub (core O V) (core O' (put V' bo (splice C s.pred [.slice a' ((F.getD s.pred []).length + 1) c']))) := Sub.cores fun b Cb hb ho => by
    refine ⟨?_, (k7.keep b (blk_lt hb)).trans ho⟩
    rw [blk_put, if_neg (fun e => by rw [e, hbo] at ho; cases ho)]
    exact k7.blk hb (by rw [ho]; exact fun e => by cases e)
  refine ⟨C, a, c, a', c', V', O', k1, k2, k3, k4, hrun, k5, k6, fun b Cb hb ho => k7.blk hb (by rw [ho]; exact hne7 _ _), ⟨k8, hrow h.st.row, h.st.len, fun i k s h1 h2 => (h.st.con i k s h1 h2).sub hsub⟩, hrow h.row, h.len, fun i k s h1 h2 => (h.con i k s h1 h2).sub hsub⟩
/-- What was found is added to the steps. -/
theorem PfF.close {W : World} {bo : Nat} {O : Own} {V : World} {F : List (List NRow)} {ta : Option Addr} {tn tc : Nat} {KT : List MStep} {T : List NStep} {fa : Option Addr} {fn fc : Nat} {K : List MStep} {S : List NStep} (h : PfF Oc W bo O V F ta tn tc KT T fa fn fc K S) (hl : T.length + S.length ≤ 1000000000000) : ∃ a' c' V' O', (Builtin.append_ #[53, 53] 53 #[.slice ta tn tc, .slice fa fn fc]).run Tryz.prog V = .ok (.slice a' (tn + fn) c') V' ∧ PfS Oc W bo O' V' F a' (tn + fn) c' (KT ++ K) (T ++ S) := by
  have hKn := (h.row.rw MStep.len).1
  have hKl : K.length = fn := hKn.1
  have h1 := h.st.len
  have h2 := h.len
  obtain ⟨a', c', V', hrun, hR, hF⟩ := appML el53 53 K h.st.row h.st.rel.ext.size (by omega) (by omega) fa fc (by rw [hKl]; exact hKn)
  rw [hKl] at hrun hR
  have hsub : Sub (core O V) (core (lab O V.heap.size (.a 7 0)) V') := Sub.cores fun b Cb hb ho => ⟨hF.blk hb (by rw [ho]; exact fun e => by cases e), (hF.keep b (blk_lt hb)).trans ho⟩
  refine ⟨a', c', V', _, hrun, h.st.rel.fr hF (fun j e => by have := (Lab.a.inj e).1; omega) (fun e => by cases e) (fun k e => by have := Oc.low _ _ _ e; omega), hR, by rw [List.length_append, List.length_append]; omega, fun i k s e1 e2 => ?_⟩
  by_cases hi : i < KT.length
  · rw [List.getElem?_append_left hi] at e1
    rw [List.getElem?_append_left (by omega)] at e2
    exact (h.st.con i k s e1 e2).sub hsub
  · rw [List.getElem?_append_right (by omega)] at e1
    rw [List.getElem?_append_right (by omega), h1] at e2
    exact (h.con _ k s e1 e2).sub hsub
end OcN
end Go.Proofs.Qxb6500787aGreat
