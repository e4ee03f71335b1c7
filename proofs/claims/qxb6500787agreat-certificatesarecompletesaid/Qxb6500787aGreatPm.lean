import Derived.Test.Qxb6500787aGreatPl

import Derived.StillTailTactics
import Derived.Deep.QuietTactic
import Derived.BigQuiet
import Derived.Deep.RegionHeld
import Derived.Deep.CutRange
import Derived.Laws.ResultCell
import Derived.Laws.Rows
import Derived.DeepKeys
import Derived.DataBytes
import Derived.Laws.StructEq
import Derived.Laws.AppendOwn
import Derived.Laws.MakeOwn
import Derived.Lib.AppendStr
set_option linter.unusedSimpArgs false
set_option linter.unusedVariables false
namespace Go.Proofs.Qxb6500787aGreat
open Go.RowKit Go.Blk
attribute [local go_sem ↓] execOp_load execOp_store execOp_alloc
attribute [local go_sem] Tryz.ld26 Tryz.st26 Tryz.ld27 Tryz.st27 Tryz.ld28 Tryz.st28 Tryz.ld3 Tryz.st3 Tryz.ld29 Tryz.st29 Tryz.ld44 Tryz.st44 Tryz.ld4 Tryz.st4 Tryz.ld50 Tryz.st50 Tryz.ld32 Tryz.st32 Tryz.ld49 Tryz.st49 Tryz.ld68 Tryz.st68 Tryz.ld9 Tryz.st9 Tryz.ld40 Tryz.st40 Tryz.ld138 Tryz.st138 Tryz.ld139 Tryz.st139 Tryz.ld146 Tryz.st146 Tryz.ld183 Tryz.st183 Tryz.ld184 Tryz.st184 Tryz.ld192 Tryz.st192 Tryz.ld195 Tryz.st195 Tryz.ld217 Tryz.st217 Tryz.ld159 Tryz.st159 Tryz.ld142 Tryz.st142 Tryz.ld2 Tryz.st2 Tryz.ld5 Tryz.st5 Tryz.ld12 Tryz.st12 Tryz.ld21 Tryz.st21 Tryz.ld22 Tryz.st22 Tryz.ld24 Tryz.st24 Tryz.ld58 Tryz.st58 Tryz.ld97 Tryz.st97 Tryz.ld101 Tryz.st101 Tryz.ld116 Tryz.st116 Tryz.ld121 Tryz.st121 Tryz.ld135 Tryz.st135 Tryz.ld136 Tryz.st136 Tryz.ld143 Tryz.st143 Tryz.ld148 Tryz.st148 Tryz.ld154 Tryz.st154 Tryz.ld173 Tryz.st173 Tryz.ld187 Tryz.st187 Tryz.ld222 Tryz.st222 Tryz.ld241 Tryz.st241 Tryz.ld248 Tryz.st248 Tryz.ld268 Tryz.st268 Tryz.ld272 Tryz.st272 Tryz.ld153 Tryz.st153 Tryz.ld255 Tryz.st255 Tryz.ld256 Tryz.st256 Tryz.ld129 Tryz.st129 Tryz.ld152 Tryz.st152 Tryz.ld31 Tryz.st31 Tryz.ld46 Tryz.st46 Tryz.ld52 Tryz.st52 Tryz.ld54 Tryz.st54 Tryz.ld60 Tryz.st60 Tryz.ld70 Tryz.st70 Tryz.ld74 Tryz.st74 Tryz.ld93 Tryz.st93 Tryz.ld141 Tryz.st141 Tryz.ld151 Tryz.st151 Tryz.ld170 Tryz.st170 Tryz.ld186 Tryz.st186 Tryz.ld189 Tryz.st189 Tryz.ld194 Tryz.st194 Tryz.ld197 Tryz.st197 Tryz.ld219 Tryz.st219 Tryz.ld224 Tryz.st224 Tryz.ld230 Tryz.st230 Tryz.ld235 Tryz.st235 Tryz.ld243 Tryz.st243 Tryz.ld247 Tryz.st247 Tryz.ld252 Tryz.st252 Tryz.ld258 Tryz.st258 Tryz.al153 Tryz.al255 Tryz.al256 Tryz.al129 Tryz.al152 Tryz.al31 Tryz.al46 Tryz.al52 Tryz.al54 Tryz.al60 Tryz.al70 Tryz.al74 Tryz.al93 Tryz.al141 Tryz.al151 Tryz.al170 Tryz.al186 Tryz.al189 Tryz.al194 Tryz.al197 Tryz.al219 Tryz.al224 Tryz.al230 Tryz.al235 Tryz.al243 Tryz.al247 Tryz.al252 Tryz.al258
attribute [local go_sem] Request.length_enc Request.ok_enc Request.all_get Request.all_set Request.kind_get Request.kind_set Request.blob_get Request.blob_set Request.items_get Request.items_set Request.pred_get Request.pred_set Request.slots_get Request.slots_set Trace.length_enc Trace.ok_enc Trace.all_get Trace.all_set Trace.op_get Trace.op_set Trace.calls_get Trace.calls_set Item.length_enc Item.ok_enc Item.all_get Item.all_set Item.del_get Item.del_set Item.pred_get Item.pred_set Item.args_get Item.args_set Reply.length_enc Reply.ok_enc Reply.all_get Reply.all_set Reply.code_get Reply.code_set Reply.kind_get Reply.kind_set Reply.index_get Reply.index_set Reply.yes_get Reply.yes_set Reply.preds_get Reply.preds_set Reply.rules_get Reply.rules_set Reply.arity_get Reply.arity_set Reply.rows_get Reply.rows_set Reply.fact_get Reply.fact_set Reply.fact_del_get Reply.fact_del_set Reply.fact_pred_get Reply.fact_pred_set Reply.fact_args_get Reply.fact_args_set GEntry.length_enc GEntry.ok_enc GEntry.all_get GEntry.all_set GEntry.seq_get GEntry.seq_set GEntry.kind_get GEntry.kind_set GEntry.code_get GEntry.code_set GOp.length_enc GOp.ok_enc GOp.all_get GOp.all_set GOp.kind_get GOp.kind_set GOp.raw_get GOp.raw_set Reader.length_enc Reader.ok_enc Reader.all_get Reader.all_set Reader.buf_get Reader.buf_set Reader.at__get Reader.at__set Slot.length_enc Slot.ok_enc Slot.all_get Slot.all_set Slot.bound_get Slot.bound_set Slot.name_get Slot.name_set Session.length_enc Session.ok_enc Session.all_get Session.all_set Session.svc_get Session.svc_set Session.buf_get Session.buf_set Session.closed_get Session.closed_set GProgram.length_enc GProgram.ok_enc GProgram.all_get GProgram.all_set GProgram.pool_get GProgram.pool_set GProgram.preds_get GProgram.preds_set GProgram.rules_get GProgram.rules_set GProgram.strata_get GProgram.strata_set PredInfo.length_enc PredInfo.ok_enc PredInfo.all_get PredInfo.all_set PredInfo.arity_get PredInfo.arity_set PredInfo.base_get PredInfo.base_set PredInfo.stratum_get PredInfo.stratum_set Change.length_enc Change.ok_enc Change.all_get Change.all_set Change.del_get Change.del_set Change.pred_get Change.pred_set Change.t_get Change.t_set Store.length_enc Store.ok_enc Store.all_get Store.all_set Store.names_get Store.names_set Store.arity_get Store.arity_set Store.rows_get Store.rows_set Src.length_enc Src.ok_enc Src.all_get Src.all_set Src.b_get Src.b_set Src.at__get Src.at__set Atom.length_enc Atom.ok_enc Atom.all_get Atom.all_set Atom.pred_get Atom.pred_set Atom.args_get Atom.args_set GRule.length_enc GRule.ok_enc GRule.all_get GRule.all_set GRule.head_get GRule.head_set GRule.body_get GRule.body_set GRule.head_pred_get GRule.head_pred_set GRule.head_args_get GRule.head_args_set Cert.length_enc Cert.ok_enc Cert.all_get Cert.all_set Cert.names_get Cert.names_set Cert.nodes_get Cert.nodes_set Fact.length_enc Fact.ok_enc Fact.all_get Fact.all_set Fact.pred_get Fact.pred_set Fact.t_get Fact.t_set Literal.length_enc Literal.ok_enc Literal.all_get Literal.all_set Literal.neg_get Literal.neg_set Literal.atom_get Literal.atom_set Literal.atom_pred_get Literal.atom_pred_set Literal.atom_args_get Literal.atom_args_set Engine.length_enc Engine.ok_enc Engine.all_get Engine.all_set Engine.prog_get Engine.prog_set Engine.st_get Engine.st_set SrcCertm.length_enc SrcCertm.ok_enc SrcCertm.all_get SrcCertm.all_set SrcCertm.b_get SrcCertm.b_set SrcCertm.at__get SrcCertm.at__set GNode.length_enc GNode.ok_enc GNode.all_get GNode.all_set GNode.rule_get GNode.rule_set GNode.pred_get GNode.pred_set GNode.vals_get GNode.vals_set GNode.refs_get GNode.refs_set Term.length_enc Term.ok_enc Term.all_get Term.all_set Term.var_get Term.var_set Term.n_get Term.n_set Env.length_enc Env.ok_enc Env.all_get Env.all_set Env.val_get Env.val_set Env.set_get Env.set_set
attribute [local go_sem] size_put size_ext blk_put free_put blk_alloc free_alloc blk_drew free_drew blk_ext free_ext lookOr_some putOr_some segAt_some cellAt_some storeIn_some put_put put_alloc_new length_arr ok_arr_u8 ok_arr_u32 ok_arr_u64 ok_arr_i64 ok_arr_sl cellsV_agg cellsV_int cellsV_bool cellsV_string cellsV_pointer cellsV_slice cellsV_sl ok_int ok_bool ok_string ok_pointer ok_slice ok_sl toList_arr seg_arr set_arr nth_splice nth_splice0 seg_splice seg_splice0 splice_splice splice_splice0 length_splice_if
attribute [local go_sem ↓] execOp_box
attribute [local go_sem] box_run nth_arr_u8 put_arr_u8 blk_drewN free_drewN put_drewN blk_raw free_raw
/-- Names interned, and rows of numbers made of rows of names. -/
def inN (N : List (List UInt8)) (x : List UInt8) : List (List UInt8) := (internF N x).2.2
def tuS (X : List (List UInt8) × List Int) (x : List UInt8) : List (List UInt8) × List Int := (inN X.1 x, X.2 ++ [(internF X.1 x).1])
def tuF (N : List (List UInt8)) (r : NRow) : List (List UInt8) × List Int := r.foldl tuS (N, [])
def tuT (N : List (List UInt8)) (r : NRow) : Tup := mkT (fun c => (tuF N r).2.getD c 0) r.length
def rwS (X : List (List UInt8) × List Tup) (r : NRow) : List (List UInt8) × List Tup := ((tuF X.1 r).1, X.2 ++ [tuT X.1 r])
def prS (X : List (List UInt8) × List (List Tup)) (Ls : List NRow) : List (List UInt8) × List (List Tup) := ((Ls.foldl rwS (X.1, [])).1, X.2 ++ [(Ls.foldl rwS (X.1, [])).2])
def stoF (pool : List (List UInt8)) (F : List (List NRow)) : List (List UInt8) × List (List Tup) := F.foldl prS (pool.foldl inN [], [])
theorem inN_len {N : List (List UInt8)} (h : N.length ≤ 256) (x : List UInt8) : (inN N x).length ≤ 256 := by
  unfold inN internF
  split
  · exact h
  · split
    · exact h
    · rw [List.length_append, List.length_singleton]; omega
theorem tuF_pre (N : List (List UInt8)) : ∀ (r : NRow) (X : List (List UInt8) × List Int), (r.foldl tuS X).2.length = X.2.length + r.length ∧ X.2 <+: (r.foldl tuS X).2
  | [], X => ⟨rfl, List.prefix_refl _⟩
  | x :: r, X => by
    obtain ⟨h1, h2⟩ := tuF_pre N r (tuS X x)
    rw [List.foldl_cons, List.length_cons]
    refine ⟨?_, ?_⟩
    · rw [h1]
      show (X.2 ++ _).length + _ = _
      rw [List.length_append, List.length_singleton]; omega
    · exact (List.prefix_append X.2 _).trans h2
theorem tuF_at {N : List (List UInt8)} {r : NRow} {c : Nat} {x : List UInt8} (hx : r[c]? = some x) : (tuF N r).2.getD c 0 = (internF ((r.take c).foldl tuS (N, [])).1 x).1 := by
  unfold tuF
  have e : r = r.take (c + 1) ++ r.drop (c + 1) := (List.take_append_drop _ _).symm
  have h1 : r.foldl tuS (N, []) = (r.drop (c + 1)).foldl tuS ((r.take (c + 1)).foldl tuS (N, [])) := by
    conv => lhs; rw [e]
    rw [List.foldl_append]
  rw [h1]
  obtain ⟨-, k2⟩ := tuF_pre N (r.drop (c + 1)) ((r.take (c + 1)).foldl tuS (N, []))
  obtain ⟨K, hK⟩ := k2
  rw [take_at hx, List.foldl_append] at hK ⊢
  have hl := (tuF_pre N (r.take c) (N, [])).1
  have hcl : (r.take c).length = c := by rw [List.length_take, Nat.min_eq_left]; have := (List.getElem?_eq_some_iff.1 hx).1; omega
  rw [hcl] at hl
  have hl' : ((r.take c).foldl tuS (N, [])).2.length = c := by rw [hl]; simp
  rw [← hK]
  show ((((r.take c).foldl tuS (N, [])).2 ++ [(internF ((r.take c).foldl tuS (N, [])).1 x).1]) ++ K).getD c 0 = _
  rw [List.getD_eq_getElem?_getD, List.append_assoc, List.getElem?_append_right (by omega), hl', Nat.sub_self]
  rfl
/-- The store while it is built. -/
structure SS (W : World) (O : Own) (V : World) (bst : Nat) (N : List (List UInt8)) (A : List Int) (R : List (List Tup)) : Prop where
  st : StB W.heap.size O V 0 bst N A R
  ext : W.Extends V
  old : ∀ k, k < W.heap.size → O k = .no
  nl : N.length ≤ 256
  al : A.length ≤ R.length
theorem SS.out {W : World} {O : Own} {V V' : World} {bst : Nat} {N N' : List (List UInt8)} {A A' : List Int} {R R' : List (List Tup)} (h : SS W O V bst N A R) (ho : StbOut W.heap.size O V 0 bst N' A' R' V') (hn : N'.length ≤ 256) (ha : A'.length ≤ R'.length) : ∃ O', Fr (isS 0) O V O' V' ∧ SS W O' V' bst N' A' R' := by
  obtain ⟨O', hF, hS⟩ := ho
  exact ⟨O', hF, hS, hF.extends h.ext (fun k hk e => by rw [h.old k hk] at e; exact isS_no 0 e), fun k hk => (hF.keep k (Nat.lt_of_lt_of_le hk h.ext.size)).trans (h.old k hk), hn, ha⟩
theorem isS_95 : ¬ isS 0 (.a 9 5) := by rintro ⟨j, e⟩; have := (Lab.a.inj e).1; omega
theorem SS.frL {W : World} {O O' : Own} {V V' : World} {bst : Nat} {N : List (List UInt8)} {A : List Int} {R : List (List Tup)} (h : SS W O V bst N A R) {L : Lab → Prop} (hF : Fr L O V O' V') (h2 : ∀ j, ¬ L (.a 2 j)) (h8 : ∀ j, ¬ L (.a 8 j)) (hn : ¬ L .no) : SS W O' V' bst N A R := ⟨h.st.fr hF (fun j => h2 j) h8, hF.extends h.ext (fun k hk e => by rw [h.old k hk] at e; exact hn e), fun k hk => (hF.keep k (Nat.lt_of_lt_of_le hk h.ext.size)).trans (h.old k hk), h.nl, h.al⟩
/-- A tuple is added to a row. -/
theorem SS.app {W : World} {O : Own} {V : World} {bst : Nat} {N : List (List UInt8)} {A : List Int} {R : List (List Tup)} (h : SS W O V bst N A R) {q : Nat} {L : List Tup} (hq : R[q]? = some L) (t : Tup) (hl : L.length ≤ 1000000) : ∃ na nn nc aa an ac br rc Cr da dc a' c' V' O', blk V bst = some (stE na nn nc aa an ac (some ⟨br, 0, none⟩) R.length rc) ∧ blk V br = some Cr ∧ q < Cr.length ∧ nth Cr q = some (.slice da L.length dc) ∧ bst ≠ br ∧ O br = .a 2 3 ∧ (Builtin.append_ #[257, 257] 257 #[.slice da L.length dc, .slice (some ⟨V.heap.size, 0, none⟩) 1 1]).run Tryz.prog (V.alloc (.cells (arr i64v t).toArray 214)) = .ok (.slice a' (L.length + 1) c') V' ∧ blk V' br = some Cr ∧ free V' br = true ∧ Fr (fun y => y = .a 8 (q + 1)) O V O' V' ∧ Fr (fun y => y = .a 8 (q + 1) ∨ y = .a 2 3) O V O' (put V' br (splice Cr q [.slice a' (L.length + 1) c'])) ∧ SS W O' (put V' br (splice Cr q [.slice a' (L.length + 1) c'])) bst N A (R.set q (L ++ [t])) := by
  obtain ⟨na, nn, nc, aa, an, ac, ra, rn, rc, Ds, hs⟩ := h.st
  have hqR := (List.getElem?_eq_some_iff.1 hq).1
  have hrn : Ds.length = rn := (hs.rw.rw encD1_len).1.1
  have hqD : q < rn := by rw [← hrn, hs.dl]; exact hqR
  obtain ⟨d, hd⟩ : ∃ d, Ds[q]? = some d := ⟨_, List.getElem?_eq_getElem (by rw [hs.dl]; exact hqR)⟩
  have hrow := hs.dr q d L hd hq
  have hdl : L.length = d.len := (hrow.rw tpl_len).1.1
  obtain ⟨a', c', V', hrun, hR2, hF⟩ := appL tpl 4 32 257 214 Tryz.underlying257 info153 tpl_len tpl_one (by omega) (by omega) 257 t hrow h.ext.size (by omega) (arr i64v t).toArray rfl 1
  rw [← hdl] at hrun hR2
  obtain ⟨O', hO'⟩ : ∃ O', O' = lab O V.heap.size (.a 8 (q + 1)) := ⟨_, rfl⟩
  rw [← hO'] at hR2 hF
  have n2 : ∀ i j : Nat, ¬ (Lab.a 2 i = .a 8 j) := fun i j e => by have := (Lab.a.inj e).1; omega
  have n8 : ∀ i j : Nat, i ≠ j → ¬ (Lab.a 8 (i + 1) = .a 8 (j + 1)) := fun i j hne e => by have := (Lab.a.inj e).2; omega
  have rw2 := hs.rw.fr hF (n2 3 _)
  obtain ⟨br, Cr, e1, e2, e3, e4, e5, e6, e7, e8⟩ := rw2.set encD1_len hqD (⟨a', L.length + 1, c'⟩ : Sl)
  rw [Nat.mul_one] at e6 e8
  have hbV : blk V br = some Cr := by
    have h9 := hs.rw.open encD1_len (by omega)
    obtain ⟨g9, C9, f1, f2, f3, f4, f5, f6, f7, f8, -⟩ := h9
    have eg : g9 = br := by rw [e1] at f1; cases f1; rfl
    subst eg
    have h8 := hF.blk f2 (by rw [f5]; exact n2 3 _)
    rw [e2] at h8
    rw [f2, ← Option.some.inj h8]
  have hobr : O br = .a 2 3 := by rw [← hF.keep br (blk_lt hbV)]; exact e4
  have hne : bst ≠ br := fun e => by rw [← e, hs.own] at hobr; have := (Lab.a.inj hobr).2; omega
  have hput : Fr (fun l => l = .a 2 3) O' V' O' (put V' br (splice Cr q [.slice a' (L.length + 1) c'])) := Fr.put (L := fun l => l = .a 2 3) (Fr.refl _ _ _) e4 _
  have hnth : nth Cr q = some (.slice d.a L.length d.cap) := by
    have h9 := e7 q d hd
    rw [Nat.mul_one] at h9
    have h8 := nth_in (j := 0) h9 (show nth (encD1 d) 0 = some (Sl.val d) from rfl) (by omega)
    rw [Nat.add_zero] at h8
    rw [hdl]; exact h8
  have hcell' : blk (put V' br (splice Cr q [.slice a' (L.length + 1) c'])) bst = some (stE na nn nc aa an ac ra rn rc) := by
    rw [blk_put, if_neg hne]
    exact hF.blk hs.cell (by rw [hs.own]; exact n2 0 _)
  have hRl : R.length = rn := by rw [← hs.dl]; exact hrn
  refine ⟨na, nn, nc, aa, an, ac, br, rc, Cr, d.a, d.cap, a', c', V', O', ?_, hbV, by omega, hnth, hne, hobr, hrun, e2, e3, hF, ?_, ?_⟩
  · rw [hs.cell, e1, hRl]
  · exact (hF.mono (fun l e => .inl e)).trans (hput.mono (fun l e => .inr e))
  · refine ⟨⟨na, nn, nc, aa, an, ac, ra, rn, rc, Ds.set q ⟨a', L.length + 1, c'⟩, hcell', ?_, ?_, hs.low, (hs.nm.fr hF (n2 1 _)).fr hput (lab_j (by omega)), (hs.ar.fr hF (n2 2 _)).fr hput (lab_j (by omega)), e8, by rw [List.length_set, List.length_set]; exact hs.dl, fun i d' L' hd' hL' => ?_⟩, ?_, fun k hk => (hF.keep k (Nat.lt_of_lt_of_le hk h.ext.size)).trans (h.old k hk), h.nl, by rw [List.length_set]; exact h.al⟩
    · rw [free_put]; exact hF.free hs.cell hs.fre (by rw [hs.own]; exact n2 0 _)
    · rw [hF.keep bst (blk_lt hs.cell)]; exact hs.own
    · by_cases hiq : i = q
      · subst hiq
        rw [List.getElem?_set_self (by rw [hs.dl]; exact hqR)] at hd'
        rw [List.getElem?_set_self hqR] at hL'
        cases hd'
        cases hL'
        exact hR2.fr hput (fun e => by have := (Lab.a.inj e).1; omega)
      · rw [List.getElem?_set_ne (fun e => hiq e.symm)] at hd' hL'
        exact ((hs.dr i d' L' hd' hL').fr hF (n8 i q hiq)).fr hput (fun e => by have := (Lab.a.inj e).1; omega)
    · refine extends_put (hF.extends h.ext (fun k hk e => by rw [h.old k hk] at e; cases e)) ?_ _
      exact e5
/-- The store, done, is read as any store. -/
theorem SS.sto {W : World} {O : Own} {V : World} {bst : Nat} {N : List (List UInt8)} {A : List Int} {R : List (List Tup)} (h : SS W O V bst N A R) : ∃ O', Sto W.heap.size O' V 0 bst N A R := by
  classical
  obtain ⟨na, nn, nc, aa, an, ac, ra, rn, rc, Ds, hs⟩ := h.st
  obtain ⟨O', hO'⟩ : ∃ O' : Own, O' = fun k => if ∃ j, O k = .a 8 j then .no else O k := ⟨_, rfl⟩
  have hk2 : ∀ k j, O k = .a 2 j → O' k = .a 2 j := fun k j e => by
    rw [hO']
    show (if _ then _ else _) = _
    rw [if_neg (fun ⟨j', e'⟩ => by rw [e] at e'; have := (Lab.a.inj e').1; omega)]
    exact e
  have hk8 : ∀ k j, O k = .a 8 j → O' k = .no := fun k j e => by
    rw [hO']
    show (if _ then _ else _) = _
    rw [if_pos ⟨j, e⟩]
  have keep : ∀ {j : Nat} {e : TypeId} {sz : Nat} {v : Value} {n : Nat} {xs : List Value}, RowL W.heap.size O (.a 2 j) V e sz v n xs → RowL W.heap.size O' (.a 2 j) V e sz v n xs := fun hr => ⟨hr.1, fun k hk => hk2 k _ (hr.2 k hk)⟩
  refine ⟨O', na, nn, nc, aa, an, ac, ra, rn, rc, Ds, hs.cell, hs.fre, hk2 _ _ hs.own, hs.low, keep hs.nm, keep hs.ar, keep hs.rw, hs.dl, fun i d L hd hL => ?_⟩
  have hr := hs.dr i d L hd hL
  exact (hr.rw tpl_len).1.tocore (fun b C e _ => hk8 b _ (hr.2 b (by rw [e]; rfl)))
def zS1 (W : World) (b : Nat) (v1 : Value) (bst N0 : Nat) (pool : List (List UInt8)) (f : Nat → Value) (V : World) : Prop := f 0 = .pointer (some ⟨b, 2, none⟩) ∧ f 1 = v1 ∧ f 5 = .pointer (some ⟨bst, 0, none⟩) ∧ ∃ i : Nat, i ≤ N0 ∧ f 6 = .int .i64 (i : Nat) ∧ Hid (∃ O, SS W O V bst ((pool.take i).foldl inN []) [] [])
def zS2 (W : World) (b : Nat) (v1 : Value) (bst n : Nat) (X0 : List (List UInt8) × List (List Tup)) (F : List (List NRow)) (f : Nat → Value) (V : World) : Prop := f 0 = .pointer (some ⟨b, 2, none⟩) ∧ f 1 = v1 ∧ f 5 = .pointer (some ⟨bst, 0, none⟩) ∧ ∃ q : Nat, q ≤ n ∧ f 7 = .int .i64 (q : Nat) ∧ Hid (∃ O A, SS W O V bst ((F.take q).foldl prS X0).1 A ((F.take q).foldl prS X0).2 ∧ ((F.take q).foldl prS X0).2.length = q)
def zS3 (W : World) (b : Nat) (v1 : Value) (bst q n : Nat) (N1 : List (List UInt8)) (R1 : List (List Tup)) (Ls : List NRow) (f : Nat → Value) (V : World) : Prop := f 0 = .pointer (some ⟨b, 2, none⟩) ∧ f 1 = v1 ∧ f 5 = .pointer (some ⟨bst, 0, none⟩) ∧ f 7 = .int .i64 (q : Nat) ∧ ∃ i : Nat, i ≤ n ∧ f 8 = .int .i64 (i : Nat) ∧ Hid (∃ O A, SS W O V bst ((Ls.take i).foldl rwS (N1, [])).1 A (R1 ++ [((Ls.take i).foldl rwS (N1, [])).2]) ∧ ((Ls.take i).foldl rwS (N1, [])).2.length = i)
def zS4 (W : World) (b : Nat) (v1 : Value) (bst q i n b9 : Nat) (N2 : List (List UInt8)) (R2 : List (List Tup)) (r : NRow) (f : Nat → Value) (V : World) : Prop := f 0 = .pointer (some ⟨b, 2, none⟩) ∧ f 1 = v1 ∧ f 5 = .pointer (some ⟨bst, 0, none⟩) ∧ f 7 = .int .i64 (q : Nat) ∧ f 8 = .int .i64 (i : Nat) ∧ f 9 = .pointer (some ⟨b9, 0, none⟩) ∧ ∃ c : Nat, c ≤ n ∧ f 10 = .int .i64 (c : Nat) ∧ Hid (∃ O A, SS W O V bst ((r.take c).foldl tuS (N2, [])).1 A R2 ∧ O b9 = .a 9 5 ∧ free V b9 = true ∧ blk V b9 = some (arr i64v (mkT (fun c => (tuF N2 r).2.getD c 0) c)))
set_option maxRecDepth 100000 in
theorem zframe101 (f : Nat → Value) : frameN 101 f = #[f 0, f 1, f 2, f 3, f 4, f 5, f 6, f 7, f 8, f 9, f 10, f 11, f 12, f 13, f 14, f 15, f 16, f 17, f 18, f 19, f 20, f 21, f 22, f 23, f 24, f 25, f 26, f 27, f 28, f 29, f 30, f 31, f 32, f 33, f 34, f 35, f 36, f 37, f 38, f 39, f 40, f 41, f 42, f 43, f 44, f 45, f 46, f 47, f 48, f 49, f 50, f 51, f 52, f 53, f 54, f 55, f 56, f 57, f 58, f 59, f 60, f 61, f 62, f 63, f 64, f 65, f 66, f 67, f 68, f 69, f 70, f 71, f 72, f 73, f 74, f 75, f 76, f 77, f 78, f 79, f 80, f 81, f 82, f 83, f 84, f 85, f 86, f 87, f 88, f 89, f 90, f 91, f 92, f 93, f 94, f 95, f 96, f 97, f 98, f 99, f 100] := by kernel_rfl
def StoPost (W : World) (X : List (List UInt8) × List (List Tup)) (e : Ending) (V : World) : Prop := ∃ bst O A, e = .returned (.pointer (some ⟨bst, 0, none⟩)) ∧ SS W O V bst X.1 A X.2
attribute [local go_sem ↓] execOp_bslice
attribute [local go_sem] bslice148 Tryz.zl75 Tryz.zs75 Tryz.zl52 Tryz.zs52 st_len st0 st1 st2
set_option maxRecDepth 40000 in
set_option maxHeartbeats 1000000 in
theorem storeOf_any (W : World) (b : Nat) (p : PP) (hp : ProgT W b p) (hpk : PPok p) (fa : Option Addr) (fn fc : Nat) (F : List (List NRow)) (hF : FactsAt W fa fn F) (hfn : fn = p.preds.length) (hll : ∀ L ∈ F, L.length ≤ 512) (hr4 : Rows4 F) : Calls Tryz.prog 109 #[.pointer (some ⟨b, 2, none⟩), .slice fa fn fc] W (StoPost W (stoF p.pool F)) := by
  obtain ⟨Q, hQ⟩ : ∃ Q, Q = StoPost W (stoF p.pool F) := ⟨_, rfl⟩
  rw [← hQ]
  have HQ := hid_of hQ
  obtain ⟨Ce, pa, pc, da, dc, ra, rc, z1, z2, z3, z4, z5, z6, z7, z8, z9⟩ := hp.cells
  have hn64 : fn ≤ 64 := by rw [hfn]; exact hpk.nD
  have HPK := hid_of hpk
  have HFN := hid_of hfn
  rw [← hfn] at z4
  obtain ⟨pn, epn⟩ : ∃ pn, pn = p.pool.length := ⟨_, rfl⟩
  have hpn : pn ≤ 256 := by rw [epn]; exact hpk.nP
  rw [← epn] at z3 z7
  have HPN := hid_of epn
  have HZ1 := hid_of z1
  have HZ7 := hid_of z7
  have HZ8 : Hid (Rw PredInfo.enc 3 W da fn p.preds) := by rw [← hfn] at z8; exact z8
  have HFA := hid_of hF
  have HFL : Hid (F.length = fn) := hF.choose_spec.2.1
  have HLL := hid_of hll
  have HR4 := hid_of hr4
  have l2 : 2 < Ce.length := by omega
  have l3 : 3 < Ce.length := by omega
  clear hQ hp hpk hF hfn hll hr4 z2 z5 z6 z7 z8 z9 epn
  go_enter Tryz.func109, Tryz.ntmps109
  go_wp2_with fail
  refine (newStB_any (fun _ => .no) W 0).mono ?_
  rintro e V0 ⟨bst, O0, rfl, hx0, ho0, -, hS0⟩
  dsimp only
  have HB0 : Hid (∃ O, SS W O V0 bst ((p.pool.take 0).foldl inN []) [] []) := ⟨O0, hS0, hx0, fun k hk => ho0 k hk, Nat.zero_le _, Nat.le_refl _⟩
  clear hx0 ho0 hS0
  go_wp2_with fail
  refine wp_loop_f 101 (zS1 W b (.slice fa fn fc) bst pn p.pool) (fun f _ => pn - (intOf (f 6)).toNat) rfl ⟨rfl, rfl, rfl, 0, by omega, rfl, HB0⟩ ?_
  clear HB0 z1
  intro G1 V1 hrel
  obtain ⟨f0, f1, f5, i, hi, f6, HI⟩ := hrel
  have H6 := hid_of f6
  rw [zframe101, f0, f1, f5, f6]
  clear f0 f1 f5 f6
  obtain ⟨O1, hS1⟩ := HI.out
  have HS1 := hid_of hS1
  have z1 : blk V1 b = some Ce := (hS1.ext.blk (blk_lt HZ1.out)).trans HZ1.out
  clear HI hS1
  by_cases hii : i < pn
  · have hii' : (i : Int) < (pn : Int) := by omega
    have i0 : (0 : Int) ≤ (i : Int) := by omega
    have i2 : ((i : Int)).toNat = i := by omega
    obtain ⟨x, hx⟩ : ∃ x, p.pool[i]? = some x := ⟨_, List.getElem?_eq_getElem (by have := HPN.out; omega)⟩
    obtain ⟨b9, C9, rfl, g1, g2, g3⟩ := str_at HZ7.out hx
    have hC9 : blk V1 b9 = some C9 := (HS1.out.ext.blk (blk_lt g1)).trans g1
    have hin := internB_any (by omega) HS1.out.st HS1.out.ext.size HS1.out.nl x
    have HNX : Hid (inN ((p.pool.take i).foldl inN []) x = (p.pool.take (i + 1)).foldl inN []) := by
      show _ = _
      rw [foldl_take _ _ hx]
    clear hx g1
    go_wp2_with fail
    refine hin.mono ?_
    rintro e V2 ⟨rfl, ho2⟩
    dsimp only
    obtain ⟨O2, -, hS2⟩ := HS1.out.out ho2 (inN_len HS1.out.nl x) (Nat.le_refl _)
    have HJ : Hid (∃ O, SS W O V2 bst ((p.pool.take (i + 1)).foldl inN []) [] []) := ⟨O2, by rw [← HNX.out]; exact hS2⟩
    clear hin ho2 hS2 HS1
    go_wp2_with fail
    refine ⟨rfl, rfl, ⟨rfl, rfl, rfl, i + 1, by omega, ?_, HJ⟩, ?_⟩
    · show Value.int .i64 _ = _
      go_num
    · show pn - (intOf (Value.int .i64 _)).toNat < pn - (intOf (G1 6)).toNat
      rw [H6.out]
      simp [intOf]; omega
  have hii' : ¬ (i : Int) < (pn : Int) := by omega
  obtain ⟨N0, eN0⟩ : ∃ N0, N0 = p.pool.foldl inN [] := ⟨_, rfl⟩
  have HB2 : Hid (∃ O A, SS W O V1 bst ((F.take 0).foldl prS (N0, [])).1 A ((F.take 0).foldl prS (N0, [])).2 ∧ ((F.take 0).foldl prS (N0, [])).2.length = 0) := ⟨O1, [], by
    have h9 := HS1.out
    rw [List.take_of_length_le (by have := HPN.out; omega), ← eN0] at h9
    exact h9, rfl⟩
  have HN0 := hid_of eN0
  clear HS1 eN0 hi
  go_upto_region 7 with fail
  refine wp_loop_f 101 (zS2 W b (.slice fa fn fc) bst fn (N0, []) F) (fun f _ => fn - (intOf (f 7)).toNat) rfl ⟨rfl, rfl, rfl, 0, by omega, rfl, HB2⟩ ?_
  clear HB2 z1
  intro G2 V2 hrel
  obtain ⟨f0, f1, f5, q, hq, f7, HI⟩ := hrel
  have H7 := hid_of f7
  rw [zframe101, f0, f1, f5, f7]
  clear f0 f1 f5 f7
  obtain ⟨O2, A2, hS2, hR2⟩ := HI.out
  have HS2 := hid_of hS2
  have HR2 := hid_of hR2
  have z1 : blk V2 b = some Ce := (hS2.ext.blk (blk_lt HZ1.out)).trans HZ1.out
  clear HI hS2 hR2
  by_cases hqn : q < fn
  rotate_left 1
  · have hqn' : ¬ (q : Int) < (fn : Int) := by omega
    have HP : Hid (Q (.returned (.pointer (some ⟨bst, 0, none⟩))) V2) := by
      show Q _ _
      rw [HQ.out]
      have h9 := HS2.out
      rw [List.take_of_length_le (by have := HFL.out; omega)] at h9
      refine ⟨bst, O2, A2, rfl, ?_⟩
      unfold stoF
      rw [← HN0.out]
      exact h9
    clear HS2 HR2
    go_wp2_with fail
    try go_ret
    exact HP.out
  have hqn' : (q : Int) < (fn : Int) := by omega
  have q0 : (0 : Int) ≤ (q : Int) := by omega
  have q2 : ((q : Int)).toNat = q := by omega
  obtain ⟨bd, Cd, rfl, y1, y2, y3⟩ := HZ8.out.2 q _ (pI_at (by rw [← HFN.out]; exact hqn))
  obtain ⟨har, har4⟩ := pI_ar HPK.out (q := q) (by rw [← HFN.out]; exact hqn)
  obtain ⟨ar, ear⟩ : ∃ ar, ar = arP p q := ⟨_, rfl⟩
  rw [← ear] at har
  have n0 : nth Cd (q * 3) = some (.int .i64 (ar : Int)) := by
    have h9 := nth_in (j := 0) y3 (show nth (PredInfo.enc (pI p q)) 0 = some (.int .i64 (pI p q).arity) from rfl) (by omega)
    rw [har] at h9
    exact h9
  have l9 : (q + 1) * 3 ≤ fn * 3 := Nat.mul_le_mul_right _ hqn
  have l4 : q * 3 < Cd.length := by omega
  have hbd : blk V2 bd = some Cd := (HS2.out.ext.blk (blk_lt y1)).trans y1
  obtain ⟨N1, eN1⟩ : ∃ N1, N1 = ((F.take q).foldl prS (N0, [])).1 := ⟨_, rfl⟩
  obtain ⟨R1, eR1⟩ : ∃ R1, R1 = ((F.take q).foldl prS (N0, [])).2 := ⟨_, rfl⟩
  rw [← eN1, ← eR1] at HS2
  rw [← eR1] at HR2
  have HE1 : Hid (N1 = ((F.take q).foldl prS (N0, [])).1 ∧ R1 = ((F.take q).foldl prS (N0, [])).2) := ⟨eN1, eR1⟩
  have hdf := defineB_any (by omega) HS2.out.st HS2.out.ext.size (by have h9 := HS2.out.al; have h8 := HR2.out; omega) (by have h8 := HR2.out; omega) (ar : Int)
  obtain ⟨Ls, hLs⟩ : ∃ x, F[q]? = some x := ⟨_, List.getElem?_eq_getElem (by have := HFL.out; omega)⟩
  obtain ⟨bq, Cq, sq, rfl, g1, g2, g3, g4⟩ := HFA.out.at hLs
  obtain ⟨sa, sn, sc⟩ := sq
  dsimp only at g3 g4
  have HG1 := hid_of g1
  have HG4 := hid_of g4
  have hsn : Ls.length = sn := g4.choose_spec.2.1
  have HSN := hid_of hsn
  have hsb : sn ≤ 512 := by rw [← hsn]; exact HLL.out Ls (List.mem_of_getElem? hLs)
  have HLS := hid_of hLs
  clear y1 y2 y3 har har4 ear l9 eN1 eR1 g1 g4 hsn hLs
  go_wp2_with fail
  refine hdf.mono ?_
  rintro e V3 ⟨rfl, ho3⟩
  dsimp only
  obtain ⟨O3, -, hS3⟩ := HS2.out.out ho3 HS2.out.nl (by rw [List.length_append, List.length_append]; have := HS2.out.al; simp; omega)
  have HB3 : Hid (∃ O A, SS W O V3 bst ((Ls.take 0).foldl rwS (N1, [])).1 A (R1 ++ [((Ls.take 0).foldl rwS (N1, [])).2]) ∧ ((Ls.take 0).foldl rwS (N1, [])).2.length = 0) := ⟨O3, _, hS3, rfl⟩
  clear hdf ho3 hS3 HS2 hbd z1
  go_upto_region 11 with fail
  refine wp_loop_f 101 (zS3 W b (.slice (some ⟨bq, 0, none⟩) fn fc) bst q sn N1 R1 Ls) (fun f _ => sn - (intOf (f 8)).toNat) rfl ⟨rfl, rfl, rfl, rfl, 0, by omega, rfl, HB3⟩ ?_
  clear HB3
  intro G3 V4 hrel
  obtain ⟨f0, f1, f5, f7, i4, hi4, f8, HI⟩ := hrel
  have H8 := hid_of f8
  rw [zframe101, f0, f1, f5, f7, f8]
  clear f0 f1 f5 f7 f8
  obtain ⟨O4, A4, hS4, hL4⟩ := HI.out
  have HS4 := hid_of hS4
  have HL4 := hid_of hL4
  have g1 : blk V4 bq = some Cq := (hS4.ext.blk (blk_lt HG1.out)).trans HG1.out
  clear HI hS4 hL4
  by_cases hin : i4 < sn
  rotate_left 1
  · have hin' : ¬ (i4 : Int) < (sn : Int) := by omega
    have HJ : Hid (∃ O A, SS W O V4 bst ((F.take (q + 1)).foldl prS (N0, [])).1 A ((F.take (q + 1)).foldl prS (N0, [])).2 ∧ ((F.take (q + 1)).foldl prS (N0, [])).2.length = q + 1) := by
      have e9 : (F.take (q + 1)).foldl prS (N0, []) = ((Ls.foldl rwS (N1, [])).1, R1 ++ [(Ls.foldl rwS (N1, [])).2]) := by
        rw [foldl_take _ _ HLS.out]
        have e8 : ∀ X : List (List UInt8) × List (List Tup), prS X Ls = ((Ls.foldl rwS (X.1, [])).1, X.2 ++ [(Ls.foldl rwS (X.1, [])).2]) := fun _ => rfl
        rw [e8, ← HE1.out.1, ← HE1.out.2]
      rw [e9]
      have h9 := HS4.out
      rw [List.take_of_length_le (by have := HSN.out; omega)] at h9
      exact ⟨O4, A4, h9, by rw [List.length_append, HR2.out]; rfl⟩
    clear HS4 HL4
    go_wp2_with fail
    refine ⟨rfl, rfl, ⟨rfl, rfl, rfl, q + 1, by omega, ?_, HJ⟩, ?_⟩
    · show Value.int .i64 _ = _
      go_num
    · show fn - (intOf (Value.int .i64 _)).toNat < fn - (intOf (G2 7)).toNat
      rw [H7.out]
      simp [intOf]; omega
  have hin' : (i4 : Int) < (sn : Int) := by omega
  have j0 : (0 : Int) ≤ (i4 : Int) := by omega
  have j2 : ((i4 : Int)).toNat = i4 := by omega
  obtain ⟨r, hr⟩ : ∃ x, Ls[i4]? = some x := ⟨_, List.getElem?_eq_getElem (by have := HSN.out; omega)⟩
  obtain ⟨br, Cr, sr, rfl, g5, g6, g7, g8⟩ := HG4.out.at hr
  obtain ⟨ta, tn, tc⟩ := sr
  dsimp only at g7 g8
  have htn : r.length = tn := g8.1
  have htb : tn ≤ 4 := by rw [← htn]; exact HR4.out Ls (List.mem_of_getElem? HLS.out) r (List.mem_of_getElem? hr)
  have HG5 := hid_of g5
  have HG8 := hid_of g8
  have HTN := hid_of htn
  have HR := hid_of hr
  have hbr : blk V4 br = some Cr := (HS4.out.ext.blk (blk_lt g5)).trans g5
  obtain ⟨N2, eN2⟩ : ∃ N2, N2 = ((Ls.take i4).foldl rwS (N1, [])).1 := ⟨_, rfl⟩
  obtain ⟨T2, eT2⟩ : ∃ T2, T2 = ((Ls.take i4).foldl rwS (N1, [])).2 := ⟨_, rfl⟩
  rw [← eN2, ← eT2] at HS4
  rw [← eT2] at HL4
  have HE2 : Hid ((N2, T2) = (Ls.take i4).foldl rwS (N1, [])) := by show _ = _; rw [eN2, eT2]
  clear g5 g8 htn hr eN2 eT2
  obtain ⟨vf, evf⟩ : ∃ vf : Nat → Int, vf = fun c => (tuF N2 r).2.getD c 0 := ⟨_, rfl⟩
  have HVF := hid_of evf
  clear evf
  go_upto_region 15 with fail
  refine wp_world (fun V => V4.Extends V ∧ blk V V4.heap.size = some (arr i64v (mkT vf 0)) ∧ free V V4.heap.size = true) ⟨extends_alloc (ext_Ext (Ext.refl _)) _, by rw [blk_alloc, if_pos rfl, mkT_zero], by rw [free_alloc, if_pos rfl]⟩ ?_
  rintro V5 ⟨hx5, hb9, hf9⟩
  obtain ⟨b9, e9⟩ : ∃ b9, b9 = V4.heap.size := ⟨_, rfl⟩
  rw [← e9] at hb9 hf9 ⊢
  have hF5 : Fr (fun _ => False) O4 V4 (lab O4 V4.heap.size (.a 9 5)) V5 := ⟨hx5.os, hx5.tape, hx5.output, hx5.size, fun k hk => lab_lt hk, fun k hk _ => hx5.block k hk⟩
  have hS5 := HS4.out.frL hF5 (fun _ e => e) (fun _ e => e) (fun e => e)
  have HB4 : Hid (∃ O A, SS W O V5 bst ((r.take 0).foldl tuS (N2, [])).1 A (R1 ++ [T2]) ∧ O b9 = .a 9 5 ∧ free V5 b9 = true ∧ blk V5 b9 = some (arr i64v (mkT (fun c => (tuF N2 r).2.getD c 0) 0))) := ⟨_, A4, hS5, by rw [e9]; exact lab_ge (Nat.le_refl _), hf9, by rw [← HVF.out]; exact hb9⟩
  clear hx5 hb9 hf9 e9 hF5 hS5 g1 hbr HS4
  refine wp_loop_f 101 (zS4 W b (.slice (some ⟨bq, 0, none⟩) fn fc) bst q i4 tn b9 N2 (R1 ++ [T2]) r) (fun f _ => tn - (intOf (f 10)).toNat) rfl ⟨rfl, rfl, rfl, rfl, rfl, rfl, 0, by omega, rfl, HB4⟩ ?_
  clear HB4
  intro G4 V6 hrel
  obtain ⟨f0, f1, f5, f7, f8, f9, c, hc, f10, HI⟩ := hrel
  have H10 := hid_of f10
  rw [zframe101, f0, f1, f5, f7, f8, f9, f10]
  clear f0 f1 f5 f7 f8 f9 f10
  obtain ⟨O6, A6, hS6, ho9, hf9, hb9⟩ := HI.out
  rw [← HVF.out] at hb9
  have HS6 := hid_of hS6
  have HO9 := hid_of ho9
  have g1 : blk V6 bq = some Cq := (hS6.ext.blk (blk_lt HG1.out)).trans HG1.out
  have hbr : blk V6 br = some Cr := (hS6.ext.blk (blk_lt HG5.out)).trans HG5.out
  clear HI hS6 ho9
  by_cases hcn : c < tn
  · have hcn' : (c : Int) < (tn : Int) := by omega
    have c0 : (0 : Int) ≤ (c : Int) := by omega
    have c2 : ((c : Int)).toNat = c := by omega
    have c4 : c < 4 := by omega
    have c4' : (c : Int) < 4 := by omega
    obtain ⟨x, hx⟩ : ∃ x, r[c]? = some x := ⟨_, List.getElem?_eq_getElem (by have := HTN.out; omega)⟩
    obtain ⟨b8, C8, rfl, g9, g10, g11⟩ := str_at HG8.out hx
    have hC8 : blk V6 b8 = some C8 := (HS6.out.ext.blk (blk_lt g9)).trans g9
    obtain ⟨N6, eN6⟩ : ∃ N6, N6 = ((r.take c).foldl tuS (N2, [])).1 := ⟨_, rfl⟩
    have hS6' := HS6.out
    rw [← eN6] at hS6'
    have hin6 := internB_any (by omega) hS6'.st hS6'.ext.size hS6'.nl x
    have hvc : (internF N6 x).1 = vf c := by
      rw [HVF.out, eN6]
      exact (tuF_at hx).symm
    rw [hvc] at hin6
    have HNX : Hid (inN N6 x = ((r.take (c + 1)).foldl tuS (N2, [])).1) := by
      show _ = _
      rw [foldl_take _ _ hx, eN6]; rfl
    have HS6' := hid_of hS6'
    have hput := mkT_put vf c4 (v := vf c) rfl
    obtain ⟨T0, hT0⟩ : ∃ T0, T0 = mkT vf c := ⟨_, rfl⟩
    obtain ⟨T1, hT1⟩ : ∃ T1, T1 = mkT vf (c + 1) := ⟨_, rfl⟩
    rw [← hT0, ← hT1] at hput
    rw [← hT0] at hb9
    have HT1 := hid_of hT1
    obtain ⟨vc, evc⟩ : ∃ vc, vc = vf c := ⟨_, rfl⟩
    rw [← evc] at hin6 hput
    have hl4 : (arr i64v T0).length = 4 := length_arr _ _
    have HB9 : Hid (blk V6 b9 = some (arr i64v T0) ∧ free V6 b9 = true) := ⟨hb9, hf9⟩
    clear hx g9 eN6 hvc hS6' hT0 hT1 evc HS6
    go_wp2_with fail
    refine hin6.mono ?_
    rintro e V7 ⟨rfl, ho7⟩
    dsimp only
    obtain ⟨O7, hF7, hS7⟩ := HS6'.out.out ho7 (inN_len HS6'.out.nl x) HS6'.out.al
    have hb97 : blk V7 b9 = some (arr i64v T0) := hF7.blk HB9.out.1 (by rw [HO9.out]; exact isS_95)
    have hf97 : free V7 b9 = true := hF7.free HB9.out.1 HB9.out.2 (by rw [HO9.out]; exact isS_95)
    have ho97 : O7 b9 = .a 9 5 := (hF7.keep b9 (blk_lt HB9.out.1)).trans HO9.out
    have hFp : Fr (fun l => l = .a 9 5) O7 V7 O7 (put V7 b9 (arr i64v T1)) := Fr.put (L := fun l => l = .a 9 5) (Fr.refl _ _ _) ho97 _
    have HJ : Hid (∃ O A, SS W O (put V7 b9 (arr i64v T1)) bst ((r.take (c + 1)).foldl tuS (N2, [])).1 A (R1 ++ [T2]) ∧ O b9 = .a 9 5 ∧ free (put V7 b9 (arr i64v T1)) b9 = true ∧ blk (put V7 b9 (arr i64v T1)) b9 = some (arr i64v (mkT (fun c => (tuF N2 r).2.getD c 0) (c + 1)))) := by
      refine ⟨O7, A6, ?_, ho97, by rw [free_put]; exact hf97, ?_⟩
      · rw [← HNX.out]
        exact hS7.frL hFp (fun j e => by have := (Lab.a.inj e).1; omega) (fun j e => by have := (Lab.a.inj e).1; omega) (fun e => by cases e)
      · rw [blk_put, if_pos rfl, hb97]
        show some _ = _
        rw [HT1.out, HVF.out]
    have hcl : c < (arr i64v T0).length := by omega
    have hcl1 : c + 1 ≤ (arr i64v T0).length := by omega
    clear hin6 ho7 hS7 hF7 hFp HS6' hb9 hf9
    go_wp2_with fail
    refine ⟨rfl, rfl, ⟨rfl, rfl, rfl, rfl, rfl, rfl, c + 1, by omega, ?_, HJ⟩, ?_⟩
    · show Value.int .i64 _ = _
      go_num
    · show tn - (intOf (Value.int .i64 _)).toNat < tn - (intOf (G4 10)).toNat
      rw [H10.out]
      simp [intOf]; omega
  have hcn' : ¬ (c : Int) < (tn : Int) := by omega
  have hct : c = r.length := by have := HTN.out; omega
  obtain ⟨N7, eN7⟩ : ∃ N7, N7 = ((r.take c).foldl tuS (N2, [])).1 := ⟨_, rfl⟩
  have hS6 := HS6.out
  rw [← eN7] at hS6
  have hS6d : SS W O6 V6.drew bst N7 A6 (R1 ++ [T2]) := hS6.frL (L := fun _ => False) ((Fr.refl _ _ _).drewN 1) (fun _ e => e) (fun _ e => e) (fun e => e)
  have hRq : (R1 ++ [T2])[q]? = some T2 := by rw [List.getElem?_append_right (by rw [HR2.out]; omega), HR2.out, Nat.sub_self]; rfl
  obtain ⟨tt, ett⟩ : ∃ tt, tt = mkT vf c := ⟨_, rfl⟩
  rw [← ett] at hb9
  obtain ⟨na, nn, nc, aa, an, ac, bw, rc9, Cw, da9, dc9, a', c', V7, O7, w1, w2, w3, w4, w5, w5o, hrun, w6, w7, w8, w9, hS7⟩ := hS6d.app hRq tt (by have := HL4.out; omega)
  have hT2 : T2.length = i4 := HL4.out
  have HJ : Hid (∃ O A, SS W O (put V7 bw (splice Cw q [.slice a' (T2.length + 1) c'])) bst ((Ls.take (i4 + 1)).foldl rwS (N1, [])).1 A (R1 ++ [((Ls.take (i4 + 1)).foldl rwS (N1, [])).2]) ∧ ((Ls.take (i4 + 1)).foldl rwS (N1, [])).2.length = i4 + 1) := by
    have e9 : (Ls.take (i4 + 1)).foldl rwS (N1, []) = (N7, T2 ++ [tt]) := by
      rw [foldl_take _ _ HR.out, ← HE2.out]
      have e8 : rwS (N2, T2) r = ((tuF N2 r).1, T2 ++ [tuT N2 r]) := rfl
      rw [e8, eN7, ett, hct, List.take_length, HVF.out]
      rfl
    rw [e9]
    have e7 : (R1 ++ [T2]).set q (T2 ++ [tt]) = R1 ++ [T2 ++ [tt]] := by
      rw [List.set_append_right _ _ (by rw [HR2.out]; omega), HR2.out, Nat.sub_self]; rfl
    rw [e7] at hS7
    exact ⟨O7, A6, hS7, by rw [List.length_append, hT2]; rfl⟩
  have hRl : (R1 ++ [T2]).length = q + 1 := by rw [List.length_append, HR2.out]; rfl
  rw [hRl] at w1
  have hb97 : blk V7 b9 = some (arr i64v tt) := w8.blk (W := V6.drew) hb9 (by rw [HO9.out]; exact fun e => by have := (Lab.a.inj e).1; omega)
  have hnbw : ¬ b9 = bw := fun e => by
    rw [← e, HO9.out] at w5o
    have := (Lab.a.inj w5o).1
    omega
  have hst7 : blk V7 bst = some (stE na nn nc aa an ac (some ⟨bw, 0, none⟩) (q + 1) rc9) := by
    obtain ⟨na8, nn8, nc8, aa8, an8, ac8, ra8, rn8, rc8, Ds8, hs8⟩ := hS6d.st
    exact w8.blk (W := V6.drew) w1 (by rw [hs8.own]; exact fun e => by have := (Lab.a.inj e).1; omega)
  have hltb : bst < V6.drew.heap.size := blk_lt w1
  have hlt9 : b9 < V6.drew.heap.size := blk_lt hb9
  have hltw : bw < V6.drew.heap.size := blk_lt w2
  have hS0 : blk V6 bst = some (stE na nn nc aa an ac (some ⟨bw, 0, none⟩) (q + 1) rc9) ∧ blk V6 b9 = some (arr i64v tt) := ⟨w1, hb9⟩
  have hSd : blk V6.drew bst = some (stE na nn nc aa an ac (some ⟨bw, 0, none⟩) (q + 1) rc9) ∧ blk V6.drew b9 = some (arr i64v tt) := ⟨w1, hb9⟩
  have hSb : blk (V6.drew.alloc (.cells (arr i64v tt).toArray 214)) bst = some (stE na nn nc aa an ac (some ⟨bw, 0, none⟩) (q + 1) rc9) ∧ blk (V6.drew.alloc (.cells (arr i64v tt).toArray 214)) b9 = some (arr i64v tt) := ⟨by rw [blk_alloc, if_neg (by omega)]; exact w1, by rw [blk_alloc, if_neg (by omega)]; exact hb9⟩
  have hwb : blk (V6.drew.alloc (.cells (arr i64v tt).toArray 214)) bw = some Cw := by rw [blk_alloc, if_neg (by omega)]; exact w2
  have hS7b : blk V7 bst = some (stE na nn nc aa an ac (some ⟨bw, 0, none⟩) (q + 1) rc9) ∧ blk V7 b9 = some (arr i64v tt) := ⟨hst7, hb97⟩
  have hS8b : blk (put V7 bw (splice Cw q [.slice a' (T2.length + 1) c'])) bst = some (stE na nn nc aa an ac (some ⟨bw, 0, none⟩) (q + 1) rc9) ∧ blk (put V7 bw (splice Cw q [.slice a' (T2.length + 1) c'])) b9 = some (arr i64v tt) := ⟨by rw [blk_put, if_neg w5]; exact hst7, by rw [blk_put, if_neg hnbw]; exact hb97⟩
  have w3' : q + 1 ≤ Cw.length := w3
  have w2n : blk V6 bw = some Cw := w2
  have hnw1 : ¬ bw = V6.drew.heap.size := by omega
  have hnw2 : ¬ bw = V6.heap.size := hnw1
  have hq1 : (q : Int) < ((q + 1 : Nat) : Int) := by omega
  have hq2 : (q : Int) < (q : Int) + 1 := by omega
  have httl : (arr i64v tt).length = 4 := length_arr _ _
  have htts : seg (arr i64v tt) 0 4 = arr i64v tt := seg_all _ _ httl
  have w2' : blk V6.drew bw = some Cw := w2
  rw [hT2] at w4 hrun HJ hS8b
  clear hS6 hS6d hRq ett eN7 w8 w9 hS7 hct hRl HS6 HO9 w5o hT2
  go_upto_region 18 with fail
  repeat go_step
  refine wp_region_held_drew (S := fun W' => blk W' bst = some (stE na nn nc aa an ac (some ⟨bw, 0, none⟩) (q + 1) rc9) ∧ blk W' b9 = some (arr i64v tt)) (by kernel_rfl) hS0 (fun hHeld => ?_)
  refine wpAnyH_take (i := 0) (oi := ⟨_, _, _, _, _, _⟩) (v := ?_) rfl (by kernel_rfl) (by kernel_rfl) (by kernel_rfl) (fun _ _ _ h => h) (Or.inl ⟨by rfl, ?_⟩) (by assumption) ?_
  rotate_left 1
  · intro W' hSw
    obtain ⟨hS1, hS2⟩ := hSw
    go_simp
    try with_reducible rfl
  try simp only [Act.put, List.setIfInBounds_toArray, List.set_cons_zero, List.set_cons_succ]
  refine wpAnyH_take (i := 1) (oi := ⟨_, _, _, _, _, _⟩) (v := ?_) rfl (by kernel_rfl) (by kernel_rfl) (by kernel_rfl) (fun _ _ _ h => h) (Or.inl ⟨by rfl, ?_⟩) (by assumption) ?_
  rotate_left 1
  · intro W' hSw
    obtain ⟨hS1, hS2⟩ := hSw
    go_simp
    try with_reducible rfl
  try simp only [Act.put, List.setIfInBounds_toArray, List.set_cons_zero, List.set_cons_succ]
  refine wpAnyH_take (i := 2) (oi := ⟨_, _, _, _, _, _⟩) (v := ?_) rfl (by kernel_rfl) (by kernel_rfl) (by kernel_rfl) (fun _ _ _ h => h) (Or.inl ⟨by rfl, ?_⟩) (by assumption) ?_
  rotate_left 1
  · intro W' hSw
    obtain ⟨hS1, hS2⟩ := hSw
    go_simp
    try with_reducible rfl
  try simp only [Act.put, List.setIfInBounds_toArray, List.set_cons_zero, List.set_cons_succ]
  refine wpAnyH_take (i := 3) (oi := ⟨_, _, _, _, _, _⟩) (v := ?_) rfl (by kernel_rfl) (by kernel_rfl) (by kernel_rfl) (fun _ _ _ h => h) (Or.inl ⟨by rfl, ?_⟩) (by assumption) ?_
  rotate_left 1
  · intro W' hSw
    obtain ⟨hS1, hS2⟩ := hSw
    go_simp
    try with_reducible rfl
  try simp only [Act.put, List.setIfInBounds_toArray, List.set_cons_zero, List.set_cons_succ]
  refine wpAnyH_take (i := 4) (oi := ⟨_, _, _, _, _, _⟩) (v := ?_) rfl (by kernel_rfl) (by kernel_rfl) (by kernel_rfl) (fun _ _ _ h => h) (Or.inl ⟨by rfl, ?_⟩) (by assumption) ?_
  rotate_left 1
  · intro W' hSw
    obtain ⟨hS1, hS2⟩ := hSw
    go_simp
    try with_reducible rfl
  try simp only [Act.put, List.setIfInBounds_toArray, List.set_cons_zero, List.set_cons_succ]
  refine wpAnyH_take (i := 5) (oi := ⟨_, _, _, _, _, _⟩) (v := ?_) rfl (by kernel_rfl) (by kernel_rfl) (by kernel_rfl) (fun _ _ _ h => h) (Or.inl ⟨by rfl, ?_⟩) (by assumption) ?_
  rotate_left 1
  · intro W' hSw
    obtain ⟨hS1, hS2⟩ := hSw
    go_simp
    try with_reducible rfl
  try simp only [Act.put, List.setIfInBounds_toArray, List.set_cons_zero, List.set_cons_succ]
  refine wpAnyH_take (i := 6) (oi := ⟨_, _, _, _, _, _⟩) (v := ?_) rfl (by kernel_rfl) (by kernel_rfl) (by kernel_rfl) (fun _ _ _ h => h) (Or.inl ⟨by rfl, ?_⟩) (by assumption) ?_
  rotate_left 1
  · intro W' hSw
    obtain ⟨hS1, hS2⟩ := hSw
    go_simp
    try with_reducible rfl
  try simp only [Act.put, List.setIfInBounds_toArray, List.set_cons_zero, List.set_cons_succ]
  refine wpAnyH_take (i := 7) (oi := ⟨_, _, _, _, _, _⟩) (v := ?_) rfl (by kernel_rfl) (by kernel_rfl) (by kernel_rfl) (fun _ _ _ h => h) (Or.inl ⟨by rfl, ?_⟩) (by assumption) ?_
  rotate_left 1
  · intro W' hSw
    obtain ⟨hS1, hS2⟩ := hSw
    go_simp
    try with_reducible rfl
  try simp only [Act.put, List.setIfInBounds_toArray, List.set_cons_zero, List.set_cons_succ]
  refine wpAnyH_take (i := 8) (oi := ⟨_, _, _, _, _, _⟩) (v := ?_) rfl (by kernel_rfl) (by kernel_rfl) (by kernel_rfl) (fun _ _ _ h => h) (Or.inl ⟨by rfl, ?_⟩) (by assumption) ?_
  rotate_left 1
  · intro W' hSw
    obtain ⟨hS1, hS2⟩ := hSw
    go_simp
    try with_reducible rfl
  try simp only [Act.put, List.setIfInBounds_toArray, List.set_cons_zero, List.set_cons_succ]
  refine wpAnyH_take (i := 9) (oi := ⟨_, _, _, _, _, _⟩) (v := ?_) rfl (by kernel_rfl) (by kernel_rfl) (by kernel_rfl) (fun _ _ _ h => h) (Or.inl ⟨by rfl, ?_⟩) (by assumption) ?_
  rotate_left 1
  · intro W' hSw
    obtain ⟨hS1, hS2⟩ := hSw
    go_simp
    try with_reducible rfl
  try simp only [Act.put, List.setIfInBounds_toArray, List.set_cons_zero, List.set_cons_succ]
  refine wpAnyH_take (i := 10) (oi := ⟨_, _, _, _, _, _⟩) (v := ?_) rfl (by kernel_rfl) (by kernel_rfl) (by kernel_rfl) (fun _ _ _ h => h) (Or.inl ⟨by rfl, ?_⟩) (by assumption) ?_
  rotate_left 1
  · intro W' hSw
    obtain ⟨hS1, hS2⟩ := hSw
    go_simp
    try with_reducible rfl
  try simp only [Act.put, List.setIfInBounds_toArray, List.set_cons_zero, List.set_cons_succ]
  refine wpAnyH_take (i := 12) (oi := ⟨_, _, _, _, _, _⟩) (v := ?_) rfl (by kernel_rfl) (by kernel_rfl) (by kernel_rfl) (fun _ _ _ h => h) (Or.inl ⟨by rfl, ?_⟩) (by assumption) ?_
  rotate_left 1
  · intro W' hSw
    obtain ⟨hS1, hS2⟩ := hSw
    go_simp
    try with_reducible rfl
  try simp only [Act.put, List.setIfInBounds_toArray, List.set_cons_zero, List.set_cons_succ]
  refine wpAnyH_ready (rs := [11, 13]) (by kernel_rfl) (by simp) ?_
  refine AllReadyH.cons (o := ⟨_, _, _, _, _, _⟩) rfl (fun K' hK => ?_) (AllReadyH.cons (o := ⟨_, _, _, _, _, _⟩) rfl (fun K' hK => ?_) AllReadyH.nil)
  · go_simp
    refine hK.out _ _ hSd (fun hHeld => ?_)
    clear hK K'
    try simp only [Act.put, List.setIfInBounds_toArray, List.set_cons_zero, List.set_cons_succ]
    refine wpAnyH_ready (rs := [13]) (by kernel_rfl) (by simp) ?_
    refine AllReadyH.cons (o := ⟨_, _, _, _, _, _⟩) rfl (fun K' hK => ?_) AllReadyH.nil
    go_simp
    refine hK.out _ _ hSb (fun hHeld => ?_)
    clear hK K'
    try simp only [Act.put, List.setIfInBounds_toArray, List.set_cons_zero, List.set_cons_succ]
    refine wpAnyH_ready (rs := [14]) (by kernel_rfl) (by simp) ?_
    refine AllReadyH.cons (o := ⟨_, _, _, _, _, _⟩) rfl (fun K' hK => ?_) AllReadyH.nil
    refine wp_append_run _ _ 257 rfl _ _ _ _ rfl rfl hrun ?_
    refine hK.out _ _ hS7b (fun hHeld => ?_)
    clear hK K'
    try simp only [Act.put, List.setIfInBounds_toArray, List.set_cons_zero, List.set_cons_succ]
    refine wpAnyH_take (i := 15) (oi := ⟨_, _, _, _, _, _⟩) (v := ?_) rfl (by kernel_rfl) (by kernel_rfl) (by kernel_rfl) (fun _ _ _ h => h) (Or.inl ⟨by rfl, ?_⟩) (by assumption) ?_
    rotate_left 1
    · intro W' hSw
      obtain ⟨hS1, hS2⟩ := hSw
      go_simp
      try with_reducible rfl
    try simp only [Act.put, List.setIfInBounds_toArray, List.set_cons_zero, List.set_cons_succ]
    refine wpAnyH_ready (rs := [16]) (by kernel_rfl) (by simp) ?_
    refine AllReadyH.cons (o := ⟨_, _, _, _, _, _⟩) rfl (fun K' hK => ?_) AllReadyH.nil
    go_simp
    refine hK.out _ _ hS8b (fun hHeld => ?_)
    clear hK K'
    try simp only [Act.put, List.setIfInBounds_toArray, List.set_cons_zero, List.set_cons_succ]
    refine wpAnyH_done (by kernel_rfl) ?_ _
    clear hHeld
    go_wp2_with fail
    refine ⟨rfl, rfl, ⟨rfl, rfl, rfl, rfl, i4 + 1, by omega, ?_, HJ⟩, ?_⟩
    · show Value.int .i64 _ = _
      go_num
    · show sn - (intOf (Value.int .i64 _)).toNat < sn - (intOf (G3 8)).toNat
      rw [H8.out]
      simp [intOf]; omega
  · go_simp
    refine hK.out _ _ hSb (fun hHeld => ?_)
    clear hK K'
    try simp only [Act.put, List.setIfInBounds_toArray, List.set_cons_zero, List.set_cons_succ]
    refine wpAnyH_ready (rs := [11]) (by kernel_rfl) (by simp) ?_
    refine AllReadyH.cons (o := ⟨_, _, _, _, _, _⟩) rfl (fun K' hK => ?_) AllReadyH.nil
    go_simp
    refine hK.out _ _ hSb (fun hHeld => ?_)
    clear hK K'
    try simp only [Act.put, List.setIfInBounds_toArray, List.set_cons_zero, List.set_cons_succ]
    refine wpAnyH_ready (rs := [14]) (by kernel_rfl) (by simp) ?_
    refine AllReadyH.cons (o := ⟨_, _, _, _, _, _⟩) rfl (fun K' hK => ?_) AllReadyH.nil
    refine wp_append_run _ _ 257 rfl _ _ _ _ rfl rfl hrun ?_
    refine hK.out _ _ hS7b (fun hHeld => ?_)
    clear hK K'
    try simp only [Act.put, List.setIfInBounds_toArray, List.set_cons_zero, List.set_cons_succ]
    refine wpAnyH_take (i := 15) (oi := ⟨_, _, _, _, _, _⟩) (v := ?_) rfl (by kernel_rfl) (by kernel_rfl) (by kernel_rfl) (fun _ _ _ h => h) (Or.inl ⟨by rfl, ?_⟩) (by assumption) ?_
    rotate_left 1
    · intro W' hSw
      obtain ⟨hS1, hS2⟩ := hSw
      go_simp
      try with_reducible rfl
    try simp only [Act.put, List.setIfInBounds_toArray, List.set_cons_zero, List.set_cons_succ]
    refine wpAnyH_ready (rs := [16]) (by kernel_rfl) (by simp) ?_
    refine AllReadyH.cons (o := ⟨_, _, _, _, _, _⟩) rfl (fun K' hK => ?_) AllReadyH.nil
    go_simp
    refine hK.out _ _ hS8b (fun hHeld => ?_)
    clear hK K'
    try simp only [Act.put, List.setIfInBounds_toArray, List.set_cons_zero, List.set_cons_succ]
    refine wpAnyH_done (by kernel_rfl) ?_ _
    clear hHeld
    go_wp2_with fail
    refine ⟨rfl, rfl, ⟨rfl, rfl, rfl, rfl, i4 + 1, by omega, ?_, HJ⟩, ?_⟩
    · show Value.int .i64 _ = _
      go_num
    · show sn - (intOf (Value.int .i64 _)).toNat < sn - (intOf (G3 8)).toNat
      rw [H8.out]
      simp [intOf]; omega
end Go.Proofs.Qxb6500787aGreat
