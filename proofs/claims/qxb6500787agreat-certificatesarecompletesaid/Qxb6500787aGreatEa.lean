import Derived.Test.Qxb6500787aGreatZt
import Derived.Test.Qxb6500787aGreatZu
import Derived.Test.Qxb6500787aGreatPr
import Derived.Test.Qxb6500787aGreatNc

import Derived.StillTailTactics
import Derived.Deep.QuietTactic
import Derived.BigQuiet
import Derived.Deep.RegionHeld
import Derived.Deep.CutRange
import Derived.Laws.ResultCell
import Derived.Laws.Rows
import Derived.DeepKeys
import Derived.DataBytes
import Derived.Laws.StructEq
import Derived.Laws.AppendOwn
import Derived.Laws.MakeOwn
import Derived.Lib.AppendStr
set_option linter.unusedSimpArgs false
set_option linter.unusedVariables false
namespace Go.Proofs.Qxb6500787aGreat
open Go.RowKit Go.Blk
attribute [local go_sem ↓] execOp_load execOp_store execOp_alloc
attribute [local go_sem] Tryz.ld26 Tryz.st26 Tryz.ld27 Tryz.st27 Tryz.ld28 Tryz.st28 Tryz.ld3 Tryz.st3 Tryz.ld29 Tryz.st29 Tryz.ld44 Tryz.st44 Tryz.ld4 Tryz.st4 Tryz.ld50 Tryz.st50 Tryz.ld32 Tryz.st32 Tryz.ld49 Tryz.st49 Tryz.ld68 Tryz.st68 Tryz.ld9 Tryz.st9 Tryz.ld40 Tryz.st40 Tryz.ld138 Tryz.st138 Tryz.ld139 Tryz.st139 Tryz.ld146 Tryz.st146 Tryz.ld183 Tryz.st183 Tryz.ld184 Tryz.st184 Tryz.ld192 Tryz.st192 Tryz.ld195 Tryz.st195 Tryz.ld217 Tryz.st217 Tryz.ld159 Tryz.st159 Tryz.ld142 Tryz.st142 Tryz.ld2 Tryz.st2 Tryz.ld5 Tryz.st5 Tryz.ld12 Tryz.st12 Tryz.ld21 Tryz.st21 Tryz.ld22 Tryz.st22 Tryz.ld24 Tryz.st24 Tryz.ld58 Tryz.st58 Tryz.ld97 Tryz.st97 Tryz.ld101 Tryz.st101 Tryz.ld116 Tryz.st116 Tryz.ld121 Tryz.st121 Tryz.ld135 Tryz.st135 Tryz.ld136 Tryz.st136 Tryz.ld143 Tryz.st143 Tryz.ld148 Tryz.st148 Tryz.ld154 Tryz.st154 Tryz.ld173 Tryz.st173 Tryz.ld187 Tryz.st187 Tryz.ld222 Tryz.st222 Tryz.ld241 Tryz.st241 Tryz.ld248 Tryz.st248 Tryz.ld268 Tryz.st268 Tryz.ld272 Tryz.st272 Tryz.ld153 Tryz.st153 Tryz.ld255 Tryz.st255 Tryz.ld256 Tryz.st256 Tryz.ld129 Tryz.st129 Tryz.ld152 Tryz.st152 Tryz.ld31 Tryz.st31 Tryz.ld46 Tryz.st46 Tryz.ld52 Tryz.st52 Tryz.ld54 Tryz.st54 Tryz.ld60 Tryz.st60 Tryz.ld70 Tryz.st70 Tryz.ld74 Tryz.st74 Tryz.ld93 Tryz.st93 Tryz.ld141 Tryz.st141 Tryz.ld151 Tryz.st151 Tryz.ld170 Tryz.st170 Tryz.ld186 Tryz.st186 Tryz.ld189 Tryz.st189 Tryz.ld194 Tryz.st194 Tryz.ld197 Tryz.st197 Tryz.ld219 Tryz.st219 Tryz.ld224 Tryz.st224 Tryz.ld230 Tryz.st230 Tryz.ld235 Tryz.st235 Tryz.ld243 Tryz.st243 Tryz.ld247 Tryz.st247 Tryz.ld252 Tryz.st252 Tryz.ld258 Tryz.st258 Tryz.al153 Tryz.al255 Tryz.al256 Tryz.al129 Tryz.al152 Tryz.al31 Tryz.al46 Tryz.al52 Tryz.al54 Tryz.al60 Tryz.al70 Tryz.al74 Tryz.al93 Tryz.al141 Tryz.al151 Tryz.al170 Tryz.al186 Tryz.al189 Tryz.al194 Tryz.al197 Tryz.al219 Tryz.al224 Tryz.al230 Tryz.al235 Tryz.al243 Tryz.al247 Tryz.al252 Tryz.al258
attribute [local go_sem] Request.length_enc Request.ok_enc Request.all_get Request.all_set Request.kind_get Request.kind_set Request.blob_get Request.blob_set Request.items_get Request.items_set Request.pred_get Request.pred_set Request.slots_get Request.slots_set Trace.length_enc Trace.ok_enc Trace.all_get Trace.all_set Trace.op_get Trace.op_set Trace.calls_get Trace.calls_set Item.length_enc Item.ok_enc Item.all_get Item.all_set Item.del_get Item.del_set Item.pred_get Item.pred_set Item.args_get Item.args_set Reply.length_enc Reply.ok_enc Reply.all_get Reply.all_set Reply.code_get Reply.code_set Reply.kind_get Reply.kind_set Reply.index_get Reply.index_set Reply.yes_get Reply.yes_set Reply.preds_get Reply.preds_set Reply.rules_get Reply.rules_set Reply.arity_get Reply.arity_set Reply.rows_get Reply.rows_set Reply.fact_get Reply.fact_set Reply.fact_del_get Reply.fact_del_set Reply.fact_pred_get Reply.fact_pred_set Reply.fact_args_get Reply.fact_args_set GEntry.length_enc GEntry.ok_enc GEntry.all_get GEntry.all_set GEntry.seq_get GEntry.seq_set GEntry.kind_get GEntry.kind_set GEntry.code_get GEntry.code_set GOp.length_enc GOp.ok_enc GOp.all_get GOp.all_set GOp.kind_get GOp.kind_set GOp.raw_get GOp.raw_set Reader.length_enc Reader.ok_enc Reader.all_get Reader.all_set Reader.buf_get Reader.buf_set Reader.at__get Reader.at__set Slot.length_enc Slot.ok_enc Slot.all_get Slot.all_set Slot.bound_get Slot.bound_set Slot.name_get Slot.name_set Session.length_enc Session.ok_enc Session.all_get Session.all_set Session.svc_get Session.svc_set Session.buf_get Session.buf_set Session.closed_get Session.closed_set GProgram.length_enc GProgram.ok_enc GProgram.all_get GProgram.all_set GProgram.pool_get GProgram.pool_set GProgram.preds_get GProgram.preds_set GProgram.rules_get GProgram.rules_set GProgram.strata_get GProgram.strata_set PredInfo.length_enc PredInfo.ok_enc PredInfo.all_get PredInfo.all_set PredInfo.arity_get PredInfo.arity_set PredInfo.base_get PredInfo.base_set PredInfo.stratum_get PredInfo.stratum_set Change.length_enc Change.ok_enc Change.all_get Change.all_set Change.del_get Change.del_set Change.pred_get Change.pred_set Change.t_get Change.t_set Store.length_enc Store.ok_enc Store.all_get Store.all_set Store.names_get Store.names_set Store.arity_get Store.arity_set Store.rows_get Store.rows_set Src.length_enc Src.ok_enc Src.all_get Src.all_set Src.b_get Src.b_set Src.at__get Src.at__set Atom.length_enc Atom.ok_enc Atom.all_get Atom.all_set Atom.pred_get Atom.pred_set Atom.args_get Atom.args_set GRule.length_enc GRule.ok_enc GRule.all_get GRule.all_set GRule.head_get GRule.head_set GRule.body_get GRule.body_set GRule.head_pred_get GRule.head_pred_set GRule.head_args_get GRule.head_args_set Cert.length_enc Cert.ok_enc Cert.all_get Cert.all_set Cert.names_get Cert.names_set Cert.nodes_get Cert.nodes_set Fact.length_enc Fact.ok_enc Fact.all_get Fact.all_set Fact.pred_get Fact.pred_set Fact.t_get Fact.t_set Literal.length_enc Literal.ok_enc Literal.all_get Literal.all_set Literal.neg_get Literal.neg_set Literal.atom_get Literal.atom_set Literal.atom_pred_get Literal.atom_pred_set Literal.atom_args_get Literal.atom_args_set Engine.length_enc Engine.ok_enc Engine.all_get Engine.all_set Engine.prog_get Engine.prog_set Engine.st_get Engine.st_set SrcCertm.length_enc SrcCertm.ok_enc SrcCertm.all_get SrcCertm.all_set SrcCertm.b_get SrcCertm.b_set SrcCertm.at__get SrcCertm.at__set GNode.length_enc GNode.ok_enc GNode.all_get GNode.all_set GNode.rule_get GNode.rule_set GNode.pred_get GNode.pred_set GNode.vals_get GNode.vals_set GNode.refs_get GNode.refs_set Term.length_enc Term.ok_enc Term.all_get Term.all_set Term.var_get Term.var_set Term.n_get Term.n_set Env.length_enc Env.ok_enc Env.all_get Env.all_set Env.val_get Env.val_set Env.set_get Env.set_set
attribute [local go_sem] size_put size_ext blk_put free_put blk_alloc free_alloc blk_drew free_drew blk_ext free_ext lookOr_some putOr_some segAt_some cellAt_some storeIn_some put_put put_alloc_new length_arr ok_arr_u8 ok_arr_u32 ok_arr_u64 ok_arr_i64 ok_arr_sl cellsV_agg cellsV_int cellsV_bool cellsV_string cellsV_pointer cellsV_slice cellsV_sl ok_int ok_bool ok_string ok_pointer ok_slice ok_sl toList_arr seg_arr set_arr nth_splice nth_splice0 seg_splice seg_splice0 splice_splice splice_splice0 length_splice_if
attribute [local go_sem ↓] execOp_box
attribute [local go_sem] box_run nth_arr_u8 put_arr_u8 blk_drewN free_drewN put_drewN blk_raw free_raw

/-- Facts by numbers and facts by names: the same rows in the same order. -/
structure Agm (p : PP) (N : List (List UInt8)) (B : List (List Tup)) (F : List (List NRow)) : Prop where
  nb : NB p N B
  len : F.length = B.length
  nm : ∀ q, F.getD q [] = nmB p N B q
  ar : ∀ q, arP p q ≤ 4
theorem Agm.ext {p : PP} {N M : List (List UInt8)} {B : List (List Tup)} {F : List (List NRow)} (h : Agm p N B F) (hM : NEx N M) : Agm p M B F := by
  refine ⟨⟨hM.nn.1, h.nb.pre.trans hM.pre, h.nb.td.mono (fun y hy => hy.mono hM.pre.length_le)⟩, h.len, fun q => ?_, h.ar⟩
  have e1 : nmB p M B q = nmB p N B q := List.map_congr_left fun x hx => nmsT_pre hM.pre ((h.nb.td q x hx).1)
  rw [e1]; exact h.nm q
theorem getD_set {α : Type} {F : List (List α)} {q : Nat} (hq : q < F.length) (L : List α) (z : Nat) : (F.set q L).getD z [] = if z = q then L else F.getD z [] := by
  rw [List.getD_eq_getElem?_getD, List.getD_eq_getElem?_getD, List.getElem?_set]
  by_cases e : q = z
  · subst e; rw [if_pos rfl, if_pos rfl, if_pos hq]; rfl
  · rw [if_neg e, if_neg (fun h => e h.symm)]
theorem Agm.ins {p : PP} {N : List (List UInt8)} {B : List (List Tup)} {F : List (List NRow)} (h : Agm p N B F) {q : Nat} (hq : q < B.length) {x : Tup} (hx : TD p (InT N.length) q x) {r : NRow} (hr : nmsT N x (arP p q) = r) : (r ∈ F.getD q [] → (changeF B ⟨false, (q : Int), x⟩).1 = 14) ∧ (r ∉ F.getD q [] → (changeF B ⟨false, (q : Int), x⟩).1 = 0 ∧ Agm p N (changeF B ⟨false, (q : Int), x⟩).2 (addRN F q r)) := by
  have hqt : ((q : Int)).toNat = q := Int.toNat_natCast _
  have f1 : changeF B ⟨false, (q : Int), x⟩ = if x ∈ rowsAt B q then (14, B) else (0, addR B q x) := by
    unfold changeF
    show (if false = true then _ else if x ∈ rowsAt B ((q : Int)).toNat then _ else _) = _
    rw [if_neg (by decide), hqt]
  have hm : x ∈ rowsAt B q ↔ r ∈ F.getD q [] := by rw [h.nb.mem (h.ar q) hx, hr, h.nm q]
  rw [f1]
  refine ⟨fun e => by rw [if_pos (hm.2 e)], fun e => ?_⟩
  have e' : x ∉ rowsAt B q := fun e9 => e (hm.1 e9)
  rw [if_neg e']
  refine ⟨rfl, ⟨h.nb.nd, h.nb.pre, h.nb.td.add hx⟩, ?_, fun z => ?_, h.ar⟩
  · show (addRN F q r).length = (addR B q x).length
    unfold addR addRN
    rw [List.length_set, List.length_set]; exact h.len
  · show (addRN F q r).getD z [] = nmB p N (addR B q x) z
    unfold addR addRN
    rw [nmB_set hq, getD_set (by rw [h.len]; exact hq)]
    by_cases e : z = q
    · rw [if_pos e, if_pos e, List.map_append, h.nm q]
      show _ = _ ++ [nmsT N x (arP p q)]
      rw [hr]; rfl
    · rw [if_neg e, if_neg e]; exact h.nm z
theorem Agm.known {p : PP} {N : List (List UInt8)} {B : List (List Tup)} {F : List (List NRow)} (h : Agm p N B F) {q : Nat} {r : NRow} (hr : r ∈ F.getD q []) : ∀ c, c < arP p q → r.getD c [] ∈ N := fun c hc => by
  rw [h.nm q] at hr
  unfold nmB at hr
  obtain ⟨y, hy, e2⟩ := List.mem_map.1 hr
  rw [← e2, nmsT_get _ _ hc]
  exact List.mem_of_getElem? (getD_at ((h.nb.td q y hy).1 c hc).2)
/-- A row looked up by its names. -/
theorem Agm.find {p : PP} {N : List (List UInt8)} {B : List (List Tup)} {F : List (List NRow)} (h : Agm p N B F) {q : Nat} {r : NRow} (hl : r.length = arP p q) : mkT (resV N r) r.length ∈ rowsAt B q ↔ r ∈ F.getD q [] := by
  constructor
  · intro hm
    have htd := h.nb.td q _ hm
    have e1 := (res_known hl (h.ar q) (res_back hl (h.ar q) htd)).2
    rw [h.nm q, ← e1]
    unfold nmB
    exact List.mem_map.2 ⟨_, hm, by rw [e1]⟩
  · intro hm
    obtain ⟨r1, r2⟩ := res_known hl (h.ar q) (h.known hm)
    rw [h.nb.mem (h.ar q) r1, r2, ← h.nm q]
    exact hm
theorem Agm.del {p : PP} {N : List (List UInt8)} {B : List (List Tup)} {F : List (List NRow)} (h : Agm p N B F) {q : Nat} (hq : q < B.length) {r : NRow} (hl : r.length = arP p q) : (r ∉ F.getD q [] → (changeF B ⟨true, (q : Int), mkT (resV N r) r.length⟩).1 = 15) ∧ (r ∈ F.getD q [] → (changeF B ⟨true, (q : Int), mkT (resV N r) r.length⟩).1 = 0 ∧ Agm p N (changeF B ⟨true, (q : Int), mkT (resV N r) r.length⟩).2 (F.set q ((F.getD q []).filter fun x => decide (x ≠ r)))) := by
  obtain ⟨x, ex⟩ : ∃ x, x = mkT (resV N r) r.length := ⟨_, rfl⟩
  have hm := h.find hl
  rw [← ex] at hm ⊢
  have hqt : ((q : Int)).toNat = q := Int.toNat_natCast _
  have f1 : changeF B ⟨true, (q : Int), x⟩ = if x ∈ rowsAt B q then (0, B.set q (delT (rowsAt B q) x)) else (15, B) := by
    unfold changeF
    show (if true = true then (if x ∈ rowsAt B ((q : Int)).toNat then _ else _) else _) = _
    rw [if_pos rfl, hqt]
  rw [f1]
  refine ⟨fun e => by rw [if_neg (fun e9 => e (hm.1 e9))], fun e => ?_⟩
  rw [if_pos (hm.2 e)]
  have hx : TD p (InT N.length) q x := h.nb.td q x (hm.2 e)
  have hxr : nmsT N x (arP p q) = r := by rw [ex]; exact (res_known hl (h.ar q) (h.known e)).2
  refine ⟨rfl, ⟨h.nb.nd, h.nb.pre, rd_set h.nb.td hq (fun y hy => h.nb.td q y (List.mem_filter.1 hy).1)⟩, ?_, fun z => ?_, h.ar⟩
  · show (F.set q _).length = (B.set q _).length
    rw [List.length_set, List.length_set]; exact h.len
  · show (F.set q _).getD z [] = nmB p N (B.set q (delT (rowsAt B q) x)) z
    rw [nmB_set hq, getD_set (by rw [h.len]; exact hq)]
    by_cases e : z = q
    · rw [if_pos e, if_pos e, del_map h.nb (h.ar q) hx _ (fun y hy => h.nb.td q y hy), hxr, h.nm q]
      rfl
    · rw [if_neg e, if_neg e]; exact h.nm z
/-- The items applied by numbers and by names. -/
theorem bt_mod {p : PP} {G : List (List UInt8)} (hG : G.length ≤ 256) : ∀ (L : List It) (N : List (List UInt8)) (B : List (List Tup)) (F : List (List NRow)) (i : Nat), Agm p N B F → Fits G N → NmOk N → (∀ it ∈ L, ItF p B.length it ∧ (it.1 = false → ∀ x ∈ it.2.2, x ∈ G)) → (chgs (btG N L) i B).1 = (aftF F i L).1 ∧ ((chgs (btG N L) i B).1 ≠ 0 → (chgs (btG N L) i B).2.1 = (aftF F i L).2.1) ∧ ((chgs (btG N L) i B).1 = 0 → Agm p (btN N L) (chgs (btG N L) i B).2.2 (aftF F i L).2.2 ∧ NEx N (btN N L))
  | [], N, B, F, i, hC, hF, hN, _ => ⟨rfl, fun _ => rfl, fun _ => ⟨hC, List.prefix_refl _, hN, Nat.le_trans (nodup_sub N G hF.nn hF.sub) hG⟩⟩
  | it :: L, N, B, F, i, hC, hF, hN, hL => by
    obtain ⟨hit, hin⟩ := hL it List.mem_cons_self
    have hL' : ∀ k ∈ L, ItF p B.length k ∧ (k.1 = false → ∀ x ∈ k.2.2, x ∈ G) := fun k hk => hL k (List.mem_cons_of_mem _ hk)
    have hNl : N.length ≤ 256 := Nat.le_trans (nodup_sub N G hF.nn hF.sub) hG
    obtain ⟨q, hq⟩ : ∃ q : Nat, it.2.1 = (q : Int) := ⟨it.2.1.toNat, by have := hit.pr; omega⟩
    have hqt : it.2.1.toNat = q := by rw [hq]; exact Int.toNat_natCast _
    have hql := hit.lt
    have hln := hit.ln
    rw [hqt] at hql hln
    have h4 := hC.ar q
    have ea : aftF F i (it :: L) = if it.1 = false then (if it.2.2 ∈ F.getD q [] then (14, (i : Int), []) else aftF (addRN F q it.2.2) (i + 1) L) else (if it.2.2 ∈ F.getD q [] then aftF (F.set q ((F.getD q []).filter fun x => decide (x ≠ it.2.2))) (i + 1) L else (15, (i : Int), [])) := by
      rw [aftF, hqt]
    rw [ea]
    cases hd : it.1 with
    | true =>
      have e1 : btG N (it :: L) = ⟨true, (q : Int), mkT (resV N it.2.2) it.2.2.length⟩ :: btG N L := by rw [btG, hd, if_pos rfl, hq]
      have e2 : btN N (it :: L) = btN N L := by rw [btN, hd, if_pos rfl]
      rw [e1, e2, if_neg (by decide)]
      obtain ⟨k1, k2⟩ := hC.del hql hln
      by_cases e : it.2.2 ∈ F.getD q []
      · obtain ⟨k3, k4⟩ := k2 e
        rw [if_pos e]
        unfold chgs
        rw [if_neg (fun h => h k3)]
        exact bt_mod hG L N _ _ _ k4 hF hN (fun k hk => by rw [changeF_len]; exact hL' k hk)
      · have k3 := k1 e
        rw [if_neg e]
        unfold chgs
        have k5 : (changeF B ⟨true, (q : Int), mkT (resV N it.2.2) it.2.2.length⟩).1 ≠ 0 := by rw [k3]; decide
        rw [if_pos k5]
        exact ⟨k3, fun _ => rfl, fun h => absurd h k5⟩
    | false =>
      have e1 : btG N (it :: L) = ⟨false, (q : Int), (intF N it.2.2).2.1⟩ :: btG (intF N it.2.2).2.2 L := by rw [btG, hd, if_neg (by decide), hq]
      have e2 : btN N (it :: L) = btN (intF N it.2.2).2.2 L := by rw [btN, hd, if_neg (by decide)]
      rw [e1, e2, if_pos rfl]
      obtain ⟨u1, u2, u3, u4, u5⟩ := int_named (p := p) (q := q) hG hF (hin hd) hN hNl hit.sm hln h4
      obtain ⟨k1, k2⟩ := (hC.ext u5).ins hql u1 u2
      by_cases e : it.2.2 ∈ F.getD q []
      · have k3 := k1 e
        rw [if_pos e]
        unfold chgs
        have k5 : (changeF B ⟨false, (q : Int), (intF N it.2.2).2.1⟩).1 ≠ 0 := by rw [k3]; decide
        rw [if_pos k5]
        exact ⟨k3, fun _ => rfl, fun h => absurd h k5⟩
      · obtain ⟨k3, k4⟩ := k2 e
        rw [if_neg e]
        unfold chgs
        rw [if_neg (fun h => h k3)]
        obtain ⟨m1, m2, m3⟩ := bt_mod hG L _ _ _ (i + 1) k4 u4 u5.nn (fun k hk => by rw [changeF_len]; exact hL' k hk)
        refine ⟨m1, m2, fun h => ⟨(m3 h).1, u5.pre.trans (m3 h).2.pre, (m3 h).2.nn, (m3 h).2.nl⟩⟩
/-- Constants in use: counted by the service and listed by the model. -/
theorem used_const {t : InsS} (h : InG t) {F : List (List NRow)} (hA : Agm t.p t.N (basR t.p t.R) F) {nm : List UInt8} : UsN t nm ↔ nm ∈ constF t.p.pool F := by
  constructor
  · rintro ⟨y, hy, e⟩
    rcases (usB_iff h).1 hy with h1 | ⟨q, x, c, h1, h2, h3⟩
    · refine constF_mem.2 (.inl ?_)
      rw [← e, h.nb.pool h1]
      exact List.mem_of_getElem? (getD_at h1.2)
    · refine constF_mem.2 (.inr ?_)
      have h4 : nmsT t.N x (arP t.p q) ∈ F.getD q [] := by
        rw [hA.nm q]; exact List.mem_map.2 ⟨x, h1, rfl⟩
      rw [List.getD_eq_getElem?_getD] at h4
      cases hq : F[q]? with
      | none => rw [hq] at h4; cases h4
      | some Ls =>
        rw [hq] at h4
        refine ⟨Ls, List.mem_of_getElem? hq, _, h4, ?_⟩
        rw [← e, ← h3, ← nmsT_get t.N x h2]
        rw [List.getD_eq_getElem?_getD, List.getElem?_eq_getElem (by rw [nmsT_len]; exact h2)]
        exact List.getElem_mem _
  · intro hm
    rcases constF_mem.1 hm with h1 | ⟨Ls, h1, r, h2, h3⟩
    · obtain ⟨i, hi⟩ := List.getElem?_of_mem h1
      have hil := (List.getElem?_eq_some_iff.1 hi).1
      have hin : InT t.p.pool.length (i : Int) := ⟨by omega, by rw [Int.toNat_natCast]; exact hil⟩
      refine ⟨(i : Int), (usB_iff h).2 (.inl hin), ?_⟩
      rw [h.nb.pool hin, Int.toNat_natCast, List.getD_eq_getElem?_getD, hi]; rfl
    · obtain ⟨q, hq⟩ := List.mem_iff_getElem?.1 h1
      have h4 : r ∈ F.getD q [] := by rw [List.getD_eq_getElem?_getD, hq]; exact h2
      rw [hA.nm q] at h4
      obtain ⟨x, hx, e⟩ := List.mem_map.1 h4
      rw [← e] at h3
      obtain ⟨c, hc⟩ := List.getElem?_of_mem h3
      have hcl : c < arP t.p q := by have := (List.getElem?_eq_some_iff.1 hc).1; rwa [nmsT_len] at this
      rw [nmsT_at _ _ hcl] at hc
      exact ⟨tg x c, (usB_iff h).2 (.inr ⟨q, x, c, hx, hcl, rfl⟩), Option.some.inj hc⟩
theorem live_const {t : InsS} (h : InG t) {F : List (List NRow)} (hA : Agm t.p t.N (basR t.p t.R) F) : t.live = ((constF t.p.pool F).length : Int) := by
  have k1 := nodup_sub _ _ (usedL_nodup h 256 (Nat.le_refl _)).1 (fun x hx => (used_const h hA).1 ((used_mem h).1 hx))
  have k2 := nodup_sub _ _ (constF_nd t.p.pool F) (fun x hx => (used_mem h).2 ((used_const h hA).2 hx))
  rw [usedL_len] at k1 k2
  rw [h.cnt.lv]
  unfold livN
  omega
theorem dem_wanA {t : InsS} {C : List (List UInt8)} (he : ∀ nm, (lookF t.N nm ≠ -1 ∧ 0 < t.U (lookF t.N nm).toNat) ↔ nm ∈ C) : ∀ (args : List (List UInt8)) (X : List (List UInt8) × Nat) (K : List (List UInt8)), (∀ nm, nm ∈ K ↔ nm ∈ C ∨ nm ∈ X.1) → K.length = C.length + X.1.length → (∀ nm, nm ∈ args.foldl addN K ↔ nm ∈ C ∨ nm ∈ (args.foldl (demA t.N t.U) X).1) ∧ (args.foldl addN K).length = C.length + (args.foldl (demA t.N t.U) X).1.length
  | [], X, K, h1, h2 => ⟨h1, h2⟩
  | a :: args, X, K, h1, h2 => by
    rw [List.foldl_cons, List.foldl_cons]
    have hc : ((lookF t.N a ≠ -1 ∧ 0 < t.U (lookF t.N a).toNat) ∨ a ∈ X.1) ↔ a ∈ K := by rw [he a, h1 a]
    unfold demA addN
    by_cases e : a ∈ K
    · rw [if_pos e, if_pos (hc.2 e)]
      exact dem_wanA he args X K h1 h2
    · rw [if_neg e, if_neg (fun h9 => e (hc.1 h9))]
      refine dem_wanA he args _ _ (fun nm => ?_) (by rw [List.length_append, List.length_append, h2, Nat.add_assoc])
      rw [List.mem_append, h1 nm, List.mem_append, or_assoc]
theorem dem_wanI {t : InsS} {C : List (List UInt8)} (he : ∀ nm, (lookF t.N nm ≠ -1 ∧ 0 < t.U (lookF t.N nm).toNat) ↔ nm ∈ C) : ∀ (L : List It) (X : List (List UInt8) × Nat) (K : List (List UInt8)), (∀ nm, nm ∈ K ↔ nm ∈ C ∨ nm ∈ X.1) → K.length = C.length + X.1.length → (L.foldl wanI K).length = C.length + (L.foldl (demI t.N t.U) X).1.length
  | [], X, K, h1, h2 => h2
  | it :: L, X, K, h1, h2 => by
    rw [List.foldl_cons, List.foldl_cons]
    cases hd : it.1 with
    | true =>
      have e1 : wanI K it = K := by unfold wanI; rw [hd, if_pos rfl]
      have e2 : demI t.N t.U X it = X := by unfold demI; rw [hd, if_pos rfl]
      rw [e1, e2]
      exact dem_wanI he L X K h1 h2
    | false =>
      have e1 : wanI K it = it.2.2.foldl addN K := by unfold wanI; rw [hd, if_neg (by decide)]
      have e2 : demI t.N t.U X it = it.2.2.foldl (demA t.N t.U) X := by unfold demI; rw [hd, if_neg (by decide)]
      rw [e1, e2]
      obtain ⟨g1, g2⟩ := dem_wanA he it.2.2 X K h1 h2
      exact dem_wanI he L _ _ g1 g2
/-- Room asked for by the service and by the model. -/
theorem dem_wan {t : InsS} (h : InG t) {F : List (List NRow)} (hA : Agm t.p t.N (basR t.p t.R) F) (L : List It) : t.live + ((demF t.N t.U L).1.length : Int) = ((wanF t.p.pool F L).length : Int) := by
  have h1 := dem_wanI (t := t) (C := constF t.p.pool F) (fun nm => by rw [← used_iff h, used_const h hA]) L ([], 0) (constF t.p.pool F) (fun nm => by simp) (by simp)
  rw [live_const h hA]
  unfold demF wanF
  rw [h1]
  omega
end Go.Proofs.Qxb6500787aGreat
