import Derived.Test.Qxb6500787aGreatGh
import Derived.Test.Qxb6500787aGreatUn

import Derived.StillTailTactics
import Derived.Deep.QuietTactic
import Derived.BigQuiet
import Derived.Deep.RegionHeld
import Derived.Deep.CutRange
import Derived.Laws.ResultCell
import Derived.Laws.Rows
import Derived.DeepKeys
import Derived.DataBytes
import Derived.Laws.StructEq
import Derived.Laws.AppendOwn
import Derived.Laws.MakeOwn
import Derived.Lib.AppendStr
set_option linter.unusedSimpArgs false
set_option linter.unusedVariables false
namespace Go.Proofs.Qxb6500787aGreat
open Go.RowKit Go.Blk
attribute [local go_sem ↓] execOp_load execOp_store execOp_alloc
attribute [local go_sem] Tryz.ld26 Tryz.st26 Tryz.ld27 Tryz.st27 Tryz.ld28 Tryz.st28 Tryz.ld3 Tryz.st3 Tryz.ld29 Tryz.st29 Tryz.ld44 Tryz.st44 Tryz.ld4 Tryz.st4 Tryz.ld50 Tryz.st50 Tryz.ld32 Tryz.st32 Tryz.ld49 Tryz.st49 Tryz.ld68 Tryz.st68 Tryz.ld9 Tryz.st9 Tryz.ld40 Tryz.st40 Tryz.ld138 Tryz.st138 Tryz.ld139 Tryz.st139 Tryz.ld146 Tryz.st146 Tryz.ld183 Tryz.st183 Tryz.ld184 Tryz.st184 Tryz.ld192 Tryz.st192 Tryz.ld195 Tryz.st195 Tryz.ld217 Tryz.st217 Tryz.ld159 Tryz.st159 Tryz.ld142 Tryz.st142 Tryz.ld2 Tryz.st2 Tryz.ld5 Tryz.st5 Tryz.ld12 Tryz.st12 Tryz.ld21 Tryz.st21 Tryz.ld22 Tryz.st22 Tryz.ld24 Tryz.st24 Tryz.ld58 Tryz.st58 Tryz.ld97 Tryz.st97 Tryz.ld101 Tryz.st101 Tryz.ld116 Tryz.st116 Tryz.ld121 Tryz.st121 Tryz.ld135 Tryz.st135 Tryz.ld136 Tryz.st136 Tryz.ld143 Tryz.st143 Tryz.ld148 Tryz.st148 Tryz.ld154 Tryz.st154 Tryz.ld173 Tryz.st173 Tryz.ld187 Tryz.st187 Tryz.ld222 Tryz.st222 Tryz.ld241 Tryz.st241 Tryz.ld248 Tryz.st248 Tryz.ld268 Tryz.st268 Tryz.ld272 Tryz.st272 Tryz.ld153 Tryz.st153 Tryz.ld255 Tryz.st255 Tryz.ld256 Tryz.st256 Tryz.ld129 Tryz.st129 Tryz.ld152 Tryz.st152 Tryz.ld31 Tryz.st31 Tryz.ld46 Tryz.st46 Tryz.ld52 Tryz.st52 Tryz.ld54 Tryz.st54 Tryz.ld60 Tryz.st60 Tryz.ld70 Tryz.st70 Tryz.ld74 Tryz.st74 Tryz.ld93 Tryz.st93 Tryz.ld141 Tryz.st141 Tryz.ld151 Tryz.st151 Tryz.ld170 Tryz.st170 Tryz.ld186 Tryz.st186 Tryz.ld189 Tryz.st189 Tryz.ld194 Tryz.st194 Tryz.ld197 Tryz.st197 Tryz.ld219 Tryz.st219 Tryz.ld224 Tryz.st224 Tryz.ld230 Tryz.st230 Tryz.ld235 Tryz.st235 Tryz.ld243 Tryz.st243 Tryz.ld247 Tryz.st247 Tryz.ld252 Tryz.st252 Tryz.ld258 Tryz.st258 Tryz.al153 Tryz.al255 Tryz.al256 Tryz.al129 Tryz.al152 Tryz.al31 Tryz.al46 Tryz.al52 Tryz.al54 Tryz.al60 Tryz.al70 Tryz.al74 Tryz.al93 Tryz.al141 Tryz.al151 Tryz.al170 Tryz.al186 Tryz.al189 Tryz.al194 Tryz.al197 Tryz.al219 Tryz.al224 Tryz.al230 Tryz.al235 Tryz.al243 Tryz.al247 Tryz.al252 Tryz.al258
attribute [local go_sem] Request.length_enc Request.ok_enc Request.all_get Request.all_set Request.kind_get Request.kind_set Request.blob_get Request.blob_set Request.items_get Request.items_set Request.pred_get Request.pred_set Request.slots_get Request.slots_set Trace.length_enc Trace.ok_enc Trace.all_get Trace.all_set Trace.op_get Trace.op_set Trace.calls_get Trace.calls_set Item.length_enc Item.ok_enc Item.all_get Item.all_set Item.del_get Item.del_set Item.pred_get Item.pred_set Item.args_get Item.args_set Reply.length_enc Reply.ok_enc Reply.all_get Reply.all_set Reply.code_get Reply.code_set Reply.kind_get Reply.kind_set Reply.index_get Reply.index_set Reply.yes_get Reply.yes_set Reply.preds_get Reply.preds_set Reply.rules_get Reply.rules_set Reply.arity_get Reply.arity_set Reply.rows_get Reply.rows_set Reply.fact_get Reply.fact_set Reply.fact_del_get Reply.fact_del_set Reply.fact_pred_get Reply.fact_pred_set Reply.fact_args_get Reply.fact_args_set GEntry.length_enc GEntry.ok_enc GEntry.all_get GEntry.all_set GEntry.seq_get GEntry.seq_set GEntry.kind_get GEntry.kind_set GEntry.code_get GEntry.code_set GOp.length_enc GOp.ok_enc GOp.all_get GOp.all_set GOp.kind_get GOp.kind_set GOp.raw_get GOp.raw_set Reader.length_enc Reader.ok_enc Reader.all_get Reader.all_set Reader.buf_get Reader.buf_set Reader.at__get Reader.at__set Slot.length_enc Slot.ok_enc Slot.all_get Slot.all_set Slot.bound_get Slot.bound_set Slot.name_get Slot.name_set Session.length_enc Session.ok_enc Session.all_get Session.all_set Session.svc_get Session.svc_set Session.buf_get Session.buf_set Session.closed_get Session.closed_set GProgram.length_enc GProgram.ok_enc GProgram.all_get GProgram.all_set GProgram.pool_get GProgram.pool_set GProgram.preds_get GProgram.preds_set GProgram.rules_get GProgram.rules_set GProgram.strata_get GProgram.strata_set PredInfo.length_enc PredInfo.ok_enc PredInfo.all_get PredInfo.all_set PredInfo.arity_get PredInfo.arity_set PredInfo.base_get PredInfo.base_set PredInfo.stratum_get PredInfo.stratum_set Change.length_enc Change.ok_enc Change.all_get Change.all_set Change.del_get Change.del_set Change.pred_get Change.pred_set Change.t_get Change.t_set Store.length_enc Store.ok_enc Store.all_get Store.all_set Store.names_get Store.names_set Store.arity_get Store.arity_set Store.rows_get Store.rows_set Src.length_enc Src.ok_enc Src.all_get Src.all_set Src.b_get Src.b_set Src.at__get Src.at__set Atom.length_enc Atom.ok_enc Atom.all_get Atom.all_set Atom.pred_get Atom.pred_set Atom.args_get Atom.args_set GRule.length_enc GRule.ok_enc GRule.all_get GRule.all_set GRule.head_get GRule.head_set GRule.body_get GRule.body_set GRule.head_pred_get GRule.head_pred_set GRule.head_args_get GRule.head_args_set Cert.length_enc Cert.ok_enc Cert.all_get Cert.all_set Cert.names_get Cert.names_set Cert.nodes_get Cert.nodes_set Fact.length_enc Fact.ok_enc Fact.all_get Fact.all_set Fact.pred_get Fact.pred_set Fact.t_get Fact.t_set Literal.length_enc Literal.ok_enc Literal.all_get Literal.all_set Literal.neg_get Literal.neg_set Literal.atom_get Literal.atom_set Literal.atom_pred_get Literal.atom_pred_set Literal.atom_args_get Literal.atom_args_set Engine.length_enc Engine.ok_enc Engine.all_get Engine.all_set Engine.prog_get Engine.prog_set Engine.st_get Engine.st_set SrcCertm.length_enc SrcCertm.ok_enc SrcCertm.all_get SrcCertm.all_set SrcCertm.b_get SrcCertm.b_set SrcCertm.at__get SrcCertm.at__set GNode.length_enc GNode.ok_enc GNode.all_get GNode.all_set GNode.rule_get GNode.rule_set GNode.pred_get GNode.pred_set GNode.vals_get GNode.vals_set GNode.refs_get GNode.refs_set Term.length_enc Term.ok_enc Term.all_get Term.all_set Term.var_get Term.var_set Term.n_get Term.n_set Env.length_enc Env.ok_enc Env.all_get Env.all_set Env.val_get Env.val_set Env.set_get Env.set_set
attribute [local go_sem] size_put size_ext blk_put free_put blk_alloc free_alloc blk_drew free_drew blk_ext free_ext lookOr_some putOr_some segAt_some cellAt_some storeIn_some put_put put_alloc_new length_arr ok_arr_u8 ok_arr_u32 ok_arr_u64 ok_arr_i64 ok_arr_sl cellsV_agg cellsV_int cellsV_bool cellsV_string cellsV_pointer cellsV_slice cellsV_sl ok_int ok_bool ok_string ok_pointer ok_slice ok_sl toList_arr seg_arr set_arr nth_splice nth_splice0 seg_splice seg_splice0 splice_splice splice_splice0 length_splice_if
attribute [local go_sem ↓] execOp_box
attribute [local go_sem] box_run nth_arr_u8 put_arr_u8 blk_drewN free_drewN put_drewN blk_raw free_raw
theorem NmS.fr {B : Nat} {O : Own} {V : World} {bc : Nat} {na : Option Addr} {nn nc : Nat} {v1 : Value} {K : List (List UInt8)} (h : NmS B O V bc na nn nc v1 K) {L : Lab → Prop} {O' : Own} {V' : World} (hF : Fr L O V O' V') (h2 : ¬ L (.a 9 2)) (h3 : ¬ L (.a 9 3)) : NmS B O' V' bc na nn nc v1 K := by
  have hb : ¬ L (O bc) := by rw [h.own]; exact h2
  exact ⟨hF.blk h.cell hb, hF.free h.cell h.fre hb, (hF.keep bc (blk_lt h.cell)).trans h.own, h.row.fr hF h3, Nat.le_trans h.bb hF.size⟩
/-- The certificate that is being built. -/
structure CtS (B : Nat) (O : Own) (V : World) (bc : Nat) (na : Option Addr) (nn nc : Nat) (ga : Option Addr) (gn gc : Nat) (K : List (List UInt8)) (Gs : List GNode) (L : List CNode) : Prop where
  nm : NmS B O V bc na nn nc (.slice ga gn gc) K
  nd : RowL B O (.a 9 4) V 182 4 (.slice ga gn gc) Gs.length (Gs.flatMap GNode.enc)
  ns : NodsC (core O V) Gs L
theorem CtS.fr {B : Nat} {O : Own} {V : World} {bc : Nat} {na : Option Addr} {nn nc : Nat} {ga : Option Addr} {gn gc : Nat} {K : List (List UInt8)} {Gs : List GNode} {L : List CNode} (h : CtS B O V bc na nn nc ga gn gc K Gs L) {Q : Lab → Prop} {O' : Own} {V' : World} (hF : Fr Q O V O' V') (h2 : ¬ Q (.a 9 2)) (h3 : ¬ Q (.a 9 3)) (h4 : ¬ Q (.a 9 4)) (hn : ¬ Q .no) : CtS B O' V' bc na nn nc ga gn gc K Gs L := ⟨h.nm.fr hF h2 h3, h.nd.fr hF h4, h.ns.sub (Sub.ext (core_fr hF hn))⟩
/-- The node that is being built. -/
structure NdS (B : Nat) (O : Own) (V : World) (bt : Nat) (g : GNode) (v rf : List Int) : Prop where
  cell : blk V bt = some g.enc
  fre : free V bt = true
  own : O bt = .a 9 5
  vr : RowL B O (.a 9 6) V 3 1 (.slice g.vals.a g.vals.len g.vals.cap) v.length (v.flatMap encZ)
  rr : RowL B O (.a 9 7) V 3 1 (.slice g.refs.a g.refs.len g.refs.cap) rf.length (rf.flatMap encZ)
theorem NdS.fr {B : Nat} {O : Own} {V : World} {bt : Nat} {g : GNode} {v rf : List Int} (h : NdS B O V bt g v rf) {L : Lab → Prop} {O' : Own} {V' : World} (hF : Fr L O V O' V') (h5 : ¬ L (.a 9 5)) (h6 : ¬ L (.a 9 6)) (h7 : ¬ L (.a 9 7)) : NdS B O' V' bt g v rf := by
  have hb : ¬ L (O bt) := by rw [h.own]; exact h5
  exact ⟨hF.blk h.cell hb, hF.free h.cell h.fre hb, (hF.keep bt (blk_lt h.cell)).trans h.own, h.vr.fr hF h6, h.rr.fr hF h7⟩
def isV6 (l : Lab) : Prop := l = .a 9 5 ∨ l = .a 9 6
def isR7 (l : Lab) : Prop := l = .a 9 5 ∨ l = .a 9 7
theorem lab9 {i j : Nat} (h : i ≠ j) : Lab.a 9 i ≠ Lab.a 9 j := fun e => h (Lab.a.inj e).2
theorem NdS.addVal {B : Nat} {O : Own} {V : World} {bt : Nat} {g : GNode} {v rf : List Int} (h : NdS B O V bt g v rf) (hB : B ≤ V.heap.size) (x : Int) (hl : v.length ≤ 1000000) : ∃ va vc V1, (Builtin.append_ #[180, 180] 180 #[.slice g.vals.a g.vals.len g.vals.cap, .slice (some ⟨V.heap.size, 0, none⟩) 1 1]).run Tryz.prog (V.alloc (.cells #[.int .i64 x] 3)) = .ok (.slice va (g.vals.len + 1) vc) V1 ∧ blk V1 bt = some g.enc ∧ free V1 bt = true ∧ NdS B (lab O V.heap.size (.a 9 6)) (put V1 bt (GNode.enc ⟨g.rule, g.pred, ⟨va, g.vals.len + 1, vc⟩, g.refs⟩)) bt ⟨g.rule, g.pred, ⟨va, g.vals.len + 1, vc⟩, g.refs⟩ (v ++ [x]) rf ∧ Fr isV6 O V (lab O V.heap.size (.a 9 6)) (put V1 bt (GNode.enc ⟨g.rule, g.pred, ⟨va, g.vals.len + 1, vc⟩, g.refs⟩)) ∧ Fr (fun l => l = .a 9 6) O V (lab O V.heap.size (.a 9 6)) V1 := by
  obtain ⟨va, vc, V1, hrun, hR, hF⟩ := appLB el183 180 x h.vr hB (by omega) (by omega) #[.int .i64 x] rfl 1
  have hb : ¬ (fun y => y = Lab.a 9 6) (O bt) := by rw [h.own]; exact lab9 (by decide)
  have hb1 := hF.blk h.cell hb
  have hf1 := hF.free h.cell h.fre hb
  have ho1 : lab O V.heap.size (.a 9 6) bt = .a 9 5 := by rw [lab_lt (blk_lt h.cell)]; exact h.own
  obtain ⟨C, eC⟩ : ∃ C, C = GNode.enc ⟨g.rule, g.pred, ⟨va, g.vals.len + 1, vc⟩, g.refs⟩ := ⟨_, rfl⟩
  have hcl : C.length = g.enc.length := by rw [eC, GNode.length_enc, GNode.length_enc]
  have hFp : Fr (fun l => l = .a 9 5) (lab O V.heap.size (.a 9 6)) V1 (lab O V.heap.size (.a 9 6)) (put V1 bt C) := (Fr.refl _ _ _).put (L := fun l => l = .a 9 5) ho1 _
  refine ⟨va, vc, V1, hrun, hb1, hf1, ?_, ?_, hF⟩
  · rw [← eC]
    refine ⟨by rw [blk_put, if_pos rfl, hb1, ← eC]; rfl, by rw [free_put]; exact hf1, ho1, hR.fr hFp (lab9 (by decide)), ((h.rr.fr hF (lab9 (by decide))).fr hFp (lab9 (by decide)))⟩
  · rw [← eC]
    exact (hF.mono (fun l e => .inr e)).trans (hFp.mono (fun l e => .inl e))
theorem NdS.addRef {B : Nat} {O : Own} {V : World} {bt : Nat} {g : GNode} {v rf : List Int} (h : NdS B O V bt g v rf) (hB : B ≤ V.heap.size) (x : Int) (hl : rf.length ≤ 1000000) : ∃ va vc V1, (Builtin.append_ #[180, 180] 180 #[.slice g.refs.a g.refs.len g.refs.cap, .slice (some ⟨V.heap.size, 0, none⟩) 1 1]).run Tryz.prog (V.alloc (.cells #[.int .i64 x] 3)) = .ok (.slice va (g.refs.len + 1) vc) V1 ∧ blk V1 bt = some g.enc ∧ free V1 bt = true ∧ NdS B (lab O V.heap.size (.a 9 7)) (put V1 bt (GNode.enc ⟨g.rule, g.pred, g.vals, ⟨va, g.refs.len + 1, vc⟩⟩)) bt ⟨g.rule, g.pred, g.vals, ⟨va, g.refs.len + 1, vc⟩⟩ v (rf ++ [x]) ∧ Fr isR7 O V (lab O V.heap.size (.a 9 7)) (put V1 bt (GNode.enc ⟨g.rule, g.pred, g.vals, ⟨va, g.refs.len + 1, vc⟩⟩)) ∧ Fr (fun l => l = .a 9 7) O V (lab O V.heap.size (.a 9 7)) V1 := by
  obtain ⟨va, vc, V1, hrun, hR, hF⟩ := appLB el183 180 x h.rr hB (by omega) (by omega) #[.int .i64 x] rfl 1
  have hb : ¬ (fun y => y = Lab.a 9 7) (O bt) := by rw [h.own]; exact lab9 (by decide)
  have hb1 := hF.blk h.cell hb
  have hf1 := hF.free h.cell h.fre hb
  have ho1 : lab O V.heap.size (.a 9 7) bt = .a 9 5 := by rw [lab_lt (blk_lt h.cell)]; exact h.own
  obtain ⟨C, eC⟩ : ∃ C, C = GNode.enc ⟨g.rule, g.pred, g.vals, ⟨va, g.refs.len + 1, vc⟩⟩ := ⟨_, rfl⟩
  have hFp : Fr (fun l => l = .a 9 5) (lab O V.heap.size (.a 9 7)) V1 (lab O V.heap.size (.a 9 7)) (put V1 bt C) := (Fr.refl _ _ _).put (L := fun l => l = .a 9 5) ho1 _
  refine ⟨va, vc, V1, hrun, hb1, hf1, ?_, ?_, hF⟩
  · rw [← eC]
    refine ⟨by rw [blk_put, if_pos rfl, hb1, ← eC]; rfl, by rw [free_put]; exact hf1, ho1, ((h.vr.fr hF (lab9 (by decide))).fr hFp (lab9 (by decide))), hR.fr hFp (lab9 (by decide))⟩
  · rw [← eC]
    exact (hF.mono (fun l e => .inr e)).trans (hFp.mono (fun l e => .inl e))
open Classical in
/-- The rows of a finished node are constants from now on. -/
noncomputable def done67 (O : Own) : Own := fun k => if O k = .a 9 6 ∨ O k = .a 9 7 then .no else O k
theorem d67_no {O : Own} {k : Nat} (h : O k = .a 9 6 ∨ O k = .a 9 7) : done67 O k = .no := if_pos h
theorem d67_eq {O : Own} {k : Nat} {l : Lab} (h : O k = l) (h6 : l ≠ .a 9 6) (h7 : l ≠ .a 9 7) : done67 O k = l := by
  unfold done67
  rw [if_neg (by rw [h]; rintro (e | e); exact h6 e; exact h7 e)]
  exact h
theorem d67_core (O : Own) (V : World) : Sub (core O V) (core (done67 O) V) := Sub.cores fun b C hb ho => ⟨hb, d67_eq ho (fun e => by cases e) (fun e => by cases e)⟩
theorem RowL.d67 {B : Nat} {O : Own} {l : Lab} {W : World} {e : TypeId} {sz : Nat} {v : Value} {n : Nat} {xs : List Value} (h : RowL B O l W e sz v n xs) (h6 : l ≠ .a 9 6) (h7 : l ≠ .a 9 7) : RowL B (done67 O) l W e sz v n xs := ⟨h.1, fun k hk => d67_eq (h.2 k hk) h6 h7⟩
theorem LvS.d67 {W : World} {O : Own} {V : World} {bn : Nat} {la : Option Addr} {ln lc : Nat} {need : List Bool} {KL : List MStep} {Ls : List NStep} (h : LvS W O V bn la ln lc need KL Ls) : LvS W (done67 O) V bn la ln lc need KL Ls := ⟨h.ext, fun k hk => d67_eq (h.lo k hk) (fun e => by cases e) (fun e => by cases e), h.nb, h.nf, d67_eq h.no (lab9 (by decide)) (lab9 (by decide)), h.row.d67 (lab9 (by decide)) (lab9 (by decide)), h.ll, fun i k s h1 h2 => (h.st i k s h1 h2).sub (d67_core O V), h.sh⟩
theorem CtS.d67 {B : Nat} {O : Own} {V : World} {bc : Nat} {na : Option Addr} {nn nc : Nat} {ga : Option Addr} {gn gc : Nat} {K : List (List UInt8)} {Gs : List GNode} {L : List CNode} (h : CtS B O V bc na nn nc ga gn gc K Gs L) : CtS B (done67 O) V bc na nn nc ga gn gc K Gs L := ⟨⟨h.nm.cell, h.nm.fre, d67_eq h.nm.own (lab9 (by decide)) (lab9 (by decide)), h.nm.row.d67 (lab9 (by decide)) (lab9 (by decide)), h.nm.bb⟩, h.nd.d67 (lab9 (by decide)) (lab9 (by decide)), h.ns.sub (d67_core O V)⟩
theorem NdS.nodC {B : Nat} {O : Own} {V : World} {bt : Nat} {g : GNode} {v rf : List Int} (h : NdS B O V bt g v rf) : NodC (core (done67 O) V) g ⟨g.rule, g.pred, v, rf⟩ := by
  refine ⟨rfl, rfl, (h.vr.rw encZ_len).1.tocore (fun b C e _ => d67_no (.inl (h.vr.2 b (by rw [e]; rfl)))), (h.rr.rw encZ_len).1.tocore (fun b C e _ => d67_no (.inr (h.rr.2 b (by rw [e]; rfl))))⟩
def isG (l : Lab) : Prop := l = .a 9 2 ∨ l = .a 9 4
/-- The finished node is put to the others. -/
theorem CtS.addNode {B : Nat} {O : Own} {V : World} {bc : Nat} {na : Option Addr} {nn nc : Nat} {ga : Option Addr} {gn gc : Nat} {K : List (List UInt8)} {Gs : List GNode} {L : List CNode} (h : CtS B O V bc na nn nc ga gn gc K Gs L) {bt : Nat} {g : GNode} {v rf : List Int} (hN : NdS B O V bt g v rf) (hl : Gs.length ≤ 1000000000) : ∃ ga' gc' V1, (Builtin.append_ #[177, 177] 177 #[.slice ga gn gc, .slice (some ⟨V.heap.size, 0, none⟩) 1 1]).run Tryz.prog (V.alloc (.cells (GNode.enc g).toArray 182)) = .ok (.slice ga' (gn + 1) gc') V1 ∧ blk V1 bc = some [.slice na nn nc, .slice ga gn gc] ∧ free V1 bc = true ∧ CtS B (lab (done67 O) V.heap.size (.a 9 4)) (put V1 bc [.slice na nn nc, .slice ga' (gn + 1) gc']) bc na nn nc ga' (gn + 1) gc' K (Gs ++ [g]) (L ++ [⟨g.rule, g.pred, v, rf⟩]) ∧ Fr isG (done67 O) V (lab (done67 O) V.heap.size (.a 9 4)) (put V1 bc [.slice na nn nc, .slice ga' (gn + 1) gc']) := by
  have h' := h.d67
  obtain ⟨ga', gc', V1, hrun, hR, hF⟩ := appLB el217 177 g h'.nd h'.nm.bb (by omega) (by omega) (GNode.enc g).toArray rfl 1
  have hb : ¬ (fun y => y = Lab.a 9 4) (done67 O bc) := by rw [h'.nm.own]; exact lab9 (by decide)
  have hb1 := hF.blk h'.nm.cell hb
  have hf1 := hF.free h'.nm.cell h'.nm.fre hb
  have ho1 : lab (done67 O) V.heap.size (.a 9 4) bc = .a 9 2 := by rw [lab_lt (blk_lt h'.nm.cell)]; exact h'.nm.own
  have hFp : Fr (fun l => l = .a 9 2) (lab (done67 O) V.heap.size (.a 9 4)) V1 (lab (done67 O) V.heap.size (.a 9 4)) (put V1 bc [.slice na nn nc, .slice ga' (gn + 1) gc']) := (Fr.refl _ _ _).put (L := fun l => l = .a 9 2) ho1 _
  have hFF : Fr isG (done67 O) V (lab (done67 O) V.heap.size (.a 9 4)) (put V1 bc [.slice na nn nc, .slice ga' (gn + 1) gc']) := (hF.mono (fun l e => .inr e)).trans (hFp.mono (fun l e => .inl e))
  have hng : ¬ isG .no := by rintro (e | e) <;> cases e
  refine ⟨ga', gc', V1, hrun, hb1, hf1, ⟨⟨by rw [blk_put, if_pos rfl, hb1]; rfl, by rw [free_put]; exact hf1, ho1, (h'.nm.row.fr hF (lab9 (by decide))).fr hFp (lab9 (by decide)), Nat.le_trans h'.nm.bb hFF.size⟩, hR.fr hFp (lab9 (by decide)), ?_⟩, hFF⟩
  exact (h'.ns.snoc hN.nodC).sub (Sub.ext (core_fr hFF hng))
theorem not_N {j : Nat} (h2 : j ≠ 2) (h3 : j ≠ 3) : ¬ isN (.a 9 j) := by rintro (e | e); exact h2 (Lab.a.inj e).2; exact h3 (Lab.a.inj e).2
theorem not_N_no : ¬ isN .no := by rintro (e | e) <;> cases e
theorem not_V6 {j : Nat} (h2 : j ≠ 5) (h3 : j ≠ 6) : ¬ isV6 (.a 9 j) := by rintro (e | e); exact h2 (Lab.a.inj e).2; exact h3 (Lab.a.inj e).2
theorem not_V6_no : ¬ isV6 .no := by rintro (e | e) <;> cases e
theorem not_R7 {j : Nat} (h2 : j ≠ 5) (h3 : j ≠ 7) : ¬ isR7 (.a 9 j) := by rintro (e | e); exact h2 (Lab.a.inj e).2; exact h3 (Lab.a.inj e).2
theorem not_R7_no : ¬ isR7 .no := by rintro (e | e) <;> cases e
/-- The values of a node, some of them found. -/
def vQ (W V : World) (bn : Nat) (la : Option Addr) (ln lc : Nat) (need : List Bool) (KL : List MStep) (Ls : List NStep) (bc bt : Nat) (rule pred : Int) (Gs : List GNode) (L : List CNode) (src K0 : List (List UInt8)) (kb k : Nat) : Prop := ∃ O na nn nc ga gn gc K g v, LvS W O V bn la ln lc need KL Ls ∧ CtS W.heap.size O V bc na nn nc ga gn gc K Gs L ∧ NdS W.heap.size O V bt g v [] ∧ g.rule = rule ∧ g.pred = pred ∧ (K, v) = (src.take k).foldl vaS (K0, []) ∧ K.length ≤ kb + k ∧ v.length = k
theorem vQ_step {W : World} {O : Own} {V : World} {bn : Nat} {la : Option Addr} {ln lc : Nat} {need : List Bool} {KL : List MStep} {Ls : List NStep} (hLv : LvS W O V bn la ln lc need KL Ls) {bc : Nat} {na : Option Addr} {nn nc : Nat} {ga : Option Addr} {gn gc : Nat} {K : List (List UInt8)} {Gs : List GNode} {L : List CNode} (hCt : CtS W.heap.size O V bc na nn nc ga gn gc K Gs L) {bt : Nat} {g : GNode} {v : List Int} (hNd : NdS W.heap.size O V bt g v []) {src K0 : List (List UInt8)} {kb k : Nat} {x : List UInt8} (hx : src[k]? = some x) (hf : (K, v) = (src.take k).foldl vaS (K0, [])) (hkb : K.length ≤ kb + k) (hvk : v.length = k) (hk : k ≤ 100) {V6 : World} {na6 : Option Addr} {nc6 : Nat} (hN6 : NmS W.heap.size (lab O V.heap.size (.a 9 3)) V6 bc na6 (addN K x).length nc6 (.slice ga gn gc) (addN K x)) (hF6 : Fr isN O V (lab O V.heap.size (.a 9 3)) V6) : ∃ va vc V7, (Builtin.append_ #[180, 180] 180 #[.slice g.vals.a g.vals.len g.vals.cap, .slice (some ⟨V6.heap.size, 0, none⟩) 1 1]).run Tryz.prog (V6.alloc (.cells #[.int .i64 (((addN K x).idxOf x : Nat) : Int)] 3)) = .ok (.slice va (g.vals.len + 1) vc) V7 ∧ blk V7 bt = some g.enc ∧ free V7 bt = true ∧ vQ W (put V7 bt (splice g.enc 2 [.slice va (g.vals.len + 1) vc])) bn la ln lc need KL Ls bc bt g.rule g.pred Gs L src K0 kb (k + 1) ∧ Fr (fun l => l = .a 9 6) (lab O V.heap.size (.a 9 3)) V6 (lab (lab O V.heap.size (.a 9 3)) V6.heap.size (.a 9 6)) V7 := by
  have hL6 := hLv.fr hF6 (not_N (by decide) (by decide)) (not_N (by decide) (by decide)) not_N_no
  have hD6 := hNd.fr hF6 (not_N (by decide) (by decide)) (not_N (by decide) (by decide)) (not_N (by decide) (by decide))
  have hC6 : CtS W.heap.size (lab O V.heap.size (.a 9 3)) V6 bc na6 (addN K x).length nc6 ga gn gc (addN K x) Gs L := ⟨hN6, hCt.nd.fr hF6 (not_N (by decide) (by decide)), hCt.ns.sub (Sub.ext (core_fr hF6 not_N_no))⟩
  obtain ⟨va, vc, V7, hrun, h1, h2, h3, h4, h5⟩ := hD6.addVal hN6.bb (((addN K x).idxOf x : Nat) : Int) (by omega)
  have e : splice g.enc 2 [.slice va (g.vals.len + 1) vc] = GNode.enc ⟨g.rule, g.pred, ⟨va, g.vals.len + 1, vc⟩, g.refs⟩ := rfl
  refine ⟨va, vc, V7, hrun, h1, h2, ?_, h5⟩
  rw [e]
  refine ⟨_, _, _, _, _, _, _, _, _, _, hL6.fr h4 (not_V6 (by decide) (by decide)) (not_V6 (by decide) (by decide)) not_V6_no, hC6.fr h4 (not_V6 (by decide) (by decide)) (not_V6 (by decide) (by decide)) (not_V6 (by decide) (by decide)) not_V6_no, h3, rfl, rfl, ?_, ?_, ?_⟩
  · rw [take_at hx, List.foldl_append, ← hf]
    rfl
  · have := addN_len K x
    omega
  · rw [List.length_append, hvk]; rfl
/-- The premises of a node, some of them found. -/
def rQ (W V : World) (bn : Nat) (la : Option Addr) (ln lc : Nat) (need : List Bool) (KL : List MStep) (Ls : List NStep) (bc bt : Nat) (rule : Int) (Gs : List GNode) (L : List CNode) (K : List (List UInt8)) (v : List Int) (p : PP) (u : NStep) (body : List PL) (k : Nat) : Prop := ∃ O na nn nc ga gn gc g rf, LvS W O V bn la ln lc need KL Ls ∧ CtS W.heap.size O V bc na nn nc ga gn gc K Gs L ∧ NdS W.heap.size O V bt g v rf ∧ g.rule = rule ∧ g.pred = 0 ∧ rf = (body.take k).foldl (rfS p u Ls) [] ∧ rf.length ≤ k
theorem rQ_step {W : World} {O : Own} {V : World} {bn : Nat} {la : Option Addr} {ln lc : Nat} {need : List Bool} {KL : List MStep} {Ls : List NStep} (hLv : LvS W O V bn la ln lc need KL Ls) {bc : Nat} {na : Option Addr} {nn nc : Nat} {ga : Option Addr} {gn gc : Nat} {K : List (List UInt8)} {Gs : List GNode} {L : List CNode} (hCt : CtS W.heap.size O V bc na nn nc ga gn gc K Gs L) {bt : Nat} {g : GNode} {v rf : List Int} (hNd : NdS W.heap.size O V bt g v rf) (hg0 : g.pred = 0) {p : PP} {u : NStep} {body : List PL} {k : Nat} {z : PL} (hz : body[k]? = some z) (hn : z.neg = false) (hf : rf = (body.take k).foldl (rfS p u Ls) []) (hvk : rf.length ≤ k) (hk : k ≤ 1000) {V6 : World} (hx6 : V.Extends V6) : ∃ va vc V7, (Builtin.append_ #[180, 180] 180 #[.slice g.refs.a g.refs.len g.refs.cap, .slice (some ⟨V6.heap.size, 0, none⟩) 1 1]).run Tryz.prog (V6.alloc (.cells #[.int .i64 (plcF Ls z.atom.pred (instF p.pool u.vals z.atom))] 3)) = .ok (.slice va (g.refs.len + 1) vc) V7 ∧ blk V7 bt = some g.enc ∧ free V7 bt = true ∧ rQ W (put V7 bt (splice g.enc 3 [.slice va (g.refs.len + 1) vc])) bn la ln lc need KL Ls bc bt g.rule Gs L K v p u body (k + 1) ∧ Fr (fun l => l = .a 9 7) (lab O V.heap.size .no) V6 (lab (lab O V.heap.size .no) V6.heap.size (.a 9 7)) V7 := by
  have hFg : Fr (fun _ => False) O V (lab O V.heap.size .no) V6 := Fr.grow hx6
  have hL6 := hLv.fr hFg (fun e => e) (fun e => e) (fun e => e)
  have hD6 := hNd.fr hFg (fun e => e) (fun e => e) (fun e => e)
  have hC6 := hCt.fr hFg (fun e => e) (fun e => e) (fun e => e) (fun e => e)
  obtain ⟨va, vc, V7, hrun, h1, h2, h3, h4, h5⟩ := hD6.addRef hC6.nm.bb (plcF Ls z.atom.pred (instF p.pool u.vals z.atom)) (by omega)
  have e : splice g.enc 3 [.slice va (g.refs.len + 1) vc] = GNode.enc ⟨g.rule, g.pred, g.vals, ⟨va, g.refs.len + 1, vc⟩⟩ := rfl
  refine ⟨va, vc, V7, hrun, h1, h2, ?_, h5⟩
  rw [e]
  refine ⟨_, _, _, _, _, _, _, _, _, hL6.fr h4 (not_R7 (by decide) (by decide)) (not_R7 (by decide) (by decide)) not_R7_no, hC6.fr h4 (not_R7 (by decide) (by decide)) (not_R7 (by decide) (by decide)) (not_R7 (by decide) (by decide)) not_R7_no, h3, rfl, hg0, ?_, ?_⟩
  · rw [take_at hz, List.foldl_append, ← hf]
    show _ = rfS p u Ls rf z
    unfold rfS
    rw [if_neg (by rw [hn]; decide)]
  · rw [List.length_append, List.length_singleton]; omega
end Go.Proofs.Qxb6500787aGreat
