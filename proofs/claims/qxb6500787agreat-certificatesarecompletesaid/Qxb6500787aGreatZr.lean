
import Derived.Test.Qxb6500787aGreatZq
import Derived.StillTailTactics
import Derived.Deep.QuietTactic
import Derived.BigQuiet
import Derived.Deep.RegionHeld
import Derived.Deep.CutRange
import Derived.Laws.ResultCell
import Derived.Laws.Rows
import Derived.DeepKeys
import Derived.DataBytes
import Derived.Laws.StructEq
import Derived.Laws.AppendOwn
import Derived.Laws.MakeOwn
import Derived.Lib.AppendStr
set_option linter.unusedSimpArgs false
set_option linter.unusedVariables false
namespace Go.Proofs.Qxb6500787aGreat
open Go.RowKit Go.Blk
attribute [local go_sem ↓] execOp_load execOp_store execOp_alloc
attribute [local go_sem] Tryz.ld26 Tryz.st26 Tryz.ld27 Tryz.st27 Tryz.ld28 Tryz.st28 Tryz.ld3 Tryz.st3 Tryz.ld29 Tryz.st29 Tryz.ld44 Tryz.st44 Tryz.ld4 Tryz.st4 Tryz.ld50 Tryz.st50 Tryz.ld32 Tryz.st32 Tryz.ld49 Tryz.st49 Tryz.ld68 Tryz.st68 Tryz.ld9 Tryz.st9 Tryz.ld40 Tryz.st40 Tryz.ld138 Tryz.st138 Tryz.ld139 Tryz.st139 Tryz.ld146 Tryz.st146 Tryz.ld183 Tryz.st183 Tryz.ld184 Tryz.st184 Tryz.ld192 Tryz.st192 Tryz.ld195 Tryz.st195 Tryz.ld217 Tryz.st217 Tryz.ld159 Tryz.st159 Tryz.ld142 Tryz.st142 Tryz.ld2 Tryz.st2 Tryz.ld5 Tryz.st5 Tryz.ld12 Tryz.st12 Tryz.ld21 Tryz.st21 Tryz.ld22 Tryz.st22 Tryz.ld24 Tryz.st24 Tryz.ld58 Tryz.st58 Tryz.ld97 Tryz.st97 Tryz.ld101 Tryz.st101 Tryz.ld116 Tryz.st116 Tryz.ld121 Tryz.st121 Tryz.ld135 Tryz.st135 Tryz.ld136 Tryz.st136 Tryz.ld143 Tryz.st143 Tryz.ld148 Tryz.st148 Tryz.ld154 Tryz.st154 Tryz.ld173 Tryz.st173 Tryz.ld187 Tryz.st187 Tryz.ld222 Tryz.st222 Tryz.ld241 Tryz.st241 Tryz.ld248 Tryz.st248 Tryz.ld268 Tryz.st268 Tryz.ld272 Tryz.st272 Tryz.ld153 Tryz.st153 Tryz.ld255 Tryz.st255 Tryz.ld256 Tryz.st256 Tryz.ld129 Tryz.st129 Tryz.ld152 Tryz.st152 Tryz.ld31 Tryz.st31 Tryz.ld46 Tryz.st46 Tryz.ld52 Tryz.st52 Tryz.ld54 Tryz.st54 Tryz.ld60 Tryz.st60 Tryz.ld70 Tryz.st70 Tryz.ld74 Tryz.st74 Tryz.ld93 Tryz.st93 Tryz.ld141 Tryz.st141 Tryz.ld151 Tryz.st151 Tryz.ld170 Tryz.st170 Tryz.ld186 Tryz.st186 Tryz.ld189 Tryz.st189 Tryz.ld194 Tryz.st194 Tryz.ld197 Tryz.st197 Tryz.ld219 Tryz.st219 Tryz.ld224 Tryz.st224 Tryz.ld230 Tryz.st230 Tryz.ld235 Tryz.st235 Tryz.ld243 Tryz.st243 Tryz.ld247 Tryz.st247 Tryz.ld252 Tryz.st252 Tryz.ld258 Tryz.st258 Tryz.al153 Tryz.al255 Tryz.al256 Tryz.al129 Tryz.al152 Tryz.al31 Tryz.al46 Tryz.al52 Tryz.al54 Tryz.al60 Tryz.al70 Tryz.al74 Tryz.al93 Tryz.al141 Tryz.al151 Tryz.al170 Tryz.al186 Tryz.al189 Tryz.al194 Tryz.al197 Tryz.al219 Tryz.al224 Tryz.al230 Tryz.al235 Tryz.al243 Tryz.al247 Tryz.al252 Tryz.al258
attribute [local go_sem] Request.length_enc Request.ok_enc Request.all_get Request.all_set Request.kind_get Request.kind_set Request.blob_get Request.blob_set Request.items_get Request.items_set Request.pred_get Request.pred_set Request.slots_get Request.slots_set Trace.length_enc Trace.ok_enc Trace.all_get Trace.all_set Trace.op_get Trace.op_set Trace.calls_get Trace.calls_set Item.length_enc Item.ok_enc Item.all_get Item.all_set Item.del_get Item.del_set Item.pred_get Item.pred_set Item.args_get Item.args_set Reply.length_enc Reply.ok_enc Reply.all_get Reply.all_set Reply.code_get Reply.code_set Reply.kind_get Reply.kind_set Reply.index_get Reply.index_set Reply.yes_get Reply.yes_set Reply.preds_get Reply.preds_set Reply.rules_get Reply.rules_set Reply.arity_get Reply.arity_set Reply.rows_get Reply.rows_set Reply.fact_get Reply.fact_set Reply.fact_del_get Reply.fact_del_set Reply.fact_pred_get Reply.fact_pred_set Reply.fact_args_get Reply.fact_args_set GEntry.length_enc GEntry.ok_enc GEntry.all_get GEntry.all_set GEntry.seq_get GEntry.seq_set GEntry.kind_get GEntry.kind_set GEntry.code_get GEntry.code_set GOp.length_enc GOp.ok_enc GOp.all_get GOp.all_set GOp.kind_get GOp.kind_set GOp.raw_get GOp.raw_set Reader.length_enc Reader.ok_enc Reader.all_get Reader.all_set Reader.buf_get Reader.buf_set Reader.at__get Reader.at__set Slot.length_enc Slot.ok_enc Slot.all_get Slot.all_set Slot.bound_get Slot.bound_set Slot.name_get Slot.name_set Session.length_enc Session.ok_enc Session.all_get Session.all_set Session.svc_get Session.svc_set Session.buf_get Session.buf_set Session.closed_get Session.closed_set GProgram.length_enc GProgram.ok_enc GProgram.all_get GProgram.all_set GProgram.pool_get GProgram.pool_set GProgram.preds_get GProgram.preds_set GProgram.rules_get GProgram.rules_set GProgram.strata_get GProgram.strata_set PredInfo.length_enc PredInfo.ok_enc PredInfo.all_get PredInfo.all_set PredInfo.arity_get PredInfo.arity_set PredInfo.base_get PredInfo.base_set PredInfo.stratum_get PredInfo.stratum_set Change.length_enc Change.ok_enc Change.all_get Change.all_set Change.del_get Change.del_set Change.pred_get Change.pred_set Change.t_get Change.t_set Store.length_enc Store.ok_enc Store.all_get Store.all_set Store.names_get Store.names_set Store.arity_get Store.arity_set Store.rows_get Store.rows_set Src.length_enc Src.ok_enc Src.all_get Src.all_set Src.b_get Src.b_set Src.at__get Src.at__set Atom.length_enc Atom.ok_enc Atom.all_get Atom.all_set Atom.pred_get Atom.pred_set Atom.args_get Atom.args_set GRule.length_enc GRule.ok_enc GRule.all_get GRule.all_set GRule.head_get GRule.head_set GRule.body_get GRule.body_set GRule.head_pred_get GRule.head_pred_set GRule.head_args_get GRule.head_args_set Cert.length_enc Cert.ok_enc Cert.all_get Cert.all_set Cert.names_get Cert.names_set Cert.nodes_get Cert.nodes_set Fact.length_enc Fact.ok_enc Fact.all_get Fact.all_set Fact.pred_get Fact.pred_set Fact.t_get Fact.t_set Literal.length_enc Literal.ok_enc Literal.all_get Literal.all_set Literal.neg_get Literal.neg_set Literal.atom_get Literal.atom_set Literal.atom_pred_get Literal.atom_pred_set Literal.atom_args_get Literal.atom_args_set Engine.length_enc Engine.ok_enc Engine.all_get Engine.all_set Engine.prog_get Engine.prog_set Engine.st_get Engine.st_set SrcCertm.length_enc SrcCertm.ok_enc SrcCertm.all_get SrcCertm.all_set SrcCertm.b_get SrcCertm.b_set SrcCertm.at__get SrcCertm.at__set GNode.length_enc GNode.ok_enc GNode.all_get GNode.all_set GNode.rule_get GNode.rule_set GNode.pred_get GNode.pred_set GNode.vals_get GNode.vals_set GNode.refs_get GNode.refs_set Term.length_enc Term.ok_enc Term.all_get Term.all_set Term.var_get Term.var_set Term.n_get Term.n_set Env.length_enc Env.ok_enc Env.all_get Env.all_set Env.val_get Env.val_set Env.set_get Env.set_set
attribute [local go_sem] size_put size_ext blk_put free_put blk_alloc free_alloc blk_drew free_drew blk_ext free_ext lookOr_some putOr_some segAt_some cellAt_some storeIn_some put_put put_alloc_new length_arr ok_arr_u8 ok_arr_u32 ok_arr_u64 ok_arr_i64 ok_arr_sl cellsV_agg cellsV_int cellsV_bool cellsV_string cellsV_pointer cellsV_slice cellsV_sl ok_int ok_bool ok_string ok_pointer ok_slice ok_sl toList_arr seg_arr set_arr nth_splice nth_splice0 seg_splice seg_splice0 splice_splice splice_splice0 length_splice_if
attribute [local go_sem ↓] execOp_box
attribute [local go_sem] box_run nth_arr_u8 put_arr_u8 blk_drewN free_drewN put_drewN blk_raw free_raw
theorem nmsT_mT {N N' : List (List UInt8)} {f : Int → Int} {ar : Nat} (h4 : ar ≤ 4) {x : Tup} (h : ∀ c, c < ar → N'.getD (f (tg x c)).toNat [] = N.getD (tg x c).toNat []) : nmsT N' (mT f ar x) ar = nmsT N x ar := by
  unfold nmsT
  refine List.map_congr_left fun c hc => ?_
  have hc' := List.mem_range.1 hc
  rw [tg_mT _ _ _ (by omega), if_pos hc', h c hc']
theorem nmsT_pre {N N' : List (List UInt8)} (hp : N <+: N') {ar : Nat} {x : Tup} (h : ∀ c, c < ar → InT N.length (tg x c)) : nmsT N' x ar = nmsT N x ar := by
  unfold nmsT
  refine List.map_congr_left fun c hc => ?_
  obtain ⟨X, rfl⟩ := hp
  rw [List.getD_eq_getElem?_getD, List.getD_eq_getElem?_getD, List.getElem?_append_left (h c (List.mem_range.1 hc)).2]
theorem col_sim {t s1 : InsS} (h : InG t) (hF : FstO t.p) {cc : Int} (hc : ColR t cc s1) : Sim t s1 := by
  obtain ⟨-, -, -, c3, c4, c5, c6⟩ := col_all h hF hc
  refine ⟨c5.symm, fun q => ?_⟩
  unfold nmB
  rw [c6 q, List.map_map]
  refine List.map_congr_left fun x hx => ?_
  show nmsT t.N x (arP t.p q) = nmsT s1.N (mT (reN t s1.N) (arP t.p q) x) (arP t.p q)
  refine (nmsT_mT (ar4 h.pg.pok q) fun c hcc => ?_).symm
  have hu := (usd_rd h q x (bas_mem hx).1).1 c hcc
  obtain ⟨i, e1, e2⟩ := lookF_get (lookF_in (c4 _ hu))
  unfold reN
  rw [e1, Int.toNat_natCast, List.getD_eq_getElem?_getD, e2]; rfl
theorem tab_sim {t : InsS} (h : InG t) {N' : List (List UInt8)} (hN : NEx t.N N') : Sim t (t.tab N') := by
  refine ⟨rfl, fun q => ?_⟩
  show (rowsAt (basR t.p t.R) q).map _ = (rowsAt (basR t.p t.R) q).map _
  exact List.map_congr_left fun x hx => (nmsT_pre hN.pre ((h.dom q x hx).1)).symm
theorem mr_sim {t t1 : InsS} (h : InG t) (hF : FstO t.p) {L : List It} {code co : Int} (hm : MrR t L code t1 co) : Sim t t1 := by
  rcases hm with ⟨-, -, rfl, -⟩ | ⟨-, -, -, rfl, -⟩ | ⟨-, -, cc, s1, hc, ⟨-, -, rfl, -⟩ | ⟨-, -, rfl, -⟩⟩
  · exact Sim.refl _
  · exact Sim.refl _
  · exact Sim.refl _
  · exact col_sim h hF hc
/-! ### Changes told by names -/
theorem Corr.ext {p : PP} {N N' M M' : List (List UInt8)} {B B' : List (List Tup)} (h : Corr p N N' B B') (hM : NEx N M) (hM' : NEx N' M') : Corr p M M' B B' := by
  refine ⟨⟨hM.nn.1, h.a.pre.trans hM.pre, h.a.td.mono (fun y hy => hy.mono hM.pre.length_le)⟩, ⟨hM'.nn.1, h.b.pre.trans hM'.pre, h.b.td.mono (fun y hy => hy.mono hM'.pre.length_le)⟩, h.len, fun q => ?_, h.ar⟩
  have e1 : nmB p M B q = nmB p N B q := List.map_congr_left fun x hx => nmsT_pre hM.pre ((h.a.td q x hx).1)
  have e2 : nmB p M' B' q = nmB p N' B' q := List.map_congr_left fun x hx => nmsT_pre hM'.pre ((h.b.td q x hx).1)
  rw [e1, e2]; exact h.nm q
/-- A row is told by its names. -/
theorem nm_inj {p : PP} {N : List (List UInt8)} {B : List (List Tup)} (h : NB p N B) {q : Nat} (h4 : arP p q ≤ 4) {x y : Tup} (hx : TD p (InT N.length) q x) (hy : TD p (InT N.length) q y) (e : nmsT N x (arP p q) = nmsT N y (arP p q)) : x = y := by
  refine tg_ext fun c hc => ?_
  by_cases e1 : c < arP p q
  · have h1 := congrArg (fun l => l.getD c []) e
    try dsimp only at h1
    rw [nmsT_get _ _ e1, nmsT_get _ _ e1] at h1
    rw [← look_at h.nd (hx.1 c e1), ← look_at h.nd (hy.1 c e1), h1]
  · rw [hx.2 c (by omega) hc, hy.2 c (by omega) hc]
theorem NB.mem {p : PP} {N : List (List UInt8)} {B : List (List Tup)} (h : NB p N B) {q : Nat} (h4 : arP p q ≤ 4) {x : Tup} (hx : TD p (InT N.length) q x) : x ∈ rowsAt B q ↔ nmsT N x (arP p q) ∈ nmB p N B q := by
  unfold nmB
  rw [List.mem_map]
  constructor
  · exact fun hm => ⟨x, hm, rfl⟩
  · rintro ⟨y, hy, e⟩
    rw [← nm_inj h h4 (h.td q y hy) hx e]; exact hy
theorem nmB_set {p : PP} {N : List (List UInt8)} {B : List (List Tup)} {q : Nat} (hq : q < B.length) (L : List Tup) (z : Nat) : nmB p N (B.set q L) z = if z = q then L.map (fun x => nmsT N x (arP p q)) else nmB p N B z := by
  unfold nmB
  rw [rowsAt_set hq]
  by_cases e : z = q
  · subst e; rw [if_pos rfl, if_pos rfl]
  · rw [if_neg e, if_neg e]
theorem rd_set {p : PP} {D : Int → Prop} {B : List (List Tup)} (h : RD' p D B) {q : Nat} (hq : q < B.length) {L : List Tup} (hL : ∀ x ∈ L, TD p D q x) : RD' p D (B.set q L) := fun z x hx => by
  rw [rowsAt_set hq] at hx
  by_cases e : z = q
  · rw [if_pos e] at hx; rw [e]; exact hL x hx
  · rw [if_neg e] at hx; exact h z x hx
/-- The same fact inserted on both sides. -/
theorem Corr.ins {p : PP} {N N' : List (List UInt8)} {B B' : List (List Tup)} (h : Corr p N N' B B') {q : Nat} (hq : q < B.length) {x x' : Tup} (hx : TD p (InT N.length) q x) (hx' : TD p (InT N'.length) q x') (he : nmsT N x (arP p q) = nmsT N' x' (arP p q)) (hc : (changeF B ⟨false, (q : Int), x⟩).1 = 0) : (changeF B' ⟨false, (q : Int), x'⟩).1 = 0 ∧ Corr p N N' (changeF B ⟨false, (q : Int), x⟩).2 (changeF B' ⟨false, (q : Int), x'⟩).2 := by
  have hqt : ((q : Int)).toNat = q := Int.toNat_natCast _
  have f1 : changeF B ⟨false, (q : Int), x⟩ = if x ∈ rowsAt B q then (14, B) else (0, addR B q x) := by
    unfold changeF
    show (if false = true then _ else if x ∈ rowsAt B ((q : Int)).toNat then _ else _) = _
    rw [if_neg (by decide), hqt]
  have f2 : changeF B' ⟨false, (q : Int), x'⟩ = if x' ∈ rowsAt B' q then (14, B') else (0, addR B' q x') := by
    unfold changeF
    show (if false = true then _ else if x' ∈ rowsAt B' ((q : Int)).toNat then _ else _) = _
    rw [if_neg (by decide), hqt]
  have hxn : x ∉ rowsAt B q := fun hm => by rw [f1, if_pos hm] at hc; cases hc
  have hxn' : x' ∉ rowsAt B' q := fun hm => by
    rw [h.b.mem (h.ar q) hx', ← he, ← h.nm q, ← h.a.mem (h.ar q) hx] at hm
    exact hxn hm
  rw [f1, f2, if_neg hxn, if_neg hxn']
  refine ⟨rfl, ⟨h.a.nd, h.a.pre, ?_⟩, ⟨h.b.nd, h.b.pre, ?_⟩, ?_, fun z => ?_, h.ar⟩
  · exact h.a.td.add hx
  · exact h.b.td.add hx'
  · show (addR B' q x').length = (addR B q x).length
    unfold addR
    rw [List.length_set, List.length_set]; exact h.len
  · show nmB p N (addR B q x) z = nmB p N' (addR B' q x') z
    unfold addR
    rw [nmB_set hq, nmB_set (by rw [h.len]; exact hq)]
    by_cases e : z = q
    · rw [if_pos e, if_pos e, List.map_append, List.map_append]
      have h9 := h.nm q
      unfold nmB at h9
      rw [h9]
      show _ ++ [nmsT N x (arP p q)] = _ ++ [nmsT N' x' (arP p q)]
      rw [he]
    · rw [if_neg e, if_neg e]; exact h.nm z
theorem del_map {p : PP} {N : List (List UInt8)} {B : List (List Tup)} (h : NB p N B) {q : Nat} (h4 : arP p q ≤ 4) {x : Tup} (hx : TD p (InT N.length) q x) : ∀ (L : List Tup), (∀ y ∈ L, TD p (InT N.length) q y) → (delT L x).map (fun y => nmsT N y (arP p q)) = (L.map (fun y => nmsT N y (arP p q))).filter (fun r => decide (r ≠ nmsT N x (arP p q)))
  | [], _ => rfl
  | y :: L, hL => by
    have ih := del_map h h4 hx L (fun z hz => hL z (List.mem_cons_of_mem _ hz))
    unfold delT at ih ⊢
    rw [List.map_cons]
    by_cases e : y = x
    · rw [List.filter_cons_of_neg (by simp [e]), List.filter_cons_of_neg (by simp [e])]; exact ih
    · have e2 : nmsT N y (arP p q) ≠ nmsT N x (arP p q) := fun e3 => e (nm_inj h h4 (hL y List.mem_cons_self) hx e3)
      rw [List.filter_cons_of_pos (by simp [e]), List.filter_cons_of_pos (by simpa using e2), List.map_cons, ih]
/-- The same fact deleted on both sides. -/
theorem Corr.del {p : PP} {N N' : List (List UInt8)} {B B' : List (List Tup)} (h : Corr p N N' B B') {q : Nat} (hq : q < B.length) {x x' : Tup} (hx' : x ∈ rowsAt B q → TD p (InT N'.length) q x' ∧ nmsT N x (arP p q) = nmsT N' x' (arP p q)) (hc : (changeF B ⟨true, (q : Int), x⟩).1 = 0) : (changeF B' ⟨true, (q : Int), x'⟩).1 = 0 ∧ Corr p N N' (changeF B ⟨true, (q : Int), x⟩).2 (changeF B' ⟨true, (q : Int), x'⟩).2 := by
  have hqt : ((q : Int)).toNat = q := Int.toNat_natCast _
  have f1 : changeF B ⟨true, (q : Int), x⟩ = if x ∈ rowsAt B q then (0, B.set q (delT (rowsAt B q) x)) else (15, B) := by
    unfold changeF
    show (if true = true then (if x ∈ rowsAt B ((q : Int)).toNat then _ else _) else _) = _
    rw [if_pos rfl, hqt]
  have f2 : changeF B' ⟨true, (q : Int), x'⟩ = if x' ∈ rowsAt B' q then (0, B'.set q (delT (rowsAt B' q) x')) else (15, B') := by
    unfold changeF
    show (if true = true then (if x' ∈ rowsAt B' ((q : Int)).toNat then _ else _) else _) = _
    rw [if_pos rfl, hqt]
  have hxm : x ∈ rowsAt B q := by
    apply Classical.byContradiction
    intro hm
    rw [f1, if_neg hm] at hc; cases hc
  have hx := h.a.td q x hxm
  obtain ⟨hx2, he⟩ := hx' hxm
  have hxm' : x' ∈ rowsAt B' q := by rw [h.b.mem (h.ar q) hx2, ← he, ← h.nm q, ← h.a.mem (h.ar q) hx]; exact hxm
  rw [f1, f2, if_pos hxm, if_pos hxm']
  have hq' : q < B'.length := by rw [h.len]; exact hq
  refine ⟨rfl, ⟨h.a.nd, h.a.pre, rd_set h.a.td hq (fun y hy => h.a.td q y (List.mem_filter.1 hy).1)⟩, ⟨h.b.nd, h.b.pre, rd_set h.b.td hq' (fun y hy => h.b.td q y (List.mem_filter.1 hy).1)⟩, ?_, fun z => ?_, h.ar⟩
  · show (B'.set q _).length = (B.set q _).length
    rw [List.length_set, List.length_set]; exact h.len
  · show nmB p N (B.set q _) z = nmB p N' (B'.set q _) z
    rw [nmB_set hq, nmB_set hq']
    by_cases e : z = q
    · rw [if_pos e, if_pos e, del_map h.a (h.ar q) hx _ (h.a.td q), del_map h.b (h.ar q) hx2 _ (h.b.td q)]
      have h9 := h.nm q
      unfold nmB at h9
      rw [h9, he]
    · rw [if_neg e, if_neg e]; exact h.nm z
end Go.Proofs.Qxb6500787aGreat
