import Derived.Test.Qxb6500787aGreatMe

import Derived.StillTailTactics
import Derived.Deep.QuietTactic
import Derived.BigQuiet
import Derived.Deep.RegionHeld
import Derived.Deep.CutRange
import Derived.Laws.ResultCell
import Derived.Laws.Rows
import Derived.DeepKeys
import Derived.DataBytes
import Derived.Laws.StructEq
import Derived.Laws.AppendOwn
import Derived.Laws.MakeOwn
import Derived.Lib.AppendStr
set_option linter.unusedSimpArgs false
set_option linter.unusedVariables false
namespace Go.Proofs.Qxb6500787aGreat
open Go.RowKit Go.Blk
attribute [local go_sem ↓] execOp_load execOp_store execOp_alloc
attribute [local go_sem] Tryz.ld26 Tryz.st26 Tryz.ld27 Tryz.st27 Tryz.ld28 Tryz.st28 Tryz.ld3 Tryz.st3 Tryz.ld29 Tryz.st29 Tryz.ld44 Tryz.st44 Tryz.ld4 Tryz.st4 Tryz.ld50 Tryz.st50 Tryz.ld32 Tryz.st32 Tryz.ld49 Tryz.st49 Tryz.ld68 Tryz.st68 Tryz.ld9 Tryz.st9 Tryz.ld40 Tryz.st40 Tryz.ld138 Tryz.st138 Tryz.ld139 Tryz.st139 Tryz.ld146 Tryz.st146 Tryz.ld183 Tryz.st183 Tryz.ld184 Tryz.st184 Tryz.ld192 Tryz.st192 Tryz.ld195 Tryz.st195 Tryz.ld217 Tryz.st217 Tryz.ld159 Tryz.st159 Tryz.ld142 Tryz.st142 Tryz.ld2 Tryz.st2 Tryz.ld5 Tryz.st5 Tryz.ld12 Tryz.st12 Tryz.ld21 Tryz.st21 Tryz.ld22 Tryz.st22 Tryz.ld24 Tryz.st24 Tryz.ld58 Tryz.st58 Tryz.ld97 Tryz.st97 Tryz.ld101 Tryz.st101 Tryz.ld116 Tryz.st116 Tryz.ld121 Tryz.st121 Tryz.ld135 Tryz.st135 Tryz.ld136 Tryz.st136 Tryz.ld143 Tryz.st143 Tryz.ld148 Tryz.st148 Tryz.ld154 Tryz.st154 Tryz.ld173 Tryz.st173 Tryz.ld187 Tryz.st187 Tryz.ld222 Tryz.st222 Tryz.ld241 Tryz.st241 Tryz.ld248 Tryz.st248 Tryz.ld268 Tryz.st268 Tryz.ld272 Tryz.st272 Tryz.ld153 Tryz.st153 Tryz.ld255 Tryz.st255 Tryz.ld256 Tryz.st256 Tryz.ld129 Tryz.st129 Tryz.ld152 Tryz.st152 Tryz.ld31 Tryz.st31 Tryz.ld46 Tryz.st46 Tryz.ld52 Tryz.st52 Tryz.ld54 Tryz.st54 Tryz.ld60 Tryz.st60 Tryz.ld70 Tryz.st70 Tryz.ld74 Tryz.st74 Tryz.ld93 Tryz.st93 Tryz.ld141 Tryz.st141 Tryz.ld151 Tryz.st151 Tryz.ld170 Tryz.st170 Tryz.ld186 Tryz.st186 Tryz.ld189 Tryz.st189 Tryz.ld194 Tryz.st194 Tryz.ld197 Tryz.st197 Tryz.ld219 Tryz.st219 Tryz.ld224 Tryz.st224 Tryz.ld230 Tryz.st230 Tryz.ld235 Tryz.st235 Tryz.ld243 Tryz.st243 Tryz.ld247 Tryz.st247 Tryz.ld252 Tryz.st252 Tryz.ld258 Tryz.st258 Tryz.al153 Tryz.al255 Tryz.al256 Tryz.al129 Tryz.al152 Tryz.al31 Tryz.al46 Tryz.al52 Tryz.al54 Tryz.al60 Tryz.al70 Tryz.al74 Tryz.al93 Tryz.al141 Tryz.al151 Tryz.al170 Tryz.al186 Tryz.al189 Tryz.al194 Tryz.al197 Tryz.al219 Tryz.al224 Tryz.al230 Tryz.al235 Tryz.al243 Tryz.al247 Tryz.al252 Tryz.al258
attribute [local go_sem] Request.length_enc Request.ok_enc Request.all_get Request.all_set Request.kind_get Request.kind_set Request.blob_get Request.blob_set Request.items_get Request.items_set Request.pred_get Request.pred_set Request.slots_get Request.slots_set Trace.length_enc Trace.ok_enc Trace.all_get Trace.all_set Trace.op_get Trace.op_set Trace.calls_get Trace.calls_set Item.length_enc Item.ok_enc Item.all_get Item.all_set Item.del_get Item.del_set Item.pred_get Item.pred_set Item.args_get Item.args_set Reply.length_enc Reply.ok_enc Reply.all_get Reply.all_set Reply.code_get Reply.code_set Reply.kind_get Reply.kind_set Reply.index_get Reply.index_set Reply.yes_get Reply.yes_set Reply.preds_get Reply.preds_set Reply.rules_get Reply.rules_set Reply.arity_get Reply.arity_set Reply.rows_get Reply.rows_set Reply.fact_get Reply.fact_set Reply.fact_del_get Reply.fact_del_set Reply.fact_pred_get Reply.fact_pred_set Reply.fact_args_get Reply.fact_args_set GEntry.length_enc GEntry.ok_enc GEntry.all_get GEntry.all_set GEntry.seq_get GEntry.seq_set GEntry.kind_get GEntry.kind_set GEntry.code_get GEntry.code_set GOp.length_enc GOp.ok_enc GOp.all_get GOp.all_set GOp.kind_get GOp.kind_set GOp.raw_get GOp.raw_set Reader.length_enc Reader.ok_enc Reader.all_get Reader.all_set Reader.buf_get Reader.buf_set Reader.at__get Reader.at__set Slot.length_enc Slot.ok_enc Slot.all_get Slot.all_set Slot.bound_get Slot.bound_set Slot.name_get Slot.name_set Session.length_enc Session.ok_enc Session.all_get Session.all_set Session.svc_get Session.svc_set Session.buf_get Session.buf_set Session.closed_get Session.closed_set GProgram.length_enc GProgram.ok_enc GProgram.all_get GProgram.all_set GProgram.pool_get GProgram.pool_set GProgram.preds_get GProgram.preds_set GProgram.rules_get GProgram.rules_set GProgram.strata_get GProgram.strata_set PredInfo.length_enc PredInfo.ok_enc PredInfo.all_get PredInfo.all_set PredInfo.arity_get PredInfo.arity_set PredInfo.base_get PredInfo.base_set PredInfo.stratum_get PredInfo.stratum_set Change.length_enc Change.ok_enc Change.all_get Change.all_set Change.del_get Change.del_set Change.pred_get Change.pred_set Change.t_get Change.t_set Store.length_enc Store.ok_enc Store.all_get Store.all_set Store.names_get Store.names_set Store.arity_get Store.arity_set Store.rows_get Store.rows_set Src.length_enc Src.ok_enc Src.all_get Src.all_set Src.b_get Src.b_set Src.at__get Src.at__set Atom.length_enc Atom.ok_enc Atom.all_get Atom.all_set Atom.pred_get Atom.pred_set Atom.args_get Atom.args_set GRule.length_enc GRule.ok_enc GRule.all_get GRule.all_set GRule.head_get GRule.head_set GRule.body_get GRule.body_set GRule.head_pred_get GRule.head_pred_set GRule.head_args_get GRule.head_args_set Cert.length_enc Cert.ok_enc Cert.all_get Cert.all_set Cert.names_get Cert.names_set Cert.nodes_get Cert.nodes_set Fact.length_enc Fact.ok_enc Fact.all_get Fact.all_set Fact.pred_get Fact.pred_set Fact.t_get Fact.t_set Literal.length_enc Literal.ok_enc Literal.all_get Literal.all_set Literal.neg_get Literal.neg_set Literal.atom_get Literal.atom_set Literal.atom_pred_get Literal.atom_pred_set Literal.atom_args_get Literal.atom_args_set Engine.length_enc Engine.ok_enc Engine.all_get Engine.all_set Engine.prog_get Engine.prog_set Engine.st_get Engine.st_set SrcCertm.length_enc SrcCertm.ok_enc SrcCertm.all_get SrcCertm.all_set SrcCertm.b_get SrcCertm.b_set SrcCertm.at__get SrcCertm.at__set GNode.length_enc GNode.ok_enc GNode.all_get GNode.all_set GNode.rule_get GNode.rule_set GNode.pred_get GNode.pred_set GNode.vals_get GNode.vals_set GNode.refs_get GNode.refs_set Term.length_enc Term.ok_enc Term.all_get Term.all_set Term.var_get Term.var_set Term.n_get Term.n_set Env.length_enc Env.ok_enc Env.all_get Env.all_set Env.val_get Env.val_set Env.set_get Env.set_set
attribute [local go_sem] size_put size_ext blk_put free_put blk_alloc free_alloc blk_drew free_drew blk_ext free_ext lookOr_some putOr_some segAt_some cellAt_some storeIn_some put_put put_alloc_new length_arr ok_arr_u8 ok_arr_u32 ok_arr_u64 ok_arr_i64 ok_arr_sl cellsV_agg cellsV_int cellsV_bool cellsV_string cellsV_pointer cellsV_slice cellsV_sl ok_int ok_bool ok_string ok_pointer ok_slice ok_sl toList_arr seg_arr set_arr nth_splice nth_splice0 seg_splice seg_splice0 splice_splice splice_splice0 length_splice_if
attribute [local go_sem ↓] execOp_box
attribute [local go_sem] box_run nth_arr_u8 put_arr_u8 blk_drewN free_drewN put_drewN blk_raw free_raw
theorem splice_set {C : List Value} {i : Nat} (v : Value) (h : i < C.length) : splice C i [v] = C.set i v := by
  unfold splice
  rw [List.set_eq_take_append_cons_drop, if_pos h]
  simp
/-- One thing appended to a labelled row; the bound is on the bytes. -/
theorem appLB {α : Type} {en : α → List Value} {sz bytes : Nat} {t e : TypeId} (hE : ElT en sz bytes t e)
    {B : Nat} {O : Own} {l : Lab} {W : World} (ty : TypeId) {a : Option Addr} {n c : Nat} {K : List α} (x : α) (h : RowL B O l W e sz (.slice a n c) K.length (K.flatMap en)) (hB : B ≤ W.heap.size) (hl : (K.length + 1) * bytes ≤ 140737488355328) (hl2 : K.length + 1 ≤ 1000000000000) (A : Array Value) (hA : A = (en x).toArray) (c1 : Nat) :
    ∃ a' c' W', (Builtin.append_ #[t, t] ty #[.slice a n c, .slice (some ⟨W.heap.size, 0, none⟩) 1 c1]).run Tryz.prog (W.alloc (.cells A e)) = .ok (.slice a' (n + 1) c') W' ∧ RowL B (lab O W.heap.size l) l W' e sz (.slice a' (n + 1) c') (K ++ [x]).length ((K ++ [x]).flatMap en) ∧ Fr (fun y => y = l) O W (lab O W.heap.size l) W' := by
  subst hA
  have hx1 : W.Extends (W.alloc (.cells (en x).toArray e)) := extends_alloc (ext_Ext (Ext.refl _)) _
  have hrow := row_keep h.1 (fun k hk => hx1.block k (row_at h.1 k hk).2.1)
  obtain ⟨i, z, hi, hz, hsz', hby, hzc⟩ := hE.info
  have hg0 : blk (W.alloc (.cells (en x).toArray e)) W.heap.size = some (en x) := (blk_alloc _ _ _ _).trans (if_pos rfl)
  have hnews : ∀ j u, (en x)[j]? = some u → (W.alloc (.cells (en x).toArray e)).cell? ((⟨W.heap.size, 0, none⟩ : Addr).add j) = some u := fun j u hu => by
    rw [add_addr, cell_blk hg0, Nat.zero_add]
    exact hu
  have hone' : ∀ u ∈ en x, u.oneCell' = true := fun u hu => List.all_eq_true.1 (hE.one x) u hu
  obtain ⟨v', W', hr, h1, hg, _⟩ := run_append_own (P := Tryz.prog) (W.alloc (.cells (en x).toArray e)) B t ty e i _ sz bytes hE.und hi hz hsz' hby hzc hE.pos (.slice a n c) K.length _ hrow ⟨W.heap.size, 0, none⟩ 1 c1 (en x) (by rw [hE.len]; omega) hnews hone' (by simp only [maxLen]; omega) hl (Nat.le_trans hB hx1.size)
  have hbk := append_block_gen (P := Tryz.prog) (W.alloc (.cells (en x).toArray e)) B t ty e i _ sz bytes hE.und hi hz hsz' hby hzc hE.pos (.slice a n c) K.length _ hrow ⟨W.heap.size, 0, none⟩ 1 c1 (en x) (by rw [hE.len]; omega) hnews hone' (by simp only [maxLen]; omega) hl v' W' hr
  have ho : W'.ownsRow B e sz v' (K ++ [x]).length ((K ++ [x]).flatMap en) := by
    rw [List.length_append, List.flatMap_append]
    simpa using h1
  obtain ⟨a', c', rfl⟩ := row_val ho
  have hKn : K.length = n := (rw_own hE.len h.1).1.1
  have hm : (K ++ [x]).length = n + 1 := by rw [List.length_append, List.length_singleton, hKn]
  rw [hm] at hr ho hbk
  have hsz1 : W.heap.size ≤ (W.alloc (.cells (en x).toArray e)).heap.size := hx1.size
  refine ⟨a', c', W', hr, ⟨by rw [hm]; exact ho, fun k hk => ?_⟩, ?_⟩
  · rcases hbk with hbk | hbk
    · rw [hbk] at hk
      rw [lab_lt (row_at h.1 k hk).2.1]
      exact h.2 k hk
    · rw [hbk] at hk
      have : k = (W.alloc (.cells (en x).toArray e)).heap.size := (Option.some.inj hk).symm
      exact lab_ge (by omega)
  · have f1 := Fr.of_extends (L := fun y => y = l) (O := O) hx1
    refine ⟨hg.os.trans f1.os, hg.tape.trans f1.tape, hg.output.trans f1.output, Nat.le_trans hsz1 hg.size, fun k hk => lab_lt hk, fun k hk hn => ?_⟩
    exact (hg.block k (by omega) (fun e1 => hn (h.2 k e1.symm))).trans (hx1.block k hk)
theorem el53 : ElT MStep.enc 4 64 53 161 := by
  have info : ∃ i z, Tryz.prog.info? 161 = some i ∧ i.zero = some z ∧ i.size = 4 ∧ i.bytes = 64 ∧ z.cells.size = 4 := by
    have hq : (Tryz.prog.info? 161).map (fun i => (i.zero, i.size, i.bytes)) = some (some (.agg #[.int .i64 0, .slice none 0 0, .int .i64 0, .slice none 0 0]), 4, 64) := by kernel_rfl
    cases hx : Tryz.prog.info? 161 with
    | none => rw [hx] at hq; simp at hq
    | some i =>
      rw [hx] at hq
      simp only [Option.map_some, Option.some.injEq, Prod.mk.injEq] at hq
      exact ⟨i, _, rfl, hq.1, hq.2.1, hq.2.2, by rfl⟩
  exact ⟨Tryz.underlying53, info, MStep.len, MStep.one, by omega, by omega⟩
/-- Digits and values as cells. -/
def digC (dg : List Nat) : List Value := dg.map fun (d : Nat) => Value.int .i64 (d : Int)
def strC (vals : List (List UInt8)) : List Value := vals.map fun x => Value.string ⟨x.toArray⟩
theorem digC_len (dg : List Nat) : (digC dg).length = dg.length := List.length_map ..
theorem strC_len (vals : List (List UInt8)) : (strC vals).length = vals.length := List.length_map ..
theorem digC_at {dg : List Nat} {i d : Nat} (h : dg[i]? = some d) : nth (digC dg) i = some (.int .i64 (d : Int)) := by
  unfold nth digC
  rw [List.getElem?_map, h]; rfl
theorem digC_set {dg : List Nat} {i : Nat} (d : Nat) (h : i < dg.length) : splice (digC dg) i [.int .i64 (d : Int)] = digC (dg.set i d) := by
  rw [splice_set _ (by rw [digC_len]; exact h)]
  unfold digC
  rw [List.map_set]
theorem strC_set {vals : List (List UInt8)} {i : Nat} (x : List UInt8) (h : i < vals.length) : splice (strC vals) i [.string ⟨x.toArray⟩] = strC (vals.set i x) := by
  rw [splice_set _ (by rw [strC_len]; exact h)]
  unfold strC
  rw [List.map_set]
theorem strC_rw {W : World} {b : Nat} {vals : List (List UInt8)} (h : blk W b = some (strC vals)) : Rw encS 1 W (some ⟨b, 0, none⟩) vals.length vals := by
  refine ⟨rfl, fun i x hx => ⟨b, _, rfl, h, by rw [strC_len]; omega, ?_⟩⟩
  rw [Nat.mul_one]
  have h1 : nth (strC vals) i = some (.string ⟨x.toArray⟩) := by
    unfold nth strC
    rw [List.getElem?_map, hx]; rfl
  exact seg_nth1 h1
/-- The state of the search for consequences: the rule, the digits, the values and what was found. -/
structure CS (W0 : World) (b11 bd bw : Nat) (XE : List Value) (O : Own) (V : World) (dg : List Nat) (vals : List (List UInt8)) (fa : Option Addr) (fn fc : Nat) (K : List MStep) (S : List NStep) : Prop where
  ext : W0.Extends V
  rb : blk V b11 = some XE
  ro : O b11 = .no
  db : blk V bd = some (digC dg)
  df : free V bd = true
  dO : O bd = .a 9 1
  wb : blk V bw = some (strC vals)
  wf : free V bw = true
  wO : O bw = .a 9 2
  dl : W0.heap.size ≤ bd
  wl : W0.heap.size ≤ bw
  lo : ∀ k, k < W0.heap.size → O k = .a 9 9
  row : RowL W0.heap.size O (.a 9 3) V 161 4 (.slice fa fn fc) K.length (K.flatMap MStep.enc)
  len : S.length = K.length
  con : ∀ (i : Nat) (k : MStep) (s : NStep), K[i]? = some k → S[i]? = some s → StC (core O V) k s
theorem CS.fr {W0 : World} {b11 bd bw : Nat} {XE : List Value} {O O' : Own} {V V' : World} {dg : List Nat} {vals : List (List UInt8)} {fa : Option Addr} {fn fc : Nat} {K : List MStep} {S : List NStep} (h : CS W0 b11 bd bw XE O V dg vals fa fn fc K S) (hF : Fr (fun _ => False) O V O' V') : CS W0 b11 bd bw XE O' V' dg vals fa fn fc K S := by
  have hx : W0.Extends V' := by
    refine ext_of (hF.os.trans h.ext.os) (hF.tape.trans h.ext.tape) (hF.output.trans h.ext.output) (Nat.le_trans h.ext.size hF.size) (fun k hk => ?_)
    exact (hF.block k (Nat.lt_of_lt_of_le hk h.ext.size) (fun e => e)).trans (h.ext.block k hk)
  refine ⟨hx, hF.blk h.rb (fun e => e), (hF.keep _ (blk_lt h.rb)).trans h.ro, hF.blk h.db (fun e => e), hF.free h.db h.df (fun e => e), (hF.keep _ (blk_lt h.db)).trans h.dO, hF.blk h.wb (fun e => e), hF.free h.wb h.wf (fun e => e), (hF.keep _ (blk_lt h.wb)).trans h.wO, h.dl, h.wl, fun k hk => (hF.keep k (Nat.lt_of_lt_of_le hk h.ext.size)).trans (h.lo k hk), h.row.fr hF (fun e => e), h.len, fun i k s h1 h2 => (h.con i k s h1 h2).sub (Sub.cores fun b C hb ho => ⟨hF.blk hb (fun e => e), (hF.keep b (blk_lt hb)).trans ho⟩)⟩
theorem CS.grow {W0 : World} {b11 bd bw : Nat} {XE : List Value} {O : Own} {V V' : World} {dg : List Nat} {vals : List (List UInt8)} {fa : Option Addr} {fn fc : Nat} {K : List MStep} {S : List NStep} (h : CS W0 b11 bd bw XE O V dg vals fa fn fc K S) (hx : V.Extends V') : CS W0 b11 bd bw XE (lab O V.heap.size .no) V' dg vals fa fn fc K S := h.fr (Fr.grow hx)
theorem CS.drewN {W0 : World} {b11 bd bw : Nat} {XE : List Value} {O : Own} {V : World} {dg : List Nat} {vals : List (List UInt8)} {fa : Option Addr} {fn fc : Nat} {K : List MStep} {S : List NStep} (h : CS W0 b11 bd bw XE O V dg vals fa fn fc K S) (n : Nat) : CS W0 b11 bd bw XE O (V.drewN n) dg vals fa fn fc K S := h.fr ((Fr.refl _ _ _).drewN n)
theorem CS.setD {W0 : World} {b11 bd bw : Nat} {XE : List Value} {O : Own} {V : World} {dg : List Nat} {vals : List (List UInt8)} {fa : Option Addr} {fn fc : Nat} {K : List MStep} {S : List NStep} (h : CS W0 b11 bd bw XE O V dg vals fa fn fc K S) (dg' : List Nat) : CS W0 b11 bd bw XE O (put V bd (digC dg')) dg' vals fa fn fc K S := by
  have hF : Fr (fun y => y = .a 9 1) O V O (put V bd (digC dg')) := (Fr.refl _ _ _).put (L := fun l => l = .a 9 1) h.dO _
  have hne : ∀ {b : Nat} {l : Lab}, O b = l → l ≠ .a 9 1 → ¬ (O b = .a 9 1) := fun h1 h2 h3 => h2 (h1.symm.trans h3)
  refine ⟨ext_put_new h.ext h.dl _, hF.blk h.rb (hne h.ro (fun e => by cases e)), h.ro, by rw [blk_put, if_pos rfl, h.db]; rfl, by rw [free_put]; exact h.df, h.dO, hF.blk h.wb (hne h.wO (fun e => by cases e)), hF.free h.wb h.wf (hne h.wO (fun e => by cases e)), h.wO, h.dl, h.wl, h.lo, h.row.fr hF (fun e => by cases e), h.len, fun i k s h1 h2 => (h.con i k s h1 h2).sub (Sub.cores fun b C hb ho => ⟨hF.blk hb (hne ho (fun e => by cases e)), ho⟩)⟩
theorem CS.setW {W0 : World} {b11 bd bw : Nat} {XE : List Value} {O : Own} {V : World} {dg : List Nat} {vals : List (List UInt8)} {fa : Option Addr} {fn fc : Nat} {K : List MStep} {S : List NStep} (h : CS W0 b11 bd bw XE O V dg vals fa fn fc K S) (vals' : List (List UInt8)) : CS W0 b11 bd bw XE O (put V bw (strC vals')) dg vals' fa fn fc K S := by
  have hF : Fr (fun y => y = .a 9 2) O V O (put V bw (strC vals')) := (Fr.refl _ _ _).put (L := fun l => l = .a 9 2) h.wO _
  have hne : ∀ {b : Nat} {l : Lab}, O b = l → l ≠ .a 9 2 → ¬ (O b = .a 9 2) := fun h1 h2 h3 => h2 (h1.symm.trans h3)
  refine ⟨ext_put_new h.ext h.wl _, hF.blk h.rb (hne h.ro (fun e => by cases e)), h.ro, hF.blk h.db (hne h.dO (fun e => by cases e)), hF.free h.db h.df (hne h.dO (fun e => by cases e)), h.dO, by rw [blk_put, if_pos rfl, h.wb]; rfl, by rw [free_put]; exact h.wf, h.wO, h.dl, h.wl, h.lo, h.row.fr hF (fun e => by cases e), h.len, fun i k s h1 h2 => (h.con i k s h1 h2).sub (Sub.cores fun b C hb ho => ⟨hF.blk hb (hne ho (fun e => by cases e)), ho⟩)⟩
theorem CS.steps {W0 : World} {b11 bd bw : Nat} {XE : List Value} {O : Own} {V : World} {dg : List Nat} {vals : List (List UInt8)} {fa : Option Addr} {fn fc : Nat} {K : List MStep} {S : List NStep} (h : CS W0 b11 bd bw XE O V dg vals fa fn fc K S) : StepsAt V fa fn S ∧ fn = S.length := by
  have h1 := (h.row.rw MStep.len).1
  have h2 : fn = S.length := by rw [h.len]; exact h1.1.symm
  exact ⟨⟨K, h1, h2.symm, fun i k s e1 e2 => (h.con i k s e1 e2).sub (Sub.core _ _)⟩, h2⟩
/-- A step is added. -/
theorem CS.app {W0 : World} {b11 bd bw : Nat} {XE : List Value} {O : Own} {V : World} {dg : List Nat} {vals : List (List UInt8)} {fa : Option Addr} {fn fc : Nat} {K : List MStep} {S : List NStep} (h : CS W0 b11 bd bw XE O V dg vals fa fn fc K S) (k : MStep) (s : NStep) (hs : StC (core O V) k s) (hl : S.length ≤ 280000000000) (A : Array Value) (hA : A = k.enc.toArray) : ∃ a' c' V' O', (Builtin.append_ #[53, 53] 53 #[.slice fa fn fc, .slice (some ⟨V.heap.size, 0, none⟩) 1 1]).run Tryz.prog (V.alloc (.cells A 161)) = .ok (.slice a' (fn + 1) c') V' ∧ CS W0 b11 bd bw XE O' V' dg vals a' (fn + 1) c' (K ++ [k]) (S ++ [s]) ∧ Sub (core O V) (core O' V') := by
  have hKl := h.len
  obtain ⟨a', c', V', hrun, hR, hF⟩ := appLB el53 53 k h.row h.ext.size (by omega) (by omega) A hA 1
  have hne : ∀ {b : Nat} {l : Lab}, O b = l → l ≠ .a 9 3 → ¬ (O b = .a 9 3) := fun h1 h2 h3 => h2 (h1.symm.trans h3)
  have hsub : Sub (core O V) (core (lab O V.heap.size (.a 9 3)) V') := Sub.cores fun b C hb ho => ⟨hF.blk hb (hne ho (fun e => by cases e)), (hF.keep b (blk_lt hb)).trans ho⟩
  have hx : W0.Extends V' := by
    refine ext_of (hF.os.trans h.ext.os) (hF.tape.trans h.ext.tape) (hF.output.trans h.ext.output) (Nat.le_trans h.ext.size hF.size) (fun b hb => ?_)
    have hbV : b < V.heap.size := Nat.lt_of_lt_of_le hb h.ext.size
    exact (hF.block b hbV (hne (h.lo b hb) (fun e => by cases e))).trans (h.ext.block b hb)
  refine ⟨a', c', V', _, hrun, ⟨hx, hF.blk h.rb (hne h.ro (fun e => by cases e)), (hF.keep _ (blk_lt h.rb)).trans h.ro, hF.blk h.db (hne h.dO (fun e => by cases e)), hF.free h.db h.df (hne h.dO (fun e => by cases e)), (hF.keep _ (blk_lt h.db)).trans h.dO, hF.blk h.wb (hne h.wO (fun e => by cases e)), hF.free h.wb h.wf (hne h.wO (fun e => by cases e)), (hF.keep _ (blk_lt h.wb)).trans h.wO, h.dl, h.wl, fun b hb => (hF.keep b (Nat.lt_of_lt_of_le hb h.ext.size)).trans (h.lo b hb), hR, by rw [List.length_append, List.length_append, hKl]; rfl, fun i k' s' h1 h2 => ?_⟩, hsub⟩
  by_cases hi : i < K.length
  · rw [List.getElem?_append_left hi] at h1
    rw [List.getElem?_append_left (by omega)] at h2
    exact (h.con i k' s' h1 h2).sub hsub
  · rw [List.getElem?_append_right (by omega)] at h1
    rw [List.getElem?_append_right (by omega), hKl] at h2
    have e0 : i - K.length = 0 := by
      by_cases e3 : i - K.length = 0
      · exact e3
      · rw [List.getElem?_eq_none (by rw [List.length_singleton]; omega)] at h1; cases h1
    rw [e0] at h1 h2
    rw [← Option.some.inj h1, ← Option.some.inj h2]
    exact hs.sub hsub
end Go.Proofs.Qxb6500787aGreat
