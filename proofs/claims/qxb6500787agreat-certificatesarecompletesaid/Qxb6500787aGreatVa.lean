
import Derived.Test.Qxb6500787aGreatTv
import Derived.Test.Qxb6500787aGreatUs
import Derived.StillTailTactics
import Derived.Deep.QuietTactic
import Derived.BigQuiet
import Derived.Deep.RegionHeld
import Derived.Deep.CutRange
import Derived.Laws.ResultCell
import Derived.Laws.Rows
import Derived.DeepKeys
import Derived.DataBytes
import Derived.Laws.StructEq
import Derived.Laws.AppendOwn
import Derived.Laws.MakeOwn
import Derived.Lib.AppendStr
set_option linter.unusedSimpArgs false
set_option linter.unusedVariables false
namespace Go.Proofs.Qxb6500787aGreat
open Go.RowKit Go.Blk
attribute [local go_sem ↓] execOp_load execOp_store execOp_alloc
attribute [local go_sem] Tryz.ld26 Tryz.st26 Tryz.ld27 Tryz.st27 Tryz.ld28 Tryz.st28 Tryz.ld3 Tryz.st3 Tryz.ld29 Tryz.st29 Tryz.ld44 Tryz.st44 Tryz.ld4 Tryz.st4 Tryz.ld50 Tryz.st50 Tryz.ld32 Tryz.st32 Tryz.ld49 Tryz.st49 Tryz.ld68 Tryz.st68 Tryz.ld9 Tryz.st9 Tryz.ld40 Tryz.st40 Tryz.ld138 Tryz.st138 Tryz.ld139 Tryz.st139 Tryz.ld146 Tryz.st146 Tryz.ld183 Tryz.st183 Tryz.ld184 Tryz.st184 Tryz.ld192 Tryz.st192 Tryz.ld195 Tryz.st195 Tryz.ld217 Tryz.st217 Tryz.ld159 Tryz.st159 Tryz.ld142 Tryz.st142 Tryz.ld2 Tryz.st2 Tryz.ld5 Tryz.st5 Tryz.ld12 Tryz.st12 Tryz.ld21 Tryz.st21 Tryz.ld22 Tryz.st22 Tryz.ld24 Tryz.st24 Tryz.ld58 Tryz.st58 Tryz.ld97 Tryz.st97 Tryz.ld101 Tryz.st101 Tryz.ld116 Tryz.st116 Tryz.ld121 Tryz.st121 Tryz.ld135 Tryz.st135 Tryz.ld136 Tryz.st136 Tryz.ld143 Tryz.st143 Tryz.ld148 Tryz.st148 Tryz.ld154 Tryz.st154 Tryz.ld173 Tryz.st173 Tryz.ld187 Tryz.st187 Tryz.ld222 Tryz.st222 Tryz.ld241 Tryz.st241 Tryz.ld248 Tryz.st248 Tryz.ld268 Tryz.st268 Tryz.ld272 Tryz.st272 Tryz.ld153 Tryz.st153 Tryz.ld255 Tryz.st255 Tryz.ld256 Tryz.st256 Tryz.ld129 Tryz.st129 Tryz.ld152 Tryz.st152 Tryz.ld31 Tryz.st31 Tryz.ld46 Tryz.st46 Tryz.ld52 Tryz.st52 Tryz.ld54 Tryz.st54 Tryz.ld60 Tryz.st60 Tryz.ld70 Tryz.st70 Tryz.ld74 Tryz.st74 Tryz.ld93 Tryz.st93 Tryz.ld141 Tryz.st141 Tryz.ld151 Tryz.st151 Tryz.ld170 Tryz.st170 Tryz.ld186 Tryz.st186 Tryz.ld189 Tryz.st189 Tryz.ld194 Tryz.st194 Tryz.ld197 Tryz.st197 Tryz.ld219 Tryz.st219 Tryz.ld224 Tryz.st224 Tryz.ld230 Tryz.st230 Tryz.ld235 Tryz.st235 Tryz.ld243 Tryz.st243 Tryz.ld247 Tryz.st247 Tryz.ld252 Tryz.st252 Tryz.ld258 Tryz.st258 Tryz.al153 Tryz.al255 Tryz.al256 Tryz.al129 Tryz.al152 Tryz.al31 Tryz.al46 Tryz.al52 Tryz.al54 Tryz.al60 Tryz.al70 Tryz.al74 Tryz.al93 Tryz.al141 Tryz.al151 Tryz.al170 Tryz.al186 Tryz.al189 Tryz.al194 Tryz.al197 Tryz.al219 Tryz.al224 Tryz.al230 Tryz.al235 Tryz.al243 Tryz.al247 Tryz.al252 Tryz.al258
attribute [local go_sem] Request.length_enc Request.ok_enc Request.all_get Request.all_set Request.kind_get Request.kind_set Request.blob_get Request.blob_set Request.items_get Request.items_set Request.pred_get Request.pred_set Request.slots_get Request.slots_set Trace.length_enc Trace.ok_enc Trace.all_get Trace.all_set Trace.op_get Trace.op_set Trace.calls_get Trace.calls_set Item.length_enc Item.ok_enc Item.all_get Item.all_set Item.del_get Item.del_set Item.pred_get Item.pred_set Item.args_get Item.args_set Reply.length_enc Reply.ok_enc Reply.all_get Reply.all_set Reply.code_get Reply.code_set Reply.kind_get Reply.kind_set Reply.index_get Reply.index_set Reply.yes_get Reply.yes_set Reply.preds_get Reply.preds_set Reply.rules_get Reply.rules_set Reply.arity_get Reply.arity_set Reply.rows_get Reply.rows_set Reply.fact_get Reply.fact_set Reply.fact_del_get Reply.fact_del_set Reply.fact_pred_get Reply.fact_pred_set Reply.fact_args_get Reply.fact_args_set GEntry.length_enc GEntry.ok_enc GEntry.all_get GEntry.all_set GEntry.seq_get GEntry.seq_set GEntry.kind_get GEntry.kind_set GEntry.code_get GEntry.code_set GOp.length_enc GOp.ok_enc GOp.all_get GOp.all_set GOp.kind_get GOp.kind_set GOp.raw_get GOp.raw_set Reader.length_enc Reader.ok_enc Reader.all_get Reader.all_set Reader.buf_get Reader.buf_set Reader.at__get Reader.at__set Slot.length_enc Slot.ok_enc Slot.all_get Slot.all_set Slot.bound_get Slot.bound_set Slot.name_get Slot.name_set Session.length_enc Session.ok_enc Session.all_get Session.all_set Session.svc_get Session.svc_set Session.buf_get Session.buf_set Session.closed_get Session.closed_set GProgram.length_enc GProgram.ok_enc GProgram.all_get GProgram.all_set GProgram.pool_get GProgram.pool_set GProgram.preds_get GProgram.preds_set GProgram.rules_get GProgram.rules_set GProgram.strata_get GProgram.strata_set PredInfo.length_enc PredInfo.ok_enc PredInfo.all_get PredInfo.all_set PredInfo.arity_get PredInfo.arity_set PredInfo.base_get PredInfo.base_set PredInfo.stratum_get PredInfo.stratum_set Change.length_enc Change.ok_enc Change.all_get Change.all_set Change.del_get Change.del_set Change.pred_get Change.pred_set Change.t_get Change.t_set Store.length_enc Store.ok_enc Store.all_get Store.all_set Store.names_get Store.names_set Store.arity_get Store.arity_set Store.rows_get Store.rows_set Src.length_enc Src.ok_enc Src.all_get Src.all_set Src.b_get Src.b_set Src.at__get Src.at__set Atom.length_enc Atom.ok_enc Atom.all_get Atom.all_set Atom.pred_get Atom.pred_set Atom.args_get Atom.args_set GRule.length_enc GRule.ok_enc GRule.all_get GRule.all_set GRule.head_get GRule.head_set GRule.body_get GRule.body_set GRule.head_pred_get GRule.head_pred_set GRule.head_args_get GRule.head_args_set Cert.length_enc Cert.ok_enc Cert.all_get Cert.all_set Cert.names_get Cert.names_set Cert.nodes_get Cert.nodes_set Fact.length_enc Fact.ok_enc Fact.all_get Fact.all_set Fact.pred_get Fact.pred_set Fact.t_get Fact.t_set Literal.length_enc Literal.ok_enc Literal.all_get Literal.all_set Literal.neg_get Literal.neg_set Literal.atom_get Literal.atom_set Literal.atom_pred_get Literal.atom_pred_set Literal.atom_args_get Literal.atom_args_set Engine.length_enc Engine.ok_enc Engine.all_get Engine.all_set Engine.prog_get Engine.prog_set Engine.st_get Engine.st_set SrcCertm.length_enc SrcCertm.ok_enc SrcCertm.all_get SrcCertm.all_set SrcCertm.b_get SrcCertm.b_set SrcCertm.at__get SrcCertm.at__set GNode.length_enc GNode.ok_enc GNode.all_get GNode.all_set GNode.rule_get GNode.rule_set GNode.pred_get GNode.pred_set GNode.vals_get GNode.vals_set GNode.refs_get GNode.refs_set Term.length_enc Term.ok_enc Term.all_get Term.all_set Term.var_get Term.var_set Term.n_get Term.n_set Env.length_enc Env.ok_enc Env.all_get Env.all_set Env.val_get Env.val_set Env.set_get Env.set_set
attribute [local go_sem] size_put size_ext blk_put free_put blk_alloc free_alloc blk_drew free_drew blk_ext free_ext lookOr_some putOr_some segAt_some cellAt_some storeIn_some put_put put_alloc_new length_arr ok_arr_u8 ok_arr_u32 ok_arr_u64 ok_arr_i64 ok_arr_sl cellsV_agg cellsV_int cellsV_bool cellsV_string cellsV_pointer cellsV_slice cellsV_sl ok_int ok_bool ok_string ok_pointer ok_slice ok_sl toList_arr seg_arr set_arr nth_splice nth_splice0 seg_splice seg_splice0 splice_splice splice_splice0 length_splice_if
attribute [local go_sem ↓] execOp_box
attribute [local go_sem] box_run nth_arr_u8 put_arr_u8 blk_drewN free_drewN put_drewN blk_raw free_raw
/-- A reply with an empty body. -/
def repZ (code kind index : Int) : Reply := ⟨code, kind, index, false, 0, 0, 0, ⟨none, 0, 0⟩, ⟨false, 0, ⟨none, 0, 0⟩⟩⟩
theorem build54_lit (w : World) (a b c : Int) : (buildOp 69 #[(0, .int .i64 a), (1, .int .i64 b), (2, .int .i64 c)]).run Tryz.prog w = .ok (.value (.agg (Reply.enc (repZ a b c)).toArray)) w := by kernel_rfl
attribute [local go_sem ↓] execOp_build
set_option maxRecDepth 20000 in
theorem refuse_any (W : World) (kind code : Int) : Calls Tryz.prog 50 #[.int .i64 kind, .int .i64 code] W fun e V => e = .returned (.agg (Reply.enc (repZ code kind (-1))).toArray) ∧ W.Extends V := by
  obtain ⟨Q, hQ⟩ : ∃ Q : Ending → World → Prop, Q = fun e V => e = .returned (.agg (Reply.enc (repZ code kind (-1))).toArray) ∧ W.Extends V := ⟨_, rfl⟩
  rw [← hQ]
  have HQ := hid_of hQ
  obtain ⟨RE, hRE⟩ : ∃ RE, RE = Reply.enc (repZ code kind (-1)) := ⟨_, rfl⟩
  have HP : Hid (∀ C, Q (.returned (.agg RE.toArray)) (put (W.alloc (.cells C 69)) W.heap.size RE)) := fun C => by
    rw [HQ.out, hRE]
    exact ⟨rfl, extends_put (extends_alloc (ext_Ext (Ext.refl _)) _) (Nat.le_refl _) _⟩
  have hb : ∀ w, (buildOp 69 #[(0, .int .i64 code), (1, .int .i64 kind), (2, .int .i64 (-1))]).run Tryz.prog w = .ok (.value (.agg RE.toArray)) w := fun w => by rw [hRE]; exact build54_lit w _ _ _
  have rl : RE.length = 11 := by rw [hRE]; exact Reply.length_enc _
  have ro : okCells 11 RE = true := by rw [hRE]; exact Reply.ok_enc _
  have rs : splice Reply.zero.enc 0 RE = RE := by rw [hRE]; exact Reply.all_set _ _
  have rz : Reply.zero.enc.length = 11 := Reply.length_enc _
  clear hQ hRE
  go_enter Tryz.func50, Tryz.ntmps50
  go_wp2_with fail
  first
    | (refine ret_cell (C := RE) rfl rfl ?_ (by kernel_rfl) (by rw [rl]; kernel_rfl) rfl (HP.out _)
       rw [blk_put, if_pos rfl, blk_alloc, if_pos rfl]; rfl)
    | (have HP2 : Hid (Q (.returned (.agg RE.toArray)) (W.alloc (.cells RE.toArray 69))) := by
         show Q _ _
         have h9 := HP.out #[]
         rw [put_alloc_new] at h9
         exact h9
       refine ret_cell (C := RE) rfl rfl ?_ (by kernel_rfl) (by rw [rl]; kernel_rfl) rfl HP2.out
       rw [blk_alloc, if_pos rfl])
set_option maxRecDepth 20000 in
theorem accept_any (W : World) (kind : Int) : Calls Tryz.prog 130 #[.int .i64 kind] W fun e V => e = .returned (.agg (Reply.enc (repZ 0 kind (-1))).toArray) ∧ W.Extends V := by
  obtain ⟨Q, hQ⟩ : ∃ Q : Ending → World → Prop, Q = fun e V => e = .returned (.agg (Reply.enc (repZ 0 kind (-1))).toArray) ∧ W.Extends V := ⟨_, rfl⟩
  rw [← hQ]
  have HQ := hid_of hQ
  obtain ⟨RE, hRE⟩ : ∃ RE, RE = Reply.enc (repZ 0 kind (-1)) := ⟨_, rfl⟩
  have HP : Hid (∀ C, Q (.returned (.agg RE.toArray)) (put (W.alloc (.cells C 69)) W.heap.size RE)) := fun C => by
    rw [HQ.out, hRE]
    exact ⟨rfl, extends_put (extends_alloc (ext_Ext (Ext.refl _)) _) (Nat.le_refl _) _⟩
  have hb : ∀ w, (buildOp 69 #[(0, .int .i64 0), (1, .int .i64 kind), (2, .int .i64 (-1))]).run Tryz.prog w = .ok (.value (.agg RE.toArray)) w := fun w => by rw [hRE]; exact build54_lit w _ _ _
  have rl : RE.length = 11 := by rw [hRE]; exact Reply.length_enc _
  have ro : okCells 11 RE = true := by rw [hRE]; exact Reply.ok_enc _
  have rs : splice Reply.zero.enc 0 RE = RE := by rw [hRE]; exact Reply.all_set _ _
  have rz : Reply.zero.enc.length = 11 := Reply.length_enc _
  clear hQ hRE
  go_enter Tryz.func130, Tryz.ntmps130
  go_wp2_with fail
  first
    | (refine ret_cell (C := RE) rfl rfl ?_ (by kernel_rfl) (by rw [rl]; kernel_rfl) rfl (HP.out _)
       rw [blk_put, if_pos rfl, blk_alloc, if_pos rfl]; rfl)
    | (have HP2 : Hid (Q (.returned (.agg RE.toArray)) (W.alloc (.cells RE.toArray 69))) := by
         show Q _ _
         have h9 := HP.out #[]
         rw [put_alloc_new] at h9
         exact h9
       refine ret_cell (C := RE) rfl rfl ?_ (by kernel_rfl) (by rw [rl]; kernel_rfl) rfl HP2.out
       rw [blk_alloc, if_pos rfl])
set_option maxRecDepth 20000 in
theorem refuseAt_any (W : World) (code ix : Int) : Calls Tryz.prog 138 #[.int .i64 code, .int .i64 ix] W fun e V => e = .returned (.agg (Reply.enc (repZ code 4 ix)).toArray) ∧ W.Extends V := by
  obtain ⟨Q, hQ⟩ : ∃ Q : Ending → World → Prop, Q = fun e V => e = .returned (.agg (Reply.enc (repZ code 4 ix)).toArray) ∧ W.Extends V := ⟨_, rfl⟩
  rw [← hQ]
  have HQ := hid_of hQ
  obtain ⟨RE, hRE⟩ : ∃ RE, RE = Reply.enc (repZ code 4 ix) := ⟨_, rfl⟩
  have HP : Hid (∀ C, Q (.returned (.agg RE.toArray)) (put (W.alloc (.cells C 69)) W.heap.size RE)) := fun C => by
    rw [HQ.out, hRE]
    exact ⟨rfl, extends_put (extends_alloc (ext_Ext (Ext.refl _)) _) (Nat.le_refl _) _⟩
  have hb : ∀ w, (buildOp 69 #[(0, .int .i64 code), (1, .int .i64 4), (2, .int .i64 ix)]).run Tryz.prog w = .ok (.value (.agg RE.toArray)) w := fun w => by rw [hRE]; exact build54_lit w _ _ _
  have rl : RE.length = 11 := by rw [hRE]; exact Reply.length_enc _
  have ro : okCells 11 RE = true := by rw [hRE]; exact Reply.ok_enc _
  have rs : splice Reply.zero.enc 0 RE = RE := by rw [hRE]; exact Reply.all_set _ _
  have rz : Reply.zero.enc.length = 11 := Reply.length_enc _
  clear hQ hRE
  go_enter Tryz.func138, Tryz.ntmps138
  go_wp2_with fail
  first
    | (refine ret_cell (C := RE) rfl rfl ?_ (by kernel_rfl) (by rw [rl]; kernel_rfl) rfl (HP.out _)
       rw [blk_put, if_pos rfl, blk_alloc, if_pos rfl]; rfl)
    | (have HP2 : Hid (Q (.returned (.agg RE.toArray)) (W.alloc (.cells RE.toArray 69))) := by
         show Q _ _
         have h9 := HP.out #[]
         rw [put_alloc_new] at h9
         exact h9
       refine ret_cell (C := RE) rfl rfl ?_ (by kernel_rfl) (by rw [rl]; kernel_rfl) rfl HP2.out
       rw [blk_alloc, if_pos rfl])

set_option maxRecDepth 20000 in
theorem lower_any {W : World} {bs : Nat} {CS : List Value} (hb : blk W bs = some CS) (hf : free W bs = true) (hl : CS.length = 253) {cl : Int} (hc : nth CS 3 = some (.int .i64 cl)) (h0 : 0 ≤ cl) (h1 : cl ≤ 1000) (op : Int) : Calls Tryz.prog 128 #[.pointer (some ⟨bs, 0, none⟩), .int .i64 op] W fun e V => e = .returned (.tuple #[]) ∧ Only W bs V (splice (splice CS 2 [.int .i64 op]) 3 [.int .i64 (cl + 1)]) := by
  obtain ⟨Q, hQ⟩ : ∃ Q : Ending → World → Prop, Q = fun e V => e = .returned (.tuple #[]) ∧ Only W bs V (splice (splice CS 2 [.int .i64 op]) 3 [.int .i64 (cl + 1)]) := ⟨_, rfl⟩
  rw [← hQ]
  have HQ := hid_of hQ
  have l2 : 2 < CS.length := by omega
  have l2' : 2 + 1 ≤ CS.length := by omega
  have m1 : (splice CS 2 [.int .i64 op]).length = CS.length := length_splice1 l2
  have c3 : nth (splice CS 2 [.int .i64 op]) 3 = some (.int .i64 cl) := by rw [splice_nth l2, if_neg (by omega)]; exact hc
  obtain ⟨C1, hC1⟩ : ∃ C1, C1 = splice CS 2 [.int .i64 op] := ⟨_, rfl⟩
  rw [← hC1] at m1 c3
  have k3 : 3 < C1.length := by omega
  have k3' : 3 + 1 ≤ C1.length := by omega
  have hsp : splice CS 2 [.int .i64 op] = C1 := hC1.symm
  have HP : Hid (Q (.returned (.tuple #[])) (put W bs (splice C1 3 [.int .i64 (cl + 1)]))) := by
    show Q _ _
    rw [HQ.out, hC1]
    have h9 := (Only.refl hb hf).put (C' := splice (splice CS 2 [.int .i64 op]) 3 [.int .i64 (cl + 1)])
    exact ⟨rfl, h9⟩
  clear hQ hC1 hl m1 hc
  go_enter Tryz.func128, Tryz.ntmps128
  go_wp2_with fail
  go_end0
  exact HP.out
/-- The checks of an update and of a reading. -/
def cuF (p : PP) (pr : Nat) (n : Nat) : Int := if p.preds.length ≤ pr then 11 else if (pI p pr).base = false then 12 else if (n : Int) ≠ (pI p pr).arity then 13 else 0
def crF (p : PP) (pr : Nat) (n : Nat) : Int := if p.preds.length ≤ pr then 11 else if (n : Int) ≠ (pI p pr).arity then 13 else 0
set_option maxRecDepth 40000 in
set_option maxHeartbeats 2000000 in
theorem checkRead_any {W : World} {bi : Nat} {p : PP} (hp : ProgC W bi p) (pr n : Nat) : Calls Tryz.prog 140 #[.pointer (some ⟨bi, 0, none⟩), .int .i64 (pr : Int), .int .i64 (n : Int)] W fun e V => e = .returned (.int .i64 (crF p pr n)) ∧ V = W := by
  obtain ⟨Q, hQ⟩ : ∃ Q : Ending → World → Prop, Q = fun e V => e = .returned (.int .i64 (crF p pr n)) ∧ V = W := ⟨_, rfl⟩
  rw [← hQ]
  have HQ := hid_of hQ
  obtain ⟨Ce, pa, pc, da, dc, ra, rc, z1, z2, z3, z4, z5, z6, z7, z8, z9⟩ := hp.cells
  obtain ⟨nd, hnd⟩ : ∃ nd, nd = p.preds.length := ⟨_, rfl⟩
  rw [← hnd] at z4
  have l1 : 1 < Ce.length := by omega
  have HRET : Hid (∀ v, crF p pr n = v → Q (.returned (.int .i64 v)) W) := fun v h => by
    rw [HQ.out]
    exact ⟨by rw [h], rfl⟩
  have HZ8 := hid_of z8
  have HND := hid_of hnd
  clear hQ HQ hp z2 z3 z5 z6 z7 z8 z9 hnd
  go_enter Tryz.func140, Tryz.ntmps140
  by_cases h1 : nd ≤ pr
  · have h1' : (nd : Int) ≤ (pr : Int) := by omega
    have HP := hid_of (HRET.out 11 (by unfold crF; rw [if_pos (by rw [← HND.out]; exact h1)]))
    go_wp2_with fail
    try go_ret
    exact HP.out
  have h1' : ¬ (nd : Int) ≤ (pr : Int) := by omega
  have q0 : (0 : Int) ≤ (pr : Int) := by omega
  have q1 : (pr : Int) < (nd : Int) := by omega
  have q2 : ((pr : Int)).toNat = pr := by omega
  obtain ⟨bd, Cd, d1, d2, d3, d4, d5, d6, d7⟩ := pred_at HZ8.out (pI_at (p := p) (q := pr) (by rw [← HND.out]; omega))
  subst d1
  have m0 : pr * 3 < Cd.length := by omega
  obtain ⟨ar, har⟩ : ∃ ar, ar = (pI p pr).arity := ⟨_, rfl⟩
  rw [← har] at d4
  have HCR : Hid (crF p pr n = if (n : Int) ≠ ar then 13 else 0) := by
    show _ = _
    unfold crF
    rw [if_neg (by rw [← HND.out]; exact h1), har]
  clear d3 d5 d6 d7 har
  by_cases h2 : (n : Int) = ar
  · have h2' : ((n : Int) != ar) = false := by simp [h2]
    have HP := hid_of (HRET.out 0 (by rw [HCR.out, if_neg (fun e => e h2)]))
    clear h2
    go_wp2_with fail
    try go_ret
    exact HP.out
  · have h2' : ((n : Int) != ar) = true := by simp [h2]
    have HP := hid_of (HRET.out 13 (by rw [HCR.out, if_pos h2]))
    clear h2
    go_wp2_with fail
    try go_ret
    exact HP.out
set_option maxRecDepth 40000 in
set_option maxHeartbeats 2000000 in
theorem checkUpdate_any {W : World} {bi : Nat} {p : PP} (hp : ProgC W bi p) (dl : Bool) (pr n : Nat) (aa : Option Addr) (ac : Nat) : Calls Tryz.prog 131 #[.pointer (some ⟨bi, 0, none⟩), .agg (itemE dl (pr : Int) aa n ac).toArray] W fun e V => e = .returned (.int .i64 (cuF p pr n)) ∧ W.Extends V := by
  obtain ⟨Q, hQ⟩ : ∃ Q : Ending → World → Prop, Q = fun e V => e = .returned (.int .i64 (cuF p pr n)) ∧ W.Extends V := ⟨_, rfl⟩
  rw [← hQ]
  have HQ := hid_of hQ
  obtain ⟨Ce, pa, pc, da, dc, ra, rc, z1, z2, z3, z4, z5, z6, z7, z8, z9⟩ := hp.cells
  obtain ⟨nd, hnd⟩ : ∃ nd, nd = p.preds.length := ⟨_, rfl⟩
  rw [← hnd] at z4
  have l1 : 1 < Ce.length := by omega
  have HRET : Hid (∀ V v, W.Extends V → cuF p pr n = v → Q (.returned (.int .i64 v)) V) := fun V v hx h => by
    rw [HQ.out]
    exact ⟨by rw [h], hx⟩
  have HZ8 := hid_of z8
  have HZ1 := hid_of z1
  have HND := hid_of hnd
  obtain ⟨IE, hIE⟩ : ∃ IE, IE = itemE dl (pr : Int) aa n ac := ⟨_, rfl⟩
  have i1 : nth IE 1 = some (.int .i64 (pr : Int)) := by rw [hIE]; rfl
  have i2 : nth IE 2 = some (.slice aa n ac) := by rw [hIE]; rfl
  have il : IE.length = 3 := by rw [hIE]; rfl
  rw [← hIE]
  have il1 : 1 < IE.length := by omega
  have il2 : 2 < IE.length := by omega
  clear hQ HQ hp z1 z2 z3 z5 z6 z7 z8 z9 hnd hIE il
  go_enter Tryz.func131, Tryz.ntmps131
  go_upto_region 1 with fail
  refine wp_world (fun V => W.Extends V ∧ blk V W.heap.size = some IE) ⟨extends_alloc (ext_Ext (Ext.refl _)) _, by rw [blk_alloc, if_pos rfl]⟩ ?_
  rintro V1 ⟨hx1, hb3⟩
  obtain ⟨b3, eb3⟩ : ∃ b3, b3 = W.heap.size := ⟨_, rfl⟩
  rw [← eb3] at hb3 ⊢
  clear eb3
  have z1 : blk V1 bi = some Ce := (hx1.blk (blk_lt HZ1.out)).trans HZ1.out
  have HX1 := hid_of hx1
  clear hx1
  by_cases h1 : nd ≤ pr
  · have h1' : (nd : Int) ≤ (pr : Int) := by omega
    have HP : Hid (∀ j, Q (.returned (.int .i64 11)) (V1.drewN j)) := fun j => HRET.out _ 11 (extends_drewN HX1.out j) (by unfold cuF; rw [if_pos (by rw [← HND.out]; exact h1)])
    go_quiet (fail)
    go_wp2_with fail
    try go_ret
    exact HP.out _
  have h1' : ¬ (nd : Int) ≤ (pr : Int) := by omega
  have q0 : (0 : Int) ≤ (pr : Int) := by omega
  have q1 : (pr : Int) < (nd : Int) := by omega
  have q2 : ((pr : Int)).toNat = pr := by omega
  obtain ⟨bd, Cd, d1, d2, d3, d4, d5, d6, d7⟩ := pred_at (HZ8.out.grow HX1.out) (pI_at (p := p) (q := pr) (by rw [← HND.out]; omega))
  subst d1
  have m0 : pr * 3 < Cd.length := by omega
  have m1 : pr * 3 + 1 < Cd.length := by omega
  obtain ⟨ar, har⟩ : ∃ ar, ar = (pI p pr).arity := ⟨_, rfl⟩
  obtain ⟨bb, hbb⟩ : ∃ bb, bb = (pI p pr).base := ⟨_, rfl⟩
  rw [← har] at d4
  rw [← hbb] at d5
  have HCU : Hid (cuF p pr n = if bb = false then 12 else if (n : Int) ≠ ar then 13 else 0) := by
    show _ = _
    unfold cuF
    rw [if_neg (by rw [← HND.out]; exact h1), har, hbb]
  clear d3 d6 d7 har hbb
  cases bb with
  | false =>
    have HP : Hid (∀ j, Q (.returned (.int .i64 12)) (V1.drewN j)) := fun j => HRET.out _ 12 (extends_drewN HX1.out j) (by rw [HCU.out, if_pos rfl])
    go_quiet (fail)
    go_upto_region 3 with fail
    go_quiet (fail)
    go_wp2_with fail
    try go_ret
    first | exact HP.out _ | (rw [drewN_drewN]; exact HP.out _)
  | true =>
  by_cases h2 : (n : Int) = ar
  · have h2' : ((n : Int) != ar) = false := by simp [h2]
    have HP : Hid (∀ V', V1.Extends V' → Q (.returned (.int .i64 0)) V') := fun V' hx => HRET.out _ 0 (HX1.out.trans hx) (by rw [HCU.out, if_neg (by decide), if_neg (fun e => e h2)])
    clear h2
    go_quiet (fail)
    go_upto_region 3 with fail
    go_quiet (fail)
    go_upto_region 5 with fail
    go_quiet (fail)
    go_wp2_with fail
    try go_ret
    refine HP.out _ ?_
    repeat (first | exact ext_Ext (Ext.refl _) | refine extends_drewN ?_ _)
  · have h2' : ((n : Int) != ar) = true := by simp [h2]
    have HP : Hid (∀ V', V1.Extends V' → Q (.returned (.int .i64 13)) V') := fun V' hx => HRET.out _ 13 (HX1.out.trans hx) (by rw [HCU.out, if_neg (by decide), if_pos h2])
    clear h2
    go_quiet (fail)
    go_upto_region 3 with fail
    go_quiet (fail)
    go_upto_region 5 with fail
    go_quiet (fail)
    go_wp2_with fail
    try go_ret
    refine HP.out _ ?_
    repeat (first | exact ext_Ext (Ext.refl _) | refine extends_drewN ?_ _)
end Go.Proofs.Qxb6500787aGreat
