import Derived.Test.Qxb6500787aGreatMq

import Derived.StillTailTactics
import Derived.Deep.QuietTactic
import Derived.BigQuiet
import Derived.Deep.RegionHeld
import Derived.Deep.CutRange
import Derived.Laws.ResultCell
import Derived.Laws.Rows
import Derived.DeepKeys
import Derived.DataBytes
import Derived.Laws.StructEq
import Derived.Laws.AppendOwn
import Derived.Laws.MakeOwn
import Derived.Lib.AppendStr
set_option linter.unusedSimpArgs false
set_option linter.unusedVariables false
namespace Go.Proofs.Qxb6500787aGreat
open Go.RowKit Go.Blk
attribute [local go_sem ↓] execOp_load execOp_store execOp_alloc
attribute [local go_sem] Tryz.ld26 Tryz.st26 Tryz.ld27 Tryz.st27 Tryz.ld28 Tryz.st28 Tryz.ld3 Tryz.st3 Tryz.ld29 Tryz.st29 Tryz.ld44 Tryz.st44 Tryz.ld4 Tryz.st4 Tryz.ld50 Tryz.st50 Tryz.ld32 Tryz.st32 Tryz.ld49 Tryz.st49 Tryz.ld68 Tryz.st68 Tryz.ld9 Tryz.st9 Tryz.ld40 Tryz.st40 Tryz.ld138 Tryz.st138 Tryz.ld139 Tryz.st139 Tryz.ld146 Tryz.st146 Tryz.ld183 Tryz.st183 Tryz.ld184 Tryz.st184 Tryz.ld192 Tryz.st192 Tryz.ld195 Tryz.st195 Tryz.ld217 Tryz.st217 Tryz.ld159 Tryz.st159 Tryz.ld142 Tryz.st142 Tryz.ld2 Tryz.st2 Tryz.ld5 Tryz.st5 Tryz.ld12 Tryz.st12 Tryz.ld21 Tryz.st21 Tryz.ld22 Tryz.st22 Tryz.ld24 Tryz.st24 Tryz.ld58 Tryz.st58 Tryz.ld97 Tryz.st97 Tryz.ld101 Tryz.st101 Tryz.ld116 Tryz.st116 Tryz.ld121 Tryz.st121 Tryz.ld135 Tryz.st135 Tryz.ld136 Tryz.st136 Tryz.ld143 Tryz.st143 Tryz.ld148 Tryz.st148 Tryz.ld154 Tryz.st154 Tryz.ld173 Tryz.st173 Tryz.ld187 Tryz.st187 Tryz.ld222 Tryz.st222 Tryz.ld241 Tryz.st241 Tryz.ld248 Tryz.st248 Tryz.ld268 Tryz.st268 Tryz.ld272 Tryz.st272 Tryz.ld153 Tryz.st153 Tryz.ld255 Tryz.st255 Tryz.ld256 Tryz.st256 Tryz.ld129 Tryz.st129 Tryz.ld152 Tryz.st152 Tryz.ld31 Tryz.st31 Tryz.ld46 Tryz.st46 Tryz.ld52 Tryz.st52 Tryz.ld54 Tryz.st54 Tryz.ld60 Tryz.st60 Tryz.ld70 Tryz.st70 Tryz.ld74 Tryz.st74 Tryz.ld93 Tryz.st93 Tryz.ld141 Tryz.st141 Tryz.ld151 Tryz.st151 Tryz.ld170 Tryz.st170 Tryz.ld186 Tryz.st186 Tryz.ld189 Tryz.st189 Tryz.ld194 Tryz.st194 Tryz.ld197 Tryz.st197 Tryz.ld219 Tryz.st219 Tryz.ld224 Tryz.st224 Tryz.ld230 Tryz.st230 Tryz.ld235 Tryz.st235 Tryz.ld243 Tryz.st243 Tryz.ld247 Tryz.st247 Tryz.ld252 Tryz.st252 Tryz.ld258 Tryz.st258 Tryz.al153 Tryz.al255 Tryz.al256 Tryz.al129 Tryz.al152 Tryz.al31 Tryz.al46 Tryz.al52 Tryz.al54 Tryz.al60 Tryz.al70 Tryz.al74 Tryz.al93 Tryz.al141 Tryz.al151 Tryz.al170 Tryz.al186 Tryz.al189 Tryz.al194 Tryz.al197 Tryz.al219 Tryz.al224 Tryz.al230 Tryz.al235 Tryz.al243 Tryz.al247 Tryz.al252 Tryz.al258
attribute [local go_sem] Request.length_enc Request.ok_enc Request.all_get Request.all_set Request.kind_get Request.kind_set Request.blob_get Request.blob_set Request.items_get Request.items_set Request.pred_get Request.pred_set Request.slots_get Request.slots_set Trace.length_enc Trace.ok_enc Trace.all_get Trace.all_set Trace.op_get Trace.op_set Trace.calls_get Trace.calls_set Item.length_enc Item.ok_enc Item.all_get Item.all_set Item.del_get Item.del_set Item.pred_get Item.pred_set Item.args_get Item.args_set Reply.length_enc Reply.ok_enc Reply.all_get Reply.all_set Reply.code_get Reply.code_set Reply.kind_get Reply.kind_set Reply.index_get Reply.index_set Reply.yes_get Reply.yes_set Reply.preds_get Reply.preds_set Reply.rules_get Reply.rules_set Reply.arity_get Reply.arity_set Reply.rows_get Reply.rows_set Reply.fact_get Reply.fact_set Reply.fact_del_get Reply.fact_del_set Reply.fact_pred_get Reply.fact_pred_set Reply.fact_args_get Reply.fact_args_set GEntry.length_enc GEntry.ok_enc GEntry.all_get GEntry.all_set GEntry.seq_get GEntry.seq_set GEntry.kind_get GEntry.kind_set GEntry.code_get GEntry.code_set GOp.length_enc GOp.ok_enc GOp.all_get GOp.all_set GOp.kind_get GOp.kind_set GOp.raw_get GOp.raw_set Reader.length_enc Reader.ok_enc Reader.all_get Reader.all_set Reader.buf_get Reader.buf_set Reader.at__get Reader.at__set Slot.length_enc Slot.ok_enc Slot.all_get Slot.all_set Slot.bound_get Slot.bound_set Slot.name_get Slot.name_set Session.length_enc Session.ok_enc Session.all_get Session.all_set Session.svc_get Session.svc_set Session.buf_get Session.buf_set Session.closed_get Session.closed_set GProgram.length_enc GProgram.ok_enc GProgram.all_get GProgram.all_set GProgram.pool_get GProgram.pool_set GProgram.preds_get GProgram.preds_set GProgram.rules_get GProgram.rules_set GProgram.strata_get GProgram.strata_set PredInfo.length_enc PredInfo.ok_enc PredInfo.all_get PredInfo.all_set PredInfo.arity_get PredInfo.arity_set PredInfo.base_get PredInfo.base_set PredInfo.stratum_get PredInfo.stratum_set Change.length_enc Change.ok_enc Change.all_get Change.all_set Change.del_get Change.del_set Change.pred_get Change.pred_set Change.t_get Change.t_set Store.length_enc Store.ok_enc Store.all_get Store.all_set Store.names_get Store.names_set Store.arity_get Store.arity_set Store.rows_get Store.rows_set Src.length_enc Src.ok_enc Src.all_get Src.all_set Src.b_get Src.b_set Src.at__get Src.at__set Atom.length_enc Atom.ok_enc Atom.all_get Atom.all_set Atom.pred_get Atom.pred_set Atom.args_get Atom.args_set GRule.length_enc GRule.ok_enc GRule.all_get GRule.all_set GRule.head_get GRule.head_set GRule.body_get GRule.body_set GRule.head_pred_get GRule.head_pred_set GRule.head_args_get GRule.head_args_set Cert.length_enc Cert.ok_enc Cert.all_get Cert.all_set Cert.names_get Cert.names_set Cert.nodes_get Cert.nodes_set Fact.length_enc Fact.ok_enc Fact.all_get Fact.all_set Fact.pred_get Fact.pred_set Fact.t_get Fact.t_set Literal.length_enc Literal.ok_enc Literal.all_get Literal.all_set Literal.neg_get Literal.neg_set Literal.atom_get Literal.atom_set Literal.atom_pred_get Literal.atom_pred_set Literal.atom_args_get Literal.atom_args_set Engine.length_enc Engine.ok_enc Engine.all_get Engine.all_set Engine.prog_get Engine.prog_set Engine.st_get Engine.st_set SrcCertm.length_enc SrcCertm.ok_enc SrcCertm.all_get SrcCertm.all_set SrcCertm.b_get SrcCertm.b_set SrcCertm.at__get SrcCertm.at__set GNode.length_enc GNode.ok_enc GNode.all_get GNode.all_set GNode.rule_get GNode.rule_set GNode.pred_get GNode.pred_set GNode.vals_get GNode.vals_set GNode.refs_get GNode.refs_set Term.length_enc Term.ok_enc Term.all_get Term.all_set Term.var_get Term.var_set Term.n_get Term.n_set Env.length_enc Env.ok_enc Env.all_get Env.all_set Env.val_get Env.val_set Env.set_get Env.set_set
attribute [local go_sem] size_put size_ext blk_put free_put blk_alloc free_alloc blk_drew free_drew blk_ext free_ext lookOr_some putOr_some segAt_some cellAt_some storeIn_some put_put put_alloc_new length_arr ok_arr_u8 ok_arr_u32 ok_arr_u64 ok_arr_i64 ok_arr_sl cellsV_agg cellsV_int cellsV_bool cellsV_string cellsV_pointer cellsV_slice cellsV_sl ok_int ok_bool ok_string ok_pointer ok_slice ok_sl toList_arr seg_arr set_arr nth_splice nth_splice0 seg_splice seg_splice0 splice_splice splice_splice0 length_splice_if
attribute [local go_sem ↓] execOp_box
attribute [local go_sem] box_run nth_arr_u8 put_arr_u8 blk_drewN free_drewN put_drewN blk_raw free_raw
def RePost (W : World) (p : PP) (fr to_ : Nat) (e : Ending) (V : World) : Prop := ∃ b : Bool, e = .returned (.bool b) ∧ rchP p fr to_ b ∧ W.Extends V
def zR1 (W : World) (v0 : Value) (to_ bs N : Nat) (p : PP) (X0 : List Bool × List Nat) (μ : Nat) (f : Nat → Value) (V : World) : Prop := f 0 = v0 ∧ f 2 = .int .i64 (to_ : Nat) ∧ f 7 = .slice (some ⟨bs, 0, none⟩) N N ∧ ∃ (ta : Option Addr) (tn tc : Nat), f 8 = .slice ta tn tc ∧ Hid (∃ O X, RS W bs O V X ta tn tc ∧ RcOk N X ∧ 2 * unS X.1 + X.2.length ≤ 2 * N + 1 ∧ μ = 2 * unS X.1 + X.2.length ∧ ∀ b, ReTo p to_ X.1 X.2 b → ReTo p to_ X0.1 X0.2 b)
def zR2 (W : World) (v0 : Value) (to_ bs N at_ : Nat) (p : PP) (X1 : List Bool × List Nat) (f : Nat → Value) (V : World) : Prop := f 0 = v0 ∧ f 2 = .int .i64 (to_ : Nat) ∧ f 7 = .slice (some ⟨bs, 0, none⟩) N N ∧ f 9 = .int .i64 (at_ : Nat) ∧ ∃ (i : Nat) (ta : Option Addr) (tn tc : Nat), i ≤ p.rules.length ∧ f 10 = .int .i64 (i : Nat) ∧ f 8 = .slice ta tn tc ∧ Hid (∃ O X, RS W bs O V X ta tn tc ∧ RcOk N X ∧ 2 * unS X.1 + X.2.length ≤ 2 * N + 1 ∧ X = (p.rules.take i).foldl (rchR at_) X1)
def zR3 (W : World) (v0 : Value) (to_ bs N at_ i : Nat) (r : PR) (X2 : List Bool × List Nat) (f : Nat → Value) (V : World) : Prop := f 0 = v0 ∧ f 2 = .int .i64 (to_ : Nat) ∧ f 7 = .slice (some ⟨bs, 0, none⟩) N N ∧ f 9 = .int .i64 (at_ : Nat) ∧ f 10 = .int .i64 (i : Nat) ∧ ∃ (k : Nat) (ta : Option Addr) (tn tc : Nat), k ≤ r.body.length ∧ f 11 = .int .i64 (k : Nat) ∧ f 8 = .slice ta tn tc ∧ Hid (∃ O X, RS W bs O V X ta tn tc ∧ RcOk N X ∧ 2 * unS X.1 + X.2.length ≤ 2 * N + 1 ∧ X = (r.body.take k).foldl (rchL r.head.pred at_) X2)
theorem unS_le (seen : List Bool) : unS seen ≤ seen.length := List.countP_le_length
attribute [local go_sem ↓] execOp_slice execOp_convert execOp_build execOp_bslice execOp_make
attribute [local go_sem] bslice180
set_option maxRecDepth 100000 in
theorem zframe115r (f : Nat → Value) : frameN 115 f = #[f 0, f 1, f 2, f 3, f 4, f 5, f 6, f 7, f 8, f 9, f 10, f 11, f 12, f 13, f 14, f 15, f 16, f 17, f 18, f 19, f 20, f 21, f 22, f 23, f 24, f 25, f 26, f 27, f 28, f 29, f 30, f 31, f 32, f 33, f 34, f 35, f 36, f 37, f 38, f 39, f 40, f 41, f 42, f 43, f 44, f 45, f 46, f 47, f 48, f 49, f 50, f 51, f 52, f 53, f 54, f 55, f 56, f 57, f 58, f 59, f 60, f 61, f 62, f 63, f 64, f 65, f 66, f 67, f 68, f 69, f 70, f 71, f 72, f 73, f 74, f 75, f 76, f 77, f 78, f 79, f 80, f 81, f 82, f 83, f 84, f 85, f 86, f 87, f 88, f 89, f 90, f 91, f 92, f 93, f 94, f 95, f 96, f 97, f 98, f 99, f 100, f 101, f 102, f 103, f 104, f 105, f 106, f 107, f 108, f 109, f 110, f 111, f 112, f 113, f 114] := by kernel_rfl
set_option maxRecDepth 40000 in
set_option maxHeartbeats 8000000 in
theorem reaches_any (W : World) (b ob : Nat) (p : PP) (hp : ProgO W b ob p) (hD : p.preds.length ≤ 1000) (hRl : p.rules.length ≤ 1000) (hr : ∀ r ∈ p.rules, r.head.pred < p.preds.length ∧ r.body.length ≤ 1000) (fr to_ : Nat) (hfr : fr < p.preds.length) : Calls Tryz.prog 72 #[.pointer (some ⟨b, ob, none⟩), .int .i64 (fr : Int), .int .i64 (to_ : Int)] W (RePost W p fr to_) := by
  obtain ⟨Q, hQ⟩ : ∃ Q, Q = RePost W p fr to_ := ⟨_, rfl⟩
  rw [← hQ]
  have HQ := hid_of hQ
  have HR0 := hid_of hr
  obtain ⟨Ce, pa, pn, pc, qa, qn, qc, ua, un, uc, hb, hl4, k0, k1, k2, k3, k4, k5, Rs, k6, k7, k8⟩ := hp.cells
  have HB := hid_of hb
  have HRS := hid_of k6
  have HRL : Hid (Rs.length = p.rules.length) := k7
  have HRC := hid_of k8
  have hun : un = p.rules.length := by rw [← k7]; exact k6.1.symm
  have HUN := hid_of hun
  have hub : un ≤ 1000 := by omega
  have hqn : p.preds.length = qn := k5.1
  have HQN := hid_of hqn
  have hqb : qn ≤ 1000 := by omega
  have hfq : fr < qn := by omega
  have l1 : ob + 1 < Ce.length := by omega
  have l2 : ob + 2 < Ce.length := by omega
  have hmk : ∀ w, (makeOp 174 (.int .i64 (qn : Int)) (.int .i64 (qn : Int))).run Tryz.prog w = .ok (.value (.slice (some ⟨w.heap.size, 0, none⟩) qn qn)) (w.alloc (.cells (bolC (List.replicate qn false)).toArray 4)) := fun w => make174 w qn (by omega)
  obtain ⟨B0, eB0⟩ : ∃ B0, B0 = bolC (List.replicate qn false) := ⟨_, rfl⟩
  simp only [← eB0] at hmk
  have hB0l : B0.length = qn := by rw [eB0, bolC_len, List.length_replicate]
  have hB0f : fr < B0.length := by omega
  have hB0g : fr + 1 ≤ B0.length := by omega
  have HSPL : Hid (splice B0 fr [.bool true] = bolC ((List.replicate qn false).set fr true)) := by show _ = _; rw [eB0]; exact bolC_set true (by rw [List.length_replicate]; exact hfq)
  have c1 : (0 : Int) ≤ (fr : Int) := by omega
  have c2 : ((fr : Int)).toNat = fr := by omega
  have c3 : (fr : Int) < (qn : Int) := by omega
  clear hQ hp hr k0 k3 k4 k5 k6 k7 k8 hun hl4 eB0 hB0l hqn
  go_enter Tryz.func72, Tryz.ntmps72
  go_upto_region 4 with fail
  refine wp_world (fun V => W.Extends V ∧ blk V W.heap.size = some (splice B0 fr [.bool true]) ∧ free V W.heap.size = true ∧ V.heap[W.heap.size + 1]? = some (.cells #[.int .i64 (fr : Int)] 3 (0, 0))) ⟨?_, ?_, ?_, ?_⟩ ?_
  · first
      | exact extends_alloc (ext_put_new (extends_alloc (ext_Ext (Ext.refl _)) _) (Nat.le_refl _) _) _
      | exact extends_alloc (extends_alloc (ext_Ext (Ext.refl _)) _) _
  · first
      | (rw [blk_alloc, if_neg (by rw [World.size_alloc]; omega), blk_alloc, if_pos rfl])
      | (rw [blk_alloc, if_neg (by rw [size_put, World.size_alloc]; omega), blk_put, if_pos rfl, blk_alloc, if_pos rfl]; rfl)
  · first
      | (rw [free_alloc, if_neg (by rw [World.size_alloc]; omega), free_alloc, if_pos rfl])
      | (rw [free_alloc, if_neg (by rw [size_put, World.size_alloc]; omega), free_put, free_alloc, if_pos rfl])
  · first
      | (rw [heap_alloc, if_pos (by rw [World.size_alloc])])
      | (rw [heap_alloc, if_pos (by rw [size_put, World.size_alloc])])
  rintro V0 ⟨hx0, hb0, hf0, hh0⟩
  obtain ⟨bs, ebs⟩ : ∃ bs, bs = W.heap.size := ⟨_, rfl⟩
  try simp only [size_put, World.size_alloc]
  rw [← ebs] at hb0 hf0 hh0 ⊢
  rw [HSPL.out] at hb0
  obtain ⟨X0, eX0⟩ : ∃ X0 : List Bool × List Nat, X0 = ((List.replicate qn false).set fr true, [fr]) := ⟨_, rfl⟩
  have hs0 : (List.replicate qn false).length = qn := List.length_replicate
  have hRS0 : RS W bs (fun k => if k < W.heap.size then .a 9 9 else if k = bs then .a 9 1 else .a 9 3) V0 X0 (some ⟨bs + 1, 0, none⟩) 1 1 := by
    rw [eX0]
    refine ⟨hx0, hb0, hf0, ?_, by omega, fun k hk => if_pos hk, ⟨rfl, .inr ⟨bs + 1, 1, _, rfl, by omega, hh0, Nat.le_refl _, by decide, rfl, rfl⟩⟩, fun k hk => ?_⟩
    · show (if _ then _ else _) = _
      rw [if_neg (by omega), if_pos rfl]
    · have e : k = bs + 1 := (Option.some.inj hk).symm
      show (if _ then _ else _) = _
      rw [if_neg (by omega), if_neg (by omega)]
  have hok0 : RcOk qn X0 := by
    rw [eX0]
    exact ⟨by rw [List.length_set]; exact hs0, fun x hx => by rw [List.mem_singleton.1 hx]; exact hfq⟩
  have hms0 : 2 * unS X0.1 + X0.2.length ≤ 2 * qn + 1 := by
    have h1 := unS_le X0.1
    rw [hok0.1] at h1
    rw [eX0] at h1 ⊢
    dsimp only at h1 ⊢
    show _ + 1 ≤ _
    omega
  have HB1 : Hid (∃ O X, RS W bs O V0 X (some ⟨bs + 1, 0, none⟩) 1 1 ∧ RcOk qn X ∧ 2 * unS X.1 + X.2.length ≤ 2 * qn + 1 ∧ 2 * unS X0.1 + X0.2.length = 2 * unS X.1 + X.2.length ∧ ∀ b, ReTo p to_ X.1 X.2 b → ReTo p to_ X0.1 X0.2 b) := ⟨_, X0, hRS0, hok0, hms0, rfl, fun _ h => h⟩
  have HFIN : Hid (∀ V b, ReTo p to_ X0.1 X0.2 b → W.Extends V → Q (.returned (.bool b)) V) := fun V b h1 h2 => by
    rw [HQ.out]
    refine ⟨b, rfl, ?_, h2⟩
    unfold rchP
    rw [HQN.out]
    rw [eX0] at h1
    exact h1
  obtain ⟨μ0, eμ0⟩ : ∃ μ0, μ0 = 2 * unS X0.1 + X0.2.length := ⟨_, rfl⟩
  rw [← eμ0] at HB1
  clear hx0 hb0 hf0 hh0 ebs eX0 hs0 hRS0 hok0 hms0 hmk HSPL hB0f hB0g eμ0
  refine wp_loop_ix 115 (zR1 W (.pointer (some ⟨b, ob, none⟩)) to_ bs qn p X0) μ0 rfl ⟨rfl, rfl, rfl, _, 1, 1, rfl, HB1⟩ ?_
  clear HB1
  intro μ F V hrel ν HMU
  obtain ⟨f0, f2, f7, ta, tn, tc, f8, HI⟩ := hrel
  rw [zframe115r, f0, f2, f7, f8]
  clear f0 f2 f7 f8
  obtain ⟨O, ⟨seen, todo0⟩, hRS, hok, hms, hμ, hgo⟩ := HI.out
  dsimp only at hms hμ hgo
  have htn : todo0.length = tn := hRS.tn
  clear HI
  rcases List.eq_nil_or_concat todo0 with e0 | ⟨todo, at_, e0⟩
  · have htz : tn = 0 := by rw [← htn, e0]; rfl
    have t1 : ¬ (tn : Int) > 0 := by omega
    have t2 : ¬ (0 : Int) < (tn : Int) := by omega
    have HP : Hid (Q (.returned (.bool false)) V) := HFIN.out V false (hgo false (by rw [e0]; exact ReTo.no seen)) hRS.ext
    clear hRS hok hms hμ hgo htn e0 htz
    go_wp2_with fail
    try go_ret
    exact HP.out
  have e1 : todo0 = todo ++ [at_] := by rw [e0, List.concat_eq_append]
  subst e1
  clear e0
  obtain ⟨bt, CT, eta, m1, m2, m3, m4, m5, hRS1⟩ := hRS.pop
  subst eta
  subst m4
  have hat : at_ < qn := hok.2 at_ (by simp)
  have t1 : ((todo.length + 1 : Nat) : Int) > 0 := by omega
  obtain ⟨tl, etl⟩ : ∃ tl, tl = todo.length := ⟨_, rfl⟩
  rw [← etl] at m2 m3 m5 hRS1 t1 ⊢
  have t2 : (0 : Int) < ((tl + 1 : Nat) : Int) := by omega
  have t3 : IntKind.i64.wrap (((tl + 1 : Nat) : Int) - 1) = (tl : Int) := by rw [IntKind.wrap_i64]; omega
  have t3b : ((tl + 1 : Nat) : Int) - 1 = (tl : Int) := by omega
  have t3c : (tl : Int) + 1 - 1 = (tl : Int) := by omega
  have t4 : ((tl : Int)).toNat = tl := by omega
  have t5 : (0 : Int) ≤ (tl : Int) := by omega
  have t6 : (tl : Int) < ((tl + 1 : Nat) : Int) := by omega
  have htb : tl ≤ 3000 := by rw [List.length_append, List.length_singleton] at hms; omega
  have hsl : ∀ W', (sliceOp 180 (.slice (some ⟨bt, 0, none⟩) (tl + 1) tc) none (some (.int .i64 (tl : Int))) none).run Tryz.prog W' = .ok (.value (.slice (some ⟨bt, 0, none⟩) tl tc)) W' := fun W' => slice_hi Tryz.underlying180 (by kernel_rfl) W' _ (tl + 1) tc tl m5
  have HRS1 := hid_of hRS1
  have HMS := hid_of hms
  have HMUM := hid_of hμ
  have HGO := hid_of hgo
  have HOK := hid_of hok
  have HXT := hid_of hRS.ext
  have ETL := hid_of etl
  clear hRS hRS1 hms hμ hgo hok htn etl
  by_cases heq : at_ = to_
  · have nb : ((at_ : Int) == (to_ : Int)) = true := by simp [heq]
    have HP : Hid (Q (.returned (.bool true)) V) := HFIN.out V true (HGO.out true (by rw [heq]; exact ReTo.yes seen todo)) HXT.out
    clear HGO HOK heq HRS1
    go_wp2_with fail
    try go_ret
    exact HP.out
  have nb : ((at_ : Int) == (to_ : Int)) = false := by simp; omega
  have HOK1 : Hid (RcOk qn (seen, todo)) := ⟨HOK.out.1, fun x hx => HOK.out.2 x (List.mem_append_left _ hx)⟩
  have HB2 : Hid (∃ O X, RS W bs O V X (some ⟨bt, 0, none⟩) tl tc ∧ RcOk qn X ∧ 2 * unS X.1 + X.2.length ≤ 2 * qn + 1 ∧ X = (p.rules.take 0).foldl (rchR at_) (seen, todo)) := ⟨O, (seen, todo), HRS1.out, HOK1.out, by have h9 := HMS.out; rw [List.length_append, List.length_singleton] at h9; dsimp only; omega, rfl⟩
  go_upto_region 10 with fail
  refine wp_loop_f 115 (zR2 W (.pointer (some ⟨b, ob, none⟩)) to_ bs qn at_ p (seen, todo)) (fun f _ => un - (intOf (f 10)).toNat) rfl ⟨rfl, rfl, rfl, rfl, 0, _, tl, tc, by omega, rfl, rfl, HB2⟩ ?_
  clear HB2 m1 m2 m3 m5 hsl HRS1 t1 t2 t3 t3b t3c t4 t5 t6 htb
  intro F2 V2 hrel
  obtain ⟨f0, f2, f7, f9, i, ua2, un2, uc2, hi, f10, f8, HI⟩ := hrel
  have H10 := hid_of f10
  rw [zframe115r, f0, f2, f7, f8, f9, f10]
  clear f0 f2 f7 f8 f9 f10
  obtain ⟨O2, X2, hRS2, hok2, hms2, hX2⟩ := HI.out
  have HRS2 := hid_of hRS2
  have HOK2 := hid_of hok2
  have HMS2 := hid_of hms2
  have HX2 := hid_of hX2
  have hb2 : blk V2 b = some Ce := (hRS2.ext.blk (blk_lt HB.out)).trans HB.out
  rw [← HUN.out] at hi
  clear HI hRS2 hok2 hms2 hX2
  by_cases hin : i < un
  rotate_left 1
  · have hin' : ¬ (i : Int) < (un : Int) := by omega
    have HJ : Hid (∃ O X, RS W bs O V2 X ua2 un2 uc2 ∧ RcOk qn X ∧ 2 * unS X.1 + X.2.length ≤ 2 * qn + 1 ∧ 2 * unS X2.1 + X2.2.length = 2 * unS X.1 + X.2.length ∧ ∀ b, ReTo p to_ X.1 X.2 b → ReTo p to_ X0.1 X0.2 b) := by
      refine ⟨O2, X2, HRS2.out, HOK2.out, HMS2.out, rfl, fun bb h9 => HGO.out bb (ReTo.go seen todo at_ bb heq ?_)⟩
      have h8 := HX2.out
      rw [List.take_of_length_le (by rw [← HUN.out]; omega)] at h8
      rw [← h8]
      exact h9
    have HLT : Hid (2 * unS X2.1 + X2.2.length < μ) := by
      show _ < _
      have h8 := HX2.out
      rw [List.take_of_length_le (by rw [← HUN.out]; omega)] at h8
      have h7 := (foldR_ok (at_ := at_) p.rules (N := qn) (fun r hr => by rw [← HQN.out]; exact (HR0.out r hr).1) HOK1.out).2
      rw [← h8] at h7
      rw [HMUM.out, List.length_append, List.length_singleton]
      dsimp only at h7
      omega
    clear HRS2 HOK2 HMS2 HX2 HGO HMUM
    go_wp2_with fail
    exact ⟨rfl, rfl, ⟨_, ⟨rfl, rfl, rfl, ua2, un2, uc2, rfl, HJ⟩⟩, HMU.out _ _ _ ⟨rfl, rfl, rfl, ua2, un2, uc2, rfl, HJ⟩ HLT.out⟩
  have hin' : (i : Int) < (un : Int) := by omega
  have i0 : (0 : Int) ≤ (i : Int) := by omega
  have i2 : ((i : Int)).toNat = i := by omega
  obtain ⟨r, hr⟩ : ∃ r, p.rules[i]? = some r := ⟨_, List.getElem?_eq_getElem (by rw [← HUN.out]; exact hin)⟩
  obtain ⟨x, hx⟩ : ∃ x, Rs[i]? = some x := ⟨_, List.getElem?_eq_getElem (by rw [HRL.out, ← HUN.out]; exact hin)⟩
  obtain ⟨bu, CU, eua, u1, u2, u3⟩ := HRS.out.2 i x hx
  subst eua
  have hrc := HRC.out i x r hx hr
  obtain ⟨xh, xa, xn, xc⟩ := x
  have hnm : (i + 1) * 3 ≤ un * 3 := Nat.mul_le_mul_right _ hin
  have w0 : nth CU (i * 3) = some (.int .i64 (r.head.pred : Int)) := by
    have h9 := nth_in (j := 0) u3 (show nth (GRule.enc ⟨xh, ⟨xa, xn, xc⟩⟩) 0 = some (.int .i64 xh.pred) from GRule.head_pred_get _) (by omega)
    have h8 : xh.pred = (r.head.pred : Int) := hrc.1.1
    rw [h8] at h9
    exact h9
  have w2 : nth CU (i * 3 + 2) = some (.slice xa xn xc) := nth_in (j := 2) u3 (GRule.body_get _) (by omega)
  have w3 : i * 3 < CU.length := by omega
  have w4 : i * 3 + 2 < CU.length := by omega
  have hxn : r.body.length = xn := by
    obtain ⟨-, Ls, h1, h2, -⟩ := hrc
    rw [← h2]; exact h1.1
  have HXN := hid_of hxn
  obtain ⟨hq1, hq2⟩ := HR0.out r (List.mem_of_getElem? hr)
  have hxb : xn ≤ 1000 := by omega
  have hbu : blk V2 bu = some CU := (HRS2.out.ext.blk (blk_lt u1)).trans u1
  have HU1 := hid_of u1
  have HRR := hid_of hr
  have HRCX := hid_of hrc
  obtain ⟨pr, epr⟩ : ∃ pr, pr = r.head.pred := ⟨_, rfl⟩
  rw [← epr] at w0
  have EPR := hid_of epr
  have hprq : pr < qn := by rw [epr, ← HQN.out]; exact hq1
  have v1 : (0 : Int) ≤ (pr : Int) := by omega
  have v2 : ((pr : Int)).toNat = pr := by omega
  have v3 : (pr : Int) < (qn : Int) := by omega
  have HB3 : Hid (∃ O X, RS W bs O V2 X ua2 un2 uc2 ∧ RcOk qn X ∧ 2 * unS X.1 + X.2.length ≤ 2 * qn + 1 ∧ X = (r.body.take 0).foldl (rchL r.head.pred at_) X2) := ⟨O2, X2, HRS2.out, HOK2.out, HMS2.out, rfl⟩
  clear hr hx u1 u3 u2 hnm hrc hxn hq1 hq2 epr HRS2
  go_upto_region 13 with fail
  refine wp_loop_f 115 (zR3 W (.pointer (some ⟨b, ob, none⟩)) to_ bs qn at_ i r X2) (fun f _ => xn - (intOf (f 11)).toNat) rfl ⟨rfl, rfl, rfl, rfl, rfl, 0, ua2, un2, uc2, by omega, rfl, rfl, HB3⟩ ?_
  clear HB3 hb2 hbu
  intro F3 V3 hrel
  obtain ⟨f0, f2, f7, f9, f10, k, sa, sn, sc, hk, f11, f8, HI⟩ := hrel
  have H11 := hid_of f11
  rw [zframe115r, f0, f2, f7, f8, f9, f10, f11]
  clear f0 f2 f7 f8 f9 f10 f11
  obtain ⟨O3, X3, hRS3, hok3, hms3, hX3⟩ := HI.out
  have HRS3 := hid_of hRS3
  have HOK3 := hid_of hok3
  have HMS3 := hid_of hms3
  have HX3 := hid_of hX3
  have hb3 : blk V3 b = some Ce := (hRS3.ext.blk (blk_lt HB.out)).trans HB.out
  have hbu : blk V3 bu = some CU := (hRS3.ext.blk (blk_lt HU1.out)).trans HU1.out
  rw [HXN.out] at hk
  clear HI hRS3 hok3 hms3 hX3
  by_cases hkn : k < xn
  rotate_left 1
  · have hkn' : ¬ (k : Int) < (xn : Int) := by omega
    have HJ : Hid (∃ O X, RS W bs O V3 X sa sn sc ∧ RcOk qn X ∧ 2 * unS X.1 + X.2.length ≤ 2 * qn + 1 ∧ X = (p.rules.take (i + 1)).foldl (rchR at_) (seen, todo)) := by
      refine ⟨O3, X3, HRS3.out, HOK3.out, HMS3.out, ?_⟩
      rw [foldl_take _ _ HRR.out, ← HX2.out, HX3.out, List.take_of_length_le (by rw [HXN.out]; omega)]
      rfl
    clear HRS3 HOK3 HMS3 HX3
    go_wp2_with fail
    refine ⟨rfl, rfl, ⟨rfl, rfl, rfl, rfl, i + 1, sa, sn, sc, by have := HUN.out; omega, ?_, rfl, HJ⟩, ?_⟩
    · show Value.int .i64 _ = _
      go_num
    · show un - (intOf (Value.int .i64 _)).toNat < un - (intOf (F2 10)).toNat
      rw [H10.out]
      simp [intOf]; omega
  have hkn' : (k : Int) < (xn : Int) := by omega
  have j0 : (0 : Int) ≤ (k : Int) := by omega
  have j2 : ((k : Int)).toNat = k := by omega
  obtain ⟨z, hz⟩ : ∃ z, r.body[k]? = some z := ⟨_, List.getElem?_eq_getElem (by rw [HXN.out]; exact hkn)⟩
  obtain ⟨bl, CL, l, exa, g1, g2, g3, g4, g5, g6⟩ := lit_at HRCX.out hz
  dsimp only at exa
  subst exa
  have hbl : blk V3 bl = some CL := (HRS3.out.ext.blk (blk_lt g1)).trans g1
  have d1 : k * 3 + 1 < CL.length := by omega
  obtain ⟨zp, ezp⟩ : ∃ zp, zp = z.atom.pred := ⟨_, rfl⟩
  rw [← ezp] at g4
  have HNX : Hid (∀ X', X' = rchL r.head.pred at_ X3 z → X' = (r.body.take (k + 1)).foldl (rchL r.head.pred at_) X2) := fun X' h9 => by rw [h9, foldl_take _ _ hz, ← HX3.out]
  have HRL2 : Hid (rchL r.head.pred at_ X3 z = if zp = at_ ∧ X3.1.getD pr false = false then (X3.1.set pr true, X3.2 ++ [pr]) else X3) := by show _ = _; unfold rchL; rw [← ezp, ← EPR.out]
  have HOKN := hid_of (rchL_ok (at_ := at_) hprq HOK3.out z)
  have hsb := HRS3.out.sb
  have hsf := HRS3.out.sf
  have hsn := bolC_at (seen := X3.1) (i := pr) (by rw [HOK3.out.1]; exact hprq)
  obtain ⟨SB, eSB⟩ : ∃ SB, SB = bolC X3.1 := ⟨_, rfl⟩
  have hSBl : pr < SB.length := by rw [eSB, bolC_len, HOK3.out.1]; exact hprq
  have hSBg : pr + 1 ≤ SB.length := hSBl
  have HSP : Hid (splice SB pr [.bool true] = bolC (X3.1.set pr true)) := by show _ = _; rw [eSB]; exact bolC_set true (by rw [HOK3.out.1]; exact hprq)
  rw [← eSB] at hsb hsn
  obtain ⟨sv, esv⟩ : ∃ sv, sv = X3.1.getD pr false := ⟨_, rfl⟩
  rw [← esv] at hsn HRL2
  clear hz g1 g3 g5 g6 ezp eSB esv g2
  by_cases hza : zp = at_
  rotate_left 1
  · have nb2 : ((zp : Int) == (at_ : Int)) = false := by simp; omega
    have HJ : Hid (∃ O X, RS W bs O V3 X sa sn sc ∧ RcOk qn X ∧ 2 * unS X.1 + X.2.length ≤ 2 * qn + 1 ∧ X = (r.body.take (k + 1)).foldl (rchL r.head.pred at_) X2) := ⟨O3, X3, HRS3.out, HOK3.out, HMS3.out, HNX.out X3 (by rw [HRL2.out, if_neg (fun h9 => hza h9.1)])⟩
    clear HNX HRL2 HOKN HSP hza HRS3 HOK3 HMS3 HX3
    go_wp2_with fail
    refine ⟨rfl, rfl, ⟨rfl, rfl, rfl, rfl, rfl, k + 1, sa, sn, sc, by have := HXN.out; omega, ?_, rfl, HJ⟩, ?_⟩
    · show Value.int .i64 _ = _
      go_num
    · show xn - (intOf (Value.int .i64 _)).toNat < xn - (intOf (F3 11)).toNat
      rw [H11.out]
      simp [intOf]; omega
  have nb2 : ((zp : Int) == (at_ : Int)) = true := by simp [hza]
  cases sv with
  | true =>
    have HJ : Hid (∃ O X, RS W bs O V3 X sa sn sc ∧ RcOk qn X ∧ 2 * unS X.1 + X.2.length ≤ 2 * qn + 1 ∧ X = (r.body.take (k + 1)).foldl (rchL r.head.pred at_) X2) := ⟨O3, X3, HRS3.out, HOK3.out, HMS3.out, HNX.out X3 (by rw [HRL2.out, if_neg (fun h9 => by cases h9.2)])⟩
    clear HNX HRL2 HOKN HSP hza HRS3 HOK3 HMS3 HX3
    go_wp2_with fail
    refine ⟨rfl, rfl, ⟨rfl, rfl, rfl, rfl, rfl, k + 1, sa, sn, sc, by have := HXN.out; omega, ?_, rfl, HJ⟩, ?_⟩
    · show Value.int .i64 _ = _
      go_num
    · show xn - (intOf (Value.int .i64 _)).toNat < xn - (intOf (F3 11)).toNat
      rw [H11.out]
      simp [intOf]; omega
  | false =>
    obtain ⟨a', c', V4, O4, hrun, hRS4⟩ := HRS3.out.push pr (by have h9 := HMS3.out; omega)
    rw [← HSP.out] at hrun
    have e4 : rchL r.head.pred at_ X3 z = (X3.1.set pr true, X3.2 ++ [pr]) := by rw [HRL2.out, if_pos ⟨hza, rfl⟩]
    have HJ : Hid (∃ O X, RS W bs O V4 X a' (sn + 1) c' ∧ RcOk qn X ∧ 2 * unS X.1 + X.2.length ≤ 2 * qn + 1 ∧ X = (r.body.take (k + 1)).foldl (rchL r.head.pred at_) X2) := by
      have h9 := HOKN.out
      rw [EPR.out] at h9
      rw [e4] at h9
      exact ⟨O4, _, hRS4, h9.1, Nat.le_trans h9.2 HMS3.out, HNX.out _ e4.symm⟩
    have hneb : ∀ {bb : Nat} {C : List Value}, blk W bb = some C → blk (put V3 bs (splice SB pr [.bool true])) bb = some C := fun {bb C} h9 => by
      have h8 := blk_lt h9
      have h7 := HRS3.out.sl
      rw [blk_put, if_neg (by omega)]
      exact (HRS3.out.ext.blk h8).trans h9
    have hb4 := hneb HB.out
    have hbu4 := hneb HU1.out
    have n1 : ¬ b = bs := fun e => by have h8 := blk_lt HB.out; have h7 := HRS3.out.sl; omega
    have n2 : ¬ bu = bs := fun e => by have h8 := blk_lt HU1.out; have h7 := HRS3.out.sl; omega
    try rw [size_put] at hrun
    clear HNX HRL2 HOKN HSP hza HRS3 HOK3 HMS3 HX3 hRS4 e4 hneb
    go_wp2_with (at_builtin; refine wpList_append_run rfl _ _ 180 rfl _ _ _ _ rfl rfl hrun ?_)
    refine ⟨rfl, rfl, ⟨rfl, rfl, rfl, rfl, rfl, k + 1, a', sn + 1, c', by have := HXN.out; omega, ?_, rfl, HJ⟩, ?_⟩
    · show Value.int .i64 _ = _
      go_num
    · show xn - (intOf (Value.int .i64 _)).toNat < xn - (intOf (F3 11)).toNat
      rw [H11.out]
      simp [intOf]; omega
end Go.Proofs.Qxb6500787aGreat
