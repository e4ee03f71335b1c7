import Derived.Test.Qxb6500788aKd
import Derived.StillTailTactics
import Derived.Deep.QuietTactic
import Derived.BigQuiet
import Derived.Deep.RegionHeld
import Derived.Deep.CutRange
import Derived.Laws.ResultCell
import Derived.Laws.Rows
import Derived.DeepKeys
import Derived.DataBytes
import Derived.Laws.StructEq
import Derived.Laws.AppendOwn
import Derived.Laws.MakeOwn
set_option linter.unusedSimpArgs false
set_option linter.unusedVariables false
namespace Go.Proofs.Qxb6500788a
open Go.RowKit Go.Blk
attribute [local go_sem ↓] execOp_load execOp_store execOp_alloc
attribute [local go_sem] Try.ld24 Try.st24 Try.ld25 Try.st25 Try.ld3 Try.st3 Try.ld30 Try.st30 Try.ld36 Try.st36 Try.ld4 Try.st4 Try.ld41 Try.st41 Try.ld50 Try.st50 Try.ld40 Try.st40 Try.ld42 Try.st42 Try.ld89 Try.st89 Try.ld91 Try.st91 Try.ld56 Try.st56 Try.ld97 Try.st97 Try.ld98 Try.st98 Try.ld101 Try.st101 Try.ld104 Try.st104 Try.ld57 Try.st57 Try.ld130 Try.st130 Try.ld2 Try.st2 Try.ld5 Try.st5 Try.ld9 Try.st9 Try.ld12 Try.st12 Try.ld21 Try.st21 Try.ld22 Try.st22 Try.ld29 Try.st29 Try.ld33 Try.st33 Try.ld59 Try.st59 Try.ld62 Try.st62 Try.ld69 Try.st69 Try.ld94 Try.st94 Try.ld96 Try.st96 Try.ld129 Try.st129 Try.ld158 Try.st158 Try.ld162 Try.st162 Try.ld47 Try.st47 Try.ld44 Try.st44 Try.ld137 Try.st137 Try.ld145 Try.st145 Try.ld43 Try.st43 Try.ld27 Try.st27 Try.ld38 Try.st38 Try.ld46 Try.st46 Try.ld49 Try.st49 Try.ld52 Try.st52 Try.ld54 Try.st54 Try.ld61 Try.st61 Try.ld80 Try.st80 Try.ld87 Try.st87 Try.ld93 Try.st93 Try.ld100 Try.st100 Try.ld103 Try.st103 Try.ld106 Try.st106 Try.ld109 Try.st109 Try.ld132 Try.st132 Try.ld147 Try.st147 Try.al47 Try.al44 Try.al137 Try.al145 Try.al43 Try.al27 Try.al38 Try.al46 Try.al49 Try.al52 Try.al54 Try.al61 Try.al80 Try.al87 Try.al93 Try.al100 Try.al103 Try.al106 Try.al109 Try.al132 Try.al147
attribute [local go_sem] GProgram.length_enc GProgram.ok_enc GProgram.all_get GProgram.all_set GProgram.preds_get GProgram.preds_set GProgram.rules_get GProgram.rules_set GProgram.strata_get GProgram.strata_set Answer.length_enc Answer.ok_enc Answer.all_get Answer.all_set Answer.code_get Answer.code_set Answer.n_get Answer.n_set Answer.rows_get Answer.rows_set Term.length_enc Term.ok_enc Term.all_get Term.all_set Term.var_get Term.var_set Term.n_get Term.n_set Atom.length_enc Atom.ok_enc Atom.all_get Atom.all_set Atom.pred_get Atom.pred_set Atom.args_get Atom.args_set GRule.length_enc GRule.ok_enc GRule.all_get GRule.all_set GRule.head_get GRule.head_set GRule.body_get GRule.body_set GRule.head_pred_get GRule.head_pred_set GRule.head_args_get GRule.head_args_set GOp.length_enc GOp.ok_enc GOp.all_get GOp.all_set GOp.kind_get GOp.kind_set GOp.pred_get GOp.pred_set GOp.t_get GOp.t_set GOp.n_get GOp.n_set GOp.base_get GOp.base_set GOp.rule_get GOp.rule_set GOp.rule_head_get GOp.rule_head_set GOp.rule_body_get GOp.rule_body_set GOp.rule_head_pred_get GOp.rule_head_pred_set GOp.rule_head_args_get GOp.rule_head_args_set PredInfo.length_enc PredInfo.ok_enc PredInfo.all_get PredInfo.all_set PredInfo.arity_get PredInfo.arity_set PredInfo.base_get PredInfo.base_set PredInfo.stratum_get PredInfo.stratum_set GStats.length_enc GStats.ok_enc GStats.all_get GStats.all_set GStats.rounds_get GStats.rounds_set GStats.fired_get GStats.fired_set GStats.emitted_get GStats.emitted_set GStats.fresh_get GStats.fresh_set Literal.length_enc Literal.ok_enc Literal.all_get Literal.all_set Literal.neg_get Literal.neg_set Literal.atom_get Literal.atom_set Literal.atom_pred_get Literal.atom_pred_set Literal.atom_args_get Literal.atom_args_set Engine.length_enc Engine.ok_enc Engine.all_get Engine.all_set Engine.prog_get Engine.prog_set Engine.st_get Engine.st_set Engine.levels_get Engine.levels_set Engine.running_get Engine.running_set Engine.stratum_get Engine.stratum_set Engine.round_get Engine.round_set Engine.saved_get Engine.saved_set Engine.stats_get Engine.stats_set Engine.prog_preds_get Engine.prog_preds_set Engine.prog_rules_get Engine.prog_rules_set Engine.prog_strata_get Engine.prog_strata_set Engine.stats_rounds_get Engine.stats_rounds_set Engine.stats_fired_get Engine.stats_fired_set Engine.stats_emitted_get Engine.stats_emitted_set Engine.stats_fresh_get Engine.stats_fresh_set Level.length_enc Level.ok_enc Level.all_get Level.all_set Level.heads_get Level.heads_set Level.jobs_get Level.jobs_set Plan.length_enc Plan.ok_enc Plan.all_get Plan.all_set Plan.rule_get Plan.rule_set Plan.delta_get Plan.delta_set Plan.src_get Plan.src_set Job.length_enc Job.ok_enc Job.all_get Job.all_set Job.full_get Job.full_set Job.deltas_get Job.deltas_set Job.full_rule_get Job.full_rule_set Job.full_delta_get Job.full_delta_set Job.full_src_get Job.full_src_set GState.length_enc GState.ok_enc GState.all_get GState.all_set GState.prog_get GState.prog_set GState.base_get GState.base_set GState.shown_get GState.shown_set GState.prog_preds_get GState.prog_preds_set GState.prog_rules_get GState.prog_rules_set GState.prog_strata_get GState.prog_strata_set Store.length_enc Store.ok_enc Store.all_get Store.all_set Store.arity_get Store.arity_set Store.rows_get Store.rows_set Env.length_enc Env.ok_enc Env.all_get Env.all_set Env.val_get Env.val_set Env.set_get Env.set_set
attribute [local go_sem] size_put size_ext blk_put free_put blk_alloc free_alloc blk_drew free_drew blk_ext free_ext lookOr_some putOr_some segAt_some cellAt_some storeIn_some put_put put_alloc_new length_arr ok_arr_u8 ok_arr_u32 ok_arr_u64 ok_arr_i64 ok_arr_sl cellsV_agg cellsV_int cellsV_bool cellsV_string cellsV_pointer cellsV_slice cellsV_sl ok_int ok_bool ok_string ok_pointer ok_slice ok_sl toList_arr seg_arr set_arr nth_splice nth_splice0 seg_splice seg_splice0 splice_splice splice_splice0 length_splice_if
attribute [local go_sem ↓] execOp_box
attribute [local go_sem] box_run nth_arr_u8 put_arr_u8 blk_drewN free_drewN put_drewN blk_raw free_raw
theorem bld0 (w : World) : (buildOp 38 #[]).run Try.prog w = .ok (.value (.agg (Answer.enc (ans 0 0)).toArray)) w := by kernel_rfl
theorem bld1 (w : World) (c : Int) : (buildOp 38 #[(0, .int .i64 c)]).run Try.prog w = .ok (.value (.agg (Answer.enc (ans c 0)).toArray)) w := by kernel_rfl
theorem bld2 (w : World) (n : Int) : (buildOp 38 #[(1, .int .i64 n)]).run Try.prog w = .ok (.value (.agg (Answer.enc (ans 0 n)).toArray)) w := by kernel_rfl
theorem bld3 (w : World) (a : Option Addr) (n c : Nat) : (buildOp 38 #[(2, .slice a n c)]).run Try.prog w = .ok (.value (.agg (Answer.enc ⟨0, 0, ⟨a, n, c⟩⟩).toArray)) w := by kernel_rfl
noncomputable def mAddC (p : Pg) (T : Nat → List Tup) (q : Int) (t : Tup) : Int := if ckF p false q t ≠ 0 then ckF p false q t else insC (T q.toNat) t
noncomputable def mAdd (p : Pg) (T : Nat → List Tup) (q : Int) (t : Tup) : Nat → List Tup := if ckF p false q t ≠ 0 then T else fun x => if x = q.toNat then insL (T x) t else T x
noncomputable def mDelC (p : Pg) (T : Nat → List Tup) (q : Int) (t : Tup) : Int := if ckF p false q t ≠ 0 then ckF p false q t else delC (T q.toNat) t
noncomputable def mDel (p : Pg) (T : Nat → List Tup) (q : Int) (t : Tup) : Nat → List Tup := if ckF p false q t ≠ 0 then T else fun x => if x = q.toNat then delL (T x) t else T x
def shU (p : Pg) (U T3 : Nat → List Tup) (n : Nat) : Nat → List Tup := fun q => if q < n ∧ basP p q = false then T3 q else U q
/-- A step of the naive model, plainly. -/
inductive MR (p : Pg) (T U : Nat → List Tup) (op : GOp) : (Nat → List Tup) → (Nat → List Tup) → Int → Int → List Tup → Prop
  | skip : op.kind = 0 ∨ op.kind = 1 → MR p T U op T U 0 0 []
  | fact : op.kind = 2 → MR p T U op (mAdd p T op.pred op.t) U (mAddC p T op.pred op.t) 0 []
  | drop : op.kind = 3 → MR p T U op (mDel p T op.pred op.t) U (mDelC p T op.pred op.t) 0 []
  | over {T3 : Nat → List Tup} : op.kind = 4 → PerfTo p 0 T T3 → OvrT p.P.length T3 → MR p T U op T U 3 0 []
  | run {T3 : Nat → List Tup} : op.kind = 4 → PerfTo p 0 T T3 → RelI p T3 → ¬ OvrT p.P.length T3 → MR p T U op T (shU p U T3 p.P.length) 0 0 []
  | has1 : op.kind = 5 → ckT p op.pred op.t = 0 → op.t ∈ rowsM p T U op.pred.toNat → MR p T U op T U 0 1 []
  | has0 : op.kind = 5 → ckT p op.pred op.t = 0 → ¬ op.t ∈ rowsM p T U op.pred.toNat → MR p T U op T U 0 0 []
  | hasb : op.kind = 5 → ckT p op.pred op.t ≠ 0 → MR p T U op T U (ckT p op.pred op.t) 0 []
  | list : op.kind = 6 → inT p op.pred → MR p T U op T U 0 0 (rowsM p T U op.pred.toNat)
  | listb : op.kind = 6 → ¬ inT p op.pred → MR p T U op T U 5 0 []
  | bad : ¬ (0 ≤ op.kind ∧ op.kind ≤ 6) → MR p T U op T U 12 0 []
def StepPost (W0 : World) (O : Own) (W : World) (bm bb bs : Nat) (p : Pg) (T U : Nat → List Tup) (op : GOp) (e : Ending) (V : World) : Prop := ∃ (T' U' : Nat → List Tup) (A : Answer) (ts : List Tup) (O' : Own), e = .returned (.agg A.enc.toArray) ∧ MR p T U op T' U' A.code A.n ts ∧ Fr isM O W O' V ∧ MAt W0 O' V bm bb bs p T' U' ∧ Rw tpl 4 V A.rows.a A.rows.len ts
theorem step_fin {W0 : World} {O O1 O' : Own} {W W1 V : World} {bm bb bs : Nat} {p : Pg} {T U T' U' : Nat → List Tup} {op : GOp} {A : Answer} {ts : List Tup} {b4 : Nat} (hx : W.Extends W1) (hO1 : O1 = lab O W.heap.size (.a 6 0)) (h4 : W.heap.size ≤ b4) (l4 : b4 < W1.heap.size) (h1 : Fr isM O1 W1 O' V) (h2 : MAt W0 O' V bm bb bs p T' U') (h3 : RwS O' V A.rows.a A.rows.len ts) (h5 : MR p T U op T' U' A.code A.n ts) : StepPost W0 O W bm bb bs p T U op (.returned (.agg A.enc.toArray)) (put V b4 A.enc) := by
  have hl : O' b4 = .a 6 0 := by rw [h1.keep b4 l4, hO1]; exact lab_ge h4
  have hF0 : Fr isM O W O1 W1 := by rw [hO1]; exact ⟨hx.os, hx.tape, hx.output, hx.size, fun k hk => lab_lt hk, fun k hk _ => hx.block k hk⟩
  have hp : Fr (fun l => l = .a 6 0) O' V O' (put V b4 A.enc) := (Fr.refl _ O' V).put hl _
  refine ⟨T', U', A, ts, O', rfl, h5, (hF0.trans h1).put_new h4 _, h2.fr hp (fun l hl e => ?_) (fun e => by cases e), h3.put hl _⟩
  rcases hl with ⟨m, e'⟩ | e' <;> (rw [e'] at e; injection e with e _; omega)
attribute [local go_sem ↓] execOp_build execOp_bslice
attribute [local go_sem] bld0 bld1 bld2 bld3 bslice36
attribute [local go_sem] Answer.ok_enc
set_option maxRecDepth 40000 in
set_option maxHeartbeats 4000000 in
theorem step_skip0 (W0 : World) (O : Own) (W : World) (bm bb bs : Nat) (p : Pg) (T U : Nat → List Tup) (hM : MAt W0 O W bm bb bs p T U) (hok : PgOk p) (hT : RelI p T) (hU : RelI p U) (op : GOp) (hk : op.kind = 0) : Calls Try.prog 15 #[.pointer (some ⟨bm, 0, none⟩), .agg (GOp.enc op).toArray] W (StepPost W0 O W bm bb bs p T U op) := by
  obtain ⟨Q, hQ⟩ : ∃ Q, Q = StepPost W0 O W bm bb bs p T U op := ⟨_, rfl⟩
  rw [← hQ]
  have HQ := hid_of hQ
  have HOK := hid_of hok
  have HT := hid_of hT
  have HU := hid_of hU
  have h64 := hok.nP
  have HKD := hid_of hk
  have k0 : nth (GOp.enc op) 0 = some (.int .i64 op.kind) := GOp.kind_get op
  have k1 : nth (GOp.enc op) 1 = some (.int .i64 op.pred) := GOp.pred_get op
  have k2 : seg (GOp.enc op) 2 4 = arr i64v op.t := GOp.t_get op
  have kl : (GOp.enc op).length = 18 := GOp.length_enc op
  obtain ⟨OE, hOE⟩ : ∃ OE, OE = GOp.enc op := ⟨_, rfl⟩
  rw [← hOE] at k0 k1 k2 kl ⊢
  have l0 : 0 < OE.length := by omega
  have l1 : 1 < OE.length := by omega
  have l2 : 2 + 4 ≤ OE.length := by omega
  have ol18 : OE.length = 18 := kl
  rw [hk] at k0
  clear hOE hQ hk hok hT hU kl
  go_enter Try.func15, Try.ntmps15
  go_upto_region 1 with fail
  refine wp_world (fun V => blk V W.heap.size = some OE ∧ blk V (W.heap.size + 1) = some (Answer.enc (ans 0 0)) ∧ free V (W.heap.size + 1) = true ∧ W.Extends V ∧ V.heap.size = W.heap.size + 2) ⟨?_, ?_, ?_, ?_, ?_⟩ ?_
  · rw [blk_alloc, if_neg (by rw [World.size_alloc]; omega), blk_alloc, if_pos rfl]
  · rw [blk_alloc, if_pos (by rw [World.size_alloc])]; try rfl
  · rw [free_alloc, if_pos (by rw [World.size_alloc])]
  · exact extends_alloc (extends_alloc (ext_Ext (Ext.refl _)) _) _
  · rw [World.size_alloc, World.size_alloc]
  rintro W1 ⟨hb3, hb4, hf4, hx1, hsz⟩
  try simp only [World.size_alloc]
  obtain ⟨O1, hO1⟩ : ∃ O1, O1 = lab O W.heap.size (.a 6 0) := ⟨_, rfl⟩
  have hM1 : MAt W0 O1 W1 bm bb bs p T U := by
    rw [hO1]
    exact hM.fr (L := fun _ => False) ⟨hx1.os, hx1.tape, hx1.output, hx1.size, fun k hk => lab_lt hk, fun k hk _ => hx1.block k hk⟩ (fun _ _ h => h) (fun h => h)
  have HF : Hid (∀ (V : World) (O' : Own) (T' U' : Nat → List Tup) (A : Answer) (ts : List Tup), Fr isM O1 W1 O' V → MAt W0 O' V bm bb bs p T' U' → RwS O' V A.rows.a A.rows.len ts → MR p T U op T' U' A.code A.n ts → Q (.returned (.agg A.enc.toArray)) (put V (W.heap.size + 1) A.enc)) := by
    intro V O' T' U' A ts h1 h2 h3 h4
    rw [HQ.out]
    exact step_fin hx1 hO1 (by omega) (by omega) h1 h2 h3 h4
  obtain ⟨b4, e4⟩ : ∃ b4, b4 = W.heap.size + 1 := ⟨_, rfl⟩
  rw [← e4] at hb4 hf4 HF ⊢
  obtain ⟨b3, e3⟩ : ∃ b3, b3 = W.heap.size := ⟨_, rfl⟩
  rw [← e3] at hb3 ⊢
  have n34 : ¬ b3 = b4 := by omega
  have hl4 : O1 b4 = .a 6 0 := by rw [hO1, e4]; exact lab_ge (by omega)
  have hl3 : O1 b3 = .a 6 0 := by rw [hO1, e3]; exact lab_ge (Nat.le_refl _)
  have HL4 := hid_of hl4
  have HL3 := hid_of hl3
  have HM1 := hid_of hM1
  have HSZ : Hid (b3 < W1.heap.size ∧ b4 < W1.heap.size) := by
    show _ ∧ _
    omega
  have HX1 := hid_of hx1
  have al4 := Answer.length_enc (ans 0 0)
  clear e3 e4 hO1 hx1 hM1 hM hsz hl4 hl3
  have HP : Hid (Q (.returned (.agg (Answer.enc (ans 0 0)).toArray)) (put W1 b4 (Answer.enc (ans 0 0)))) := HF.out W1 O1 T U (ans 0 0) [] (Fr.refl _ _ _) HM1.out (RwS.nil _ _) (.skip (.inl HKD.out))
  have hb4x := hb4
  go_wp2_with fail
  refine ret_cell (C := Answer.enc (ans 0 0)) rfl rfl ?_ (by kernel_rfl) (by rw [Answer.length_enc]; kernel_rfl) rfl HP.out
  first | (rw [blk_put, if_pos rfl, hb4x]; rfl) | (simp only [blk_put, if_true, hb4x, Option.map_some]; try rfl)
set_option maxRecDepth 40000 in
set_option maxHeartbeats 4000000 in
theorem step_skip1 (W0 : World) (O : Own) (W : World) (bm bb bs : Nat) (p : Pg) (T U : Nat → List Tup) (hM : MAt W0 O W bm bb bs p T U) (hok : PgOk p) (hT : RelI p T) (hU : RelI p U) (op : GOp) (hk : op.kind = 1) : Calls Try.prog 15 #[.pointer (some ⟨bm, 0, none⟩), .agg (GOp.enc op).toArray] W (StepPost W0 O W bm bb bs p T U op) := by
  obtain ⟨Q, hQ⟩ : ∃ Q, Q = StepPost W0 O W bm bb bs p T U op := ⟨_, rfl⟩
  rw [← hQ]
  have HQ := hid_of hQ
  have HOK := hid_of hok
  have HT := hid_of hT
  have HU := hid_of hU
  have h64 := hok.nP
  have HKD := hid_of hk
  have k0 : nth (GOp.enc op) 0 = some (.int .i64 op.kind) := GOp.kind_get op
  have k1 : nth (GOp.enc op) 1 = some (.int .i64 op.pred) := GOp.pred_get op
  have k2 : seg (GOp.enc op) 2 4 = arr i64v op.t := GOp.t_get op
  have kl : (GOp.enc op).length = 18 := GOp.length_enc op
  obtain ⟨OE, hOE⟩ : ∃ OE, OE = GOp.enc op := ⟨_, rfl⟩
  rw [← hOE] at k0 k1 k2 kl ⊢
  have l0 : 0 < OE.length := by omega
  have l1 : 1 < OE.length := by omega
  have l2 : 2 + 4 ≤ OE.length := by omega
  have ol18 : OE.length = 18 := kl
  rw [hk] at k0
  clear hOE hQ hk hok hT hU kl
  go_enter Try.func15, Try.ntmps15
  go_upto_region 1 with fail
  refine wp_world (fun V => blk V W.heap.size = some OE ∧ blk V (W.heap.size + 1) = some (Answer.enc (ans 0 0)) ∧ free V (W.heap.size + 1) = true ∧ W.Extends V ∧ V.heap.size = W.heap.size + 2) ⟨?_, ?_, ?_, ?_, ?_⟩ ?_
  · rw [blk_alloc, if_neg (by rw [World.size_alloc]; omega), blk_alloc, if_pos rfl]
  · rw [blk_alloc, if_pos (by rw [World.size_alloc])]; try rfl
  · rw [free_alloc, if_pos (by rw [World.size_alloc])]
  · exact extends_alloc (extends_alloc (ext_Ext (Ext.refl _)) _) _
  · rw [World.size_alloc, World.size_alloc]
  rintro W1 ⟨hb3, hb4, hf4, hx1, hsz⟩
  try simp only [World.size_alloc]
  obtain ⟨O1, hO1⟩ : ∃ O1, O1 = lab O W.heap.size (.a 6 0) := ⟨_, rfl⟩
  have hM1 : MAt W0 O1 W1 bm bb bs p T U := by
    rw [hO1]
    exact hM.fr (L := fun _ => False) ⟨hx1.os, hx1.tape, hx1.output, hx1.size, fun k hk => lab_lt hk, fun k hk _ => hx1.block k hk⟩ (fun _ _ h => h) (fun h => h)
  have HF : Hid (∀ (V : World) (O' : Own) (T' U' : Nat → List Tup) (A : Answer) (ts : List Tup), Fr isM O1 W1 O' V → MAt W0 O' V bm bb bs p T' U' → RwS O' V A.rows.a A.rows.len ts → MR p T U op T' U' A.code A.n ts → Q (.returned (.agg A.enc.toArray)) (put V (W.heap.size + 1) A.enc)) := by
    intro V O' T' U' A ts h1 h2 h3 h4
    rw [HQ.out]
    exact step_fin hx1 hO1 (by omega) (by omega) h1 h2 h3 h4
  obtain ⟨b4, e4⟩ : ∃ b4, b4 = W.heap.size + 1 := ⟨_, rfl⟩
  rw [← e4] at hb4 hf4 HF ⊢
  obtain ⟨b3, e3⟩ : ∃ b3, b3 = W.heap.size := ⟨_, rfl⟩
  rw [← e3] at hb3 ⊢
  have n34 : ¬ b3 = b4 := by omega
  have hl4 : O1 b4 = .a 6 0 := by rw [hO1, e4]; exact lab_ge (by omega)
  have hl3 : O1 b3 = .a 6 0 := by rw [hO1, e3]; exact lab_ge (Nat.le_refl _)
  have HL4 := hid_of hl4
  have HL3 := hid_of hl3
  have HM1 := hid_of hM1
  have HSZ : Hid (b3 < W1.heap.size ∧ b4 < W1.heap.size) := by
    show _ ∧ _
    omega
  have HX1 := hid_of hx1
  have al4 := Answer.length_enc (ans 0 0)
  clear e3 e4 hO1 hx1 hM1 hM hsz hl4 hl3
  have HP : Hid (Q (.returned (.agg (Answer.enc (ans 0 0)).toArray)) (put W1 b4 (Answer.enc (ans 0 0)))) := HF.out W1 O1 T U (ans 0 0) [] (Fr.refl _ _ _) HM1.out (RwS.nil _ _) (.skip (.inr HKD.out))
  have hb4x := hb4
  go_wp2_with fail
  refine ret_cell (C := Answer.enc (ans 0 0)) rfl rfl ?_ (by kernel_rfl) (by rw [Answer.length_enc]; kernel_rfl) rfl HP.out
  first | (rw [blk_put, if_pos rfl, hb4x]; rfl) | (simp only [blk_put, if_true, hb4x, Option.map_some]; try rfl)
set_option maxRecDepth 40000 in
set_option maxHeartbeats 4000000 in
theorem step_bad (W0 : World) (O : Own) (W : World) (bm bb bs : Nat) (p : Pg) (T U : Nat → List Tup) (hM : MAt W0 O W bm bb bs p T U) (hok : PgOk p) (hT : RelI p T) (hU : RelI p U) (op : GOp) (hk : ¬ (0 ≤ op.kind ∧ op.kind ≤ 6)) : Calls Try.prog 15 #[.pointer (some ⟨bm, 0, none⟩), .agg (GOp.enc op).toArray] W (StepPost W0 O W bm bb bs p T U op) := by
  obtain ⟨Q, hQ⟩ : ∃ Q, Q = StepPost W0 O W bm bb bs p T U op := ⟨_, rfl⟩
  rw [← hQ]
  have HQ := hid_of hQ
  have HOK := hid_of hok
  have HT := hid_of hT
  have HU := hid_of hU
  have h64 := hok.nP
  have HKD := hid_of hk
  have k0 : nth (GOp.enc op) 0 = some (.int .i64 op.kind) := GOp.kind_get op
  have k1 : nth (GOp.enc op) 1 = some (.int .i64 op.pred) := GOp.pred_get op
  have k2 : seg (GOp.enc op) 2 4 = arr i64v op.t := GOp.t_get op
  have kl : (GOp.enc op).length = 18 := GOp.length_enc op
  obtain ⟨OE, hOE⟩ : ∃ OE, OE = GOp.enc op := ⟨_, rfl⟩
  rw [← hOE] at k0 k1 k2 kl ⊢
  have l0 : 0 < OE.length := by omega
  have l1 : 1 < OE.length := by omega
  have l2 : 2 + 4 ≤ OE.length := by omega
  have ol18 : OE.length = 18 := kl
  clear hOE hQ hk hok hT hU kl
  go_enter Try.func15, Try.ntmps15
  go_upto_region 1 with fail
  refine wp_world (fun V => blk V W.heap.size = some OE ∧ blk V (W.heap.size + 1) = some (Answer.enc (ans 0 0)) ∧ free V (W.heap.size + 1) = true ∧ W.Extends V ∧ V.heap.size = W.heap.size + 2) ⟨?_, ?_, ?_, ?_, ?_⟩ ?_
  · rw [blk_alloc, if_neg (by rw [World.size_alloc]; omega), blk_alloc, if_pos rfl]
  · rw [blk_alloc, if_pos (by rw [World.size_alloc])]; try rfl
  · rw [free_alloc, if_pos (by rw [World.size_alloc])]
  · exact extends_alloc (extends_alloc (ext_Ext (Ext.refl _)) _) _
  · rw [World.size_alloc, World.size_alloc]
  rintro W1 ⟨hb3, hb4, hf4, hx1, hsz⟩
  try simp only [World.size_alloc]
  obtain ⟨O1, hO1⟩ : ∃ O1, O1 = lab O W.heap.size (.a 6 0) := ⟨_, rfl⟩
  have hM1 : MAt W0 O1 W1 bm bb bs p T U := by
    rw [hO1]
    exact hM.fr (L := fun _ => False) ⟨hx1.os, hx1.tape, hx1.output, hx1.size, fun k hk => lab_lt hk, fun k hk _ => hx1.block k hk⟩ (fun _ _ h => h) (fun h => h)
  have HF : Hid (∀ (V : World) (O' : Own) (T' U' : Nat → List Tup) (A : Answer) (ts : List Tup), Fr isM O1 W1 O' V → MAt W0 O' V bm bb bs p T' U' → RwS O' V A.rows.a A.rows.len ts → MR p T U op T' U' A.code A.n ts → Q (.returned (.agg A.enc.toArray)) (put V (W.heap.size + 1) A.enc)) := by
    intro V O' T' U' A ts h1 h2 h3 h4
    rw [HQ.out]
    exact step_fin hx1 hO1 (by omega) (by omega) h1 h2 h3 h4
  obtain ⟨b4, e4⟩ : ∃ b4, b4 = W.heap.size + 1 := ⟨_, rfl⟩
  rw [← e4] at hb4 hf4 HF ⊢
  obtain ⟨b3, e3⟩ : ∃ b3, b3 = W.heap.size := ⟨_, rfl⟩
  rw [← e3] at hb3 ⊢
  have n34 : ¬ b3 = b4 := by omega
  have hl4 : O1 b4 = .a 6 0 := by rw [hO1, e4]; exact lab_ge (by omega)
  have hl3 : O1 b3 = .a 6 0 := by rw [hO1, e3]; exact lab_ge (Nat.le_refl _)
  have HL4 := hid_of hl4
  have HL3 := hid_of hl3
  have HM1 := hid_of hM1
  have HSZ : Hid (b3 < W1.heap.size ∧ b4 < W1.heap.size) := by
    show _ ∧ _
    omega
  have HX1 := hid_of hx1
  have al4 := Answer.length_enc (ans 0 0)
  clear e3 e4 hO1 hx1 hM1 hM hsz hl4 hl3
  obtain ⟨kd, hkd⟩ : ∃ kd, kd = op.kind := ⟨_, rfl⟩
  have hkk := HKD.out
  rw [← hkd] at k0 hkk
  have e0 : (kd == 0) = false := by simp; omega
  have e1 : (kd == 1) = false := by simp; omega
  have e2 : (kd == 2) = false := by simp; omega
  have e3 : (kd == 3) = false := by simp; omega
  have e4 : (kd == 4) = false := by simp; omega
  have e5 : (kd == 5) = false := by simp; omega
  have e6 : (kd == 6) = false := by simp; omega
  have HP : Hid (Q (.returned (.agg (Answer.enc (ans 12 0)).toArray)) (put W1 b4 (Answer.enc (ans 12 0)))) := HF.out W1 O1 T U (ans 12 0) [] (Fr.refl _ _ _) HM1.out (RwS.nil _ _) (.bad HKD.out)
  have hb4x := hb4
  clear hkd hkk
  go_wp2_with fail
  refine ret_cell (C := Answer.enc (ans 12 0)) rfl rfl ?_ (by kernel_rfl) (by rw [Answer.length_enc]; kernel_rfl) rfl HP.out
  first | (rw [blk_put, if_pos rfl, hb4x]; rfl) | (simp only [blk_put, if_true, hb4x, Option.map_some]; try rfl)
end Go.Proofs.Qxb6500788a
