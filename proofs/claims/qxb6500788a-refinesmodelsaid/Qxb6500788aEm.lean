import Derived.Test.Qxb6500788aEl
import Derived.StillTailTactics
import Derived.Deep.QuietTactic
import Derived.BigQuiet
import Derived.Deep.RegionHeld
import Derived.Deep.CutRange
import Derived.Laws.ResultCell
import Derived.Laws.Rows
import Derived.DeepKeys
import Derived.DataBytes
import Derived.Laws.StructEq
import Derived.Laws.AppendOwn
import Derived.Laws.MakeOwn
set_option linter.unusedSimpArgs false
set_option linter.unusedVariables false
namespace Go.Proofs.Qxb6500788a
open Go.RowKit Go.Blk
attribute [local go_sem ↓] execOp_load execOp_store execOp_alloc
attribute [local go_sem] Try.ld24 Try.st24 Try.ld25 Try.st25 Try.ld3 Try.st3 Try.ld30 Try.st30 Try.ld36 Try.st36 Try.ld4 Try.st4 Try.ld41 Try.st41 Try.ld50 Try.st50 Try.ld40 Try.st40 Try.ld42 Try.st42 Try.ld89 Try.st89 Try.ld91 Try.st91 Try.ld56 Try.st56 Try.ld97 Try.st97 Try.ld98 Try.st98 Try.ld101 Try.st101 Try.ld104 Try.st104 Try.ld57 Try.st57 Try.ld130 Try.st130 Try.ld2 Try.st2 Try.ld5 Try.st5 Try.ld9 Try.st9 Try.ld12 Try.st12 Try.ld21 Try.st21 Try.ld22 Try.st22 Try.ld29 Try.st29 Try.ld33 Try.st33 Try.ld59 Try.st59 Try.ld62 Try.st62 Try.ld69 Try.st69 Try.ld94 Try.st94 Try.ld96 Try.st96 Try.ld129 Try.st129 Try.ld158 Try.st158 Try.ld162 Try.st162 Try.ld47 Try.st47 Try.ld44 Try.st44 Try.ld137 Try.st137 Try.ld145 Try.st145 Try.ld43 Try.st43 Try.ld27 Try.st27 Try.ld38 Try.st38 Try.ld46 Try.st46 Try.ld49 Try.st49 Try.ld52 Try.st52 Try.ld54 Try.st54 Try.ld61 Try.st61 Try.ld80 Try.st80 Try.ld87 Try.st87 Try.ld93 Try.st93 Try.ld100 Try.st100 Try.ld103 Try.st103 Try.ld106 Try.st106 Try.ld109 Try.st109 Try.ld132 Try.st132 Try.ld147 Try.st147 Try.al47 Try.al44 Try.al137 Try.al145 Try.al43 Try.al27 Try.al38 Try.al46 Try.al49 Try.al52 Try.al54 Try.al61 Try.al80 Try.al87 Try.al93 Try.al100 Try.al103 Try.al106 Try.al109 Try.al132 Try.al147
attribute [local go_sem] GProgram.length_enc GProgram.ok_enc GProgram.all_get GProgram.all_set GProgram.preds_get GProgram.preds_set GProgram.rules_get GProgram.rules_set GProgram.strata_get GProgram.strata_set Answer.length_enc Answer.ok_enc Answer.all_get Answer.all_set Answer.code_get Answer.code_set Answer.n_get Answer.n_set Answer.rows_get Answer.rows_set Term.length_enc Term.ok_enc Term.all_get Term.all_set Term.var_get Term.var_set Term.n_get Term.n_set Atom.length_enc Atom.ok_enc Atom.all_get Atom.all_set Atom.pred_get Atom.pred_set Atom.args_get Atom.args_set GRule.length_enc GRule.ok_enc GRule.all_get GRule.all_set GRule.head_get GRule.head_set GRule.body_get GRule.body_set GRule.head_pred_get GRule.head_pred_set GRule.head_args_get GRule.head_args_set GOp.length_enc GOp.ok_enc GOp.all_get GOp.all_set GOp.kind_get GOp.kind_set GOp.pred_get GOp.pred_set GOp.t_get GOp.t_set GOp.n_get GOp.n_set GOp.base_get GOp.base_set GOp.rule_get GOp.rule_set GOp.rule_head_get GOp.rule_head_set GOp.rule_body_get GOp.rule_body_set GOp.rule_head_pred_get GOp.rule_head_pred_set GOp.rule_head_args_get GOp.rule_head_args_set PredInfo.length_enc PredInfo.ok_enc PredInfo.all_get PredInfo.all_set PredInfo.arity_get PredInfo.arity_set PredInfo.base_get PredInfo.base_set PredInfo.stratum_get PredInfo.stratum_set GStats.length_enc GStats.ok_enc GStats.all_get GStats.all_set GStats.rounds_get GStats.rounds_set GStats.fired_get GStats.fired_set GStats.emitted_get GStats.emitted_set GStats.fresh_get GStats.fresh_set Literal.length_enc Literal.ok_enc Literal.all_get Literal.all_set Literal.neg_get Literal.neg_set Literal.atom_get Literal.atom_set Literal.atom_pred_get Literal.atom_pred_set Literal.atom_args_get Literal.atom_args_set Engine.length_enc Engine.ok_enc Engine.all_get Engine.all_set Engine.prog_get Engine.prog_set Engine.st_get Engine.st_set Engine.levels_get Engine.levels_set Engine.running_get Engine.running_set Engine.stratum_get Engine.stratum_set Engine.round_get Engine.round_set Engine.saved_get Engine.saved_set Engine.stats_get Engine.stats_set Engine.prog_preds_get Engine.prog_preds_set Engine.prog_rules_get Engine.prog_rules_set Engine.prog_strata_get Engine.prog_strata_set Engine.stats_rounds_get Engine.stats_rounds_set Engine.stats_fired_get Engine.stats_fired_set Engine.stats_emitted_get Engine.stats_emitted_set Engine.stats_fresh_get Engine.stats_fresh_set Level.length_enc Level.ok_enc Level.all_get Level.all_set Level.heads_get Level.heads_set Level.jobs_get Level.jobs_set Plan.length_enc Plan.ok_enc Plan.all_get Plan.all_set Plan.rule_get Plan.rule_set Plan.delta_get Plan.delta_set Plan.src_get Plan.src_set Job.length_enc Job.ok_enc Job.all_get Job.all_set Job.full_get Job.full_set Job.deltas_get Job.deltas_set Job.full_rule_get Job.full_rule_set Job.full_delta_get Job.full_delta_set Job.full_src_get Job.full_src_set GState.length_enc GState.ok_enc GState.all_get GState.all_set GState.prog_get GState.prog_set GState.base_get GState.base_set GState.shown_get GState.shown_set GState.prog_preds_get GState.prog_preds_set GState.prog_rules_get GState.prog_rules_set GState.prog_strata_get GState.prog_strata_set Store.length_enc Store.ok_enc Store.all_get Store.all_set Store.arity_get Store.arity_set Store.rows_get Store.rows_set Env.length_enc Env.ok_enc Env.all_get Env.all_set Env.val_get Env.val_set Env.set_get Env.set_set
attribute [local go_sem] size_put size_ext blk_put free_put blk_alloc free_alloc blk_drew free_drew blk_ext free_ext lookOr_some putOr_some segAt_some cellAt_some storeIn_some put_put put_alloc_new length_arr ok_arr_u8 ok_arr_u32 ok_arr_u64 ok_arr_i64 ok_arr_sl cellsV_agg cellsV_int cellsV_bool cellsV_string cellsV_pointer cellsV_slice cellsV_sl ok_int ok_bool ok_string ok_pointer ok_slice ok_sl toList_arr seg_arr set_arr nth_splice nth_splice0 seg_splice seg_splice0 splice_splice splice_splice0 length_splice_if
attribute [local go_sem ↓] execOp_box
attribute [local go_sem] box_run nth_arr_u8 put_arr_u8 blk_drewN free_drewN put_drewN blk_raw free_raw
/-- A step of a script, told plainly: new rows, code, number, listed rows. -/
inductive PlayR (p : Pg) (S : List (List Tup)) (op : GOp) : List (List Tup) → Int → Int → List Tup → Prop
  | skip : op.kind = 0 ∨ op.kind = 1 → PlayR p S op S 0 0 []
  | fact : op.kind = 2 → PlayR p S op (addS p false S op.pred op.t) (addC p false S op.pred op.t) 0 []
  | drop : op.kind = 3 → PlayR p S op (dropS p false S op.pred op.t) (dropC p false S op.pred op.t) 0 []
  | over : op.kind = 4 → RunsTo p 0 0 (begS p S p.P.length, ⟨0, 0, 0, 0⟩) none → PlayR p S op S 3 0 []
  | runs {σ : StQ} : op.kind = 4 → RunsTo p 0 0 (begS p S p.P.length, ⟨0, 0, 0, 0⟩) (some σ) → PlayR p S op σ.1 0 0 []
  | has : op.kind = 5 → PlayR p S op S (ckT p op.pred op.t) (if (if ckT p op.pred op.t ≠ 0 then false else decide (op.t ∈ rowsAt S (3 * op.pred.toNat))) = true then 1 else 0) []
  | list : op.kind = 6 → PlayR p S op S (if inT p op.pred then 0 else 5) 0 (if inT p op.pred then rowsAt S (3 * op.pred.toNat) else [])
  | bad : ¬ (0 ≤ op.kind ∧ op.kind ≤ 6) → PlayR p S op S 12 0 []
def PlayPost (B : Nat) (O : Own) (W : World) (g be : Nat) (p : Pg) (S : List (List Tup)) (op : GOp) (e : Ending) (W' : World) : Prop :=
  ∃ (S' : List (List Tup)) (A : Answer) (ts : List Tup) (x' : Engine) (sav' : List (List Tup)) (O' : Own), e = .returned (.agg A.enc.toArray) ∧ PlayR p S op S' A.code A.n ts ∧ x'.running = false ∧ Fr (isE g) O W O' W' ∧ EAt B O' W' g be p x' S' sav' ∧ Rw tpl 4 (core O' W') A.rows.a A.rows.len ts
/-- Two blocks rewritten. -/
structure Sc (W V : World) (b4 b5 : Nat) : Prop where
  os : V.os = W.os
  tape : V.tape = W.tape
  output : V.output = W.output
  size : V.heap.size = W.heap.size
  block : ∀ k, k ≠ b4 → k ≠ b5 → V.heap[k]? = W.heap[k]?
theorem Sc.refl (W : World) (b4 b5 : Nat) : Sc W W b4 b5 := ⟨rfl, rfl, rfl, rfl, fun _ _ _ => rfl⟩
theorem put_fr (V : World) (b : Nat) (C : List Value) : Fr (fun _ => True) (fun _ => Lab.no) V (fun _ => Lab.no) (put V b C) := (Fr.refl _ _ V).put trivial C
theorem Sc.p4 {W V : World} {b4 b5 : Nat} (h : Sc W V b4 b5) (C : List Value) : Sc W (put V b4 C) b4 b5 := ⟨(put_fr V b4 C).os.trans h.os, (put_fr V b4 C).tape.trans h.tape, (put_fr V b4 C).output.trans h.output, by rw [size_put]; exact h.size, fun k h4 h5 => by rw [heap_put, if_neg h4]; exact h.block k h4 h5⟩
theorem Sc.p5 {W V : World} {b4 b5 : Nat} (h : Sc W V b4 b5) (C : List Value) : Sc W (put V b5 C) b4 b5 := ⟨(put_fr V b5 C).os.trans h.os, (put_fr V b5 C).tape.trans h.tape, (put_fr V b5 C).output.trans h.output, by rw [size_put]; exact h.size, fun k h4 h5 => by rw [heap_put, if_neg h5]; exact h.block k h4 h5⟩
def scr (g : Nat) : Lab := .a (g + 100) 0
theorem scr_e (g : Nat) : ¬ isE g (scr g) := by
  rintro (⟨n, e⟩ | ⟨n, e⟩) <;> (injection e with e _; omega)
theorem play_fin {B : Nat} {O : Own} {W W0 W1 Wf : World} {g be b4 b5 : Nat} {p : Pg} {S S' : List (List Tup)} {op : GOp} {O' : Own} {x' : Engine} {sav' : List (List Tup)} {A : Answer} {ts : List Tup} (hx : W.Extends W0) (h4 : W.heap.size ≤ b4) (h5 : W.heap.size ≤ b5) (l4 : b4 < W0.heap.size) (l5 : b5 < W0.heap.size) (hF : Fr (isE g) (lab O W.heap.size (scr g)) W0 O' W1) (hE : EAt B O' W1 g be p x' S' sav') (hr : x'.running = false) (hR : Rw tpl 4 (core O' W1) A.rows.a A.rows.len ts) (hP : PlayR p S op S' A.code A.n ts) (hs : Sc W1 Wf b4 b5) : PlayPost B O W g be p S op (.returned (.agg A.enc.toArray)) Wf := by
  have o4 : O' b4 = scr g := (hF.keep b4 l4).trans (lab_ge h4)
  have o5 : O' b5 = scr g := (hF.keep b5 l5).trans (lab_ge h5)
  have hFs : Fr (fun l => l = scr g) O' W1 O' Wf := ⟨hs.os, hs.tape, hs.output, by rw [hs.size]; exact Nat.le_refl _, fun _ _ => rfl, fun k _ hk => hs.block k (fun e => hk (by rw [e]; exact o4)) (fun e => hk (by rw [e]; exact o5))⟩
  have hno : ¬ (Lab.no = scr g) := by intro e; cases e
  have hF0 := fr_lab hF hx
  refine ⟨S', A, ts, x', sav', O', rfl, hP, hr, ⟨hs.os.trans hF0.os, hs.tape.trans hF0.tape, hs.output.trans hF0.output, by rw [hs.size]; exact hF0.size, hF0.keep, fun k hk hl => (hs.block k (by omega) (by omega)).trans (hF0.block k hk hl)⟩, hE.fr hFs (fun l hl e => scr_e g (e ▸ hl)) hno, hR.grow (core_fr hFs hno)⟩
def ans (c n : Int) : Answer := ⟨c, n, ⟨none, 0, 0⟩⟩
set_option maxRecDepth 20000 in
set_option maxHeartbeats 8000000 in
theorem play_any (B : Nat) (O : Own) (W : World) (g be : Nat) (p : Pg) (x : Engine) (S sav : List (List Tup)) (hE : EAt B O W g be p x S sav) (hok : PgOk p) (hrun : x.running = false) (hid : Idle p S) (op : GOp) :
    Calls Try.prog 14 #[.pointer (some ⟨be, 0, none⟩), .agg (GOp.enc op).toArray] W (PlayPost B O W g be p S op) := by
  obtain ⟨kind, pred, t, n, base, rule⟩ := op
  go_enter Try.func14, Try.ntmps14
  go_upto_region 2 with fail
  refine wp_world (fun W0 => blk W0 W.heap.size = some (GOp.enc ⟨kind, pred, t, n, base, rule⟩) ∧ blk W0 (W.heap.size + 1) = some (Answer.enc Answer.zero) ∧ blk W0 (W.heap.size + 2) = some (Answer.enc Answer.zero) ∧ free W0 (W.heap.size + 1) = true ∧ free W0 (W.heap.size + 2) = true ∧ W.Extends W0 ∧ W0.heap.size = W.heap.size + 3) ⟨?_, ?_, ?_, ?_, ?_, ?_, ?_⟩ ?_
  · rw [blk_alloc, if_neg (by rw [World.size_alloc, World.size_alloc]; omega), blk_alloc, if_neg (by rw [World.size_alloc]; omega), blk_alloc, if_pos rfl]
  · rw [blk_alloc, if_neg (by rw [World.size_alloc, World.size_alloc]; omega), blk_alloc, if_pos (by rw [World.size_alloc])]
  · rw [blk_alloc, if_pos (by rw [World.size_alloc, World.size_alloc])]
  · unfold free; rw [heap_alloc, if_neg (by rw [World.size_alloc, World.size_alloc]; omega), heap_alloc, if_pos (by rw [World.size_alloc])]; rfl
  · unfold free; rw [heap_alloc, if_pos (by rw [World.size_alloc, World.size_alloc])]; rfl
  · exact extends_alloc (extends_alloc (extends_alloc (ext_Ext (Ext.refl _)) _) _) _
  · simp [World.size_alloc]
  rintro W0 ⟨hb3, hb4, hb5, hf4, hf5, hx, hsz⟩
  have hE0 : EAt B (lab O W.heap.size (scr g)) W0 g be p x S sav := hE.new hx _
  have HFIN : Hid (∀ (O' : Own) (W1 : World) (S' : List (List Tup)) (x' : Engine) (sav' : List (List Tup)) (A : Answer) (ts : List Tup), Fr (isE g) (lab O W.heap.size (scr g)) W0 O' W1 → EAt B O' W1 g be p x' S' sav' → x'.running = false → Rw tpl 4 (core O' W1) A.rows.a A.rows.len ts → PlayR p S ⟨kind, pred, t, n, base, rule⟩ S' A.code A.n ts → ∀ Wf, Sc W1 Wf (W.heap.size + 1) (W.heap.size + 2) → PlayPost B O W g be p S ⟨kind, pred, t, n, base, rule⟩ (.returned (.agg A.enc.toArray)) Wf) :=
    fun O' W1 S' x' sav' A ts h1 h2 h3 h4 h5 Wf h6 => play_fin hx (by omega) (by omega) (by omega) (by omega) h1 h2 h3 h4 h5 h6
  have ll4 : lab O W.heap.size (scr g) (W.heap.size + 1) = scr g := lab_ge (by omega)
  have ll5 : lab O W.heap.size (scr g) (W.heap.size + 2) = scr g := lab_ge (by omega)
  obtain ⟨b3, e3⟩ : ∃ b, b = W.heap.size := ⟨_, rfl⟩
  obtain ⟨b4, e4⟩ : ∃ b, b = W.heap.size + 1 := ⟨_, rfl⟩
  obtain ⟨b5, e5⟩ : ∃ b, b = W.heap.size + 2 := ⟨_, rfl⟩
  have n45 : ¬ b4 = b5 := by omega
  have n54 : ¬ b5 = b4 := by omega
  rw [← e5, ← e4] at HFIN
  rw [← e4] at hb4 hf4 ll4
  rw [← e5] at hb5 hf5 ll5
  rw [← e3] at hb3
  obtain ⟨O1, hO1d⟩ : ∃ O1, O1 = lab O W.heap.size (scr g) := ⟨_, rfl⟩
  rw [← hO1d] at HFIN hE0 ll4 ll5
  have HE0 := hid_of hE0
  have HL : Hid (O1 b4 = scr g ∧ O1 b5 = scr g) := ⟨ll4, ll5⟩
  have HOK := hid_of hok
  have HRUN := hid_of hrun
  have HID := hid_of hid
  rw [← e5, ← e4, ← e3]
  clear hx hsz hE0 hE e3 e4 e5 hO1d ll4 ll5 hok hrun hid
  by_cases hk : kind = 0
  · subst hk
    have HE := hid_of (fun Wf h => HFIN.out O1 W0 S x sav (ans 0 0) [] (Fr.refl _ _ _) HE0.out HRUN.out (rw_nil _) (PlayR.skip (.inl rfl)) Wf h)
    have hb41 := hb4
    have hb51 := hb5
    clear HFIN HE0
    go_wp2_with fail
    refine ret_cell (C := Answer.enc (ans 0 0)) rfl rfl ?_ (by kernel_rfl) (by rw [Answer.length_enc]; kernel_rfl) rfl (HE.out _ ?_)
    · simp only [blk_put, if_neg n45, if_neg n54, if_true, hb41, hb51, Option.map_some]; try rfl
    · repeat first | exact Sc.refl _ _ _ | apply Sc.p4 | apply Sc.p5
  have hk0 : (kind == 0) = false := by simp [hk]
  have HK0 := hid_of hk
  clear hk
  by_cases hk : kind = 1
  · subst hk
    have HE := hid_of (fun Wf h => HFIN.out O1 W0 S x sav (ans 0 0) [] (Fr.refl _ _ _) HE0.out HRUN.out (rw_nil _) (PlayR.skip (.inr rfl)) Wf h)
    have hb41 := hb4
    have hb51 := hb5
    clear HFIN HE0
    go_wp2_with fail
    refine ret_cell (C := Answer.enc (ans 0 0)) rfl rfl ?_ (by kernel_rfl) (by rw [Answer.length_enc]; kernel_rfl) rfl (HE.out _ ?_)
    · simp only [blk_put, if_neg n45, if_neg n54, if_true, hb41, hb51, Option.map_some]; try rfl
    · repeat first | exact Sc.refl _ _ _ | apply Sc.p4 | apply Sc.p5
  have hk1 : (kind == 1) = false := by simp [hk]
  have HK1 := hid_of hk
  clear hk
  by_cases hk : kind = 2
  · subst hk
    have hcall := add_any B O1 W0 g be p x S sav HE0.out HOK.out HID.out.1.1 HID.out.1.2.1 pred t
    rw [HRUN.out] at hcall
    obtain ⟨q, hq⟩ : ∃ q, q = addC p false S pred t := ⟨_, rfl⟩
    obtain ⟨S1, hS1⟩ : ∃ S1, S1 = addS p false S pred t := ⟨_, rfl⟩
    rw [← hq, ← hS1] at hcall
    have HPR : Hid (PlayR p S ⟨2, pred, t, n, base, rule⟩ S1 q 0 []) := by
      show PlayR _ _ _ _ _ _ _
      rw [hq, hS1]; exact PlayR.fact rfl
    clear hq hS1
    go_wp2_with fail
    refine hcall.mono ?_
    rintro e W1 ⟨rfl, O', hF, hE'⟩
    have HE := hid_of (fun Wf h => HFIN.out O' W1 S1 x sav (ans q 0) [] hF hE' HRUN.out (rw_nil _) HPR.out Wf h)
    have hb41 := hF.blk hb4 (by rw [HL.out.1]; exact scr_e g)
    have hb51 := hF.blk hb5 (by rw [HL.out.2]; exact scr_e g)
    have hf41 := hF.free hb4 hf4 (by rw [HL.out.1]; exact scr_e g)
    have hf51 := hF.free hb5 hf5 (by rw [HL.out.2]; exact scr_e g)
    clear hF hE' HFIN HE0 hb4 hb5 hf4 hf5 
    dsimp only
    go_wp2_with fail
    refine ret_cell (C := Answer.enc (ans q 0)) rfl rfl ?_ (by kernel_rfl) (by rw [Answer.length_enc]; kernel_rfl) rfl (HE.out _ ?_)
    · simp only [blk_put, if_neg n45, if_neg n54, if_true, hb41, hb51, Option.map_some]; try rfl
    · repeat first | exact Sc.refl _ _ _ | apply Sc.p4 | apply Sc.p5
  have hk2 : (kind == 2) = false := by simp [hk]
  have HK2 := hid_of hk
  clear hk
  by_cases hk : kind = 3
  · subst hk
    have hcall := drop_any B O1 W0 g be p x S sav HE0.out HOK.out HID.out.1.1 HID.out.1.2.1 pred t
    rw [HRUN.out] at hcall
    obtain ⟨q, hq⟩ : ∃ q, q = dropC p false S pred t := ⟨_, rfl⟩
    obtain ⟨S1, hS1⟩ : ∃ S1, S1 = dropS p false S pred t := ⟨_, rfl⟩
    rw [← hq, ← hS1] at hcall
    have HPR : Hid (PlayR p S ⟨3, pred, t, n, base, rule⟩ S1 q 0 []) := by
      show PlayR _ _ _ _ _ _ _
      rw [hq, hS1]; exact PlayR.drop rfl
    clear hq hS1
    go_wp2_with fail
    refine hcall.mono ?_
    rintro e W1 ⟨rfl, O', hF, hE'⟩
    have HE := hid_of (fun Wf h => HFIN.out O' W1 S1 x sav (ans q 0) [] hF hE' HRUN.out (rw_nil _) HPR.out Wf h)
    have hb41 := hF.blk hb4 (by rw [HL.out.1]; exact scr_e g)
    have hb51 := hF.blk hb5 (by rw [HL.out.2]; exact scr_e g)
    have hf41 := hF.free hb4 hf4 (by rw [HL.out.1]; exact scr_e g)
    have hf51 := hF.free hb5 hf5 (by rw [HL.out.2]; exact scr_e g)
    clear hF hE' HFIN HE0 hb4 hb5 hf4 hf5 
    dsimp only
    go_wp2_with fail
    refine ret_cell (C := Answer.enc (ans q 0)) rfl rfl ?_ (by kernel_rfl) (by rw [Answer.length_enc]; kernel_rfl) rfl (HE.out _ ?_)
    · simp only [blk_put, if_neg n45, if_neg n54, if_true, hb41, hb51, Option.map_some]; try rfl
    · repeat first | exact Sc.refl _ _ _ | apply Sc.p4 | apply Sc.p5
  have hk3 : (kind == 3) = false := by simp [hk]
  have HK3 := hid_of hk
  clear hk
  by_cases hk : kind = 4
  · subst hk
    have hcall := runE_any B O1 W0 g be p x S sav HE0.out HOK.out HRUN.out HID.out
    go_wp2_with fail
    refine hcall.mono ?_
    rintro e W1 ⟨r, hr, x', sav', hx1, -, hres⟩
    cases r with
    | none =>
      obtain ⟨rfl, O', hF, hE'⟩ := hres
      have HE := hid_of (fun Wf h => HFIN.out O' W1 S x' sav' (ans 3 0) [] hF hE' hx1 (rw_nil _) (PlayR.over rfl hr) Wf h)
      have hb41 := hF.blk hb4 (by rw [HL.out.1]; exact scr_e g)
      have hb51 := hF.blk hb5 (by rw [HL.out.2]; exact scr_e g)
      have hf41 := hF.free hb4 hf4 (by rw [HL.out.1]; exact scr_e g)
      have hf51 := hF.free hb5 hf5 (by rw [HL.out.2]; exact scr_e g)
      clear hF hE' HFIN HE0 hb4 hb5 hf4 hf5 
      dsimp only
      go_wp2_with fail
      refine ret_cell (C := Answer.enc (ans 3 0)) rfl rfl ?_ (by kernel_rfl) (by rw [Answer.length_enc]; kernel_rfl) rfl (HE.out _ ?_)
      · simp only [blk_put, if_neg n45, if_neg n54, if_true, hb41, hb51, Option.map_some]; try rfl
      · repeat first | exact Sc.refl _ _ _ | apply Sc.p4 | apply Sc.p5
    | some σ =>
      obtain ⟨rfl, O', hF, hE'⟩ := hres
      have HE := hid_of (fun Wf h => HFIN.out O' W1 σ.1 x' sav' (ans 0 0) [] hF hE' hx1 (rw_nil _) (PlayR.runs rfl hr) Wf h)
      have hb41 := hF.blk hb4 (by rw [HL.out.1]; exact scr_e g)
      have hb51 := hF.blk hb5 (by rw [HL.out.2]; exact scr_e g)
      have hf41 := hF.free hb4 hf4 (by rw [HL.out.1]; exact scr_e g)
      have hf51 := hF.free hb5 hf5 (by rw [HL.out.2]; exact scr_e g)
      clear hF hE' HFIN HE0 hb4 hb5 hf4 hf5 
      dsimp only
      go_wp2_with fail
      refine ret_cell (C := Answer.enc (ans 0 0)) rfl rfl ?_ (by kernel_rfl) (by rw [Answer.length_enc]; kernel_rfl) rfl (HE.out _ ?_)
      · simp only [blk_put, if_neg n45, if_neg n54, if_true, hb41, hb51, Option.map_some]; try rfl
      · repeat first | exact Sc.refl _ _ _ | apply Sc.p4 | apply Sc.p5
  have hk4 : (kind == 4) = false := by simp [hk]
  have HK4 := hid_of hk
  clear hk
  by_cases hk : kind = 5
  · subst hk
    have hcall := has_any B O1 W0 g be p x S sav HE0.out HOK.out HID.out.1.1 HID.out.1.2.1 pred t
    obtain ⟨q, hq⟩ : ∃ q, q = ckT p pred t := ⟨_, rfl⟩
    obtain ⟨b, hb⟩ : ∃ b, b = (if ckT p pred t ≠ 0 then false else decide (t ∈ rowsAt S (3 * pred.toNat))) := ⟨_, rfl⟩
    rw [← hb, ← hq] at hcall
    have HPR : Hid (PlayR p S ⟨5, pred, t, n, base, rule⟩ S q (if b = true then 1 else 0) []) := by
      show PlayR _ _ _ _ _ _ _
      rw [hq, hb]; exact PlayR.has rfl
    clear hq hb
    go_wp2_with fail
    refine hcall.mono ?_
    rintro e W1 ⟨rfl, hx1⟩
    obtain ⟨O', hF, hE'⟩ : ∃ O', Fr (isE g) O1 W0 O' W1 ∧ EAt B O' W1 g be p x S sav := ⟨O1, Fr.of_extends hx1, HE0.out.ext hx1⟩
    clear hx1
    cases b with
    | true =>
      have HE := hid_of (fun Wf h => HFIN.out O' W1 S x sav (ans q 1) [] hF hE' HRUN.out (rw_nil _) HPR.out Wf h)
      have hb41 := hF.blk hb4 (by rw [HL.out.1]; exact scr_e g)
      have hb51 := hF.blk hb5 (by rw [HL.out.2]; exact scr_e g)
      have hf41 := hF.free hb4 hf4 (by rw [HL.out.1]; exact scr_e g)
      have hf51 := hF.free hb5 hf5 (by rw [HL.out.2]; exact scr_e g)
      clear hF hE' HFIN HE0 hb4 hb5 hf4 hf5 
      dsimp only
      go_wp2_with fail
      refine ret_cell (C := Answer.enc (ans q 1)) rfl rfl ?_ (by kernel_rfl) (by rw [Answer.length_enc]; kernel_rfl) rfl (HE.out _ ?_)
      · simp only [blk_put, if_neg n45, if_neg n54, if_true, hb41, hb51, Option.map_some]; try rfl
      · repeat first | exact Sc.refl _ _ _ | apply Sc.p4 | apply Sc.p5
    | false =>
      have HE := hid_of (fun Wf h => HFIN.out O' W1 S x sav (ans q 0) [] hF hE' HRUN.out (rw_nil _) HPR.out Wf h)
      have hb41 := hF.blk hb4 (by rw [HL.out.1]; exact scr_e g)
      have hb51 := hF.blk hb5 (by rw [HL.out.2]; exact scr_e g)
      have hf41 := hF.free hb4 hf4 (by rw [HL.out.1]; exact scr_e g)
      have hf51 := hF.free hb5 hf5 (by rw [HL.out.2]; exact scr_e g)
      clear hF hE' HFIN HE0 hb4 hb5 hf4 hf5 
      dsimp only
      go_wp2_with fail
      refine ret_cell (C := Answer.enc (ans q 0)) rfl rfl ?_ (by kernel_rfl) (by rw [Answer.length_enc]; kernel_rfl) rfl (HE.out _ ?_)
      · simp only [blk_put, if_neg n45, if_neg n54, if_true, hb41, hb51, Option.map_some]; try rfl
      · repeat first | exact Sc.refl _ _ _ | apply Sc.p4 | apply Sc.p5
  have hk5 : (kind == 5) = false := by simp [hk]
  have HK5 := hid_of hk
  clear hk
  by_cases hk : kind = 6
  · subst hk
    have hcall := listE_any B O1 W0 g be p x S sav HE0.out HOK.out HID.out.1.1 HID.out.1.2.1 pred
    obtain ⟨q, hq⟩ : ∃ q : Int, q = (if inT p pred then 0 else 5) := ⟨_, rfl⟩
    obtain ⟨L, hL⟩ : ∃ L, L = (if inT p pred then rowsAt S (3 * pred.toNat) else []) := ⟨_, rfl⟩
    rw [← hL, ← hq] at hcall
    have HPR : Hid (PlayR p S ⟨6, pred, t, n, base, rule⟩ S q 0 L) := by
      show PlayR _ _ _ _ _ _ _
      rw [hq, hL]; exact PlayR.list rfl
    clear hq hL
    go_wp2_with fail
    refine hcall.mono ?_
    rintro e W1 ⟨a, m, c, rfl, ho⟩
    obtain ⟨O', hF, hE', hRw⟩ : ∃ O', Fr (isE g) O1 W0 O' W1 ∧ EAt B O' W1 g be p x S sav ∧ Rw tpl 4 (core O' W1) a m L := ⟨lab O1 W0.heap.size .no, fr_lab (Fr.refl _ _ _) ho.2.1, HE0.out.new ho.2.1 _, outs_core ho⟩
    clear ho
    have HE := hid_of (fun Wf h => HFIN.out O' W1 S x sav ⟨q, 0, ⟨a, m, c⟩⟩ L hF hE' HRUN.out hRw HPR.out Wf h)
    have hb41 := hF.blk hb4 (by rw [HL.out.1]; exact scr_e g)
    have hb51 := hF.blk hb5 (by rw [HL.out.2]; exact scr_e g)
    have hf41 := hF.free hb4 hf4 (by rw [HL.out.1]; exact scr_e g)
    have hf51 := hF.free hb5 hf5 (by rw [HL.out.2]; exact scr_e g)
    clear hF hE' HFIN HE0 hb4 hb5 hf4 hf5 hRw
    dsimp only
    go_wp2_with fail
    refine ret_cell (C := Answer.enc ⟨q, 0, ⟨a, m, c⟩⟩) rfl rfl ?_ (by kernel_rfl) (by rw [Answer.length_enc]; kernel_rfl) rfl (HE.out _ ?_)
    · simp only [blk_put, if_neg n45, if_neg n54, if_true, hb41, hb51, Option.map_some]; try rfl
    · repeat first | exact Sc.refl _ _ _ | apply Sc.p4 | apply Sc.p5
  have hk6 : (kind == 6) = false := by simp [hk]
  have HK6 := hid_of hk
  clear hk
  have HBAD : Hid (PlayR p S ⟨kind, pred, t, n, base, rule⟩ S 12 0 []) := by
    refine PlayR.bad (fun hi => ?_)
    have h : kind = 0 ∨ kind = 1 ∨ kind = 2 ∨ kind = 3 ∨ kind = 4 ∨ kind = 5 ∨ kind = 6 := by
      have h1 : 0 ≤ kind := hi.1
      have h2 : kind ≤ 6 := hi.2
      omega
    rcases h with h | h | h | h | h | h | h
    · exact HK0.out h
    · exact HK1.out h
    · exact HK2.out h
    · exact HK3.out h
    · exact HK4.out h
    · exact HK5.out h
    · exact HK6.out h
  have HE := hid_of (fun Wf h => HFIN.out O1 W0 S x sav (ans 12 0) [] (Fr.refl _ _ _) HE0.out HRUN.out (rw_nil _) HBAD.out Wf h)
  have hb41 := hb4
  have hb51 := hb5
  clear HFIN HE0
  go_wp2_with fail
  refine ret_cell (C := Answer.enc (ans 12 0)) rfl rfl ?_ (by kernel_rfl) (by rw [Answer.length_enc]; kernel_rfl) rfl (HE.out _ ?_)
  · simp only [blk_put, if_neg n45, if_neg n54, if_true, hb41, hb51, Option.map_some]; try rfl
  · repeat first | exact Sc.refl _ _ _ | apply Sc.p4 | apply Sc.p5
end Go.Proofs.Qxb6500788a
