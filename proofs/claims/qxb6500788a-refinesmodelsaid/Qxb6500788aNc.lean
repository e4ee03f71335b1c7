import Derived.Test.Qxb6500788aNb
import Derived.StillTailTactics
import Derived.Deep.QuietTactic
import Derived.BigQuiet
import Derived.Deep.RegionHeld
import Derived.Deep.CutRange
import Derived.Laws.ResultCell
import Derived.Laws.Rows
import Derived.DeepKeys
import Derived.DataBytes
import Derived.Laws.StructEq
import Derived.Laws.AppendOwn
import Derived.Laws.MakeOwn
set_option linter.unusedSimpArgs false
set_option linter.unusedVariables false
namespace Go.Proofs.Qxb6500788a
open Go.RowKit Go.Blk
attribute [local go_sem ↓] execOp_load execOp_store execOp_alloc
attribute [local go_sem] Try.ld24 Try.st24 Try.ld25 Try.st25 Try.ld3 Try.st3 Try.ld30 Try.st30 Try.ld36 Try.st36 Try.ld4 Try.st4 Try.ld41 Try.st41 Try.ld50 Try.st50 Try.ld40 Try.st40 Try.ld42 Try.st42 Try.ld89 Try.st89 Try.ld91 Try.st91 Try.ld56 Try.st56 Try.ld97 Try.st97 Try.ld98 Try.st98 Try.ld101 Try.st101 Try.ld104 Try.st104 Try.ld57 Try.st57 Try.ld130 Try.st130 Try.ld2 Try.st2 Try.ld5 Try.st5 Try.ld9 Try.st9 Try.ld12 Try.st12 Try.ld21 Try.st21 Try.ld22 Try.st22 Try.ld29 Try.st29 Try.ld33 Try.st33 Try.ld59 Try.st59 Try.ld62 Try.st62 Try.ld69 Try.st69 Try.ld94 Try.st94 Try.ld96 Try.st96 Try.ld129 Try.st129 Try.ld158 Try.st158 Try.ld162 Try.st162 Try.ld47 Try.st47 Try.ld44 Try.st44 Try.ld137 Try.st137 Try.ld145 Try.st145 Try.ld43 Try.st43 Try.ld27 Try.st27 Try.ld38 Try.st38 Try.ld46 Try.st46 Try.ld49 Try.st49 Try.ld52 Try.st52 Try.ld54 Try.st54 Try.ld61 Try.st61 Try.ld80 Try.st80 Try.ld87 Try.st87 Try.ld93 Try.st93 Try.ld100 Try.st100 Try.ld103 Try.st103 Try.ld106 Try.st106 Try.ld109 Try.st109 Try.ld132 Try.st132 Try.ld147 Try.st147 Try.al47 Try.al44 Try.al137 Try.al145 Try.al43 Try.al27 Try.al38 Try.al46 Try.al49 Try.al52 Try.al54 Try.al61 Try.al80 Try.al87 Try.al93 Try.al100 Try.al103 Try.al106 Try.al109 Try.al132 Try.al147
attribute [local go_sem] GProgram.length_enc GProgram.ok_enc GProgram.all_get GProgram.all_set GProgram.preds_get GProgram.preds_set GProgram.rules_get GProgram.rules_set GProgram.strata_get GProgram.strata_set Answer.length_enc Answer.ok_enc Answer.all_get Answer.all_set Answer.code_get Answer.code_set Answer.n_get Answer.n_set Answer.rows_get Answer.rows_set Term.length_enc Term.ok_enc Term.all_get Term.all_set Term.var_get Term.var_set Term.n_get Term.n_set Atom.length_enc Atom.ok_enc Atom.all_get Atom.all_set Atom.pred_get Atom.pred_set Atom.args_get Atom.args_set GRule.length_enc GRule.ok_enc GRule.all_get GRule.all_set GRule.head_get GRule.head_set GRule.body_get GRule.body_set GRule.head_pred_get GRule.head_pred_set GRule.head_args_get GRule.head_args_set GOp.length_enc GOp.ok_enc GOp.all_get GOp.all_set GOp.kind_get GOp.kind_set GOp.pred_get GOp.pred_set GOp.t_get GOp.t_set GOp.n_get GOp.n_set GOp.base_get GOp.base_set GOp.rule_get GOp.rule_set GOp.rule_head_get GOp.rule_head_set GOp.rule_body_get GOp.rule_body_set GOp.rule_head_pred_get GOp.rule_head_pred_set GOp.rule_head_args_get GOp.rule_head_args_set PredInfo.length_enc PredInfo.ok_enc PredInfo.all_get PredInfo.all_set PredInfo.arity_get PredInfo.arity_set PredInfo.base_get PredInfo.base_set PredInfo.stratum_get PredInfo.stratum_set GStats.length_enc GStats.ok_enc GStats.all_get GStats.all_set GStats.rounds_get GStats.rounds_set GStats.fired_get GStats.fired_set GStats.emitted_get GStats.emitted_set GStats.fresh_get GStats.fresh_set Literal.length_enc Literal.ok_enc Literal.all_get Literal.all_set Literal.neg_get Literal.neg_set Literal.atom_get Literal.atom_set Literal.atom_pred_get Literal.atom_pred_set Literal.atom_args_get Literal.atom_args_set Engine.length_enc Engine.ok_enc Engine.all_get Engine.all_set Engine.prog_get Engine.prog_set Engine.st_get Engine.st_set Engine.levels_get Engine.levels_set Engine.running_get Engine.running_set Engine.stratum_get Engine.stratum_set Engine.round_get Engine.round_set Engine.saved_get Engine.saved_set Engine.stats_get Engine.stats_set Engine.prog_preds_get Engine.prog_preds_set Engine.prog_rules_get Engine.prog_rules_set Engine.prog_strata_get Engine.prog_strata_set Engine.stats_rounds_get Engine.stats_rounds_set Engine.stats_fired_get Engine.stats_fired_set Engine.stats_emitted_get Engine.stats_emitted_set Engine.stats_fresh_get Engine.stats_fresh_set Level.length_enc Level.ok_enc Level.all_get Level.all_set Level.heads_get Level.heads_set Level.jobs_get Level.jobs_set Plan.length_enc Plan.ok_enc Plan.all_get Plan.all_set Plan.rule_get Plan.rule_set Plan.delta_get Plan.delta_set Plan.src_get Plan.src_set Job.length_enc Job.ok_enc Job.all_get Job.all_set Job.full_get Job.full_set Job.deltas_get Job.deltas_set Job.full_rule_get Job.full_rule_set Job.full_delta_get Job.full_delta_set Job.full_src_get Job.full_src_set GState.length_enc GState.ok_enc GState.all_get GState.all_set GState.prog_get GState.prog_set GState.base_get GState.base_set GState.shown_get GState.shown_set GState.prog_preds_get GState.prog_preds_set GState.prog_rules_get GState.prog_rules_set GState.prog_strata_get GState.prog_strata_set Store.length_enc Store.ok_enc Store.all_get Store.all_set Store.arity_get Store.arity_set Store.rows_get Store.rows_set Env.length_enc Env.ok_enc Env.all_get Env.all_set Env.val_get Env.val_set Env.set_get Env.set_set
attribute [local go_sem] size_put size_ext blk_put free_put blk_alloc free_alloc blk_drew free_drew blk_ext free_ext lookOr_some putOr_some segAt_some cellAt_some storeIn_some put_put put_alloc_new length_arr ok_arr_u8 ok_arr_u32 ok_arr_u64 ok_arr_i64 ok_arr_sl cellsV_agg cellsV_int cellsV_bool cellsV_string cellsV_pointer cellsV_slice cellsV_sl ok_int ok_bool ok_string ok_pointer ok_slice ok_sl toList_arr seg_arr set_arr nth_splice nth_splice0 seg_splice seg_splice0 splice_splice splice_splice0 length_splice_if
attribute [local go_sem ↓] execOp_box
attribute [local go_sem] box_run nth_arr_u8 put_arr_u8 blk_drewN free_drewN put_drewN blk_raw free_raw
def jbE (p : Plan) (a : Option Addr) (n c : Nat) : List Value := Job.enc ⟨p, ⟨a, n, c⟩⟩
theorem jb_len (p : Plan) (a : Option Addr) (n c : Nat) : (jbE p a n c).length = 4 := rfl
theorem jb3 (p : Plan) (a : Option Addr) (n c : Nat) : nth (jbE p a n c) 3 = some (.slice a n c) := rfl
theorem jb_set3 (p : Plan) (a : Option Addr) (n c : Nat) (a' : Option Addr) (n' c' : Nat) : splice (jbE p a n c) 3 [.slice a' n' c'] = jbE p a' n' c' := rfl
theorem jb_set0 (p q : Plan) (a : Option Addr) (n c : Nat) : splice (jbE p a n c) 0 q.enc = jbE q a n c := rfl
theorem jb_all (p : Plan) (a : Option Addr) (n c : Nat) : seg (jbE p a n c) 0 4 = jbE p a n c := rfl
theorem jb_put (p : Plan) (a : Option Addr) (n c : Nat) (x : Job) : splice x.enc 0 (jbE p a n c) = jbE p a n c := Job.all_set x ⟨p, ⟨a, n, c⟩⟩
theorem jb_ok (p : Plan) (a : Option Addr) (n c : Nat) : okCells 4 (jbE p a n c) = true := rfl
def gro (p : Pg) (s k i : Nat) : Bool := match (p.L k)[i]? with | some l => !basP p l.atom.pred.toNat && decide (strP p l.atom.pred.toNat = (s : Int)) | none => false
theorem del_pos (p : Pg) (s k : Nat) : delOf p s k = (posOf (p.L k) (p.L k).length).filter (gro p s k) := by
  unfold delOf posOf
  rw [List.filter_filter]
  congr 1
  funext i
  unfold isPos gro
  cases (p.L k)[i]? with
  | none => rfl
  | some l =>
    show (!l.neg && !basP p l.atom.pred.toNat && decide (strP p l.atom.pred.toNat = (s : Int))) = ((!basP p l.atom.pred.toNat && decide (strP p l.atom.pred.toNat = (s : Int))) && !l.neg)
    generalize l.neg = a
    generalize basP p l.atom.pred.toNat = b
    generalize decide (strP p l.atom.pred.toNat = (s : Int)) = c
    cases a <;> cases b <;> cases c <;> rfl
def Dl (p : Pg) (s k i : Nat) : List Nat := ((posOf (p.L k) (p.L k).length).take (i - 1)).filter (gro p s k)
theorem Dl_step {p : Pg} {s k i d : Nat} (h1 : 1 ≤ i) (hd : (posOf (p.L k) (p.L k).length)[i - 1]? = some d) : Dl p s k (i + 1) = if gro p s k d then Dl p s k i ++ [d] else Dl p s k i := by
  unfold Dl
  rw [show i + 1 - 1 = (i - 1) + 1 by omega, take_at hd, List.filter_append]
  by_cases h : gro p s k d = true
  · rw [if_pos h]; simp [List.filter, h]
  · rw [if_neg h]
    have h' : gro p s k d = false := by simpa using h
    simp [List.filter, h']
structure MJ (w : World) (n b6 b7 : Nat) (p : Pg) (s k i : Nat) (pa : Option Addr) (pm : Nat) (Qs : List Plan) (pf : Plan) (a : Option Addr) (m c : Nat) (Ys : List Plan) (O : Own) (V : World) : Prop where
  old : ∀ b, b < n → O b = .a 0 0
  ext : w.Extends V
  sz : n ≤ V.heap.size
  row : RowL n O (.a 1 0) V 103 3 (.slice a m c) Ys.length (Ys.flatMap Plan.enc)
  c7 : blk V b7 = some (jbE pf a m c)
  f7 : free V b7 = true
  c6 : blk V b6 = some Job.zero.enc
  f6 : free V b6 = true
  pls : Rw Plan.enc 3 (core O V) pa pm Qs
  plc : ∀ (j : Nat) (y : Plan) (d : Int), Qs[j]? = some y → (plD (p.L k) (p.L k).length)[j]? = some d → PlanC (core O V) y p k d
  len : Ys.length = (Dl p s k i).length
  dls : ∀ (j : Nat) (y : Plan) (d : Nat), Ys[j]? = some y → (Dl p s k i)[j]? = some d → PlanC (core O V) y p k (d : Int)
  ful : 1 ≤ i → PlanC (core O V) pf p k (-1)
theorem MJ.ext' {w : World} {n b6 b7 : Nat} {p : Pg} {s k i : Nat} {pa : Option Addr} {pm : Nat} {Qs : List Plan} {pf : Plan} {a : Option Addr} {m c : Nat} {Ys : List Plan} {O : Own} {V V' : World} (h : MJ w n b6 b7 p s k i pa pm Qs pf a m c Ys O V) (he : V.Extends V') : MJ w n b6 b7 p s k i pa pm Qs pf a m c Ys O V' :=
  have hc := core_ext (O := O) he
  ⟨h.old, h.ext.trans he, Nat.le_trans h.sz he.size, h.row.keep (fun b hb _ => ⟨he.block b hb, rfl⟩), (he.blk (blk_lt h.c7)).trans h.c7, (free_of_heap (he.block b7 (blk_lt h.c7))).trans h.f7, (he.blk (blk_lt h.c6)).trans h.c6, (free_of_heap (he.block b6 (blk_lt h.c6))).trans h.f6, h.pls.grow hc, fun j y d hy hd => (h.plc j y d hy hd).ext hc, h.len, fun j y d hy hd => (h.dls j y d hy hd).ext hc, fun h1 => (h.ful h1).ext hc⟩
/-- The job's own cells changed. -/
theorem MJ.put7 {w : World} {n b6 b7 : Nat} {p : Pg} {s k i : Nat} {pa : Option Addr} {pm : Nat} {Qs : List Plan} {pf : Plan} {a : Option Addr} {m c : Nat} {Ys : List Plan} {O : Own} {V : World} (h : MJ w n b6 b7 p s k i pa pm Qs pf a m c Ys O V) (h7 : b7 < n) (hw7 : w.heap.size ≤ b7) (h67 : b6 ≠ b7) (D : List Value) :
    w.Extends (put V b7 D) ∧ RowL n O (.a 1 0) (put V b7 D) 103 3 (.slice a m c) Ys.length (Ys.flatMap Plan.enc) ∧ blk (put V b7 D) b7 = some D ∧ free (put V b7 D) b7 = true ∧ blk (put V b7 D) b6 = some Job.zero.enc ∧ free (put V b7 D) b6 = true ∧ (core O V).Extends (core O (put V b7 D)) := by
  have hF : Fr (fun l => l = .a 0 0) O V O (put V b7 D) := (Fr.refl _ O V).put (h.old b7 h7) D
  refine ⟨(Fr.put_new (L := fun _ => False) (O := fun _ => Lab.no) (Fr.of_extends h.ext) hw7 D).extends (ext_Ext (Ext.refl _)) (fun _ _ h => h), h.row.fr hF (fun e => by injection e with e _; cases e), by rw [blk_put, if_pos rfl, h.c7]; rfl, by rw [free_put]; exact h.f7, by rw [blk_put, if_neg h67]; exact h.c6, by rw [free_put]; exact h.f6, core_fr hF (fun e => by cases e)⟩
def JobX (w : World) (p : Pg) (s k : Nat) (e : Ending) (V : World) : Prop := ∃ x : Job, e = .returned (.agg x.enc.toArray) ∧ w.Extends V ∧ JobC (newc w.heap.size V) x p s k
theorem MJ.fin {w : World} {n b6 b7 : Nat} {p : Pg} {s k i : Nat} {pa : Option Addr} {pm : Nat} {Qs : List Plan} {pf : Plan} {a : Option Addr} {m c : Nat} {Ys : List Plan} {O : Own} {V : World} (h : MJ w n b6 b7 p s k i pa pm Qs pf a m c Ys O V) (hi : i = 1 + (posOf (p.L k) (p.L k).length).length) (h6 : b6 < n) (hw6 : w.heap.size ≤ b6) (hwn : w.heap.size ≤ n) (D : List Value) : JobX w p s k (.returned (.agg (jbE pf a m c).toArray)) (put V b6 D) := by
  have hF : Fr (fun l => l = .a 0 0) O V O (put V b6 D) := (Fr.refl _ O V).put (h.old b6 h6) D
  have hc := core_fr hF (fun e => by cases e)
  have hsub : Sub (core O (put V b6 D)) (newc w.heap.size (put V b6 D)) := fun b C hb => by
    obtain ⟨g1, g2⟩ := core_blk hb
    refine blk_newc g1 (Nat.le_trans hwn (Nat.le_of_not_lt fun hlt => ?_))
    rw [h.old b hlt] at g2; cases g2
  have hDl : Dl p s k i = delOf p s k := by
    rw [del_pos]; unfold Dl
    rw [hi, show 1 + (posOf (p.L k) (p.L k).length).length - 1 = (posOf (p.L k) (p.L k).length).length by omega, List.take_length]
  refine ⟨⟨pf, ⟨a, m, c⟩⟩, rfl, (Fr.put_new (L := fun _ => False) (O := fun _ => Lab.no) (Fr.of_extends h.ext) hw6 D).extends (ext_Ext (Ext.refl _)) (fun _ _ h => h), ((h.ful (by omega)).ext hc).sub hsub, Ys, ?_, by rw [h.len, hDl], fun j y d hy hd => ((h.dls j y d hy (by rw [hDl]; exact hd)).ext hc).sub hsub⟩
  have hrow := h.row.fr hF (fun e => by injection e with e _; cases e)
  have hrw := (hrow.rw Plan.length_enc).1
  refine ⟨hrw.1, fun i x hx => ?_⟩
  obtain ⟨b, C, g1, g2, g3⟩ := hrw.2 i x hx
  exact ⟨b, C, g1, blk_newc g2 (Nat.le_trans hwn (row_at hrow.1 b (by rw [g1]; rfl)).1), g3⟩
def mjI (w : World) (bp n b6 b7 : Nat) (p : Pg) (s k : Nat) (pa : Option Addr) (pm pc : Nat) (Qs : List Plan) (f : Nat → Value) (V : World) : Prop := f 0 = .pointer (some ⟨bp, 0, none⟩) ∧ f 1 = .int .i64 (k : Nat) ∧ f 2 = .int .i64 (s : Nat) ∧ f 6 = .pointer (some ⟨b6, 0, none⟩) ∧ f 7 = .pointer (some ⟨b7, 0, none⟩) ∧ f 8 = .slice pa pm pc ∧ ∃ (i : Nat) (pf : Plan) (a : Option Addr) (m c : Nat) (Ys : List Plan), i ≤ pm ∧ f 9 = .int .i64 (i : Nat) ∧ Hid (∃ O, MJ w n b6 b7 p s k i pa pm Qs pf a m c Ys O V)
set_option maxRecDepth 100000 in
theorem frame73 (f : Nat → Value) : frameN 73 f = #[f 0, f 1, f 2, f 3, f 4, f 5, f 6, f 7, f 8, f 9, f 10, f 11, f 12, f 13, f 14, f 15, f 16, f 17, f 18, f 19, f 20, f 21, f 22, f 23, f 24, f 25, f 26, f 27, f 28, f 29, f 30, f 31, f 32, f 33, f 34, f 35, f 36, f 37, f 38, f 39, f 40, f 41, f 42, f 43, f 44, f 45, f 46, f 47, f 48, f 49, f 50, f 51, f 52, f 53, f 54, f 55, f 56, f 57, f 58, f 59, f 60, f 61, f 62, f 63, f 64, f 65, f 66, f 67, f 68, f 69, f 70, f 71, f 72] := by kernel_rfl
attribute [local go_sem] prg_len prg0 prg1 prg2 prg_all prg_ok bslice104 jb_len jb3 jb_set3 jb_set0 jb_all jb_put jb_ok
attribute [local go_sem ↓] execOp_bslice
set_option maxRecDepth 20000 in
set_option maxHeartbeats 8000000 in
theorem makeJob_x (w : World) (bp : Nat) (p : Pg) (hI : PgB w bp p) (hok : PgOk p) (k : Nat) (r : GRule) (hr : p.R[k]? = some r) (s : Nat) :
    Calls Try.prog 44 #[.pointer (some ⟨bp, 0, none⟩), .int .i64 (k : Nat), .int .i64 (s : Nat)] w (JobX w p s k) := by
  have hI0 := hI
  obtain ⟨aP, cP, aR, cR, hbp, hprg⟩ := hI
  obtain ⟨-, -, -, ⟨bP, hAP⟩, ⟨bR, hAR⟩, hbd⟩ := hprg
  have hkM : k < p.R.length := (List.getElem?_eq_some_iff.1 hr).1
  obtain ⟨bL, oL, aa, cc, hsv, hL⟩ := hbd k r hr
  have h8 := hok.b8 k r hr
  have h128 := hok.nR
  have h64 := hok.nP
  have p0 : 0 ≤ r.head.pred := by
    obtain ⟨q, x, f1, _⟩ := hok.head k r hr
    omega
  obtain ⟨h, hh⟩ : ∃ h : Nat, r.head.pred = (h : Int) := ⟨r.head.pred.toNat, by omega⟩
  obtain ⟨CR, rfl, hCR, hCRl, c0, c9⟩ := rule_at hAR hkM hr hsv hh
  have HI := hid_of hI0
  have HOK := hid_of hok
  have HR := hid_of hr
  have HL := hid_of hL
  have HAP := hid_of hAP
  have HCR := hid_of hCR
  have HBP := hid_of hbp
  have k0 : (0 : Int) ≤ (k : Int) := by omega
  have k1 : (k : Int) < (p.R.length : Int) := by omega
  have k2 : ((k : Int)).toNat = k := by omega
  clear hr hsv hL hbd hAR hok hI0 hh p0 c0 hbp hCR hAP
  go_enter Try.func44, Try.ntmps44
  go_upto_region 2 with fail
  refine wp_world (fun W => blk W w.heap.size = some Job.zero.enc ∧ free W w.heap.size = true ∧ blk W (w.heap.size + 1) = some Job.zero.enc ∧ free W (w.heap.size + 1) = true ∧ W.heap.size = w.heap.size + 2 ∧ w.Extends W) ⟨?_, ?_, ?_, ?_, ?_, ?_⟩ ?_
  · rw [blk_alloc, if_neg (by rw [World.size_alloc]; omega), blk_alloc, if_pos rfl]
  · rw [free_alloc, if_neg (by rw [World.size_alloc]; omega), free_alloc, if_pos rfl]
  · rw [blk_alloc, if_pos (by rw [World.size_alloc])]
  · rw [free_alloc, if_pos (by rw [World.size_alloc])]
  · rw [World.size_alloc, World.size_alloc]
  · exact extends_alloc (extends_alloc (ext_Ext (Ext.refl w)) _) _
  rintro W0 ⟨i1, i2, i3, i4, i5, i6⟩
  obtain ⟨b6, hb6⟩ : ∃ b6, b6 = w.heap.size := ⟨_, rfl⟩
  obtain ⟨b7, hb7⟩ : ∃ b7, b7 = b6 + 1 := ⟨_, rfl⟩
  rw [← hb6, ← hb7] at i3 i4
  rw [← hb6] at i1 i2
  rw [← hb6, ← hb7]
  have h67 : ¬ b6 = b7 := by omega
  have hw6 : w.heap.size ≤ b6 := by omega
  have hw7 : w.heap.size ≤ b7 := by omega
  have h6n : b6 < W0.heap.size := by omega
  have h7n : b7 < W0.heap.size := by omega
  have hwn : w.heap.size ≤ W0.heap.size := by omega
  have hpx := plans_x W0 bp p (HI.out.ext i6) HOK.out k r HR.out
  have HPX := hid_of hpx
  have HJ : Hid (blk W0 b6 = some Job.zero.enc ∧ free W0 b6 = true ∧ blk W0 b7 = some Job.zero.enc ∧ free W0 b7 = true ∧ w.Extends W0) := ⟨i1, i2, i3, i4, i6⟩
  clear i1 i2 i3 i4 i5 i6 hb6 hb7 hpx
  go_wp2_with fail
  refine HPX.out.mono ?_
  rintro e W1 ⟨pa, pm, pc, Qs, rfl, hx1, hrw1, hQl, hQs⟩
  obtain ⟨n, hn⟩ : ∃ n, n = W0.heap.size := ⟨_, rfl⟩
  rw [← hn] at hrw1 hQs h6n h7n hwn
  have hpm : pm = Qs.length := hrw1.1.symm
  have hpl := posOf_len (p.L k) (p.L k).length
  have hpm2 : pm = 1 + (posOf (p.L k) (p.L k).length).length := by
    rw [hpm, hQl]; unfold plD
    rw [List.length_cons, List.length_map]; omega
  have HI0 : Hid (∃ O, MJ w n b6 b7 p s k 0 pa pm Qs Plan.zero none 0 0 [] O W1) := by
    obtain ⟨j1, j2, j3, j4, j5⟩ := HJ.out
    refine ⟨lab (fun _ => .a 0 0) n .no, fun b hb => lab_lt hb, j5.trans hx1, by rw [hn]; exact hx1.size, RowL.nil _ _ _ _ _ _, (hx1.blk (blk_lt j3)).trans j3, (free_of_heap (hx1.block b7 (blk_lt j3))).trans j4, (hx1.blk (blk_lt j1)).trans j1, (free_of_heap (hx1.block b6 (blk_lt j1))).trans j2, hrw1, hQs, by unfold Dl; simp, fun j y d hy => by (simp at hy), fun h => absurd h (by omega)⟩
  have HPM2 := hid_of hpm2
  have hpm9 : pm ≤ 9 := by omega
  clear HPX HJ hx1 hrw1 hQs hn hpm hpl hQl hpm2
  dsimp only
  go_upto_region 4 with fail
  refine wp_loop_f 73 (mjI w bp n b6 b7 p s k pa pm pc Qs) (fun f _ => pm - (intOf (f 9)).toNat) rfl ⟨rfl, rfl, rfl, rfl, rfl, rfl, 0, _, _, _, _, _, by omega, rfl, HI0⟩ ?_
  clear HI0 W0 W1
  intro F V hrel
  obtain ⟨f0, f1, f2, f6, f7, f8, i, pf, a, m, c, Ys, hi, f9, HQ⟩ := hrel
  have H9 := hid_of f9
  rw [frame73, f0, f1, f2, f6, f7, f8, f9]
  clear f0 f1 f2 f6 f7 f8 f9
  obtain ⟨O, hM⟩ := HQ.out
  have hb : blk V bp = some (prgE aP p.P.length cP (some ⟨bR, 0, none⟩) p.R.length cR p.St) := (hM.ext.blk (blk_lt HBP.out)).trans HBP.out
  have hCR : blk V bR = some CR := (hM.ext.blk (blk_lt HCR.out)).trans HCR.out
  have hb7 := hM.c7
  have hf7 := hM.f7
  by_cases hin : i < pm
  · have hin' : (i : Int) < (pm : Int) := by omega
    obtain ⟨y, bq, Cq, q1, rfl, q3, q4, q5⟩ := hM.pls.at hin
    have hCq := (core_blk q3).1
    have hOq := (core_blk q3).2
    have hil : (i + 1) * 3 ≤ pm * 3 := Nat.mul_le_mul_right _ hin
    have i0 : (0 : Int) ≤ (i : Int) := by omega
    have i2 : ((i : Int)).toNat = i := by omega
    have l1 : i * 3 + 2 < Cq.length := by omega
    have l2 : i * 3 + 3 ≤ Cq.length := by omega
    obtain ⟨dv, hdv⟩ : ∃ dv, (plD (p.L k) (p.L k).length)[i]? = some dv := ⟨_, List.getElem?_eq_getElem (by unfold plD; rw [List.length_cons, List.length_map]; have := HPM2.out; omega)⟩
    have hyc := hM.plc i y dv q1 hdv
    have hq1 : nth Cq (i * 3 + 1) = some (.int .i64 dv) := by
      have := nth_in (j := 1) q5 (Plan.delta_get y) (by omega)
      rw [hyc.2.1] at this
      exact this
    have HM := hid_of hM
    have HYC := hid_of hyc
    have HQN : Hid (n ≤ bq) := Nat.le_of_not_lt fun hlt => by rw [hM.old bq hlt] at hOq; cases hOq
    by_cases hi0 : i = 0
    · subst hi0
      have hin0 : (0 : Int) < (pm : Int) := by omega
      obtain rfl : (-1 : Int) = dv := Option.some.inj hdv
      have h7 := HM.out.put7 h7n hw7 h67 (jbE y a m c)
      have HQ' : Hid (∃ O, MJ w n b6 b7 p s k 1 (some ⟨bq, 0, none⟩) pm Qs y a m c Ys O (put V b7 (jbE y a m c))) := by
        obtain ⟨g1, g2, g3, g4, g5, g6, g7⟩ := h7
        have hm := HM.out
        exact ⟨O, hm.old, g1, by rw [size_put]; exact hm.sz, g2, g3, g4, g5, g6, hm.pls.grow g7, fun j y d hy hd => (hm.plc j y d hy hd).ext g7, hm.len, fun j y d hy hd => (hm.dls j y d hy hd).ext g7, fun _ => HYC.out.ext g7⟩
      clear h7 hM hyc HQ hdv q1 q3 q4 HM HYC
      go_wp2_with fail
      refine ⟨rfl, rfl, ⟨rfl, rfl, rfl, rfl, rfl, rfl, 1, y, a, m, c, Ys, by omega, ?_, HQ'⟩, ?_⟩
      · show Value.int .i64 _ = _
        go_num
      · show pm - (intOf (Value.int .i64 _)).toNat < pm - (intOf (F 9)).toNat
        rw [H9.out]
        simp [intOf]; omega
    · obtain ⟨d, hd⟩ : ∃ d, (posOf (p.L k) (p.L k).length)[i - 1]? = some d := ⟨_, List.getElem?_eq_getElem (by have := HPM2.out; omega)⟩
      obtain rfl : (d : Int) = dv := by
        unfold plD at hdv
        rw [show i = (i - 1) + 1 by omega, List.getElem?_cons_succ, List.getElem?_map, hd] at hdv
        exact Option.some.inj hdv
      have hdm : d ∈ posOf (p.L k) (p.L k).length := List.mem_of_getElem? hd
      have hdn : d < (p.L k).length := List.mem_range.1 (List.mem_filter.1 hdm).1
      obtain ⟨l, hl⟩ : ∃ l, (p.L k)[d]? = some l := ⟨_, List.getElem?_eq_getElem hdn⟩
      obtain ⟨CL, CP, q, ar, z1, z2, z3, z4, z5, z6, z7, z8, z9, z10, z11, z12⟩ := lit_full (HL.out.grw hM.ext) (HAP.out.grw hM.ext) hl (HOK.out.lits k r HR.out l (List.mem_of_getElem? hl))
      obtain ⟨xq, CP', w1, w2, w3, w4, w5⟩ := (HAP.out.grw hM.ext).get z10
      obtain rfl : CP' = CP := Option.some.inj (w3.symm.trans z8)
      rw [Nat.zero_add] at w5
      have hqn : l.atom.pred.toNat = q := by
        obtain ⟨q', x', f1, f2, _⟩ := HOK.out.lits k r HR.out l (List.mem_of_getElem? hl)
        obtain ⟨l', CL', h1', h2', h3', h4', h5'⟩ := (HL.out.grw hM.ext).get hdn
        obtain rfl : CL' = CL := Option.some.inj (h3'.symm.trans z2)
        obtain rfl : l' = l := Option.some.inj (h1'.symm.trans hl)
        have := nth_in (j := 1) h5' (Literal.atom_pred_get l') (by omega)
        rw [z5] at this
        have h9 := Option.some.inj this
        injection h9 with _ h9
        rw [← h9]; rfl
      have hgro : gro p s k d = (!xq.base && decide (xq.stratum = (s : Int))) := by
        unfold gro basP strP
        rw [hl]
        show (!(p.P.getD l.atom.pred.toNat ⟨0, false, 0⟩).base && decide ((p.P.getD l.atom.pred.toNat ⟨0, false, 0⟩).stratum = (s : Int))) = _
        rw [hqn, List.getD_eq_getElem?_getD, w1]; rfl
      have hdl := Dl_step (s := s) (i := i) (by omega) hd
      rw [hgro] at hdl
      have HDL := hid_of hdl
      subst z1
      subst z7
      have d0 : (0 : Int) ≤ (d : Int) := by omega
      have d1 : (d : Int) < ((p.L k).length : Int) := by omega
      have d2 : ((d : Int)).toNat = d := by omega
      have dn : ¬ (d : Int) < 0 := by omega
      have e0 : (0 : Int) ≤ (q : Int) := by omega
      have e1 : (q : Int) < (p.P.length : Int) := by omega
      have e2 : ((q : Int)).toNat = q := by omega
      have l3 : oL + d * 10 + 10 ≤ CL.length := z3
      have l4 : q * 3 + 3 ≤ CP'.length := by omega
      have wbp := blk_lt hb
      have wbR := blk_lt hCR
      have wbL := blk_lt z2
      have wbP := blk_lt z8
      have wbq := blk_lt hCq
      have wb7 := blk_lt hb7
      clear hM hyc HQ hdv q1 q3 q4 hdm hl hgro hdl hqn z3 z4 z6 z9 z11 z12 w1 w2 w3 w4 hd
      go_upto_region 8 with fail
      refine wp_region_held_drew (S := fun W' => blk W' bp = some (prgE (some ⟨bP, 0, none⟩) p.P.length cP (some ⟨bR, 0, none⟩) p.R.length cR p.St) ∧ blk W' bR = some CR ∧ blk W' bL = some CL ∧ blk W' bP = some CP' ∧ blk W' bq = some Cq) (by kernel_rfl) ⟨hb, hCR, z2, z8, hCq⟩ (fun hHeld => ?_)
      refine wpAnyH_take (i := 0) (oi := ⟨_, _, _, _, _, _⟩) (v := ?_) rfl (by kernel_rfl) (by kernel_rfl) (by kernel_rfl) (fun _ _ _ h => h) (Or.inl ⟨by rfl, ?_⟩) (by assumption) ?_
      rotate_left 1
      · intro W' hSw
        obtain ⟨hS1, hS2, hS3, hS4, hS5⟩ := hSw
        go_simp
        try with_reducible rfl
      try simp only [Act.put, List.setIfInBounds_toArray, List.set_cons_zero, List.set_cons_succ]
      refine wpAnyH_take (i := 1) (oi := ⟨_, _, _, _, _, _⟩) (v := ?_) rfl (by kernel_rfl) (by kernel_rfl) (by kernel_rfl) (fun _ _ _ h => h) (Or.inl ⟨by rfl, ?_⟩) (by assumption) ?_
      rotate_left 1
      · intro W' hSw
        obtain ⟨hS1, hS2, hS3, hS4, hS5⟩ := hSw
        go_simp
        try with_reducible rfl
      try simp only [Act.put, List.setIfInBounds_toArray, List.set_cons_zero, List.set_cons_succ]
      refine wpAnyH_take (i := 2) (oi := ⟨_, _, _, _, _, _⟩) (v := ?_) rfl (by kernel_rfl) (by kernel_rfl) (by kernel_rfl) (fun _ _ _ h => h) (Or.inl ⟨by rfl, ?_⟩) (by assumption) ?_
      rotate_left 1
      · intro W' hSw
        obtain ⟨hS1, hS2, hS3, hS4, hS5⟩ := hSw
        go_simp
        try with_reducible rfl
      try simp only [Act.put, List.setIfInBounds_toArray, List.set_cons_zero, List.set_cons_succ]
      refine wpAnyH_take (i := 3) (oi := ⟨_, _, _, _, _, _⟩) (v := ?_) rfl (by kernel_rfl) (by kernel_rfl) (by kernel_rfl) (fun _ _ _ h => h) (Or.inl ⟨by rfl, ?_⟩) (by assumption) ?_
      rotate_left 1
      · intro W' hSw
        obtain ⟨hS1, hS2, hS3, hS4, hS5⟩ := hSw
        go_simp
        try with_reducible rfl
      try simp only [Act.put, List.setIfInBounds_toArray, List.set_cons_zero, List.set_cons_succ]
      refine wpAnyH_take (i := 4) (oi := ⟨_, _, _, _, _, _⟩) (v := ?_) rfl (by kernel_rfl) (by kernel_rfl) (by kernel_rfl) (fun _ _ _ h => h) (Or.inl ⟨by rfl, ?_⟩) (by assumption) ?_
      rotate_left 1
      · intro W' hSw
        obtain ⟨hS1, hS2, hS3, hS4, hS5⟩ := hSw
        go_simp
        try with_reducible rfl
      try simp only [Act.put, List.setIfInBounds_toArray, List.set_cons_zero, List.set_cons_succ]
      refine wpAnyH_take (i := 5) (oi := ⟨_, _, _, _, _, _⟩) (v := ?_) rfl (by kernel_rfl) (by kernel_rfl) (by kernel_rfl) (fun _ _ _ h => h) (Or.inl ⟨by rfl, ?_⟩) (by assumption) ?_
      rotate_left 1
      · intro W' hSw
        obtain ⟨hS1, hS2, hS3, hS4, hS5⟩ := hSw
        go_simp
        try with_reducible rfl
      try simp only [Act.put, List.setIfInBounds_toArray, List.set_cons_zero, List.set_cons_succ]
      refine wpAnyH_take (i := 6) (oi := ⟨_, _, _, _, _, _⟩) (v := ?_) rfl (by kernel_rfl) (by kernel_rfl) (by kernel_rfl) (fun _ _ _ h => h) (Or.inl ⟨by rfl, ?_⟩) (by assumption) ?_
      rotate_left 1
      · intro W' hSw
        obtain ⟨hS1, hS2, hS3, hS4, hS5⟩ := hSw
        go_simp
        try with_reducible rfl
      try simp only [Act.put, List.setIfInBounds_toArray, List.set_cons_zero, List.set_cons_succ]
      refine wpAnyH_take (i := 7) (oi := ⟨_, _, _, _, _, _⟩) (v := ?_) rfl (by kernel_rfl) (by kernel_rfl) (by kernel_rfl) (fun _ _ _ h => h) (Or.inl ⟨by rfl, ?_⟩) (by assumption) ?_
      rotate_left 1
      · intro W' hSw
        obtain ⟨hS1, hS2, hS3, hS4, hS5⟩ := hSw
        go_simp
        try with_reducible rfl
      try simp only [Act.put, List.setIfInBounds_toArray, List.set_cons_zero, List.set_cons_succ]
      refine wpAnyH_take (i := 8) (oi := ⟨_, _, _, _, _, _⟩) (v := ?_) rfl (by kernel_rfl) (by kernel_rfl) (by kernel_rfl) (fun _ _ _ h => h) (Or.inl ⟨by rfl, ?_⟩) (by assumption) ?_
      rotate_left 1
      · intro W' hSw
        obtain ⟨hS1, hS2, hS3, hS4, hS5⟩ := hSw
        go_simp
        try with_reducible rfl
      try simp only [Act.put, List.setIfInBounds_toArray, List.set_cons_zero, List.set_cons_succ]
      refine wpAnyH_take (i := 9) (oi := ⟨_, _, _, _, _, _⟩) (v := ?_) rfl (by kernel_rfl) (by kernel_rfl) (by kernel_rfl) (fun _ _ _ h => h) (Or.inl ⟨by rfl, ?_⟩) (by assumption) ?_
      rotate_left 1
      · intro W' hSw
        obtain ⟨hS1, hS2, hS3, hS4, hS5⟩ := hSw
        go_simp
        try with_reducible rfl
      try simp only [Act.put, List.setIfInBounds_toArray, List.set_cons_zero, List.set_cons_succ]
      refine wpAnyH_take (i := 10) (oi := ⟨_, _, _, _, _, _⟩) (v := ?_) rfl (by kernel_rfl) (by kernel_rfl) (by kernel_rfl) (fun _ _ _ h => h) (Or.inl ⟨by rfl, ?_⟩) (by assumption) ?_
      rotate_left 1
      · intro W' hSw
        obtain ⟨hS1, hS2, hS3, hS4, hS5⟩ := hSw
        go_simp
        try with_reducible rfl
      try simp only [Act.put, List.setIfInBounds_toArray, List.set_cons_zero, List.set_cons_succ]
      refine wpAnyH_take (i := 11) (oi := ⟨_, _, _, _, _, _⟩) (v := ?_) rfl (by kernel_rfl) (by kernel_rfl) (by kernel_rfl) (fun _ _ _ h => h) (Or.inl ⟨by rfl, ?_⟩) (by assumption) ?_
      rotate_left 1
      · intro W' hSw
        obtain ⟨hS1, hS2, hS3, hS4, hS5⟩ := hSw
        go_simp
        try with_reducible rfl
      try simp only [Act.put, List.setIfInBounds_toArray, List.set_cons_zero, List.set_cons_succ]
      refine wpAnyH_take (i := 12) (oi := ⟨_, _, _, _, _, _⟩) (v := ?_) rfl (by kernel_rfl) (by kernel_rfl) (by kernel_rfl) (fun _ _ _ h => h) (Or.inl ⟨by rfl, ?_⟩) (by assumption) ?_
      rotate_left 1
      · intro W' hSw
        obtain ⟨hS1, hS2, hS3, hS4, hS5⟩ := hSw
        go_simp
        try with_reducible rfl
      try simp only [Act.put, List.setIfInBounds_toArray, List.set_cons_zero, List.set_cons_succ]
      refine wpAnyH_take (i := 13) (oi := ⟨_, _, _, _, _, _⟩) (v := ?_) rfl (by kernel_rfl) (by kernel_rfl) (by kernel_rfl) (fun _ _ _ h => h) (Or.inl ⟨by rfl, ?_⟩) (by assumption) ?_
      rotate_left 1
      · intro W' hSw
        obtain ⟨hS1, hS2, hS3, hS4, hS5⟩ := hSw
        go_simp
        try with_reducible rfl
      try simp only [Act.put, List.setIfInBounds_toArray, List.set_cons_zero, List.set_cons_succ]
      refine wpAnyH_take (i := 14) (oi := ⟨_, _, _, _, _, _⟩) (v := ?_) rfl (by kernel_rfl) (by kernel_rfl) (by kernel_rfl) (fun _ _ _ h => h) (Or.inl ⟨by rfl, ?_⟩) (by assumption) ?_
      rotate_left 1
      · intro W' hSw
        obtain ⟨hS1, hS2, hS3, hS4, hS5⟩ := hSw
        go_simp
        try with_reducible rfl
      try simp only [Act.put, List.setIfInBounds_toArray, List.set_cons_zero, List.set_cons_succ]
      refine wpAnyH_take (i := 15) (oi := ⟨_, _, _, _, _, _⟩) (v := ?_) rfl (by kernel_rfl) (by kernel_rfl) (by kernel_rfl) (fun _ _ _ h => h) (Or.inl ⟨by rfl, ?_⟩) (by assumption) ?_
      rotate_left 1
      · intro W' hSw
        obtain ⟨hS1, hS2, hS3, hS4, hS5⟩ := hSw
        go_simp
        try with_reducible rfl
      try simp only [Act.put, List.setIfInBounds_toArray, List.set_cons_zero, List.set_cons_succ]
      refine wpAnyH_take (i := 16) (oi := ⟨_, _, _, _, _, _⟩) (v := ?_) rfl (by kernel_rfl) (by kernel_rfl) (by kernel_rfl) (fun _ _ _ h => h) (Or.inl ⟨by rfl, ?_⟩) (by assumption) ?_
      rotate_left 1
      · intro W' hSw
        obtain ⟨hS1, hS2, hS3, hS4, hS5⟩ := hSw
        go_simp
        try with_reducible rfl
      try simp only [Act.put, List.setIfInBounds_toArray, List.set_cons_zero, List.set_cons_succ]
      refine wpAnyH_take (i := 17) (oi := ⟨_, _, _, _, _, _⟩) (v := ?_) rfl (by kernel_rfl) (by kernel_rfl) (by kernel_rfl) (fun _ _ _ h => h) (Or.inl ⟨by rfl, ?_⟩) (by assumption) ?_
      rotate_left 1
      · intro W' hSw
        obtain ⟨hS1, hS2, hS3, hS4, hS5⟩ := hSw
        go_simp
        try with_reducible rfl
      try simp only [Act.put, List.setIfInBounds_toArray, List.set_cons_zero, List.set_cons_succ]
      refine wpAnyH_take (i := 18) (oi := ⟨_, _, _, _, _, _⟩) (v := ?_) rfl (by kernel_rfl) (by kernel_rfl) (by kernel_rfl) (fun _ _ _ h => h) (Or.inl ⟨by rfl, ?_⟩) (by assumption) ?_
      rotate_left 1
      · intro W' hSw
        obtain ⟨hS1, hS2, hS3, hS4, hS5⟩ := hSw
        go_simp
        try with_reducible rfl
      try simp only [Act.put, List.setIfInBounds_toArray, List.set_cons_zero, List.set_cons_succ]
      refine wpAnyH_take (i := 19) (oi := ⟨_, _, _, _, _, _⟩) (v := ?_) rfl (by kernel_rfl) (by kernel_rfl) (by kernel_rfl) (fun _ _ _ h => h) (Or.inl ⟨by rfl, ?_⟩) (by assumption) ?_
      rotate_left 1
      · intro W' hSw
        obtain ⟨hS1, hS2, hS3, hS4, hS5⟩ := hSw
        go_simp
        try with_reducible rfl
      try simp only [Act.put, List.setIfInBounds_toArray, List.set_cons_zero, List.set_cons_succ]
      refine wpAnyH_take (i := 20) (oi := ⟨_, _, _, _, _, _⟩) (v := ?_) rfl (by kernel_rfl) (by kernel_rfl) (by kernel_rfl) (fun _ _ _ h => h) (Or.inl ⟨by rfl, ?_⟩) (by assumption) ?_
      rotate_left 1
      · intro W' hSw
        obtain ⟨hS1, hS2, hS3, hS4, hS5⟩ := hSw
        go_simp
        try with_reducible rfl
      try simp only [Act.put, List.setIfInBounds_toArray, List.set_cons_zero, List.set_cons_succ]
      refine wpAnyH_take (i := 21) (oi := ⟨_, _, _, _, _, _⟩) (v := ?_) rfl (by kernel_rfl) (by kernel_rfl) (by kernel_rfl) (fun _ _ _ h => h) (Or.inl ⟨by rfl, ?_⟩) (by assumption) ?_
      rotate_left 1
      · intro W' hSw
        obtain ⟨hS1, hS2, hS3, hS4, hS5⟩ := hSw
        go_simp
        try with_reducible rfl
      try simp only [Act.put, List.setIfInBounds_toArray, List.set_cons_zero, List.set_cons_succ]
      refine wpAnyH_take (i := 22) (oi := ⟨_, _, _, _, _, _⟩) (v := ?_) rfl (by kernel_rfl) (by kernel_rfl) (by kernel_rfl) (fun _ _ _ h => h) (Or.inl ⟨by rfl, ?_⟩) (by assumption) ?_
      rotate_left 1
      · intro W' hSw
        obtain ⟨hS1, hS2, hS3, hS4, hS5⟩ := hSw
        go_simp
        try with_reducible rfl
      try simp only [Act.put, List.setIfInBounds_toArray, List.set_cons_zero, List.set_cons_succ]
      refine wpAnyH_ready (rs := [23]) (by kernel_rfl) (by simp) ?_
      refine AllReadyH.cons (o := ⟨_, _, _, _, _, _⟩) rfl (fun K' hK => ?_) AllReadyH.nil
      go_simp
      refine hK.out _ _ ⟨(blk_alloc _ _ _ _).trans ((if_neg (by show ¬ bp = V.heap.size; omega)).trans hb), (blk_alloc _ _ _ _).trans ((if_neg (by show ¬ bR = V.heap.size; omega)).trans hCR), (blk_alloc _ _ _ _).trans ((if_neg (by show ¬ bL = V.heap.size; omega)).trans z2), (blk_alloc _ _ _ _).trans ((if_neg (by show ¬ bP = V.heap.size; omega)).trans z8), (blk_alloc _ _ _ _).trans ((if_neg (by show ¬ bq = V.heap.size; omega)).trans hCq)⟩ (fun hHeld => ?_)
      clear hK K'
      try simp only [Act.put, List.setIfInBounds_toArray, List.set_cons_zero, List.set_cons_succ]
      refine wpAnyH_ready (rs := [24]) (by kernel_rfl) (by simp) ?_
      refine AllReadyH.cons (o := ⟨_, _, _, _, _, _⟩) rfl (fun K' hK => ?_) AllReadyH.nil
      go_simp
      refine hK.out _ _ ⟨(by rw [blk_put, if_neg (by show ¬ bp = V.heap.size; omega)]; exact (blk_alloc _ _ _ _).trans ((if_neg (by show ¬ bp = V.heap.size; omega)).trans hb)), (by rw [blk_put, if_neg (by show ¬ bR = V.heap.size; omega)]; exact (blk_alloc _ _ _ _).trans ((if_neg (by show ¬ bR = V.heap.size; omega)).trans hCR)), (by rw [blk_put, if_neg (by show ¬ bL = V.heap.size; omega)]; exact (blk_alloc _ _ _ _).trans ((if_neg (by show ¬ bL = V.heap.size; omega)).trans z2)), (by rw [blk_put, if_neg (by show ¬ bP = V.heap.size; omega)]; exact (blk_alloc _ _ _ _).trans ((if_neg (by show ¬ bP = V.heap.size; omega)).trans z8)), (by rw [blk_put, if_neg (by show ¬ bq = V.heap.size; omega)]; exact (blk_alloc _ _ _ _).trans ((if_neg (by show ¬ bq = V.heap.size; omega)).trans hCq))⟩ (fun hHeld => ?_)
      clear hK K'
      try simp only [Act.put, List.setIfInBounds_toArray, List.set_cons_zero, List.set_cons_succ]
      refine wpAnyH_done (by kernel_rfl) ?_ _
      go_upto_region 9 with fail
      refine wp_world (fun V2 => blk V2 V.heap.size = some xq.enc ∧ V.Extends V2) ⟨?_, ?_⟩ ?_
      · rw [blk_put, if_pos rfl, blk_drew, blk_alloc, if_pos rfl]; rfl
      · exact extends_put (by (repeat (first | assumption | exact ext_Ext (Ext.refl _) | apply extends_drew | apply extends_alloc | (refine extends_put ?_ (by first | exact Nat.le_refl _ | assumption | omega) _)))) (Nat.le_refl _) _
      rintro V2 ⟨hbI, hX2⟩
      have HX2 := hid_of hX2
      obtain ⟨bI, ebI⟩ : ∃ b, b = V.heap.size := ⟨_, rfl⟩
      rw [← ebI] at hbI ⊢
      clear hX2 ebI
      clear hHeld
      have hx2 : V.Extends V2 := HX2.out
      have hM2 := HM.out.ext' hx2
      have hCq2 : blk V2 bq = some Cq := (hx2.blk wbq).trans hCq
      have hb72 := hM2.c7
      have hf72 := hM2.f7
      have HM2 := hid_of hM2
      have HYC2 := hid_of (HYC.out.ext (core_ext (O := O) hx2))
      obtain ⟨xb, hxb⟩ : ∃ xb, xb = xq.base := ⟨_, rfl⟩
      obtain ⟨xs, hxs⟩ : ∃ xs, xs = xq.stratum := ⟨_, rfl⟩
      have y1 := PredInfo.base_get xq
      have y2 := PredInfo.stratum_get xq
      have y3 := PredInfo.length_enc xq
      obtain ⟨XQ, hXQ⟩ : ∃ XQ, XQ = xq.enc := ⟨_, rfl⟩
      rw [← hXQ] at hbI y1 y2 y3
      rw [← hxb] at y1
      rw [← hxs] at y2
      rw [← hxb, ← hxs] at HDL
      clear hx2 hM2 HM HYC HX2 hb hCR z2 z8 hCq hb7 hf7 hxb hxs w5 hXQ
      by_cases hg : xb = false ∧ xs = (s : Int)
      · obtain ⟨rfl, rfl⟩ := hg
        have hdl2 : Dl p s k (i + 1) = Dl p s k i ++ [d] := by
          have := HDL.out
          simpa using this
        obtain ⟨a', c', W2, hrun, hrow2, hfr⟩ := appL Plan.enc 3 40 104 103 Try.underlying104 info103 Plan.length_enc Plan.one_enc (by omega) (by omega) (W := V2.drew) 104 y (HM2.out.ext' (extd V2)).row (Nat.le_trans HM2.out.sz (Nat.le_refl _)) (by rw [HM2.out.len]; have h1 := List.length_filter_le (gro p s k) ((posOf (p.L k) (p.L k).length).take (i - 1)); have h2 := List.length_take_le (i - 1) (posOf (p.L k) (p.L k).length); unfold Dl; omega) y.enc.toArray rfl 1
        have ho7 : O b7 = .a 0 0 := HM2.out.old b7 h7n
        have hno : ¬ (Lab.no = .a 1 0) := fun e => by cases e
        have n01 : ¬ (Lab.a 0 0 = .a 1 0) := fun e => by injection e with e _; cases e
        have hb7W : blk W2 b7 = some (jbE pf a m c) := hfr.blk (W := V2.drew) hb72 (by rw [ho7]; exact n01)
        have hf7W : free W2 b7 = true := hfr.free (W := V2.drew) hb72 hf72 (by rw [ho7]; exact n01)
        have hOq2 : O bq = .no := hOq
        have hCqW : blk W2 bq = some Cq := hfr.blk (W := V2.drew) hCq2 (by rw [hOq2]; exact hno)
        have HQ' : Hid (∃ O, MJ w n b6 b7 p s k (i + 1) (some ⟨bq, 0, none⟩) pm Qs pf a' (m + 1) c' (Ys ++ [y]) O (put W2 b7 (jbE pf a' (m + 1) c'))) := by
          have hm := HM2.out.ext' (extd V2)
          have hc := core_fr hfr hno
          have hVs : V2.heap.size ≤ W2.heap.size := hfr.size
          have hnV := HM2.out.sz
          have hold : ∀ b, b < n → lab O V2.drew.heap.size (.a 1 0) b = .a 0 0 := fun b hb => by
            show lab O V2.heap.size (.a 1 0) b = _
            rw [lab_lt (show b < V2.heap.size by omega)]; exact hm.old b hb
          have hm2 : MJ w n b6 b7 p s k i (some ⟨bq, 0, none⟩) pm Qs pf a m c Ys O V2.drew := hm
          have hF7 : Fr (fun l => l = .a 0 0) (lab O V2.drew.heap.size (.a 1 0)) W2 (lab O V2.drew.heap.size (.a 1 0)) (put W2 b7 (jbE pf a' (m + 1) c')) := (Fr.refl (fun l => l = Lab.a 0 0) (lab O V2.drew.heap.size (.a 1 0)) W2).put (b := b7) (hold b7 h7n) _
          have hc2 := core_fr hF7 (fun e => by cases e)
          have hc3 := hc.trans hc2
          have hxW : w.Extends W2 := hfr.extends hm.ext (fun b hb e => by
            rw [hm.old b (by omega)] at e; exact n01 e)
          refine ⟨lab O V2.drew.heap.size (.a 1 0), hold, (Fr.put_new (L := fun _ => False) (O := fun _ => Lab.no) (Fr.of_extends hxW) hw7 _).extends (ext_Ext (Ext.refl _)) (fun _ _ h => h), by rw [size_put]; omega, hrow2.fr hF7 (fun e => by injection e with e _; cases e), by rw [blk_put, if_pos rfl, hb7W]; rfl, by rw [free_put]; exact hf7W, by rw [blk_put, if_neg h67]; exact hfr.blk hm.c6 (by rw [hm.old b6 h6n]; exact n01), by rw [free_put]; exact hfr.free hm.c6 hm.f6 (by rw [hm.old b6 h6n]; exact n01), hm.pls.grow hc3, fun j z e hz he => (hm.plc j z e hz he).ext hc3, by rw [hdl2, List.length_append, List.length_append, hm.len]; rfl, fun j z e hz he => ?_, fun h1 => (hm.ful (by omega)).ext hc3⟩
          rw [hdl2] at he
          by_cases hj : j < Ys.length
          · rw [List.getElem?_append_left hj] at hz
            rw [List.getElem?_append_left (by rw [← hm.len]; exact hj)] at he
            exact (hm.dls j z e hz he).ext hc3
          · have hl' := (List.getElem?_eq_some_iff.1 hz).1
            rw [List.length_append, List.length_singleton] at hl'
            obtain rfl : j = Ys.length := by omega
            rw [List.getElem?_append_right (Nat.le_refl _), Nat.sub_self] at hz
            rw [hm.len, List.getElem?_append_right (Nat.le_refl _), Nat.sub_self] at he
            have e3 : y = z := Option.some.inj hz
            have e4 : d = e := Option.some.inj he
            subst e3 e4
            exact (HYC2.out.ext (core_ext (extd V2))).ext hc3
        have nq7 : ¬ bq = b7 := by have := HQN.out; omega
        have mb7 : ¬ b7 = V2.heap.size := by have := blk_lt hb72; omega
        have mbq : ¬ bq = V2.heap.size := by have := blk_lt hCq2; omega
        clear hrow2 hfr HM2 HYC2 hdl2 HDL hno n01 ho7 hOq2
        go_upto_region 10 with fail
        refine wp_region_held_drew (S := fun W' => blk W' bq = some Cq) (by kernel_rfl) hCq2 (fun hHeld => ?_)
        refine wpAnyH_take (i := 0) (oi := ⟨_, _, _, _, _, _⟩) (v := ?_) rfl (by kernel_rfl) (by kernel_rfl) (by kernel_rfl) (fun _ _ _ h => h) (Or.inl ⟨by rfl, ?_⟩) (by assumption) ?_
        rotate_left 1
        · intro W' hSw
          go_simp
          try with_reducible rfl
        try simp only [Act.put, List.setIfInBounds_toArray, List.set_cons_zero, List.set_cons_succ]
        refine wpAnyH_take (i := 2) (oi := ⟨_, _, _, _, _, _⟩) (v := ?_) rfl (by kernel_rfl) (by kernel_rfl) (by kernel_rfl) (fun _ _ _ h => h) (Or.inl ⟨by rfl, ?_⟩) (by assumption) ?_
        rotate_left 1
        · intro W' hSw
          go_simp
          try with_reducible rfl
        try simp only [Act.put, List.setIfInBounds_toArray, List.set_cons_zero, List.set_cons_succ]
        refine wpAnyH_take (i := 3) (oi := ⟨_, _, _, _, _, _⟩) (v := ?_) rfl (by kernel_rfl) (by kernel_rfl) (by kernel_rfl) (fun _ _ _ h => h) (Or.inl ⟨by rfl, ?_⟩) (by assumption) ?_
        rotate_left 1
        · intro W' hSw
          go_simp
          try with_reducible rfl
        try simp only [Act.put, List.setIfInBounds_toArray, List.set_cons_zero, List.set_cons_succ]
        refine wpAnyH_take (i := 4) (oi := ⟨_, _, _, _, _, _⟩) (v := ?_) rfl (by kernel_rfl) (by kernel_rfl) (by kernel_rfl) (fun _ _ _ h => h) (Or.inl ⟨by rfl, ?_⟩) (by assumption) ?_
        rotate_left 1
        · intro W' hSw
          go_simp
          try with_reducible rfl
        try simp only [Act.put, List.setIfInBounds_toArray, List.set_cons_zero, List.set_cons_succ]
        refine wpAnyH_take (i := 5) (oi := ⟨_, _, _, _, _, _⟩) (v := ?_) rfl (by kernel_rfl) (by kernel_rfl) (by kernel_rfl) (fun _ _ _ h => h) (Or.inl ⟨by rfl, ?_⟩) (by assumption) ?_
        rotate_left 1
        · intro W' hSw
          go_simp
          try with_reducible rfl
        try simp only [Act.put, List.setIfInBounds_toArray, List.set_cons_zero, List.set_cons_succ]
        refine wpAnyH_ready (rs := [1, 6]) (by kernel_rfl) (by simp) ?_
        refine AllReadyH.cons (o := ⟨_, _, _, _, _, _⟩) rfl (fun K' hK => ?_) (AllReadyH.cons (o := ⟨_, _, _, _, _, _⟩) rfl (fun K' hK => ?_) AllReadyH.nil)
        · go_simp
          refine hK.out _ _ hCq2 (fun hHeld => ?_)
          clear hK K'
          try simp only [Act.put, List.setIfInBounds_toArray, List.set_cons_zero, List.set_cons_succ]
          refine wpAnyH_ready (rs := [6]) (by kernel_rfl) (by simp) ?_
          refine AllReadyH.cons (o := ⟨_, _, _, _, _, _⟩) rfl (fun K' hK => ?_) AllReadyH.nil
          go_simp
          refine hK.out _ _ ((blk_alloc _ _ _ _).trans ((if_neg mbq).trans hCq2)) (fun hHeld => ?_)
          clear hK K'
          try simp only [Act.put, List.setIfInBounds_toArray, List.set_cons_zero, List.set_cons_succ]
          refine wpAnyH_ready (rs := [7]) (by kernel_rfl) (by simp) ?_
          refine AllReadyH.cons (o := ⟨_, _, _, _, _, _⟩) rfl (fun K' hK => ?_) AllReadyH.nil
          refine wp_append_run _ _ 104 rfl _ _ _ _ rfl rfl hrun ?_
          refine hK.out _ _ hCqW (fun hHeld => ?_)
          clear hK K'
          try simp only [Act.put, List.setIfInBounds_toArray, List.set_cons_zero, List.set_cons_succ]
          refine wpAnyH_take (i := 8) (oi := ⟨_, _, _, _, _, _⟩) (v := ?_) rfl (by kernel_rfl) (by kernel_rfl) (by kernel_rfl) (fun _ _ _ h => h) (Or.inl ⟨by rfl, ?_⟩) (by assumption) ?_
          rotate_left 1
          · intro W' hSw
            go_simp
            try with_reducible rfl
          try simp only [Act.put, List.setIfInBounds_toArray, List.set_cons_zero, List.set_cons_succ]
          refine wpAnyH_ready (rs := [9]) (by kernel_rfl) (by simp) ?_
          refine AllReadyH.cons (o := ⟨_, _, _, _, _, _⟩) rfl (fun K' hK => ?_) AllReadyH.nil
          go_simp
          refine hK.out _ _ (by rw [blk_put, if_neg nq7]; exact hCqW) (fun hHeld => ?_)
          clear hK K'
          try simp only [Act.put, List.setIfInBounds_toArray, List.set_cons_zero, List.set_cons_succ]
          refine wpAnyH_done (by kernel_rfl) ?_ _
          clear hHeld
          go_wp2_with fail
          refine ⟨rfl, rfl, ⟨rfl, rfl, rfl, rfl, rfl, rfl, i + 1, pf, a', m + 1, c', Ys ++ [y], by omega, ?_, HQ'⟩, ?_⟩
          · show Value.int .i64 _ = _
            go_num
          · show pm - (intOf (Value.int .i64 _)).toNat < pm - (intOf (F 9)).toNat
            rw [H9.out]
            simp [intOf]; omega
        · go_simp
          refine hK.out _ _ ((blk_alloc _ _ _ _).trans ((if_neg mbq).trans hCq2)) (fun hHeld => ?_)
          clear hK K'
          try simp only [Act.put, List.setIfInBounds_toArray, List.set_cons_zero, List.set_cons_succ]
          refine wpAnyH_ready (rs := [1]) (by kernel_rfl) (by simp) ?_
          refine AllReadyH.cons (o := ⟨_, _, _, _, _, _⟩) rfl (fun K' hK => ?_) AllReadyH.nil
          go_simp
          refine hK.out _ _ ((blk_alloc _ _ _ _).trans ((if_neg mbq).trans hCq2)) (fun hHeld => ?_)
          clear hK K'
          try simp only [Act.put, List.setIfInBounds_toArray, List.set_cons_zero, List.set_cons_succ]
          refine wpAnyH_ready (rs := [7]) (by kernel_rfl) (by simp) ?_
          refine AllReadyH.cons (o := ⟨_, _, _, _, _, _⟩) rfl (fun K' hK => ?_) AllReadyH.nil
          refine wp_append_run _ _ 104 rfl _ _ _ _ rfl rfl hrun ?_
          refine hK.out _ _ hCqW (fun hHeld => ?_)
          clear hK K'
          try simp only [Act.put, List.setIfInBounds_toArray, List.set_cons_zero, List.set_cons_succ]
          refine wpAnyH_take (i := 8) (oi := ⟨_, _, _, _, _, _⟩) (v := ?_) rfl (by kernel_rfl) (by kernel_rfl) (by kernel_rfl) (fun _ _ _ h => h) (Or.inl ⟨by rfl, ?_⟩) (by assumption) ?_
          rotate_left 1
          · intro W' hSw
            go_simp
            try with_reducible rfl
          try simp only [Act.put, List.setIfInBounds_toArray, List.set_cons_zero, List.set_cons_succ]
          refine wpAnyH_ready (rs := [9]) (by kernel_rfl) (by simp) ?_
          refine AllReadyH.cons (o := ⟨_, _, _, _, _, _⟩) rfl (fun K' hK => ?_) AllReadyH.nil
          go_simp
          refine hK.out _ _ (by rw [blk_put, if_neg nq7]; exact hCqW) (fun hHeld => ?_)
          clear hK K'
          try simp only [Act.put, List.setIfInBounds_toArray, List.set_cons_zero, List.set_cons_succ]
          refine wpAnyH_done (by kernel_rfl) ?_ _
          clear hHeld
          go_wp2_with fail
          refine ⟨rfl, rfl, ⟨rfl, rfl, rfl, rfl, rfl, rfl, i + 1, pf, a', m + 1, c', Ys ++ [y], by omega, ?_, HQ'⟩, ?_⟩
          · show Value.int .i64 _ = _
            go_num
          · show pm - (intOf (Value.int .i64 _)).toNat < pm - (intOf (F 9)).toNat
            rw [H9.out]
            simp [intOf]; omega
      · have hdl2 : Dl p s k (i + 1) = Dl p s k i := by
          have h1 := HDL.out
          rw [if_neg (fun h => hg (by simpa using h))] at h1
          exact h1
        have HQ' : Hid (∃ O, MJ w n b6 b7 p s k (i + 1) (some ⟨bq, 0, none⟩) pm Qs pf a m c Ys O V2) := by
          have hm := HM2.out
          exact ⟨O, hm.old, hm.ext, hm.sz, hm.row, hm.c7, hm.f7, hm.c6, hm.f6, hm.pls, hm.plc, by rw [hdl2]; exact hm.len, by rw [hdl2]; exact hm.dls, fun _ => hm.ful (by omega)⟩
        clear HM2 HYC2 hdl2 HDL
        cases xb with
        | true =>
          go_wp2_with fail
          refine ⟨rfl, rfl, ⟨rfl, rfl, rfl, rfl, rfl, rfl, i + 1, pf, a, m, c, Ys, by omega, ?_, HQ'⟩, ?_⟩
          · show Value.int .i64 _ = _
            go_num
          · show pm - (intOf (Value.int .i64 _)).toNat < pm - (intOf (F 9)).toNat
            rw [H9.out]
            simp [intOf]; omega
        | false =>
          have hxs' : ¬ xs = (s : Int) := fun e => hg ⟨rfl, e⟩
          have hxb' : (xs == (s : Int)) = false := by simp; exact hxs'
          go_wp2_with fail
          refine ⟨rfl, rfl, ⟨rfl, rfl, rfl, rfl, rfl, rfl, i + 1, pf, a, m, c, Ys, by omega, ?_, HQ'⟩, ?_⟩
          · show Value.int .i64 _ = _
            go_num
          · show pm - (intOf (Value.int .i64 _)).toNat < pm - (intOf (F 9)).toNat
            rw [H9.out]
            simp [intOf]; omega
  · obtain rfl : i = pm := by omega
    have hin' : ¬ ((i : Int) < (i : Int)) := by omega
    have hb6 := hM.c6
    have hf6 := hM.f6
    have HP : Hid (JobX w p s k (.returned (.agg (jbE pf a m c).toArray)) (put V b6 (jbE pf a m c))) := hM.fin HPM2.out h6n hw6 hwn _
    clear HQ hM
    go_wp2_with fail
    refine ret_cell (C := jbE pf a m c) rfl rfl ?_ (by kernel_rfl) (by rw [jb_len]; kernel_rfl) rfl HP.out
    rw [blk_put, if_pos rfl, hb6]
    rfl
end Go.Proofs.Qxb6500788a
