import Derived.Test.Qxb6500788aMd
import Derived.StillTailTactics
import Derived.Deep.QuietTactic
import Derived.BigQuiet
import Derived.Deep.RegionHeld
import Derived.Deep.CutRange
import Derived.Laws.ResultCell
import Derived.Laws.Rows
import Derived.DeepKeys
import Derived.DataBytes
import Derived.Laws.StructEq
import Derived.Laws.AppendOwn
import Derived.Laws.MakeOwn
set_option linter.unusedSimpArgs false
set_option linter.unusedVariables false
namespace Go.Proofs.Qxb6500788a
open Go.RowKit Go.Blk
attribute [local go_sem ↓] execOp_load execOp_store execOp_alloc
attribute [local go_sem] Try.ld24 Try.st24 Try.ld25 Try.st25 Try.ld3 Try.st3 Try.ld30 Try.st30 Try.ld36 Try.st36 Try.ld4 Try.st4 Try.ld41 Try.st41 Try.ld50 Try.st50 Try.ld40 Try.st40 Try.ld42 Try.st42 Try.ld89 Try.st89 Try.ld91 Try.st91 Try.ld56 Try.st56 Try.ld97 Try.st97 Try.ld98 Try.st98 Try.ld101 Try.st101 Try.ld104 Try.st104 Try.ld57 Try.st57 Try.ld130 Try.st130 Try.ld2 Try.st2 Try.ld5 Try.st5 Try.ld9 Try.st9 Try.ld12 Try.st12 Try.ld21 Try.st21 Try.ld22 Try.st22 Try.ld29 Try.st29 Try.ld33 Try.st33 Try.ld59 Try.st59 Try.ld62 Try.st62 Try.ld69 Try.st69 Try.ld94 Try.st94 Try.ld96 Try.st96 Try.ld129 Try.st129 Try.ld158 Try.st158 Try.ld162 Try.st162 Try.ld47 Try.st47 Try.ld44 Try.st44 Try.ld137 Try.st137 Try.ld145 Try.st145 Try.ld43 Try.st43 Try.ld27 Try.st27 Try.ld38 Try.st38 Try.ld46 Try.st46 Try.ld49 Try.st49 Try.ld52 Try.st52 Try.ld54 Try.st54 Try.ld61 Try.st61 Try.ld80 Try.st80 Try.ld87 Try.st87 Try.ld93 Try.st93 Try.ld100 Try.st100 Try.ld103 Try.st103 Try.ld106 Try.st106 Try.ld109 Try.st109 Try.ld132 Try.st132 Try.ld147 Try.st147 Try.al47 Try.al44 Try.al137 Try.al145 Try.al43 Try.al27 Try.al38 Try.al46 Try.al49 Try.al52 Try.al54 Try.al61 Try.al80 Try.al87 Try.al93 Try.al100 Try.al103 Try.al106 Try.al109 Try.al132 Try.al147
attribute [local go_sem] GProgram.length_enc GProgram.ok_enc GProgram.all_get GProgram.all_set GProgram.preds_get GProgram.preds_set GProgram.rules_get GProgram.rules_set GProgram.strata_get GProgram.strata_set Answer.length_enc Answer.ok_enc Answer.all_get Answer.all_set Answer.code_get Answer.code_set Answer.n_get Answer.n_set Answer.rows_get Answer.rows_set Term.length_enc Term.ok_enc Term.all_get Term.all_set Term.var_get Term.var_set Term.n_get Term.n_set Atom.length_enc Atom.ok_enc Atom.all_get Atom.all_set Atom.pred_get Atom.pred_set Atom.args_get Atom.args_set GRule.length_enc GRule.ok_enc GRule.all_get GRule.all_set GRule.head_get GRule.head_set GRule.body_get GRule.body_set GRule.head_pred_get GRule.head_pred_set GRule.head_args_get GRule.head_args_set GOp.length_enc GOp.ok_enc GOp.all_get GOp.all_set GOp.kind_get GOp.kind_set GOp.pred_get GOp.pred_set GOp.t_get GOp.t_set GOp.n_get GOp.n_set GOp.base_get GOp.base_set GOp.rule_get GOp.rule_set GOp.rule_head_get GOp.rule_head_set GOp.rule_body_get GOp.rule_body_set GOp.rule_head_pred_get GOp.rule_head_pred_set GOp.rule_head_args_get GOp.rule_head_args_set PredInfo.length_enc PredInfo.ok_enc PredInfo.all_get PredInfo.all_set PredInfo.arity_get PredInfo.arity_set PredInfo.base_get PredInfo.base_set PredInfo.stratum_get PredInfo.stratum_set GStats.length_enc GStats.ok_enc GStats.all_get GStats.all_set GStats.rounds_get GStats.rounds_set GStats.fired_get GStats.fired_set GStats.emitted_get GStats.emitted_set GStats.fresh_get GStats.fresh_set Literal.length_enc Literal.ok_enc Literal.all_get Literal.all_set Literal.neg_get Literal.neg_set Literal.atom_get Literal.atom_set Literal.atom_pred_get Literal.atom_pred_set Literal.atom_args_get Literal.atom_args_set Engine.length_enc Engine.ok_enc Engine.all_get Engine.all_set Engine.prog_get Engine.prog_set Engine.st_get Engine.st_set Engine.levels_get Engine.levels_set Engine.running_get Engine.running_set Engine.stratum_get Engine.stratum_set Engine.round_get Engine.round_set Engine.saved_get Engine.saved_set Engine.stats_get Engine.stats_set Engine.prog_preds_get Engine.prog_preds_set Engine.prog_rules_get Engine.prog_rules_set Engine.prog_strata_get Engine.prog_strata_set Engine.stats_rounds_get Engine.stats_rounds_set Engine.stats_fired_get Engine.stats_fired_set Engine.stats_emitted_get Engine.stats_emitted_set Engine.stats_fresh_get Engine.stats_fresh_set Level.length_enc Level.ok_enc Level.all_get Level.all_set Level.heads_get Level.heads_set Level.jobs_get Level.jobs_set Plan.length_enc Plan.ok_enc Plan.all_get Plan.all_set Plan.rule_get Plan.rule_set Plan.delta_get Plan.delta_set Plan.src_get Plan.src_set Job.length_enc Job.ok_enc Job.all_get Job.all_set Job.full_get Job.full_set Job.deltas_get Job.deltas_set Job.full_rule_get Job.full_rule_set Job.full_delta_get Job.full_delta_set Job.full_src_get Job.full_src_set GState.length_enc GState.ok_enc GState.all_get GState.all_set GState.prog_get GState.prog_set GState.base_get GState.base_set GState.shown_get GState.shown_set GState.prog_preds_get GState.prog_preds_set GState.prog_rules_get GState.prog_rules_set GState.prog_strata_get GState.prog_strata_set Store.length_enc Store.ok_enc Store.all_get Store.all_set Store.arity_get Store.arity_set Store.rows_get Store.rows_set Env.length_enc Env.ok_enc Env.all_get Env.all_set Env.val_get Env.val_set Env.set_get Env.set_set
attribute [local go_sem] size_put size_ext blk_put free_put blk_alloc free_alloc blk_drew free_drew blk_ext free_ext lookOr_some putOr_some segAt_some cellAt_some storeIn_some put_put put_alloc_new length_arr ok_arr_u8 ok_arr_u32 ok_arr_u64 ok_arr_i64 ok_arr_sl cellsV_agg cellsV_int cellsV_bool cellsV_string cellsV_pointer cellsV_slice cellsV_sl ok_int ok_bool ok_string ok_pointer ok_slice ok_sl toList_arr seg_arr set_arr nth_splice nth_splice0 seg_splice seg_splice0 splice_splice splice_splice0 length_splice_if
attribute [local go_sem ↓] execOp_box
attribute [local go_sem] box_run nth_arr_u8 put_arr_u8 blk_drewN free_drewN put_drewN blk_raw free_raw
/-- The world without the blocks that bear a label. -/
def dead : Lab → Obj → Obj
  | .no, x => x
  | .a _ _, _ => .view ⟨0, 0, none⟩ 0
def core (O : Own) (W : World) : World := { W with heap := W.heap.mapIdx fun k x => dead (O k) x }
theorem core_heap (O : Own) (W : World) (k : Nat) : (core O W).heap[k]? = (W.heap[k]?).map (dead (O k)) := by
  unfold core
  simp [Array.getElem?_mapIdx]
theorem core_size (O : Own) (W : World) : (core O W).heap.size = W.heap.size := by
  unfold core; simp
theorem core_blk {O : Own} {W : World} {k : Nat} {C : List Value} (h : blk (core O W) k = some C) : blk W k = some C ∧ O k = .no := by
  have hh := core_heap O W k
  unfold blk at h ⊢
  rw [hh] at h
  cases hk : W.heap[k]? with
  | none => rw [hk] at h; cases h
  | some x =>
    rw [hk] at h
    cases ho : O k with
    | no => rw [ho] at h; exact ⟨h, rfl⟩
    | a g n => rw [ho] at h; cases h
theorem blk_core {O : Own} {W : World} {k : Nat} {C : List Value} (h : blk W k = some C) (ho : O k = .no) : blk (core O W) k = some C := by
  have hh := core_heap O W k
  unfold blk at h ⊢
  rw [hh, ho]
  cases hk : W.heap[k]? with
  | none => rw [hk] at h; cases h
  | some x => rw [hk] at h; exact h
theorem ext_of {w w' : World} (h1 : w'.os = w.os) (h2 : w'.tape = w.tape) (h3 : w'.output = w.output) (h4 : w.heap.size ≤ w'.heap.size) (h5 : ∀ k, k < w.heap.size → w'.heap[k]? = w.heap[k]?) : w.Extends w' :=
  (Fr.extends (L := fun _ => False) (O := fun _ => Lab.no) (O' := fun _ => Lab.no) ⟨h1, h2, h3, h4, fun _ _ => rfl, fun k hk _ => h5 k hk⟩ (ext_Ext (Ext.refl _)) (fun _ _ h => h))
theorem core_fr {L : Lab → Prop} {O O' : Own} {W W' : World} (h : Fr L O W O' W') (hl : ¬ L .no) : (core O W).Extends (core O' W') := by
  refine ext_of h.os h.tape h.output (by rw [core_size, core_size]; exact h.size) (fun k hk => ?_)
  rw [core_size] at hk
  rw [core_heap, core_heap, h.keep k hk]
  cases ho : O k with
  | no => rw [h.block k hk (by rw [ho]; exact hl)]
  | a g n =>
    have h1 : k < W'.heap.size := Nat.lt_of_lt_of_le hk h.size
    rw [Array.getElem?_eq_getElem hk, Array.getElem?_eq_getElem h1]
    rfl
theorem Rw.uncore {α : Type} {en : α → List Value} {sz : Nat} {O : Own} {W : World} {a : Option Addr} {n : Nat} {L : List α} (h : Rw en sz (core O W) a n L) : Rw en sz W a n L := ⟨h.1, fun i x hx => by
  obtain ⟨b, C, h1, h2, h3⟩ := h.2 i x hx
  exact ⟨b, C, h1, (core_blk h2).1, h3⟩⟩
theorem Rw.tocore {α : Type} {en : α → List Value} {sz : Nat} {O : Own} {W : World} {a : Option Addr} {n : Nat} {L : List α} (h : Rw en sz W a n L) (ho : ∀ b C, a = some ⟨b, 0, none⟩ → blk W b = some C → O b = .no) : Rw en sz (core O W) a n L := ⟨h.1, fun i x hx => by
  obtain ⟨b, C, h1, h2, h3⟩ := h.2 i x hx
  exact ⟨b, C, h1, blk_core h2 (ho b C h1 h2), h3⟩⟩
theorem At.uncore {α : Type} {e : α → List Value} {sz : Nat} {O : Own} {W : World} {b o : Nat} {a : Option Addr} {n : Nat} {L : List α} (h : At e sz (core O W) b o a n L) : At e sz W b o a n L := ⟨h.1, fun h0 => by
  obtain ⟨h1, C, h2, h3⟩ := h.2 h0
  exact ⟨h1, C, (core_blk h2).1, h3⟩⟩
theorem At.tocore {α : Type} {e : α → List Value} {sz : Nat} {O : Own} {W : World} {b o : Nat} {a : Option Addr} {n : Nat} {L : List α} (h : At e sz W b o a n L) (ho : n ≠ 0 → O b = .no) : At e sz (core O W) b o a n L := ⟨h.1, fun h0 => by
  obtain ⟨h1, C, h2, h3⟩ := h.2 h0
  exact ⟨h1, C, blk_core h2 (ho h0), h3⟩⟩
/-- A program, plainly: predicates, rules, bodies, the number of strata. -/
structure Pg where
  P : List PredInfo
  R : List GRule
  L : Nat → List Literal
  St : Nat
/-- A program's three cells in memory that does not change. -/
def PrgC (W : World) (x : GProgram) (p : Pg) : Prop :=
  x.preds.len = p.P.length ∧ x.rules.len = p.R.length ∧ x.strata = (p.St : Int) ∧ (∃ bP, At PredInfo.enc 3 W bP 0 x.preds.a p.P.length p.P) ∧ (∃ bR, At GRule.enc 10 W bR 0 x.rules.a p.R.length p.R) ∧ ∀ k r, p.R[k]? = some r → ∃ bL oL ba bc, Sl.val r.body = .slice ba (p.L k).length bc ∧ At Literal.enc 10 W bL oL ba (p.L k).length (p.L k)
theorem PrgC.ext {W W' : World} {x : GProgram} {p : Pg} (h : PrgC W x p) (he : W.Extends W') : PrgC W' x p := by
  obtain ⟨h1, h2, h3, ⟨bP, h4⟩, ⟨bR, h5⟩, h6⟩ := h
  refine ⟨h1, h2, h3, ⟨bP, h4.grw he⟩, ⟨bR, h5.grw he⟩, fun k r hr => ?_⟩
  obtain ⟨bL, oL, ba, bc, g1, g2⟩ := h6 k r hr
  exact ⟨bL, oL, ba, bc, g1, g2.grw he⟩
theorem PrgC.uncore {O : Own} {W : World} {x : GProgram} {p : Pg} (h : PrgC (core O W) x p) : PrgC W x p := by
  obtain ⟨h1, h2, h3, ⟨bP, h4⟩, ⟨bR, h5⟩, h6⟩ := h
  refine ⟨h1, h2, h3, ⟨bP, h4.uncore⟩, ⟨bR, h5.uncore⟩, fun k r hr => ?_⟩
  obtain ⟨bL, oL, ba, bc, g1, g2⟩ := h6 k r hr
  exact ⟨bL, oL, ba, bc, g1, g2.uncore⟩
/-- Where a plan's literals read. -/
def srcOf (L : List Literal) (d : Int) : List Nat := L.mapIdx fun i l => if (i : Int) = d then 3 * l.atom.pred.toNat + 1 else 3 * l.atom.pred.toNat
/-- A plan of rule k, with literal d reading the delta. -/
def PlanC (W : World) (x : Plan) (p : Pg) (k : Nat) (d : Int) : Prop := x.rule = (k : Int) ∧ x.delta = d ∧ Rw encN 1 W x.src.a x.src.len (srcOf (p.L k) d)
theorem PlanC.ext {W W' : World} {x : Plan} {p : Pg} {k : Nat} {d : Int} (h : PlanC W x p k d) (he : W.Extends W') : PlanC W' x p k d := ⟨h.1, h.2.1, h.2.2.grow he⟩
theorem PlanC.uncore {O : Own} {W : World} {x : Plan} {p : Pg} {k : Nat} {d : Int} (h : PlanC (core O W) x p k d) : PlanC W x p k d := ⟨h.1, h.2.1, h.2.2.uncore⟩
/-- Stratum of predicate q; base or not. -/
def strP (p : Pg) (q : Nat) : Int := (p.P.getD q ⟨0, false, 0⟩).stratum
def basP (p : Pg) (q : Nat) : Bool := (p.P.getD q ⟨0, false, 0⟩).base
def hdP (p : Pg) (k : Nat) : Atom := (p.R.getD k GRule.zero).head
/-- The derived predicates of a stratum; its rules; the places of a rule's body that can grow. -/
def headsOf (p : Pg) (s : Nat) : List Nat := (List.range p.P.length).filter fun q => !basP p q && decide (strP p q = (s : Int))
def jobsOf (p : Pg) (s : Nat) : List Nat := (List.range p.R.length).filter fun k => decide (strP p (hdP p k).pred.toNat = (s : Int))
def delOf (p : Pg) (s k : Nat) : List Nat := (List.range (p.L k).length).filter fun i => match (p.L k)[i]? with | some l => !l.neg && !basP p l.atom.pred.toNat && decide (strP p l.atom.pred.toNat = (s : Int)) | none => false
def JobC (W : World) (x : Job) (p : Pg) (s k : Nat) : Prop := PlanC W x.full p k (-1) ∧ ∃ D : List Plan, Rw Plan.enc 3 W x.deltas.a x.deltas.len D ∧ D.length = (delOf p s k).length ∧ ∀ (i : Nat) (y : Plan) (d : Nat), D[i]? = some y → (delOf p s k)[i]? = some d → PlanC W y p k (d : Int)
theorem JobC.ext {W W' : World} {x : Job} {p : Pg} {s k : Nat} (h : JobC W x p s k) (he : W.Extends W') : JobC W' x p s k := by
  obtain ⟨h1, D, h2, h3, h4⟩ := h
  exact ⟨h1.ext he, D, h2.grow he, h3, fun i y d hy hd => (h4 i y d hy hd).ext he⟩
theorem JobC.uncore {O : Own} {W : World} {x : Job} {p : Pg} {s k : Nat} (h : JobC (core O W) x p s k) : JobC W x p s k := by
  obtain ⟨h1, D, h2, h3, h4⟩ := h
  exact ⟨h1.uncore, D, h2.uncore, h3, fun i y d hy hd => (h4 i y d hy hd).uncore⟩
def LevelC (W : World) (x : Level) (p : Pg) (s : Nat) : Prop := Rw encN 1 W x.heads.a x.heads.len (headsOf p s) ∧ ∃ J : List Job, Rw Job.enc 4 W x.jobs.a x.jobs.len J ∧ J.length = (jobsOf p s).length ∧ ∀ (i : Nat) (y : Job) (k : Nat), J[i]? = some y → (jobsOf p s)[i]? = some k → JobC W y p s k
theorem LevelC.ext {W W' : World} {x : Level} {p : Pg} {s : Nat} (h : LevelC W x p s) (he : W.Extends W') : LevelC W' x p s := by
  obtain ⟨h1, D, h2, h3, h4⟩ := h
  exact ⟨h1.grow he, D, h2.grow he, h3, fun i y d hy hd => (h4 i y d hy hd).ext he⟩
theorem LevelC.uncore {O : Own} {W : World} {x : Level} {p : Pg} {s : Nat} (h : LevelC (core O W) x p s) : LevelC W x p s := by
  obtain ⟨h1, D, h2, h3, h4⟩ := h
  exact ⟨h1.uncore, D, h2.uncore, h3, fun i y d hy hd => (h4 i y d hy hd).uncore⟩
def LevC (W : World) (x : Sl) (p : Pg) : Prop := ∃ V : List Level, Rw Level.enc 2 W x.a x.len V ∧ V.length = p.St ∧ ∀ (s : Nat) (y : Level), V[s]? = some y → LevelC W y p s
theorem LevC.ext {W W' : World} {x : Sl} {p : Pg} (h : LevC W x p) (he : W.Extends W') : LevC W' x p := by
  obtain ⟨D, h2, h3, h4⟩ := h
  exact ⟨D, h2.grow he, h3, fun i y hy => (h4 i y hy).ext he⟩
theorem LevC.uncore {O : Own} {W : World} {x : Sl} {p : Pg} (h : LevC (core O W) x p) : LevC W x p := by
  obtain ⟨D, h2, h3, h4⟩ := h
  exact ⟨D, h2.uncore, h3, fun i y hy => (h4 i y hy).uncore⟩
def isE (g : Nat) (l : Lab) : Prop := isG g l ∨ isG (g + 1) l
/-- The engine in memory. -/
structure EIn (B : Nat) (O : Own) (W : World) (g be : Nat) (p : Pg) (x : Engine) (S sav : List (List Tup)) (bst : Nat) (D : List Sl) : Prop where
  cell : blk W be = some x.enc
  fre : free W be = true
  own : O be = .a (g + 1) 0
  xst : x.st = some ⟨bst, 0, none⟩
  st : SAt B O W g bst S
  prg : PrgC (core O W) x.prog p
  lev : LevC (core O W) x.levels p
  sv : RowL B O (.a (g + 1) 1) W 36 1 (Sl.val x.saved) D.length (D.flatMap slE)
  dl : D.length = p.P.length
  sl : sav.length = p.P.length
  dr : ∀ (i : Nat) (d : Sl) (L : List Tup), D[i]? = some d → sav[i]? = some L → Rw tpl 4 (core O W) d.a d.len L
def EAt (B : Nat) (O : Own) (W : World) (g be : Nat) (p : Pg) (x : Engine) (S sav : List (List Tup)) : Prop := ∃ bst D, EIn B O W g be p x S sav bst D
theorem SAt.base {B : Nat} {O : Own} {W : World} {g bst : Nat} {S : List (List Tup)} (h : SAt B O W g bst S) : B ≤ W.heap.size := by
  obtain ⟨aa, an, ac, ra, rn, rc, ar, D, h⟩ := h
  exact h.base
theorem EAt.base {B : Nat} {O : Own} {W : World} {g be : Nat} {p : Pg} {x : Engine} {S sav : List (List Tup)} (h : EAt B O W g be p x S sav) : B ≤ W.heap.size := by
  obtain ⟨bst, D, h⟩ := h
  exact h.st.base
theorem EAt.keep {B : Nat} {O O' : Own} {W W' : World} {g be : Nat} {p : Pg} {x : Engine} {S sav : List (List Tup)} (h : EAt B O W g be p x S sav) (hsz : W.heap.size ≤ W'.heap.size) (hw : ∀ k, k < W.heap.size → isE g (O k) → W'.heap[k]? = W.heap[k]? ∧ O' k = O k) (hc : (core O W).Extends (core O' W')) : EAt B O' W' g be p x S sav := by
  obtain ⟨bst, D, h⟩ := h
  have hm := hw be (blk_lt h.cell) (by rw [h.own]; exact .inr (isG_a _ 0))
  exact ⟨bst, D, (blk_of_heap hm.1).trans h.cell, (free_of_heap hm.1).trans h.fre, hm.2.trans h.own, h.xst, h.st.keep hsz (fun k hk ho => hw k hk (.inl ho)), h.prg.ext hc, h.lev.ext hc, h.sv.keep (fun k hk ho => hw k hk (by rw [ho]; exact .inr (isG_a _ 1))), h.dl, h.sl, fun i d L hd hL => (h.dr i d L hd hL).grow hc⟩
theorem core_ext {O : Own} {W W' : World} (he : W.Extends W') : (core O W).Extends (core O W') := core_fr (L := fun _ => False) (Fr.of_extends he) (fun h => h)
theorem EAt.ext {B : Nat} {O : Own} {W W' : World} {g be : Nat} {p : Pg} {x : Engine} {S sav : List (List Tup)} (h : EAt B O W g be p x S sav) (he : W.Extends W') : EAt B O W' g be p x S sav := h.keep he.size (fun k hk _ => ⟨he.block k hk, rfl⟩) (core_ext he)
theorem EAt.fr {L : Lab → Prop} {B : Nat} {O O' : Own} {W W' : World} {g be : Nat} {p : Pg} {x : Engine} {S sav : List (List Tup)} (h : EAt B O W g be p x S sav) (hf : Fr L O W O' W') (hl : ∀ l, isE g l → ¬ L l) (hn : ¬ L .no) : EAt B O' W' g be p x S sav := h.keep hf.size (fun k hk hm => ⟨hf.block k hk (hl _ hm), hf.keep k hk⟩) (core_fr hf hn)
theorem core_new {O : Own} {W W1 : World} (hx : W.Extends W1) (l : Lab) : (core O W).Extends (core (lab O W.heap.size l) W1) := core_fr (L := fun _ => False) ⟨hx.os, hx.tape, hx.output, hx.size, fun k hk => lab_lt hk, fun k hk _ => hx.block k hk⟩ (fun h => h)
theorem EAt.new {B : Nat} {O : Own} {W W1 : World} {g be : Nat} {p : Pg} {x : Engine} {S sav : List (List Tup)} (h : EAt B O W g be p x S sav) (hx : W.Extends W1) (l : Lab) : EAt B (lab O W.heap.size l) W1 g be p x S sav := h.keep hx.size (fun k hk _ => ⟨hx.block k hk, lab_lt hk⟩) (core_new hx l)
/-- What a call on the engine leaves. -/
def EOut (B : Nat) (O : Own) (W : World) (g be : Nat) (p : Pg) (x : Engine) (S sav : List (List Tup)) (W' : World) : Prop := ∃ O', Fr (isE g) O W O' W' ∧ EAt B O' W' g be p x S sav
theorem eout_same {B : Nat} {O : Own} {W W' : World} {g be : Nat} {p : Pg} {x : Engine} {S sav : List (List Tup)} (h : EAt B O W g be p x S sav) (he : W.Extends W') : EOut B O W g be p x S sav W' := ⟨O, Fr.of_extends he, h.ext he⟩
theorem EOut.bef {B : Nat} {O : Own} {W W1 : World} {g be : Nat} {p : Pg} {x : Engine} {S sav : List (List Tup)} {W' : World} (h : EOut B O W1 g be p x S sav W') (hx : W.Extends W1) : EOut B O W g be p x S sav W' := by
  obtain ⟨O', hF, hA⟩ := h
  exact ⟨O', (Fr.of_extends hx).trans hF, hA⟩
theorem fr_lab {L : Lab → Prop} {O O' : Own} {W W1 W' : World} {l : Lab} (hF : Fr L (lab O W.heap.size l) W1 O' W') (hx : W.Extends W1) : Fr L O W O' W' := ⟨hF.os.trans hx.os, hF.tape.trans hx.tape, hF.output.trans hx.output, Nat.le_trans hx.size hF.size, fun k hk => (hF.keep k (Nat.lt_of_lt_of_le hk hx.size)).trans (lab_lt hk), fun k hk hn => (hF.block k (Nat.lt_of_lt_of_le hk hx.size) (by rw [lab_lt hk]; exact hn)).trans (hx.block k hk)⟩
theorem eout_lab {B : Nat} {O : Own} {W W1 : World} {l : Lab} {g be : Nat} {p : Pg} {x : Engine} {S sav : List (List Tup)} {W' : World} (h : EOut B (lab O W.heap.size l) W1 g be p x S sav W') (hx : W.Extends W1) : EOut B O W g be p x S sav W' := by
  obtain ⟨O', hF, hA⟩ := h
  exact ⟨O', fr_lab hF hx, hA⟩
theorem isE_no (g : Nat) : ¬ isE g .no := by
  rintro (⟨n, h⟩ | ⟨n, h⟩) <;> cases h
/-- The engine opened: its store, and how a change of it is taken up. -/
theorem eat_st {B : Nat} {O : Own} {W : World} {g be : Nat} {p : Pg} {x : Engine} {S sav : List (List Tup)} (h : EAt B O W g be p x S sav) :
    ∃ bst, blk W be = some x.enc ∧ free W be = true ∧ x.st = some ⟨bst, 0, none⟩ ∧ SAt B O W g bst S ∧ O be = .a (g + 1) 0 ∧ ∀ S' O' W', Fr (isG g) O W O' W' → SAt B O' W' g bst S' → EAt B O' W' g be p x S' sav := by
  obtain ⟨bst, D, h⟩ := h
  refine ⟨bst, h.cell, h.fre, h.xst, h.st, h.own, fun S' O' W' hf hs => ?_⟩
  have hne : ¬ isG g (.a (g + 1) 0) := by rintro ⟨n, e⟩; injection e with e _; omega
  have hne1 : ¬ isG g (.a (g + 1) 1) := by rintro ⟨n, e⟩; injection e with e _; omega
  have hc := core_fr hf (by rintro ⟨n, e⟩; cases e)
  exact ⟨bst, D, hf.blk h.cell (by rw [h.own]; exact hne), hf.free h.cell h.fre (by rw [h.own]; exact hne), (hf.keep be (blk_lt h.cell)).trans h.own, h.xst, hs, h.prg.ext hc, h.lev.ext hc, h.sv.fr hf hne1, h.dl, h.sl, fun i d L hd hL => (h.dr i d L hd hL).grow hc⟩
/-- The engine's own cells changed. -/
theorem EAt.cells {B : Nat} {O : Own} {W : World} {g be : Nat} {p : Pg} {x : Engine} {S sav : List (List Tup)} (h : EAt B O W g be p x S sav) (x' : Engine) (h1 : x'.prog = x.prog) (h2 : x'.st = x.st) (h3 : x'.levels = x.levels) (h4 : x'.saved = x.saved) : EAt B O (put W be x'.enc) g be p x' S sav ∧ Fr (isE g) O W O (put W be x'.enc) := by
  obtain ⟨bst, D, h⟩ := h
  have hF : Fr (fun l => l = .a (g + 1) 0) O W O (put W be x'.enc) := (Fr.refl _ O W).put h.own _
  have hc := core_fr hF (by intro e; cases e)
  have hne : ∀ l, isG g l → ¬ l = .a (g + 1) 0 := by rintro l ⟨n, rfl⟩ e; injection e with e _; omega
  refine ⟨⟨bst, D, by rw [blk_put, if_pos rfl, h.cell]; rfl, by rw [free_put]; exact h.fre, h.own, h2.trans h.xst, h.st.fr hF hne, by rw [h1]; exact h.prg.ext hc, by rw [h3]; exact h.lev.ext hc, by rw [h4]; exact h.sv.fr hF (by intro e; injection e with _ e; cases e), h.dl, h.sl, fun i d L hd hL => (h.dr i d L hd hL).grow hc⟩, hF.mono (fun l e => by rw [e]; exact .inr (isG_a _ 0))⟩
theorem outs_core {O : Own} {W W1 : World} {a : Option Addr} {n c : Nat} {ts : List Tup} (h : Outs W W1 a n c ts) : Rw tpl 4 (core (lab O W.heap.size .no) W1) a n ts := by
  refine (outs_rw h).1.tocore (fun b C e _ => lab_ge ?_)
  subst e
  exact (row_at h.1 b rfl).1
theorem PrgC.prgM {W : World} {be : Nat} {x : Engine} {p : Pg} (h : PrgC W x.prog p) (hb : blk W be = some x.enc) : PrgM W be p.P p.R p.L p.St := by
  obtain ⟨h1, h2, h3, ⟨bP, h4⟩, ⟨bR, h5⟩, h6⟩ := h
  refine ⟨x.enc, x.prog.preds.a, x.prog.preds.cap, x.prog.rules.a, x.prog.rules.cap, bP, bR, hb, by rw [Engine.length_enc]; omega, ?_, ?_, ?_, h4, h5, h6⟩
  · rw [Engine.prog_preds_get]; unfold Sl.val; rw [h1]
  · rw [Engine.prog_rules_get]; unfold Sl.val; rw [h2]
  · rw [Engine.prog_strata_get, h3]
end Go.Proofs.Qxb6500788a
