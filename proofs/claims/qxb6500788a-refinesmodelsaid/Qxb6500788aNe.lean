import Derived.Test.Qxb6500788aNd
import Derived.StillTailTactics
import Derived.Deep.QuietTactic
import Derived.BigQuiet
import Derived.Deep.RegionHeld
import Derived.Deep.CutRange
import Derived.Laws.ResultCell
import Derived.Laws.Rows
import Derived.DeepKeys
import Derived.DataBytes
import Derived.Laws.StructEq
import Derived.Laws.AppendOwn
import Derived.Laws.MakeOwn
set_option linter.unusedSimpArgs false
set_option linter.unusedVariables false
namespace Go.Proofs.Qxb6500788a
open Go.RowKit Go.Blk
attribute [local go_sem ↓] execOp_load execOp_store execOp_alloc
attribute [local go_sem] Try.ld24 Try.st24 Try.ld25 Try.st25 Try.ld3 Try.st3 Try.ld30 Try.st30 Try.ld36 Try.st36 Try.ld4 Try.st4 Try.ld41 Try.st41 Try.ld50 Try.st50 Try.ld40 Try.st40 Try.ld42 Try.st42 Try.ld89 Try.st89 Try.ld91 Try.st91 Try.ld56 Try.st56 Try.ld97 Try.st97 Try.ld98 Try.st98 Try.ld101 Try.st101 Try.ld104 Try.st104 Try.ld57 Try.st57 Try.ld130 Try.st130 Try.ld2 Try.st2 Try.ld5 Try.st5 Try.ld9 Try.st9 Try.ld12 Try.st12 Try.ld21 Try.st21 Try.ld22 Try.st22 Try.ld29 Try.st29 Try.ld33 Try.st33 Try.ld59 Try.st59 Try.ld62 Try.st62 Try.ld69 Try.st69 Try.ld94 Try.st94 Try.ld96 Try.st96 Try.ld129 Try.st129 Try.ld158 Try.st158 Try.ld162 Try.st162 Try.ld47 Try.st47 Try.ld44 Try.st44 Try.ld137 Try.st137 Try.ld145 Try.st145 Try.ld43 Try.st43 Try.ld27 Try.st27 Try.ld38 Try.st38 Try.ld46 Try.st46 Try.ld49 Try.st49 Try.ld52 Try.st52 Try.ld54 Try.st54 Try.ld61 Try.st61 Try.ld80 Try.st80 Try.ld87 Try.st87 Try.ld93 Try.st93 Try.ld100 Try.st100 Try.ld103 Try.st103 Try.ld106 Try.st106 Try.ld109 Try.st109 Try.ld132 Try.st132 Try.ld147 Try.st147 Try.al47 Try.al44 Try.al137 Try.al145 Try.al43 Try.al27 Try.al38 Try.al46 Try.al49 Try.al52 Try.al54 Try.al61 Try.al80 Try.al87 Try.al93 Try.al100 Try.al103 Try.al106 Try.al109 Try.al132 Try.al147
attribute [local go_sem] GProgram.length_enc GProgram.ok_enc GProgram.all_get GProgram.all_set GProgram.preds_get GProgram.preds_set GProgram.rules_get GProgram.rules_set GProgram.strata_get GProgram.strata_set Answer.length_enc Answer.ok_enc Answer.all_get Answer.all_set Answer.code_get Answer.code_set Answer.n_get Answer.n_set Answer.rows_get Answer.rows_set Term.length_enc Term.ok_enc Term.all_get Term.all_set Term.var_get Term.var_set Term.n_get Term.n_set Atom.length_enc Atom.ok_enc Atom.all_get Atom.all_set Atom.pred_get Atom.pred_set Atom.args_get Atom.args_set GRule.length_enc GRule.ok_enc GRule.all_get GRule.all_set GRule.head_get GRule.head_set GRule.body_get GRule.body_set GRule.head_pred_get GRule.head_pred_set GRule.head_args_get GRule.head_args_set GOp.length_enc GOp.ok_enc GOp.all_get GOp.all_set GOp.kind_get GOp.kind_set GOp.pred_get GOp.pred_set GOp.t_get GOp.t_set GOp.n_get GOp.n_set GOp.base_get GOp.base_set GOp.rule_get GOp.rule_set GOp.rule_head_get GOp.rule_head_set GOp.rule_body_get GOp.rule_body_set GOp.rule_head_pred_get GOp.rule_head_pred_set GOp.rule_head_args_get GOp.rule_head_args_set PredInfo.length_enc PredInfo.ok_enc PredInfo.all_get PredInfo.all_set PredInfo.arity_get PredInfo.arity_set PredInfo.base_get PredInfo.base_set PredInfo.stratum_get PredInfo.stratum_set GStats.length_enc GStats.ok_enc GStats.all_get GStats.all_set GStats.rounds_get GStats.rounds_set GStats.fired_get GStats.fired_set GStats.emitted_get GStats.emitted_set GStats.fresh_get GStats.fresh_set Literal.length_enc Literal.ok_enc Literal.all_get Literal.all_set Literal.neg_get Literal.neg_set Literal.atom_get Literal.atom_set Literal.atom_pred_get Literal.atom_pred_set Literal.atom_args_get Literal.atom_args_set Engine.length_enc Engine.ok_enc Engine.all_get Engine.all_set Engine.prog_get Engine.prog_set Engine.st_get Engine.st_set Engine.levels_get Engine.levels_set Engine.running_get Engine.running_set Engine.stratum_get Engine.stratum_set Engine.round_get Engine.round_set Engine.saved_get Engine.saved_set Engine.stats_get Engine.stats_set Engine.prog_preds_get Engine.prog_preds_set Engine.prog_rules_get Engine.prog_rules_set Engine.prog_strata_get Engine.prog_strata_set Engine.stats_rounds_get Engine.stats_rounds_set Engine.stats_fired_get Engine.stats_fired_set Engine.stats_emitted_get Engine.stats_emitted_set Engine.stats_fresh_get Engine.stats_fresh_set Level.length_enc Level.ok_enc Level.all_get Level.all_set Level.heads_get Level.heads_set Level.jobs_get Level.jobs_set Plan.length_enc Plan.ok_enc Plan.all_get Plan.all_set Plan.rule_get Plan.rule_set Plan.delta_get Plan.delta_set Plan.src_get Plan.src_set Job.length_enc Job.ok_enc Job.all_get Job.all_set Job.full_get Job.full_set Job.deltas_get Job.deltas_set Job.full_rule_get Job.full_rule_set Job.full_delta_get Job.full_delta_set Job.full_src_get Job.full_src_set GState.length_enc GState.ok_enc GState.all_get GState.all_set GState.prog_get GState.prog_set GState.base_get GState.base_set GState.shown_get GState.shown_set GState.prog_preds_get GState.prog_preds_set GState.prog_rules_get GState.prog_rules_set GState.prog_strata_get GState.prog_strata_set Store.length_enc Store.ok_enc Store.all_get Store.all_set Store.arity_get Store.arity_set Store.rows_get Store.rows_set Env.length_enc Env.ok_enc Env.all_get Env.all_set Env.val_get Env.val_set Env.set_get Env.set_set
attribute [local go_sem] size_put size_ext blk_put free_put blk_alloc free_alloc blk_drew free_drew blk_ext free_ext lookOr_some putOr_some segAt_some cellAt_some storeIn_some put_put put_alloc_new length_arr ok_arr_u8 ok_arr_u32 ok_arr_u64 ok_arr_i64 ok_arr_sl cellsV_agg cellsV_int cellsV_bool cellsV_string cellsV_pointer cellsV_slice cellsV_sl ok_int ok_bool ok_string ok_pointer ok_slice ok_sl toList_arr seg_arr set_arr nth_splice nth_splice0 seg_splice seg_splice0 splice_splice splice_splice0 length_splice_if
attribute [local go_sem ↓] execOp_box
attribute [local go_sem] box_run nth_arr_u8 put_arr_u8 blk_drewN free_drewN put_drewN blk_raw free_raw
def headsN (p : Pg) (i s : Nat) : List Nat := (List.range i).filter fun q => !basP p q && decide (strP p q = (s : Int))
def jobsN (p : Pg) (m s : Nat) : List Nat := (List.range m).filter fun k => decide (strP p (hdP p k).pred.toNat = (s : Int))
theorem filter_range_succ (f : Nat → Bool) (n : Nat) : (List.range (n + 1)).filter f = if f n then (List.range n).filter f ++ [n] else (List.range n).filter f := by
  rw [List.range_succ, List.filter_append]
  by_cases h : f n = true
  · rw [if_pos h]; simp [List.filter, h]
  · rw [if_neg h]
    have h' : f n = false := by simpa using h
    simp [List.filter, h']
theorem lab_gr {g h a b : Nat} (hg : g ≠ h) : ¬ ((Lab.a g a) = .a h b) := fun e => by injection e with e _; exact hg e
/-- The levels while they are laid out. -/
structure LvIn (B : Nat) (O : Own) (V : World) (g : Nat) (p : Pg) (x : Sl) (Lv : List Level) (Hs Js : Nat → List Nat) : Prop where
  row : RowL B O (.a (g + 50) 0) V 100 2 (.slice x.a x.len x.cap) Lv.length (Lv.flatMap Level.enc)
  len : Lv.length = p.St
  hd : ∀ (s : Nat) (lv : Level), Lv[s]? = some lv → RowL B O (.a (g + 50) (1 + 2 * s)) V 41 1 (.slice lv.heads.a lv.heads.len lv.heads.cap) (Hs s).length ((Hs s).flatMap encN)
  jb : ∀ (s : Nat) (lv : Level), Lv[s]? = some lv → ∃ J : List Job, RowL B O (.a (g + 50) (2 + 2 * s)) V 106 4 (.slice lv.jobs.a lv.jobs.len lv.jobs.cap) J.length (J.flatMap Job.enc) ∧ J.length = (Js s).length ∧ ∀ (i : Nat) (y : Job) (k : Nat), J[i]? = some y → (Js s)[i]? = some k → JobC (core O V) y p s k
theorem LvIn.keep {B : Nat} {O O' : Own} {V V' : World} {g : Nat} {p : Pg} {x : Sl} {Lv : List Level} {Hs Js : Nat → List Nat} (h : LvIn B O V g p x Lv Hs Js) (hw : ∀ k, k < V.heap.size → isG (g + 50) (O k) → V'.heap[k]? = V.heap[k]? ∧ O' k = O k) (hc : Sub (core O V) (core O' V')) : LvIn B O' V' g p x Lv Hs Js :=
  ⟨h.row.keep (fun k hk ho => hw k hk (by rw [ho]; exact isG_a _ _)), h.len, fun s lv hs => (h.hd s lv hs).keep (fun k hk ho => hw k hk (by rw [ho]; exact isG_a _ _)), fun s lv hs => by
    obtain ⟨J, h1, h2, h3⟩ := h.jb s lv hs
    exact ⟨J, h1.keep (fun k hk ho => hw k hk (by rw [ho]; exact isG_a _ _)), h2, fun i y k hy hk => (h3 i y k hy hk).sub hc⟩⟩
theorem LvIn.fr {L : Lab → Prop} {B : Nat} {O O' : Own} {V V' : World} {g : Nat} {p : Pg} {x : Sl} {Lv : List Level} {Hs Js : Nat → List Nat} (h : LvIn B O V g p x Lv Hs Js) (hf : Fr L O V O' V') (hl : ∀ l, isG (g + 50) l → ¬ L l) (hn : ¬ L .no) : LvIn B O' V' g p x Lv Hs Js :=
  h.keep (fun k hk hm => ⟨hf.block k hk (hl _ hm), hf.keep k hk⟩) (Sub.ext (core_fr hf hn))
theorem lv_enc (x : Level) : x.enc = [.slice x.heads.a x.heads.len x.heads.cap, .slice x.jobs.a x.jobs.len x.jobs.cap] := rfl
/-- One of a level's two rows is set. -/
theorem LvIn.set {B : Nat} {O O1 : Own} {V V1 : World} {g : Nat} {p : Pg} {x : Sl} {Lv : List Level} {Hs Js Hs' Js' : Nat → List Nat} (h : LvIn B O V g p x Lv Hs Js) {s : Nat} {lv lv' : Level} (hs : Lv[s]? = some lv) {l : Lab} (hl : l = .a (g + 50) (1 + 2 * s) ∨ l = .a (g + 50) (2 + 2 * s)) (hf : Fr (fun y => y = l) O V O1 V1) {bl : Nat} {Cl : List Value} (hbl : x.a = some ⟨bl, 0, none⟩) (hCl : blk V bl = some Cl) {v : Value} {o : Nat}
    (hhd : RowL B O1 (.a (g + 50) (1 + 2 * s)) V1 41 1 (.slice lv'.heads.a lv'.heads.len lv'.heads.cap) (Hs' s).length ((Hs' s).flatMap encN)) (hjb : ∃ J : List Job, RowL B O1 (.a (g + 50) (2 + 2 * s)) V1 106 4 (.slice lv'.jobs.a lv'.jobs.len lv'.jobs.cap) J.length (J.flatMap Job.enc) ∧ J.length = (Js' s).length ∧ ∀ (i : Nat) (y : Job) (k : Nat), J[i]? = some y → (Js' s)[i]? = some k → JobC (core O1 V1) y p s k)
    (hlv : splice lv.enc o [v] = lv'.enc) (ho : o < 2) (hH : ∀ t, t ≠ s → Hs' t = Hs t) (hJ : ∀ t, t ≠ s → Js' t = Js t) :
    blk V1 bl = some Cl ∧ free V1 bl = true ∧ ∃ Lv', LvIn B O1 (put V1 bl (splice Cl (s * 2 + o) [v])) g p x Lv' Hs' Js' := by
  have hsl : s < Lv.length := (List.getElem?_eq_some_iff.1 hs).1
  have hxl : Lv.length = x.len := (h.row.rw Level.length_enc).1.1
  obtain ⟨gb, C, e1, e2, e3, e4, e5, e6, e7, e8⟩ := h.row.openT Level.length_enc (by omega)
  rw [hbl] at e1
  injection e1 with e1
  injection e1 with e1
  subst e1
  have hCC : C = Cl := Option.some.inj ((blk_mk e2).symm.trans hCl)
  subst hCC
  have hl0 : ¬ (Lab.a (g + 50) 0 = l) := by
    rcases hl with rfl | rfl
    · exact lab_ne (by omega)
    · exact lab_ne (by omega)
  have hlt : bl < V.heap.size := blk_lt hCl
  have h1 : V1.heap[bl]? = some (.cells C.toArray 100 (0, 0)) := (hf.block bl hlt (by rw [e4]; exact hl0)).trans e2
  have o1 : O1 bl = .a (g + 50) 0 := (hf.keep bl hlt).trans e4
  have hF : Fr (fun y => y = .a (g + 50) 0) O1 V1 O1 (put V1 bl (splice C (s * 2 + o) [v])) := (Fr.refl (fun y => y = Lab.a (g + 50) 0) O1 V1).put o1 _
  have hno : ¬ (Lab.no = .a (g + 50) 0) := fun e => by cases e
  have hnol : ¬ (Lab.no = l) := by rcases hl with rfl | rfl <;> (intro e; cases e)
  have hc2 := core_fr hF hno
  have hc1 := core_fr hf hnol
  have hsl2 : (s + 1) * 2 ≤ x.len * 2 := Nat.mul_le_mul_right _ (by omega)
  refine ⟨blk_mk h1, free_mk h1, Lv.set s lv', ?_, by rw [List.length_set]; exact h.len, fun t lt ht => ?_, fun t lt ht => ?_⟩
  · refine e8 O1 _ _ _ (heap_putN h1) (length_splice1 (by omega)) (by simp) (fun j y hy => ?_) o1
    rw [List.getElem?_set] at hy
    by_cases hjs : s = j
    · subst hjs
      rw [if_pos rfl, if_pos hsl] at hy
      rw [← Option.some.inj hy, ← hlv]
      exact seg_splice_in (e7 s lv hs) (by omega) ho
    · rw [if_neg hjs] at hy
      rw [seg_splice_off (by omega) (by omega)]
      exact e7 j y hy
  · rw [List.getElem?_set] at ht
    by_cases hjs : s = t
    · subst hjs
      rw [if_pos rfl, if_pos hsl] at ht
      rw [← Option.some.inj ht]
      exact hhd.fr hF (lab_ne (by omega))
    · rw [if_neg hjs] at ht
      rw [hH t (fun e => hjs e.symm)]
      exact ((h.hd t lt ht).fr hf (by rcases hl with rfl | rfl <;> exact lab_ne (by omega))).fr hF (lab_ne (by omega))
  · rw [List.getElem?_set] at ht
    by_cases hjs : s = t
    · subst hjs
      rw [if_pos rfl, if_pos hsl] at ht
      rw [← Option.some.inj ht]
      obtain ⟨J, j1, j2, j3⟩ := hjb
      exact ⟨J, j1.fr hF (lab_ne (by omega)), j2, fun i y k hy hk => (j3 i y k hy hk).ext hc2⟩
    · rw [if_neg hjs] at ht
      rw [hJ t (fun e => hjs e.symm)]
      obtain ⟨J, j1, j2, j3⟩ := h.jb t lt ht
      exact ⟨J, (j1.fr hf (by rcases hl with rfl | rfl <;> exact lab_ne (by omega))).fr hF (lab_ne (by omega)), j2, fun i y k hy hk => ((j3 i y k hy hk).ext hc1).ext hc2⟩
/-- A level, opened. -/
theorem LvIn.open {B : Nat} {O : Own} {V : World} {g : Nat} {p : Pg} {x : Sl} {Lv : List Level} {Hs Js : Nat → List Nat} (h : LvIn B O V g p x Lv Hs Js) {s : Nat} (hs : s < p.St) : ∃ lv bl Cl, Lv[s]? = some lv ∧ x.a = some ⟨bl, 0, none⟩ ∧ x.len = p.St ∧ blk V bl = some Cl ∧ s * 2 + 2 ≤ Cl.length ∧ nth Cl (s * 2) = some (.slice lv.heads.a lv.heads.len lv.heads.cap) ∧ nth Cl (s * 2 + 1) = some (.slice lv.jobs.a lv.jobs.len lv.jobs.cap) ∧ O bl = .a (g + 50) 0 := by
  have hsl : s < Lv.length := by rw [h.len]; exact hs
  have hxl : Lv.length = x.len := (h.row.rw Level.length_enc).1.1
  have hlen := h.len
  obtain ⟨gb, C, e1, e2, e3, e4, e5, e6, e7, e8⟩ := h.row.openT Level.length_enc (by omega)
  have hsl2 : (s + 1) * 2 ≤ x.len * 2 := Nat.mul_le_mul_right _ (by omega)
  have hg := e7 s _ (List.getElem?_eq_getElem hsl)
  exact ⟨_, gb, C, List.getElem?_eq_getElem hsl, e1, by omega, blk_mk e2, by omega, nth_in (j := 0) hg (Level.heads_get _) (by omega), nth_in (j := 1) hg (Level.jobs_get _) (by omega), e4⟩
/-- The state of New behind its set-up. -/
structure NwS (w : World) (O0 : Own) (g b1 be bst : Nat) (p : Pg) (x : Engine) (Hs Js : Nat → List Nat) (n : Nat) (O : Own) (V : World) : Prop where
  ext : w.Extends V
  old : ∀ k, k < w.heap.size → O k = O0 k
  c1 : blk V b1 = some x.prog.enc
  o1 : O b1 = .no
  st : SAtN w.heap.size O V g bst (List.replicate n [])
  ce : blk V be = some x.enc
  fe : free V be = true
  oe : O be = .a (g + 1) 0
  sv : RowL w.heap.size O (.a (g + 1) 1) V 36 1 (.slice x.saved.a x.saved.len x.saved.cap) p.P.length ((List.replicate p.P.length (⟨none, 0, 0⟩ : Sl)).flatMap slE)
  lv : ∃ Lv, LvIn w.heap.size O V g p x.levels Lv Hs Js
theorem NwS.sz {w : World} {O0 : Own} {g b1 be bst : Nat} {p : Pg} {x : Engine} {Hs Js : Nat → List Nat} {n : Nat} {O : Own} {V : World} (h : NwS w O0 g b1 be bst p x Hs Js n O V) : w.heap.size ≤ V.heap.size := h.ext.size
theorem NwS.ext' {w : World} {O0 : Own} {g b1 be bst : Nat} {p : Pg} {x : Engine} {Hs Js : Nat → List Nat} {n : Nat} {O : Own} {V V' : World} (h : NwS w O0 g b1 be bst p x Hs Js n O V) (he : V.Extends V') : NwS w O0 g b1 be bst p x Hs Js n O V' := by
  obtain ⟨Lv, hlv⟩ := h.lv
  exact ⟨h.ext.trans he, h.old, (he.blk (blk_lt h.c1)).trans h.c1, h.o1, h.st.ext he, (he.blk (blk_lt h.ce)).trans h.ce, (free_of_heap (he.block be (blk_lt h.ce))).trans h.fe, h.oe, h.sv.keep (fun k hk _ => ⟨he.block k hk, rfl⟩), Lv, hlv.keep (fun k hk _ => ⟨he.block k hk, rfl⟩) (Sub.ext (core_ext he))⟩
theorem NwS.new {w : World} {O0 : Own} {g b1 be bst : Nat} {p : Pg} {x : Engine} {Hs Js : Nat → List Nat} {n : Nat} {O : Own} {V V' : World} (h : NwS w O0 g b1 be bst p x Hs Js n O V) (he : V.Extends V') (l : Lab) : NwS w O0 g b1 be bst p x Hs Js n (lab O V.heap.size l) V' := by
  obtain ⟨Lv, hlv⟩ := h.lv
  have hk : ∀ k, k < V.heap.size → V'.heap[k]? = V.heap[k]? ∧ lab O V.heap.size l k = O k := fun k hk => ⟨he.block k hk, lab_lt hk⟩
  have hsz := h.sz
  exact ⟨h.ext.trans he, fun k hk' => (lab_lt (by omega)).trans (h.old k hk'), (he.blk (blk_lt h.c1)).trans h.c1, (lab_lt (blk_lt h.c1)).trans h.o1, h.st.keep he.size (fun k hk' _ => hk k hk'), (he.blk (blk_lt h.ce)).trans h.ce, (free_of_heap (he.block be (blk_lt h.ce))).trans h.fe, (lab_lt (blk_lt h.ce)).trans h.oe, h.sv.keep (fun k hk' _ => hk k hk'), Lv, hlv.keep (fun k hk' _ => hk k hk') (Sub.ext (core_new he l))⟩
/-- The store defined one more relation. -/
theorem NwS.def {w : World} {O0 : Own} {g b1 be bst : Nat} {p : Pg} {x : Engine} {Hs Js : Nat → List Nat} {n : Nat} {O O' : Own} {V V' : World} (h : NwS w O0 g b1 be bst p x Hs Js n O V) (hf : Fr (isG g) O V O' V') (hs : SAtN w.heap.size O' V' g bst (List.replicate n [] ++ [[]])) (h1 : w.heap.size ≤ b1) (hO0 : ∀ k, k < w.heap.size → ¬ isG g (O0 k)) : NwS w O0 g b1 be bst p x Hs Js (n + 1) O' V' := by
  obtain ⟨Lv, hlv⟩ := h.lv
  have hsz := h.sz
  have hno : ¬ isG g .no := by rintro ⟨m, e⟩; cases e
  have he : ¬ isG g (.a (g + 1) 0) := by rintro ⟨m, e⟩; injection e with e _; omega
  have hv : ¬ isG g (.a (g + 1) 1) := by rintro ⟨m, e⟩; injection e with e _; omega
  refine ⟨hf.extends h.ext (fun k hk => by rw [h.old k hk]; exact hO0 k hk), fun k hk => (hf.keep k (by omega)).trans (h.old k hk), hf.blk h.c1 (by rw [h.o1]; exact hno), (hf.keep b1 (blk_lt h.c1)).trans h.o1, ?_, hf.blk h.ce (by rw [h.oe]; exact he), hf.free h.ce h.fe (by rw [h.oe]; exact he), (hf.keep be (blk_lt h.ce)).trans h.oe, h.sv.fr hf hv, Lv, hlv.fr hf (by rintro l ⟨m, rfl⟩ ⟨m', e⟩; injection e with e _; omega) hno⟩
  rw [List.replicate_succ']; exact hs
/-- A level's row set. -/
theorem NwS.lev {w : World} {O0 : Own} {g b1 be bst : Nat} {p : Pg} {x : Engine} {Hs Js Hs' Js' : Nat → List Nat} {n : Nat} {O O1 : Own} {V V1 : World} (h : NwS w O0 g b1 be bst p x Hs Js n O V) {l : Lab} (hl : ∃ m, 0 < m ∧ l = .a (g + 50) m) (hf : Fr (fun y => y = l) O V O1 V1) {bl : Nat} (hob : O bl = .a (g + 50) 0) (hbl : bl < V.heap.size) (hwb : w.heap.size ≤ bl) (hO0 : ∀ k, k < w.heap.size → ¬ isG (g + 50) (O0 k)) (D : List Value) (hlv : ∃ Lv', LvIn w.heap.size O1 (put V1 bl D) g p x.levels Lv' Hs' Js') : NwS w O0 g b1 be bst p x Hs' Js' n O1 (put V1 bl D) := by
  obtain ⟨m, hm, rfl⟩ := hl
  have hsz := h.sz
  have o1 : O1 bl = .a (g + 50) 0 := (hf.keep bl hbl).trans hob
  have hF : Fr (fun y => y = .a (g + 50) 0) O1 V1 O1 (put V1 bl D) := (Fr.refl (fun y => y = Lab.a (g + 50) 0) O1 V1).put o1 _
  have hG : Fr (isG (g + 50)) O V O1 (put V1 bl D) := (hf.mono (fun y e => by rw [e]; exact isG_a _ _)).trans (hF.mono (fun y e => by rw [e]; exact isG_a _ _))
  have hno : ¬ isG (g + 50) .no := by rintro ⟨m, e⟩; cases e
  have hn : ∀ j, ¬ isG (g + 50) (.a (g + 1) j) := by rintro j ⟨m, e⟩; injection e with e _; omega
  have hg : ∀ l, isG g l → ¬ isG (g + 50) l := by rintro l ⟨m, rfl⟩ ⟨m', e⟩; injection e with e _; omega
  exact ⟨hG.extends h.ext (fun k hk => by rw [h.old k hk]; exact hO0 k hk), fun k hk => (hG.keep k (by omega)).trans (h.old k hk), hG.blk h.c1 (by rw [h.o1]; exact hno), (hG.keep b1 (blk_lt h.c1)).trans h.o1, h.st.fr hG hg, hG.blk h.ce (by rw [h.oe]; exact hn 0), hG.free h.ce h.fe (by rw [h.oe]; exact hn 0), (hG.keep be (blk_lt h.ce)).trans h.oe, h.sv.fr hG (hn 1), hlv⟩
/-- The levels' blocks, too, do not change any more. -/
def relG (n h : Nat) (O : Own) : Own := fun k => if k < n then O k else match O k with | .no => .no | .a m j => if m = h then .no else .a m j
theorem relG_no {n h : Nat} {O : Own} {k : Nat} (ho : O k = .no) : relG n h O k = .no := by
  unfold relG
  by_cases hk : k < n
  · rw [if_pos hk]; exact ho
  · rw [if_neg hk, ho]
theorem relG_in {n h : Nat} {O : Own} {k j : Nat} (ho : O k = .a h j) (hk : n ≤ k) : relG n h O k = .no := by
  unfold relG
  rw [if_neg (by omega), ho]
  exact if_pos rfl
theorem relG_ne {n h : Nat} {O : Own} {k m j : Nat} (ho : O k = .a m j) (hm : m ≠ h) : relG n h O k = .a m j := by
  unfold relG
  by_cases hk : k < n
  · rw [if_pos hk]; exact ho
  · rw [if_neg hk, ho]
    exact if_neg hm
theorem RowL.cored {α : Type} {e : α → List Value} {sz : Nat} (hsz : ∀ x, (e x).length = sz) {B : Nat} {O O' : Own} {l : Lab} {W : World} {ty : TypeId} {a : Option Addr} {n c : Nat} {K : List α} (h : RowL B O l W ty sz (.slice a n c) K.length (K.flatMap e)) (ho : ∀ k, B ≤ k → O k = l → O' k = .no) : Rw e sz (core O' W) a n K := by
  refine (h.rw hsz).1.tocore (fun b C eb _ => ?_)
  subst eb
  exact ho b (row_at h.1 b rfl).1 (h.2 b rfl)
theorem NwS.fin {w : World} {O0 : Own} {g b1 be bst : Nat} {p : Pg} {x : Engine} {n : Nat} {O : Own} {V : World} (h : NwS w O0 g b1 be bst p x (headsOf p) (jobsOf p) n O V) (hxst : x.st = some ⟨bst, 0, none⟩) (hprg : PrgC (core O0 w) x.prog p) : EAt w.heap.size (relG w.heap.size (g + 50) O) V g be p x (List.replicate n []) (List.replicate p.P.length []) ∧ ∀ k, k < w.heap.size → relG w.heap.size (g + 50) O k = O0 k := by
  obtain ⟨Lv, hlv⟩ := h.lv
  have hsub : Sub (core O V) (core (relG w.heap.size (g + 50) O) V) := Sub.cores (fun b C hb ho => ⟨hb, relG_no ho⟩)
  have hsub0 : Sub (core O0 w) (core O V) := Sub.cores (fun b C hb ho => ⟨(h.ext.blk (blk_lt hb)).trans hb, by rw [h.old b (blk_lt hb)]; exact ho⟩)
  have hold : ∀ k, k < w.heap.size → relG w.heap.size (g + 50) O k = O0 k := fun k hk => by
    unfold relG
    rw [if_pos hk]; exact h.old k hk
  refine ⟨⟨bst, List.replicate p.P.length ⟨none, 0, 0⟩, h.ce, h.fe, relG_ne h.oe (by omega), hxst, h.st.at.keep (Nat.le_refl _) (fun k hk hm => ⟨rfl, by obtain ⟨m, e⟩ := hm; rw [e]; exact relG_ne e (by omega)⟩), hprg.sub (hsub0.trans hsub), ?_, ?_, by simp, by simp, fun i d L hd hL => ?_⟩, hold⟩
  · refine ⟨Lv, ?_, hlv.len, fun s lv hs => ⟨?_, ?_⟩⟩
    · exact hlv.row.cored Level.length_enc (fun k hk ho => relG_in ho hk)
    · exact (hlv.hd s lv hs).cored encN_len (fun k hk ho => relG_in ho hk)
    · obtain ⟨J, j1, j2, j3⟩ := hlv.jb s lv hs
      exact ⟨J, j1.cored Job.length_enc (fun k hk ho => relG_in ho hk), j2, fun i y k hy hk => (j3 i y k hy hk).sub hsub⟩
  · have := h.sv.keep (O' := relG w.heap.size (g + 50) O) (W' := V) (fun k hk ho => ⟨rfl, by rw [ho]; exact relG_ne ho (by omega)⟩)
    rw [List.length_replicate]; exact this
  · rw [List.getElem?_replicate] at hd hL
    by_cases hi : i < p.P.length
    · rw [if_pos hi] at hd hL
      rw [← Option.some.inj hd, ← Option.some.inj hL]
      exact rw_nil _
    · rw [if_neg hi] at hd; cases hd
end Go.Proofs.Qxb6500788a
