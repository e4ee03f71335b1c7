import Derived.Test.Qxb6500788aLgc
import Derived.Test.Qxb6500788aJo
import Derived.StillTailTactics
import Derived.Deep.QuietTactic
import Derived.BigQuiet
import Derived.Deep.RegionHeld
import Derived.Deep.CutRange
import Derived.Laws.ResultCell
import Derived.Laws.Rows
import Derived.DeepKeys
import Derived.DataBytes
import Derived.Laws.StructEq
import Derived.Laws.AppendOwn
import Derived.Laws.MakeOwn
set_option linter.unusedSimpArgs false
set_option linter.unusedVariables false
namespace Go.Proofs.Qxb6500788a
open Go.RowKit Go.Blk
attribute [local go_sem ↓] execOp_load execOp_store execOp_alloc
attribute [local go_sem] Try.ld24 Try.st24 Try.ld25 Try.st25 Try.ld3 Try.st3 Try.ld30 Try.st30 Try.ld36 Try.st36 Try.ld4 Try.st4 Try.ld41 Try.st41 Try.ld50 Try.st50 Try.ld40 Try.st40 Try.ld42 Try.st42 Try.ld89 Try.st89 Try.ld91 Try.st91 Try.ld56 Try.st56 Try.ld97 Try.st97 Try.ld98 Try.st98 Try.ld101 Try.st101 Try.ld104 Try.st104 Try.ld57 Try.st57 Try.ld130 Try.st130 Try.ld2 Try.st2 Try.ld5 Try.st5 Try.ld9 Try.st9 Try.ld12 Try.st12 Try.ld21 Try.st21 Try.ld22 Try.st22 Try.ld29 Try.st29 Try.ld33 Try.st33 Try.ld59 Try.st59 Try.ld62 Try.st62 Try.ld69 Try.st69 Try.ld94 Try.st94 Try.ld96 Try.st96 Try.ld129 Try.st129 Try.ld158 Try.st158 Try.ld162 Try.st162 Try.ld47 Try.st47 Try.ld44 Try.st44 Try.ld137 Try.st137 Try.ld145 Try.st145 Try.ld43 Try.st43 Try.ld27 Try.st27 Try.ld38 Try.st38 Try.ld46 Try.st46 Try.ld49 Try.st49 Try.ld52 Try.st52 Try.ld54 Try.st54 Try.ld61 Try.st61 Try.ld80 Try.st80 Try.ld87 Try.st87 Try.ld93 Try.st93 Try.ld100 Try.st100 Try.ld103 Try.st103 Try.ld106 Try.st106 Try.ld109 Try.st109 Try.ld132 Try.st132 Try.ld147 Try.st147 Try.al47 Try.al44 Try.al137 Try.al145 Try.al43 Try.al27 Try.al38 Try.al46 Try.al49 Try.al52 Try.al54 Try.al61 Try.al80 Try.al87 Try.al93 Try.al100 Try.al103 Try.al106 Try.al109 Try.al132 Try.al147
attribute [local go_sem] GProgram.length_enc GProgram.ok_enc GProgram.all_get GProgram.all_set GProgram.preds_get GProgram.preds_set GProgram.rules_get GProgram.rules_set GProgram.strata_get GProgram.strata_set Answer.length_enc Answer.ok_enc Answer.all_get Answer.all_set Answer.code_get Answer.code_set Answer.n_get Answer.n_set Answer.rows_get Answer.rows_set Term.length_enc Term.ok_enc Term.all_get Term.all_set Term.var_get Term.var_set Term.n_get Term.n_set Atom.length_enc Atom.ok_enc Atom.all_get Atom.all_set Atom.pred_get Atom.pred_set Atom.args_get Atom.args_set GRule.length_enc GRule.ok_enc GRule.all_get GRule.all_set GRule.head_get GRule.head_set GRule.body_get GRule.body_set GRule.head_pred_get GRule.head_pred_set GRule.head_args_get GRule.head_args_set GOp.length_enc GOp.ok_enc GOp.all_get GOp.all_set GOp.kind_get GOp.kind_set GOp.pred_get GOp.pred_set GOp.t_get GOp.t_set GOp.n_get GOp.n_set GOp.base_get GOp.base_set GOp.rule_get GOp.rule_set GOp.rule_head_get GOp.rule_head_set GOp.rule_body_get GOp.rule_body_set GOp.rule_head_pred_get GOp.rule_head_pred_set GOp.rule_head_args_get GOp.rule_head_args_set PredInfo.length_enc PredInfo.ok_enc PredInfo.all_get PredInfo.all_set PredInfo.arity_get PredInfo.arity_set PredInfo.base_get PredInfo.base_set PredInfo.stratum_get PredInfo.stratum_set GStats.length_enc GStats.ok_enc GStats.all_get GStats.all_set GStats.rounds_get GStats.rounds_set GStats.fired_get GStats.fired_set GStats.emitted_get GStats.emitted_set GStats.fresh_get GStats.fresh_set Literal.length_enc Literal.ok_enc Literal.all_get Literal.all_set Literal.neg_get Literal.neg_set Literal.atom_get Literal.atom_set Literal.atom_pred_get Literal.atom_pred_set Literal.atom_args_get Literal.atom_args_set Engine.length_enc Engine.ok_enc Engine.all_get Engine.all_set Engine.prog_get Engine.prog_set Engine.st_get Engine.st_set Engine.levels_get Engine.levels_set Engine.running_get Engine.running_set Engine.stratum_get Engine.stratum_set Engine.round_get Engine.round_set Engine.saved_get Engine.saved_set Engine.stats_get Engine.stats_set Engine.prog_preds_get Engine.prog_preds_set Engine.prog_rules_get Engine.prog_rules_set Engine.prog_strata_get Engine.prog_strata_set Engine.stats_rounds_get Engine.stats_rounds_set Engine.stats_fired_get Engine.stats_fired_set Engine.stats_emitted_get Engine.stats_emitted_set Engine.stats_fresh_get Engine.stats_fresh_set Level.length_enc Level.ok_enc Level.all_get Level.all_set Level.heads_get Level.heads_set Level.jobs_get Level.jobs_set Plan.length_enc Plan.ok_enc Plan.all_get Plan.all_set Plan.rule_get Plan.rule_set Plan.delta_get Plan.delta_set Plan.src_get Plan.src_set Job.length_enc Job.ok_enc Job.all_get Job.all_set Job.full_get Job.full_set Job.deltas_get Job.deltas_set Job.full_rule_get Job.full_rule_set Job.full_delta_get Job.full_delta_set Job.full_src_get Job.full_src_set GState.length_enc GState.ok_enc GState.all_get GState.all_set GState.prog_get GState.prog_set GState.base_get GState.base_set GState.shown_get GState.shown_set GState.prog_preds_get GState.prog_preds_set GState.prog_rules_get GState.prog_rules_set GState.prog_strata_get GState.prog_strata_set Store.length_enc Store.ok_enc Store.all_get Store.all_set Store.arity_get Store.arity_set Store.rows_get Store.rows_set Env.length_enc Env.ok_enc Env.all_get Env.all_set Env.val_get Env.val_set Env.set_get Env.set_set
attribute [local go_sem] size_put size_ext blk_put free_put blk_alloc free_alloc blk_drew free_drew blk_ext free_ext lookOr_some putOr_some segAt_some cellAt_some storeIn_some put_put put_alloc_new length_arr ok_arr_u8 ok_arr_u32 ok_arr_u64 ok_arr_i64 ok_arr_sl cellsV_agg cellsV_int cellsV_bool cellsV_string cellsV_pointer cellsV_slice cellsV_sl ok_int ok_bool ok_string ok_pointer ok_slice ok_sl toList_arr seg_arr set_arr nth_splice nth_splice0 seg_splice seg_splice0 splice_splice splice_splice0 length_splice_if
attribute [local go_sem ↓] execOp_box
attribute [local go_sem] box_run nth_arr_u8 put_arr_u8 blk_drewN free_drewN put_drewN blk_raw free_raw
/-- The engine at rest in a law, beside memory K that it does not own. -/
def E1K (p : Pg) (W3 : World) (be : Nat) (S : List (List Tup)) (K V : World) : Prop := ∃ (O : Own) (x : Engine) (sav : List (List Tup)), Sub K (core O V) ∧ W3.Extends V ∧ (∀ k, k < W3.heap.size → O k = .no) ∧ EAt W3.heap.size O V 0 be p x S sav ∧ x.running = false ∧ EngI p S
theorem E1K.e1 {p : Pg} {W3 : World} {be : Nat} {S : List (List Tup)} {K V : World} (h : E1K p W3 be S K V) : E1 p W3 be S V := by
  obtain ⟨O, x, sav, _, h⟩ := h
  exact ⟨O, x, sav, h⟩
theorem E1K.sub {p : Pg} {W3 : World} {be : Nat} {S : List (List Tup)} {K V : World} (h : E1K p W3 be S K V) : Sub K V := by
  obtain ⟨O, x, sav, h0, _⟩ := h
  exact h0.trans (Sub.core O V)
theorem E1K.ext {p : Pg} {W3 : World} {be : Nat} {S : List (List Tup)} {K V V' : World} (h : E1K p W3 be S K V) (he : V.Extends V') : E1K p W3 be S K V' := by
  obtain ⟨O, x, sav, h0, h1, h2, h3, h⟩ := h
  exact ⟨O, x, sav, h0.trans (Sub.ext (core_ext he)), h1.trans he, h2, h3.ext he, h⟩
theorem E1.grow {p : Pg} {W3 : World} {be : Nat} {S : List (List Tup)} {V V' : World} (h : E1 p W3 be S V) (he : V.Extends V') : E1K p W3 be S (newc V.heap.size V') V' := by
  obtain ⟨O, x, sav, h1, h2, h3, h⟩ := h
  have hs := h1.size
  exact ⟨lab O V.heap.size .no, x, sav, newc_core O, h1.trans he, fun k hk => by rw [lab_lt (by omega)]; exact h2 k hk, h3.new he _, h⟩
theorem E1K.grow {p : Pg} {W3 : World} {be : Nat} {S : List (List Tup)} {K V V' : World} (h : E1K p W3 be S K V) (he : V.Extends V') : ∃ K', E1K p W3 be S K' V' ∧ Sub K K' ∧ Sub (newc V.heap.size V') K' := by
  obtain ⟨O, x, sav, h0, h1, h2, h3, h⟩ := h
  have hs := h1.size
  exact ⟨core (lab O V.heap.size .no) V', ⟨lab O V.heap.size .no, x, sav, fun _ _ h => h, h1.trans he, fun k hk => by rw [lab_lt (by omega)]; exact h2 k hk, h3.new he _, h⟩, h0.trans (Sub.ext (core_new he _)), newc_core O⟩
/-- The engine at rest, with its last statistics. -/
def E1q (p : Pg) (W3 : World) (be : Nat) (S : List (List Tup)) (q : GStats) (K V : World) : Prop := ∃ (O : Own) (x : Engine) (sav : List (List Tup)), Sub K (core O V) ∧ W3.Extends V ∧ (∀ k, k < W3.heap.size → O k = .no) ∧ EAt W3.heap.size O V 0 be p x S sav ∧ x.running = false ∧ EngI p S ∧ x.stats = q
theorem E1q.k {p : Pg} {W3 : World} {be : Nat} {S : List (List Tup)} {q : GStats} {K V : World} (h : E1q p W3 be S q K V) : E1K p W3 be S K V := by
  obtain ⟨O, x, sav, h0, h1, h2, h3, h4, h5, _⟩ := h
  exact ⟨O, x, sav, h0, h1, h2, h3, h4, h5⟩
theorem E1q.ext {p : Pg} {W3 : World} {be : Nat} {S : List (List Tup)} {q : GStats} {K V V' : World} (h : E1q p W3 be S q K V) (he : V.Extends V') : E1q p W3 be S q K V' := by
  obtain ⟨O, x, sav, h0, h1, h2, h3, h⟩ := h
  exact ⟨O, x, sav, h0.trans (Sub.ext (core_ext he)), h1.trans he, h2, h3.ext he, h⟩
theorem E1.lal {p : Pg} (hok : PgOk p) {W3 : World} {be : Nat} {S : List (List Tup)} {V : World} (h : E1 p W3 be S V) (b3 : Nat) (x0 : GProgram) (hb : blk W3 b3 = some x0.enc) (hl : x0.preds.len = p.P.length) : Calls Try.prog 16 #[.pointer (some ⟨be, 0, none⟩), .pointer (some ⟨b3, 0, none⟩)] V fun e V' => ∃ bo, V.heap.size ≤ bo ∧ e = .returned (.slice (some ⟨bo, 0, none⟩) p.P.length p.P.length) ∧ LaI V bo p.P.length (allT S) p.P.length V' := by
  obtain ⟨O, x, sav, h1, h2, h3, h4, h5⟩ := h
  exact listAll_l W3.heap.size O V 0 be p x S sav h3 hok h5.1.1.1 h5.1.1.2.1 b3 x0.enc x0.preds.a x0.preds.cap ((h1.blk (blk_lt hb)).trans hb) (by rw [← hl]; exact GProgram.preds_get x0) (by rw [GProgram.length_enc]; omega)
/-- The engine in the midst of a run, in a law. -/
def ER (p : Pg) (W3 : World) (be : Nat) (S0 : List (List Tup)) (s rn : Nat) (σ : StQ) (K V : World) : Prop := ∃ (O : Own) (x : Engine) (sav : List (List Tup)), Sub K (core O V) ∧ W3.Extends V ∧ (∀ k, k < W3.heap.size → O k = .no) ∧ EAt W3.heap.size O V 0 be p x σ.1 (begV p S0 sav p.P.length) ∧ sav.length = p.P.length ∧ x.running = true ∧ x.stratum = (s : Int) ∧ x.round = (rn : Int) ∧ x.stats = σ.2 ∧ s < p.St ∧ RInv p s rn σ.1 ∧ rn ≤ tot σ.1 p.P.length ∧ BaseEq p (begS p S0 p.P.length) σ.1 ∧ (∀ r, RunsTo p s rn σ r → RunsTo p 0 0 (begS p S0 p.P.length, ⟨0, 0, 0, 0⟩) r) ∧ EngI p S0
theorem ER.wx {p : Pg} {W3 : World} {be : Nat} {S0 : List (List Tup)} {s rn : Nat} {σ : StQ} {K V : World} (h : ER p W3 be S0 s rn σ K V) : W3.Extends V ∧ EngI p S0 ∧ RInv p s rn σ.1 ∧ s < p.St := by
  obtain ⟨O, x, sav, h0, h1, h2, h3, h4, h5, h6, h7, h8, h9, h10, h11, h12, h13, h14⟩ := h
  exact ⟨h1, h14, h10, h9⟩
theorem ER.ext {p : Pg} {W3 : World} {be : Nat} {S0 : List (List Tup)} {s rn : Nat} {σ : StQ} {K V V' : World} (h : ER p W3 be S0 s rn σ K V) (he : V.Extends V') : ER p W3 be S0 s rn σ K V' := by
  obtain ⟨O, x, sav, h0, h1, h2, h3, h⟩ := h
  exact ⟨O, x, sav, h0.trans (Sub.ext (core_ext he)), h1.trans he, h2, h3.ext he, h⟩
theorem fr_law {O O' : Own} {W3 K V V' : World} (h0 : Sub K (core O V)) (h1 : W3.Extends V) (h2 : ∀ k, k < W3.heap.size → O k = .no) (hf : Fr (isE 0) O V O' V') : Sub K (core O' V') ∧ W3.Extends V' ∧ ∀ k, k < W3.heap.size → O' k = .no := by
  have hs := h1.size
  exact ⟨h0.trans (Sub.ext (core_fr hf (isE_no 0))), hf.extends h1 (fun k hk => by rw [h2 k hk]; exact isE_no 0), fun k hk => (hf.keep k (by omega)).trans (h2 k hk)⟩
theorem E1K.begin {p : Pg} (hok : PgOk p) {W3 : World} {be : Nat} {S : List (List Tup)} {K V : World} (h : E1K p W3 be S K V) : Calls Try.prog 18 #[.pointer (some ⟨be, 0, none⟩)] V fun e V' => e = .returned (.int .i64 0) ∧ ER p W3 be S 0 0 (begS p S p.P.length, ⟨0, 0, 0, 0⟩) K V' := by
  obtain ⟨O, x, sav, h0, h1, h2, h3, h4, h5⟩ := h
  refine (begin_any W3.heap.size O V 0 be p x S sav h3 hok h5.1.1.1 h5.1.1.2.1).mono ?_
  intro e V' hp
  rw [h4, if_neg (by decide)] at hp
  obtain ⟨rfl, O', hf, hE⟩ := hp
  obtain ⟨g0, g1, g2⟩ := fr_law h0 h1 h2 hf
  have hsl : sav.length = p.P.length := by
    obtain ⟨_, _, h⟩ := h3
    exact h.sl
  exact ⟨rfl, O', xB x, sav, g0, g1, g2, hE, hsl, rfl, rfl, rfl, rfl, by have := hok.s1; omega, h5.beg.1, Nat.zero_le _, BaseEq.refl _ _, fun r hr => hr, h5⟩
theorem ER.begin {p : Pg} (hok : PgOk p) {W3 : World} {be : Nat} {S0 : List (List Tup)} {s rn : Nat} {σ : StQ} {K V : World} (h : ER p W3 be S0 s rn σ K V) : Calls Try.prog 18 #[.pointer (some ⟨be, 0, none⟩)] V fun e V' => e = .returned (.int .i64 9) ∧ V' = V := by
  obtain ⟨O, x, sav, h0, h1, h2, h3, h4, h5, h6, h7, h8, h9, h10, h11, h12, h13, h14⟩ := h
  refine (begin_any W3.heap.size O V 0 be p x _ _ h3 hok h10.1.1 h10.1.2.1).mono ?_
  intro e V' hp
  rw [h5, if_pos rfl] at hp
  exact hp
theorem ER.running {p : Pg} {W3 : World} {be : Nat} {S0 : List (List Tup)} {s rn : Nat} {σ : StQ} {K V : World} (h : ER p W3 be S0 s rn σ K V) : Calls Try.prog 19 #[.pointer (some ⟨be, 0, none⟩)] V fun e V' => e = .returned (.bool true) ∧ V' = V := by
  obtain ⟨O, x, sav, h0, h1, h2, h3, h4, h5, h6, h7, h8, h9, h10, h11, h12, h13, h14⟩ := h
  have := running_any W3.heap.size O V 0 be p x _ _ h3
  rw [h5] at this
  exact this
theorem E1.running {p : Pg} {W3 : World} {be : Nat} {S : List (List Tup)} {V : World} (h : E1 p W3 be S V) : Calls Try.prog 19 #[.pointer (some ⟨be, 0, none⟩)] V fun e V' => e = .returned (.bool false) ∧ V' = V := by
  obtain ⟨O, x, sav, h1, h2, h3, h4, h5⟩ := h
  have := running_any W3.heap.size O V 0 be p x _ _ h3
  rw [h4] at this
  exact this
theorem E1K.cancel {p : Pg} (hok : PgOk p) {W3 : World} {be : Nat} {S : List (List Tup)} {K V : World} (h : E1K p W3 be S K V) : Calls Try.prog 34 #[.pointer (some ⟨be, 0, none⟩)] V fun e V' => e = .returned (.int .i64 10) ∧ V' = V := by
  obtain ⟨O, x, sav, h0, h1, h2, h3, h4, h5⟩ := h
  refine (cancel_any W3.heap.size O V 0 be p x S sav h3 hok h5.1.1.1 (fun hr => by rw [h4] at hr; cases hr)).mono ?_
  intro e V' hp
  rw [h4, if_neg (by decide)] at hp
  exact hp
theorem sav_ok {p : Pg} {S0 sav : List (List Tup)} (hS : EngI p S0) (hl : sav.length = p.P.length) : ∀ i, i < p.P.length → basP p i = false → (rowsAt (begV p S0 sav p.P.length) i).Nodup ∧ (rowsAt (begV p S0 sav p.P.length) i).length ≤ 512 := fun i hi hb => by
  rw [begV_rows hl hb p.P.length (Nat.le_refl _) hi]
  have := hS.1.1.2.1.at (3 * i)
  exact ⟨this.2.1, this.1⟩
theorem ER.cancel {p : Pg} (hok : PgOk p) {W3 : World} {be : Nat} {S0 : List (List Tup)} {s rn : Nat} {σ : StQ} {K V : World} (h : ER p W3 be S0 s rn σ K V) : Calls Try.prog 34 #[.pointer (some ⟨be, 0, none⟩)] V fun e V' => e = .returned (.int .i64 0) ∧ E1K p W3 be S0 K V' := by
  obtain ⟨O, x, sav, h0, h1, h2, h3, h4, h5, h6, h7, h8, h9, h10, h11, h12, h13, h14⟩ := h
  refine (cancel_any W3.heap.size O V 0 be p x _ _ h3 hok h10.1.1 (fun _ => sav_ok h14 h4)).mono ?_
  intro e V' hp
  rw [h5, if_pos rfl] at hp
  obtain ⟨rfl, sav', O', hf, hE⟩ := hp
  obtain ⟨g0, g1, g2⟩ := fr_law h0 h1 h2 hf
  rw [res_beg h14.1 h4 h12] at hE
  exact ⟨rfl, O', _, sav', g0, g1, g2, hE, rfl, h14⟩
/-- What a round of a law's run does. -/
def ERPost (p : Pg) (W3 : World) (be : Nat) (S0 : List (List Tup)) (s rn : Nat) (σ : StQ) (K : World) (e : Ending) (V' : World) : Prop :=
  (jobsO p s rn σ = none ∧ e = .returned (.tuple #[.int .i64 0, .int .i64 3]) ∧ E1K p W3 be S0 K V') ∨
  ∃ σ', jobsO p s rn σ = some σ' ∧
    ((anyN σ'.1 (headsOf p s) = true ∧ e = .returned (.tuple #[.int .i64 1, .int .i64 0]) ∧ ER p W3 be S0 s (rn + 1) (promL σ'.1 (headsOf p s), qR σ'.2) K V') ∨
     (anyN σ'.1 (headsOf p s) = false ∧ s + 1 < p.St ∧ e = .returned (.tuple #[.int .i64 2, .int .i64 0]) ∧ ER p W3 be S0 (s + 1) 0 (promL σ'.1 (headsOf p s), qR σ'.2) K V') ∨
     (anyN σ'.1 (headsOf p s) = false ∧ ¬ s + 1 < p.St ∧ e = .returned (.tuple #[.int .i64 3, .int .i64 0]) ∧ E1q p W3 be (promL σ'.1 (headsOf p s)) (qR σ'.2) K V'))
theorem ER.round {p : Pg} (hok : PgOk p) {W3 : World} {be : Nat} {S0 : List (List Tup)} {s rn : Nat} {σ : StQ} {K V : World} (h : ER p W3 be S0 s rn σ K V) : Calls Try.prog 24 #[.pointer (some ⟨be, 0, none⟩)] V (ERPost p W3 be S0 s rn σ K) := by
  obtain ⟨O, x, sav, h0, h1, h2, h3, h4, h5, h6, h7, h8, h9, h10, h11, h12, h13, h14⟩ := h
  have hcap := tot_cap hok h10.1.2.1
  have hσ : (σ.1, x.stats) = σ := by rw [h8]
  refine (round_any W3.heap.size O V 0 be p x _ _ h3 hok h5 s rn h6 h9 h7 (by omega) (h10.1.rd s) (sav_ok h14 h4)).mono ?_
  intro e V' hp
  unfold RoundPost at hp
  rw [hσ] at hp
  cases hj : jobsO p s rn σ with
  | none =>
    rw [hj] at hp
    obtain ⟨rfl, S'', q, sav', hb, O', hf, hE⟩ := hp
    obtain ⟨g0, g1, g2⟩ := fr_law h0 h1 h2 hf
    rw [res_beg h14.1 h4 (h12.trans hb)] at hE
    exact .inl ⟨hj, rfl, O', _, sav', g0, g1, g2, hE, rfl, h14⟩
  | some σ' =>
    rw [hj] at hp
    dsimp only at hp
    refine .inr ⟨σ', hj, ?_⟩
    have hrl := round_law hok h10 hj
    obtain ⟨t1, t2⟩ := tot_round hok h10.1 hj
    have hbase := h12.trans (round_base hok h10.1 hj)
    cases ha : anyN σ'.1 (headsOf p s) with
    | true =>
      rw [ha, if_pos rfl] at hp
      obtain ⟨rfl, O', hf, hE⟩ := hp
      obtain ⟨g0, g1, g2⟩ := fr_law h0 h1 h2 hf
      exact .inl ⟨rfl, rfl, O', _, sav, g0, g1, g2, hE, h4, h5, h6, rfl, rfl, h9, hrl.1, by have := t2 ha; show rn + 1 ≤ tot (promL σ'.1 (headsOf p s)) p.P.length; omega, hbase, fun r hr => h13 r (.more hj ha hr), h14⟩
    | false =>
      rw [ha, if_neg (by decide)] at hp
      by_cases hs : s + 1 < p.St
      · rw [if_pos hs] at hp
        obtain ⟨rfl, O', hf, hE⟩ := hp
        obtain ⟨g0, g1, g2⟩ := fr_law h0 h1 h2 hf
        exact .inr (.inl ⟨rfl, hs, rfl, O', _, sav, g0, g1, g2, hE, h4, h5, rfl, rfl, rfl, hs, hrl.1.next, Nat.zero_le _, hbase, fun r hr => h13 r (.next hj ha hs hr), h14⟩)
      · rw [if_neg hs] at hp
        obtain ⟨rfl, sav', O', hf, hE⟩ := hp
        obtain ⟨g0, g1, g2⟩ := fr_law h0 h1 h2 hf
        exact .inr (.inr ⟨rfl, hs, rfl, O', _, sav', g0, g1, g2, hE, rfl, runs_inv hok (h13 _ (.done hj ha hs)) h14.beg.1 h14.beg.2 _ rfl, rfl⟩)
theorem E1K.run {p : Pg} (hok : PgOk p) {W3 : World} {be : Nat} {S : List (List Tup)} {K V : World} (h : E1K p W3 be S K V) : Calls Try.prog 36 #[.pointer (some ⟨be, 0, none⟩)] V fun e V' => ∃ (r : Option StQ) (S' : List (List Tup)), RunsTo p 0 0 (begS p S p.P.length, ⟨0, 0, 0, 0⟩) r ∧ E1K p W3 be S' K V' ∧ ((r = none ∧ S' = S ∧ e = .returned (.int .i64 3)) ∨ ∃ σ, r = some σ ∧ S' = σ.1 ∧ e = .returned (.int .i64 0)) := by
  obtain ⟨O, x, sav, h0, h1, h2, h3, h4, h5⟩ := h
  refine (runE_any W3.heap.size O V 0 be p x S sav h3 hok h4 h5.1).mono ?_
  rintro e V' ⟨r, hr, x', sav', hx1, -, hres⟩
  cases r with
  | none =>
    obtain ⟨rfl, O', hf, hE⟩ := hres
    obtain ⟨g0, g1, g2⟩ := fr_law h0 h1 h2 hf
    exact ⟨none, S, hr, ⟨O', x', sav', g0, g1, g2, hE, hx1, h5⟩, .inl ⟨rfl, rfl, rfl⟩⟩
  | some σ =>
    obtain ⟨rfl, O', hf, hE⟩ := hres
    obtain ⟨g0, g1, g2⟩ := fr_law h0 h1 h2 hf
    exact ⟨some σ, σ.1, hr, ⟨O', x', sav', g0, g1, g2, hE, hx1, runs_inv hok hr h5.beg.1 h5.beg.2 _ rfl⟩, .inr ⟨σ, rfl, rfl, rfl⟩⟩
def scI (W : World) (be bp : Nat) (n : Nat) (f : Nat → Value) (V : World) : Prop := f 0 = .pointer (some ⟨be, 0, none⟩) ∧ f 1 = .pointer (some ⟨bp, 0, none⟩) ∧ Hid (W = V) ∧ ∃ i : Nat, i ≤ n ∧ f 5 = .int .i64 (i : Nat)
set_option maxRecDepth 100000 in
theorem frame41s (f : Nat → Value) : frameN 41 f = #[f 0, f 1, f 2, f 3, f 4, f 5, f 6, f 7, f 8, f 9, f 10, f 11, f 12, f 13, f 14, f 15, f 16, f 17, f 18, f 19, f 20, f 21, f 22, f 23, f 24, f 25, f 26, f 27, f 28, f 29, f 30, f 31, f 32, f 33, f 34, f 35, f 36, f 37, f 38, f 39, f 40] := by kernel_rfl
set_option maxRecDepth 20000 in
set_option maxHeartbeats 2000000 in
theorem scratch_any {p : Pg} (hok : PgOk p) {W3 : World} {be : Nat} {S : List (List Tup)} {W : World} (h : E1 p W3 be S W) (bp : Nat) (hpg : PgX W bp p) : Calls Try.prog 35 #[.pointer (some ⟨be, 0, none⟩), .pointer (some ⟨bp, 0, none⟩)] W fun e V => e = .returned (.bool true) ∧ V = W := by
  obtain ⟨Q, hQ⟩ : ∃ Q, Q = (fun e V => e = .returned (.bool true) ∧ V = W : Ending → World → Prop) := ⟨_, rfl⟩
  rw [← hQ]
  have HQ := hid_of hQ
  obtain ⟨O, x, sav, h1, h2, h3, h4, h5⟩ := h
  have HE := hid_of h3
  have HEI := hid_of h5
  have h64 := hok.nP
  obtain ⟨aP, cP, Cb, e1, e2, e3⟩ : ∃ (aP : Option Addr) (cP : Nat) (Cb : List Value), blk W bp = some Cb ∧ 3 ≤ Cb.length ∧ nth Cb 0 = some (.slice aP p.P.length cP) := by
    obtain ⟨aP, cP, aR, cR, Cb, hb, hl, n0, -⟩ := hpg
    exact ⟨aP, cP, Cb, hb, hl, n0⟩
  obtain ⟨bst, -, -, hxst, hst, -⟩ := eat_st h3
  have hsto := store_anyE W3.heap.size O W 0 be p x S sav h3 bst hxst
  have HSTO := hid_of hsto
  have HST := hid_of hst
  clear hQ h1 h2 h3 h4 h5 hpg hok hxst hst hsto
  go_enter Try.func35, Try.ntmps35
  go_upto_region 2 with fail
  refine wp_loop_f 41 (scI W be bp p.P.length) (fun f _ => p.P.length - (intOf (f 5)).toNat) rfl ⟨rfl, rfl, hid_of rfl, 0, by omega, rfl⟩ ?_
  intro F V hrel
  obtain ⟨f0, f1, HW, i, hi, f5⟩ := hrel
  have H5 := hid_of f5
  rw [frame41s, f0, f1, f5]
  clear f0 f1 f5
  obtain rfl : W = V := HW.out
  clear HW
  have c0 : 0 < Cb.length := by omega
  by_cases hin : i < p.P.length
  · have hin' : (i : Int) < (p.P.length : Int) := by omega
    have hlS := HEI.out.1.1.1
    have hr1 : S[3 * i + 1]? = some [] := by
      have := HEI.out.1.2 i hin
      unfold rowsAt at this
      rw [List.getElem?_eq_getElem (by omega)]
      rw [List.getD_eq_getElem?_getD, List.getElem?_eq_getElem (by omega)] at this
      exact congrArg some this
    have hr2 : S[3 * i + 2]? = some [] := by
      have := HEI.out.1.1.2.2 i hin
      unfold rowsAt at this
      rw [List.getElem?_eq_getElem (by omega)]
      rw [List.getD_eq_getElem?_getD, List.getElem?_eq_getElem (by omega)] at this
      exact congrArg some this
    have hd := delta_any W i (by omega)
    have hn := next_any W i (by omega)
    have HD := hid_of hd
    have HN := hid_of hn
    have hl1 := len_any W3.heap.size O W 0 bst S HST.out (3 * i + 1) [] hr1
    have hl2 := len_any W3.heap.size O W 0 bst S HST.out (3 * i + 2) [] hr2
    have HL1 := hid_of hl1
    have HL2 := hid_of hl2
    clear hd hn hl1 hl2 hr1 hr2 hlS
    go_wp2_with fail
    refine HSTO.out.mono ?_
    rintro e V1 ⟨rfl, e9⟩
    replace e9 := e9.symm
    subst e9
    dsimp only
    go_wp2_with fail
    refine HD.out.mono ?_
    rintro e V2 ⟨rfl, e9⟩
    replace e9 := e9.symm
    subst e9
    dsimp only
    go_wp2_with fail
    refine HL1.out.mono ?_
    rintro e V3 ⟨rfl, e9⟩
    replace e9 := e9.symm
    subst e9
    dsimp only
    go_wp2_with fail
    refine HSTO.out.mono ?_
    rintro e V4 ⟨rfl, e9⟩
    replace e9 := e9.symm
    subst e9
    dsimp only
    go_wp2_with fail
    refine HN.out.mono ?_
    rintro e V5 ⟨rfl, e9⟩
    replace e9 := e9.symm
    subst e9
    dsimp only
    go_wp2_with fail
    refine HL2.out.mono ?_
    rintro e V6 ⟨rfl, e9⟩
    replace e9 := e9.symm
    subst e9
    dsimp only
    clear HD HN HL1 HL2
    go_wp2_with fail
    refine ⟨rfl, rfl, ⟨rfl, rfl, hid_of rfl, i + 1, by omega, ?_⟩, ?_⟩
    · show Value.int .i64 _ = _
      go_num
    · show p.P.length - (intOf (Value.int .i64 _)).toNat < p.P.length - (intOf (F 5)).toNat
      rw [H5.out]
      simp [intOf]; omega
  · obtain rfl : i = p.P.length := by omega
    have hin' : ¬ ((p.P.length : Int) < (p.P.length : Int)) := by omega
    have HP : Hid (Q (.returned (.bool true)) W) := by
      show Q _ _
      rw [HQ.out]; exact ⟨rfl, rfl⟩
    go_wp2_with fail
    try go_ret
    exact HP.out
end Go.Proofs.Qxb6500788a
