import Derived.Test.Qxb6500788aPf
import Derived.StillTailTactics
import Derived.Deep.QuietTactic
import Derived.BigQuiet
import Derived.Deep.RegionHeld
import Derived.Deep.CutRange
import Derived.Laws.ResultCell
import Derived.Laws.Rows
import Derived.DeepKeys
import Derived.DataBytes
import Derived.Laws.StructEq
import Derived.Laws.AppendOwn
import Derived.Laws.MakeOwn
set_option linter.unusedSimpArgs false
set_option linter.unusedVariables false
namespace Go.Proofs.Qxb6500788a
open Go.RowKit Go.Blk
attribute [local go_sem ↓] execOp_load execOp_store execOp_alloc
attribute [local go_sem] Try.ld24 Try.st24 Try.ld25 Try.st25 Try.ld3 Try.st3 Try.ld30 Try.st30 Try.ld36 Try.st36 Try.ld4 Try.st4 Try.ld41 Try.st41 Try.ld50 Try.st50 Try.ld40 Try.st40 Try.ld42 Try.st42 Try.ld89 Try.st89 Try.ld91 Try.st91 Try.ld56 Try.st56 Try.ld97 Try.st97 Try.ld98 Try.st98 Try.ld101 Try.st101 Try.ld104 Try.st104 Try.ld57 Try.st57 Try.ld130 Try.st130 Try.ld2 Try.st2 Try.ld5 Try.st5 Try.ld9 Try.st9 Try.ld12 Try.st12 Try.ld21 Try.st21 Try.ld22 Try.st22 Try.ld29 Try.st29 Try.ld33 Try.st33 Try.ld59 Try.st59 Try.ld62 Try.st62 Try.ld69 Try.st69 Try.ld94 Try.st94 Try.ld96 Try.st96 Try.ld129 Try.st129 Try.ld158 Try.st158 Try.ld162 Try.st162 Try.ld47 Try.st47 Try.ld44 Try.st44 Try.ld137 Try.st137 Try.ld145 Try.st145 Try.ld43 Try.st43 Try.ld27 Try.st27 Try.ld38 Try.st38 Try.ld46 Try.st46 Try.ld49 Try.st49 Try.ld52 Try.st52 Try.ld54 Try.st54 Try.ld61 Try.st61 Try.ld80 Try.st80 Try.ld87 Try.st87 Try.ld93 Try.st93 Try.ld100 Try.st100 Try.ld103 Try.st103 Try.ld106 Try.st106 Try.ld109 Try.st109 Try.ld132 Try.st132 Try.ld147 Try.st147 Try.al47 Try.al44 Try.al137 Try.al145 Try.al43 Try.al27 Try.al38 Try.al46 Try.al49 Try.al52 Try.al54 Try.al61 Try.al80 Try.al87 Try.al93 Try.al100 Try.al103 Try.al106 Try.al109 Try.al132 Try.al147
attribute [local go_sem] GProgram.length_enc GProgram.ok_enc GProgram.all_get GProgram.all_set GProgram.preds_get GProgram.preds_set GProgram.rules_get GProgram.rules_set GProgram.strata_get GProgram.strata_set Answer.length_enc Answer.ok_enc Answer.all_get Answer.all_set Answer.code_get Answer.code_set Answer.n_get Answer.n_set Answer.rows_get Answer.rows_set Term.length_enc Term.ok_enc Term.all_get Term.all_set Term.var_get Term.var_set Term.n_get Term.n_set Atom.length_enc Atom.ok_enc Atom.all_get Atom.all_set Atom.pred_get Atom.pred_set Atom.args_get Atom.args_set GRule.length_enc GRule.ok_enc GRule.all_get GRule.all_set GRule.head_get GRule.head_set GRule.body_get GRule.body_set GRule.head_pred_get GRule.head_pred_set GRule.head_args_get GRule.head_args_set GOp.length_enc GOp.ok_enc GOp.all_get GOp.all_set GOp.kind_get GOp.kind_set GOp.pred_get GOp.pred_set GOp.t_get GOp.t_set GOp.n_get GOp.n_set GOp.base_get GOp.base_set GOp.rule_get GOp.rule_set GOp.rule_head_get GOp.rule_head_set GOp.rule_body_get GOp.rule_body_set GOp.rule_head_pred_get GOp.rule_head_pred_set GOp.rule_head_args_get GOp.rule_head_args_set PredInfo.length_enc PredInfo.ok_enc PredInfo.all_get PredInfo.all_set PredInfo.arity_get PredInfo.arity_set PredInfo.base_get PredInfo.base_set PredInfo.stratum_get PredInfo.stratum_set GStats.length_enc GStats.ok_enc GStats.all_get GStats.all_set GStats.rounds_get GStats.rounds_set GStats.fired_get GStats.fired_set GStats.emitted_get GStats.emitted_set GStats.fresh_get GStats.fresh_set Literal.length_enc Literal.ok_enc Literal.all_get Literal.all_set Literal.neg_get Literal.neg_set Literal.atom_get Literal.atom_set Literal.atom_pred_get Literal.atom_pred_set Literal.atom_args_get Literal.atom_args_set Engine.length_enc Engine.ok_enc Engine.all_get Engine.all_set Engine.prog_get Engine.prog_set Engine.st_get Engine.st_set Engine.levels_get Engine.levels_set Engine.running_get Engine.running_set Engine.stratum_get Engine.stratum_set Engine.round_get Engine.round_set Engine.saved_get Engine.saved_set Engine.stats_get Engine.stats_set Engine.prog_preds_get Engine.prog_preds_set Engine.prog_rules_get Engine.prog_rules_set Engine.prog_strata_get Engine.prog_strata_set Engine.stats_rounds_get Engine.stats_rounds_set Engine.stats_fired_get Engine.stats_fired_set Engine.stats_emitted_get Engine.stats_emitted_set Engine.stats_fresh_get Engine.stats_fresh_set Level.length_enc Level.ok_enc Level.all_get Level.all_set Level.heads_get Level.heads_set Level.jobs_get Level.jobs_set Plan.length_enc Plan.ok_enc Plan.all_get Plan.all_set Plan.rule_get Plan.rule_set Plan.delta_get Plan.delta_set Plan.src_get Plan.src_set Job.length_enc Job.ok_enc Job.all_get Job.all_set Job.full_get Job.full_set Job.deltas_get Job.deltas_set Job.full_rule_get Job.full_rule_set Job.full_delta_get Job.full_delta_set Job.full_src_get Job.full_src_set GState.length_enc GState.ok_enc GState.all_get GState.all_set GState.prog_get GState.prog_set GState.base_get GState.base_set GState.shown_get GState.shown_set GState.prog_preds_get GState.prog_preds_set GState.prog_rules_get GState.prog_rules_set GState.prog_strata_get GState.prog_strata_set Store.length_enc Store.ok_enc Store.all_get Store.all_set Store.arity_get Store.arity_set Store.rows_get Store.rows_set Env.length_enc Env.ok_enc Env.all_get Env.all_set Env.val_get Env.val_set Env.set_get Env.set_set
attribute [local go_sem] size_put size_ext blk_put free_put blk_alloc free_alloc blk_drew free_drew blk_ext free_ext lookOr_some putOr_some segAt_some cellAt_some storeIn_some put_put put_alloc_new length_arr ok_arr_u8 ok_arr_u32 ok_arr_u64 ok_arr_i64 ok_arr_sl cellsV_agg cellsV_int cellsV_bool cellsV_string cellsV_pointer cellsV_slice cellsV_sl ok_int ok_bool ok_string ok_pointer ok_slice ok_sl toList_arr seg_arr set_arr nth_splice nth_splice0 seg_splice seg_splice0 splice_splice splice_splice0 length_splice_if
attribute [local go_sem ↓] execOp_box
attribute [local go_sem] box_run nth_arr_u8 put_arr_u8 blk_drewN free_drewN put_drewN blk_raw free_raw
theorem core_no (W : World) : Sub W (core (fun _ => .no) W) := fun b C hb => blk_core hb rfl
/-- Labels of other engines and of scratch forgotten. -/
def normE (g : Nat) (O : Own) : Own := fun k => match O k with | .no => .no | .a m j => if m = g ∨ m = g + 1 then .a m j else .no
theorem normE_in {g : Nat} {O : Own} {k : Nat} (h : isE g (O k)) : normE g O k = O k := by
  unfold normE
  rcases h with ⟨n, e⟩ | ⟨n, e⟩
  · rw [e]; exact if_pos (.inl rfl)
  · rw [e]; exact if_pos (.inr rfl)
theorem normE_no {g : Nat} {O : Own} {k : Nat} (h : O k = .no) : normE g O k = .no := by
  unfold normE; rw [h]
theorem normE_g {g h : Nat} {O : Own} {k : Nat} (h1 : h ≠ g) (h2 : h ≠ g + 1) : ¬ isG h (normE g O k) := by
  unfold normE
  rintro ⟨n, e⟩
  cases ho : O k with
  | no => rw [ho] at e; cases e
  | a m j =>
    rw [ho] at e
    have e' : (if m = g ∨ m = g + 1 then Lab.a m j else Lab.no) = Lab.a h n := e
    by_cases hm : m = g ∨ m = g + 1
    · rw [if_pos hm] at e'
      injection e' with e' _
      omega
    · rw [if_neg hm] at e'; cases e'
theorem LevelC.sub {W W' : World} {x : Level} {p : Pg} {s : Nat} (h : LevelC W x p s) (hs : Sub W W') : LevelC W' x p s := by
  obtain ⟨h1, D, h2, h3, h4⟩ := h
  exact ⟨h1.sub hs, D, h2.sub hs, h3, fun i y d hy hd => (h4 i y d hy hd).sub hs⟩
theorem EAt.norm {B : Nat} {O : Own} {W : World} {g be : Nat} {p : Pg} {x : Engine} {S sav : List (List Tup)} (h : EAt B O W g be p x S sav) : EAt B (normE g O) W g be p x S sav := by
  obtain ⟨bst, D, h⟩ := h
  have hsub : Sub (core O W) (core (normE g O) W) := Sub.cores (fun b C hb ho => ⟨hb, normE_no ho⟩)
  refine ⟨bst, D, h.cell, h.fre, by rw [normE_in (by rw [h.own]; exact .inr (isG_a _ 0))]; exact h.own, h.xst, h.st.keep (Nat.le_refl _) (fun k _ hm => ⟨rfl, normE_in (.inl hm)⟩), h.prg.sub hsub, ?_, h.sv.keep (fun k _ ho => ⟨rfl, normE_in (by rw [ho]; exact .inr (isG_a _ 1))⟩), h.dl, h.sl, fun i d L hd hL => (h.dr i d L hd hL).sub hsub⟩
  obtain ⟨V, v1, v2, v3⟩ := h.lev
  exact ⟨V, v1.sub hsub, v2, fun s y hy => (v3 s y hy).sub hsub⟩
/-- The first engine in a law's loops. -/
def E1 (p : Pg) (W3 : World) (be : Nat) (S : List (List Tup)) (V : World) : Prop := ∃ (O : Own) (x : Engine) (sav : List (List Tup)), W3.Extends V ∧ (∀ k, k < W3.heap.size → O k = .no) ∧ EAt W3.heap.size O V 0 be p x S sav ∧ x.running = false ∧ EngI p S
theorem E1.play {p : Pg} (hok : PgOk p) {W3 : World} {be : Nat} {S : List (List Tup)} {V : World} (h : E1 p W3 be S V) (op : GOp) : Calls Try.prog 14 #[.pointer (some ⟨be, 0, none⟩), .agg (GOp.enc op).toArray] V fun e V' => ∃ (S' : List (List Tup)) (A : Answer) (ts : List Tup), e = .returned (.agg A.enc.toArray) ∧ PlayR p S op S' A.code A.n ts ∧ E1 p W3 be S' V' := by
  obtain ⟨O, x, sav, h1, h2, h3, h4, h5⟩ := h
  refine (play_any W3.heap.size O V 0 be p x S sav h3 hok h4 h5.1 op).mono ?_
  rintro e V' ⟨S', A, ts, x', sav', O', rfl, hp, hr, hf, hE, hrw⟩
  have hs := h1.size
  exact ⟨S', A, ts, rfl, hp, O', x', sav', hf.extends h1 (fun k hk => by rw [h2 k hk]; exact isE_no 0), fun k hk => (hf.keep k (by omega)).trans (h2 k hk), hE, hr, play_inv hok h5 hp⟩
/-- Both engines. -/
def E2 (p : Pg) (W3 : World) (be bf : Nat) (S S2 : List (List Tup)) (V : World) : Prop := ∃ (O : Own) (B2 : Nat) (x x2 : Engine) (sav sav2 : List (List Tup)), W3.Extends V ∧ (∀ k, k < W3.heap.size → O k = .no) ∧ EAt W3.heap.size O V 0 be p x S sav ∧ x.running = false ∧ EngI p S ∧ EAt B2 O V 2 bf p x2 S2 sav2 ∧ x2.running = false ∧ EngI p S2
theorem isE_02 {l : Lab} (h : isE 0 l) : ¬ isE 2 l := by
  rcases h with ⟨n, rfl⟩ | ⟨n, rfl⟩ <;> (rintro (⟨m, e⟩ | ⟨m, e⟩) <;> (injection e with e _; omega))
theorem isE_20 {l : Lab} (h : isE 2 l) : ¬ isE 0 l := fun h' => isE_02 h' h
theorem E2.ext {p : Pg} {W3 : World} {be bf : Nat} {S S2 : List (List Tup)} {V V' : World} (h : E2 p W3 be bf S S2 V) (he : V.Extends V') : E2 p W3 be bf S S2 V' := by
  obtain ⟨O, B2, x, x2, sav, sav2, h1, h2, h3, h4, h5, h6, h7, h8⟩ := h
  exact ⟨O, B2, x, x2, sav, sav2, h1.trans he, h2, h3.ext he, h4, h5, h6.ext he, h7, h8⟩
theorem E1.new {p : Pg} (hok : PgOk p) {W3 : World} {be : Nat} {S : List (List Tup)} {V : World} (h : E1 p W3 be S V) {x0 : GProgram} (hx : PrgC W3 x0 p) : Calls Try.prog 11 #[.agg x0.enc.toArray] V fun e V' => ∃ bf, e = .returned (.tuple #[.pointer (some ⟨bf, 0, none⟩), .int .i64 0]) ∧ E2 p W3 be bf S (List.replicate (3 * p.P.length) []) V' := by
  obtain ⟨O, x, sav, h1, h2, h3, h4, h5⟩ := h
  have h3' := h3.norm
  have hprg : PrgC (core (normE 0 O) V) x0 p := hx.sub (fun b C hb => blk_core ((h1.blk (blk_lt hb)).trans hb) (normE_no (h2 b (blk_lt hb))))
  refine (new_x V (normE 0 O) 2 p x0 hprg hok (fun k _ => ⟨normE_g (by omega) (by omega), normE_g (by omega) (by omega)⟩)).mono ?_
  rintro e V' ⟨bf, O', x2, rfl, hx', ho, hE, hr⟩
  have hs := h1.size
  have hF : Fr (fun _ => False) (normE 0 O) V O' V' := ⟨hx'.os, hx'.tape, hx'.output, hx'.size, ho, fun k hk _ => hx'.block k hk⟩
  refine ⟨bf, rfl, O', V.heap.size, x, x2, sav, _, h1.trans hx', fun k hk => by rw [ho k (by omega)]; exact normE_no (h2 k hk), h3'.fr hF (fun _ _ h => h) (fun h => h), h4, h5, hE, hr, ?_⟩
  have hrow : ∀ r, rowsAt (List.replicate (3 * p.P.length) ([] : List Tup)) r = [] := fun r => by
    unfold rowsAt
    rw [List.getD_eq_getElem?_getD, List.getElem?_replicate]
    by_cases hr : r < 3 * p.P.length
    · rw [if_pos hr]; rfl
    · rw [if_neg hr]; rfl
  refine ⟨⟨⟨by simp, fun L hL => ?_, fun q _ => hrow _⟩, fun q _ => hrow _⟩, fun q j _ _ t ht => by rw [hrow] at ht; cases ht⟩
  rw [List.eq_of_mem_replicate hL]
  exact ⟨by simp, outOk_nil⟩
theorem E2.add {p : Pg} (hok : PgOk p) {W3 : World} {be bf : Nat} {S S2 : List (List Tup)} {V : World} (h : E2 p W3 be bf S S2 V) (q : Nat) (t : Tup) : Calls Try.prog 21 #[.pointer (some ⟨bf, 0, none⟩), .int .i64 (q : Int), .agg (arr i64v t).toArray] V fun e V' => e = .returned (.int .i64 (addC p false S2 (q : Int) t)) ∧ E2 p W3 be bf S (addS p false S2 (q : Int) t) V' := by
  obtain ⟨O, B2, x, x2, sav, sav2, h1, h2, h3, h4, h5, h6, h7, h8⟩ := h
  have hc := add_any B2 O V 2 bf p x2 S2 sav2 h6 hok h8.1.1.1 h8.1.1.2.1 (q : Int) t
  rw [h7] at hc
  refine hc.mono ?_
  rintro e V' ⟨rfl, O', hf, hE⟩
  have hs := h1.size
  exact ⟨rfl, O', B2, x, x2, sav, sav2, hf.extends h1 (fun k hk => by rw [h2 k hk]; exact isE_no 2), fun k hk => (hf.keep k (by omega)).trans (h2 k hk), h3.fr hf (fun l hl => isE_02 hl) (isE_no 2), h4, h5, hE, h7, play_inv (op := ⟨2, q, t, 0, false, GRule.zero⟩) hok h8 (.fact rfl)⟩
theorem E2.list {p : Pg} (hok : PgOk p) {W3 : World} {be bf : Nat} {S S2 : List (List Tup)} {V : World} (h : E2 p W3 be bf S S2 V) (q : Nat) (hq : q < p.P.length) : Calls Try.prog 38 #[.pointer (some ⟨be, 0, none⟩), .int .i64 (q : Int)] V fun e V' => ∃ a n c, e = .returned (.tuple #[.slice a n c, .int .i64 0]) ∧ Outs V V' a n c (rowsAt S (3 * q)) := by
  obtain ⟨O, B2, x, x2, sav, sav2, h1, h2, h3, h4, h5, h6, h7, h8⟩ := h
  have hin : inT p (q : Int) := ⟨by omega, by omega⟩
  refine (listE_any W3.heap.size O V 0 be p x S sav h3 hok h5.1.1.1 h5.1.1.2.1 (q : Int)).mono ?_
  rintro e V' ⟨a, n, c, rfl, ho⟩
  rw [if_pos hin, Int.toNat_natCast] at ho
  rw [if_pos hin]
  exact ⟨a, n, c, rfl, ho⟩
theorem E2.run1 {p : Pg} (hok : PgOk p) {W3 : World} {be bf : Nat} {S S2 : List (List Tup)} {V : World} (h : E2 p W3 be bf S S2 V) : Calls Try.prog 36 #[.pointer (some ⟨be, 0, none⟩)] V fun e V' => ∃ (r : Option StQ) (S' : List (List Tup)), RunsTo p 0 0 (begS p S p.P.length, ⟨0, 0, 0, 0⟩) r ∧ E2 p W3 be bf S' S2 V' ∧ ((r = none ∧ e = .returned (.int .i64 3)) ∨ ∃ σ, r = some σ ∧ S' = σ.1 ∧ e = .returned (.int .i64 0)) := by
  obtain ⟨O, B2, x, x2, sav, sav2, h1, h2, h3, h4, h5, h6, h7, h8⟩ := h
  refine (runE_any W3.heap.size O V 0 be p x S sav h3 hok h4 h5.1).mono ?_
  rintro e V' ⟨r, hr, x', sav', hx1, -, hres⟩
  have hs := h1.size
  cases r with
  | none =>
    obtain ⟨rfl, O', hf, hE⟩ := hres
    exact ⟨none, S, hr, ⟨O', B2, x', x2, sav', sav2, hf.extends h1 (fun k hk => by rw [h2 k hk]; exact isE_no 0), fun k hk => (hf.keep k (by omega)).trans (h2 k hk), hE, hx1, h5, h6.fr hf (fun l hl => isE_20 hl) (isE_no 0), h7, h8⟩, .inl ⟨rfl, rfl⟩⟩
  | some σ =>
    obtain ⟨rfl, O', hf, hE⟩ := hres
    exact ⟨some σ, σ.1, hr, ⟨O', B2, x', x2, sav', sav2, hf.extends h1 (fun k hk => by rw [h2 k hk]; exact isE_no 0), fun k hk => (hf.keep k (by omega)).trans (h2 k hk), hE, hx1, runs_inv hok hr h5.beg.1 h5.beg.2 _ rfl, h6.fr hf (fun l hl => isE_20 hl) (isE_no 0), h7, h8⟩, .inr ⟨σ, rfl, rfl, rfl⟩⟩
theorem E2.run2 {p : Pg} (hok : PgOk p) {W3 : World} {be bf : Nat} {S S2 : List (List Tup)} {V : World} (h : E2 p W3 be bf S S2 V) : Calls Try.prog 36 #[.pointer (some ⟨bf, 0, none⟩)] V fun e V' => ∃ (r : Option StQ) (S' : List (List Tup)), RunsTo p 0 0 (begS p S2 p.P.length, ⟨0, 0, 0, 0⟩) r ∧ E2 p W3 be bf S S' V' ∧ ((r = none ∧ e = .returned (.int .i64 3)) ∨ ∃ σ, r = some σ ∧ S' = σ.1 ∧ e = .returned (.int .i64 0)) := by
  obtain ⟨O, B2, x, x2, sav, sav2, h1, h2, h3, h4, h5, h6, h7, h8⟩ := h
  refine (runE_any B2 O V 2 bf p x2 S2 sav2 h6 hok h7 h8.1).mono ?_
  rintro e V' ⟨r, hr, x', sav', hx1, -, hres⟩
  have hs := h1.size
  cases r with
  | none =>
    obtain ⟨rfl, O', hf, hE⟩ := hres
    exact ⟨none, S2, hr, ⟨O', B2, x, x', sav, sav', hf.extends h1 (fun k hk => by rw [h2 k hk]; exact isE_no 2), fun k hk => (hf.keep k (by omega)).trans (h2 k hk), h3.fr hf (fun l hl => isE_02 hl) (isE_no 2), h4, h5, hE, hx1, h8⟩, .inl ⟨rfl, rfl⟩⟩
  | some σ =>
    obtain ⟨rfl, O', hf, hE⟩ := hres
    exact ⟨some σ, σ.1, hr, ⟨O', B2, x, x', sav, sav', hf.extends h1 (fun k hk => by rw [h2 k hk]; exact isE_no 2), fun k hk => (hf.keep k (by omega)).trans (h2 k hk), h3.fr hf (fun l hl => isE_02 hl) (isE_no 2), h4, h5, hE, hx1, runs_inv hok hr h8.beg.1 h8.beg.2 _ rfl⟩, .inr ⟨σ, rfl, rfl, rfl⟩⟩
/-- The fresh engine has been given the base facts of the first i predicates. -/
def Fed (p : Pg) (S S2 : List (List Tup)) (i : Nat) : Prop := ∀ q, q < p.P.length → ∀ t, t ∈ rowsAt S2 (3 * q) ↔ (q < i ∧ basP p q = true ∧ t ∈ rowsAt S (3 * q))
def FedK (p : Pg) (S S2 : List (List Tup)) (i : Nat) (us : List Tup) : Prop := ∀ q, q < p.P.length → ∀ t, t ∈ rowsAt S2 (3 * q) ↔ ((q < i ∧ basP p q = true ∧ t ∈ rowsAt S (3 * q)) ∨ (q = i ∧ t ∈ us))
theorem fed_add {p : Pg} (hok : PgOk p) {S S2 : List (List Tup)} {i : Nat} (hi : i < p.P.length) (hb : basP p i = true) (hS : EngI p S) (hS2 : EngI p S2) {us ws : List Tup} {t : Tup} (hF : FedK p S S2 i us) (hu : us ++ t :: ws = us ++ t :: ws) (hnd : (us ++ t :: ws).Nodup) (hp : (us ++ t :: ws).Perm (rowsAt S (3 * i))) : addC p false S2 (i : Int) t = 0 ∧ FedK p S (addS p false S2 (i : Int) t) i (us ++ [t]) := by
  have htm : t ∈ rowsAt S (3 * i) := hp.mem_iff.1 (by simp)
  have ht : ckT p (i : Int) t = 0 := ckT_ok hi ((hS.1.1.2.1.at (3 * i)).2.2 t htm) (hS.2 i 0 hi (by omega) t htm) (ar_le hok hi).1
  have hck : ckF p false (i : Int) t = 0 := by
    unfold ckF
    rw [if_neg (by decide), if_neg (fun h => h ht), Int.toNat_natCast, hb]; rfl
  have htu : t ∉ us := fun h => by
    rw [List.nodup_append] at hnd
    exact hnd.2.2 t h t (List.mem_cons_self ..) rfl
  have hn : t ∉ rowsAt S2 (3 * i) := fun h => by
    rcases (hF i hi t).1 h with h | h
    · omega
    · exact htu h.2
  have hlen : (rowsAt S2 (3 * i)).length ≤ us.length := nodup_sub_len (hS2.1.1.2.1.at _).2.1 (fun u hu => by
    rcases (hF i hi u).1 hu with h | h
    · omega
    · exact h.2)
  have hl2 : us.length + 1 ≤ 512 := by
    have h1 := hp.length_eq
    rw [List.length_append, List.length_cons] at h1
    have h2 := (hS.1.1.2.1.at (3 * i)).1
    omega
  have hne : ¬ (rowsAt S2 (3 * i)).length = 512 := by omega
  refine ⟨?_, fun q hq u => ?_⟩
  · unfold addC
    rw [if_neg (fun h => h hck), Int.toNat_natCast]
    unfold insC
    rw [if_neg hn, if_neg hne]
  · unfold addS
    rw [if_neg (fun h => h hck), Int.toNat_natCast, rowsAt_set (by have := hS2.1.1.1; omega)]
    unfold insL
    rw [if_neg hn, if_neg hne]
    by_cases hqi : q = i
    · subst hqi
      rw [if_pos rfl, List.mem_append, List.mem_append, hF q hq u]
      constructor
      · rintro ((h | h) | h)
        · omega
        · exact .inr ⟨rfl, .inl h.2⟩
        · exact .inr ⟨rfl, .inr h⟩
      · rintro (h | ⟨_, h | h⟩)
        · omega
        · exact .inl (.inr ⟨rfl, h⟩)
        · exact .inr h
    · rw [if_neg (by omega), hF q hq u]
      exact or_congr Iff.rfl ⟨fun h => absurd h.1 hqi, fun h => absurd h.1 hqi⟩
theorem fed_seq {p : Pg} {S S2 : List (List Tup)} (hS : EngI p S) (hS2 : EngI p S2) (hF : Fed p S S2 p.P.length) : SEq p (begS p S p.P.length) (begS p S2 p.P.length) := by
  intro q hq t
  rw [begS_rows hS.1.1.1 (r := 3 * q) (q := q) (j := 0) rfl (by omega) _ (Nat.le_refl _), begS_rows hS2.1.1.1 (r := 3 * q) (q := q) (j := 0) rfl (by omega) _ (Nat.le_refl _)]
  by_cases hb : basP p q = false
  · rw [if_pos ⟨hq, rfl, hb⟩, if_pos ⟨hq, rfl, hb⟩]
  · rw [if_neg (fun h => hb h.2.2), if_neg (fun h => hb h.2.2), hF q hq t]
    exact ⟨fun h => ⟨hq, by simpa using hb, h⟩, fun h => h.2.2⟩
end Go.Proofs.Qxb6500788a
