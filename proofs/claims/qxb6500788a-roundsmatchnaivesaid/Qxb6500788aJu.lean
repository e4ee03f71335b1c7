import Derived.Test.Qxb6500788aJt
import Derived.StillTailTactics
import Derived.Deep.QuietTactic
import Derived.BigQuiet
import Derived.Deep.RegionHeld
import Derived.Deep.CutRange
import Derived.Laws.ResultCell
import Derived.Laws.Rows
import Derived.DeepKeys
import Derived.DataBytes
import Derived.Laws.StructEq
import Derived.Laws.AppendOwn
import Derived.Laws.MakeOwn
set_option linter.unusedSimpArgs false
set_option linter.unusedVariables false
namespace Go.Proofs.Qxb6500788a
open Go.RowKit Go.Blk
attribute [local go_sem ↓] execOp_load execOp_store execOp_alloc
attribute [local go_sem] Try.ld24 Try.st24 Try.ld25 Try.st25 Try.ld3 Try.st3 Try.ld30 Try.st30 Try.ld36 Try.st36 Try.ld4 Try.st4 Try.ld41 Try.st41 Try.ld50 Try.st50 Try.ld40 Try.st40 Try.ld42 Try.st42 Try.ld89 Try.st89 Try.ld91 Try.st91 Try.ld56 Try.st56 Try.ld97 Try.st97 Try.ld98 Try.st98 Try.ld101 Try.st101 Try.ld104 Try.st104 Try.ld57 Try.st57 Try.ld130 Try.st130 Try.ld2 Try.st2 Try.ld5 Try.st5 Try.ld9 Try.st9 Try.ld12 Try.st12 Try.ld21 Try.st21 Try.ld22 Try.st22 Try.ld29 Try.st29 Try.ld33 Try.st33 Try.ld59 Try.st59 Try.ld62 Try.st62 Try.ld69 Try.st69 Try.ld94 Try.st94 Try.ld96 Try.st96 Try.ld129 Try.st129 Try.ld158 Try.st158 Try.ld162 Try.st162 Try.ld47 Try.st47 Try.ld44 Try.st44 Try.ld137 Try.st137 Try.ld145 Try.st145 Try.ld43 Try.st43 Try.ld27 Try.st27 Try.ld38 Try.st38 Try.ld46 Try.st46 Try.ld49 Try.st49 Try.ld52 Try.st52 Try.ld54 Try.st54 Try.ld61 Try.st61 Try.ld80 Try.st80 Try.ld87 Try.st87 Try.ld93 Try.st93 Try.ld100 Try.st100 Try.ld103 Try.st103 Try.ld106 Try.st106 Try.ld109 Try.st109 Try.ld132 Try.st132 Try.ld147 Try.st147 Try.al47 Try.al44 Try.al137 Try.al145 Try.al43 Try.al27 Try.al38 Try.al46 Try.al49 Try.al52 Try.al54 Try.al61 Try.al80 Try.al87 Try.al93 Try.al100 Try.al103 Try.al106 Try.al109 Try.al132 Try.al147
attribute [local go_sem] GProgram.length_enc GProgram.ok_enc GProgram.all_get GProgram.all_set GProgram.preds_get GProgram.preds_set GProgram.rules_get GProgram.rules_set GProgram.strata_get GProgram.strata_set Answer.length_enc Answer.ok_enc Answer.all_get Answer.all_set Answer.code_get Answer.code_set Answer.n_get Answer.n_set Answer.rows_get Answer.rows_set Term.length_enc Term.ok_enc Term.all_get Term.all_set Term.var_get Term.var_set Term.n_get Term.n_set Atom.length_enc Atom.ok_enc Atom.all_get Atom.all_set Atom.pred_get Atom.pred_set Atom.args_get Atom.args_set GRule.length_enc GRule.ok_enc GRule.all_get GRule.all_set GRule.head_get GRule.head_set GRule.body_get GRule.body_set GRule.head_pred_get GRule.head_pred_set GRule.head_args_get GRule.head_args_set GOp.length_enc GOp.ok_enc GOp.all_get GOp.all_set GOp.kind_get GOp.kind_set GOp.pred_get GOp.pred_set GOp.t_get GOp.t_set GOp.n_get GOp.n_set GOp.base_get GOp.base_set GOp.rule_get GOp.rule_set GOp.rule_head_get GOp.rule_head_set GOp.rule_body_get GOp.rule_body_set GOp.rule_head_pred_get GOp.rule_head_pred_set GOp.rule_head_args_get GOp.rule_head_args_set PredInfo.length_enc PredInfo.ok_enc PredInfo.all_get PredInfo.all_set PredInfo.arity_get PredInfo.arity_set PredInfo.base_get PredInfo.base_set PredInfo.stratum_get PredInfo.stratum_set GStats.length_enc GStats.ok_enc GStats.all_get GStats.all_set GStats.rounds_get GStats.rounds_set GStats.fired_get GStats.fired_set GStats.emitted_get GStats.emitted_set GStats.fresh_get GStats.fresh_set Literal.length_enc Literal.ok_enc Literal.all_get Literal.all_set Literal.neg_get Literal.neg_set Literal.atom_get Literal.atom_set Literal.atom_pred_get Literal.atom_pred_set Literal.atom_args_get Literal.atom_args_set Engine.length_enc Engine.ok_enc Engine.all_get Engine.all_set Engine.prog_get Engine.prog_set Engine.st_get Engine.st_set Engine.levels_get Engine.levels_set Engine.running_get Engine.running_set Engine.stratum_get Engine.stratum_set Engine.round_get Engine.round_set Engine.saved_get Engine.saved_set Engine.stats_get Engine.stats_set Engine.prog_preds_get Engine.prog_preds_set Engine.prog_rules_get Engine.prog_rules_set Engine.prog_strata_get Engine.prog_strata_set Engine.stats_rounds_get Engine.stats_rounds_set Engine.stats_fired_get Engine.stats_fired_set Engine.stats_emitted_get Engine.stats_emitted_set Engine.stats_fresh_get Engine.stats_fresh_set Level.length_enc Level.ok_enc Level.all_get Level.all_set Level.heads_get Level.heads_set Level.jobs_get Level.jobs_set Plan.length_enc Plan.ok_enc Plan.all_get Plan.all_set Plan.rule_get Plan.rule_set Plan.delta_get Plan.delta_set Plan.src_get Plan.src_set Job.length_enc Job.ok_enc Job.all_get Job.all_set Job.full_get Job.full_set Job.deltas_get Job.deltas_set Job.full_rule_get Job.full_rule_set Job.full_delta_get Job.full_delta_set Job.full_src_get Job.full_src_set GState.length_enc GState.ok_enc GState.all_get GState.all_set GState.prog_get GState.prog_set GState.base_get GState.base_set GState.shown_get GState.shown_set GState.prog_preds_get GState.prog_preds_set GState.prog_rules_get GState.prog_rules_set GState.prog_strata_get GState.prog_strata_set Store.length_enc Store.ok_enc Store.all_get Store.all_set Store.arity_get Store.arity_set Store.rows_get Store.rows_set Env.length_enc Env.ok_enc Env.all_get Env.all_set Env.val_get Env.val_set Env.set_get Env.set_set
attribute [local go_sem] size_put size_ext blk_put free_put blk_alloc free_alloc blk_drew free_drew blk_ext free_ext lookOr_some putOr_some segAt_some cellAt_some storeIn_some put_put put_alloc_new length_arr ok_arr_u8 ok_arr_u32 ok_arr_u64 ok_arr_i64 ok_arr_sl cellsV_agg cellsV_int cellsV_bool cellsV_string cellsV_pointer cellsV_slice cellsV_sl ok_int ok_bool ok_string ok_pointer ok_slice ok_sl toList_arr seg_arr set_arr nth_splice nth_splice0 seg_splice seg_splice0 splice_splice splice_splice0 length_splice_if
attribute [local go_sem ↓] execOp_box
attribute [local go_sem] box_run nth_arr_u8 put_arr_u8 blk_drewN free_drewN put_drewN blk_raw free_raw
theorem ER.sub {p : Pg} {W3 : World} {be : Nat} {S0 : List (List Tup)} {s rn : Nat} {σ : StQ} {K V : World} (h : ER p W3 be S0 s rn σ K V) : Sub K V := by
  obtain ⟨O, x, sav, h0, _⟩ := h
  exact h0.trans (Sub.core O V)
theorem ER.grow {p : Pg} {W3 : World} {be : Nat} {S0 : List (List Tup)} {s rn : Nat} {σ : StQ} {K V V' : World} (h : ER p W3 be S0 s rn σ K V) (he : V.Extends V') : ∃ K', ER p W3 be S0 s rn σ K' V' ∧ Sub K K' ∧ Sub (newc V.heap.size V') K' := by
  obtain ⟨O, x, sav, h0, h1, h2, h3, h⟩ := h
  have hs := h1.size
  exact ⟨core (lab O V.heap.size .no) V', ⟨lab O V.heap.size .no, x, sav, fun _ _ h => h, h1.trans he, fun k hk => by rw [lab_lt (by omega)]; exact h2 k hk, h3.new he _, h⟩, h0.trans (Sub.ext (core_new he _)), newc_core O⟩
theorem ER.stratum {p : Pg} {W3 : World} {be : Nat} {S0 : List (List Tup)} {s rn : Nat} {σ : StQ} {K V : World} (h : ER p W3 be S0 s rn σ K V) : Calls Try.prog 20 #[.pointer (some ⟨be, 0, none⟩)] V fun e V' => e = .returned (.int .i64 (s : Int)) ∧ V' = V := by
  obtain ⟨O, x, sav, h0, h1, h2, h3, h4, h5, h6, h7, h8, h9, h10, h11, h12, h13, h14⟩ := h
  have := stratum_any W3.heap.size O V 0 be p x _ _ h3
  rw [h6] at this
  exact this
theorem ER.add {p : Pg} (hok : PgOk p) {W3 : World} {be : Nat} {S0 : List (List Tup)} {s rn : Nat} {σ : StQ} {K V : World} (h : ER p W3 be S0 s rn σ K V) (q : Int) (t : Tup) : Calls Try.prog 21 #[.pointer (some ⟨be, 0, none⟩), .int .i64 q, .agg (arr i64v t).toArray] V fun e V' => e = .returned (.int .i64 9) ∧ ER p W3 be S0 s rn σ K V' := by
  obtain ⟨O, x, sav, h0, h1, h2, h3, h4, h5, h6, h7, h8, h9, h10, h11, h12, h13, h14⟩ := h
  have hc := add_any W3.heap.size O V 0 be p x _ _ h3 hok h10.1.1 h10.1.2.1 q t
  have hck : ckF p x.running q t = 9 := by rw [h5]; rfl
  unfold addC addS at hc
  rw [hck, if_pos (by decide), if_pos (by decide)] at hc
  refine hc.mono ?_
  rintro e V' ⟨rfl, O', hf, hE⟩
  obtain ⟨g0, g1, g2⟩ := fr_law h0 h1 h2 hf
  exact ⟨rfl, O', x, sav, g0, g1, g2, hE, h4, h5, h6, h7, h8, h9, h10, h11, h12, h13, h14⟩
theorem ER.drop {p : Pg} (hok : PgOk p) {W3 : World} {be : Nat} {S0 : List (List Tup)} {s rn : Nat} {σ : StQ} {K V : World} (h : ER p W3 be S0 s rn σ K V) (q : Int) (t : Tup) : Calls Try.prog 22 #[.pointer (some ⟨be, 0, none⟩), .int .i64 q, .agg (arr i64v t).toArray] V fun e V' => e = .returned (.int .i64 9) ∧ ER p W3 be S0 s rn σ K V' := by
  obtain ⟨O, x, sav, h0, h1, h2, h3, h4, h5, h6, h7, h8, h9, h10, h11, h12, h13, h14⟩ := h
  have hc := drop_any W3.heap.size O V 0 be p x _ _ h3 hok h10.1.1 h10.1.2.1 q t
  have hck : ckF p x.running q t = 9 := by rw [h5]; rfl
  unfold dropC dropS at hc
  rw [hck, if_pos (by decide), if_pos (by decide)] at hc
  refine hc.mono ?_
  rintro e V' ⟨rfl, O', hf, hE⟩
  obtain ⟨g0, g1, g2⟩ := fr_law h0 h1 h2 hf
  exact ⟨rfl, O', x, sav, g0, g1, g2, hE, h4, h5, h6, h7, h8, h9, h10, h11, h12, h13, h14⟩
/-- The engine, running or not. -/
def EY (p : Pg) (W3 : World) (be : Nat) (S : List (List Tup)) (K V : World) : Prop := ∃ (O : Own) (x : Engine) (sav : List (List Tup)), Sub K (core O V) ∧ W3.Extends V ∧ EAt W3.heap.size O V 0 be p x S sav ∧ NxE p S
theorem EY.wx {p : Pg} {W3 : World} {be : Nat} {S : List (List Tup)} {K V : World} (h : EY p W3 be S K V) : W3.Extends V ∧ Sub K V ∧ NxE p S := by
  obtain ⟨O, x, sav, h0, h1, h3, h4⟩ := h
  exact ⟨h1, h0.trans (Sub.core O V), h4⟩
theorem EY.ext {p : Pg} {W3 : World} {be : Nat} {S : List (List Tup)} {K V V' : World} (h : EY p W3 be S K V) (he : V.Extends V') : EY p W3 be S K V' := by
  obtain ⟨O, x, sav, h0, h1, h3, h4⟩ := h
  exact ⟨O, x, sav, h0.trans (Sub.ext (core_ext he)), h1.trans he, h3.ext he, h4⟩
theorem ER.ey {p : Pg} {W3 : World} {be : Nat} {S0 : List (List Tup)} {s rn : Nat} {σ : StQ} {K V : World} (h : ER p W3 be S0 s rn σ K V) : EY p W3 be σ.1 K V := by
  obtain ⟨O, x, sav, h0, h1, h2, h3, h4, h5, h6, h7, h8, h9, h10, _⟩ := h
  exact ⟨O, x, _, h0, h1, h3, h10.1⟩
theorem E1q.ey {p : Pg} {W3 : World} {be : Nat} {S : List (List Tup)} {q : GStats} {K V : World} (h : E1q p W3 be S q K V) : EY p W3 be S K V := by
  obtain ⟨O, x, sav, h0, h1, h2, h3, h4, h5, _⟩ := h
  exact ⟨O, x, sav, h0, h1, h3, h5.1.1⟩
theorem EY.lal {p : Pg} (hok : PgOk p) {W3 : World} {be : Nat} {S : List (List Tup)} {K V : World} (h : EY p W3 be S K V) (b3 : Nat) (x0 : GProgram) (hb : blk W3 b3 = some x0.enc) (hl : x0.preds.len = p.P.length) : Calls Try.prog 16 #[.pointer (some ⟨be, 0, none⟩), .pointer (some ⟨b3, 0, none⟩)] V fun e V' => ∃ bo, V.heap.size ≤ bo ∧ e = .returned (.slice (some ⟨bo, 0, none⟩) p.P.length p.P.length) ∧ LaI V bo p.P.length (allT S) p.P.length V' := by
  obtain ⟨O, x, sav, h0, h1, h3, h4⟩ := h
  exact listAll_l W3.heap.size O V 0 be p x S sav h3 hok h4.1 h4.2.1 b3 x0.enc x0.preds.a x0.preds.cap ((h1.blk (blk_lt hb)).trans hb) (by rw [← hl]; exact GProgram.preds_get x0) (by rw [GProgram.length_enc]; omega)
theorem EY.delta {p : Pg} (hok : PgOk p) {W3 : World} {be : Nat} {S : List (List Tup)} {K V : World} (h : EY p W3 be S K V) (q : Nat) (hq : q < p.P.length) : Calls Try.prog 27 #[.pointer (some ⟨be, 0, none⟩), .int .i64 (q : Int)] V fun e V' => ∃ a n c, e = .returned (.tuple #[.slice a n c, .int .i64 0]) ∧ Outs V V' a n c (rowsAt S (3 * q + 1)) := by
  obtain ⟨O, x, sav, h0, h1, h3, h4⟩ := h
  have hin : inT p (q : Int) := ⟨by omega, by omega⟩
  refine (deltaE_any W3.heap.size O V 0 be p x S sav h3 hok h4.1 h4.2.1 (q : Int)).mono ?_
  rintro e V' ⟨a, n, c, rfl, ho⟩
  rw [if_pos hin, Int.toNat_natCast] at ho
  rw [if_pos hin]
  exact ⟨a, n, c, rfl, ho⟩
theorem E1.roundOff {p : Pg} {W3 : World} {be : Nat} {S : List (List Tup)} {V : World} (h : E1 p W3 be S V) : Calls Try.prog 24 #[.pointer (some ⟨be, 0, none⟩)] V fun e V' => e = .returned (.tuple #[.int .i64 0, .int .i64 10]) ∧ V' = V := by
  obtain ⟨O, x, sav, h1, h2, h3, h4, h5⟩ := h
  exact roundOff_any W3.heap.size O V 0 be p x S sav h3 h4
theorem E1q.stats {p : Pg} {W3 : World} {be : Nat} {S : List (List Tup)} {q : GStats} {K V : World} (h : E1q p W3 be S q K V) : Calls Try.prog 31 #[.pointer (some ⟨be, 0, none⟩)] V fun e V' => e = .returned (.agg q.enc.toArray) ∧ V.Extends V' := by
  obtain ⟨O, x, sav, h0, h1, h2, h3, h4, h5, rfl⟩ := h
  exact stats_any W3.heap.size O V 0 be p x S sav h3
/-- The relations listed while the derived ones are cut out. -/
def cutT (p : Pg) (S : List (List Tup)) (i : Nat) : Nat → List Tup := fun q => if q < i ∧ basP p q = false then [] else rowsAt S (3 * q)
def NlI (W : World) (bo n : Nat) (T : Nat → List Tup) (V : World) : Prop := W.Extends V ∧ W.heap.size ≤ bo ∧ free V bo = true ∧ ∃ C, blk V bo = some C ∧ C.length = n ∧ ∀ q, q < n → ∃ a m c, nth C q = some (.slice a m c) ∧ Rw tpl 4 V a m (T q) ∧ ∀ b, a = some ⟨b, 0, none⟩ → bo < b
theorem LaI.nl {W V : World} {bo n : Nat} {T : Nat → List Tup} (h : LaI W bo n T n V) (hn : W.heap.size ≤ bo) : NlI W bo n T V := by
  obtain ⟨q1, Ds, q2, q3, q4, q5⟩ := h
  rw [Nat.sub_self, List.replicate_zero] at q3
  refine ⟨q1, hn, q4, _, q3, by rw [List.append_nil, flat_sl, q2], fun q hq => ?_⟩
  obtain ⟨d, hd⟩ : ∃ d, Ds[q]? = some d := ⟨_, List.getElem?_eq_getElem (by omega)⟩
  obtain ⟨r1, r2⟩ := q5 q d hd
  exact ⟨d.a, d.len, d.cap, flat_at Ds q d hd [], r1, r2⟩
theorem NlI.cut {W V : World} {bo n : Nat} {T T' : Nat → List Tup} (h : NlI W bo n T V) {i : Nat} (hi : i < n) (hT : ∀ q, T' q = if q = i then [] else T q) : ∃ C, blk V bo = some C ∧ free V bo = true ∧ i < C.length ∧ i + 1 ≤ C.length ∧ NlI W bo n T' (put V bo (splice C i [.slice none 0 0])) := by
  obtain ⟨h1, h2, h3, C, h4, h5, h6⟩ := h
  refine ⟨C, h4, h3, by omega, by omega, extends_put h1 h2 _, h2, by rw [free_put]; exact h3, _, by rw [blk_put, if_pos rfl, h4]; rfl, by rw [length_splice1 (by omega)]; exact h5, fun q hq => ?_⟩
  rw [splice_nth (by omega), hT q]
  by_cases hqi : q = i
  · rw [if_pos hqi, if_pos hqi]
    exact ⟨none, 0, 0, rfl, rw_nilT _, fun b e => by cases e⟩
  · rw [if_neg hqi, if_neg hqi]
    obtain ⟨a, m, c, g1, g2, g3⟩ := h6 q hq
    refine ⟨a, m, c, g1, ⟨g2.1, fun j y hy => ?_⟩, g3⟩
    obtain ⟨b, D, k1, k2, k3⟩ := g2.2 j y hy
    exact ⟨b, D, k1, by rw [blk_put, if_neg (by have := g3 b k1; omega)]; exact k2, k3⟩
theorem NlI.congr {W V : World} {bo n : Nat} {T T' : Nat → List Tup} (h : NlI W bo n T V) (he : ∀ q, T' q = T q) : NlI W bo n T' V := by
  have : T' = T := funext he
  rw [this]; exact h
theorem NlI.relN {W V : World} {bo n : Nat} {T : Nat → List Tup} (h : NlI W bo n T V) : RelR (newc W.heap.size V) (some ⟨bo, 0, none⟩) n T := by
  obtain ⟨h0, hn, h3, C, h1, h2, h6⟩ := h
  have key : ∀ q d, (C.map slOf)[q]? = some d → q < n ∧ ∃ a m c, d = ⟨a, m, c⟩ ∧ nth C q = some (.slice a m c) ∧ Rw tpl 4 (newc W.heap.size V) a m (T q) := fun q d hd => by
    have hq : q < n := by
      have := (List.getElem?_eq_some_iff.1 hd).1
      rw [List.length_map] at this; omega
    obtain ⟨a, m, c, g1, g2, g3⟩ := h6 q hq
    refine ⟨hq, a, m, c, ?_, g1, g2.tocore (fun b C e _ => lab_ge (by have := g3 b e; omega))⟩
    have g1' : C[q]? = some (.slice a m c) := g1
    rw [List.getElem?_map, g1'] at hd
    exact (Option.some.inj hd).symm
  refine ⟨C.map slOf, ⟨by rw [List.length_map, h2], fun q d hd => ?_⟩, fun q d hd => ?_⟩
  · obtain ⟨hq, a, m, c, rfl, g1, g2⟩ := key q d hd
    refine ⟨bo, C, rfl, blk_newc h1 hn, by omega, ?_⟩
    rw [Nat.mul_one]
    exact seg_nth1 g1
  · obtain ⟨hq, a, m, c, rfl, g1, g2⟩ := key q d hd
    exact g2
/-- The deltas are what is new. -/
theorem delta_perm {p : Pg} (hok : PgOk p) {s rn : Nat} {σ σ' : StQ} (hR : RInv p s rn σ.1) (hD : DE p s rn σ.1) (h : jobsO p s rn σ = some σ') {T T1 : Nat → List Tup} (hM : Mt p σ.1 T) (hM1 : Mt p (promL σ'.1 (headsOf p s)) T1) (hT1 : RelI p T1) {q : Nat} (hq : q < p.P.length) : (mnL (T1 q) (T q)).Perm (rowsAt (promL σ'.1 (headsOf p s)) (3 * q + 1)) := by
  obtain ⟨b1, a1, a2, a3⟩ := round_law hok hR h
  have hnd : (mnL (T1 q) (T q)).Nodup := (hT1 q hq).1.filter _
  refine perm_of hnd (b1.1.2.1.at (3 * q + 1)).2.1 (fun t => ?_)
  have hmem : t ∈ mnL (T1 q) (T q) ↔ t ∈ T1 q ∧ t ∉ T q := by
    unfold mnL
    rw [List.mem_filter]
    simp
  rw [hmem, ← hM1 q hq t, ← hM q hq t, a1 q t hq]
  by_cases hh : q ∈ headsOf p s
  · rw [a3 q hh t, new_con hok hR q t]
    exact ⟨fun ⟨h1, h2⟩ => ⟨h2, h1.resolve_left h2⟩, fun ⟨h1, h2⟩ => ⟨.inr h2, h1⟩⟩
  · rw [(de_round hok hR hD h).1 q hq (.inr hh)]
    refine ⟨fun ⟨h1, h2⟩ => ?_, fun h => (by cases h)⟩
    obtain ⟨k, hk, hkq, _⟩ := h1.resolve_left h2
    exact absurd (hkq ▸ (jobs_head hok hk).1) hh
end Go.Proofs.Qxb6500788a
