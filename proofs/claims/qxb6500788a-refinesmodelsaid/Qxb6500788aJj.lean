import Derived.Test.Qxb6500788aJi
import Derived.StillTailTactics
import Derived.Deep.QuietTactic
import Derived.BigQuiet
import Derived.Deep.RegionHeld
import Derived.Deep.CutRange
import Derived.Laws.ResultCell
import Derived.Laws.Rows
import Derived.DeepKeys
import Derived.DataBytes
import Derived.Laws.StructEq
import Derived.Laws.AppendOwn
import Derived.Laws.MakeOwn
set_option linter.unusedSimpArgs false
set_option linter.unusedVariables false
namespace Go.Proofs.Qxb6500788a
open Go.RowKit Go.Blk
attribute [local go_sem ↓] execOp_load execOp_store execOp_alloc
attribute [local go_sem] Try.ld24 Try.st24 Try.ld25 Try.st25 Try.ld3 Try.st3 Try.ld30 Try.st30 Try.ld36 Try.st36 Try.ld4 Try.st4 Try.ld41 Try.st41 Try.ld50 Try.st50 Try.ld40 Try.st40 Try.ld42 Try.st42 Try.ld89 Try.st89 Try.ld91 Try.st91 Try.ld56 Try.st56 Try.ld97 Try.st97 Try.ld98 Try.st98 Try.ld101 Try.st101 Try.ld104 Try.st104 Try.ld57 Try.st57 Try.ld130 Try.st130 Try.ld2 Try.st2 Try.ld5 Try.st5 Try.ld9 Try.st9 Try.ld12 Try.st12 Try.ld21 Try.st21 Try.ld22 Try.st22 Try.ld29 Try.st29 Try.ld33 Try.st33 Try.ld59 Try.st59 Try.ld62 Try.st62 Try.ld69 Try.st69 Try.ld94 Try.st94 Try.ld96 Try.st96 Try.ld129 Try.st129 Try.ld158 Try.st158 Try.ld162 Try.st162 Try.ld47 Try.st47 Try.ld44 Try.st44 Try.ld137 Try.st137 Try.ld145 Try.st145 Try.ld43 Try.st43 Try.ld27 Try.st27 Try.ld38 Try.st38 Try.ld46 Try.st46 Try.ld49 Try.st49 Try.ld52 Try.st52 Try.ld54 Try.st54 Try.ld61 Try.st61 Try.ld80 Try.st80 Try.ld87 Try.st87 Try.ld93 Try.st93 Try.ld100 Try.st100 Try.ld103 Try.st103 Try.ld106 Try.st106 Try.ld109 Try.st109 Try.ld132 Try.st132 Try.ld147 Try.st147 Try.al47 Try.al44 Try.al137 Try.al145 Try.al43 Try.al27 Try.al38 Try.al46 Try.al49 Try.al52 Try.al54 Try.al61 Try.al80 Try.al87 Try.al93 Try.al100 Try.al103 Try.al106 Try.al109 Try.al132 Try.al147
attribute [local go_sem] GProgram.length_enc GProgram.ok_enc GProgram.all_get GProgram.all_set GProgram.preds_get GProgram.preds_set GProgram.rules_get GProgram.rules_set GProgram.strata_get GProgram.strata_set Answer.length_enc Answer.ok_enc Answer.all_get Answer.all_set Answer.code_get Answer.code_set Answer.n_get Answer.n_set Answer.rows_get Answer.rows_set Term.length_enc Term.ok_enc Term.all_get Term.all_set Term.var_get Term.var_set Term.n_get Term.n_set Atom.length_enc Atom.ok_enc Atom.all_get Atom.all_set Atom.pred_get Atom.pred_set Atom.args_get Atom.args_set GRule.length_enc GRule.ok_enc GRule.all_get GRule.all_set GRule.head_get GRule.head_set GRule.body_get GRule.body_set GRule.head_pred_get GRule.head_pred_set GRule.head_args_get GRule.head_args_set GOp.length_enc GOp.ok_enc GOp.all_get GOp.all_set GOp.kind_get GOp.kind_set GOp.pred_get GOp.pred_set GOp.t_get GOp.t_set GOp.n_get GOp.n_set GOp.base_get GOp.base_set GOp.rule_get GOp.rule_set GOp.rule_head_get GOp.rule_head_set GOp.rule_body_get GOp.rule_body_set GOp.rule_head_pred_get GOp.rule_head_pred_set GOp.rule_head_args_get GOp.rule_head_args_set PredInfo.length_enc PredInfo.ok_enc PredInfo.all_get PredInfo.all_set PredInfo.arity_get PredInfo.arity_set PredInfo.base_get PredInfo.base_set PredInfo.stratum_get PredInfo.stratum_set GStats.length_enc GStats.ok_enc GStats.all_get GStats.all_set GStats.rounds_get GStats.rounds_set GStats.fired_get GStats.fired_set GStats.emitted_get GStats.emitted_set GStats.fresh_get GStats.fresh_set Literal.length_enc Literal.ok_enc Literal.all_get Literal.all_set Literal.neg_get Literal.neg_set Literal.atom_get Literal.atom_set Literal.atom_pred_get Literal.atom_pred_set Literal.atom_args_get Literal.atom_args_set Engine.length_enc Engine.ok_enc Engine.all_get Engine.all_set Engine.prog_get Engine.prog_set Engine.st_get Engine.st_set Engine.levels_get Engine.levels_set Engine.running_get Engine.running_set Engine.stratum_get Engine.stratum_set Engine.round_get Engine.round_set Engine.saved_get Engine.saved_set Engine.stats_get Engine.stats_set Engine.prog_preds_get Engine.prog_preds_set Engine.prog_rules_get Engine.prog_rules_set Engine.prog_strata_get Engine.prog_strata_set Engine.stats_rounds_get Engine.stats_rounds_set Engine.stats_fired_get Engine.stats_fired_set Engine.stats_emitted_get Engine.stats_emitted_set Engine.stats_fresh_get Engine.stats_fresh_set Level.length_enc Level.ok_enc Level.all_get Level.all_set Level.heads_get Level.heads_set Level.jobs_get Level.jobs_set Plan.length_enc Plan.ok_enc Plan.all_get Plan.all_set Plan.rule_get Plan.rule_set Plan.delta_get Plan.delta_set Plan.src_get Plan.src_set Job.length_enc Job.ok_enc Job.all_get Job.all_set Job.full_get Job.full_set Job.deltas_get Job.deltas_set Job.full_rule_get Job.full_rule_set Job.full_delta_get Job.full_delta_set Job.full_src_get Job.full_src_set GState.length_enc GState.ok_enc GState.all_get GState.all_set GState.prog_get GState.prog_set GState.base_get GState.base_set GState.shown_get GState.shown_set GState.prog_preds_get GState.prog_preds_set GState.prog_rules_get GState.prog_rules_set GState.prog_strata_get GState.prog_strata_set Store.length_enc Store.ok_enc Store.all_get Store.all_set Store.arity_get Store.arity_set Store.rows_get Store.rows_set Env.length_enc Env.ok_enc Env.all_get Env.all_set Env.val_get Env.val_set Env.set_get Env.set_set
attribute [local go_sem] size_put size_ext blk_put free_put blk_alloc free_alloc blk_drew free_drew blk_ext free_ext lookOr_some putOr_some segAt_some cellAt_some storeIn_some put_put put_alloc_new length_arr ok_arr_u8 ok_arr_u32 ok_arr_u64 ok_arr_i64 ok_arr_sl cellsV_agg cellsV_int cellsV_bool cellsV_string cellsV_pointer cellsV_slice cellsV_sl ok_int ok_bool ok_string ok_pointer ok_slice ok_sl toList_arr seg_arr set_arr nth_splice nth_splice0 seg_splice seg_splice0 splice_splice splice_splice0 length_splice_if
attribute [local go_sem ↓] execOp_box
attribute [local go_sem] box_run nth_arr_u8 put_arr_u8 blk_drewN free_drewN put_drewN blk_raw free_raw
theorem pgb_str {W : World} {bp : Nat} {p : Pg} (h : PgX W bp p) {q : Nat} (hq : q < p.P.length) : ∃ (cP : Nat) (Cb CP : List Value) (bP : Nat), blk W bp = some Cb ∧ 3 ≤ Cb.length ∧ nth Cb 0 = some (.slice (some ⟨bP, 0, none⟩) p.P.length cP) ∧ blk W bP = some CP ∧ q * 3 + 3 ≤ CP.length ∧ nth CP (q * 3 + 1) = some (.bool (basP p q)) ∧ nth CP (q * 3 + 2) = some (.int .i64 (strP p q)) ∧ nth CP (q * 3) = some (.int .i64 (p.P.getD q ⟨0, false, 0⟩).arity) := by
  obtain ⟨aP, cP, aR, cR, Cb, h1, hl, n0, n1, n2, h2⟩ := h
  obtain ⟨bP, CP, g1, g2, g3, g4, g5, g6⟩ := pred_all h2 hq
  have g1' : aP = some ⟨bP, 0, none⟩ := g1
  subst g1'
  exact ⟨cP, _, CP, bP, h1, hl, n0, g2, g3, g4, g5, g6⟩
theorem pgb_rl {W : World} {bp : Nat} {p : Pg} (h : PgX W bp p) : ∃ (aR : Option Addr) (cR : Nat) (Cb : List Value), blk W bp = some Cb ∧ 3 ≤ Cb.length ∧ nth Cb 1 = some (.slice aR p.R.length cR) ∧ nth Cb 2 = some (.int .i64 (p.St : Int)) := by
  obtain ⟨aP, cP, aR, cR, Cb, h1, hl, n0, n1, n2, h2⟩ := h
  exact ⟨aR, cR, _, h1, hl, n1, n2⟩
theorem RelO.drew {W0 : World} {bo n : Nat} {T : Nat → List Tup} {O : Own} {V : World} (h : RelO W0 bo n T O V) : RelO W0 bo n T O V.drew := by
  obtain ⟨C, h1, h2, h3⟩ := h.rows
  exact ⟨extends_drew h.ext, h.new, h.old, h.lab, h.free, C, h1, h2, fun q hq => h3 q hq⟩
theorem Fr.grow {L : Lab → Prop} {O : Own} {V V' : World} (he : V.Extends V') : Fr L O V (lab O V.heap.size .no) V' := ⟨he.os, he.tape, he.output, he.size, fun k hk => lab_lt hk, fun k hk _ => he.block k hk⟩
/-- A naive round. -/
def NR (p : Pg) (s : Nat) (T T1 : Nat → List Tup) : Prop := ∀ q, q < p.P.length → OutOk (T1 q) ∧ ∀ t, (t ∈ T1 q ↔ t ∈ T q ∨ ∃ k ∈ jobsOf p s, hP p k = q ∧ Con p k (relF T) t)
def NRk (p : Pg) (s : Nat) (T : Nat → List Tup) (i : Nat) (X : Nat → Tup → Prop) (T1 : Nat → List Tup) : Prop := ∀ q, q < p.P.length → OutOk (T1 q) ∧ ∀ t, (t ∈ T1 q ↔ t ∈ T q ∨ (∃ k, k < i ∧ k ∈ jobsOf p s ∧ hP p k = q ∧ Con p k (relF T) t) ∨ X q t)
theorem mem_jobs {p : Pg} {s k : Nat} {r : GRule} (hr : p.R[k]? = some r) : k ∈ jobsOf p s ↔ strP p (hP p k) = (s : Int) := by
  unfold jobsOf
  rw [List.mem_filter, List.mem_range]
  have := (List.getElem?_eq_some_iff.1 hr).1
  simp only [decide_eq_true_eq]
  exact ⟨fun h => h.2, fun h => ⟨this, h⟩⟩
theorem NRk.start {p : Pg} {s : Nat} {T : Nat → List Tup} (h : ∀ q, q < p.P.length → OutOk (T q)) : NRk p s T 0 (fun _ _ => False) T := fun q hq => ⟨h q hq, fun t => ⟨.inl, fun h => h.elim id (fun h => h.elim (fun ⟨k, hk, _⟩ => absurd hk (Nat.not_lt_zero _)) False.elim)⟩⟩
theorem NRk.skip {p : Pg} {s : Nat} {T T1 : Nat → List Tup} {i : Nat} (h : NRk p s T i (fun _ _ => False) T1) (hn : i ∉ jobsOf p s) : NRk p s T (i + 1) (fun _ _ => False) T1 := fun q hq => by
  obtain ⟨h1, h2⟩ := h q hq
  refine ⟨h1, fun t => ?_⟩
  rw [h2 t]
  refine or_congr Iff.rfl (or_congr ⟨fun ⟨k, hk, hr⟩ => ⟨k, by omega, hr⟩, fun ⟨k, hk, hr⟩ => ⟨k, ?_, hr⟩⟩ Iff.rfl)
  by_cases hki : k = i
  · subst hki; exact absurd hr.1 hn
  · omega
theorem NRk.enter {p : Pg} {s : Nat} {T T1 : Nat → List Tup} {i h : Nat} {out : List Tup} (hN : NRk p s T i (fun _ _ => False) T1) : NRk p s T i (fun q t => q = h ∧ t ∈ out.take 0) T1 := fun q hq => by
  obtain ⟨h1, h2⟩ := hN q hq
  refine ⟨h1, fun t => ?_⟩
  rw [h2 t]
  exact or_congr Iff.rfl (or_congr Iff.rfl ⟨False.elim, fun h => by cases h.2⟩)
theorem NRk.have' {p : Pg} {s : Nat} {T T1 : Nat → List Tup} {i h j : Nat} {out : List Tup} {t : Tup} (hN : NRk p s T i (fun q t => q = h ∧ t ∈ out.take j) T1) (ht : out[j]? = some t) (hm : t ∈ T1 h) (hh : h < p.P.length) : NRk p s T i (fun q t => q = h ∧ t ∈ out.take (j + 1)) T1 := fun q hq => by
  obtain ⟨h1, h2⟩ := hN q hq
  refine ⟨h1, fun u => ?_⟩
  rw [take_at ht]
  constructor
  · intro hu
    rcases (h2 u).1 hu with h3 | h3 | h3
    · exact .inl h3
    · exact .inr (.inl h3)
    · exact .inr (.inr ⟨h3.1, List.mem_append_left _ h3.2⟩)
  · rintro (h3 | h3 | ⟨rfl, h3⟩)
    · exact (h2 u).2 (.inl h3)
    · exact (h2 u).2 (.inr (.inl h3))
    · rcases List.mem_append.1 h3 with h4 | h4
      · exact (h2 u).2 (.inr (.inr ⟨rfl, h4⟩))
      · rw [List.mem_singleton] at h4; rw [h4]; exact hm
theorem NRk.add {p : Pg} {s : Nat} {T T1 : Nat → List Tup} {i h j : Nat} {out : List Tup} {t : Tup} (hN : NRk p s T i (fun q t => q = h ∧ t ∈ out.take j) T1) (ht : out[j]? = some t) (hm : t ∉ T1 h) (hto : TOk t) : NRk p s T i (fun q t => q = h ∧ t ∈ out.take (j + 1)) (updT T1 h t) := fun q hq => by
  obtain ⟨h1, h2⟩ := hN q hq
  rw [take_at ht]
  unfold updT
  by_cases hqh : q = h
  · subst hqh
    rw [if_pos rfl]
    refine ⟨outok_app h1 ⟨by simp, fun x hx => by rw [List.mem_singleton] at hx; rw [hx]; exact hto⟩ (fun x hx => by rw [List.mem_singleton] at hx; rw [hx]; exact hm), fun u => ?_⟩
    rw [List.mem_append, h2 u]
    constructor
    · rintro ((h3 | h3 | h3) | h3)
      · exact .inl h3
      · exact .inr (.inl h3)
      · exact .inr (.inr ⟨rfl, List.mem_append_left _ h3.2⟩)
      · exact .inr (.inr ⟨rfl, List.mem_append_right _ h3⟩)
    · rintro (h3 | h3 | ⟨_, h3⟩)
      · exact .inl (.inl h3)
      · exact .inl (.inr (.inl h3))
      · rcases List.mem_append.1 h3 with h3 | h3
        · exact .inl (.inr (.inr ⟨rfl, h3⟩))
        · exact .inr h3
  · rw [if_neg hqh]
    refine ⟨h1, fun u => ?_⟩
    rw [h2 u]
    exact or_congr Iff.rfl (or_congr Iff.rfl ⟨fun h3 => absurd h3.1 hqh, fun h3 => absurd h3.1 hqh⟩)
theorem NRk.done {p : Pg} {s : Nat} {T T1 : Nat → List Tup} {i h : Nat} {out : List Tup} (hN : NRk p s T i (fun q t => q = h ∧ t ∈ out.take out.length) T1) (hj : i ∈ jobsOf p s) (hh : hP p i = h) (ho : ∀ t, t ∈ out ↔ Con p i (relF T) t) : NRk p s T (i + 1) (fun _ _ => False) T1 := fun q hq => by
  obtain ⟨h1, h2⟩ := hN q hq
  refine ⟨h1, fun u => ?_⟩
  rw [h2 u, List.take_of_length_le (Nat.le_refl _)]
  refine or_congr Iff.rfl ⟨fun h3 => .inl ?_, fun h3 => ?_⟩
  · rcases h3 with ⟨k, hk, hr⟩ | ⟨rfl, h4⟩
    · exact ⟨k, by omega, hr⟩
    · exact ⟨i, by omega, hj, hh, (ho u).1 h4⟩
  · rcases h3 with ⟨k, hk, hr⟩ | h4
    · by_cases hki : k = i
      · subst hki
        exact .inr ⟨hr.2.1.symm.trans hh, (ho u).2 hr.2.2⟩
      · exact .inl ⟨k, by omega, hr⟩
    · cases h4
theorem NRk.fin {p : Pg} {s : Nat} {T T1 : Nat → List Tup} (h : NRk p s T p.R.length (fun _ _ => False) T1) : NR p s T T1 := fun q hq => by
  obtain ⟨h1, h2⟩ := h q hq
  refine ⟨h1, fun t => ?_⟩
  rw [h2 t]
  refine or_congr Iff.rfl ⟨fun h3 => ?_, fun ⟨k, hk, hr⟩ => .inl ⟨k, ?_, hk, hr⟩⟩
  · rcases h3 with ⟨k, hk, hr⟩ | h4
    · exact ⟨k, hr⟩
    · cases h4
  · obtain ⟨r, hr⟩ := jobs_r hk
    exact (List.getElem?_eq_some_iff.1 hr).1
def NaivePost (W : World) (p : Pg) (s : Nat) (T : Nat → List Tup) (e : Ending) (V : World) : Prop := ∃ a c T1, e = .returned (.slice a p.P.length c) ∧ W.Extends V ∧ RelR (newc W.heap.size V) a p.P.length T1 ∧ NR p s T T1
def nv1I (W : World) (p : Pg) (bp s : Nat) (da : Option Addr) (D dc : Nat) (ra : Option Addr) (rc bo : Nat) (T : Nat → List Tup) (f : Nat → Value) (V : World) : Prop := f 0 = .pointer (some ⟨bp, 0, none⟩) ∧ f 1 = .int .i64 (s : Int) ∧ f 2 = .slice da D dc ∧ f 3 = .slice ra p.P.length rc ∧ f 9 = .slice (some ⟨bo, 0, none⟩) p.P.length p.P.length ∧ ∃ i : Nat, i ≤ p.R.length ∧ f 10 = .int .i64 (i : Nat) ∧ Hid (∃ O T1, RelO W bo p.P.length T1 O V ∧ NRk p s T i (fun _ _ => False) T1)
def nv2I (W : World) (p : Pg) (bp s : Nat) (da : Option Addr) (D dc : Nat) (ra : Option Addr) (rc bo i h : Nat) (T : Nat → List Tup) (fa : Option Addr) (fn fc : Nat) (out : List Tup) (f : Nat → Value) (V : World) : Prop := f 0 = .pointer (some ⟨bp, 0, none⟩) ∧ f 1 = .int .i64 (s : Int) ∧ f 2 = .slice da D dc ∧ f 3 = .slice ra p.P.length rc ∧ f 9 = .slice (some ⟨bo, 0, none⟩) p.P.length p.P.length ∧ f 10 = .int .i64 (i : Nat) ∧ f 11 = .int .i64 (h : Nat) ∧ f 12 = .slice fa fn fc ∧ ∃ j : Nat, j ≤ out.length ∧ f 13 = .int .i64 (j : Nat) ∧ Hid (∃ O T1, RelO W bo p.P.length T1 O V ∧ Rw tpl 4 (core O V) fa fn out ∧ NRk p s T i (fun q t => q = h ∧ t ∈ out.take j) T1)
attribute [local go_sem ↓] execOp_bslice
attribute [local go_sem] bslice36
set_option maxRecDepth 100000 in
theorem frame79n (f : Nat → Value) : frameN 79 f = #[f 0, f 1, f 2, f 3, f 4, f 5, f 6, f 7, f 8, f 9, f 10, f 11, f 12, f 13, f 14, f 15, f 16, f 17, f 18, f 19, f 20, f 21, f 22, f 23, f 24, f 25, f 26, f 27, f 28, f 29, f 30, f 31, f 32, f 33, f 34, f 35, f 36, f 37, f 38, f 39, f 40, f 41, f 42, f 43, f 44, f 45, f 46, f 47, f 48, f 49, f 50, f 51, f 52, f 53, f 54, f 55, f 56, f 57, f 58, f 59, f 60, f 61, f 62, f 63, f 64, f 65, f 66, f 67, f 68, f 69, f 70, f 71, f 72, f 73, f 74, f 75, f 76, f 77, f 78] := by kernel_rfl
set_option maxRecDepth 20000 in
set_option maxHeartbeats 1000000 in
theorem naive_any (W : World) (bp : Nat) (p : Pg) (hpg : PgX W bp p) (hok : PgOk p) (s : Nat) (da : Option Addr) (D dc : Nat) (dom : List Int) (hdw : Rw encI 1 W da D dom) (hdi : DomI dom) (ra : Option Addr) (rc : Nat) (T : Nat → List Tup) (hR : RelR W ra p.P.length T) (hT : ∀ q, q < p.P.length → OutOk (T q)) (hDC : DomC p dom T) : Calls Try.prog 23 #[.pointer (some ⟨bp, 0, none⟩), .int .i64 (s : Int), .slice da D dc, .slice ra p.P.length rc] W (NaivePost W p s T) := by
  obtain ⟨Q, hQ⟩ : ∃ Q, Q = NaivePost W p s T := ⟨_, rfl⟩
  rw [← hQ]
  have HQ := hid_of hQ
  have HPG := hid_of hpg
  have HOK := hid_of hok
  have HDW := hid_of hdw
  have HDI := hid_of hdi
  have HRR := hid_of hR
  have HTO := hid_of hT
  have HDC := hid_of hDC
  have hN := hok.nP
  have hM := hok.nR
  have hco := copyOf_any W ra p.P.length rc T hR (by omega) (fun q hq => by have := outok_len (hT q hq); omega)
  have HCO := hid_of hco
  clear hQ hpg hok hdw hdi hR hT hDC hco
  go_enter Try.func23, Try.ntmps23
  go_wp2_with fail
  refine HCO.out.mono ?_
  rintro e V1 ⟨bo, O1, rfl, hO1⟩
  have HI0 : Hid (∃ O T1, RelO W bo p.P.length T1 O V1 ∧ NRk p s T 0 (fun _ _ => False) T1) := ⟨O1, T, hO1, NRk.start HTO.out⟩
  clear HCO hO1
  dsimp only
  go_upto_region 3 with fail
  refine wp_loop_f 79 (nv1I W p bp s da D dc ra rc bo T) (fun f _ => p.R.length - (intOf (f 10)).toNat) rfl ⟨rfl, rfl, rfl, rfl, rfl, 0, by omega, rfl, HI0⟩ ?_
  clear HI0
  intro F V hrel
  obtain ⟨f0, f1, f2, f3, f9, i, hi, f10, HI⟩ := hrel
  have H10 := hid_of f10
  rw [frame79n, f0, f1, f2, f3, f9, f10]
  clear f0 f1 f2 f3 f9 f10
  obtain ⟨O, T1, hO, hNR⟩ := HI.out
  have hxV := hO.ext
  obtain ⟨aR, cR, Cb, e1, e2, e3, -⟩ := pgb_rl (HPG.out.ext hxV)
  have zCb1 : 1 < Cb.length := by omega
  have zCb2 : 2 < Cb.length := by omega
  by_cases hin : i < p.R.length
  · have hin' : (i : Int) < (p.R.length : Int) := by omega
    obtain ⟨r, hr⟩ : ∃ r, p.R[i]? = some r := ⟨_, List.getElem?_eq_getElem hin⟩
    obtain ⟨cR', Cb', CR, bR, m1, m2, m3, m4, m5, m6, m7⟩ := pgb_rule (HPG.out.ext hxV) hr
    have zCb'1 : 1 < Cb'.length := by omega
    obtain rfl : Cb' = Cb := Option.some.inj (m1.symm.trans e1)
    rw [m3] at e3
    injection e3 with e3
    injection e3 with e3 _ e3'
    subst e3 e3'
    obtain ⟨h, hh, hhP⟩ : ∃ h : Nat, r.head.pred = (h : Int) ∧ h < p.P.length := by
      obtain ⟨q, x, g1, g2, _⟩ := HOK.out.head i r hr
      exact ⟨q, g1, (List.getElem?_eq_some_iff.1 g2).1⟩
    have hhp : hP p i = h := by
      show (hdP p i).pred.toNat = h
      rw [hdP_some hr, hh, Int.toNat_natCast]
    have m8 : nth CR (i * 10) = some (.int .i64 (h : Int)) := by
      rw [← hh]
      have := nth_in m7 (GRule.head_pred_get r) (by omega)
      rwa [Nat.add_zero] at this
    obtain ⟨cP, Cb2, CP, bP, u1, u2, u3, u4, u5, -, u7, -⟩ := pgb_str (HPG.out.ext hxV) hhP
    have zCb20 : 0 < Cb2.length := by omega
    obtain rfl : Cb2 = Cb' := Option.some.inj (u1.symm.trans e1)
    have i0 : (0 : Int) ≤ (i : Int) := by omega
    have i2 : ((i : Int)).toNat = i := by omega
    have i5 : i * 10 < CR.length := by omega
    have h0 : (0 : Int) ≤ (h : Int) := by omega
    have h1 : (h : Int) < (p.P.length : Int) := by omega
    have h2 : ((h : Int)).toNat = h := by omega
    have h5 : h * 3 + 2 < CP.length := by omega
    by_cases hst : strP p h = (s : Int)
    · rw [hst] at u7
      have hjb : i ∈ jobsOf p s := (mem_jobs hr).2 (by rw [hhp]; exact hst)
      have hcs := cons_any V bp p (HPG.out.ext hxV) HOK.out i r hr da D dc dom (HDW.out.grow hxV) HDI.out ra rc T (HRR.out.ext hxV) HTO.out HDC.out
      have HCS := hid_of hcs
      have HO := hid_of hO
      have HNR := hid_of hNR
      have HJB := hid_of hjb
      have HHP := hid_of hhp
      have HR' := hid_of hr
      clear HI hO hNR hcs hjb hst m7 hxV hr hhp m2 u1
      go_wp2_with fail
      refine HCS.out.mono ?_
      rintro e V2 ⟨fa, fn, fc, out, rfl, hou, hoo, hmem⟩
      have hfn := hou.2.2
      subst hfn
      have HI0 : Hid (∃ O T1, RelO W bo p.P.length T1 O V2 ∧ Rw tpl 4 (core O V2) fa out.length out ∧ NRk p s T i (fun q t => q = h ∧ t ∈ out.take 0) T1) := ⟨_, T1, HO.out.grow hou.2.1, outs_core hou, HNR.out.enter⟩
      have HOO := hid_of hoo
      have HME := hid_of hmem
      have hol : out.length ≤ 4294967296 := outok_len hoo
      clear HCS hou hoo hmem HO HNR e1 m1 m5 u4
      dsimp only
      go_upto_region 9 with fail
      refine wp_loop_f 79 (nv2I W p bp s da D dc ra rc bo i h T fa out.length fc out) (fun f _ => out.length - (intOf (f 13)).toNat) rfl ⟨rfl, rfl, rfl, rfl, rfl, rfl, rfl, rfl, 0, by omega, rfl, HI0⟩ ?_
      clear HI0
      intro F2 V3 hrel
      obtain ⟨f0, f1, f2, f3, f9, f10, f11, f12, j, hj, f13, HI⟩ := hrel
      have H13 := hid_of f13
      rw [frame79n, f0, f1, f2, f3, f9, f10, f11, f12, f13]
      clear f0 f1 f2 f3 f9 f10 f11 f12 f13
      obtain ⟨O3, T3, hO3, hw3, hN3⟩ := HI.out
      by_cases hin2 : j < out.length
      · have hin2' : (j : Int) < (out.length : Int) := by omega
        obtain ⟨t, ht⟩ : ∃ t, out[j]? = some t := ⟨_, List.getElem?_eq_getElem hin2⟩
        obtain ⟨bt, Ct, rfl, hCt, hct, _, ut⟩ := tup_at hw3 ht
        obtain ⟨hCt, hOt⟩ := core_blk hCt
        obtain ⟨C, ta, tn, tc, q1, q2, q3, q4⟩ := hO3.at hhP
        have hTl : (T3 h).length ≤ 4294967296 := outok_len (hN3 h hhP).1
        have hme := memberM_any V3.drew ta tn tc (T3 h) (q4.grow (extends_drew (ext_Ext (Ext.refl _)))) (by rw [← q4.1]; omega) t
        have HMB := hid_of hme
        have HO3 := hid_of hO3
        have HW3 := hid_of hw3
        have HN3 := hid_of hN3
        have HT := hid_of ht
        have HOT := hid_of hOt
        have j0 : (0 : Int) ≤ (j : Int) := by omega
        have j2 : ((j : Int)).toNat = j := by omega
        have j5 : j * 4 < Ct.length := by omega
        have hto : TOk t := HOO.out.2 t (List.mem_of_getElem? ht)
        have HTK := hid_of hto
        clear HI hO3 hw3 hN3 hme q4 ht hOt hto
        go_upto_region 11 with fail
        refine wp_region_held_drew (S := fun W' => blk W' bo = some C ∧ blk W' bt = some Ct) (by kernel_rfl) ⟨q1, hCt⟩ (fun hHeld => ?_)
        refine wpAnyH_take (i := 0) (oi := ⟨_, _, _, _, _, _⟩) (v := ?_) rfl (by kernel_rfl) (by kernel_rfl) (by kernel_rfl) (fun _ _ _ h => h) (Or.inl ⟨by rfl, ?_⟩) (by assumption) ?_
        rotate_left 1
        · intro W' hSw
          obtain ⟨hS1, hS2⟩ := hSw
          go_simp
          try with_reducible rfl
        try simp only [Act.put, List.setIfInBounds_toArray, List.set_cons_zero, List.set_cons_succ]
        refine wpAnyH_take (i := 1) (oi := ⟨_, _, _, _, _, _⟩) (v := ?_) rfl (by kernel_rfl) (by kernel_rfl) (by kernel_rfl) (fun _ _ _ h => h) (Or.inl ⟨by rfl, ?_⟩) (by assumption) ?_
        rotate_left 1
        · intro W' hSw
          obtain ⟨hS1, hS2⟩ := hSw
          go_simp
          try with_reducible rfl
        try simp only [Act.put, List.setIfInBounds_toArray, List.set_cons_zero, List.set_cons_succ]
        refine wpAnyH_take (i := 2) (oi := ⟨_, _, _, _, _, _⟩) (v := ?_) rfl (by kernel_rfl) (by kernel_rfl) (by kernel_rfl) (fun _ _ _ h => h) (Or.inl ⟨by rfl, ?_⟩) (by assumption) ?_
        rotate_left 1
        · intro W' hSw
          obtain ⟨hS1, hS2⟩ := hSw
          go_simp
          try with_reducible rfl
        try simp only [Act.put, List.setIfInBounds_toArray, List.set_cons_zero, List.set_cons_succ]
        refine wpAnyH_take (i := 3) (oi := ⟨_, _, _, _, _, _⟩) (v := ?_) rfl (by kernel_rfl) (by kernel_rfl) (by kernel_rfl) (fun _ _ _ h => h) (Or.inl ⟨by rfl, ?_⟩) (by assumption) ?_
        rotate_left 1
        · intro W' hSw
          obtain ⟨hS1, hS2⟩ := hSw
          go_simp
          try with_reducible rfl
        try simp only [Act.put, List.setIfInBounds_toArray, List.set_cons_zero, List.set_cons_succ]
        refine wpAnyH_take (i := 4) (oi := ⟨_, _, _, _, _, _⟩) (v := ?_) rfl (by kernel_rfl) (by kernel_rfl) (by kernel_rfl) (fun _ _ _ h => h) (Or.inl ⟨by rfl, ?_⟩) (by assumption) ?_
        rotate_left 1
        · intro W' hSw
          obtain ⟨hS1, hS2⟩ := hSw
          go_simp
          try with_reducible rfl
        try simp only [Act.put, List.setIfInBounds_toArray, List.set_cons_zero, List.set_cons_succ]
        refine wpAnyH_take (i := 5) (oi := ⟨_, _, _, _, _, _⟩) (v := ?_) rfl (by kernel_rfl) (by kernel_rfl) (by kernel_rfl) (fun _ _ _ h => h) (Or.inl ⟨by rfl, ?_⟩) (by assumption) ?_
        rotate_left 1
        · intro W' hSw
          obtain ⟨hS1, hS2⟩ := hSw
          go_simp
          try with_reducible rfl
        try simp only [Act.put, List.setIfInBounds_toArray, List.set_cons_zero, List.set_cons_succ]
        refine wpAnyH_take (i := 6) (oi := ⟨_, _, _, _, _, _⟩) (v := ?_) rfl (by kernel_rfl) (by kernel_rfl) (by kernel_rfl) (fun _ _ _ h => h) (Or.inl ⟨by rfl, ?_⟩) (by assumption) ?_
        rotate_left 1
        · intro W' hSw
          obtain ⟨hS1, hS2⟩ := hSw
          go_simp
          try with_reducible rfl
        try simp only [Act.put, List.setIfInBounds_toArray, List.set_cons_zero, List.set_cons_succ]
        refine wpAnyH_take (i := 7) (oi := ⟨_, _, _, _, _, _⟩) (v := ?_) rfl (by kernel_rfl) (by kernel_rfl) (by kernel_rfl) (fun _ _ _ h => h) (Or.inl ⟨by rfl, ?_⟩) (by assumption) ?_
        rotate_left 1
        · intro W' hSw
          obtain ⟨hS1, hS2⟩ := hSw
          go_simp
          try with_reducible rfl
        try simp only [Act.put, List.setIfInBounds_toArray, List.set_cons_zero, List.set_cons_succ]
        refine wpAnyH_ready (rs := [8]) (by kernel_rfl) (by simp) ?_
        refine AllReadyH.cons (o := ⟨_, _, _, _, _, _⟩) rfl (fun K' hK => ?_) AllReadyH.nil
        go_simp
        refine HMB.out.mono ?_
        rintro en V4 ⟨rfl, hx4⟩
        have HX4 := hid_of hx4
        have z1 : blk V4 bo = some C := (hx4.blk (blk_lt q1)).trans q1
        have z2 : blk V4 bt = some Ct := (hx4.blk (blk_lt hCt)).trans hCt
        clear hx4 HMB
        dsimp only
        refine hK.out _ _ ⟨z1, z2⟩ (fun hHeld => ?_)
        clear hK K'
        try simp only [Act.put, List.setIfInBounds_toArray, List.set_cons_zero, List.set_cons_succ]
        refine wpAnyH_take (i := 9) (oi := ⟨_, _, _, _, _, _⟩) (v := ?_) rfl (by kernel_rfl) (by kernel_rfl) (by kernel_rfl) (fun _ _ _ h => h) (Or.inl ⟨by rfl, ?_⟩) (by assumption) ?_
        rotate_left 1
        · intro W' hSw
          obtain ⟨hS1, hS2⟩ := hSw
          go_simp
          try with_reducible rfl
        try simp only [Act.put, List.setIfInBounds_toArray, List.set_cons_zero, List.set_cons_succ]
        refine wpAnyH_done (by kernel_rfl) ?_ _
        clear hHeld
        by_cases hm : t ∈ T3 h
        · have hdm : decide (t ∈ T3 h) = true := decide_eq_true hm
          have HI' : Hid (∃ O T1, RelO W bo p.P.length T1 O V4 ∧ Rw tpl 4 (core O V4) (some ⟨bt, 0, none⟩) out.length out ∧ NRk p s T i (fun q t => q = h ∧ t ∈ out.take (j + 1)) T1) := by
            have hx := (extends_drew (ext_Ext (Ext.refl V3))).trans HX4.out
            exact ⟨_, T3, HO3.out.grow hx, HW3.out.grow (core_fr (Fr.grow (L := isR) hx) isR_no), HN3.out.have' HT.out hm hhP⟩
          try rw [hdm]
          clear HO3 HW3 HN3 HT HOT HTK HX4 hdm hm z1 z2 q1 hCt
          go_wp2_with fail
          refine ⟨rfl, rfl, ⟨rfl, rfl, rfl, rfl, rfl, rfl, rfl, rfl, j + 1, by omega, ?_, HI'⟩, ?_⟩
          · show Value.int .i64 _ = _
            go_num
          · show out.length - (intOf (Value.int .i64 _)).toNat < out.length - (intOf (F2 13)).toNat
            rw [H13.out]
            simp [intOf]; omega
        · have hdm : decide (t ∈ T3 h) = false := decide_eq_false hm
          have hx := (extends_drew (ext_Ext (Ext.refl V3))).trans HX4.out
          have hO4 := (HO3.out.grow hx).grow (extends_drew (ext_Ext (Ext.refl V4)))
          have hw4 : Rw tpl 4 (core (lab (lab O3 V3.heap.size .no) V4.heap.size .no) V4.drew) (some ⟨bt, 0, none⟩) out.length out := (HW3.out.grow (core_fr (Fr.grow (L := isR) hx) isR_no)).grow (core_fr (Fr.grow (L := isR) (extends_drew (ext_Ext (Ext.refl V4)))) isR_no)
          obtain ⟨O4, hO4d⟩ : ∃ O4, O4 = lab (lab O3 V3.heap.size .no) V4.heap.size .no := ⟨_, rfl⟩
          rw [← hO4d] at hO4 hw4
          have hOt4 : O4 bt = .no := by
            have hl3 := blk_lt hCt
            have hs4 : V3.heap.size ≤ V4.heap.size := hx.size
            rw [hO4d, lab_lt (by omega), lab_lt hl3]; exact HOT.out
          obtain ⟨C2, oa, om, oc, a', c', V5, O5, y1, y2, y3, hrun, y5, y6, y7, y8, y9⟩ := hO4.app hhP t (by omega)
          have y1' : blk V4 bo = some C2 := y1
          obtain rfl : C2 = C := Option.some.inj (y1'.symm.trans z1)
          rw [q3] at y3
          injection y3 with y3
          injection y3 with y3a y3b y3c
          subst y3a y3b y3c
          have HI' : Hid (∃ O T1, RelO W bo p.P.length T1 O (put V5 bo (splice C2 h [.slice a' (tn + 1) c'])) ∧ Rw tpl 4 (core O (put V5 bo (splice C2 h [.slice a' (tn + 1) c']))) (some ⟨bt, 0, none⟩) out.length out ∧ NRk p s T i (fun q t => q = h ∧ t ∈ out.take (j + 1)) T1) := ⟨_, _, y9, hw4.grow (core_fr y8 isR_no), HN3.out.add HT.out hm HTK.out⟩
          have y2' : h + 1 ≤ C2.length := by omega
          have hbt5 : blk V5 bt = some Ct := y7.blk (W := V4.drew) z2 (by rw [hOt4]; exact isR_no)
          have nt : ¬ bt = bo := fun e => by
            have := hO4.lab
            rw [← e, hOt4] at this; cases this
          have hal : ∀ X, blk (V4.drew.alloc X) bt = some Ct := fun X => ((extends_alloc (ext_Ext (Ext.refl _)) X : V4.drew.Extends _).blk (blk_lt z2)).trans z2
          have hfin : ∀ X, blk (put V5 bo X) bt = some Ct := fun X => by rw [blk_put, if_neg nt]; exact hbt5
          have mbo : ¬ bo = V4.heap.size := Nat.ne_of_lt (blk_lt z1)
          try rw [hdm]
          clear HO3 HW3 HN3 HT HOT HTK HX4 hdm hm q1 hCt hO4 hw4 hO4d hOt4 y1 y7 y8 y9 nt hx y1' HME HOO
          go_upto_region 12 with fail
          refine wp_region_held_drew (S := fun W' => blk W' bt = some Ct) (by kernel_rfl) z2 (fun hHeld => ?_)
          refine wpAnyH_take (i := 0) (oi := ⟨_, _, _, _, _, _⟩) (v := ?_) rfl (by kernel_rfl) (by kernel_rfl) (by kernel_rfl) (fun _ _ _ h => h) (Or.inl ⟨by rfl, ?_⟩) (by assumption) ?_
          rotate_left 1
          · intro W' hSw
            go_simp
            try with_reducible rfl
          try simp only [Act.put, List.setIfInBounds_toArray, List.set_cons_zero, List.set_cons_succ]
          refine wpAnyH_take (i := 1) (oi := ⟨_, _, _, _, _, _⟩) (v := ?_) rfl (by kernel_rfl) (by kernel_rfl) (by kernel_rfl) (fun _ _ _ h => h) (Or.inl ⟨by rfl, ?_⟩) (by assumption) ?_
          rotate_left 1
          · intro W' hSw
            go_simp
            try with_reducible rfl
          try simp only [Act.put, List.setIfInBounds_toArray, List.set_cons_zero, List.set_cons_succ]
          refine wpAnyH_take (i := 2) (oi := ⟨_, _, _, _, _, _⟩) (v := ?_) rfl (by kernel_rfl) (by kernel_rfl) (by kernel_rfl) (fun _ _ _ h => h) (Or.inl ⟨by rfl, ?_⟩) (by assumption) ?_
          rotate_left 1
          · intro W' hSw
            go_simp
            try with_reducible rfl
          try simp only [Act.put, List.setIfInBounds_toArray, List.set_cons_zero, List.set_cons_succ]
          refine wpAnyH_take (i := 3) (oi := ⟨_, _, _, _, _, _⟩) (v := ?_) rfl (by kernel_rfl) (by kernel_rfl) (by kernel_rfl) (fun _ _ _ h => h) (Or.inl ⟨by rfl, ?_⟩) (by assumption) ?_
          rotate_left 1
          · intro W' hSw
            go_simp
            try with_reducible rfl
          try simp only [Act.put, List.setIfInBounds_toArray, List.set_cons_zero, List.set_cons_succ]
          refine wpAnyH_take (i := 4) (oi := ⟨_, _, _, _, _, _⟩) (v := ?_) rfl (by kernel_rfl) (by kernel_rfl) (by kernel_rfl) (fun _ _ _ h => h) (Or.inl ⟨by rfl, ?_⟩) (by assumption) ?_
          rotate_left 1
          · intro W' hSw
            go_simp
            try with_reducible rfl
          try simp only [Act.put, List.setIfInBounds_toArray, List.set_cons_zero, List.set_cons_succ]
          refine wpAnyH_take (i := 6) (oi := ⟨_, _, _, _, _, _⟩) (v := ?_) rfl (by kernel_rfl) (by kernel_rfl) (by kernel_rfl) (fun _ _ _ h => h) (Or.inl ⟨by rfl, ?_⟩) (by assumption) ?_
          rotate_left 1
          · intro W' hSw
            go_simp
            try with_reducible rfl
          try simp only [Act.put, List.setIfInBounds_toArray, List.set_cons_zero, List.set_cons_succ]
          refine wpAnyH_take (i := 7) (oi := ⟨_, _, _, _, _, _⟩) (v := ?_) rfl (by kernel_rfl) (by kernel_rfl) (by kernel_rfl) (fun _ _ _ h => h) (Or.inl ⟨by rfl, ?_⟩) (by assumption) ?_
          rotate_left 1
          · intro W' hSw
            go_simp
            try with_reducible rfl
          try simp only [Act.put, List.setIfInBounds_toArray, List.set_cons_zero, List.set_cons_succ]
          refine wpAnyH_take (i := 8) (oi := ⟨_, _, _, _, _, _⟩) (v := ?_) rfl (by kernel_rfl) (by kernel_rfl) (by kernel_rfl) (fun _ _ _ h => h) (Or.inl ⟨by rfl, ?_⟩) (by assumption) ?_
          rotate_left 1
          · intro W' hSw
            go_simp
            try with_reducible rfl
          try simp only [Act.put, List.setIfInBounds_toArray, List.set_cons_zero, List.set_cons_succ]
          refine wpAnyH_take (i := 9) (oi := ⟨_, _, _, _, _, _⟩) (v := ?_) rfl (by kernel_rfl) (by kernel_rfl) (by kernel_rfl) (fun _ _ _ h => h) (Or.inl ⟨by rfl, ?_⟩) (by assumption) ?_
          rotate_left 1
          · intro W' hSw
            go_simp
            try with_reducible rfl
          try simp only [Act.put, List.setIfInBounds_toArray, List.set_cons_zero, List.set_cons_succ]
          refine wpAnyH_ready (rs := [5, 10]) (by kernel_rfl) (by simp) ?_
          refine AllReadyH.cons (o := ⟨_, _, _, _, _, _⟩) rfl (fun K' hK => ?_) (AllReadyH.cons (o := ⟨_, _, _, _, _, _⟩) rfl (fun K' hK => ?_) AllReadyH.nil)
          · go_simp
            refine hK.out _ _ z2 (fun hHeld => ?_)
            clear hK K'
            try simp only [Act.put, List.setIfInBounds_toArray, List.set_cons_zero, List.set_cons_succ]
            refine wpAnyH_ready (rs := [10]) (by kernel_rfl) (by simp) ?_
            refine AllReadyH.cons (o := ⟨_, _, _, _, _, _⟩) rfl (fun K' hK => ?_) AllReadyH.nil
            go_simp
            refine hK.out _ _ (hal _) (fun hHeld => ?_)
            clear hK K'
            try simp only [Act.put, List.setIfInBounds_toArray, List.set_cons_zero, List.set_cons_succ]
            refine wpAnyH_ready (rs := [11]) (by kernel_rfl) (by simp) ?_
            refine AllReadyH.cons (o := ⟨_, _, _, _, _, _⟩) rfl (fun K' hK => ?_) AllReadyH.nil
            refine wp_append_run _ _ 36 rfl _ _ _ _ rfl rfl hrun ?_
            refine hK.out _ _ hbt5 (fun hHeld => ?_)
            clear hK K'
            try simp only [Act.put, List.setIfInBounds_toArray, List.set_cons_zero, List.set_cons_succ]
            refine wpAnyH_take (i := 12) (oi := ⟨_, _, _, _, _, _⟩) (v := ?_) rfl (by kernel_rfl) (by kernel_rfl) (by kernel_rfl) (fun _ _ _ h => h) (Or.inl ⟨by rfl, ?_⟩) (by assumption) ?_
            rotate_left 1
            · intro W' hSw
              go_simp
              try with_reducible rfl
            try simp only [Act.put, List.setIfInBounds_toArray, List.set_cons_zero, List.set_cons_succ]
            refine wpAnyH_ready (rs := [13]) (by kernel_rfl) (by simp) ?_
            refine AllReadyH.cons (o := ⟨_, _, _, _, _, _⟩) rfl (fun K' hK => ?_) AllReadyH.nil
            go_simp
            refine hK.out _ _ (hfin _) (fun hHeld => ?_)
            clear hK K'
            try simp only [Act.put, List.setIfInBounds_toArray, List.set_cons_zero, List.set_cons_succ]
            refine wpAnyH_done (by kernel_rfl) ?_ _
            clear hHeld hrun
            go_wp2_with fail
            refine ⟨rfl, rfl, ⟨rfl, rfl, rfl, rfl, rfl, rfl, rfl, rfl, j + 1, by omega, ?_, HI'⟩, ?_⟩
            · show Value.int .i64 _ = _
              go_num
            · show out.length - (intOf (Value.int .i64 _)).toNat < out.length - (intOf (F2 13)).toNat
              rw [H13.out]
              simp [intOf]; omega
          · go_simp
            refine hK.out _ _ (hal _) (fun hHeld => ?_)
            clear hK K'
            try simp only [Act.put, List.setIfInBounds_toArray, List.set_cons_zero, List.set_cons_succ]
            refine wpAnyH_ready (rs := [5]) (by kernel_rfl) (by simp) ?_
            refine AllReadyH.cons (o := ⟨_, _, _, _, _, _⟩) rfl (fun K' hK => ?_) AllReadyH.nil
            go_simp
            refine hK.out _ _ (hal _) (fun hHeld => ?_)
            clear hK K'
            try simp only [Act.put, List.setIfInBounds_toArray, List.set_cons_zero, List.set_cons_succ]
            refine wpAnyH_ready (rs := [11]) (by kernel_rfl) (by simp) ?_
            refine AllReadyH.cons (o := ⟨_, _, _, _, _, _⟩) rfl (fun K' hK => ?_) AllReadyH.nil
            refine wp_append_run _ _ 36 rfl _ _ _ _ rfl rfl hrun ?_
            refine hK.out _ _ hbt5 (fun hHeld => ?_)
            clear hK K'
            try simp only [Act.put, List.setIfInBounds_toArray, List.set_cons_zero, List.set_cons_succ]
            refine wpAnyH_take (i := 12) (oi := ⟨_, _, _, _, _, _⟩) (v := ?_) rfl (by kernel_rfl) (by kernel_rfl) (by kernel_rfl) (fun _ _ _ h => h) (Or.inl ⟨by rfl, ?_⟩) (by assumption) ?_
            rotate_left 1
            · intro W' hSw
              go_simp
              try with_reducible rfl
            try simp only [Act.put, List.setIfInBounds_toArray, List.set_cons_zero, List.set_cons_succ]
            refine wpAnyH_ready (rs := [13]) (by kernel_rfl) (by simp) ?_
            refine AllReadyH.cons (o := ⟨_, _, _, _, _, _⟩) rfl (fun K' hK => ?_) AllReadyH.nil
            go_simp
            refine hK.out _ _ (hfin _) (fun hHeld => ?_)
            clear hK K'
            try simp only [Act.put, List.setIfInBounds_toArray, List.set_cons_zero, List.set_cons_succ]
            refine wpAnyH_done (by kernel_rfl) ?_ _
            clear hHeld hrun
            go_wp2_with fail
            refine ⟨rfl, rfl, ⟨rfl, rfl, rfl, rfl, rfl, rfl, rfl, rfl, j + 1, by omega, ?_, HI'⟩, ?_⟩
            · show Value.int .i64 _ = _
              go_num
            · show out.length - (intOf (Value.int .i64 _)).toNat < out.length - (intOf (F2 13)).toNat
              rw [H13.out]
              simp [intOf]; omega
      · obtain rfl : j = out.length := by omega
        have hin2' : ¬ ((out.length : Int) < (out.length : Int)) := by omega
        have HI' : Hid (∃ O T1, RelO W bo p.P.length T1 O V3 ∧ NRk p s T (i + 1) (fun _ _ => False) T1) := ⟨O3, T3, hO3, hN3.done HJB.out HHP.out HME.out⟩
        clear HI hO3 hw3 hN3
        go_wp2_with fail
        refine ⟨rfl, rfl, ⟨rfl, rfl, rfl, rfl, rfl, i + 1, by omega, ?_, HI'⟩, ?_⟩
        · show Value.int .i64 _ = _
          go_num
        · show p.R.length - (intOf (Value.int .i64 _)).toNat < p.R.length - (intOf (F 10)).toNat
          rw [H10.out]
          simp [intOf]; omega
    · have HI' : Hid (∃ O T1, RelO W bo p.P.length T1 O V ∧ NRk p s T (i + 1) (fun _ _ => False) T1) := ⟨O, T1, hO, hNR.skip (fun hj => hst (by rw [← hhp]; exact (mem_jobs hr).1 hj))⟩
      obtain ⟨sv, hsv⟩ : ∃ sv, sv = strP p h := ⟨_, rfl⟩
      rw [← hsv] at u7 hst
      clear HI hO hNR m7 hxV hr hhp m2 u1 hsv
      go_wp2_with fail
      refine ⟨rfl, rfl, ⟨rfl, rfl, rfl, rfl, rfl, i + 1, by omega, ?_, HI'⟩, ?_⟩
      · show Value.int .i64 _ = _
        go_num
      · show p.R.length - (intOf (Value.int .i64 _)).toNat < p.R.length - (intOf (F 10)).toNat
        rw [H10.out]
        simp [intOf]; omega
  · obtain rfl : i = p.R.length := by omega
    have hin' : ¬ ((p.R.length : Int) < (p.R.length : Int)) := by omega
    have HP : Hid (Q (.returned (.slice (some ⟨bo, 0, none⟩) p.P.length p.P.length)) V) := by
      show Q _ _
      rw [HQ.out]
      exact ⟨_, _, T1, rfl, hO.ext, hO.relN, hNR.fin⟩
    clear HI hO hNR hxV
    go_wp2_with fail
    try go_ret
    exact HP.out
end Go.Proofs.Qxb6500788a
