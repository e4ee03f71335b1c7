import Derived.Test.Qxb6500788aJf
import Derived.StillTailTactics
import Derived.Deep.QuietTactic
import Derived.BigQuiet
import Derived.Deep.RegionHeld
import Derived.Deep.CutRange
import Derived.Laws.ResultCell
import Derived.Laws.Rows
import Derived.DeepKeys
import Derived.DataBytes
import Derived.Laws.StructEq
import Derived.Laws.AppendOwn
import Derived.Laws.MakeOwn
set_option linter.unusedSimpArgs false
set_option linter.unusedVariables false
namespace Go.Proofs.Qxb6500788a
open Go.RowKit Go.Blk
attribute [local go_sem ↓] execOp_load execOp_store execOp_alloc
attribute [local go_sem] Try.ld24 Try.st24 Try.ld25 Try.st25 Try.ld3 Try.st3 Try.ld30 Try.st30 Try.ld36 Try.st36 Try.ld4 Try.st4 Try.ld41 Try.st41 Try.ld50 Try.st50 Try.ld40 Try.st40 Try.ld42 Try.st42 Try.ld89 Try.st89 Try.ld91 Try.st91 Try.ld56 Try.st56 Try.ld97 Try.st97 Try.ld98 Try.st98 Try.ld101 Try.st101 Try.ld104 Try.st104 Try.ld57 Try.st57 Try.ld130 Try.st130 Try.ld2 Try.st2 Try.ld5 Try.st5 Try.ld9 Try.st9 Try.ld12 Try.st12 Try.ld21 Try.st21 Try.ld22 Try.st22 Try.ld29 Try.st29 Try.ld33 Try.st33 Try.ld59 Try.st59 Try.ld62 Try.st62 Try.ld69 Try.st69 Try.ld94 Try.st94 Try.ld96 Try.st96 Try.ld129 Try.st129 Try.ld158 Try.st158 Try.ld162 Try.st162 Try.ld47 Try.st47 Try.ld44 Try.st44 Try.ld137 Try.st137 Try.ld145 Try.st145 Try.ld43 Try.st43 Try.ld27 Try.st27 Try.ld38 Try.st38 Try.ld46 Try.st46 Try.ld49 Try.st49 Try.ld52 Try.st52 Try.ld54 Try.st54 Try.ld61 Try.st61 Try.ld80 Try.st80 Try.ld87 Try.st87 Try.ld93 Try.st93 Try.ld100 Try.st100 Try.ld103 Try.st103 Try.ld106 Try.st106 Try.ld109 Try.st109 Try.ld132 Try.st132 Try.ld147 Try.st147 Try.al47 Try.al44 Try.al137 Try.al145 Try.al43 Try.al27 Try.al38 Try.al46 Try.al49 Try.al52 Try.al54 Try.al61 Try.al80 Try.al87 Try.al93 Try.al100 Try.al103 Try.al106 Try.al109 Try.al132 Try.al147
attribute [local go_sem] GProgram.length_enc GProgram.ok_enc GProgram.all_get GProgram.all_set GProgram.preds_get GProgram.preds_set GProgram.rules_get GProgram.rules_set GProgram.strata_get GProgram.strata_set Answer.length_enc Answer.ok_enc Answer.all_get Answer.all_set Answer.code_get Answer.code_set Answer.n_get Answer.n_set Answer.rows_get Answer.rows_set Term.length_enc Term.ok_enc Term.all_get Term.all_set Term.var_get Term.var_set Term.n_get Term.n_set Atom.length_enc Atom.ok_enc Atom.all_get Atom.all_set Atom.pred_get Atom.pred_set Atom.args_get Atom.args_set GRule.length_enc GRule.ok_enc GRule.all_get GRule.all_set GRule.head_get GRule.head_set GRule.body_get GRule.body_set GRule.head_pred_get GRule.head_pred_set GRule.head_args_get GRule.head_args_set GOp.length_enc GOp.ok_enc GOp.all_get GOp.all_set GOp.kind_get GOp.kind_set GOp.pred_get GOp.pred_set GOp.t_get GOp.t_set GOp.n_get GOp.n_set GOp.base_get GOp.base_set GOp.rule_get GOp.rule_set GOp.rule_head_get GOp.rule_head_set GOp.rule_body_get GOp.rule_body_set GOp.rule_head_pred_get GOp.rule_head_pred_set GOp.rule_head_args_get GOp.rule_head_args_set PredInfo.length_enc PredInfo.ok_enc PredInfo.all_get PredInfo.all_set PredInfo.arity_get PredInfo.arity_set PredInfo.base_get PredInfo.base_set PredInfo.stratum_get PredInfo.stratum_set GStats.length_enc GStats.ok_enc GStats.all_get GStats.all_set GStats.rounds_get GStats.rounds_set GStats.fired_get GStats.fired_set GStats.emitted_get GStats.emitted_set GStats.fresh_get GStats.fresh_set Literal.length_enc Literal.ok_enc Literal.all_get Literal.all_set Literal.neg_get Literal.neg_set Literal.atom_get Literal.atom_set Literal.atom_pred_get Literal.atom_pred_set Literal.atom_args_get Literal.atom_args_set Engine.length_enc Engine.ok_enc Engine.all_get Engine.all_set Engine.prog_get Engine.prog_set Engine.st_get Engine.st_set Engine.levels_get Engine.levels_set Engine.running_get Engine.running_set Engine.stratum_get Engine.stratum_set Engine.round_get Engine.round_set Engine.saved_get Engine.saved_set Engine.stats_get Engine.stats_set Engine.prog_preds_get Engine.prog_preds_set Engine.prog_rules_get Engine.prog_rules_set Engine.prog_strata_get Engine.prog_strata_set Engine.stats_rounds_get Engine.stats_rounds_set Engine.stats_fired_get Engine.stats_fired_set Engine.stats_emitted_get Engine.stats_emitted_set Engine.stats_fresh_get Engine.stats_fresh_set Level.length_enc Level.ok_enc Level.all_get Level.all_set Level.heads_get Level.heads_set Level.jobs_get Level.jobs_set Plan.length_enc Plan.ok_enc Plan.all_get Plan.all_set Plan.rule_get Plan.rule_set Plan.delta_get Plan.delta_set Plan.src_get Plan.src_set Job.length_enc Job.ok_enc Job.all_get Job.all_set Job.full_get Job.full_set Job.deltas_get Job.deltas_set Job.full_rule_get Job.full_rule_set Job.full_delta_get Job.full_delta_set Job.full_src_get Job.full_src_set GState.length_enc GState.ok_enc GState.all_get GState.all_set GState.prog_get GState.prog_set GState.base_get GState.base_set GState.shown_get GState.shown_set GState.prog_preds_get GState.prog_preds_set GState.prog_rules_get GState.prog_rules_set GState.prog_strata_get GState.prog_strata_set Store.length_enc Store.ok_enc Store.all_get Store.all_set Store.arity_get Store.arity_set Store.rows_get Store.rows_set Env.length_enc Env.ok_enc Env.all_get Env.all_set Env.val_get Env.val_set Env.set_get Env.set_set
attribute [local go_sem] size_put size_ext blk_put free_put blk_alloc free_alloc blk_drew free_drew blk_ext free_ext lookOr_some putOr_some segAt_some cellAt_some storeIn_some put_put put_alloc_new length_arr ok_arr_u8 ok_arr_u32 ok_arr_u64 ok_arr_i64 ok_arr_sl cellsV_agg cellsV_int cellsV_bool cellsV_string cellsV_pointer cellsV_slice cellsV_sl ok_int ok_bool ok_string ok_pointer ok_slice ok_sl toList_arr seg_arr set_arr nth_splice nth_splice0 seg_splice seg_splice0 splice_splice splice_splice0 length_splice_if
attribute [local go_sem ↓] execOp_box
attribute [local go_sem] box_run nth_arr_u8 put_arr_u8 blk_drewN free_drewN put_drewN blk_raw free_raw
theorem rep_cellsV (z : Value) (n : Nat) (C : List Value) (hl : C.length = n) (h : ∀ k, k < n → nth C k = some z) : C = List.replicate n z := by
  apply List.ext_getElem?
  intro i
  rw [List.getElem?_replicate]
  by_cases hi : i < n
  · rw [if_pos hi]; exact h i hi
  · rw [if_neg hi]; exact List.getElem?_eq_none (by omega)
theorem make130 (w : World) (n : Nat) (hn : n ≤ 100) : (makeOp 130 (.int .i64 (n : Int)) (.int .i64 (n : Int))).run Try.prog w = .ok (.value (.slice (some ⟨w.heap.size, 0, none⟩) n n)) (w.alloc (.cells (List.replicate n (Value.int .i64 0)).toArray 3)) := by
  obtain ⟨i, hi, hz, hsz, hby⟩ : ∃ i, Try.prog.info? 3 = some i ∧ i.zero = some (.int .i64 0) ∧ i.size = 1 ∧ i.bytes = 8 := by
    have hq : (Try.prog.info? 3).map (fun i => (i.zero, i.size, i.bytes)) = some (some (.int .i64 0), 1, 8) := by kernel_rfl
    cases hx : Try.prog.info? 3 with
    | none => rw [hx] at hq; simp at hq
    | some i =>
      rw [hx] at hq
      simp only [Option.map_some, Option.some.injEq, Prod.mk.injEq] at hq
      exact ⟨i, rfl, hq.1, hq.2.1, hq.2.2⟩
  have hr := run_make (P := Try.prog) w 130 3 i _ Try.underlying130 hi hz .i64 .i64 (n : Int) (n : Int) (by omega) (by omega) (by rw [hby]; omega) (by omega)
  have hC := rep_cellsV (.int .i64 0) n (madeCells (Value.int .i64 0).cells (n * 1)).toList (by rw [Array.length_toList, size_madeCells, Nat.mul_one]) (fun k hk => by
    unfold nth madeCells
    rw [Array.getElem?_toList, Array.getElem?_map, Array.getElem?_range]
    simp only [Nat.mul_one, hk, if_true, Option.map_some]
    simp [Value.cells, Nat.mod_one])
  rw [← hC]
  unfold makeOp
  rw [Sem.run_bind, hr, hsz, Int.toNat_natCast, Array.toArray_toList]
  rfl
/-- The digits' cells. -/
def dgE (ds : List Nat) : List Value := ds.map (fun d : Nat => Value.int .i64 (d : Int))
theorem dgE_len (ds : List Nat) : (dgE ds).length = ds.length := by unfold dgE; simp
theorem dgE_at {ds : List Nat} {i d : Nat} (h : ds[i]? = some d) : nth (dgE ds) i = some (.int .i64 (d : Int)) := by
  unfold dgE nth
  rw [List.getElem?_map, h]; rfl
theorem dgE_set {ds : List Nat} {i : Nat} (h : i < ds.length) (x : Nat) : splice (dgE ds) i [.int .i64 (x : Int)] = dgE (ds.set i x) := by
  apply List.ext_getElem?
  intro j
  have h1 := splice_nth (C := dgE ds) (v := .int .i64 (x : Int)) (by rw [dgE_len]; exact h) j
  have h2 : nth (splice (dgE ds) i [.int .i64 (x : Int)]) j = (splice (dgE ds) i [.int .i64 (x : Int)])[j]? := rfl
  rw [← h2, h1]
  unfold dgE nth
  rw [List.getElem?_map, List.getElem?_map, List.getElem?_set]
  by_cases hj : j = i
  · subst hj; rw [if_pos rfl, if_pos rfl, if_pos h]; rfl
  · rw [if_neg hj, if_neg (fun e => hj e.symm)]
theorem dgE_zero (v : Nat) : dgE (List.replicate v 0) = List.replicate v (Value.int .i64 0) := by unfold dgE; rw [List.map_replicate]; rfl
theorem dig_zero {D v : Nat} (h : v = 0 ∨ 0 < D) : Dig D v (List.replicate v 0) := ⟨by simp, fun d hd => by
  rcases h with rfl | h
  · cases hd
  · rw [List.eq_of_mem_replicate hd]; exact h⟩
/-- The tuples found, apart from the digits' block. -/
def CT (W2 : World) (bd : Nat) (a : Option Addr) (n c : Nat) (out : List Tup) (V : World) : Prop := W2.Extends V ∧ free V bd = true ∧ bd < V.heap.size ∧ W2.heap.size ≤ bd ∧ ∃ O : Own, RowL W2.heap.size O (.a 9 2) V 44 4 (.slice a n c) out.length (out.flatMap tpl) ∧ ¬ O bd = .a 9 2 ∧ ∀ k, k < W2.heap.size → ¬ O k = .a 9 2
theorem CT.ext {W2 : World} {bd : Nat} {a : Option Addr} {n c : Nat} {out : List Tup} {V V' : World} (h : CT W2 bd a n c out V) (he : V.Extends V') : CT W2 bd a n c out V' := by
  obtain ⟨h1, h2, h3, h4, O, h5, h6, h7⟩ := h
  refine ⟨h1.trans he, (free_of_heap (he.block bd h3)).trans h2, Nat.lt_of_lt_of_le h3 he.size, h4, lab O V.heap.size .no, h5.keep (fun k hk _ => ⟨he.block k hk, lab_lt hk⟩), ?_, fun k hk => ?_⟩
  · rw [lab_lt h3]; exact h6
  · rw [lab_lt (Nat.lt_of_lt_of_le hk h1.size)]; exact h7 k hk
theorem CT.put {W2 : World} {bd : Nat} {a : Option Addr} {n c : Nat} {out : List Tup} {V : World} (h : CT W2 bd a n c out V) (C : List Value) : CT W2 bd a n c out (Blk.put V bd C) := by
  obtain ⟨h1, h2, h3, h4, O, h5, h6, h7⟩ := h
  refine ⟨extends_put h1 h4 C, by rw [free_put]; exact h2, by rw [size_put]; exact h3, h4, O, h5.keep (fun k hk ho => ⟨?_, rfl⟩), h6, h7⟩
  rw [heap_put, if_neg (fun e : k = bd => h6 (e ▸ ho))]
theorem CT.rw {W2 : World} {bd : Nat} {a : Option Addr} {n c : Nat} {out : List Tup} {V : World} (h : CT W2 bd a n c out V) : Rw tpl 4 V a n out := by
  obtain ⟨h1, h2, h3, h4, O, h5, h6, h7⟩ := h
  exact (h5.rw tpl_len).1
theorem CT.app {W2 : World} {bd : Nat} {a : Option Addr} {n c : Nat} {out : List Tup} {V : World} (h : CT W2 bd a n c out V) (t : Tup) (hl : out.length ≤ 10000000000) : ∃ a' c' V', (Builtin.append_ #[36, 36] 36 #[.slice a n c, .slice (some ⟨V.heap.size, 0, none⟩) 1 1]).run Try.prog (V.alloc (.cells (arr i64v t).toArray 44)) = .ok (.slice a' (n + 1) c') V' ∧ CT W2 bd a' (n + 1) c' (out ++ [t]) V' ∧ blk V' bd = blk V bd := by
  obtain ⟨h1, h2, h3, h4, O, h5, h6, h7⟩ := h
  obtain ⟨a', c', V', hrun, hrow2, hfr⟩ := appL tpl 4 32 36 44 Try.underlying36 info44 tpl_len tpl_one (by omega) (by omega) 36 t h5 h1.size hl (arr i64v t).toArray rfl 1
  refine ⟨a', c', V', hrun, ⟨?_, (free_of_heap (hfr.block bd h3 h6)).trans h2, Nat.lt_of_lt_of_le h3 hfr.size, h4, _, hrow2, by rw [lab_lt h3]; exact h6, fun k hk => by rw [lab_lt (Nat.lt_of_lt_of_le hk h1.size)]; exact h7 k hk⟩, blk_of_heap (hfr.block bd h3 h6)⟩
  exact Fr.extends hfr h1 h7
theorem CT.outs {W W2 : World} {bd : Nat} {a : Option Addr} {n c : Nat} {out : List Tup} {V : World} (h : CT W2 bd a n c out V) (he : W.Extends W2) : Outs W V a n c out := by
  have hn := h.rw.1
  obtain ⟨h1, h2, h3, h4, O, h5, h6, h7⟩ := h
  exact ⟨row_base h5.1 he.size, he.trans h1, hn.symm⟩
/-- The variables of the head and of the body's first i literals. -/
structure VarsUp (p : Pg) (k i : Nat) (vars : List Int) : Prop where
  var : VarI vars
  hd : ∀ c, c < arA p.P (hdP p k) → (tA (hdP p k) c).var = true → (tA (hdP p k) c).n ∈ vars
  bd : ∀ j l, j < i → (p.L k)[j]? = some l → ∀ c, c < arA p.P l.atom → (tA l.atom c).var = true → (tA l.atom c).n ∈ vars
  of : ∀ y ∈ vars, (∃ c, c < arA p.P (hdP p k) ∧ (tA (hdP p k) c).var = true ∧ (tA (hdP p k) c).n = y) ∨ ∃ l ∈ p.L k, ∃ c, c < arA p.P l.atom ∧ (tA l.atom c).var = true ∧ (tA l.atom c).n = y
theorem VarsUp.start {p : Pg} {k : Nat} {vars : List Int} (h : AtV (hdP p k) (arA p.P (hdP p k)) [] vars) : VarsUp p k 0 vars :=
  ⟨h.1, h.2.2.1, fun j l hj => absurd hj (Nat.not_lt_zero _), fun y hy => (h.2.2.2 y hy).elim (fun h => by cases h) .inl⟩
theorem VarsUp.step {p : Pg} {k i : Nat} {vars vars' : List Int} (h : VarsUp p k i vars) {l : Literal} (hl : (p.L k)[i]? = some l) (ha : AtV l.atom (arA p.P l.atom) vars vars') : VarsUp p k (i + 1) vars' := by
  refine ⟨ha.1, fun c hc hv => ha.2.1 _ (h.hd c hc hv), fun j l' hj hl' c hc hv => ?_, fun y hy => ?_⟩
  · by_cases hji : j = i
    · subst hji
      obtain rfl : l' = l := Option.some.inj (hl'.symm.trans hl)
      exact ha.2.2.1 c hc hv
    · exact ha.2.1 _ (h.bd j l' (by omega) hl' c hc hv)
  · rcases ha.2.2.2 y hy with h1 | ⟨c, h1⟩
    · exact h.of y h1
    · exact .inr ⟨l, List.mem_of_getElem? hl, c, h1⟩
theorem VarsUp.fin {p : Pg} {k : Nat} {vars : List Int} (h : VarsUp p k (p.L k).length vars) : VarsOf p k vars :=
  ⟨h.var, h.hd, fun l hl c hc hv => by
    obtain ⟨j, hj⟩ := List.mem_iff_getElem?.1 hl
    exact h.bd j l (List.getElem?_eq_some_iff.1 hj).1 hj c hc hv, h.of⟩
/-- The substitution of these digits is dealt with. -/
def DoneD (p : Pg) (k : Nat) (vars dom : List Int) (T : Nat → List Tup) (out : List Tup) (es : List Nat) : Prop := BodyH p k (vS (valV vars dom es vars.length)) T → sT (hdP p k) (vS (valV vars dom es vars.length)) (arA p.P (hdP p k)) ∈ out
structure Cov (p : Pg) (k : Nat) (vars dom : List Int) (T : Nat → List Tup) (out : List Tup) (m : Nat) : Prop where
  ok : OutOk out
  snd : ∀ t ∈ out, Con p k (relF T) t
  all : ∀ es, Dig dom.length vars.length es → rk dom.length es < m → DoneD p k vars dom T out es
theorem Cov.start (p : Pg) (k : Nat) (vars dom : List Int) (T : Nat → List Tup) : Cov p k vars dom T [] 0 := ⟨outOk_nil, fun t h => (by cases h), fun es _ h => absurd h (Nat.not_lt_zero _)⟩
theorem Cov.step {p : Pg} (hok : PgOk p) {k : Nat} {r : GRule} (hr : p.R[k]? = some r) {vars dom : List Int} {T : Nat → List Tup} {out : List Tup} {ds : List Nat} (hv : VarI vars) (hd : DomI dom) (hD : Dig dom.length vars.length ds) (h : Cov p k vars dom T out (rk dom.length ds)) {out' : List Tup} {t : Tup} (ht : t = sT (hdP p k) (vS (valV vars dom ds vars.length)) (arA p.P (hdP p k)))
    (ho : (¬ (BodyH p k (vS (valV vars dom ds vars.length)) T ∧ t ∉ out) ∧ out' = out) ∨ (BodyH p k (vS (valV vars dom ds vars.length)) T ∧ t ∉ out ∧ out' = out ++ [t])) : Cov p k vars dom T out' (rk dom.length ds + 1) := by
  have key : ∀ out', (∀ x ∈ out, x ∈ out') → (BodyH p k (vS (valV vars dom ds vars.length)) T → t ∈ out') → ∀ es, Dig dom.length vars.length es → rk dom.length es < rk dom.length ds + 1 → DoneD p k vars dom T out' es := fun out' hs hc es he hlt => by
    by_cases hlt2 : rk dom.length es < rk dom.length ds
    · exact fun hb => hs _ (h.all es he hlt2 hb)
    · obtain rfl : es = ds := rk_inj (he.1.trans hD.1.symm) he.2 hD.2 (by omega)
      intro hb
      rw [← ht]; exact hc hb
  rcases ho with ⟨h1, rfl⟩ | ⟨h1, h2, rfl⟩
  · refine ⟨h.ok, h.snd, key _ (fun _ h => h) (fun hb => Classical.byContradiction fun hn => h1 ⟨hb, hn⟩)⟩
  · refine ⟨?_, fun x hx => ?_, key _ (fun x hx => List.mem_append_left _ hx) (fun _ => by simp)⟩
    · refine outok_app h.ok ⟨by simp, fun x hx => ?_⟩ (fun x hx => by rw [List.mem_singleton] at hx; rw [hx]; exact h2)
      rw [List.mem_singleton] at hx
      rw [hx, ht]
      exact head_tok hok hr (valV_ok hv hd _ (Nat.le_refl _))
    · rcases List.mem_append.1 hx with h3 | h3
      · exact h.snd x h3
      · rw [List.mem_singleton] at h3
        rw [h3]
        exact con_body.2 ⟨_, h1, ht⟩
theorem Cov.fin {p : Pg} (hok : PgOk p) {k : Nat} {r : GRule} (hr : p.R[k]? = some r) {vars dom : List Int} {T : Nat → List Tup} {out : List Tup} {m : Nat} (h : Cov p k vars dom T out m) (hV : VarsOf p k vars) (hDC : DomC p dom T) (hm : ∀ es, Dig dom.length vars.length es → rk dom.length es < m) (t : Tup) : t ∈ out ↔ Con p k (relF T) t := by
  refine ⟨h.snd t, fun hc => ?_⟩
  obtain ⟨ds, h1, h2, h3⟩ := con_digits hok hr hDC hV hc
  rw [h3]
  exact h.all ds h1 (hm ds h1) h2
/-- No value for a variable: no consequence. -/
theorem con_none {p : Pg} (hok : PgOk p) {k : Nat} {r : GRule} (hr : p.R[k]? = some r) {vars : List Int} {T : Nat → List Tup} (hV : VarsOf p k vars) (hDC : DomC p [] T) (hv : 0 < vars.length) (t : Tup) : ¬ Con p k (relF T) t := fun hc => by
  obtain ⟨ds, h1, _⟩ := con_digits hok hr hDC hV hc
  obtain ⟨d, hd⟩ : ∃ d, ds[0]? = some d := ⟨_, List.getElem?_eq_getElem (by rw [h1.1]; exact hv)⟩
  exact absurd (h1.2 d (List.mem_of_getElem? hd)) (Nat.not_lt_zero _)
end Go.Proofs.Qxb6500788a
