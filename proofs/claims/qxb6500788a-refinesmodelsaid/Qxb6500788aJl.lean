import Derived.Test.Qxb6500788aJk
import Derived.StillTailTactics
import Derived.Deep.QuietTactic
import Derived.BigQuiet
import Derived.Deep.RegionHeld
import Derived.Deep.CutRange
import Derived.Laws.ResultCell
import Derived.Laws.Rows
import Derived.DeepKeys
import Derived.DataBytes
import Derived.Laws.StructEq
import Derived.Laws.AppendOwn
import Derived.Laws.MakeOwn
set_option linter.unusedSimpArgs false
set_option linter.unusedVariables false
namespace Go.Proofs.Qxb6500788a
open Go.RowKit Go.Blk
attribute [local go_sem ↓] execOp_load execOp_store execOp_alloc
attribute [local go_sem] Try.ld24 Try.st24 Try.ld25 Try.st25 Try.ld3 Try.st3 Try.ld30 Try.st30 Try.ld36 Try.st36 Try.ld4 Try.st4 Try.ld41 Try.st41 Try.ld50 Try.st50 Try.ld40 Try.st40 Try.ld42 Try.st42 Try.ld89 Try.st89 Try.ld91 Try.st91 Try.ld56 Try.st56 Try.ld97 Try.st97 Try.ld98 Try.st98 Try.ld101 Try.st101 Try.ld104 Try.st104 Try.ld57 Try.st57 Try.ld130 Try.st130 Try.ld2 Try.st2 Try.ld5 Try.st5 Try.ld9 Try.st9 Try.ld12 Try.st12 Try.ld21 Try.st21 Try.ld22 Try.st22 Try.ld29 Try.st29 Try.ld33 Try.st33 Try.ld59 Try.st59 Try.ld62 Try.st62 Try.ld69 Try.st69 Try.ld94 Try.st94 Try.ld96 Try.st96 Try.ld129 Try.st129 Try.ld158 Try.st158 Try.ld162 Try.st162 Try.ld47 Try.st47 Try.ld44 Try.st44 Try.ld137 Try.st137 Try.ld145 Try.st145 Try.ld43 Try.st43 Try.ld27 Try.st27 Try.ld38 Try.st38 Try.ld46 Try.st46 Try.ld49 Try.st49 Try.ld52 Try.st52 Try.ld54 Try.st54 Try.ld61 Try.st61 Try.ld80 Try.st80 Try.ld87 Try.st87 Try.ld93 Try.st93 Try.ld100 Try.st100 Try.ld103 Try.st103 Try.ld106 Try.st106 Try.ld109 Try.st109 Try.ld132 Try.st132 Try.ld147 Try.st147 Try.al47 Try.al44 Try.al137 Try.al145 Try.al43 Try.al27 Try.al38 Try.al46 Try.al49 Try.al52 Try.al54 Try.al61 Try.al80 Try.al87 Try.al93 Try.al100 Try.al103 Try.al106 Try.al109 Try.al132 Try.al147
attribute [local go_sem] GProgram.length_enc GProgram.ok_enc GProgram.all_get GProgram.all_set GProgram.preds_get GProgram.preds_set GProgram.rules_get GProgram.rules_set GProgram.strata_get GProgram.strata_set Answer.length_enc Answer.ok_enc Answer.all_get Answer.all_set Answer.code_get Answer.code_set Answer.n_get Answer.n_set Answer.rows_get Answer.rows_set Term.length_enc Term.ok_enc Term.all_get Term.all_set Term.var_get Term.var_set Term.n_get Term.n_set Atom.length_enc Atom.ok_enc Atom.all_get Atom.all_set Atom.pred_get Atom.pred_set Atom.args_get Atom.args_set GRule.length_enc GRule.ok_enc GRule.all_get GRule.all_set GRule.head_get GRule.head_set GRule.body_get GRule.body_set GRule.head_pred_get GRule.head_pred_set GRule.head_args_get GRule.head_args_set GOp.length_enc GOp.ok_enc GOp.all_get GOp.all_set GOp.kind_get GOp.kind_set GOp.pred_get GOp.pred_set GOp.t_get GOp.t_set GOp.n_get GOp.n_set GOp.base_get GOp.base_set GOp.rule_get GOp.rule_set GOp.rule_head_get GOp.rule_head_set GOp.rule_body_get GOp.rule_body_set GOp.rule_head_pred_get GOp.rule_head_pred_set GOp.rule_head_args_get GOp.rule_head_args_set PredInfo.length_enc PredInfo.ok_enc PredInfo.all_get PredInfo.all_set PredInfo.arity_get PredInfo.arity_set PredInfo.base_get PredInfo.base_set PredInfo.stratum_get PredInfo.stratum_set GStats.length_enc GStats.ok_enc GStats.all_get GStats.all_set GStats.rounds_get GStats.rounds_set GStats.fired_get GStats.fired_set GStats.emitted_get GStats.emitted_set GStats.fresh_get GStats.fresh_set Literal.length_enc Literal.ok_enc Literal.all_get Literal.all_set Literal.neg_get Literal.neg_set Literal.atom_get Literal.atom_set Literal.atom_pred_get Literal.atom_pred_set Literal.atom_args_get Literal.atom_args_set Engine.length_enc Engine.ok_enc Engine.all_get Engine.all_set Engine.prog_get Engine.prog_set Engine.st_get Engine.st_set Engine.levels_get Engine.levels_set Engine.running_get Engine.running_set Engine.stratum_get Engine.stratum_set Engine.round_get Engine.round_set Engine.saved_get Engine.saved_set Engine.stats_get Engine.stats_set Engine.prog_preds_get Engine.prog_preds_set Engine.prog_rules_get Engine.prog_rules_set Engine.prog_strata_get Engine.prog_strata_set Engine.stats_rounds_get Engine.stats_rounds_set Engine.stats_fired_get Engine.stats_fired_set Engine.stats_emitted_get Engine.stats_emitted_set Engine.stats_fresh_get Engine.stats_fresh_set Level.length_enc Level.ok_enc Level.all_get Level.all_set Level.heads_get Level.heads_set Level.jobs_get Level.jobs_set Plan.length_enc Plan.ok_enc Plan.all_get Plan.all_set Plan.rule_get Plan.rule_set Plan.delta_get Plan.delta_set Plan.src_get Plan.src_set Job.length_enc Job.ok_enc Job.all_get Job.all_set Job.full_get Job.full_set Job.deltas_get Job.deltas_set Job.full_rule_get Job.full_rule_set Job.full_delta_get Job.full_delta_set Job.full_src_get Job.full_src_set GState.length_enc GState.ok_enc GState.all_get GState.all_set GState.prog_get GState.prog_set GState.base_get GState.base_set GState.shown_get GState.shown_set GState.prog_preds_get GState.prog_preds_set GState.prog_rules_get GState.prog_rules_set GState.prog_strata_get GState.prog_strata_set Store.length_enc Store.ok_enc Store.all_get Store.all_set Store.arity_get Store.arity_set Store.rows_get Store.rows_set Env.length_enc Env.ok_enc Env.all_get Env.all_set Env.val_get Env.val_set Env.set_get Env.set_set
attribute [local go_sem] size_put size_ext blk_put free_put blk_alloc free_alloc blk_drew free_drew blk_ext free_ext lookOr_some putOr_some segAt_some cellAt_some storeIn_some put_put put_alloc_new length_arr ok_arr_u8 ok_arr_u32 ok_arr_u64 ok_arr_i64 ok_arr_sl cellsV_agg cellsV_int cellsV_bool cellsV_string cellsV_pointer cellsV_slice cellsV_sl ok_int ok_bool ok_string ok_pointer ok_slice ok_sl toList_arr seg_arr set_arr nth_splice nth_splice0 seg_splice seg_splice0 splice_splice splice_splice0 length_splice_if
attribute [local go_sem ↓] execOp_box
attribute [local go_sem] box_run nth_arr_u8 put_arr_u8 blk_drewN free_drewN put_drewN blk_raw free_raw
/-- What the domain holds so far: lists below i whole, of list i the first j tuples, of tuple j the first c columns. -/
def DP (p : Pg) (T : Nat → List Tup) (dom : List Int) (i j c : Nat) : Prop := ∀ q m t k, q < p.P.length → (T q)[m]? = some t → k < arP p q → (q < i ∨ (q = i ∧ (m < j ∨ (m = j ∧ k < c)))) → tg t k ∈ dom
theorem DP.mono {p : Pg} {T : Nat → List Tup} {dom dom' : List Int} {i j c : Nat} (h : DP p T dom i j c) (hs : ∀ y ∈ dom, y ∈ dom') : DP p T dom' i j c := fun q m t k h1 h2 h3 h4 => hs _ (h q m t k h1 h2 h3 h4)
theorem DP.col {p : Pg} {T : Nat → List Tup} {dom : List Int} {i j c : Nat} {t : Tup} (h : DP p T dom i j c) (ht : (T i)[j]? = some t) : DP p T (insI dom (tg t c)) i j (c + 1) := fun q m u k h1 h2 h3 h4 => by
  by_cases hn : q < i ∨ (q = i ∧ (m < j ∨ (m = j ∧ k < c)))
  · exact mem_insI.2 (.inl (h q m u k h1 h2 h3 hn))
  · obtain ⟨rfl, rfl, rfl⟩ : q = i ∧ m = j ∧ k = c := by omega
    obtain rfl : u = t := Option.some.inj (h2.symm.trans ht)
    exact mem_insI.2 (.inr rfl)
theorem DP.row {p : Pg} {T : Nat → List Tup} {dom : List Int} {i j : Nat} (h : DP p T dom i j (arP p i)) : DP p T dom i (j + 1) 0 := fun q m u k h1 h2 h3 h4 => by
  refine h q m u k h1 h2 h3 ?_
  rcases h4 with h4 | ⟨rfl, h4⟩
  · exact .inl h4
  · refine .inr ⟨rfl, ?_⟩
    omega
theorem DP.list {p : Pg} {T : Nat → List Tup} {dom : List Int} {i : Nat} (h : DP p T dom i (T i).length 0) : DP p T dom (i + 1) 0 0 := fun q m u k h1 h2 h3 h4 => by
  refine h q m u k h1 h2 h3 ?_
  by_cases hq : q < i
  · exact .inl hq
  · obtain rfl : q = i := by omega
    exact .inr ⟨rfl, .inl (List.getElem?_eq_some_iff.1 h2).1⟩
theorem DP.fin {p : Pg} {T : Nat → List Tup} {dom : List Int} (h : DP p T dom p.P.length 0 0) : DomC p dom T := fun q hq t ht c hc => by
  obtain ⟨m, hm⟩ := List.mem_iff_getElem?.1 ht
  exact h q m t c hq hm hc (.inl hq)
def DRk (p : Pg) (dom : List Int) (i : Nat) : Prop := ∀ (k : Nat) (r : GRule), k < i → p.R[k]? = some r → ∀ c, c < arA p.P r.head → (tA r.head c).var = false → (tA r.head c).n ∈ dom
theorem DRk.mono {p : Pg} {dom dom' : List Int} {i : Nat} (h : DRk p dom i) (hs : ∀ y ∈ dom, y ∈ dom') : DRk p dom' i := fun k r h1 h2 c h3 h4 => hs _ (h k r h1 h2 c h3 h4)
theorem DRk.add {p : Pg} {dom dom' : List Int} {i : Nat} {r : GRule} (h : DRk p dom i) (hr : p.R[i]? = some r) (ha : AtD r.head (arA p.P r.head) dom dom') : DRk p dom' (i + 1) := fun k r' h1 h2 c h3 h4 => by
  by_cases hk : k = i
  · subst hk
    obtain rfl : r' = r := Option.some.inj (h2.symm.trans hr)
    exact ha.2.2 c h3 h4
  · exact ha.2.1 _ (h k r' (by omega) h2 c h3 h4)
/-- The domain's list in memory. -/
def DoS (W : World) (a : Option Addr) (n c : Nat) (L : List Int) (V : World) : Prop := ∃ O, IRow W.heap.size O 42 V a n c L ∧ Fr isI (fun _ => .no) W O V ∧ DomI L
theorem DoS.ext {W : World} {a : Option Addr} {n c : Nat} {L : List Int} {V : World} (h : DoS W a n c L V) : W.Extends V := by
  obtain ⟨O, _, h2, _⟩ := h
  exact h2.extends (ext_Ext (Ext.refl _)) (fun _ _ h => by cases h)
theorem DoS.drew {W : World} {a : Option Addr} {n c : Nat} {L : List Int} {V : World} (h : DoS W a n c L V) : DoS W a n c L V.drew := by
  obtain ⟨O, h1, h2, h3⟩ := h
  exact ⟨O, h1, h2.drew, h3⟩
theorem DoS.sym {W : World} {a : Option Addr} {n c : Nat} {L : List Int} {V : World} (h : DoS W a n c L V) {y : Int} (hy : 0 ≤ y ∧ y < 256) : Calls Try.prog 49 #[.slice a n c, .int .i64 y] V fun e V' => ∃ a' n' c', e = .returned (.slice a' n' c') ∧ DoS W a' n' c' (insI L y) V' := by
  have hx := h.ext
  obtain ⟨O, h1, h2, h3⟩ := h
  refine (addSym_any W.heap.size O V a n c L hx.size h1 (by have := h3.len; omega) y).mono ?_
  rintro e V' ⟨a', n', c', L', O', rfl, g1, g2, rfl⟩
  exact ⟨a', n', c', rfl, O', g1, h2.trans g2, h3.ins hy⟩
theorem DoS.atom {W : World} {a : Option Addr} {n c : Nat} {L : List Int} {V : World} (h : DoS W a n c L V) {bp : Nat} {p : Pg} (hpg : PgX W bp p) (hok : PgOk p) (at1 : Atom) (hf : AFit p.P at1) : Calls Try.prog 50 #[.slice a n c, .pointer (some ⟨bp, 0, none⟩), .agg at1.enc.toArray] V fun e V' => ∃ a' n' c' L', e = .returned (.slice a' n' c') ∧ DoS W a' n' c' L' V' ∧ AtD at1 (arA p.P at1) L L' := by
  have hx := h.ext
  obtain ⟨O, h1, h2, h3⟩ := h
  refine (atomSyms_any W.heap.size O V a n c L hx.size h1 h3 bp p (fun V' O' hf' => hpg.ext ((h2.trans hf').extends (ext_Ext (Ext.refl _)) (fun _ _ h => by cases h))) hok at1 hf).mono ?_
  rintro e V' ⟨a', n', c', L', O', rfl, g1, g2, g3⟩
  exact ⟨a', n', c', L', rfl, ⟨O', g1, h2.trans g2, g3.1⟩, g3⟩
def DomPost (W : World) (p : Pg) (T : Nat → List Tup) (e : Ending) (V : World) : Prop := ∃ a n c dom, e = .returned (.slice a n c) ∧ W.Extends V ∧ Rw encI 1 (newc W.heap.size V) a n dom ∧ DomI dom ∧ DomC p dom T ∧ DomR p dom
def dm1I (W : World) (p : Pg) (bp : Nat) (ra : Option Addr) (rc : Nat) (T : Nat → List Tup) (f : Nat → Value) (V : World) : Prop := f 0 = .pointer (some ⟨bp, 0, none⟩) ∧ f 1 = .slice ra p.P.length rc ∧ ∃ (i : Nat) (a : Option Addr) (n c : Nat) (L : List Int), i ≤ p.P.length ∧ f 5 = .slice a n c ∧ f 6 = .int .i64 (i : Nat) ∧ Hid (DoS W a n c L V ∧ DP p T L i 0 0)
def dm2I (W : World) (p : Pg) (bp : Nat) (ra : Option Addr) (rc : Nat) (T : Nat → List Tup) (i : Nat) (f : Nat → Value) (V : World) : Prop := f 0 = .pointer (some ⟨bp, 0, none⟩) ∧ f 1 = .slice ra p.P.length rc ∧ f 6 = .int .i64 (i : Nat) ∧ ∃ (j : Nat) (a : Option Addr) (n c : Nat) (L : List Int), j ≤ (T i).length ∧ f 5 = .slice a n c ∧ f 7 = .int .i64 (j : Nat) ∧ Hid (DoS W a n c L V ∧ DP p T L i j 0)
def dm3I (W : World) (p : Pg) (bp : Nat) (ra : Option Addr) (rc : Nat) (T : Nat → List Tup) (i j : Nat) (f : Nat → Value) (V : World) : Prop := f 0 = .pointer (some ⟨bp, 0, none⟩) ∧ f 1 = .slice ra p.P.length rc ∧ f 6 = .int .i64 (i : Nat) ∧ f 7 = .int .i64 (j : Nat) ∧ ∃ (k : Nat) (a : Option Addr) (n c : Nat) (L : List Int), k ≤ arP p i ∧ f 5 = .slice a n c ∧ f 8 = .int .i64 (k : Nat) ∧ Hid (DoS W a n c L V ∧ DP p T L i j k)
def dm4I (W : World) (p : Pg) (bp : Nat) (T : Nat → List Tup) (f : Nat → Value) (V : World) : Prop := f 0 = .pointer (some ⟨bp, 0, none⟩) ∧ ∃ (i : Nat) (a : Option Addr) (n c : Nat) (L : List Int), i ≤ p.R.length ∧ f 5 = .slice a n c ∧ f 9 = .int .i64 (i : Nat) ∧ Hid (DoS W a n c L V ∧ DomC p L T ∧ DRk p L i)
def dm5I (W : World) (p : Pg) (bp : Nat) (T : Nat → List Tup) (i : Nat) (f : Nat → Value) (V : World) : Prop := f 0 = .pointer (some ⟨bp, 0, none⟩) ∧ f 9 = .int .i64 (i : Nat) ∧ ∃ (j : Nat) (a : Option Addr) (n c : Nat) (L : List Int), j ≤ (p.L i).length ∧ f 5 = .slice a n c ∧ f 10 = .int .i64 (j : Nat) ∧ Hid (DoS W a n c L V ∧ DomC p L T ∧ DRk p L (i + 1))
theorem DomC.mono {p : Pg} {dom dom' : List Int} {T : Nat → List Tup} (h : DomC p dom T) (hs : ∀ y ∈ dom, y ∈ dom') : DomC p dom' T := fun q hq t ht c hc => hs _ (h q hq t ht c hc)
theorem arP_4 {p : Pg} (hok : PgOk p) {q : Nat} (hq : q < p.P.length) : (p.P.getD q ⟨0, false, 0⟩).arity = ((arP p q : Nat) : Int) ∧ arP p q ≤ 4 := by
  obtain ⟨x, hx⟩ : ∃ x, p.P[q]? = some x := ⟨_, List.getElem?_eq_getElem hq⟩
  have h := hok.ar x (List.mem_of_getElem? hx)
  have e : p.P.getD q ⟨0, false, 0⟩ = x := by rw [List.getD_eq_getElem?_getD, hx]; rfl
  unfold arP
  rw [e]
  omega
set_option maxRecDepth 100000 in
theorem frame98d (f : Nat → Value) : frameN 98 f = #[f 0, f 1, f 2, f 3, f 4, f 5, f 6, f 7, f 8, f 9, f 10, f 11, f 12, f 13, f 14, f 15, f 16, f 17, f 18, f 19, f 20, f 21, f 22, f 23, f 24, f 25, f 26, f 27, f 28, f 29, f 30, f 31, f 32, f 33, f 34, f 35, f 36, f 37, f 38, f 39, f 40, f 41, f 42, f 43, f 44, f 45, f 46, f 47, f 48, f 49, f 50, f 51, f 52, f 53, f 54, f 55, f 56, f 57, f 58, f 59, f 60, f 61, f 62, f 63, f 64, f 65, f 66, f 67, f 68, f 69, f 70, f 71, f 72, f 73, f 74, f 75, f 76, f 77, f 78, f 79, f 80, f 81, f 82, f 83, f 84, f 85, f 86, f 87, f 88, f 89, f 90, f 91, f 92, f 93, f 94, f 95, f 96, f 97] := by kernel_rfl
set_option maxRecDepth 20000 in
set_option maxHeartbeats 1000000 in
theorem domain_any (W : World) (bp : Nat) (p : Pg) (hpg : PgX W bp p) (hok : PgOk p) (ra : Option Addr) (rc : Nat) (T : Nat → List Tup) (hR : RelR W ra p.P.length T) (hT : RelI p T) : Calls Try.prog 17 #[.pointer (some ⟨bp, 0, none⟩), .slice ra p.P.length rc] W (DomPost W p T) := by
  obtain ⟨Q, hQ⟩ : ∃ Q, Q = DomPost W p T := ⟨_, rfl⟩
  rw [← hQ]
  have HQ := hid_of hQ
  have HPG := hid_of hpg
  have HOK := hid_of hok
  have HRR := hid_of hR
  have HTI := hid_of hT
  have hN := hok.nP
  have hM := hok.nR
  have HI0 : Hid (DoS W none 0 0 [] W ∧ DP p T [] 0 0 0) := ⟨⟨fun _ => .no, RowL.nil _ _ _ _ _ _, Fr.refl _ _ _, domI_nil⟩, fun q m t k h1 h2 h3 h4 => by omega⟩
  clear hQ hpg hok hR hT
  go_enter Try.func17, Try.ntmps17
  go_upto_region 3 with fail
  refine wp_loop_f 98 (dm1I W p bp ra rc T) (fun f _ => p.P.length - (intOf (f 6)).toNat) rfl ⟨rfl, rfl, 0, none, 0, 0, [], by omega, rfl, rfl, HI0⟩ ?_
  clear HI0
  intro F V hrel
  obtain ⟨f0, f1, i, a, n, c, L, hi, f5, f6, HI⟩ := hrel
  have H6 := hid_of f6
  rw [frame98d, f0, f1, f5, f6]
  clear f0 f1 f5 f6
  by_cases hin : i < p.P.length
  · have hin' : (i : Int) < (p.P.length : Int) := by omega
    have hti := outok_len (HTI.out i hin)
    have i0 : (0 : Int) ≤ (i : Int) := by omega
    have i2 : ((i : Int)).toNat = i := by omega
    go_upto_region 6 with fail
    refine wp_loop_f 98 (dm2I W p bp ra rc T i) (fun f _ => (T i).length - (intOf (f 7)).toNat) rfl ⟨rfl, rfl, rfl, 0, a, n, c, L, by omega, rfl, rfl, HI⟩ ?_
    clear HI
    clear a n c L
    intro F2 V2 hrel
    obtain ⟨f0, f1, f6, j, a, n, c, L, hj, f5, f7, HI⟩ := hrel
    have H7 := hid_of f7
    rw [frame98d, f0, f1, f5, f6, f7]
    clear f0 f1 f5 f6 f7
    have hx2 := HI.out.1.ext
    obtain ⟨br, Cr, ta, tn, tc, rfl, g1, g2, -, g3, g4⟩ := rel_at (HRR.out.ext hx2) hin
    have htn := g4.1
    subst htn
    by_cases hin2 : j < (T i).length
    · have hin2' : (j : Int) < ((T i).length : Int) := by omega
      obtain ⟨t, ht⟩ : ∃ t, (T i)[j]? = some t := ⟨_, List.getElem?_eq_getElem hin2⟩
      have hto : TOk t := (HTI.out i hin).2 t (List.mem_of_getElem? ht)
      obtain ⟨har, har4⟩ := arP_4 HOK.out hin
      have HT := hid_of ht
      have HTO := hid_of hto
      have HAR := hid_of har
      have j0 : (0 : Int) ≤ (j : Int) := by omega
      have j2 : ((j : Int)).toNat = j := by omega
      clear hx2 g4 ht hto har
      go_upto_region 9 with fail
      refine wp_loop_f 98 (dm3I W p bp (some ⟨br, 0, none⟩) rc T i j) (fun f _ => arP p i - (intOf (f 8)).toNat) rfl ⟨rfl, rfl, rfl, rfl, 0, a, n, c, L, by omega, rfl, rfl, HI⟩ ?_
      clear HI g1
      clear a n c L
      intro F3 V3 hrel
      obtain ⟨f0, f1, f6, f7, k, a, n, c, L, hk, f5, f8, HI⟩ := hrel
      have H8 := hid_of f8
      rw [frame98d, f0, f1, f5, f6, f7, f8]
      clear f0 f1 f5 f6 f7 f8
      have hx3 := HI.out.1.ext
      obtain ⟨cP, Cb, CP, bP, u1, u2, u3, u4, u5, -, -, u8⟩ := pgb_str (HPG.out.ext hx3) hin
      have zCb0 : 0 < Cb.length := by omega
      rw [HAR.out] at u8
      obtain ⟨ar, har⟩ : ∃ ar, ar = arP p i := ⟨_, rfl⟩
      rw [← har] at u8 har4 hk
      have h5 : i * 3 < CP.length := by omega
      by_cases hin3 : k < ar
      · have hin3' : (k : Int) < (ar : Int) := by omega
        obtain ⟨br', Cr', ta', tn', tc', e9, g1, g2', -, g3', g4⟩ := rel_at (HRR.out.ext hx3) hin
        injection e9 with e9; injection e9 with e9
        subst e9
        have htn := g4.1
        subst htn
        obtain ⟨bt, Ct, rfl, hCt, hct, _, un⟩ := tup_at g4 HT.out
        have uk : nth Ct (j * 4 + k) = some (.int .i64 (tg t k)) := nth_in un (nth_t t k (by omega)) (by omega)
        have hsy := HI.out.1.sym (HTO.out k (by omega))
        have HSY := hid_of hsy
        have HDP := hid_of HI.out.2
        have k0 : (0 : Int) ≤ (k : Int) := by omega
        have k1 : (k : Int) < 4 := by omega
        have k2 : ((k : Int)).toNat = k := by omega
        have k3 : k ≤ 3 := by omega
        have j5 : j * 4 + k < Ct.length := by omega
        have hARK := hid_of har
        clear HI hx3 g4 un hsy har
        go_wp2_with fail
        refine HSY.out.mono ?_
        rintro e V4 ⟨a', n', c', rfl, hds⟩
        have HI' : Hid (DoS W a' n' c' (insI L (tg t k)) V4 ∧ DP p T (insI L (tg t k)) i j (k + 1)) := ⟨hds, HDP.out.col HT.out⟩
        clear HSY hds g1 hCt u1 u4
        dsimp only
        go_wp2_with fail
        refine ⟨rfl, rfl, ⟨rfl, rfl, rfl, rfl, k + 1, a', n', c', _, by rw [← hARK.out]; omega, rfl, ?_, HI'⟩, ?_⟩
        · show Value.int .i64 _ = _
          go_num
        · show arP p i - (intOf (Value.int .i64 _)).toNat < arP p i - (intOf (F3 8)).toNat
          rw [H8.out, ← hARK.out]
          simp [intOf]; omega
      · obtain rfl : k = ar := by omega
        have hin3' : ¬ ((k : Int) < (k : Int)) := by omega
        have HI' : Hid (DoS W a n c L V3 ∧ DP p T L i (j + 1) 0) := by
          refine ⟨HI.out.1, ?_⟩
          have := HI.out.2
          rw [har] at this
          exact this.row
        clear HI hx3 har
        go_wp2_with fail
        refine ⟨rfl, rfl, ⟨rfl, rfl, rfl, j + 1, a, n, c, L, by omega, rfl, ?_, HI'⟩, ?_⟩
        · show Value.int .i64 _ = _
          go_num
        · show (T i).length - (intOf (Value.int .i64 _)).toNat < (T i).length - (intOf (F2 7)).toNat
          rw [H7.out]
          simp [intOf]; omega
    · obtain rfl : j = (T i).length := by omega
      have hin2' : ¬ (((T i).length : Int) < ((T i).length : Int)) := by omega
      have HI' : Hid (DoS W a n c L V2 ∧ DP p T L (i + 1) 0 0) := ⟨HI.out.1, HI.out.2.list⟩
      clear HI hx2 g4
      go_wp2_with fail
      refine ⟨rfl, rfl, ⟨rfl, rfl, i + 1, a, n, c, L, by omega, rfl, ?_, HI'⟩, ?_⟩
      · show Value.int .i64 _ = _
        go_num
      · show p.P.length - (intOf (Value.int .i64 _)).toNat < p.P.length - (intOf (F 6)).toNat
        rw [H6.out]
        simp [intOf]; omega
  · obtain rfl : i = p.P.length := by omega
    have hin' : ¬ ((p.P.length : Int) < (p.P.length : Int)) := by omega
    have HI4 : Hid (DoS W a n c L V ∧ DomC p L T ∧ DRk p L 0) := ⟨HI.out.1, HI.out.2.fin, fun k r h => absurd h (Nat.not_lt_zero _)⟩
    clear HI H6
    go_upto_region 13 with fail
    refine wp_loop_f 98 (dm4I W p bp T) (fun f _ => p.R.length - (intOf (f 9)).toNat) rfl ⟨rfl, 0, a, n, c, L, by omega, rfl, rfl, HI4⟩ ?_
    clear HI4
    clear a n c L
    intro F4 V4 hrel
    obtain ⟨f0, i, a, n, c, L, hi4, f5, f9, HI⟩ := hrel
    have H9 := hid_of f9
    rw [frame98d, f0, f5, f9]
    clear f0 f5 f9
    have hx4 := HI.out.1.ext
    obtain ⟨aR, cR, Cb, e1, e2, e3, -⟩ := pgb_rl (HPG.out.ext hx4)
    have zCb1 : 1 < Cb.length := by omega
    have zCb2 : 2 < Cb.length := by omega
    by_cases hin4 : i < p.R.length
    · have hin4' : (i : Int) < (p.R.length : Int) := by omega
      obtain ⟨r, hr⟩ : ∃ r, p.R[i]? = some r := ⟨_, List.getElem?_eq_getElem hin4⟩
      obtain ⟨cR', Cb', CR, bR, m1, m2, m3, m4, m5, m6, m7⟩ := pgb_rule (HPG.out.ext hx4) hr
      have zCb'1 : 1 < Cb'.length := by omega
      obtain rfl : Cb' = Cb := Option.some.inj (m1.symm.trans e1)
      rw [m3] at e3
      injection e3 with e3
      injection e3 with e3 _ e3'
      subst e3 e3'
      have m8 : seg CR (i * 10) 9 = r.head.enc := by
        have h1 := seg_in (p := 0) (m := 9) m7 (by omega)
        rw [Nat.add_zero] at h1
        rw [h1, GRule.head_get]
      have hat := HI.out.1.atom HPG.out HOK.out r.head (HOK.out.head i r hr)
      obtain ⟨AC, hAC⟩ : ∃ AC, AC = r.head.enc := ⟨_, rfl⟩
      have hA0 := Atom.length_enc r.head
      rw [← hAC] at m8 hat hA0
      have HAT := hid_of hat
      have HJ := hid_of HI.out.2
      have HR := hid_of hr
      have i0 : (0 : Int) ≤ (i : Int) := by omega
      have i2 : ((i : Int)).toNat = i := by omega
      have i5 : i * 10 + 9 ≤ CR.length := by omega
      clear HI hx4 hat hAC m7 m2
      go_wp2_with fail
      refine HAT.out.mono ?_
      rintro e V5 ⟨a', n', c', L', rfl, hds, had⟩
      have HI5 : Hid (DoS W a' n' c' L' V5 ∧ DomC p L' T ∧ DRk p L' (i + 1)) := ⟨hds, HJ.out.1.mono had.2.1, HJ.out.2.add HR.out had⟩
      clear HAT hds had HJ e1 m1 m5
      dsimp only
      have hb8 := HOK.out.b8 i r HR.out
      go_upto_region 17 with fail
      refine wp_loop_f 98 (dm5I W p bp T i) (fun f _ => (p.L i).length - (intOf (f 10)).toNat) rfl ⟨rfl, rfl, 0, a', n', c', L', by omega, rfl, rfl, HI5⟩ ?_
      clear HI5 m8 hA0 i5
      clear a' n' c' L' m6
      intro F5 V6 hrel
      obtain ⟨f0, f9, j, a', n', c', L', hj, f5, f10, HI⟩ := hrel
      have H10 := hid_of f10
      rw [frame98d, f0, f5, f9, f10]
      clear f0 f5 f9 f10
      have hx6 := HI.out.1.ext
      obtain ⟨cR2, Cb2, CR2, bR2, m1, m2, m3, m4, m5, m6, m7⟩ := pgb_rule (HPG.out.ext hx6) HR.out
      have zCb21 : 1 < Cb2.length := by omega
      obtain ⟨bL, oL, ba, bc, hsv, hAL⟩ : ∃ bL oL ba bc, Sl.val r.body = .slice ba (p.L i).length bc ∧ At Literal.enc 10 W bL oL ba (p.L i).length (p.L i) := by
        obtain ⟨aP, cP, aR, cR, Cb0, h1, hl0, n0, n1, n2, h2⟩ := HPG.out
        exact h2.2.2.2.2.2 i r HR.out
      have m9 : nth CR2 (i * 10 + 9) = some (.slice ba (p.L i).length bc) := by
        rw [← hsv]; exact nth_in m7 (GRule.body_get r) (by omega)
      have i7 : i * 10 + 9 < CR2.length := by omega
      by_cases hin5 : j < (p.L i).length
      · have hin5' : (j : Int) < ((p.L i).length : Int) := by omega
        obtain ⟨l, hl⟩ : ∃ l, (p.L i)[j]? = some l := ⟨_, List.getElem?_eq_getElem hin5⟩
        obtain ⟨CL, rfl, l1, l2, l3, l4, l5⟩ := lit_x (hAL.grw hx6) hl
        have hat := HI.out.1.atom HPG.out HOK.out l.atom (HOK.out.lits i r HR.out l (List.mem_of_getElem? hl))
        obtain ⟨AC2, hAC⟩ : ∃ AC2, AC2 = l.atom.enc := ⟨_, rfl⟩
        have hA0 := Atom.length_enc l.atom
        rw [← hAC] at l5 hat hA0
        have HAT := hid_of hat
        have HJ := hid_of HI.out.2
        have j0 : (0 : Int) ≤ (j : Int) := by omega
        have j2 : ((j : Int)).toNat = j := by omega
        have k9 : oL + j * 10 + 1 + 9 ≤ CL.length := by omega
        clear HI hx6 hat hAC m7 hAL hl l3 l4 hsv
        go_wp2_with fail
        refine HAT.out.mono ?_
        rintro e V7 ⟨a2, n2, c2, L2, rfl, hds, had⟩
        have HI' : Hid (DoS W a2 n2 c2 L2 V7 ∧ DomC p L2 T ∧ DRk p L2 (i + 1)) := ⟨hds, HJ.out.1.mono had.2.1, HJ.out.2.mono had.2.1⟩
        clear HAT hds had HJ m1 m5 l1
        dsimp only
        go_wp2_with fail
        refine ⟨rfl, rfl, ⟨rfl, rfl, j + 1, a2, n2, c2, L2, by omega, rfl, ?_, HI'⟩, ?_⟩
        · show Value.int .i64 _ = _
          go_num
        · show (p.L i).length - (intOf (Value.int .i64 _)).toNat < (p.L i).length - (intOf (F5 10)).toNat
          rw [H10.out]
          simp [intOf]; omega
      · obtain rfl : j = (p.L i).length := by omega
        have hin5' : ¬ (((p.L i).length : Int) < ((p.L i).length : Int)) := by omega
        clear hx6 m7 hAL hsv
        go_wp2_with fail
        refine ⟨rfl, rfl, ⟨rfl, i + 1, a', n', c', L', by omega, rfl, ?_, HI⟩, ?_⟩
        · show Value.int .i64 _ = _
          go_num
        · show p.R.length - (intOf (Value.int .i64 _)).toNat < p.R.length - (intOf (F4 9)).toNat
          rw [H9.out]
          simp [intOf]; omega
    · obtain rfl : i = p.R.length := by omega
      have hin4' : ¬ ((p.R.length : Int) < (p.R.length : Int)) := by omega
      have HP : Hid (Q (.returned (.slice a n c)) V4) := by
        show Q _ _
        rw [HQ.out]
        have h3 := HI.out.2.2
        have hd := HI.out.1
        obtain ⟨O, k1, k2, k3⟩ := hd
        exact ⟨a, n, c, L, rfl, hx4, k1.nw encI_len, k3, HI.out.2.1, fun k r hr c hc hv => h3 k r (List.getElem?_eq_some_iff.1 hr).1 hr c hc hv⟩
      clear HI hx4
      go_wp2_with fail
      try go_ret
      exact HP.out
end Go.Proofs.Qxb6500788a
