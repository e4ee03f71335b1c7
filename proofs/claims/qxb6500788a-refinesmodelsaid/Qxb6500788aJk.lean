import Derived.Test.Qxb6500788aJj
import Derived.StillTailTactics
import Derived.Deep.QuietTactic
import Derived.BigQuiet
import Derived.Deep.RegionHeld
import Derived.Deep.CutRange
import Derived.Laws.ResultCell
import Derived.Laws.Rows
import Derived.DeepKeys
import Derived.DataBytes
import Derived.Laws.StructEq
import Derived.Laws.AppendOwn
import Derived.Laws.MakeOwn
set_option linter.unusedSimpArgs false
set_option linter.unusedVariables false
namespace Go.Proofs.Qxb6500788a
open Go.RowKit Go.Blk
attribute [local go_sem ↓] execOp_load execOp_store execOp_alloc
attribute [local go_sem] Try.ld24 Try.st24 Try.ld25 Try.st25 Try.ld3 Try.st3 Try.ld30 Try.st30 Try.ld36 Try.st36 Try.ld4 Try.st4 Try.ld41 Try.st41 Try.ld50 Try.st50 Try.ld40 Try.st40 Try.ld42 Try.st42 Try.ld89 Try.st89 Try.ld91 Try.st91 Try.ld56 Try.st56 Try.ld97 Try.st97 Try.ld98 Try.st98 Try.ld101 Try.st101 Try.ld104 Try.st104 Try.ld57 Try.st57 Try.ld130 Try.st130 Try.ld2 Try.st2 Try.ld5 Try.st5 Try.ld9 Try.st9 Try.ld12 Try.st12 Try.ld21 Try.st21 Try.ld22 Try.st22 Try.ld29 Try.st29 Try.ld33 Try.st33 Try.ld59 Try.st59 Try.ld62 Try.st62 Try.ld69 Try.st69 Try.ld94 Try.st94 Try.ld96 Try.st96 Try.ld129 Try.st129 Try.ld158 Try.st158 Try.ld162 Try.st162 Try.ld47 Try.st47 Try.ld44 Try.st44 Try.ld137 Try.st137 Try.ld145 Try.st145 Try.ld43 Try.st43 Try.ld27 Try.st27 Try.ld38 Try.st38 Try.ld46 Try.st46 Try.ld49 Try.st49 Try.ld52 Try.st52 Try.ld54 Try.st54 Try.ld61 Try.st61 Try.ld80 Try.st80 Try.ld87 Try.st87 Try.ld93 Try.st93 Try.ld100 Try.st100 Try.ld103 Try.st103 Try.ld106 Try.st106 Try.ld109 Try.st109 Try.ld132 Try.st132 Try.ld147 Try.st147 Try.al47 Try.al44 Try.al137 Try.al145 Try.al43 Try.al27 Try.al38 Try.al46 Try.al49 Try.al52 Try.al54 Try.al61 Try.al80 Try.al87 Try.al93 Try.al100 Try.al103 Try.al106 Try.al109 Try.al132 Try.al147
attribute [local go_sem] GProgram.length_enc GProgram.ok_enc GProgram.all_get GProgram.all_set GProgram.preds_get GProgram.preds_set GProgram.rules_get GProgram.rules_set GProgram.strata_get GProgram.strata_set Answer.length_enc Answer.ok_enc Answer.all_get Answer.all_set Answer.code_get Answer.code_set Answer.n_get Answer.n_set Answer.rows_get Answer.rows_set Term.length_enc Term.ok_enc Term.all_get Term.all_set Term.var_get Term.var_set Term.n_get Term.n_set Atom.length_enc Atom.ok_enc Atom.all_get Atom.all_set Atom.pred_get Atom.pred_set Atom.args_get Atom.args_set GRule.length_enc GRule.ok_enc GRule.all_get GRule.all_set GRule.head_get GRule.head_set GRule.body_get GRule.body_set GRule.head_pred_get GRule.head_pred_set GRule.head_args_get GRule.head_args_set GOp.length_enc GOp.ok_enc GOp.all_get GOp.all_set GOp.kind_get GOp.kind_set GOp.pred_get GOp.pred_set GOp.t_get GOp.t_set GOp.n_get GOp.n_set GOp.base_get GOp.base_set GOp.rule_get GOp.rule_set GOp.rule_head_get GOp.rule_head_set GOp.rule_body_get GOp.rule_body_set GOp.rule_head_pred_get GOp.rule_head_pred_set GOp.rule_head_args_get GOp.rule_head_args_set PredInfo.length_enc PredInfo.ok_enc PredInfo.all_get PredInfo.all_set PredInfo.arity_get PredInfo.arity_set PredInfo.base_get PredInfo.base_set PredInfo.stratum_get PredInfo.stratum_set GStats.length_enc GStats.ok_enc GStats.all_get GStats.all_set GStats.rounds_get GStats.rounds_set GStats.fired_get GStats.fired_set GStats.emitted_get GStats.emitted_set GStats.fresh_get GStats.fresh_set Literal.length_enc Literal.ok_enc Literal.all_get Literal.all_set Literal.neg_get Literal.neg_set Literal.atom_get Literal.atom_set Literal.atom_pred_get Literal.atom_pred_set Literal.atom_args_get Literal.atom_args_set Engine.length_enc Engine.ok_enc Engine.all_get Engine.all_set Engine.prog_get Engine.prog_set Engine.st_get Engine.st_set Engine.levels_get Engine.levels_set Engine.running_get Engine.running_set Engine.stratum_get Engine.stratum_set Engine.round_get Engine.round_set Engine.saved_get Engine.saved_set Engine.stats_get Engine.stats_set Engine.prog_preds_get Engine.prog_preds_set Engine.prog_rules_get Engine.prog_rules_set Engine.prog_strata_get Engine.prog_strata_set Engine.stats_rounds_get Engine.stats_rounds_set Engine.stats_fired_get Engine.stats_fired_set Engine.stats_emitted_get Engine.stats_emitted_set Engine.stats_fresh_get Engine.stats_fresh_set Level.length_enc Level.ok_enc Level.all_get Level.all_set Level.heads_get Level.heads_set Level.jobs_get Level.jobs_set Plan.length_enc Plan.ok_enc Plan.all_get Plan.all_set Plan.rule_get Plan.rule_set Plan.delta_get Plan.delta_set Plan.src_get Plan.src_set Job.length_enc Job.ok_enc Job.all_get Job.all_set Job.full_get Job.full_set Job.deltas_get Job.deltas_set Job.full_rule_get Job.full_rule_set Job.full_delta_get Job.full_delta_set Job.full_src_get Job.full_src_set GState.length_enc GState.ok_enc GState.all_get GState.all_set GState.prog_get GState.prog_set GState.base_get GState.base_set GState.shown_get GState.shown_set GState.prog_preds_get GState.prog_preds_set GState.prog_rules_get GState.prog_rules_set GState.prog_strata_get GState.prog_strata_set Store.length_enc Store.ok_enc Store.all_get Store.all_set Store.arity_get Store.arity_set Store.rows_get Store.rows_set Env.length_enc Env.ok_enc Env.all_get Env.all_set Env.val_get Env.val_set Env.set_get Env.set_set
attribute [local go_sem] size_put size_ext blk_put free_put blk_alloc free_alloc blk_drew free_drew blk_ext free_ext lookOr_some putOr_some segAt_some cellAt_some storeIn_some put_put put_alloc_new length_arr ok_arr_u8 ok_arr_u32 ok_arr_u64 ok_arr_i64 ok_arr_sl cellsV_agg cellsV_int cellsV_bool cellsV_string cellsV_pointer cellsV_slice cellsV_sl ok_int ok_bool ok_string ok_pointer ok_slice ok_sl toList_arr seg_arr set_arr nth_splice nth_splice0 seg_splice seg_splice0 splice_splice splice_splice0 length_splice_if
attribute [local go_sem ↓] execOp_box
attribute [local go_sem] box_run nth_arr_u8 put_arr_u8 blk_drewN free_drewN put_drewN blk_raw free_raw
/-- The number of tuples in the first n lists. -/
def cntT (T : Nat → List Tup) : Nat → Nat
  | 0 => 0
  | n + 1 => cntT T n + (T n).length
theorem cntT_le {T : Nat → List Tup} : ∀ n, (∀ q, q < n → (T q).length ≤ 4294967296) → cntT T n ≤ n * 4294967296
  | 0, _ => Nat.zero_le _
  | n + 1, h => by
    have h1 := cntT_le n (fun q hq => h q (by omega))
    have h2 := h n (by omega)
    show cntT T n + (T n).length ≤ _
    omega
theorem cntT_mono {T T1 : Nat → List Tup} : ∀ n, (∀ q, q < n → (T q).length ≤ (T1 q).length) → cntT T n ≤ cntT T1 n
  | 0, _ => Nat.le_refl _
  | n + 1, h => by
    have h1 := cntT_mono n (fun q hq => h q (by omega))
    have h2 := h n (by omega)
    show cntT T n + (T n).length ≤ cntT T1 n + (T1 n).length
    omega
theorem cntT_eq {T T1 : Nat → List Tup} : ∀ n, (∀ q, q < n → (T q).length ≤ (T1 q).length) → (cntT T1 n = cntT T n ↔ ∀ q, q < n → (T q).length = (T1 q).length)
  | 0, _ => ⟨fun _ q hq => absurd hq (Nat.not_lt_zero _), fun _ => rfl⟩
  | n + 1, h => by
    have h1 := cntT_mono n (fun q hq => h q (by omega))
    have h2 := h n (by omega)
    have ih := cntT_eq n (fun q hq => h q (by omega))
    show cntT T1 n + (T1 n).length = cntT T n + (T n).length ↔ _
    constructor
    · intro e q hq
      by_cases hqn : q = n
      · subst hqn; omega
      · exact ih.1 (by omega) q (by omega)
    · intro he
      have e1 := ih.2 (fun q hq => he q (by omega))
      have e2 := he n (by omega)
      omega
def OvrT (n : Nat) (T : Nat → List Tup) : Prop := ∃ q, q < n ∧ 512 < (T q).length
def ctI (W : World) (a : Option Addr) (n c : Nat) (T : Nat → List Tup) (f : Nat → Value) (V : World) : Prop := f 0 = .slice a n c ∧ Hid (∃ k, V = W.drewN k) ∧ ∃ i : Nat, i ≤ n ∧ f 3 = .int .i64 ((cntT T i : Nat) : Int) ∧ f 4 = .int .i64 (i : Nat)
set_option maxRecDepth 100000 in
theorem frame19c (f : Nat → Value) : frameN 19 f = #[f 0, f 1, f 2, f 3, f 4, f 5, f 6, f 7, f 8, f 9, f 10, f 11, f 12, f 13, f 14, f 15, f 16, f 17, f 18] := by kernel_rfl
set_option maxRecDepth 20000 in
set_option maxHeartbeats 1000000 in
theorem count_any (W : World) (a : Option Addr) (n c : Nat) (T : Nat → List Tup) (hR : RelR W a n T) (hn : n ≤ 100) (hT : ∀ q, q < n → (T q).length ≤ 4294967296) : Calls Try.prog 30 #[.slice a n c] W fun e V => e = .returned (.int .i64 ((cntT T n : Nat) : Int)) ∧ W.Extends V := by
  obtain ⟨Q, hQ⟩ : ∃ Q, Q = (fun e V => e = .returned (.int .i64 ((cntT T n : Nat) : Int)) ∧ W.Extends V : Ending → World → Prop) := ⟨_, rfl⟩
  rw [← hQ]
  have HQ := hid_of hQ
  clear hQ
  have HR := hid_of hR
  have HT := hid_of hT
  have HK0 : Hid (∃ k, W = W.drewN k) := ⟨0, rfl⟩
  clear hR hT
  go_enter Try.func30, Try.ntmps30
  go_upto_region 3 with fail
  refine wp_loop_f 19 (ctI W a n c T) (fun f _ => n - (intOf (f 4)).toNat) rfl ⟨rfl, HK0, 0, by omega, rfl, rfl⟩ ?_
  clear HK0
  intro F V hrel
  obtain ⟨f0, HK, i, hi, f3, f4⟩ := hrel
  have H4 := hid_of f4
  rw [frame19c, f0, f3, f4]
  clear f0 f3 f4
  obtain ⟨k0, hV⟩ := HK.out
  have hxV : W.Extends V := by rw [hV]; exact extends_drewN (ext_Ext (Ext.refl _)) _
  have hb := cntT_le i (fun q hq => HT.out q (by omega))
  have hb2 : i * 4294967296 ≤ 100 * 4294967296 := Nat.mul_le_mul_right _ (by omega)
  obtain ⟨ci, hci⟩ : ∃ ci, ci = cntT T i := ⟨_, rfl⟩
  rw [← hci] at hb ⊢
  have hcb : ci ≤ 429496729600 := by omega
  by_cases hin : i < n
  · have hin' : (i : Int) < (n : Int) := by omega
    obtain ⟨br, Cr, ta, tn, tc, rfl, g1, g2, -, g3, g4⟩ := rel_at (HR.out.ext hxV) hin
    have htn := g4.1
    have htl := HT.out i hin
    have hnx : cntT T (i + 1) = ci + tn := by rw [hci, ← htn]; rfl
    have HNX := hid_of hnx
    have tb : tn ≤ 4294967296 := by omega
    have i0 : (0 : Int) ≤ (i : Int) := by omega
    have i2 : ((i : Int)).toNat = i := by omega
    clear hb hb2 hV hxV g4 htn htl hnx hci
    go_wp2_with fail
    refine ⟨rfl, rfl, ⟨rfl, HK, i + 1, by omega, ?_, ?_⟩, ?_⟩
    · show Value.int .i64 _ = _
      rw [HNX.out]
      go_num
    · show Value.int .i64 _ = _
      go_num
    · show n - (intOf (Value.int .i64 _)).toNat < n - (intOf (F 4)).toNat
      rw [H4.out]
      simp [intOf]; omega
  · obtain rfl : i = n := by omega
    have hin' : ¬ ((i : Int) < (i : Int)) := by omega
    have HP : Hid (Q (.returned (.int .i64 ((ci : Nat) : Int))) V) := by
      show Q _ _
      rw [HQ.out, hci]; exact ⟨rfl, hxV⟩
    clear hb hb2 hV hxV hci
    go_wp2_with fail
    try go_ret
    exact HP.out
def ovI (W : World) (a : Option Addr) (n c : Nat) (T : Nat → List Tup) (f : Nat → Value) (V : World) : Prop := f 0 = .slice a n c ∧ Hid (∃ k, V = W.drewN k) ∧ ∃ i : Nat, i ≤ n ∧ f 3 = .int .i64 (i : Nat) ∧ Hid (∀ q, q < i → ¬ 512 < (T q).length)
set_option maxRecDepth 100000 in
theorem frame16o (f : Nat → Value) : frameN 16 f = #[f 0, f 1, f 2, f 3, f 4, f 5, f 6, f 7, f 8, f 9, f 10, f 11, f 12, f 13, f 14, f 15] := by kernel_rfl
set_option maxRecDepth 20000 in
set_option maxHeartbeats 1000000 in
theorem over_any (W : World) (a : Option Addr) (n c : Nat) (T : Nat → List Tup) (hR : RelR W a n T) (hn : n ≤ 100) (hT : ∀ q, q < n → (T q).length ≤ 4294967296) : Calls Try.prog 25 #[.slice a n c] W fun e V => ∃ b, e = .returned (.bool b) ∧ (b = true ↔ OvrT n T) ∧ W.Extends V := by
  obtain ⟨Q, hQ⟩ : ∃ Q, Q = (fun e V => ∃ b, e = .returned (.bool b) ∧ (b = true ↔ OvrT n T) ∧ W.Extends V : Ending → World → Prop) := ⟨_, rfl⟩
  rw [← hQ]
  have HQ := hid_of hQ
  clear hQ
  have HR := hid_of hR
  have HT := hid_of hT
  have HK0 : Hid (∃ k, W = W.drewN k) := ⟨0, rfl⟩
  clear hR hT
  go_enter Try.func25, Try.ntmps25
  go_upto_region 2 with fail
  refine wp_loop_f 16 (ovI W a n c T) (fun f _ => n - (intOf (f 3)).toNat) rfl ⟨rfl, HK0, 0, by omega, rfl, fun q hq => absurd hq (Nat.not_lt_zero _)⟩ ?_
  clear HK0
  intro F V hrel
  obtain ⟨f0, HK, i, hi, f3, HJ⟩ := hrel
  have H3 := hid_of f3
  rw [frame16o, f0, f3]
  clear f0 f3
  obtain ⟨k0, hV⟩ := HK.out
  have hxV : W.Extends V := by rw [hV]; exact extends_drewN (ext_Ext (Ext.refl _)) _
  by_cases hin : i < n
  · have hin' : (i : Int) < (n : Int) := by omega
    obtain ⟨br, Cr, ta, tn, tc, rfl, g1, g2, -, g3, g4⟩ := rel_at (HR.out.ext hxV) hin
    have htn := g4.1
    have i0 : (0 : Int) ≤ (i : Int) := by omega
    have i2 : ((i : Int)).toNat = i := by omega
    have HX := hid_of hxV
    by_cases ho : 512 < tn
    · have ho' : (512 : Int) < (tn : Int) := by omega
      have HP : Hid (Q (.returned (.bool true)) V) := by
        show Q _ _
        rw [HQ.out]; exact ⟨true, rfl, ⟨fun _ => ⟨i, hin, by rw [htn]; exact ho⟩, fun _ => rfl⟩, hxV⟩
      clear hV hxV g4 htn HJ HK
      go_wp2_with fail
      try go_ret
      exact HP.out
    · have ho' : ¬ (512 : Int) < (tn : Int) := by omega
      have HJ' : Hid (∀ q, q < i + 1 → ¬ 512 < (T q).length) := by
        intro q hq
        by_cases hqi : q = i
        · subst hqi; rw [htn]; exact ho
        · exact HJ.out q (by omega)
      clear hV hxV g4 htn HJ HX
      go_wp2_with fail
      refine ⟨rfl, rfl, ⟨rfl, HK, i + 1, by omega, ?_, HJ'⟩, ?_⟩
      · show Value.int .i64 _ = _
        go_num
      · show n - (intOf (Value.int .i64 _)).toNat < n - (intOf (F 3)).toNat
        rw [H3.out]
        simp [intOf]; omega
  · obtain rfl : i = n := by omega
    have hin' : ¬ ((i : Int) < (i : Int)) := by omega
    have HP : Hid (Q (.returned (.bool false)) V) := by
      show Q _ _
      rw [HQ.out]; exact ⟨false, rfl, ⟨fun h => (by cases h), fun ⟨q, hq, hl⟩ => absurd hl (HJ.out q hq)⟩, hxV⟩
    clear hV hxV HK HJ
    go_wp2_with fail
    try go_ret
    exact HP.out
/-- The rules' heads have their constants in the domain. -/
def DomR (p : Pg) (dom : List Int) : Prop := ∀ (k : Nat) (r : GRule), p.R[k]? = some r → ∀ c, c < arA p.P r.head → (tA r.head c).var = false → (tA r.head c).n ∈ dom
def RelI (p : Pg) (T : Nat → List Tup) : Prop := ∀ q, q < p.P.length → OutOk (T q)
theorem NR.relI {p : Pg} {s : Nat} {T T1 : Nat → List Tup} (h : NR p s T T1) : RelI p T1 := fun q hq => (h q hq).1
theorem con_dom {p : Pg} (hok : PgOk p) {k : Nat} {r : GRule} (hr : p.R[k]? = some r) {dom : List Int} {T : Nat → List Tup} (hD : DomC p dom T) (hDR : DomR p dom) {t : Tup} (hc : Con p k (relF T) t) : ∀ c, c < arP p (hP p k) → tg t c ∈ dom := by
  obtain ⟨σ, hB, rfl⟩ := con_body.1 hc
  intro c hc'
  have hf : AFit p.P (hdP p k) := by rw [hdP_some hr]; exact hok.head k r hr
  have h4 := (afit_fit hf).1
  have hcA : c < arA p.P (hdP p k) := hc'
  rw [tg_sT _ _ _ _ (by omega), if_pos hcA]
  unfold sV
  by_cases hv : (tA (hdP p k) c).var = true
  · rw [if_pos hv]
    rw [hdP_some hr] at hv hcA ⊢
    obtain ⟨l, hl, hn, i, hi, hiv, hin⟩ := hok.rsH k r hr c hcA hv
    rw [← hin]
    exact pos_dom hok hr hD hB hl hn hi hiv
  · rw [if_neg hv]
    rw [hdP_some hr] at hv hcA ⊢
    exact hDR k r hr c hcA (by simpa using hv)
theorem NR.dom {p : Pg} (hok : PgOk p) {s : Nat} {dom : List Int} {T T1 : Nat → List Tup} (h : NR p s T T1) (hD : DomC p dom T) (hDR : DomR p dom) : DomC p dom T1 := fun q hq t ht c hc => by
  rcases ((h q hq).2 t).1 ht with h1 | ⟨k, hk, hkq, hcn⟩
  · exact hD q hq t h1 c hc
  · obtain ⟨r, hr⟩ := jobs_r hk
    exact con_dom hok hr hD hDR hcn c (by rw [hkq]; exact hc)
theorem NR.len {p : Pg} {s : Nat} {T T1 : Nat → List Tup} (h : NR p s T T1) (hT : RelI p T) : ∀ q, q < p.P.length → (T q).length ≤ (T1 q).length := fun q hq => nodup_sub_len (hT q hq).1 (fun t ht => ((h q hq).2 t).2 (.inl ht))
/-- A stratum's naive iteration. -/
inductive FixTo (p : Pg) (s : Nat) : (Nat → List Tup) → (Nat → List Tup) → Prop
  | stop {T T1 : Nat → List Tup} : NR p s T T1 → (cntT T1 p.P.length = cntT T p.P.length ∨ OvrT p.P.length T1) → FixTo p s T T1
  | more {T T1 T2 : Nat → List Tup} : NR p s T T1 → ¬ cntT T1 p.P.length = cntT T p.P.length → ¬ OvrT p.P.length T1 → FixTo p s T1 T2 → FixTo p s T T2
def FixPost (W : World) (p : Pg) (s : Nat) (T : Nat → List Tup) (e : Ending) (V : World) : Prop := ∃ a c T1, e = .returned (.slice a p.P.length c) ∧ W.Extends V ∧ RelR (newc W.heap.size V) a p.P.length T1 ∧ FixTo p s T T1
def fxI (W : World) (p : Pg) (bp s : Nat) (da : Option Addr) (D dc : Nat) (dom : List Int) (T : Nat → List Tup) (m : Nat) (f : Nat → Value) (V : World) : Prop := f 0 = .pointer (some ⟨bp, 0, none⟩) ∧ f 1 = .int .i64 (s : Int) ∧ f 2 = .slice da D dc ∧ ∃ (ra : Option Addr) (rc : Nat) (T' : Nat → List Tup), f 3 = .slice ra p.P.length rc ∧ Hid (m = 274877906944 - cntT T' p.P.length ∧ W.Extends V ∧ RelR V ra p.P.length T' ∧ RelI p T' ∧ DomC p dom T' ∧ ∀ T2, FixTo p s T' T2 → FixTo p s T T2)
set_option maxRecDepth 100000 in
theorem frame26f (f : Nat → Value) : frameN 26 f = #[f 0, f 1, f 2, f 3, f 4, f 5, f 6, f 7, f 8, f 9, f 10, f 11, f 12, f 13, f 14, f 15, f 16, f 17, f 18, f 19, f 20, f 21, f 22, f 23, f 24, f 25] := by kernel_rfl
set_option maxRecDepth 20000 in
set_option maxHeartbeats 1000000 in
theorem fixpoint_any (W : World) (bp : Nat) (p : Pg) (hpg : PgX W bp p) (hok : PgOk p) (s : Nat) (da : Option Addr) (D dc : Nat) (dom : List Int) (hdw : Rw encI 1 W da D dom) (hdi : DomI dom) (hdr : DomR p dom) (ra : Option Addr) (rc : Nat) (T : Nat → List Tup) (hR : RelR W ra p.P.length T) (hT : RelI p T) (hDC : DomC p dom T) : Calls Try.prog 33 #[.pointer (some ⟨bp, 0, none⟩), .int .i64 (s : Int), .slice da D dc, .slice ra p.P.length rc] W (FixPost W p s T) := by
  obtain ⟨Q, hQ⟩ : ∃ Q, Q = FixPost W p s T := ⟨_, rfl⟩
  rw [← hQ]
  have HQ := hid_of hQ
  have HPG := hid_of hpg
  have HOK := hid_of hok
  have HDW := hid_of hdw
  have HDI := hid_of hdi
  have HDR := hid_of hdr
  have hN := hok.nP
  obtain ⟨m0, hm0⟩ : ∃ m0, m0 = 274877906944 - cntT T p.P.length := ⟨_, rfl⟩
  have HI0 : Hid (m0 = 274877906944 - cntT T p.P.length ∧ W.Extends W ∧ RelR W ra p.P.length T ∧ RelI p T ∧ DomC p dom T ∧ ∀ T2, FixTo p s T T2 → FixTo p s T T2) := ⟨hm0, ext_Ext (Ext.refl _), hR, hT, hDC, fun _ h => h⟩
  clear hQ hpg hok hdw hdi hR hT hDC hdr hm0
  go_enter Try.func33, Try.ntmps33
  go_upto_region 1 with fail
  refine wp_loop_ix 26 (fxI W p bp s da D dc dom T) m0 rfl ⟨rfl, rfl, rfl, ra, rc, T, rfl, HI0⟩ ?_
  clear HI0
  intro m F V hrel μ hμ
  obtain ⟨f0, f1, f2, ra1, rc1, T', f3, HI⟩ := hrel
  rw [frame26f, f0, f1, f2, f3]
  clear f0 f1 f2 f3
  obtain ⟨hm, hxV, hRR, hRI, hDC, hfx⟩ := HI.out
  have hna := naive_any V bp p (HPG.out.ext hxV) HOK.out s da D dc dom (HDW.out.grow hxV) HDI.out ra1 rc1 T' hRR hRI hDC
  have HNA := hid_of hna
  have HX := hid_of hxV
  have HRR := hid_of hRR
  have HRI := hid_of hRI
  have HDC := hid_of hDC
  have HFX := hid_of hfx
  have HM := hid_of hm
  clear HI hm hxV hRR hRI hDC hfx hna
  go_wp2_with fail
  refine HNA.out.mono ?_
  rintro e V1 ⟨a1, c1, T1, rfl, hx1, hRN, hN1⟩
  have hR1 := hRN.sub (newc_sub _ _)
  have HRN : Hid (RelR (newc W.heap.size V1) a1 p.P.length T1) := hRN.sub (newc_le HX.out.size)
  have hlen1 : ∀ q, q < p.P.length → (T1 q).length ≤ 4294967296 := fun q hq => outok_len (hN1 q hq).1
  have hlen0 : ∀ q, q < p.P.length → (T' q).length ≤ 4294967296 := fun q hq => outok_len (HRI.out q hq)
  have hc1 := count_any V1 a1 p.P.length c1 T1 hR1 (by omega) hlen1
  have HC1 := hid_of hc1
  have HX1 := hid_of hx1
  have HR1 := hid_of hR1
  have HN1 := hid_of hN1
  have HL1 := hid_of hlen1
  have HL0 := hid_of hlen0
  clear HNA hx1 hR1 hN1 hc1 hlen1 hlen0 hRN
  dsimp only
  go_wp2_with fail
  refine HC1.out.mono ?_
  rintro e V2 ⟨rfl, hx2⟩
  have hc2 := count_any V2 ra1 p.P.length rc1 T' (HRR.out.ext (HX1.out.trans hx2)) (by omega) HL0.out
  have HC2 := hid_of hc2
  have HX2 := hid_of hx2
  clear HC1 hx2 hc2
  dsimp only
  go_wp2_with fail
  refine HC2.out.mono ?_
  rintro e V3 ⟨rfl, hx3⟩
  have hov := over_any V3 a1 p.P.length c1 T1 (HR1.out.ext (HX2.out.trans hx3)) (by omega) HL1.out
  have HOV := hid_of hov
  have HX3 := hid_of hx3
  clear HC2 hx3 hov
  dsimp only
  obtain ⟨c1v, hc1v⟩ : ∃ c1v, c1v = cntT T1 p.P.length := ⟨_, rfl⟩
  obtain ⟨c0v, hc0v⟩ : ∃ c0v, c0v = cntT T' p.P.length := ⟨_, rfl⟩
  rw [← hc1v, ← hc0v]
  by_cases hce : c1v = c0v
  · have HP : Hid (Q (.returned (.slice a1 p.P.length c1)) V3) := by
      show Q _ _
      rw [HQ.out]
      exact ⟨_, _, T1, rfl, HX.out.trans (HX1.out.trans (HX2.out.trans HX3.out)), HRN.out.sub (newc_ext (HX2.out.trans HX3.out)), HFX.out _ (.stop HN1.out (.inl (by rw [← hc1v, ← hc0v]; exact hce)))⟩
    subst hce
    clear HOV hc1v hc0v
    go_wp2_with fail
    try go_ret
    exact HP.out
  · have hce' : ¬ (c1v : Int) = (c0v : Int) := by omega
    have HCE : Hid (¬ cntT T1 p.P.length = cntT T' p.P.length) := by
      show ¬ _
      rw [← hc1v, ← hc0v]; exact hce
    have HLT : Hid (c0v < c1v ∧ c1v ≤ 274877906944) := by
      have h1 := cntT_mono p.P.length (NR.len HN1.out HRI.out)
      have h2 := cntT_le p.P.length HL1.out
      have h3 : p.P.length * 4294967296 ≤ 64 * 4294967296 := Nat.mul_le_mul_right _ hN
      show _ ∧ _
      omega
    have HC1V := hid_of hc1v
    have HC0V := hid_of hc0v
    clear hce hc1v hc0v
    go_wp2_with fail
    refine HOV.out.mono ?_
    rintro e V4 ⟨b, rfl, hb, hx4⟩
    have HX4 : Hid (W.Extends V4) := HX.out.trans (HX1.out.trans (HX2.out.trans (HX3.out.trans hx4)))
    have HR4 : Hid (RelR V4 a1 p.P.length T1) := HR1.out.ext (HX2.out.trans (HX3.out.trans hx4))
    have HN4 : Hid (RelR (newc W.heap.size V4) a1 p.P.length T1) := HRN.out.sub (newc_ext (HX2.out.trans (HX3.out.trans hx4)))
    clear HOV hx4
    dsimp only
    cases b with
    | true =>
      have HP : Hid (Q (.returned (.slice a1 p.P.length c1)) V4) := by
        show Q _ _
        rw [HQ.out]
        exact ⟨_, _, T1, rfl, HX4.out, HN4.out, HFX.out _ (.stop HN1.out (.inr (hb.1 rfl)))⟩
      clear hb
      go_wp2_with fail
      try go_ret
      exact HP.out
    | false =>
      obtain ⟨m1, hm1⟩ : ∃ m1, m1 = 274877906944 - cntT T1 p.P.length := ⟨_, rfl⟩
      have HI' : Hid (m1 = 274877906944 - cntT T1 p.P.length ∧ W.Extends V4 ∧ RelR V4 a1 p.P.length T1 ∧ RelI p T1 ∧ DomC p dom T1 ∧ ∀ T2, FixTo p s T1 T2 → FixTo p s T T2) := ⟨hm1, HX4.out, HR4.out, HN1.out.relI, HN1.out.dom HOK.out HDC.out HDR.out, fun T2 h2 => HFX.out _ (.more HN1.out HCE.out (fun ho => by have := hb.2 ho; cases this) h2)⟩
      have HLT' : Hid (m1 < m) := by
        have h1 := HLT.out
        have h2 := HM.out
        show _ < _
        rw [hm1, h2, ← HC1V.out, ← HC0V.out]
        omega
      clear hb hm1
      go_wp2_with fail
      exact ⟨rfl, rfl, ⟨m1, rfl, rfl, rfl, a1, c1, T1, rfl, HI'⟩, hμ.out m1 _ _ ⟨rfl, rfl, rfl, a1, c1, T1, rfl, HI'⟩ HLT'.out⟩
end Go.Proofs.Qxb6500788a
