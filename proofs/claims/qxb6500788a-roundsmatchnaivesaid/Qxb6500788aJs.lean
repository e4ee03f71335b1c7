import Derived.Test.Qxb6500788aJq
import Derived.StillTailTactics
import Derived.Deep.QuietTactic
import Derived.BigQuiet
import Derived.Deep.RegionHeld
import Derived.Deep.CutRange
import Derived.Laws.ResultCell
import Derived.Laws.Rows
import Derived.DeepKeys
import Derived.DataBytes
import Derived.Laws.StructEq
import Derived.Laws.AppendOwn
import Derived.Laws.MakeOwn
set_option linter.unusedSimpArgs false
set_option linter.unusedVariables false
namespace Go.Proofs.Qxb6500788a
open Go.RowKit Go.Blk
attribute [local go_sem ↓] execOp_load execOp_store execOp_alloc
attribute [local go_sem] Try.ld24 Try.st24 Try.ld25 Try.st25 Try.ld3 Try.st3 Try.ld30 Try.st30 Try.ld36 Try.st36 Try.ld4 Try.st4 Try.ld41 Try.st41 Try.ld50 Try.st50 Try.ld40 Try.st40 Try.ld42 Try.st42 Try.ld89 Try.st89 Try.ld91 Try.st91 Try.ld56 Try.st56 Try.ld97 Try.st97 Try.ld98 Try.st98 Try.ld101 Try.st101 Try.ld104 Try.st104 Try.ld57 Try.st57 Try.ld130 Try.st130 Try.ld2 Try.st2 Try.ld5 Try.st5 Try.ld9 Try.st9 Try.ld12 Try.st12 Try.ld21 Try.st21 Try.ld22 Try.st22 Try.ld29 Try.st29 Try.ld33 Try.st33 Try.ld59 Try.st59 Try.ld62 Try.st62 Try.ld69 Try.st69 Try.ld94 Try.st94 Try.ld96 Try.st96 Try.ld129 Try.st129 Try.ld158 Try.st158 Try.ld162 Try.st162 Try.ld47 Try.st47 Try.ld44 Try.st44 Try.ld137 Try.st137 Try.ld145 Try.st145 Try.ld43 Try.st43 Try.ld27 Try.st27 Try.ld38 Try.st38 Try.ld46 Try.st46 Try.ld49 Try.st49 Try.ld52 Try.st52 Try.ld54 Try.st54 Try.ld61 Try.st61 Try.ld80 Try.st80 Try.ld87 Try.st87 Try.ld93 Try.st93 Try.ld100 Try.st100 Try.ld103 Try.st103 Try.ld106 Try.st106 Try.ld109 Try.st109 Try.ld132 Try.st132 Try.ld147 Try.st147 Try.al47 Try.al44 Try.al137 Try.al145 Try.al43 Try.al27 Try.al38 Try.al46 Try.al49 Try.al52 Try.al54 Try.al61 Try.al80 Try.al87 Try.al93 Try.al100 Try.al103 Try.al106 Try.al109 Try.al132 Try.al147
attribute [local go_sem] GProgram.length_enc GProgram.ok_enc GProgram.all_get GProgram.all_set GProgram.preds_get GProgram.preds_set GProgram.rules_get GProgram.rules_set GProgram.strata_get GProgram.strata_set Answer.length_enc Answer.ok_enc Answer.all_get Answer.all_set Answer.code_get Answer.code_set Answer.n_get Answer.n_set Answer.rows_get Answer.rows_set Term.length_enc Term.ok_enc Term.all_get Term.all_set Term.var_get Term.var_set Term.n_get Term.n_set Atom.length_enc Atom.ok_enc Atom.all_get Atom.all_set Atom.pred_get Atom.pred_set Atom.args_get Atom.args_set GRule.length_enc GRule.ok_enc GRule.all_get GRule.all_set GRule.head_get GRule.head_set GRule.body_get GRule.body_set GRule.head_pred_get GRule.head_pred_set GRule.head_args_get GRule.head_args_set GOp.length_enc GOp.ok_enc GOp.all_get GOp.all_set GOp.kind_get GOp.kind_set GOp.pred_get GOp.pred_set GOp.t_get GOp.t_set GOp.n_get GOp.n_set GOp.base_get GOp.base_set GOp.rule_get GOp.rule_set GOp.rule_head_get GOp.rule_head_set GOp.rule_body_get GOp.rule_body_set GOp.rule_head_pred_get GOp.rule_head_pred_set GOp.rule_head_args_get GOp.rule_head_args_set PredInfo.length_enc PredInfo.ok_enc PredInfo.all_get PredInfo.all_set PredInfo.arity_get PredInfo.arity_set PredInfo.base_get PredInfo.base_set PredInfo.stratum_get PredInfo.stratum_set GStats.length_enc GStats.ok_enc GStats.all_get GStats.all_set GStats.rounds_get GStats.rounds_set GStats.fired_get GStats.fired_set GStats.emitted_get GStats.emitted_set GStats.fresh_get GStats.fresh_set Literal.length_enc Literal.ok_enc Literal.all_get Literal.all_set Literal.neg_get Literal.neg_set Literal.atom_get Literal.atom_set Literal.atom_pred_get Literal.atom_pred_set Literal.atom_args_get Literal.atom_args_set Engine.length_enc Engine.ok_enc Engine.all_get Engine.all_set Engine.prog_get Engine.prog_set Engine.st_get Engine.st_set Engine.levels_get Engine.levels_set Engine.running_get Engine.running_set Engine.stratum_get Engine.stratum_set Engine.round_get Engine.round_set Engine.saved_get Engine.saved_set Engine.stats_get Engine.stats_set Engine.prog_preds_get Engine.prog_preds_set Engine.prog_rules_get Engine.prog_rules_set Engine.prog_strata_get Engine.prog_strata_set Engine.stats_rounds_get Engine.stats_rounds_set Engine.stats_fired_get Engine.stats_fired_set Engine.stats_emitted_get Engine.stats_emitted_set Engine.stats_fresh_get Engine.stats_fresh_set Level.length_enc Level.ok_enc Level.all_get Level.all_set Level.heads_get Level.heads_set Level.jobs_get Level.jobs_set Plan.length_enc Plan.ok_enc Plan.all_get Plan.all_set Plan.rule_get Plan.rule_set Plan.delta_get Plan.delta_set Plan.src_get Plan.src_set Job.length_enc Job.ok_enc Job.all_get Job.all_set Job.full_get Job.full_set Job.deltas_get Job.deltas_set Job.full_rule_get Job.full_rule_set Job.full_delta_get Job.full_delta_set Job.full_src_get Job.full_src_set GState.length_enc GState.ok_enc GState.all_get GState.all_set GState.prog_get GState.prog_set GState.base_get GState.base_set GState.shown_get GState.shown_set GState.prog_preds_get GState.prog_preds_set GState.prog_rules_get GState.prog_rules_set GState.prog_strata_get GState.prog_strata_set Store.length_enc Store.ok_enc Store.all_get Store.all_set Store.arity_get Store.arity_set Store.rows_get Store.rows_set Env.length_enc Env.ok_enc Env.all_get Env.all_set Env.val_get Env.val_set Env.set_get Env.set_set
attribute [local go_sem] size_put size_ext blk_put free_put blk_alloc free_alloc blk_drew free_drew blk_ext free_ext lookOr_some putOr_some segAt_some cellAt_some storeIn_some put_put put_alloc_new length_arr ok_arr_u8 ok_arr_u32 ok_arr_u64 ok_arr_i64 ok_arr_sl cellsV_agg cellsV_int cellsV_bool cellsV_string cellsV_pointer cellsV_slice cellsV_sl ok_int ok_bool ok_string ok_pointer ok_slice ok_sl toList_arr seg_arr set_arr nth_splice nth_splice0 seg_splice seg_splice0 splice_splice splice_splice0 length_splice_if
attribute [local go_sem ↓] execOp_box
attribute [local go_sem] box_run nth_arr_u8 put_arr_u8 blk_drewN free_drewN put_drewN blk_raw free_raw
/-- The tuples of ts that are not in us. -/
def mnL (ts us : List Tup) : List Tup := ts.filter fun t => !decide (t ∈ us)
theorem mnL_take {ts us : List Tup} {i : Nat} {t : Tup} (h : ts[i]? = some t) : mnL (ts.take (i + 1)) us = if t ∈ us then mnL (ts.take i) us else mnL (ts.take i) us ++ [t] := by
  unfold mnL
  rw [take_at h, List.filter_append]
  by_cases hm : t ∈ us
  · rw [if_pos hm]; simp [hm]
  · rw [if_neg hm]; simp [hm]
theorem mnL_len (ts us : List Tup) (i : Nat) : (mnL (ts.take i) us).length ≤ i := by
  refine Nat.le_trans (List.length_filter_le _ _) ?_
  rw [List.length_take]; omega
def mnI (W : World) (a : Option Addr) (n c : Nat) (a' : Option Addr) (n' c' : Nat) (ts us : List Tup) (f : Nat → Value) (V : World) : Prop := f 0 = .slice a n c ∧ f 1 = .slice a' n' c' ∧ ∃ (i : Nat) (a1 : Option Addr) (n1 c1 : Nat), i ≤ n ∧ f 5 = .slice a1 n1 c1 ∧ f 6 = .int .i64 (i : Nat) ∧ Hid (Outs W V a1 n1 c1 (mnL (ts.take i) us))
attribute [local go_sem ↓] execOp_bslice
attribute [local go_sem] bslice36
set_option maxRecDepth 100000 in
theorem frame28m (f : Nat → Value) : frameN 28 f = #[f 0, f 1, f 2, f 3, f 4, f 5, f 6, f 7, f 8, f 9, f 10, f 11, f 12, f 13, f 14, f 15, f 16, f 17, f 18, f 19, f 20, f 21, f 22, f 23, f 24, f 25, f 26, f 27] := by kernel_rfl
set_option maxRecDepth 20000 in
set_option maxHeartbeats 1000000 in
theorem minus_any (W : World) (a : Option Addr) (n c : Nat) (a' : Option Addr) (n' c' : Nat) (ts us : List Tup) (h : Rw tpl 4 W a n ts) (h' : Rw tpl 4 W a' n' us) (hn : n ≤ 10000000000) (hn' : n' ≤ 10000000000) : Calls Try.prog 29 #[.slice a n c, .slice a' n' c'] W fun e V => ∃ a2 n2 c2, e = .returned (.slice a2 n2 c2) ∧ Outs W V a2 n2 c2 (mnL ts us) := by
  obtain ⟨Q, hQ⟩ : ∃ Q, Q = (fun e V => ∃ a2 n2 c2, e = .returned (.slice a2 n2 c2) ∧ Outs W V a2 n2 c2 (mnL ts us) : Ending → World → Prop) := ⟨_, rfl⟩
  rw [← hQ]
  have HQ := hid_of hQ
  have H := hid_of h
  have H' := hid_of h'
  have HLN := hid_of h.1
  have HI0 : Hid (Outs W W none 0 0 (mnL (ts.take 0) us)) := Outs.nil W W (ext_Ext (Ext.refl _))
  clear hQ h h'
  go_enter Try.func29, Try.ntmps29
  go_upto_region 3 with fail
  refine wp_loop_f 28 (mnI W a n c a' n' c' ts us) (fun f _ => n - (intOf (f 6)).toNat) rfl ⟨rfl, rfl, 0, none, 0, 0, by omega, rfl, rfl, HI0⟩ ?_
  clear HI0
  intro F V hrel
  obtain ⟨f0, f1, i, a1, n1, c1, hi, f5, f6, HI⟩ := hrel
  have H6 := hid_of f6
  rw [frame28m, f0, f1, f5, f6]
  clear f0 f1 f5 f6
  by_cases hin : i < n
  · have hin' : (i : Int) < (n : Int) := by omega
    have hxV := HI.out.2.1
    obtain ⟨t, ht⟩ : ∃ t, ts[i]? = some t := ⟨_, List.getElem?_eq_getElem (by rw [HLN.out]; exact hin)⟩
    obtain ⟨b, C, rfl, hC, hlC, _, hs⟩ := tup_at (H.out.ext' hxV) ht
    have hme := memberM_any V a' n' c' us (H'.out.grow hxV) hn' t
    have HME := hid_of hme
    have HT := hid_of ht
    have HXV := hid_of hxV
    have i0 : (0 : Int) ≤ (i : Int) := by omega
    have i2 : ((i : Int)).toNat = i := by omega
    clear hme ht hxV
    go_wp2_with fail
    refine HME.out.mono ?_
    rintro e V1 ⟨rfl, hx1⟩
    have hC1 : blk V1 b = some C := (hx1.blk (blk_lt hC)).trans hC
    have HO1 : Hid (Outs W V1 a1 n1 c1 (mnL (ts.take i) us)) := HI.out.ext hx1
    clear HME hC hx1 HI
    dsimp only
    by_cases hm : t ∈ us
    · have HI' : Hid (Outs W V1 a1 n1 c1 (mnL (ts.take (i + 1)) us)) := by
        show Outs _ _ _ _ _ _
        rw [mnL_take HT.out, if_pos hm]; exact HO1.out
      have hd : decide (t ∈ us) = true := decide_eq_true hm
      rw [hd]
      clear HO1 hd hm
      go_wp2_with fail
      refine ⟨rfl, rfl, ⟨rfl, rfl, i + 1, a1, n1, c1, by omega, rfl, ?_, HI'⟩, ?_⟩
      · show Value.int .i64 _ = _
        go_num
      · show n - (intOf (Value.int .i64 _)).toNat < n - (intOf (F 6)).toNat
        rw [H6.out]
        simp [intOf]; omega
    · have hd : decide (t ∈ us) = false := decide_eq_false hm
      rw [hd]
      obtain ⟨a2, c2, V2, hrun, hou⟩ := HO1.out.app t (by have := mnL_len ts us i; omega)
      have HI' : Hid (Outs W V2 a2 (n1 + 1) c2 (mnL (ts.take (i + 1)) us)) := by
        show Outs _ _ _ _ _ _
        rw [mnL_take HT.out, if_neg hm]; exact hou
      clear HO1 hd hm hou
      go_wp2_with (at_builtin; refine wpList_append_run rfl _ _ 36 rfl _ _ _ _ rfl rfl hrun ?_)
      refine ⟨rfl, rfl, ⟨rfl, rfl, i + 1, a2, n1 + 1, c2, by omega, rfl, ?_, HI'⟩, ?_⟩
      · show Value.int .i64 _ = _
        go_num
      · show n - (intOf (Value.int .i64 _)).toNat < n - (intOf (F 6)).toNat
        rw [H6.out]
        simp [intOf]; omega
  · obtain rfl : i = n := by omega
    have hin' : ¬ ((i : Int) < (i : Int)) := by omega
    have HP : Hid (Q (.returned (.slice a1 n1 c1)) V) := by
      show Q _ _
      rw [HQ.out]
      have := HI.out
      rw [List.take_of_length_le (by rw [HLN.out]; exact Nat.le_refl _)] at this
      exact ⟨a1, n1, c1, rfl, this⟩
    clear HI
    go_wp2_with fail
    try go_ret
    exact HP.out
/-- The derived relations' size. -/
def derT (p : Pg) (T : Nat → List Tup) : Nat → Nat
  | 0 => 0
  | n + 1 => derT p T n + if basP p n = true then 0 else (T n).length
theorem derT_le {p : Pg} {T : Nat → List Tup} : ∀ n, (∀ q, q < n → (T q).length ≤ 4294967296) → derT p T n ≤ n * 4294967296
  | 0, _ => by simp [derT]
  | n + 1, h => by
    have h1 := derT_le (p := p) (T := T) n (fun q hq => h q (by omega))
    have h2 := h n (by omega)
    have h3 : (if basP p n = true then 0 else (T n).length) ≤ 4294967296 := by
      by_cases hb : basP p n = true
      · rw [if_pos hb]; exact Nat.zero_le _
      · rw [if_neg hb]; exact h2
    rw [Nat.succ_mul]
    exact Nat.add_le_add h1 h3
def dcI (W : World) (bp : Nat) (p : Pg) (a : Option Addr) (c : Nat) (T : Nat → List Tup) (f : Nat → Value) (V : World) : Prop := f 0 = .pointer (some ⟨bp, 0, none⟩) ∧ f 1 = .slice a p.P.length c ∧ Hid (W = V) ∧ ∃ i : Nat, i ≤ p.P.length ∧ f 5 = .int .i64 ((derT p T i : Nat) : Int) ∧ f 6 = .int .i64 (i : Nat)
set_option maxRecDepth 100000 in
theorem frame33d (f : Nat → Value) : frameN 33 f = #[f 0, f 1, f 2, f 3, f 4, f 5, f 6, f 7, f 8, f 9, f 10, f 11, f 12, f 13, f 14, f 15, f 16, f 17, f 18, f 19, f 20, f 21, f 22, f 23, f 24, f 25, f 26, f 27, f 28, f 29, f 30, f 31, f 32] := by kernel_rfl
set_option maxRecDepth 20000 in
set_option maxHeartbeats 1000000 in
theorem derived_any (W : World) (bp : Nat) (p : Pg) (hpg : PgX W bp p) (hok : PgOk p) (a : Option Addr) (c : Nat) (T : Nat → List Tup) (hR : RelR W a p.P.length T) (hT : ∀ q, q < p.P.length → (T q).length ≤ 4294967296) : Calls Try.prog 32 #[.pointer (some ⟨bp, 0, none⟩), .slice a p.P.length c] W fun e V => e = .returned (.int .i64 ((derT p T p.P.length : Nat) : Int)) ∧ V = W := by
  obtain ⟨Q, hQ⟩ : ∃ Q, Q = (fun e V => e = .returned (.int .i64 ((derT p T p.P.length : Nat) : Int)) ∧ V = W : Ending → World → Prop) := ⟨_, rfl⟩
  rw [← hQ]
  have HQ := hid_of hQ
  have HPG := hid_of hpg
  have HRR := hid_of hR
  have HT := hid_of hT
  have h64 := hok.nP
  clear hQ hpg hR hT hok
  go_enter Try.func32, Try.ntmps32
  go_upto_region 3 with fail
  refine wp_loop_f 33 (dcI W bp p a c T) (fun f _ => p.P.length - (intOf (f 6)).toNat) rfl ⟨rfl, rfl, hid_of rfl, 0, by omega, rfl, rfl⟩ ?_
  intro F V hrel
  obtain ⟨f0, f1, HW, i, hi, f5, f6⟩ := hrel
  have H6 := hid_of f6
  rw [frame33d, f0, f1, f5, f6]
  clear f0 f1 f5 f6
  obtain rfl : W = V := HW.out
  clear HW
  by_cases hin : i < p.P.length
  · have hin' : (i : Int) < (p.P.length : Int) := by omega
    obtain ⟨cP, Cb, CP, bP, e1, e2, e3, e4, e5, e6, -, -⟩ := pgb_str HPG.out hin
    obtain ⟨br, Cr, ta, tn, tc, rfl, g1, g2, -, g3, g4⟩ := rel_at HRR.out hin
    have i0 : (0 : Int) ≤ (i : Int) := by omega
    have i2 : ((i : Int)).toNat = i := by omega
    have c0 : 0 < Cb.length := by omega
    have c1 : i * 3 + 1 < CP.length := by omega
    have hle := derT_le (p := p) (T := T) i (fun q hq => HT.out q (by omega))
    have hl1 := HT.out i hin
    have hcap : i * 4294967296 ≤ 64 * 4294967296 := Nat.mul_le_mul_right _ (by omega)
    have htn : tn = (T i).length := g4.1.symm
    obtain ⟨dv, hdv⟩ : ∃ dv, dv = derT p T i := ⟨_, rfl⟩
    have hnext : derT p T (i + 1) = dv + if basP p i = true then 0 else tn := by rw [hdv, htn]; rfl
    rw [← hdv] at hle ⊢
    have HNX := hid_of hnext
    rw [← htn] at hl1
    clear g4 htn hdv hnext
    cases hb : basP p i with
    | true =>
      rw [hb] at e6
      have hd : derT p T (i + 1) = dv := by rw [HNX.out, hb, if_pos rfl]; rfl
      have HD := hid_of hd
      clear hd
      go_wp2_with fail
      refine ⟨rfl, rfl, ⟨rfl, rfl, hid_of rfl, i + 1, by omega, ?_, ?_⟩, ?_⟩
      · rw [HD.out]; rfl
      · show Value.int .i64 _ = _
        go_num
      · show p.P.length - (intOf (Value.int .i64 _)).toNat < p.P.length - (intOf (F 6)).toNat
        rw [H6.out]
        simp [intOf]; omega
    | false =>
      rw [hb] at e6
      have hd : derT p T (i + 1) = dv + tn := by rw [HNX.out, hb, if_neg (by decide)]
      have HD := hid_of hd
      clear hd
      go_wp2_with fail
      refine ⟨rfl, rfl, ⟨rfl, rfl, hid_of rfl, i + 1, by omega, ?_, ?_⟩, ?_⟩
      · rw [HD.out]
        show Value.int .i64 _ = _
        go_num
      · show Value.int .i64 _ = _
        go_num
      · show p.P.length - (intOf (Value.int .i64 _)).toNat < p.P.length - (intOf (F 6)).toNat
        rw [H6.out]
        simp [intOf]; omega
  · obtain rfl : i = p.P.length := by omega
    have hin' : ¬ ((p.P.length : Int) < (p.P.length : Int)) := by omega
    obtain ⟨aP, cP, Cb, e1, e2, e3⟩ : ∃ (aP : Option Addr) (cP : Nat) (Cb : List Value), blk W bp = some Cb ∧ 3 ≤ Cb.length ∧ nth Cb 0 = some (.slice aP p.P.length cP) := by
      obtain ⟨aP, cP, aR, cR, Cb, hb, hl, n0, -⟩ := HPG.out
      exact ⟨aP, cP, Cb, hb, hl, n0⟩
    have c0 : 0 < Cb.length := by omega
    obtain ⟨dv, hdv⟩ : ∃ dv, dv = derT p T p.P.length := ⟨_, rfl⟩
    have HP : Hid (Q (.returned (.int .i64 (dv : Int))) W) := by
      show Q _ _
      rw [HQ.out, hdv]; exact ⟨rfl, rfl⟩
    rw [← hdv]
    clear hdv
    go_wp2_with fail
    try go_ret
    exact HP.out
set_option maxRecDepth 20000 in
set_option maxHeartbeats 1000000 in
theorem stats_any (B : Nat) (O : Own) (W : World) (g be : Nat) (p : Pg) (x : Engine) (S sav : List (List Tup)) (hE : EAt B O W g be p x S sav) : Calls Try.prog 31 #[.pointer (some ⟨be, 0, none⟩)] W fun e W' => e = .returned (.agg x.stats.enc.toArray) ∧ W.Extends W' := by
  obtain ⟨Q, hQ⟩ : ∃ Q, Q = (fun e W' => e = .returned (.agg x.stats.enc.toArray) ∧ W.Extends W' : Ending → World → Prop) := ⟨_, rfl⟩
  rw [← hQ]
  have HQ := hid_of hQ
  obtain ⟨bst, hcell, hfre, hxst, -⟩ := eat_st hE
  obtain ⟨X, hX⟩ : ∃ X, X = x.enc := ⟨_, rfl⟩
  have xl := Engine.length_enc x
  have hsg : seg X 9 4 = x.stats.enc := by rw [hX]; exact Engine.stats_get x
  rw [← hX] at hcell xl
  have ql := GStats.length_enc x.stats
  have lbe := blk_lt hcell
  have nbe : ¬ be = W.heap.size := by omega
  have nbe' : ¬ W.heap.size = be := by omega
  have l9 : 9 + 4 ≤ X.length := by omega
  have HF : Hid (∀ V, W.Extends V → Q (.returned (.agg x.stats.enc.toArray)) V) := by
    intro V hV
    rw [HQ.out]; exact ⟨rfl, hV⟩
  clear hQ hE hX hxst hfre
  go_enter Try.func31, Try.ntmps31
  go_wp2_with fail
  refine ret_cell (C := GStats.enc x.stats) rfl rfl ?_ (by kernel_rfl) (by rw [GStats.length_enc]; kernel_rfl) rfl (HF.out _ ?_)
  · first | (rw [blk_put, if_pos rfl, blk_alloc, if_pos rfl]; rfl) | (rw [blk_alloc, if_pos rfl])
  · first | exact extends_put (extends_alloc (ext_Ext (Ext.refl _)) _) (Nat.le_refl _) _ | exact extends_alloc (ext_Ext (Ext.refl _)) _
end Go.Proofs.Qxb6500788a
