import Derived.Test.Qxb6500788aSb
import Derived.StillTailTactics
import Derived.Deep.QuietTactic
import Derived.BigQuiet
import Derived.Deep.RegionHeld
import Derived.Deep.CutRange
import Derived.Laws.ResultCell
import Derived.Laws.Rows
import Derived.DeepKeys
import Derived.DataBytes
import Derived.Laws.StructEq
import Derived.Laws.AppendOwn
import Derived.Laws.MakeOwn
set_option linter.unusedSimpArgs false
set_option linter.unusedVariables false
namespace Go.Proofs.Qxb6500788a
open Go.RowKit Go.Blk
attribute [local go_sem ↓] execOp_load execOp_store execOp_alloc
attribute [local go_sem] Try.ld24 Try.st24 Try.ld25 Try.st25 Try.ld3 Try.st3 Try.ld30 Try.st30 Try.ld36 Try.st36 Try.ld4 Try.st4 Try.ld41 Try.st41 Try.ld50 Try.st50 Try.ld40 Try.st40 Try.ld42 Try.st42 Try.ld89 Try.st89 Try.ld91 Try.st91 Try.ld56 Try.st56 Try.ld97 Try.st97 Try.ld98 Try.st98 Try.ld101 Try.st101 Try.ld104 Try.st104 Try.ld57 Try.st57 Try.ld130 Try.st130 Try.ld2 Try.st2 Try.ld5 Try.st5 Try.ld9 Try.st9 Try.ld12 Try.st12 Try.ld21 Try.st21 Try.ld22 Try.st22 Try.ld29 Try.st29 Try.ld33 Try.st33 Try.ld59 Try.st59 Try.ld62 Try.st62 Try.ld69 Try.st69 Try.ld94 Try.st94 Try.ld96 Try.st96 Try.ld129 Try.st129 Try.ld158 Try.st158 Try.ld162 Try.st162 Try.ld47 Try.st47 Try.ld44 Try.st44 Try.ld137 Try.st137 Try.ld145 Try.st145 Try.ld43 Try.st43 Try.ld27 Try.st27 Try.ld38 Try.st38 Try.ld46 Try.st46 Try.ld49 Try.st49 Try.ld52 Try.st52 Try.ld54 Try.st54 Try.ld61 Try.st61 Try.ld80 Try.st80 Try.ld87 Try.st87 Try.ld93 Try.st93 Try.ld100 Try.st100 Try.ld103 Try.st103 Try.ld106 Try.st106 Try.ld109 Try.st109 Try.ld132 Try.st132 Try.ld147 Try.st147 Try.al47 Try.al44 Try.al137 Try.al145 Try.al43 Try.al27 Try.al38 Try.al46 Try.al49 Try.al52 Try.al54 Try.al61 Try.al80 Try.al87 Try.al93 Try.al100 Try.al103 Try.al106 Try.al109 Try.al132 Try.al147
attribute [local go_sem] GProgram.length_enc GProgram.ok_enc GProgram.all_get GProgram.all_set GProgram.preds_get GProgram.preds_set GProgram.rules_get GProgram.rules_set GProgram.strata_get GProgram.strata_set Answer.length_enc Answer.ok_enc Answer.all_get Answer.all_set Answer.code_get Answer.code_set Answer.n_get Answer.n_set Answer.rows_get Answer.rows_set Term.length_enc Term.ok_enc Term.all_get Term.all_set Term.var_get Term.var_set Term.n_get Term.n_set Atom.length_enc Atom.ok_enc Atom.all_get Atom.all_set Atom.pred_get Atom.pred_set Atom.args_get Atom.args_set GRule.length_enc GRule.ok_enc GRule.all_get GRule.all_set GRule.head_get GRule.head_set GRule.body_get GRule.body_set GRule.head_pred_get GRule.head_pred_set GRule.head_args_get GRule.head_args_set GOp.length_enc GOp.ok_enc GOp.all_get GOp.all_set GOp.kind_get GOp.kind_set GOp.pred_get GOp.pred_set GOp.t_get GOp.t_set GOp.n_get GOp.n_set GOp.base_get GOp.base_set GOp.rule_get GOp.rule_set GOp.rule_head_get GOp.rule_head_set GOp.rule_body_get GOp.rule_body_set GOp.rule_head_pred_get GOp.rule_head_pred_set GOp.rule_head_args_get GOp.rule_head_args_set PredInfo.length_enc PredInfo.ok_enc PredInfo.all_get PredInfo.all_set PredInfo.arity_get PredInfo.arity_set PredInfo.base_get PredInfo.base_set PredInfo.stratum_get PredInfo.stratum_set GStats.length_enc GStats.ok_enc GStats.all_get GStats.all_set GStats.rounds_get GStats.rounds_set GStats.fired_get GStats.fired_set GStats.emitted_get GStats.emitted_set GStats.fresh_get GStats.fresh_set Literal.length_enc Literal.ok_enc Literal.all_get Literal.all_set Literal.neg_get Literal.neg_set Literal.atom_get Literal.atom_set Literal.atom_pred_get Literal.atom_pred_set Literal.atom_args_get Literal.atom_args_set Engine.length_enc Engine.ok_enc Engine.all_get Engine.all_set Engine.prog_get Engine.prog_set Engine.st_get Engine.st_set Engine.levels_get Engine.levels_set Engine.running_get Engine.running_set Engine.stratum_get Engine.stratum_set Engine.round_get Engine.round_set Engine.saved_get Engine.saved_set Engine.stats_get Engine.stats_set Engine.prog_preds_get Engine.prog_preds_set Engine.prog_rules_get Engine.prog_rules_set Engine.prog_strata_get Engine.prog_strata_set Engine.stats_rounds_get Engine.stats_rounds_set Engine.stats_fired_get Engine.stats_fired_set Engine.stats_emitted_get Engine.stats_emitted_set Engine.stats_fresh_get Engine.stats_fresh_set Level.length_enc Level.ok_enc Level.all_get Level.all_set Level.heads_get Level.heads_set Level.jobs_get Level.jobs_set Plan.length_enc Plan.ok_enc Plan.all_get Plan.all_set Plan.rule_get Plan.rule_set Plan.delta_get Plan.delta_set Plan.src_get Plan.src_set Job.length_enc Job.ok_enc Job.all_get Job.all_set Job.full_get Job.full_set Job.deltas_get Job.deltas_set Job.full_rule_get Job.full_rule_set Job.full_delta_get Job.full_delta_set Job.full_src_get Job.full_src_set GState.length_enc GState.ok_enc GState.all_get GState.all_set GState.prog_get GState.prog_set GState.base_get GState.base_set GState.shown_get GState.shown_set GState.prog_preds_get GState.prog_preds_set GState.prog_rules_get GState.prog_rules_set GState.prog_strata_get GState.prog_strata_set Store.length_enc Store.ok_enc Store.all_get Store.all_set Store.arity_get Store.arity_set Store.rows_get Store.rows_set Env.length_enc Env.ok_enc Env.all_get Env.all_set Env.val_get Env.val_set Env.set_get Env.set_set
attribute [local go_sem] size_put size_ext blk_put free_put blk_alloc free_alloc blk_drew free_drew blk_ext free_ext lookOr_some putOr_some segAt_some cellAt_some storeIn_some put_put put_alloc_new length_arr ok_arr_u8 ok_arr_u32 ok_arr_u64 ok_arr_i64 ok_arr_sl cellsV_agg cellsV_int cellsV_bool cellsV_string cellsV_pointer cellsV_slice cellsV_sl ok_int ok_bool ok_string ok_pointer ok_slice ok_sl toList_arr seg_arr set_arr nth_splice nth_splice0 seg_splice seg_splice0 splice_splice splice_splice0 length_splice_if
attribute [local go_sem ↓] execOp_box
attribute [local go_sem] box_run nth_arr_u8 put_arr_u8 blk_drewN free_drewN put_drewN blk_raw free_raw
attribute [local go_sem] s_len s_n0 s_n1 s_s0 s_s1 eql44 neq44 bslice36
attribute [local go_sem ↓] execOp_eql44 execOp_neq44 execOp_build execOp_bslice
set_option maxRecDepth 20000 in
theorem full_any (W : World) (p : Nat) (hp : p ≤ 100) : Calls Try.prog 52 #[.int .i64 (p : Int)] W fun e W' => e = .returned (.int .i64 ((3 * p : Nat) : Int)) ∧ W' = W := by
  go_enter Try.func52, Try.ntmps52
  go_wp2_with fail
  try go_ret
  refine ⟨?_, rfl⟩
  show Ending.returned (Value.int .i64 _) = _
  go_num
set_option maxRecDepth 20000 in
theorem delta_any (W : World) (p : Nat) (hp : p ≤ 100) : Calls Try.prog 65 #[.int .i64 (p : Int)] W fun e W' => e = .returned (.int .i64 ((3 * p + 1 : Nat) : Int)) ∧ W' = W := by
  go_enter Try.func65, Try.ntmps65
  go_wp2_with fail
  try go_ret
  refine ⟨?_, rfl⟩
  show Ending.returned (Value.int .i64 _) = _
  go_num
set_option maxRecDepth 20000 in
theorem next_any (W : World) (p : Nat) (hp : p ≤ 100) : Calls Try.prog 68 #[.int .i64 (p : Int)] W fun e W' => e = .returned (.int .i64 ((3 * p + 2 : Nat) : Int)) ∧ W' = W := by
  go_enter Try.func68, Try.ntmps68
  go_wp2_with fail
  try go_ret
  refine ⟨?_, rfl⟩
  show Ending.returned (Value.int .i64 _) = _
  go_num
def liI (W0 : World) (bst r tn : Nat) (L : List Tup) (f : Nat → Value) (W : World) : Prop := f 0 = .pointer (some ⟨bst, 0, none⟩) ∧ f 1 = .int .i64 (r : Int) ∧ ∃ (i : Nat) (a : Option Addr) (c : Nat), i ≤ tn ∧ f 7 = .int .i64 (i : Nat) ∧ f 6 = .slice a i c ∧ Hid (Outs W0 W a i c (L.take i))
set_option maxRecDepth 100000 in
theorem frame38 (f : Nat → Value) : frameN 38 f = #[f 0, f 1, f 2, f 3, f 4, f 5, f 6, f 7, f 8, f 9, f 10, f 11, f 12, f 13, f 14, f 15, f 16, f 17, f 18, f 19, f 20, f 21, f 22, f 23, f 24, f 25, f 26, f 27, f 28, f 29, f 30, f 31, f 32, f 33, f 34, f 35, f 36, f 37] := by kernel_rfl
set_option maxRecDepth 20000 in
set_option maxHeartbeats 4000000 in
theorem list_any (B : Nat) (O : Own) (W : World) (g bst : Nat) (S : List (List Tup)) (h : SAt B O W g bst S) (r : Nat) (L : List Tup) (hL : S[r]? = some L) (h512 : L.length ≤ 512) : Calls Try.prog 51 #[.pointer (some ⟨bst, 0, none⟩), .int .i64 (r : Int)] W fun e W' => ∃ a c, e = .returned (.tuple #[.slice a L.length c, .int .i64 0]) ∧ Outs W W' a L.length c L := by
  have hk := known_any B O W g bst S h r L hL
  have HS := hid_of h
  have HL := hid_of hL
  obtain ⟨aa, an, ac, gr, rn, rc, Cr, ta, tn, tc, ho, _, _, _, _, hput⟩ := sat_open h hL
  obtain ⟨hb, hrn, hr, hC, hl, c1, hw⟩ := ho
  have d1 : r < Cr.length := by omega
  have q0 : (0 : Int) ≤ (r : Int) := by omega
  have q1 : (r : Int) < (rn : Int) := by omega
  have q2 : ((r : Int)).toNat = r := by omega
  clear hrn hr
  have hwn : tn ≤ 512 := by rw [← hw.1]; exact h512
  have HW := hid_of hw
  have HKM : Hid (blk W bst = some (sE aa an ac (some ⟨gr, 0, none⟩) rn rc) ∧ blk W gr = some Cr) := ⟨hb, hC⟩
  clear hput HS HL h hL hw hb hC
  go_enter Try.func51, Try.ntmps51
  go_wp2_with fail
  refine hk.mono ?_
  rintro e V ⟨rfl, rfl⟩
  clear hk
  dsimp only
  go_wp2_with fail
  refine wp_loop_f 38 (liI V bst r tn L) (fun f _ => tn - (intOf (f 7)).toNat) rfl ⟨rfl, rfl, 0, none, 0, by omega, rfl, rfl, Outs.nil _ _ (ext_Ext (Ext.refl _))⟩ ?_
  intro F W2 hrel
  obtain ⟨f0, f1, i, a, c, hi, f7, f6, HQ⟩ := hrel
  have H7 := hid_of f7
  rw [frame38, f0, f1, f6, f7]
  clear f0 f1 f6 f7
  have hE := HQ.out.2.1
  have hb : blk W2 bst = some (sE aa an ac (some ⟨gr, 0, none⟩) rn rc) := (hE.blk (blk_lt HKM.out.1)).trans HKM.out.1
  have hC : blk W2 gr = some Cr := (hE.blk (blk_lt HKM.out.2)).trans HKM.out.2
  by_cases hin : i < tn
  · have hin' : (i : Int) < (tn : Int) := by omega
    obtain ⟨x, hx⟩ : ∃ x, L[i]? = some x := ⟨_, List.getElem?_eq_getElem (by rw [HW.out.1]; exact hin)⟩
    obtain ⟨bn, Cn, rfl, hCn, hcn, _, un⟩ := tup_at (HW.out.ext' hE) hx
    have p0 : (0 : Int) ≤ (i : Int) := by omega
    have p2 : ((i : Int)).toNat = i := by omega
    have p5 : i * 4 < Cn.length := by omega
    obtain ⟨a', c', W3, hrun, hout3⟩ := HQ.out.app x (by rw [List.length_take]; omega)
    have HQ' : Hid (Outs V W3 a' (i + 1) c' (L.take (i + 1))) := by
      show Outs _ _ _ _ _ _
      rw [take_at hx]; exact hout3
    clear hout3 HQ hE hx
    go_wp2_with (at_builtin; refine wpList_append_run rfl _ _ 36 rfl _ _ _ _ rfl rfl hrun ?_)
    refine ⟨rfl, rfl, ⟨rfl, rfl, i + 1, _, _, by omega, ?_, rfl, HQ'⟩, ?_⟩
    · show Value.int .i64 _ = _
      go_num
    · show tn - (intOf (Value.int .i64 _)).toNat < tn - (intOf (F 7)).toNat
      rw [H7.out]
      simp [intOf]; omega
  · obtain rfl : i = tn := by omega
    have hin' : ¬ ((i : Int) < (i : Int)) := by omega
    have HQ' : Hid (Outs V W2 a L.length c L) := by
      have := HQ.out
      rw [List.take_of_length_le (by rw [HW.out.1]; omega)] at this
      show Outs _ _ _ _ _ _
      rw [HW.out.1]; exact this
    have hLi := HW.out.1
    have HLI := hid_of hLi
    clear HQ hE hLi
    go_wp2_with fail
    go_ret2
    exact ⟨a, c, by rw [HLI.out]; rfl, HQ'.out⟩
/-- Insert. -/
def insC (L : List Tup) (t : Tup) : Int := if t ∈ L then 1 else if L.length = 512 then 3 else 0
def insL (L : List Tup) (t : Tup) : List Tup := if t ∈ L then L else if L.length = 512 then L else L ++ [t]
theorem set_same {α : Type} {S : List α} {r : Nat} {L : α} (h : S[r]? = some L) : S.set r L = S := by
  apply List.ext_getElem?
  intro i
  rw [List.getElem?_set]
  by_cases e : r = i
  · subst e; rw [if_pos rfl, if_pos (List.getElem?_eq_some_iff.1 h).1, h]
  · rw [if_neg e]
theorem SOut.bef {B : Nat} {O : Own} {W W1 : World} {g bst : Nat} {S : List (List Tup)} {W' : World} (h : SOut B O W1 g bst S W') (hx : W.Extends W1) : SOut B O W g bst S W' := by
  obtain ⟨O', hF, hA⟩ := h
  exact ⟨O', (Fr.of_extends hx).trans hF, hA⟩
theorem sat_new {B : Nat} {O : Own} {W W1 : World} {g bst : Nat} {S : List (List Tup)} (h : SAt B O W g bst S) (hx : W.Extends W1) (l : Lab) : SAt B (lab O W.heap.size l) W1 g bst S := h.keep hx.size (fun k hk _ => ⟨hx.block k hk, lab_lt hk⟩)
theorem sout_lab {B : Nat} {O : Own} {W W1 : World} {l : Lab} {g bst : Nat} {S : List (List Tup)} {W' : World} (h : SOut B (lab O W.heap.size l) W1 g bst S W') (hx : W.Extends W1) : SOut B O W g bst S W' := by
  obtain ⟨O', hF, hA⟩ := h
  exact ⟨O', ⟨hF.os.trans hx.os, hF.tape.trans hx.tape, hF.output.trans hx.output, Nat.le_trans hx.size hF.size, fun k hk => (hF.keep k (Nat.lt_of_lt_of_le hk hx.size)).trans (lab_lt hk), fun k hk hn => (hF.block k (Nat.lt_of_lt_of_le hk hx.size) (by rw [lab_lt hk]; exact hn)).trans (hx.block k hk)⟩, hA⟩
set_option maxRecDepth 20000 in
set_option maxHeartbeats 4000000 in
theorem insert_any (B : Nat) (O : Own) (W : World) (g bst : Nat) (S : List (List Tup)) (h : SAt B O W g bst S) (r : Nat) (L : List Tup) (hL : S[r]? = some L) (h512 : L.length ≤ 512) (t : Tup) : Calls Try.prog 55 #[.pointer (some ⟨bst, 0, none⟩), .int .i64 (r : Int), .agg (arr i64v t).toArray] W fun e W' => e = .returned (.int .i64 (insC L t)) ∧ SOut B O W g bst (S.set r (insL L t)) W' := by
  have HS := hid_of h
  have HL := hid_of hL
  obtain ⟨Q, hQ⟩ : ∃ Q, Q = (fun e W' => e = .returned (.int .i64 (insC L t)) ∧ SOut B O W g bst (S.set r (insL L t)) W' : Ending → World → Prop) := ⟨_, rfl⟩
  rw [← hQ]
  have HQ := hid_of hQ
  clear hQ h hL
  go_enter Try.func55, Try.ntmps55
  go_upto_region 1 with fail
  refine wp_world (fun W0 => blk W0 W.heap.size = some (arr i64v t) ∧ W.Extends W0) ⟨?_, extends_alloc (ext_Ext (Ext.refl _)) _⟩ ?_
  · rw [blk_alloc, if_pos rfl]
  rintro W1 ⟨hb5, hx1⟩
  obtain ⟨b5, e5⟩ : ∃ b5, b5 = W.heap.size := ⟨_, rfl⟩
  rw [← e5] at hb5 ⊢
  have hn5 : W.heap.size ≤ b5 := by omega
  have hxW := hx1
  have hct := contains_any B O W1 g bst S (HS.out.ext hx1) r L HL.out h512 t
  obtain ⟨O1, hO1⟩ : ∃ O1, O1 = lab O W.heap.size .no := ⟨_, rfl⟩
  have hM1 : SAt B O1 W1 g bst S := by rw [hO1]; exact sat_new HS.out hx1 _
  have HM1 := hid_of hM1
  have HF : Hid (∀ S' V, SOut B O1 W1 g bst S' V → SOut B O W g bst S' V) := by
    intro S' V h
    rw [hO1] at h
    exact sout_lab h hx1
  have HO5 : Hid (O1 b5 = .no) := by show O1 b5 = .no; rw [hO1]; exact lab_ge hn5
  clear e5 hx1 hxW hM1 hO1 hn5
  go_wp2_with fail
  refine hct.mono ?_
  rintro e V1 ⟨rfl, hx1⟩
  have hb51 : blk V1 b5 = some (arr i64v t) := (hx1.blk (blk_lt hb5)).trans hb5
  have hM2 := HM1.out.ext hx1
  have HM2 := hid_of hM2
  have HX1 := hid_of hx1
  clear hct hb5 hx1
  dsimp only
  by_cases hin : t ∈ L
  · have hde : decide (t ∈ L) = true := decide_eq_true hin
    have HP : Hid (Q (.returned (.int .i64 1)) V1) := by
      show Q _ _
      rw [HQ.out]
      have e1 : insC L t = 1 := if_pos hin
      have e2 : insL L t = L := if_pos hin
      rw [e1, e2, set_same HL.out]
      exact ⟨rfl, HF.out _ _ (sout_same HM1.out HX1.out)⟩
    clear hM2 hin HF HM1 HM2
    go_wp2_with fail
    try go_ret
    exact HP.out
  have hde : decide (t ∈ L) = false := decide_eq_false hin
  have hd1 : V1.Extends V1.drew := extends_drew (ext_Ext (Ext.refl _))
  obtain ⟨aa, an, ac, gr, rn, rc, Cr, ta, tn, tc, ho, hB1, hogr, hobst, hrow, hput⟩ := sat_open (hM2.ext hd1) HL.out
  obtain ⟨hbm, hrn, hr, hC, hl, c1, hw⟩ := ho
  have hwl := hw.1
  have hbm' : blk V1 bst = some (sE aa an ac (some ⟨gr, 0, none⟩) rn rc) := hbm
  have hC' : blk V1 gr = some Cr := hC
  have d1 : r < Cr.length := by omega
  have q0 : (0 : Int) ≤ (r : Int) := by omega
  have q1 : (r : Int) < (rn : Int) := by omega
  have q2 : ((r : Int)).toNat = r := by omega
  by_cases hfull : tn = 512
  · have HP : Hid (Q (.returned (.int .i64 3)) V1) := by
      show Q _ _
      rw [HQ.out]
      have e1 : insC L t = 3 := by unfold insC; rw [if_neg hin, if_pos (by omega)]
      have e2 : insL L t = L := by unfold insL; rw [if_neg hin, if_pos (by omega)]
      rw [e1, e2, set_same HL.out]
      exact ⟨rfl, HF.out _ _ (sout_same HM1.out HX1.out)⟩
    subst hfull
    clear hput hM2 hin HF HM1 HM2 hrn hr hw hwl hbm hC hrow hd1
    go_wp2_with fail
    try go_ret
    exact HP.out
  have hfull' : ¬ (tn : Int) = 512 := by omega
  have hfullb : ((tn : Int) == 512) = false := by simp; omega
  obtain ⟨ta', tc', W2, hrun, hrow2, hfr⟩ := appL tpl 4 32 36 44 Try.underlying36 info44 tpl_len tpl_one (by omega) (by omega) (W := V1.drew) 36 t hrow hB1 (by omega) (arr i64v t).toArray rfl 1
  obtain ⟨hbm2, hgr2, hgf2, hout⟩ := hput _ W2 ta' (tn + 1) tc' (L ++ [t]) hfr hrow2
  have HP : Hid (Q (.returned (.int .i64 0)) (put W2 gr (splice Cr r [.slice ta' (tn + 1) tc']))) := by
    show Q _ _
    rw [HQ.out]
    have e1 : insC L t = 0 := by unfold insC; rw [if_neg hin, if_neg (by omega)]
    have e2 : insL L t = L ++ [t] := by unfold insL; rw [if_neg hin, if_neg (by omega)]
    rw [e1, e2]
    exact ⟨rfl, HF.out _ _ ((hout.bef hd1).bef HX1.out)⟩
  have ho5 : ¬ O1 b5 = .a g (3 + r) := by
    rw [HO5.out]; intro e; cases e
  have hb53 : blk W2 b5 = some (arr i64v t) := hfr.blk hb51 ho5
  have hng5 : ¬ b5 = gr := by
    intro e
    rw [← e, HO5.out] at hogr; cases hogr
  have hngb : ¬ bst = gr := by
    intro e
    rw [← e, hobst] at hogr; injection hogr with _ e; cases e
  have hS0 : ∀ X, blk (V1.drew.alloc X) bst = some (sE aa an ac (some ⟨gr, 0, none⟩) rn rc) ∧ blk (V1.drew.alloc X) b5 = some (arr i64v t) := fun X => ⟨((extends_alloc (ext_Ext (Ext.refl _)) _ : V1.drew.Extends _).blk (blk_lt hbm)).trans hbm, ((extends_alloc (ext_Ext (Ext.refl _)) _ : V1.drew.Extends _).blk (blk_lt hb51)).trans hb51⟩
  have hSP : blk (put W2 gr (splice Cr r [.slice ta' (tn + 1) tc'])) bst = some (sE aa an ac (some ⟨gr, 0, none⟩) rn rc) ∧ blk (put W2 gr (splice Cr r [.slice ta' (tn + 1) tc'])) b5 = some (arr i64v t) := ⟨by rw [blk_put, if_neg hngb]; exact hbm2, by rw [blk_put, if_neg hng5]; exact hb53⟩
  have ngA : ¬ gr = V1.heap.size := Nat.ne_of_lt (blk_lt hC')
  clear hput hfr hrow hrow2 hout hrn hr hd1 hM2 hw hwl ho5 HF HM1 HM2 hogr hobst hin
  go_upto_region 8 with fail
  refine wp_region_held_drew (S := fun W' => blk W' bst = some (sE aa an ac (some ⟨gr, 0, none⟩) rn rc) ∧ blk W' b5 = some (arr i64v t)) (by kernel_rfl) ⟨hbm', hb51⟩ (fun hHeld => ?_)
  refine wpAnyH_take (i := 0) (oi := ⟨_, _, _, _, _, _⟩) (v := ?_) rfl (by kernel_rfl) (by kernel_rfl) (by kernel_rfl) (fun _ _ _ h => h) (Or.inl ⟨by rfl, ?_⟩) (by assumption) ?_
  rotate_left 1
  · intro W' hSw
    obtain ⟨hS1, hS2⟩ := hSw
    go_simp
    try with_reducible rfl
  try simp only [Act.put, List.setIfInBounds_toArray, List.set_cons_zero, List.set_cons_succ]
  refine wpAnyH_take (i := 1) (oi := ⟨_, _, _, _, _, _⟩) (v := ?_) rfl (by kernel_rfl) (by kernel_rfl) (by kernel_rfl) (fun _ _ _ h => h) (Or.inl ⟨by rfl, ?_⟩) (by assumption) ?_
  rotate_left 1
  · intro W' hSw
    obtain ⟨hS1, hS2⟩ := hSw
    go_simp
    try with_reducible rfl
  try simp only [Act.put, List.setIfInBounds_toArray, List.set_cons_zero, List.set_cons_succ]
  refine wpAnyH_take (i := 2) (oi := ⟨_, _, _, _, _, _⟩) (v := ?_) rfl (by kernel_rfl) (by kernel_rfl) (by kernel_rfl) (fun _ _ _ h => h) (Or.inl ⟨by rfl, ?_⟩) (by assumption) ?_
  rotate_left 1
  · intro W' hSw
    obtain ⟨hS1, hS2⟩ := hSw
    go_simp
    try with_reducible rfl
  try simp only [Act.put, List.setIfInBounds_toArray, List.set_cons_zero, List.set_cons_succ]
  refine wpAnyH_take (i := 3) (oi := ⟨_, _, _, _, _, _⟩) (v := ?_) rfl (by kernel_rfl) (by kernel_rfl) (by kernel_rfl) (fun _ _ _ h => h) (Or.inl ⟨by rfl, ?_⟩) (by assumption) ?_
  rotate_left 1
  · intro W' hSw
    obtain ⟨hS1, hS2⟩ := hSw
    go_simp
    try with_reducible rfl
  try simp only [Act.put, List.setIfInBounds_toArray, List.set_cons_zero, List.set_cons_succ]
  refine wpAnyH_take (i := 4) (oi := ⟨_, _, _, _, _, _⟩) (v := ?_) rfl (by kernel_rfl) (by kernel_rfl) (by kernel_rfl) (fun _ _ _ h => h) (Or.inl ⟨by rfl, ?_⟩) (by assumption) ?_
  rotate_left 1
  · intro W' hSw
    obtain ⟨hS1, hS2⟩ := hSw
    go_simp
    try with_reducible rfl
  try simp only [Act.put, List.setIfInBounds_toArray, List.set_cons_zero, List.set_cons_succ]
  refine wpAnyH_take (i := 5) (oi := ⟨_, _, _, _, _, _⟩) (v := ?_) rfl (by kernel_rfl) (by kernel_rfl) (by kernel_rfl) (fun _ _ _ h => h) (Or.inl ⟨by rfl, ?_⟩) (by assumption) ?_
  rotate_left 1
  · intro W' hSw
    obtain ⟨hS1, hS2⟩ := hSw
    go_simp
    try with_reducible rfl
  try simp only [Act.put, List.setIfInBounds_toArray, List.set_cons_zero, List.set_cons_succ]
  refine wpAnyH_take (i := 6) (oi := ⟨_, _, _, _, _, _⟩) (v := ?_) rfl (by kernel_rfl) (by kernel_rfl) (by kernel_rfl) (fun _ _ _ h => h) (Or.inl ⟨by rfl, ?_⟩) (by assumption) ?_
  rotate_left 1
  · intro W' hSw
    obtain ⟨hS1, hS2⟩ := hSw
    go_simp
    try with_reducible rfl
  try simp only [Act.put, List.setIfInBounds_toArray, List.set_cons_zero, List.set_cons_succ]
  refine wpAnyH_take (i := 7) (oi := ⟨_, _, _, _, _, _⟩) (v := ?_) rfl (by kernel_rfl) (by kernel_rfl) (by kernel_rfl) (fun _ _ _ h => h) (Or.inl ⟨by rfl, ?_⟩) (by assumption) ?_
  rotate_left 1
  · intro W' hSw
    obtain ⟨hS1, hS2⟩ := hSw
    go_simp
    try with_reducible rfl
  try simp only [Act.put, List.setIfInBounds_toArray, List.set_cons_zero, List.set_cons_succ]
  refine wpAnyH_take (i := 8) (oi := ⟨_, _, _, _, _, _⟩) (v := ?_) rfl (by kernel_rfl) (by kernel_rfl) (by kernel_rfl) (fun _ _ _ h => h) (Or.inl ⟨by rfl, ?_⟩) (by assumption) ?_
  rotate_left 1
  · intro W' hSw
    obtain ⟨hS1, hS2⟩ := hSw
    go_simp
    try with_reducible rfl
  try simp only [Act.put, List.setIfInBounds_toArray, List.set_cons_zero, List.set_cons_succ]
  refine wpAnyH_take (i := 9) (oi := ⟨_, _, _, _, _, _⟩) (v := ?_) rfl (by kernel_rfl) (by kernel_rfl) (by kernel_rfl) (fun _ _ _ h => h) (Or.inl ⟨by rfl, ?_⟩) (by assumption) ?_
  rotate_left 1
  · intro W' hSw
    obtain ⟨hS1, hS2⟩ := hSw
    go_simp
    try with_reducible rfl
  try simp only [Act.put, List.setIfInBounds_toArray, List.set_cons_zero, List.set_cons_succ]
  refine wpAnyH_take (i := 10) (oi := ⟨_, _, _, _, _, _⟩) (v := ?_) rfl (by kernel_rfl) (by kernel_rfl) (by kernel_rfl) (fun _ _ _ h => h) (Or.inl ⟨by rfl, ?_⟩) (by assumption) ?_
  rotate_left 1
  · intro W' hSw
    obtain ⟨hS1, hS2⟩ := hSw
    go_simp
    try with_reducible rfl
  try simp only [Act.put, List.setIfInBounds_toArray, List.set_cons_zero, List.set_cons_succ]
  refine wpAnyH_take (i := 12) (oi := ⟨_, _, _, _, _, _⟩) (v := ?_) rfl (by kernel_rfl) (by kernel_rfl) (by kernel_rfl) (fun _ _ _ h => h) (Or.inl ⟨by rfl, ?_⟩) (by assumption) ?_
  rotate_left 1
  · intro W' hSw
    obtain ⟨hS1, hS2⟩ := hSw
    go_simp
    try with_reducible rfl
  try simp only [Act.put, List.setIfInBounds_toArray, List.set_cons_zero, List.set_cons_succ]
  refine wpAnyH_ready (rs := [11, 13]) (by kernel_rfl) (by simp) ?_
  refine AllReadyH.cons (o := ⟨_, _, _, _, _, _⟩) rfl (fun K' hK => ?_) (AllReadyH.cons (o := ⟨_, _, _, _, _, _⟩) rfl (fun K' hK => ?_) AllReadyH.nil)
  · go_simp
    refine hK.out _ _ ⟨hbm, hb51⟩ (fun hHeld => ?_)
    clear hK K'
    try simp only [Act.put, List.setIfInBounds_toArray, List.set_cons_zero, List.set_cons_succ]
    refine wpAnyH_ready (rs := [13]) (by kernel_rfl) (by simp) ?_
    refine AllReadyH.cons (o := ⟨_, _, _, _, _, _⟩) rfl (fun K' hK => ?_) AllReadyH.nil
    go_simp
    refine hK.out _ _ (hS0 _) (fun hHeld => ?_)
    clear hK K'
    try simp only [Act.put, List.setIfInBounds_toArray, List.set_cons_zero, List.set_cons_succ]
    refine wpAnyH_ready (rs := [14]) (by kernel_rfl) (by simp) ?_
    refine AllReadyH.cons (o := ⟨_, _, _, _, _, _⟩) rfl (fun K' hK => ?_) AllReadyH.nil
    refine wp_append_run _ _ 36 rfl _ _ _ _ rfl rfl hrun ?_
    refine hK.out _ _ ⟨hbm2, hb53⟩ (fun hHeld => ?_)
    clear hK K'
    try simp only [Act.put, List.setIfInBounds_toArray, List.set_cons_zero, List.set_cons_succ]
    refine wpAnyH_take (i := 15) (oi := ⟨_, _, _, _, _, _⟩) (v := ?_) rfl (by kernel_rfl) (by kernel_rfl) (by kernel_rfl) (fun _ _ _ h => h) (Or.inl ⟨by rfl, ?_⟩) (by assumption) ?_
    rotate_left 1
    · intro W' hSw
      obtain ⟨hS1, hS2⟩ := hSw
      go_simp
      try with_reducible rfl
    try simp only [Act.put, List.setIfInBounds_toArray, List.set_cons_zero, List.set_cons_succ]
    refine wpAnyH_ready (rs := [16]) (by kernel_rfl) (by simp) ?_
    refine AllReadyH.cons (o := ⟨_, _, _, _, _, _⟩) rfl (fun K' hK => ?_) AllReadyH.nil
    go_simp
    refine hK.out _ _ hSP (fun hHeld => ?_)
    clear hK K'
    try simp only [Act.put, List.setIfInBounds_toArray, List.set_cons_zero, List.set_cons_succ]
    refine wpAnyH_done (by kernel_rfl) ?_ _
    obtain ⟨V3, hV3⟩ : ∃ V3, V3 = put W2 gr (splice Cr r [.slice ta' (tn + 1) tc']) := ⟨_, rfl⟩
    rw [← hV3] at HP ⊢
    clear hV3 hSP hS0 hrun hbm hbm2
    go_wp2_with fail
    try go_ret
    exact HP.out
  · go_simp
    refine hK.out _ _ (hS0 _) (fun hHeld => ?_)
    clear hK K'
    try simp only [Act.put, List.setIfInBounds_toArray, List.set_cons_zero, List.set_cons_succ]
    refine wpAnyH_ready (rs := [11]) (by kernel_rfl) (by simp) ?_
    refine AllReadyH.cons (o := ⟨_, _, _, _, _, _⟩) rfl (fun K' hK => ?_) AllReadyH.nil
    go_simp
    refine hK.out _ _ (hS0 _) (fun hHeld => ?_)
    clear hK K'
    try simp only [Act.put, List.setIfInBounds_toArray, List.set_cons_zero, List.set_cons_succ]
    refine wpAnyH_ready (rs := [14]) (by kernel_rfl) (by simp) ?_
    refine AllReadyH.cons (o := ⟨_, _, _, _, _, _⟩) rfl (fun K' hK => ?_) AllReadyH.nil
    refine wp_append_run _ _ 36 rfl _ _ _ _ rfl rfl hrun ?_
    refine hK.out _ _ ⟨hbm2, hb53⟩ (fun hHeld => ?_)
    clear hK K'
    try simp only [Act.put, List.setIfInBounds_toArray, List.set_cons_zero, List.set_cons_succ]
    refine wpAnyH_take (i := 15) (oi := ⟨_, _, _, _, _, _⟩) (v := ?_) rfl (by kernel_rfl) (by kernel_rfl) (by kernel_rfl) (fun _ _ _ h => h) (Or.inl ⟨by rfl, ?_⟩) (by assumption) ?_
    rotate_left 1
    · intro W' hSw
      obtain ⟨hS1, hS2⟩ := hSw
      go_simp
      try with_reducible rfl
    try simp only [Act.put, List.setIfInBounds_toArray, List.set_cons_zero, List.set_cons_succ]
    refine wpAnyH_ready (rs := [16]) (by kernel_rfl) (by simp) ?_
    refine AllReadyH.cons (o := ⟨_, _, _, _, _, _⟩) rfl (fun K' hK => ?_) AllReadyH.nil
    go_simp
    refine hK.out _ _ hSP (fun hHeld => ?_)
    clear hK K'
    try simp only [Act.put, List.setIfInBounds_toArray, List.set_cons_zero, List.set_cons_succ]
    refine wpAnyH_done (by kernel_rfl) ?_ _
    obtain ⟨V3, hV3⟩ : ∃ V3, V3 = put W2 gr (splice Cr r [.slice ta' (tn + 1) tc']) := ⟨_, rfl⟩
    rw [← hV3] at HP ⊢
    clear hV3 hSP hS0 hrun hbm hbm2
    go_wp2_with fail
    try go_ret
    exact HP.out
end Go.Proofs.Qxb6500788a
