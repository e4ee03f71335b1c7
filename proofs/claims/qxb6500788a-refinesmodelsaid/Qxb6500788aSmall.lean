import Derived.Test.Qxb6500788aLaw
import Derived.StillTailTactics
import Derived.Deep.QuietTactic
import Derived.BigQuiet
import Derived.Deep.RegionHeld
import Derived.Deep.CutRange
import Derived.Laws.ResultCell
import Derived.Laws.Rows
import Derived.DeepKeys
import Derived.DataBytes
import Derived.Laws.StructEq
import Derived.Laws.AppendOwn
set_option linter.unusedSimpArgs false
set_option linter.unusedVariables false
namespace Go.Proofs.Qxb6500788a
open Go.RowKit Go.Blk
attribute [local go_sem ↓] execOp_load execOp_store execOp_alloc
attribute [local go_sem] Try.ld24 Try.st24 Try.ld25 Try.st25 Try.ld3 Try.st3 Try.ld30 Try.st30 Try.ld36 Try.st36 Try.ld4 Try.st4 Try.ld41 Try.st41 Try.ld50 Try.st50 Try.ld40 Try.st40 Try.ld42 Try.st42 Try.ld89 Try.st89 Try.ld91 Try.st91 Try.ld56 Try.st56 Try.ld97 Try.st97 Try.ld98 Try.st98 Try.ld101 Try.st101 Try.ld104 Try.st104 Try.ld57 Try.st57 Try.ld130 Try.st130 Try.ld2 Try.st2 Try.ld5 Try.st5 Try.ld9 Try.st9 Try.ld12 Try.st12 Try.ld21 Try.st21 Try.ld22 Try.st22 Try.ld29 Try.st29 Try.ld33 Try.st33 Try.ld59 Try.st59 Try.ld62 Try.st62 Try.ld69 Try.st69 Try.ld94 Try.st94 Try.ld96 Try.st96 Try.ld129 Try.st129 Try.ld158 Try.st158 Try.ld162 Try.st162 Try.ld47 Try.st47 Try.ld44 Try.st44 Try.ld137 Try.st137 Try.ld145 Try.st145 Try.ld43 Try.st43 Try.ld27 Try.st27 Try.ld38 Try.st38 Try.ld46 Try.st46 Try.ld49 Try.st49 Try.ld52 Try.st52 Try.ld54 Try.st54 Try.ld61 Try.st61 Try.ld80 Try.st80 Try.ld87 Try.st87 Try.ld93 Try.st93 Try.ld100 Try.st100 Try.ld103 Try.st103 Try.ld106 Try.st106 Try.ld109 Try.st109 Try.ld132 Try.st132 Try.ld147 Try.st147 Try.al47 Try.al44 Try.al137 Try.al145 Try.al43 Try.al27 Try.al38 Try.al46 Try.al49 Try.al52 Try.al54 Try.al61 Try.al80 Try.al87 Try.al93 Try.al100 Try.al103 Try.al106 Try.al109 Try.al132 Try.al147
attribute [local go_sem] GProgram.length_enc GProgram.ok_enc GProgram.all_get GProgram.all_set GProgram.preds_get GProgram.preds_set GProgram.rules_get GProgram.rules_set GProgram.strata_get GProgram.strata_set Answer.length_enc Answer.ok_enc Answer.all_get Answer.all_set Answer.code_get Answer.code_set Answer.n_get Answer.n_set Answer.rows_get Answer.rows_set Term.length_enc Term.ok_enc Term.all_get Term.all_set Term.var_get Term.var_set Term.n_get Term.n_set Atom.length_enc Atom.ok_enc Atom.all_get Atom.all_set Atom.pred_get Atom.pred_set Atom.args_get Atom.args_set GRule.length_enc GRule.ok_enc GRule.all_get GRule.all_set GRule.head_get GRule.head_set GRule.body_get GRule.body_set GRule.head_pred_get GRule.head_pred_set GRule.head_args_get GRule.head_args_set GOp.length_enc GOp.ok_enc GOp.all_get GOp.all_set GOp.kind_get GOp.kind_set GOp.pred_get GOp.pred_set GOp.t_get GOp.t_set GOp.n_get GOp.n_set GOp.base_get GOp.base_set GOp.rule_get GOp.rule_set GOp.rule_head_get GOp.rule_head_set GOp.rule_body_get GOp.rule_body_set GOp.rule_head_pred_get GOp.rule_head_pred_set GOp.rule_head_args_get GOp.rule_head_args_set PredInfo.length_enc PredInfo.ok_enc PredInfo.all_get PredInfo.all_set PredInfo.arity_get PredInfo.arity_set PredInfo.base_get PredInfo.base_set PredInfo.stratum_get PredInfo.stratum_set GStats.length_enc GStats.ok_enc GStats.all_get GStats.all_set GStats.rounds_get GStats.rounds_set GStats.fired_get GStats.fired_set GStats.emitted_get GStats.emitted_set GStats.fresh_get GStats.fresh_set Literal.length_enc Literal.ok_enc Literal.all_get Literal.all_set Literal.neg_get Literal.neg_set Literal.atom_get Literal.atom_set Literal.atom_pred_get Literal.atom_pred_set Literal.atom_args_get Literal.atom_args_set Engine.length_enc Engine.ok_enc Engine.all_get Engine.all_set Engine.prog_get Engine.prog_set Engine.st_get Engine.st_set Engine.levels_get Engine.levels_set Engine.running_get Engine.running_set Engine.stratum_get Engine.stratum_set Engine.round_get Engine.round_set Engine.saved_get Engine.saved_set Engine.stats_get Engine.stats_set Engine.prog_preds_get Engine.prog_preds_set Engine.prog_rules_get Engine.prog_rules_set Engine.prog_strata_get Engine.prog_strata_set Engine.stats_rounds_get Engine.stats_rounds_set Engine.stats_fired_get Engine.stats_fired_set Engine.stats_emitted_get Engine.stats_emitted_set Engine.stats_fresh_get Engine.stats_fresh_set Level.length_enc Level.ok_enc Level.all_get Level.all_set Level.heads_get Level.heads_set Level.jobs_get Level.jobs_set Plan.length_enc Plan.ok_enc Plan.all_get Plan.all_set Plan.rule_get Plan.rule_set Plan.delta_get Plan.delta_set Plan.src_get Plan.src_set Job.length_enc Job.ok_enc Job.all_get Job.all_set Job.full_get Job.full_set Job.deltas_get Job.deltas_set Job.full_rule_get Job.full_rule_set Job.full_delta_get Job.full_delta_set Job.full_src_get Job.full_src_set GState.length_enc GState.ok_enc GState.all_get GState.all_set GState.prog_get GState.prog_set GState.base_get GState.base_set GState.shown_get GState.shown_set GState.prog_preds_get GState.prog_preds_set GState.prog_rules_get GState.prog_rules_set GState.prog_strata_get GState.prog_strata_set Store.length_enc Store.ok_enc Store.all_get Store.all_set Store.arity_get Store.arity_set Store.rows_get Store.rows_set Env.length_enc Env.ok_enc Env.all_get Env.all_set Env.val_get Env.val_set Env.set_get Env.set_set
attribute [local go_sem] size_put size_ext blk_put free_put blk_alloc free_alloc blk_drew free_drew blk_ext free_ext lookOr_some putOr_some segAt_some cellAt_some storeIn_some put_put put_alloc_new length_arr ok_arr_u8 ok_arr_u32 ok_arr_u64 ok_arr_i64 ok_arr_sl cellsV_agg cellsV_int cellsV_bool cellsV_string cellsV_pointer cellsV_slice cellsV_sl ok_int ok_bool ok_string ok_pointer ok_slice ok_sl toList_arr seg_arr set_arr nth_splice nth_splice0 seg_splice seg_splice0 splice_splice splice_splice0 length_splice_if
attribute [local go_sem ↓] execOp_box
attribute [local go_sem] box_run nth_arr_u8 put_arr_u8 blk_drewN free_drewN put_drewN blk_raw free_raw
theorem ScriptAt.mono {W W' : World} {a : Option Addr} {len cap : Nat} {g : Nat → GOp} {dt : Nat → List Literal} (h : ScriptAt W a len cap g dt) (he : W.Extends W') : ScriptAt W' a len cap g dt := by
  obtain ⟨h1, h2, h3, h4⟩ := h
  refine ⟨h1, h2, fun i hi => ?_, fun h0 => ?_⟩
  · obtain ⟨⟨e1, e2, e3, e4⟩, e5⟩ := h3 i hi
    refine ⟨⟨e1, e2, e3, fun h0 => ?_⟩, e5⟩
    obtain ⟨bp, op, C, ha, hC, hl⟩ := e4 h0
    exact ⟨bp, op, C, ha, (he.blk (blk_lt hC)).trans hC, hl⟩
  · obtain ⟨b, o, C, ha, hC, hl⟩ := h4 h0
    exact ⟨b, o, C, ha, (he.blk (blk_lt hC)).trans hC, hl⟩
set_option maxRecDepth 100000 in
theorem frame26 (f : Nat → Value) : frameN 26 f = #[f 0, f 1, f 2, f 3, f 4, f 5, f 6, f 7, f 8, f 9, f 10, f 11, f 12, f 13, f 14, f 15, f 16, f 17, f 18, f 19, f 20, f 21, f 22, f 23, f 24, f 25] := by kernel_rfl
def zsI (w : World) (a : Option Addr) (len cap : Nat) (g : Nat → GOp) (f : Nat → Value) (W : World) : Prop :=
  f 0 = .slice a len cap ∧ W = w ∧ ∃ (i n : Nat), i ≤ len ∧ f 4 = .int .i64 (i : Nat) ∧ f 3 = .int .i64 (n : Nat) ∧ n ≤ 65536 ∧ ∀ j, j < i → (g j).rule.body.len ≤ 65536
set_option maxRecDepth 20000 in
set_option maxHeartbeats 2000000 in
theorem small_any (w : World) (a : Option Addr) (len cap : Nat) (g : Nat → GOp) (dt : Nat → List Literal) (hS : ScriptAt w a len cap g dt) :
    Calls Try.prog 9 #[.slice a len cap] w fun e w' => (∃ r : Bool, e = .returned (.bool r) ∧ (r = true → len ≤ 65536 ∧ ∀ i, i < len → (g i).rule.body.len ≤ 65536)) ∧ w' = w := by
  have HS : Hid (ScriptAt w a len cap g dt) := hS
  have hm : len ≤ 9223372036854775807 := by have := hS.1; have := hS.2.1; simp only [maxLen] at this; omega
  clear hS
  by_cases hl : len ≤ 65536
  · have hl' : ¬ (65536 : Int) < (len : Int) := by omega
    go_enter Try.func9, Try.ntmps9
    go_wp2_with fail
    refine wp_loop_f 26 (zsI w a len cap g) (fun f _ => len - (intOf (f 4)).toNat) rfl ?_ ?_
    · exact ⟨rfl, rfl, 0, len, by omega, rfl, rfl, hl, fun j h => by omega⟩
    intro F W hrel
    obtain ⟨h0, rfl, i, n, hi, h4, h3, hn, hall⟩ := hrel
    have H4 : Hid (F 4 = .int .i64 (i : Nat)) := h4
    have HA : Hid (∀ j, j < i → (g j).rule.body.len ≤ 65536) := hall
    rw [frame26, h0, h3, h4]
    clear h0 h3 h4 hall
    by_cases hil : i < len
    · obtain ⟨b, o, C, rfl, hC, hlen, hseg⟩ := HS.out.2.2.2 (by omega)
      have hs := hseg i hil
      have hdl := HS.out.2.2.1 i hil
      obtain ⟨s, hsd⟩ : ∃ s, s = (g i).rule.body := ⟨_, rfl⟩
      have hnth : nth C (o + i * 18 + 17) = some (Sl.val s) := by
        have h1 := GOp.rule_body_get (g i)
        rw [← hs, ← hsd] at h1
        unfold nth at h1 ⊢
        unfold seg at h1
        rw [List.getElem?_take, if_pos (by omega), List.getElem?_drop] at h1
        exact h1
      have hsm : s.len ≤ 140737488351232 := by rw [hsd]; exact hdl.2
      obtain ⟨sa, sl, sc⟩ := s
      have HSD : Hid ((⟨sa, sl, sc⟩ : Sl) = (g i).rule.body) := hsd
      simp only [Sl.val] at hnth hsm
      clear hseg hs hdl hsd
      have q0 : (0 : Int) ≤ (i : Int) := by omega
      have q1 : (i : Int) < (len : Int) := by omega
      have q2 : ((i : Int)).toNat = i := by omega
      by_cases hbig : n + sl ≤ 65536
      · go_wp2_with fail
        refine ⟨rfl, rfl, ?_, ?_⟩
        · refine ⟨rfl, rfl, i + 1, n + sl, by omega, ?_, ?_, hbig, fun j hj => ?_⟩
          · show Value.int .i64 _ = _
            go_num
          · show Value.int .i64 _ = _
            go_num
          · by_cases hji : j = i
            · subst hji; rw [← HSD.out]; show sl ≤ 65536; omega
            · exact HA.out j (by omega)
        · show len - (intOf (Value.int .i64 _)).toNat < len - (intOf (F 4)).toNat
          rw [H4.out]
          simp [intOf]; omega
      · go_wp2_with fail
        go_ret
        exact ⟨⟨false, rfl, fun h => by simp at h⟩, rfl⟩
    · obtain rfl : i = len := by omega
      go_wp2_with fail
      go_ret
      exact ⟨⟨true, rfl, fun _ => ⟨hl, HA.out⟩⟩, rfl⟩
  · have hl' : (65536 : Int) < (len : Int) := by omega
    go_enter Try.func9, Try.ntmps9
    go_wp2_with fail
    go_ret
    exact ⟨⟨false, rfl, fun h => by simp at h⟩, rfl⟩
end Go.Proofs.Qxb6500788a
