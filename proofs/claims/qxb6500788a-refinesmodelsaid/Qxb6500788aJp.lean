import Derived.Test.Qxb6500788aJo
import Derived.StillTailTactics
import Derived.Deep.QuietTactic
import Derived.BigQuiet
import Derived.Deep.RegionHeld
import Derived.Deep.CutRange
import Derived.Laws.ResultCell
import Derived.Laws.Rows
import Derived.DeepKeys
import Derived.DataBytes
import Derived.Laws.StructEq
import Derived.Laws.AppendOwn
import Derived.Laws.MakeOwn
set_option linter.unusedSimpArgs false
set_option linter.unusedVariables false
namespace Go.Proofs.Qxb6500788a
open Go.RowKit Go.Blk
attribute [local go_sem ↓] execOp_load execOp_store execOp_alloc
attribute [local go_sem] Try.ld24 Try.st24 Try.ld25 Try.st25 Try.ld3 Try.st3 Try.ld30 Try.st30 Try.ld36 Try.st36 Try.ld4 Try.st4 Try.ld41 Try.st41 Try.ld50 Try.st50 Try.ld40 Try.st40 Try.ld42 Try.st42 Try.ld89 Try.st89 Try.ld91 Try.st91 Try.ld56 Try.st56 Try.ld97 Try.st97 Try.ld98 Try.st98 Try.ld101 Try.st101 Try.ld104 Try.st104 Try.ld57 Try.st57 Try.ld130 Try.st130 Try.ld2 Try.st2 Try.ld5 Try.st5 Try.ld9 Try.st9 Try.ld12 Try.st12 Try.ld21 Try.st21 Try.ld22 Try.st22 Try.ld29 Try.st29 Try.ld33 Try.st33 Try.ld59 Try.st59 Try.ld62 Try.st62 Try.ld69 Try.st69 Try.ld94 Try.st94 Try.ld96 Try.st96 Try.ld129 Try.st129 Try.ld158 Try.st158 Try.ld162 Try.st162 Try.ld47 Try.st47 Try.ld44 Try.st44 Try.ld137 Try.st137 Try.ld145 Try.st145 Try.ld43 Try.st43 Try.ld27 Try.st27 Try.ld38 Try.st38 Try.ld46 Try.st46 Try.ld49 Try.st49 Try.ld52 Try.st52 Try.ld54 Try.st54 Try.ld61 Try.st61 Try.ld80 Try.st80 Try.ld87 Try.st87 Try.ld93 Try.st93 Try.ld100 Try.st100 Try.ld103 Try.st103 Try.ld106 Try.st106 Try.ld109 Try.st109 Try.ld132 Try.st132 Try.ld147 Try.st147 Try.al47 Try.al44 Try.al137 Try.al145 Try.al43 Try.al27 Try.al38 Try.al46 Try.al49 Try.al52 Try.al54 Try.al61 Try.al80 Try.al87 Try.al93 Try.al100 Try.al103 Try.al106 Try.al109 Try.al132 Try.al147
attribute [local go_sem] GProgram.length_enc GProgram.ok_enc GProgram.all_get GProgram.all_set GProgram.preds_get GProgram.preds_set GProgram.rules_get GProgram.rules_set GProgram.strata_get GProgram.strata_set Answer.length_enc Answer.ok_enc Answer.all_get Answer.all_set Answer.code_get Answer.code_set Answer.n_get Answer.n_set Answer.rows_get Answer.rows_set Term.length_enc Term.ok_enc Term.all_get Term.all_set Term.var_get Term.var_set Term.n_get Term.n_set Atom.length_enc Atom.ok_enc Atom.all_get Atom.all_set Atom.pred_get Atom.pred_set Atom.args_get Atom.args_set GRule.length_enc GRule.ok_enc GRule.all_get GRule.all_set GRule.head_get GRule.head_set GRule.body_get GRule.body_set GRule.head_pred_get GRule.head_pred_set GRule.head_args_get GRule.head_args_set GOp.length_enc GOp.ok_enc GOp.all_get GOp.all_set GOp.kind_get GOp.kind_set GOp.pred_get GOp.pred_set GOp.t_get GOp.t_set GOp.n_get GOp.n_set GOp.base_get GOp.base_set GOp.rule_get GOp.rule_set GOp.rule_head_get GOp.rule_head_set GOp.rule_body_get GOp.rule_body_set GOp.rule_head_pred_get GOp.rule_head_pred_set GOp.rule_head_args_get GOp.rule_head_args_set PredInfo.length_enc PredInfo.ok_enc PredInfo.all_get PredInfo.all_set PredInfo.arity_get PredInfo.arity_set PredInfo.base_get PredInfo.base_set PredInfo.stratum_get PredInfo.stratum_set GStats.length_enc GStats.ok_enc GStats.all_get GStats.all_set GStats.rounds_get GStats.rounds_set GStats.fired_get GStats.fired_set GStats.emitted_get GStats.emitted_set GStats.fresh_get GStats.fresh_set Literal.length_enc Literal.ok_enc Literal.all_get Literal.all_set Literal.neg_get Literal.neg_set Literal.atom_get Literal.atom_set Literal.atom_pred_get Literal.atom_pred_set Literal.atom_args_get Literal.atom_args_set Engine.length_enc Engine.ok_enc Engine.all_get Engine.all_set Engine.prog_get Engine.prog_set Engine.st_get Engine.st_set Engine.levels_get Engine.levels_set Engine.running_get Engine.running_set Engine.stratum_get Engine.stratum_set Engine.round_get Engine.round_set Engine.saved_get Engine.saved_set Engine.stats_get Engine.stats_set Engine.prog_preds_get Engine.prog_preds_set Engine.prog_rules_get Engine.prog_rules_set Engine.prog_strata_get Engine.prog_strata_set Engine.stats_rounds_get Engine.stats_rounds_set Engine.stats_fired_get Engine.stats_fired_set Engine.stats_emitted_get Engine.stats_emitted_set Engine.stats_fresh_get Engine.stats_fresh_set Level.length_enc Level.ok_enc Level.all_get Level.all_set Level.heads_get Level.heads_set Level.jobs_get Level.jobs_set Plan.length_enc Plan.ok_enc Plan.all_get Plan.all_set Plan.rule_get Plan.rule_set Plan.delta_get Plan.delta_set Plan.src_get Plan.src_set Job.length_enc Job.ok_enc Job.all_get Job.all_set Job.full_get Job.full_set Job.deltas_get Job.deltas_set Job.full_rule_get Job.full_rule_set Job.full_delta_get Job.full_delta_set Job.full_src_get Job.full_src_set GState.length_enc GState.ok_enc GState.all_get GState.all_set GState.prog_get GState.prog_set GState.base_get GState.base_set GState.shown_get GState.shown_set GState.prog_preds_get GState.prog_preds_set GState.prog_rules_get GState.prog_rules_set GState.prog_strata_get GState.prog_strata_set Store.length_enc Store.ok_enc Store.all_get Store.all_set Store.arity_get Store.arity_set Store.rows_get Store.rows_set Env.length_enc Env.ok_enc Env.all_get Env.all_set Env.val_get Env.val_set Env.set_get Env.set_set
attribute [local go_sem] size_put size_ext blk_put free_put blk_alloc free_alloc blk_drew free_drew blk_ext free_ext lookOr_some putOr_some segAt_some cellAt_some storeIn_some put_put put_alloc_new length_arr ok_arr_u8 ok_arr_u32 ok_arr_u64 ok_arr_i64 ok_arr_sl cellsV_agg cellsV_int cellsV_bool cellsV_string cellsV_pointer cellsV_slice cellsV_sl ok_int ok_bool ok_string ok_pointer ok_slice ok_sl toList_arr seg_arr set_arr nth_splice nth_splice0 seg_splice seg_splice0 splice_splice splice_splice0 length_splice_if
attribute [local go_sem ↓] execOp_box
attribute [local go_sem] box_run nth_arr_u8 put_arr_u8 blk_drewN free_drewN put_drewN blk_raw free_raw
def PerfPost (W : World) (p : Pg) (T : Nat → List Tup) (e : Ending) (V : World) : Prop := ∃ a c T1, e = .returned (.slice a p.P.length c) ∧ W.Extends V ∧ RelR (newc W.heap.size V) a p.P.length T1 ∧ RelI p T1 ∧ PerfTo p 0 T T1
def pfI (W W2 : World) (p : Pg) (bp : Nat) (da : Option Addr) (D dc : Nat) (dom : List Int) (T : Nat → List Tup) (f : Nat → Value) (V : World) : Prop := f 0 = .pointer (some ⟨bp, 0, none⟩) ∧ f 5 = .slice da D dc ∧ ∃ (s : Nat) (ra : Option Addr) (rc : Nat) (T' : Nat → List Tup), s ≤ p.St ∧ f 6 = .slice ra p.P.length rc ∧ f 7 = .int .i64 (s : Nat) ∧ Hid (W2.Extends V ∧ RelR (newc W.heap.size V) ra p.P.length T' ∧ RelI p T' ∧ DomC p dom T' ∧ ∀ T2, PerfTo p s T' T2 → PerfTo p 0 T T2)
theorem FixTo.dom {p : Pg} (hok : PgOk p) {s : Nat} {dom : List Int} {T T1 : Nat → List Tup} (h : FixTo p s T T1) (hDR : DomR p dom) : DomC p dom T → DomC p dom T1 := by
  induction h with
  | stop h _ => exact fun hD => h.dom hok hD hDR
  | more h _ _ _ ih => exact fun hD => ih (h.dom hok hD hDR)
set_option maxRecDepth 100000 in
theorem frame32p (f : Nat → Value) : frameN 32 f = #[f 0, f 1, f 2, f 3, f 4, f 5, f 6, f 7, f 8, f 9, f 10, f 11, f 12, f 13, f 14, f 15, f 16, f 17, f 18, f 19, f 20, f 21, f 22, f 23, f 24, f 25, f 26, f 27, f 28, f 29, f 30, f 31] := by kernel_rfl
set_option maxRecDepth 20000 in
set_option maxHeartbeats 2000000 in
theorem perfect_any (W : World) (bp : Nat) (p : Pg) (hpg : PgX W bp p) (hok : PgOk p) (ra : Option Addr) (rc : Nat) (T : Nat → List Tup) (hR : RelR W ra p.P.length T) (hT : RelI p T) : Calls Try.prog 37 #[.pointer (some ⟨bp, 0, none⟩), .slice ra p.P.length rc] W (PerfPost W p T) := by
  obtain ⟨Q, hQ⟩ : ∃ Q, Q = PerfPost W p T := ⟨_, rfl⟩
  rw [← hQ]
  have HQ := hid_of hQ
  have HPG := hid_of hpg
  have HOK := hid_of hok
  have hN := hok.nP
  have hs65 := hok.s2
  have hdo := domain_any W bp p hpg hok ra rc T hR hT
  have HDO := hid_of hdo
  have HR := hid_of hR
  have HT := hid_of hT
  clear hQ hpg hok hdo hR hT
  go_enter Try.func37, Try.ntmps37
  go_wp2_with fail
  refine HDO.out.mono ?_
  rintro e V1 ⟨da, D, dc, dom, rfl, hx1, hdw, hdi, hdc, hdr⟩
  have hco := copyOf_any V1 ra p.P.length rc T (HR.out.ext hx1) (by omega) (fun q hq => by have := outok_len (HT.out q hq); omega)
  have HCO := hid_of hco
  have HDW := hid_of hdw
  have HDI := hid_of hdi
  have HDC := hid_of hdc
  have HDR := hid_of hdr
  have HX1 := hid_of hx1
  clear HDO hx1 hdw hdi hdc hdr hco
  dsimp only
  go_wp2_with fail
  refine HCO.out.mono ?_
  rintro e V2 ⟨bo, O, rfl, hro⟩
  have HDW2 : Hid (Rw encI 1 V2 da D dom) := (HDW.out.sub (newc_sub _ _)).grow hro.ext
  have HX2 : Hid (W.Extends V2) := HX1.out.trans hro.ext
  have HI0 : Hid (V2.Extends V2 ∧ RelR (newc W.heap.size V2) (some ⟨bo, 0, none⟩) p.P.length T ∧ RelI p T ∧ DomC p dom T ∧ ∀ T2, PerfTo p 0 T T2 → PerfTo p 0 T T2) := ⟨ext_Ext (Ext.refl _), hro.relN.sub (newc_le HX1.out.size), HT.out, HDC.out, fun _ h => h⟩
  clear HCO hro HX1
  dsimp only
  go_upto_region 4 with fail
  refine wp_loop_f 32 (pfI W V2 p bp da D dc dom T) (fun f _ => p.St - (intOf (f 7)).toNat) rfl ⟨rfl, rfl, 0, _, _, T, Nat.zero_le _, rfl, rfl, HI0⟩ ?_
  clear HI0
  intro F V hrel
  obtain ⟨f0, f5, s, ra1, rc1, T', hs, f6, f7, HI⟩ := hrel
  have H7 := hid_of f7
  rw [frame32p, f0, f5, f6, f7]
  clear f0 f5 f6 f7
  obtain ⟨hxV, hRN, hRI, hDC, hpf⟩ := HI.out
  have hRR := hRN.sub (newc_sub _ _)
  have HRN := hid_of hRN
  obtain ⟨aR, cR, Cb, e1, e2, -, e3⟩ := pgb_rl (HPG.out.ext (HX2.out.trans hxV))
  have c2 : 2 < Cb.length := by omega
  have HX := hid_of hxV
  have HRR := hid_of hRR
  have HRI := hid_of hRI
  have HDC' := hid_of hDC
  have HPF := hid_of hpf
  clear HI hxV hRR hRI hDC hpf hRN
  by_cases hsS : s < p.St
  · have hsS' : (s : Int) < (p.St : Int) := by omega
    have hov := over_any V ra1 p.P.length rc1 T' HRR.out (by omega) (fun q hq => outok_len (HRI.out q hq))
    have HOV := hid_of hov
    clear hov
    go_wp2_with fail
    refine HOV.out.mono ?_
    rintro e V3 ⟨b, rfl, hb, hx3⟩
    dsimp only
    cases b with
    | true =>
      have HP : Hid (Q (.returned (.slice ra1 p.P.length rc1)) V3) := by
        show Q _ _
        rw [HQ.out]
        exact ⟨_, _, T', rfl, HX2.out.trans (HX.out.trans hx3), HRN.out.sub (newc_ext hx3), HRI.out, HPF.out _ (.stop (.inr (hb.1 rfl)))⟩
      clear HOV hb hx3
      go_wp2_with fail
      try go_ret
      exact HP.out
    | false =>
      have HNO : Hid (¬ OvrT p.P.length T') := fun ho => by have := hb.2 ho; cases this
      have hfx := fixpoint_any V3 bp p (HPG.out.ext (HX2.out.trans (HX.out.trans hx3))) HOK.out s da D dc dom (HDW2.out.grow (HX.out.trans hx3)) HDI.out HDR.out ra1 rc1 T' (HRR.out.ext hx3) HRI.out HDC'.out
      have HFX := hid_of hfx
      have HX3 := hid_of hx3
      clear HOV hb hx3 hfx
      go_wp2_with fail
      refine HFX.out.mono ?_
      rintro e V4 ⟨a4, c4, T4, rfl, hx4, hr4, hf4⟩
      have HI' : Hid (V2.Extends V4 ∧ RelR (newc W.heap.size V4) a4 p.P.length T4 ∧ RelI p T4 ∧ DomC p dom T4 ∧ ∀ T2, PerfTo p (s + 1) T4 T2 → PerfTo p 0 T T2) := ⟨HX.out.trans (HX3.out.trans hx4), hr4.sub (newc_le (HX2.out.trans (HX.out.trans HX3.out)).size), hf4.relI, hf4.dom HOK.out HDR.out HDC'.out, fun T2 h2 => HPF.out _ (.step hsS HNO.out hf4 h2)⟩
      clear HFX hx4 hr4 hf4 HNO
      dsimp only
      go_wp2_with fail
      refine ⟨rfl, rfl, ⟨rfl, rfl, s + 1, a4, c4, T4, by omega, rfl, ?_, HI'⟩, ?_⟩
      · show Value.int .i64 _ = _
        go_num
      · show p.St - (intOf (Value.int .i64 _)).toNat < p.St - (intOf (F 7)).toNat
        rw [H7.out]
        simp [intOf]; omega
  · obtain rfl : s = p.St := by omega
    have hsS' : ¬ ((p.St : Int) < (p.St : Int)) := by omega
    have HP : Hid (Q (.returned (.slice ra1 p.P.length rc1)) V) := by
      show Q _ _
      rw [HQ.out]
      exact ⟨_, _, T', rfl, HX2.out.trans HX.out, HRN.out, HRI.out, HPF.out _ (.stop (.inl hsS))⟩
    go_wp2_with fail
    try go_ret
    exact HP.out
end Go.Proofs.Qxb6500788a
