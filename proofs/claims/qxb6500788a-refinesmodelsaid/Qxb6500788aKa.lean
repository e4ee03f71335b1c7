import Derived.Test.Qxb6500788aJp
import Derived.Test.Qxb6500788aLgc
import Derived.StillTailTactics
import Derived.Deep.QuietTactic
import Derived.BigQuiet
import Derived.Deep.RegionHeld
import Derived.Deep.CutRange
import Derived.Laws.ResultCell
import Derived.Laws.Rows
import Derived.DeepKeys
import Derived.DataBytes
import Derived.Laws.StructEq
import Derived.Laws.AppendOwn
import Derived.Laws.MakeOwn
set_option linter.unusedSimpArgs false
set_option linter.unusedVariables false
namespace Go.Proofs.Qxb6500788a
open Go.RowKit Go.Blk
attribute [local go_sem ↓] execOp_load execOp_store execOp_alloc
attribute [local go_sem] Try.ld24 Try.st24 Try.ld25 Try.st25 Try.ld3 Try.st3 Try.ld30 Try.st30 Try.ld36 Try.st36 Try.ld4 Try.st4 Try.ld41 Try.st41 Try.ld50 Try.st50 Try.ld40 Try.st40 Try.ld42 Try.st42 Try.ld89 Try.st89 Try.ld91 Try.st91 Try.ld56 Try.st56 Try.ld97 Try.st97 Try.ld98 Try.st98 Try.ld101 Try.st101 Try.ld104 Try.st104 Try.ld57 Try.st57 Try.ld130 Try.st130 Try.ld2 Try.st2 Try.ld5 Try.st5 Try.ld9 Try.st9 Try.ld12 Try.st12 Try.ld21 Try.st21 Try.ld22 Try.st22 Try.ld29 Try.st29 Try.ld33 Try.st33 Try.ld59 Try.st59 Try.ld62 Try.st62 Try.ld69 Try.st69 Try.ld94 Try.st94 Try.ld96 Try.st96 Try.ld129 Try.st129 Try.ld158 Try.st158 Try.ld162 Try.st162 Try.ld47 Try.st47 Try.ld44 Try.st44 Try.ld137 Try.st137 Try.ld145 Try.st145 Try.ld43 Try.st43 Try.ld27 Try.st27 Try.ld38 Try.st38 Try.ld46 Try.st46 Try.ld49 Try.st49 Try.ld52 Try.st52 Try.ld54 Try.st54 Try.ld61 Try.st61 Try.ld80 Try.st80 Try.ld87 Try.st87 Try.ld93 Try.st93 Try.ld100 Try.st100 Try.ld103 Try.st103 Try.ld106 Try.st106 Try.ld109 Try.st109 Try.ld132 Try.st132 Try.ld147 Try.st147 Try.al47 Try.al44 Try.al137 Try.al145 Try.al43 Try.al27 Try.al38 Try.al46 Try.al49 Try.al52 Try.al54 Try.al61 Try.al80 Try.al87 Try.al93 Try.al100 Try.al103 Try.al106 Try.al109 Try.al132 Try.al147
attribute [local go_sem] GProgram.length_enc GProgram.ok_enc GProgram.all_get GProgram.all_set GProgram.preds_get GProgram.preds_set GProgram.rules_get GProgram.rules_set GProgram.strata_get GProgram.strata_set Answer.length_enc Answer.ok_enc Answer.all_get Answer.all_set Answer.code_get Answer.code_set Answer.n_get Answer.n_set Answer.rows_get Answer.rows_set Term.length_enc Term.ok_enc Term.all_get Term.all_set Term.var_get Term.var_set Term.n_get Term.n_set Atom.length_enc Atom.ok_enc Atom.all_get Atom.all_set Atom.pred_get Atom.pred_set Atom.args_get Atom.args_set GRule.length_enc GRule.ok_enc GRule.all_get GRule.all_set GRule.head_get GRule.head_set GRule.body_get GRule.body_set GRule.head_pred_get GRule.head_pred_set GRule.head_args_get GRule.head_args_set GOp.length_enc GOp.ok_enc GOp.all_get GOp.all_set GOp.kind_get GOp.kind_set GOp.pred_get GOp.pred_set GOp.t_get GOp.t_set GOp.n_get GOp.n_set GOp.base_get GOp.base_set GOp.rule_get GOp.rule_set GOp.rule_head_get GOp.rule_head_set GOp.rule_body_get GOp.rule_body_set GOp.rule_head_pred_get GOp.rule_head_pred_set GOp.rule_head_args_get GOp.rule_head_args_set PredInfo.length_enc PredInfo.ok_enc PredInfo.all_get PredInfo.all_set PredInfo.arity_get PredInfo.arity_set PredInfo.base_get PredInfo.base_set PredInfo.stratum_get PredInfo.stratum_set GStats.length_enc GStats.ok_enc GStats.all_get GStats.all_set GStats.rounds_get GStats.rounds_set GStats.fired_get GStats.fired_set GStats.emitted_get GStats.emitted_set GStats.fresh_get GStats.fresh_set Literal.length_enc Literal.ok_enc Literal.all_get Literal.all_set Literal.neg_get Literal.neg_set Literal.atom_get Literal.atom_set Literal.atom_pred_get Literal.atom_pred_set Literal.atom_args_get Literal.atom_args_set Engine.length_enc Engine.ok_enc Engine.all_get Engine.all_set Engine.prog_get Engine.prog_set Engine.st_get Engine.st_set Engine.levels_get Engine.levels_set Engine.running_get Engine.running_set Engine.stratum_get Engine.stratum_set Engine.round_get Engine.round_set Engine.saved_get Engine.saved_set Engine.stats_get Engine.stats_set Engine.prog_preds_get Engine.prog_preds_set Engine.prog_rules_get Engine.prog_rules_set Engine.prog_strata_get Engine.prog_strata_set Engine.stats_rounds_get Engine.stats_rounds_set Engine.stats_fired_get Engine.stats_fired_set Engine.stats_emitted_get Engine.stats_emitted_set Engine.stats_fresh_get Engine.stats_fresh_set Level.length_enc Level.ok_enc Level.all_get Level.all_set Level.heads_get Level.heads_set Level.jobs_get Level.jobs_set Plan.length_enc Plan.ok_enc Plan.all_get Plan.all_set Plan.rule_get Plan.rule_set Plan.delta_get Plan.delta_set Plan.src_get Plan.src_set Job.length_enc Job.ok_enc Job.all_get Job.all_set Job.full_get Job.full_set Job.deltas_get Job.deltas_set Job.full_rule_get Job.full_rule_set Job.full_delta_get Job.full_delta_set Job.full_src_get Job.full_src_set GState.length_enc GState.ok_enc GState.all_get GState.all_set GState.prog_get GState.prog_set GState.base_get GState.base_set GState.shown_get GState.shown_set GState.prog_preds_get GState.prog_preds_set GState.prog_rules_get GState.prog_rules_set GState.prog_strata_get GState.prog_strata_set Store.length_enc Store.ok_enc Store.all_get Store.all_set Store.arity_get Store.arity_set Store.rows_get Store.rows_set Env.length_enc Env.ok_enc Env.all_get Env.all_set Env.val_get Env.val_set Env.set_get Env.set_set
attribute [local go_sem] size_put size_ext blk_put free_put blk_alloc free_alloc blk_drew free_drew blk_ext free_ext lookOr_some putOr_some segAt_some cellAt_some storeIn_some put_put put_alloc_new length_arr ok_arr_u8 ok_arr_u32 ok_arr_u64 ok_arr_i64 ok_arr_sl cellsV_agg cellsV_int cellsV_bool cellsV_string cellsV_pointer cellsV_slice cellsV_sl ok_int ok_bool ok_string ok_pointer ok_slice ok_sl toList_arr seg_arr set_arr nth_splice nth_splice0 seg_splice seg_splice0 splice_splice splice_splice0 length_splice_if
attribute [local go_sem ↓] execOp_box
attribute [local go_sem] box_run nth_arr_u8 put_arr_u8 blk_drewN free_drewN put_drewN blk_raw free_raw
def mc1I (W : World) (bm b5 : Nat) (q : Int) (t : Tup) (ar : Nat) (f : Nat → Value) (V : World) : Prop := f 0 = .pointer (some ⟨bm, 0, none⟩) ∧ f 1 = .int .i64 q ∧ f 5 = .pointer (some ⟨b5, 0, none⟩) ∧ Hid (∃ W', W' = W ∧ V = W') ∧ ∃ c : Nat, c ≤ 4 ∧ f 7 = .int .i64 (c : Int) ∧ Hid (∀ i, i < c → i < ar → 0 ≤ tg t i ∧ tg t i < 256)
def mc2I (W : World) (bm b5 : Nat) (q : Int) (t : Tup) (ar : Nat) (f : Nat → Value) (V : World) : Prop := f 0 = .pointer (some ⟨bm, 0, none⟩) ∧ f 1 = .int .i64 q ∧ f 5 = .pointer (some ⟨b5, 0, none⟩) ∧ Hid (∃ W', W' = W ∧ V = W') ∧ ∃ c : Nat, c ≤ 4 ∧ f 8 = .int .i64 (c : Int) ∧ Hid (∀ i, i < c → ar ≤ i → tg t i = 0)
set_option maxRecDepth 100000 in
theorem frame69 (f : Nat → Value) : frameN 69 f = #[f 0, f 1, f 2, f 3, f 4, f 5, f 6, f 7, f 8, f 9, f 10, f 11, f 12, f 13, f 14, f 15, f 16, f 17, f 18, f 19, f 20, f 21, f 22, f 23, f 24, f 25, f 26, f 27, f 28, f 29, f 30, f 31, f 32, f 33, f 34, f 35, f 36, f 37, f 38, f 39, f 40, f 41, f 42, f 43, f 44, f 45, f 46, f 47, f 48, f 49, f 50, f 51, f 52, f 53, f 54, f 55, f 56, f 57, f 58, f 59, f 60, f 61, f 62, f 63, f 64, f 65, f 66, f 67, f 68] := by kernel_rfl
set_option maxRecDepth 40000 in
set_option maxHeartbeats 4000000 in
theorem checkM_any (W : World) (bm : Nat) (p : Pg) (hpg : PgX W bm p) (hok : PgOk p) (q : Int) (t : Tup) : Calls Try.prog 46 #[.pointer (some ⟨bm, 0, none⟩), .int .i64 q, .agg (arr i64v t).toArray] W fun e W' => e = .returned (.int .i64 (ckT p q t)) ∧ W.Extends W' := by
  obtain ⟨Q, hQ⟩ : ∃ Q, Q = (fun e W' => e = .returned (.int .i64 (ckT p q t)) ∧ W.Extends W' : Ending → World → Prop) := ⟨_, rfl⟩
  rw [← hQ]
  have HQ := hid_of hQ
  have h64 := hok.nP
  have HOK := hid_of hok
  have HPG := hid_of hpg
  clear hQ hpg hok
  go_enter Try.func46, Try.ntmps46
  go_upto_region 1 with fail
  refine wp_world (fun W0 => blk W0 W.heap.size = some (arr i64v t) ∧ W.Extends W0) ⟨?_, extends_alloc (ext_Ext (Ext.refl _)) _⟩ ?_
  · rw [blk_alloc, if_pos rfl]
  rintro W1 ⟨hb5, hx1⟩
  obtain ⟨b5, e5⟩ : ∃ b5, b5 = W.heap.size := ⟨_, rfl⟩
  rw [← e5] at hb5 ⊢
  have HX1 := hid_of hx1
  obtain ⟨aP, cP, Cb, e1, e2, e3⟩ : ∃ (aP : Option Addr) (cP : Nat) (Cb : List Value), blk W1 bm = some Cb ∧ 3 ≤ Cb.length ∧ nth Cb 0 = some (.slice aP p.P.length cP) := by
    obtain ⟨aP, cP, aR, cR, Cb, hb, hl, n0, -⟩ := HPG.out.ext hx1
    exact ⟨aP, cP, Cb, hb, hl, n0⟩
  have c0 : 0 < Cb.length := by omega
  clear hx1 e5
  by_cases h0 : q < 0
  · have HP : Hid (Q (.returned (.int .i64 5)) W1) := by
      show Q _ _
      rw [HQ.out]
      unfold ckT
      rw [if_neg (fun h => by have := h.1; omega)]
      exact ⟨rfl, HX1.out⟩
    go_wp2_with fail
    try go_ret
    exact HP.out
  by_cases h1 : (p.P.length : Int) ≤ q
  · have HP : Hid (Q (.returned (.int .i64 5)) W1) := by
      show Q _ _
      rw [HQ.out]
      unfold ckT
      rw [if_neg (fun h => by have := h.2; omega)]
      exact ⟨rfl, HX1.out⟩
    go_wp2_with fail
    try go_ret
    exact HP.out
  obtain ⟨n, rfl⟩ : ∃ n : Nat, q = (n : Int) := ⟨q.toNat, by omega⟩
  have hn : n < p.P.length := by omega
  have HIN : Hid (inT p (n : Int)) := ⟨by omega, by omega⟩
  obtain ⟨cP', Cb', CP, bP, u1, u2, u3, u4, u5, -, -, u8⟩ := pgb_str (HPG.out.ext HX1.out) hn
  have hcb : Cb = Cb' := by rw [e1] at u1; exact Option.some.inj u1
  subst hcb
  rw [u3] at e3
  have hs := Option.some.inj e3
  injection hs with hs1 _ hs3
  subst hs1 hs3
  obtain ⟨ha4, har⟩ := ar_le HOK.out hn
  rw [har] at u8
  obtain ⟨ar, hard⟩ : ∃ ar, ar = arP p n := ⟨_, rfl⟩
  rw [← hard] at u8 ha4
  have HAR := hid_of hard
  have n0 : (0 : Int) ≤ (n : Int) := by omega
  have n1 : (n : Int) < (p.P.length : Int) := by omega
  have n1' : ¬ (p.P.length : Int) ≤ (n : Int) := by omega
  have n2 : ((n : Int)).toNat = n := by omega
  have n3 : n * 3 < CP.length := by omega
  clear e3 hard har u1 h0 h1
  go_upto_region 4 with fail
  refine wp_loop_f 69 (mc1I W1 bm b5 n t ar) (fun f _ => 4 - (intOf (f 7)).toNat) rfl ⟨rfl, rfl, rfl, ⟨_, rfl, rfl⟩, 0, by omega, rfl, fun i h => absurd h (Nat.not_lt_zero _)⟩ ?_
  intro F V hrel
  obtain ⟨f0, f1, f5, HW, c, hc, f7, HI⟩ := hrel
  have H7 := hid_of f7
  rw [frame69, f0, f1, f5, f7]
  clear f0 f1 f5 f7
  obtain ⟨W', rfl, rfl⟩ := HW.out
  clear HW
  by_cases hc4 : c < 4
  · have hc4' : (c : Int) < 4 := by omega
    have k0 : (0 : Int) ≤ (c : Int) := by omega
    have k2 : ((c : Int)).toNat = c := by omega
    have htg := nth_t t c (by omega)
    obtain ⟨v, hv⟩ : ∃ v, v = tg t c := ⟨_, rfl⟩
    rw [← hv] at htg
    have HV := hid_of hv
    clear hv
    by_cases hca : c < ar
    · have hca' : (c : Int) < (ar : Int) := by omega
      have HBAD : ¬ (0 ≤ v ∧ v < 256) → Hid (Q (.returned (.int .i64 7)) V) := fun hb => by
        show Q _ _
        rw [HQ.out]
        unfold ckT
        rw [if_pos HIN.out, if_pos ⟨c, by rw [Int.toNat_natCast, ← HAR.out]; exact hca, by rw [← HV.out]; exact hb⟩]
        exact ⟨rfl, HX1.out⟩
      by_cases hv0 : v < 0
      · have HP := HBAD (by omega)
        clear HBAD
        go_wp2_with fail
        try go_ret
        exact HP.out
      by_cases hv1 : 256 ≤ v
      · have HP := HBAD (by omega)
        clear HBAD
        go_wp2_with fail
        try go_ret
        exact HP.out
      have HI' : Hid (∀ i, i < c + 1 → i < ar → 0 ≤ tg t i ∧ tg t i < 256) := by
        intro i h h2
        by_cases hic : i = c
        · subst hic; rw [← HV.out]; omega
        · exact HI.out i (by omega) h2
      clear HBAD HI
      go_wp2_with fail
      refine ⟨rfl, rfl, ⟨rfl, rfl, rfl, ⟨_, rfl, rfl⟩, c + 1, by omega, ?_, HI'⟩, ?_⟩
      · show Value.int .i64 _ = _
        go_num
      · show 4 - (intOf (Value.int .i64 _)).toNat < 4 - (intOf (F 7)).toNat
        rw [H7.out]
        simp [intOf]; omega
    · have hca' : ¬ (c : Int) < (ar : Int) := by omega
      have HI' : Hid (∀ i, i < c + 1 → i < ar → 0 ≤ tg t i ∧ tg t i < 256) := by
        intro i h h2
        exact HI.out i (by omega) h2
      clear HI
      go_wp2_with fail
      refine ⟨rfl, rfl, ⟨rfl, rfl, rfl, ⟨_, rfl, rfl⟩, c + 1, by omega, ?_, HI'⟩, ?_⟩
      · show Value.int .i64 _ = _
        go_num
      · show 4 - (intOf (Value.int .i64 _)).toNat < 4 - (intOf (F 7)).toNat
        rw [H7.out]
        simp [intOf]; omega
  · obtain rfl : c = 4 := by omega
    have hns : ¬ SymB p n t := by
      rintro ⟨i, h1, h2⟩
      rw [← HAR.out] at h1
      exact h2 (HI.out i (by omega) h1)
    have HNS := hid_of hns
    clear hns HI H7
    go_upto_region 9 with fail
    refine wp_loop_f 69 (mc2I V bm b5 n t ar) (fun f _ => 4 - (intOf (f 8)).toNat) rfl ⟨rfl, rfl, rfl, ⟨_, rfl, rfl⟩, 0, by omega, rfl, fun i h => absurd h (Nat.not_lt_zero _)⟩ ?_
    intro F2 V2 hrel
    obtain ⟨f0, f1, f5, HW, d, hd, f8, HI⟩ := hrel
    have H8 := hid_of f8
    rw [frame69, f0, f1, f5, f8]
    clear f0 f1 f5 f8
    obtain ⟨W', rfl, rfl⟩ := HW.out
    clear HW
    by_cases hd4 : d < 4
    · have hd4' : (d : Int) < 4 := by omega
      have k0 : (0 : Int) ≤ (d : Int) := by omega
      have k2 : ((d : Int)).toNat = d := by omega
      have htg := nth_t t d (by omega)
      obtain ⟨v, hv⟩ : ∃ v, v = tg t d := ⟨_, rfl⟩
      rw [← hv] at htg
      have HV := hid_of hv
      clear hv
      by_cases hda : ar ≤ d
      · have hda' : (ar : Int) ≤ (d : Int) := by omega
        by_cases hv0 : v = 0
        · subst hv0
          have HI' : Hid (∀ i, i < d + 1 → ar ≤ i → tg t i = 0) := by
            intro i h1 h2
            by_cases hid : i = d
            · subst hid; exact HV.out.symm
            · exact HI.out i (by omega) h2
          clear HI
          go_wp2_with fail
          refine ⟨rfl, rfl, ⟨rfl, rfl, rfl, ⟨_, rfl, rfl⟩, d + 1, by omega, ?_, HI'⟩, ?_⟩
          · show Value.int .i64 _ = _
            go_num
          · show 4 - (intOf (Value.int .i64 _)).toNat < 4 - (intOf (F2 8)).toNat
            rw [H8.out]
            simp [intOf]; omega
        · have hvb : (v == 0) = false := by simp; exact hv0
          have HP : Hid (Q (.returned (.int .i64 8)) V2) := by
            show Q _ _
            rw [HQ.out]
            unfold ckT
            rw [if_pos HIN.out, Int.toNat_natCast, if_neg HNS.out, if_pos ⟨d, by rw [← HAR.out]; exact hda, hd4, by rw [← HV.out]; exact hv0⟩]
            exact ⟨rfl, HX1.out⟩
          go_wp2_with fail
          try go_ret
          exact HP.out
      · have hda' : ¬ (ar : Int) ≤ (d : Int) := by omega
        have HI' : Hid (∀ i, i < d + 1 → ar ≤ i → tg t i = 0) := by
          intro i h1 h2
          exact HI.out i (by omega) h2
        clear HI
        go_wp2_with fail
        refine ⟨rfl, rfl, ⟨rfl, rfl, rfl, ⟨_, rfl, rfl⟩, d + 1, by omega, ?_, HI'⟩, ?_⟩
        · show Value.int .i64 _ = _
          go_num
        · show 4 - (intOf (Value.int .i64 _)).toNat < 4 - (intOf (F2 8)).toNat
          rw [H8.out]
          simp [intOf]; omega
    · obtain rfl : d = 4 := by omega
      have HP : Hid (Q (.returned (.int .i64 0)) V2) := by
        show Q _ _
        rw [HQ.out]
        unfold ckT
        rw [if_pos HIN.out, Int.toNat_natCast, if_neg HNS.out, if_neg]
        · exact ⟨rfl, HX1.out⟩
        · rintro ⟨i, h1, h2, h3⟩
          rw [← HAR.out] at h1
          exact h3 (HI.out i h2 h1)
      clear HI
      go_wp2_with fail
      try go_ret
      exact HP.out
end Go.Proofs.Qxb6500788a
