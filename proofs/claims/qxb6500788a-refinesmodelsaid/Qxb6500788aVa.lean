import Derived.Test.Qxb6500788aMc
import Derived.Test.Qxb6500788aPa
import Derived.StillTailTactics
import Derived.Deep.QuietTactic
import Derived.BigQuiet
import Derived.Deep.RegionHeld
import Derived.Deep.CutRange
import Derived.Laws.ResultCell
import Derived.Laws.Rows
import Derived.DeepKeys
import Derived.DataBytes
import Derived.Laws.StructEq
import Derived.Laws.AppendOwn
import Derived.Laws.MakeOwn
set_option linter.unusedSimpArgs false
set_option linter.unusedVariables false
namespace Go.Proofs.Qxb6500788a
open Go.RowKit Go.Blk
attribute [local go_sem ↓] execOp_load execOp_store execOp_alloc
attribute [local go_sem] Try.ld24 Try.st24 Try.ld25 Try.st25 Try.ld3 Try.st3 Try.ld30 Try.st30 Try.ld36 Try.st36 Try.ld4 Try.st4 Try.ld41 Try.st41 Try.ld50 Try.st50 Try.ld40 Try.st40 Try.ld42 Try.st42 Try.ld89 Try.st89 Try.ld91 Try.st91 Try.ld56 Try.st56 Try.ld97 Try.st97 Try.ld98 Try.st98 Try.ld101 Try.st101 Try.ld104 Try.st104 Try.ld57 Try.st57 Try.ld130 Try.st130 Try.ld2 Try.st2 Try.ld5 Try.st5 Try.ld9 Try.st9 Try.ld12 Try.st12 Try.ld21 Try.st21 Try.ld22 Try.st22 Try.ld29 Try.st29 Try.ld33 Try.st33 Try.ld59 Try.st59 Try.ld62 Try.st62 Try.ld69 Try.st69 Try.ld94 Try.st94 Try.ld96 Try.st96 Try.ld129 Try.st129 Try.ld158 Try.st158 Try.ld162 Try.st162 Try.ld47 Try.st47 Try.ld44 Try.st44 Try.ld137 Try.st137 Try.ld145 Try.st145 Try.ld43 Try.st43 Try.ld27 Try.st27 Try.ld38 Try.st38 Try.ld46 Try.st46 Try.ld49 Try.st49 Try.ld52 Try.st52 Try.ld54 Try.st54 Try.ld61 Try.st61 Try.ld80 Try.st80 Try.ld87 Try.st87 Try.ld93 Try.st93 Try.ld100 Try.st100 Try.ld103 Try.st103 Try.ld106 Try.st106 Try.ld109 Try.st109 Try.ld132 Try.st132 Try.ld147 Try.st147 Try.al47 Try.al44 Try.al137 Try.al145 Try.al43 Try.al27 Try.al38 Try.al46 Try.al49 Try.al52 Try.al54 Try.al61 Try.al80 Try.al87 Try.al93 Try.al100 Try.al103 Try.al106 Try.al109 Try.al132 Try.al147
attribute [local go_sem] GProgram.length_enc GProgram.ok_enc GProgram.all_get GProgram.all_set GProgram.preds_get GProgram.preds_set GProgram.rules_get GProgram.rules_set GProgram.strata_get GProgram.strata_set Answer.length_enc Answer.ok_enc Answer.all_get Answer.all_set Answer.code_get Answer.code_set Answer.n_get Answer.n_set Answer.rows_get Answer.rows_set Term.length_enc Term.ok_enc Term.all_get Term.all_set Term.var_get Term.var_set Term.n_get Term.n_set Atom.length_enc Atom.ok_enc Atom.all_get Atom.all_set Atom.pred_get Atom.pred_set Atom.args_get Atom.args_set GRule.length_enc GRule.ok_enc GRule.all_get GRule.all_set GRule.head_get GRule.head_set GRule.body_get GRule.body_set GRule.head_pred_get GRule.head_pred_set GRule.head_args_get GRule.head_args_set GOp.length_enc GOp.ok_enc GOp.all_get GOp.all_set GOp.kind_get GOp.kind_set GOp.pred_get GOp.pred_set GOp.t_get GOp.t_set GOp.n_get GOp.n_set GOp.base_get GOp.base_set GOp.rule_get GOp.rule_set GOp.rule_head_get GOp.rule_head_set GOp.rule_body_get GOp.rule_body_set GOp.rule_head_pred_get GOp.rule_head_pred_set GOp.rule_head_args_get GOp.rule_head_args_set PredInfo.length_enc PredInfo.ok_enc PredInfo.all_get PredInfo.all_set PredInfo.arity_get PredInfo.arity_set PredInfo.base_get PredInfo.base_set PredInfo.stratum_get PredInfo.stratum_set GStats.length_enc GStats.ok_enc GStats.all_get GStats.all_set GStats.rounds_get GStats.rounds_set GStats.fired_get GStats.fired_set GStats.emitted_get GStats.emitted_set GStats.fresh_get GStats.fresh_set Literal.length_enc Literal.ok_enc Literal.all_get Literal.all_set Literal.neg_get Literal.neg_set Literal.atom_get Literal.atom_set Literal.atom_pred_get Literal.atom_pred_set Literal.atom_args_get Literal.atom_args_set Engine.length_enc Engine.ok_enc Engine.all_get Engine.all_set Engine.prog_get Engine.prog_set Engine.st_get Engine.st_set Engine.levels_get Engine.levels_set Engine.running_get Engine.running_set Engine.stratum_get Engine.stratum_set Engine.round_get Engine.round_set Engine.saved_get Engine.saved_set Engine.stats_get Engine.stats_set Engine.prog_preds_get Engine.prog_preds_set Engine.prog_rules_get Engine.prog_rules_set Engine.prog_strata_get Engine.prog_strata_set Engine.stats_rounds_get Engine.stats_rounds_set Engine.stats_fired_get Engine.stats_fired_set Engine.stats_emitted_get Engine.stats_emitted_set Engine.stats_fresh_get Engine.stats_fresh_set Level.length_enc Level.ok_enc Level.all_get Level.all_set Level.heads_get Level.heads_set Level.jobs_get Level.jobs_set Plan.length_enc Plan.ok_enc Plan.all_get Plan.all_set Plan.rule_get Plan.rule_set Plan.delta_get Plan.delta_set Plan.src_get Plan.src_set Job.length_enc Job.ok_enc Job.all_get Job.all_set Job.full_get Job.full_set Job.deltas_get Job.deltas_set Job.full_rule_get Job.full_rule_set Job.full_delta_get Job.full_delta_set Job.full_src_get Job.full_src_set GState.length_enc GState.ok_enc GState.all_get GState.all_set GState.prog_get GState.prog_set GState.base_get GState.base_set GState.shown_get GState.shown_set GState.prog_preds_get GState.prog_preds_set GState.prog_rules_get GState.prog_rules_set GState.prog_strata_get GState.prog_strata_set Store.length_enc Store.ok_enc Store.all_get Store.all_set Store.arity_get Store.arity_set Store.rows_get Store.rows_set Env.length_enc Env.ok_enc Env.all_get Env.all_set Env.val_get Env.val_set Env.set_get Env.set_set
attribute [local go_sem] size_put size_ext blk_put free_put blk_alloc free_alloc blk_drew free_drew blk_ext free_ext lookOr_some putOr_some segAt_some cellAt_some storeIn_some put_put put_alloc_new length_arr ok_arr_u8 ok_arr_u32 ok_arr_u64 ok_arr_i64 ok_arr_sl cellsV_agg cellsV_int cellsV_bool cellsV_string cellsV_pointer cellsV_slice cellsV_sl ok_int ok_bool ok_string ok_pointer ok_slice ok_sl toList_arr seg_arr set_arr nth_splice nth_splice0 seg_splice seg_splice0 splice_splice splice_splice0 length_splice_if
attribute [local go_sem ↓] execOp_box
attribute [local go_sem] box_run nth_arr_u8 put_arr_u8 blk_drewN free_drewN put_drewN blk_raw free_raw
def arI (P : List PredInfo) (a : Atom) : Int := (P.getD a.pred.toNat ⟨0, false, 0⟩).arity
/-- Column c of an atom fits. -/
def ColOk (P : List PredInfo) (a : Atom) (c : Nat) : Prop := if (c : Int) < arI P a then 0 ≤ (tA a c).n ∧ ((tA a c).var = true → (tA a c).n < 32) ∧ ((tA a c).var = false → (tA a c).n < 256) else (tA a c).var = false ∧ (tA a c).n = 0
/-- atomOK, plainly. -/
def AtOk (P : List PredInfo) (a : Atom) : Prop := (0 ≤ a.pred ∧ a.pred < (P.length : Int)) ∧ ∀ c, c < 4 → ColOk P a c
def AtomX (w : World) (P : List PredInfo) (a : Atom) (e : Ending) (w' : World) : Prop := ∃ r, e = .returned (.bool r) ∧ (r = true ↔ AtOk P a) ∧ Ext w w'
def aoX (W : World) (aP : Option Addr) (N cP b : Nat) (P : List PredInfo) (a : Atom) (f : Nat → Value) (W' : World) : Prop :=
  f 0 = .slice aP N cP ∧ f 3 = .pointer (some ⟨b, 0, none⟩) ∧ ∃ c : Nat, c ≤ 4 ∧ f 5 = .int .i64 (c : Nat) ∧ Hid (Ext W W') ∧ Hid (∀ i, i < c → ColOk P a i)
set_option maxRecDepth 20000 in
set_option maxHeartbeats 4000000 in
theorem atomOK_x (w : World) (aP : Option Addr) (N cP bP : Nat) (P : List PredInfo) (hP : At PredInfo.enc 3 w bP 0 aP N P) (hN : N ≤ 64) (a : Atom) : Calls Try.prog 80 #[.slice aP N cP, .agg a.enc.toArray] w (AtomX w P a) := by
  have HP : Hid (At PredInfo.enc 3 w bP 0 aP N P) := hP
  have hPl : P.length = N := hP.1
  have HPL := hid_of hPl
  clear hP hPl
  go_enter Try.func80, Try.ntmps80
  by_cases h0 : a.pred < 0
  · go_wp2_with fail
    go_ret
    exact ⟨false, rfl, ⟨fun h => absurd h (by decide), fun h => absurd h.1.1 (by omega)⟩, (Ext.refl w).alloc _⟩
  by_cases h1 : (N : Int) ≤ a.pred
  · go_wp2_with fail
    go_ret
    exact ⟨false, rfl, ⟨fun h => absurd h (by decide), fun h => absurd h.1.2 (by rw [HPL.out]; omega)⟩, (Ext.refl w).alloc _⟩
  obtain ⟨q, hq⟩ : ∃ q : Nat, a.pred = (q : Int) := ⟨a.pred.toNat, by omega⟩
  have hqN : q < N := by omega
  have n0 : ¬ ((q : Int) < 0) := by omega
  have n1 : ¬ ((N : Int) ≤ (q : Int)) := by omega
  have HR : Hid (0 ≤ a.pred ∧ a.pred < (P.length : Int)) := ⟨by omega, by rw [HPL.out]; omega⟩
  clear h0 h1
  go_upto_region 3 with fail
  refine wp_world (fun W => blk W w.heap.size = some a.enc ∧ Hid (Ext w W)) ⟨?_, (Ext.refl w).alloc _⟩ ?_
  · rw [blk_alloc, if_pos rfl]
  rintro W1 ⟨hb1, HE1⟩
  obtain ⟨b, hb⟩ : ∃ b, b = w.heap.size := ⟨_, rfl⟩
  rw [← hb] at hb1 ⊢
  have HB : Hid (blk W1 b = some a.enc) := hb1
  clear hb hb1
  go_wp2_with fail
  refine wp_loop_f 62 (aoX W1 aP N cP b P a) (fun f _ => 4 - (intOf (f 5)).toNat) rfl ?_ ?_
  · exact ⟨rfl, rfl, 0, by omega, rfl, Ext.refl _, fun i h => absurd h (Nat.not_lt_zero _)⟩
  intro F W hrel
  obtain ⟨f0, f3, c, hc, f5, HE, HCO⟩ := hrel
  have H5 : Hid (F 5 = .int .i64 (c : Nat)) := f5
  rw [frame62, f0, f3, f5]
  clear f0 f3 f5
  by_cases hc4 : c < 4
  · have hb : blk W b = some a.enc := (HE.out.blk (blk_lt HB.out)).trans HB.out
    obtain ⟨x, C, hx, rfl, hC, hl, hs⟩ := HP.out.get hqN
    have hCW : blk W bP = some C := ((HE1.out.trans HE.out).blk (blk_lt hC)).trans hC
    have hA : nth C (q * 3) = some (.int .i64 x.arity) := by have := nth_in hs (PredInfo.arity_get x) (by omega); simpa using this
    have har : arI P a = x.arity := by
      unfold arI
      rw [hq, Int.toNat_natCast, List.getD_eq_getElem?_getD, hx]; rfl
    obtain ⟨ar, hard⟩ : ∃ ar, ar = x.arity := ⟨_, rfl⟩
    rw [← hard] at hA har
    have HAR := hid_of har
    clear hs hC hx hard har
    obtain ⟨tv, htv⟩ : ∃ tv, tv = (tA a c).var := ⟨_, rfl⟩
    obtain ⟨tn, htn⟩ : ∃ tn, tn = (tA a c).n := ⟨_, rfl⟩
    have ht : seg a.enc (1 + c * 2) 2 = (⟨tv, tn⟩ : Term).enc := by rw [htv, htn]; exact ta_seg a hc4
    have HCOL : Hid (ColOk P a c = if (c : Int) < ar then 0 ≤ tn ∧ (tv = true → tn < 32) ∧ (tv = false → tn < 256) else tv = false ∧ tn = 0) := by
      show _ = _
      unfold ColOk
      rw [HAR.out, htv, htn]
    have hpr := Atom.pred_get a
    rw [hq] at hpr
    have c0 : (0 : Int) ≤ (c : Int) := by omega
    have c1 : (c : Int) < 4 := by omega
    have c2 : ((c : Int)).toNat = c := by omega
    have q0 : (0 : Int) ≤ (q : Int) := by omega
    have q1 : (q : Int) < (N : Int) := by omega
    have q2 : ((q : Int)).toNat = q := by omega
    have l1 : 1 + c * 2 + 2 ≤ 9 := by omega
    have l2 : q * 3 < C.length := by omega
    have hbl := blk_lt hb
    have hbC := blk_lt hCW
    clear htv htn
    go_upto_region 7 with fail
    refine wp_world (fun W2 => blk W2 W.heap.size = some (⟨tv, tn⟩ : Term).enc ∧ blk W2 b = some a.enc ∧ blk W2 bP = some C ∧ Hid (Ext W1 W2)) ⟨?_, ?_, ?_, HE.out.alloc _⟩ ?_
    · rw [blk_alloc, if_pos rfl]
    · rw [blk_alloc, if_neg (by omega)]; exact hb
    · rw [blk_alloc, if_neg (by omega)]; exact hCW
    rintro W2 ⟨ht2, hb2, hC2, HE2⟩
    obtain ⟨bt, hbt⟩ : ∃ bt, bt = W.heap.size := ⟨_, rfl⟩
    rw [← hbt] at ht2 ⊢
    clear hbt hb hCW ht hbl hbC HE hl
    have HBAD : ¬ ColOk P a c → Hid (AtomX w P a (.returned (.bool false)) W2) := fun hn => ⟨false, rfl, ⟨fun h => absurd h (by decide), fun h => absurd (h.2 c hc4) hn⟩, HE1.out.trans HE2.out⟩
    have HGO : ColOk P a c → Hid (∀ i, i < c + 1 → ColOk P a i) := fun hy i hi => by
      by_cases hic : i = c
      · rw [hic]; exact hy
      · exact HCO.out i (by omega)
    by_cases hca : (c : Int) < ar
    · have hca2 : ¬ (ar ≤ (c : Int)) := by omega
      have HC1 : Hid (ColOk P a c ↔ 0 ≤ tn ∧ (tv = true → tn < 32) ∧ (tv = false → tn < 256)) := by
        show _ ↔ _
        rw [HCOL.out, if_pos hca]
      by_cases hn0 : tn < 0
      · have HP9 := HBAD (by rw [HC1.out]; omega)
        clear HBAD HGO
        go_wp2_with fail
        go_ret
        exact HP9.out
      cases tv with
      | true =>
        by_cases hn1 : 32 ≤ tn
        · have HP9 := HBAD (by rw [HC1.out]; intro h; have := h.2.1 rfl; omega)
          clear HBAD HGO
          go_wp2_with fail
          go_ret
          exact HP9.out
        · have HI' := HGO (by rw [HC1.out]; exact ⟨by omega, fun _ => by omega, fun h => by cases h⟩)
          clear HBAD HGO
          go_wp2_with fail
          refine ⟨rfl, rfl, ⟨rfl, rfl, c + 1, by omega, ?_, HE2, HI'⟩, ?_⟩
          · show Value.int .i64 _ = _
            go_num
          · show 4 - (intOf (Value.int .i64 _)).toNat < 4 - (intOf (F 5)).toNat
            rw [H5.out]
            simp [intOf]; omega
      | false =>
        by_cases hn1 : 256 ≤ tn
        · have HP9 := HBAD (by rw [HC1.out]; intro h; have := h.2.2 rfl; omega)
          clear HBAD HGO
          go_wp2_with fail
          go_ret
          exact HP9.out
        · have HI' := HGO (by rw [HC1.out]; exact ⟨by omega, fun h => (by cases h), fun _ => by omega⟩)
          clear HBAD HGO
          go_wp2_with fail
          refine ⟨rfl, rfl, ⟨rfl, rfl, c + 1, by omega, ?_, HE2, HI'⟩, ?_⟩
          · show Value.int .i64 _ = _
            go_num
          · show 4 - (intOf (Value.int .i64 _)).toNat < 4 - (intOf (F 5)).toNat
            rw [H5.out]
            simp [intOf]; omega
    · have hca2 : ar ≤ (c : Int) := by omega
      have HC1 : Hid (ColOk P a c ↔ tv = false ∧ tn = 0) := by
        show _ ↔ _
        rw [HCOL.out, if_neg hca]
      cases tv with
      | true =>
        have HP9 := HBAD (by rw [HC1.out]; intro h; cases h.1)
        clear HBAD HGO
        go_wp2_with fail
        go_ret
        exact HP9.out
      | false =>
        by_cases hn1 : tn = 0
        · subst hn1
          have HI' := HGO (by rw [HC1.out]; exact ⟨rfl, rfl⟩)
          clear HBAD HGO
          go_wp2_with fail
          refine ⟨rfl, rfl, ⟨rfl, rfl, c + 1, by omega, ?_, HE2, HI'⟩, ?_⟩
          · show Value.int .i64 _ = _
            go_num
          · show 4 - (intOf (Value.int .i64 _)).toNat < 4 - (intOf (F 5)).toNat
            rw [H5.out]
            simp [intOf]; omega
        · have hnb : (tn == 0) = false := by simp; exact hn1
          have HP9 := HBAD (by rw [HC1.out]; intro h; exact hn1 h.2)
          clear HBAD HGO
          go_wp2_with fail
          go_ret
          exact HP9.out
  · obtain rfl : c = 4 := by omega
    go_wp2_with fail
    go_ret
    exact ⟨true, rfl, ⟨fun _ => ⟨HR.out, HCO.out⟩, fun _ => rfl⟩, HE1.out.trans HE.out⟩
theorem AtOk.fit {P : List PredInfo} (hA : ∀ x ∈ P, 0 ≤ x.arity ∧ x.arity ≤ 4) {a : Atom} (h : AtOk P a) : AFit P a := by
  obtain ⟨⟨h0, h1⟩, h2⟩ := h
  have hq : a.pred.toNat < P.length := by omega
  obtain ⟨a0, a4⟩ := hA _ (List.getElem_mem hq)
  have har : arI P a = P[a.pred.toNat].arity := by
    unfold arI
    rw [List.getD_eq_getElem?_getD, List.getElem?_eq_getElem hq]; rfl
  refine ⟨a.pred.toNat, P[a.pred.toNat], by omega, List.getElem?_eq_getElem hq, a0, by omega, fun c hc => ?_⟩
  have := h2 c (by omega)
  unfold ColOk at this
  rw [har, if_pos (by omega)] at this
  exact this
end Go.Proofs.Qxb6500788a
