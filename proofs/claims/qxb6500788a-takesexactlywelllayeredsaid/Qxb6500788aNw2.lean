import Derived.Test.Qxb6500788aNw1
import Derived.StillTailTactics
import Derived.Deep.QuietTactic
import Derived.BigQuiet
import Derived.Deep.RegionHeld
import Derived.Deep.CutRange
import Derived.Laws.ResultCell
import Derived.Laws.Rows
import Derived.DeepKeys
import Derived.DataBytes
import Derived.Laws.StructEq
import Derived.Laws.AppendOwn
set_option linter.unusedSimpArgs false
set_option linter.unusedVariables false
namespace Go.Proofs.Qxb6500788a
open Go.RowKit Go.Blk
attribute [local go_sem ↓] execOp_load execOp_store execOp_alloc
attribute [local go_sem] Try.ld24 Try.st24 Try.ld25 Try.st25 Try.ld3 Try.st3 Try.ld30 Try.st30 Try.ld36 Try.st36 Try.ld4 Try.st4 Try.ld41 Try.st41 Try.ld50 Try.st50 Try.ld40 Try.st40 Try.ld42 Try.st42 Try.ld89 Try.st89 Try.ld91 Try.st91 Try.ld56 Try.st56 Try.ld97 Try.st97 Try.ld98 Try.st98 Try.ld101 Try.st101 Try.ld104 Try.st104 Try.ld57 Try.st57 Try.ld130 Try.st130 Try.ld2 Try.st2 Try.ld5 Try.st5 Try.ld9 Try.st9 Try.ld12 Try.st12 Try.ld21 Try.st21 Try.ld22 Try.st22 Try.ld29 Try.st29 Try.ld33 Try.st33 Try.ld59 Try.st59 Try.ld62 Try.st62 Try.ld69 Try.st69 Try.ld94 Try.st94 Try.ld96 Try.st96 Try.ld129 Try.st129 Try.ld158 Try.st158 Try.ld162 Try.st162 Try.ld47 Try.st47 Try.ld44 Try.st44 Try.ld137 Try.st137 Try.ld145 Try.st145 Try.ld43 Try.st43 Try.ld27 Try.st27 Try.ld38 Try.st38 Try.ld46 Try.st46 Try.ld49 Try.st49 Try.ld52 Try.st52 Try.ld54 Try.st54 Try.ld61 Try.st61 Try.ld80 Try.st80 Try.ld87 Try.st87 Try.ld93 Try.st93 Try.ld100 Try.st100 Try.ld103 Try.st103 Try.ld106 Try.st106 Try.ld109 Try.st109 Try.ld132 Try.st132 Try.ld147 Try.st147 Try.al47 Try.al44 Try.al137 Try.al145 Try.al43 Try.al27 Try.al38 Try.al46 Try.al49 Try.al52 Try.al54 Try.al61 Try.al80 Try.al87 Try.al93 Try.al100 Try.al103 Try.al106 Try.al109 Try.al132 Try.al147
attribute [local go_sem] GProgram.length_enc GProgram.ok_enc GProgram.all_get GProgram.all_set GProgram.preds_get GProgram.preds_set GProgram.rules_get GProgram.rules_set GProgram.strata_get GProgram.strata_set Answer.length_enc Answer.ok_enc Answer.all_get Answer.all_set Answer.code_get Answer.code_set Answer.n_get Answer.n_set Answer.rows_get Answer.rows_set Term.length_enc Term.ok_enc Term.all_get Term.all_set Term.var_get Term.var_set Term.n_get Term.n_set Atom.length_enc Atom.ok_enc Atom.all_get Atom.all_set Atom.pred_get Atom.pred_set Atom.args_get Atom.args_set GRule.length_enc GRule.ok_enc GRule.all_get GRule.all_set GRule.head_get GRule.head_set GRule.body_get GRule.body_set GRule.head_pred_get GRule.head_pred_set GRule.head_args_get GRule.head_args_set GOp.length_enc GOp.ok_enc GOp.all_get GOp.all_set GOp.kind_get GOp.kind_set GOp.pred_get GOp.pred_set GOp.t_get GOp.t_set GOp.n_get GOp.n_set GOp.base_get GOp.base_set GOp.rule_get GOp.rule_set GOp.rule_head_get GOp.rule_head_set GOp.rule_body_get GOp.rule_body_set GOp.rule_head_pred_get GOp.rule_head_pred_set GOp.rule_head_args_get GOp.rule_head_args_set PredInfo.length_enc PredInfo.ok_enc PredInfo.all_get PredInfo.all_set PredInfo.arity_get PredInfo.arity_set PredInfo.base_get PredInfo.base_set PredInfo.stratum_get PredInfo.stratum_set GStats.length_enc GStats.ok_enc GStats.all_get GStats.all_set GStats.rounds_get GStats.rounds_set GStats.fired_get GStats.fired_set GStats.emitted_get GStats.emitted_set GStats.fresh_get GStats.fresh_set Literal.length_enc Literal.ok_enc Literal.all_get Literal.all_set Literal.neg_get Literal.neg_set Literal.atom_get Literal.atom_set Literal.atom_pred_get Literal.atom_pred_set Literal.atom_args_get Literal.atom_args_set Engine.length_enc Engine.ok_enc Engine.all_get Engine.all_set Engine.prog_get Engine.prog_set Engine.st_get Engine.st_set Engine.levels_get Engine.levels_set Engine.running_get Engine.running_set Engine.stratum_get Engine.stratum_set Engine.round_get Engine.round_set Engine.saved_get Engine.saved_set Engine.stats_get Engine.stats_set Engine.prog_preds_get Engine.prog_preds_set Engine.prog_rules_get Engine.prog_rules_set Engine.prog_strata_get Engine.prog_strata_set Engine.stats_rounds_get Engine.stats_rounds_set Engine.stats_fired_get Engine.stats_fired_set Engine.stats_emitted_get Engine.stats_emitted_set Engine.stats_fresh_get Engine.stats_fresh_set Level.length_enc Level.ok_enc Level.all_get Level.all_set Level.heads_get Level.heads_set Level.jobs_get Level.jobs_set Plan.length_enc Plan.ok_enc Plan.all_get Plan.all_set Plan.rule_get Plan.rule_set Plan.delta_get Plan.delta_set Plan.src_get Plan.src_set Job.length_enc Job.ok_enc Job.all_get Job.all_set Job.full_get Job.full_set Job.deltas_get Job.deltas_set Job.full_rule_get Job.full_rule_set Job.full_delta_get Job.full_delta_set Job.full_src_get Job.full_src_set GState.length_enc GState.ok_enc GState.all_get GState.all_set GState.prog_get GState.prog_set GState.base_get GState.base_set GState.shown_get GState.shown_set GState.prog_preds_get GState.prog_preds_set GState.prog_rules_get GState.prog_rules_set GState.prog_strata_get GState.prog_strata_set Store.length_enc Store.ok_enc Store.all_get Store.all_set Store.arity_get Store.arity_set Store.rows_get Store.rows_set Env.length_enc Env.ok_enc Env.all_get Env.all_set Env.val_get Env.val_set Env.set_get Env.set_set
attribute [local go_sem] size_put size_ext blk_put free_put blk_alloc free_alloc blk_drew free_drew blk_ext free_ext lookOr_some putOr_some segAt_some cellAt_some storeIn_some put_put put_alloc_new length_arr ok_arr_u8 ok_arr_u32 ok_arr_u64 ok_arr_i64 ok_arr_sl cellsV_agg cellsV_int cellsV_bool cellsV_string cellsV_pointer cellsV_slice cellsV_sl ok_int ok_bool ok_string ok_pointer ok_slice ok_sl toList_arr seg_arr set_arr nth_splice nth_splice0 seg_splice seg_splice0 splice_splice splice_splice0 length_splice_if
attribute [local go_sem ↓] execOp_box
attribute [local go_sem] box_run nth_arr_u8 put_arr_u8 blk_drewN free_drewN put_drewN blk_raw free_raw
set_option maxRecDepth 100000 in
theorem frame45 (f : Nat → Value) : frameN 45 f = #[f 0, f 1, f 2, f 3, f 4, f 5, f 6, f 7, f 8, f 9, f 10, f 11, f 12, f 13, f 14, f 15, f 16, f 17, f 18, f 19, f 20, f 21, f 22, f 23, f 24, f 25, f 26, f 27, f 28, f 29, f 30, f 31, f 32, f 33, f 34, f 35, f 36, f 37, f 38, f 39, f 40, f 41, f 42, f 43, f 44] := by kernel_rfl
def DOk (nn : Nat) (pl : Plan) : Prop := pl.delta < 0 ∨ (0 ≤ pl.delta ∧ pl.delta < (nn : Int))
def PlansPost (w : World) (nn : Nat) (e : Ending) (w' : World) : Prop := ∃ (v : Value) (K : List Plan), e = .returned v ∧ w'.ownsRow w.heap.size 103 3 v K.length (K.flatMap Plan.enc) ∧ (∀ pl ∈ K, DOk nn pl) ∧ K.length ≤ 9 ∧ w.Extends w'
def PS (w : World) (nn i : Nat) (v : Value) (K : List Plan) (W : World) : Prop := W.ownsRow w.heap.size 103 3 v K.length (K.flatMap Plan.enc) ∧ (∀ pl ∈ K, DOk nn pl) ∧ K.length ≤ i + 1 ∧ w.Extends W
def psI (w : World) (bp k nn : Nat) (f : Nat → Value) (W : World) : Prop :=
  f 0 = .pointer (some ⟨bp, 0, none⟩) ∧ f 1 = .int .i64 (k : Nat) ∧ ∃ (i : Nat) (v : Value) (K : List Plan), i ≤ nn ∧ f 6 = .int .i64 (i : Nat) ∧ f 5 = v ∧ Hid (PS w nn i v K W)
attribute [local go_sem] prg_len prg0 prg1 prg2 prg_set0 prg_set1 prg_set2 prg_all prg_ok bslice104
attribute [local go_sem ↓] execOp_build execOp_bslice execOp_slice
set_option maxRecDepth 20000 in
set_option maxHeartbeats 2000000 in
theorem plans_any (w : World) (bp bP bR : Nat) (aP : Option Addr) (N cP : Nat) (aR : Option Addr) (M cR : Nat) (S : Int) (P : List PredInfo) (R : List GRule) (ba : Nat → Option Addr) (bn bc : Nat → Nat) (Ls : Nat → List Literal) (hI : PrIn bp bP bR aP N cP aR M cR S P R ba bn bc Ls w) (hN : N ≤ 64) (hM : M ≤ 128) (k : Nat) (hkM : k < M) :
    Calls Try.prog 72 #[.pointer (some ⟨bp, 0, none⟩), .int .i64 (k : Nat)] w (PlansPost w (bn k)) := by
  have HI : Hid (PrIn bp bP bR aP N cP aR M cR S P R ba bn bc Ls w) := hI
  clear hI
  obtain ⟨r, hr⟩ : ∃ r, R[k]? = some r := by obtain ⟨r, _, h, _⟩ := HI.out.2.2.1.get hkM; exact ⟨r, h⟩
  obtain ⟨bL, oL, hsv, hL, hwf⟩ := HI.out.2.2.2 k r hr
  obtain ⟨nn, hnn⟩ : ∃ nn, nn = bn k := ⟨_, rfl⟩
  obtain ⟨aa, haa⟩ : ∃ aa, aa = ba k := ⟨_, rfl⟩
  obtain ⟨cc, hcc⟩ : ∃ cc, cc = bc k := ⟨_, rfl⟩
  obtain ⟨L, hLL⟩ : ∃ L, L = Ls k := ⟨_, rfl⟩
  rw [← hnn, ← haa, ← hcc] at hsv
  rw [← hnn, ← haa, ← hLL] at hL
  rw [← hnn, ← hLL] at hwf
  obtain ⟨h8, ⟨p0, p1⟩, _, hLp⟩ := hwf
  obtain ⟨h, hh⟩ : ∃ h : Nat, r.head.pred = (h : Int) := ⟨r.head.pred.toNat, by omega⟩
  obtain ⟨CR, rfl, hCR, hCRl, c0, c9⟩ := rule_at HI.out.2.2.1 hkM hr hsv hh
  have HL : Hid (At Literal.enc 10 w bL oL aa nn L) := hL
  have HLp : Hid (∀ l ∈ L, 0 ≤ l.atom.pred ∧ l.atom.pred < (N : Int)) := hLp
  have HCR : Hid (blk w bR = some CR) := hCR
  have HNN : Hid (nn = bn k) := hnn
  have k0 : (0 : Int) ≤ (k : Int) := by omega
  have k1 : (k : Int) < (M : Int) := by omega
  have k2 : ((k : Int)).toNat = k := by omega
  clear hr hsv hL hLp p0 p1 hh hnn haa hcc hLL c0 hCR
  have HF : Hid (∀ e W, PlansPost w nn e W → PlansPost w (bn k) e W) := fun e W h => by rw [← HNN.out]; exact h
  go_enter Try.func72, Try.ntmps72
  go_wp2_with fail
  refine (plan_any w bp bP bR aP N cP (some ⟨bR, 0, none⟩) M cR S P R ba bn bc Ls HI.out hN hM k hkM (-1)).mono ?_
  rintro e W1 ⟨pl, rfl, hpl, he1⟩
  have hx1 : W1.Extends (W1.alloc (.cells pl.enc.toArray 103)) := extends_alloc (ext_Ext (Ext.refl _)) _
  have H0 : Hid (PS w nn 0 (.slice (some ⟨W1.heap.size, 0, none⟩) 1 1) [pl] (W1.alloc (.cells pl.enc.toArray 103))) := by
    refine ⟨⟨by simp [Plan.length_enc], .inr ⟨W1.heap.size, 1, pl.enc.toArray, rfl, he1.size, by rw [heap_alloc, if_pos rfl], Nat.le_refl _, by simp only [maxLen]; omega, by simp [Plan.length_enc], ?_⟩⟩, fun q hq => ?_, by simp, he1.trans hx1⟩
    · have hl : pl.enc.length = 3 := Plan.length_enc pl
      simp
      exact List.take_of_length_le (by omega)
    · obtain rfl : q = pl := by simpa using hq
      exact .inl (by rw [hpl]; omega)
  clear hx1 he1 hpl
  dsimp only
  go_wp2_with fail
  refine wp_loop_f 45 (psI w bp k nn) (fun f _ => nn - (intOf (f 6)).toNat) rfl ?_ ?_
  · exact ⟨rfl, rfl, 0, _, [pl], by omega, rfl, rfl, H0⟩
  clear H0
  intro F W hrel
  obtain ⟨f0, f1, i, v, K, hi, f6, f5, HQ⟩ := hrel
  have H6 : Hid (F 6 = .int .i64 (i : Nat)) := f6
  rw [frame45, f0, f1, f5, f6]
  clear f0 f1 f5 f6
  have hext := HQ.out.2.2.2
  have hb : blk W bp = some (prgE aP N cP (some ⟨bR, 0, none⟩) M cR S) := (hext.blk (blk_lt HI.out.1)).trans HI.out.1
  have hCR : blk W bR = some CR := (hext.blk (blk_lt HCR.out)).trans HCR.out
  by_cases hin : i < nn
  · obtain ⟨l, CL, q, hl, hq, hqN, rfl, hCL, hCLl, d0, d1⟩ := lit_at (HL.out.grow hext) HLp.out hin
    have HIW : Hid (PrIn bp bP bR aP N cP (some ⟨bR, 0, none⟩) M cR S P R ba bn bc Ls W) := HI.out.ext hext
    have i0 : (0 : Int) ≤ (i : Int) := by omega
    have i1 : (i : Int) < (nn : Int) := by omega
    have i2 : ((i : Int)).toNat = i := by omega
    obtain ⟨ng, hng⟩ : ∃ ng, ng = l.neg := ⟨_, rfl⟩
    rw [← hng] at d0
    clear hl hq hng hext
    cases ng with
    | true =>
      have HQ' : Hid (PS w nn (i + 1) v K W) := ⟨HQ.out.1, HQ.out.2.1, by have := HQ.out.2.2.1; omega, HQ.out.2.2.2⟩
      go_wp2_with fail
      refine ⟨rfl, rfl, ⟨rfl, rfl, i + 1, v, K, by omega, ?_, rfl, HQ'⟩, ?_⟩
      · show Value.int .i64 _ = _
        go_num
      · show nn - (intOf (Value.int .i64 _)).toNat < nn - (intOf (F 6)).toNat
        rw [H6.out]
        simp [intOf]; omega
    | false =>
      go_wp2_with fail
      refine (plan_any W bp bP bR aP N cP (some ⟨bR, 0, none⟩) M cR S P R ba bn bc Ls HIW.out hN hM k hkM (i : Nat)).mono ?_
      rintro e W1 ⟨pl, rfl, hpl, he1⟩
      have hx1 : W1.Extends (W1.alloc (.cells pl.enc.toArray 103)) := extends_alloc (ext_Ext (Ext.refl _)) _
      have hrow := HQ.out.1
      obtain ⟨v', W2, hrun, ho2, hg2, hb2'⟩ := appG Plan.enc 3 40 104 103 Try.underlying104 info103 Plan.length_enc Plan.one_enc (by omega) (by omega) w.heap.size (W1.alloc (.cells pl.enc.toArray 103)) 104 v K pl W1.heap.size 1 (row_keep hrow (fun k hk => (hx1.block k (Nat.lt_of_lt_of_le (row_at hrow k hk).2.1 he1.size)).trans (he1.block k (row_at hrow k hk).2.1))) ((blk_alloc _ _ _ _).trans (if_pos rfl)) ((HQ.out.2.2.2.trans he1).trans hx1).size (by have := HQ.out.2.2.1; omega)
      have HQ' : Hid (PS w nn (i + 1) v' (K ++ [pl]) W2) := by
        refine ⟨ho2, fun q hq => ?_, ?_, grown_ext ((HQ.out.2.2.2.trans he1).trans hx1) hg2 (fun k hk => (row_at hrow k hk).1)⟩
        · rcases List.mem_append.1 hq with h | h
          · exact HQ.out.2.1 q h
          · obtain rfl : q = pl := by simpa using h
            exact .inr (by rw [hpl]; exact ⟨i0, i1⟩)
        · have := HQ.out.2.2.1
          rw [List.length_append, List.length_singleton]; omega
      clear ho2 hg2 hb2' hrow hx1 he1 hpl hb hCR hCL
      dsimp only
      go_wp2_with (at_builtin; refine wpList_append_run rfl _ _ 104 rfl _ _ _ _ rfl rfl hrun ?_)
      refine ⟨rfl, rfl, ⟨rfl, rfl, i + 1, v', K ++ [pl], by omega, ?_, rfl, HQ'⟩, ?_⟩
      · show Value.int .i64 _ = _
        go_num
      · show nn - (intOf (Value.int .i64 _)).toNat < nn - (intOf (F 6)).toNat
        rw [H6.out]
        simp [intOf]; omega
  · obtain rfl : i = nn := by omega
    go_wp2_with fail
    go_ret
    exact HF.out _ _ ⟨v, K, rfl, HQ.out.1, HQ.out.2.1, by have := HQ.out.2.2.1; omega, HQ.out.2.2.2⟩
end Go.Proofs.Qxb6500788a
