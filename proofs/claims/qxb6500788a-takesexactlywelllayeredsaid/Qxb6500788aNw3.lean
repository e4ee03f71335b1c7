import Derived.Test.Qxb6500788aNw2
import Derived.StillTailTactics
import Derived.Deep.QuietTactic
import Derived.BigQuiet
import Derived.Deep.RegionHeld
import Derived.Deep.CutRange
import Derived.Laws.ResultCell
import Derived.Laws.Rows
import Derived.DeepKeys
import Derived.DataBytes
import Derived.Laws.StructEq
import Derived.Laws.AppendOwn
set_option linter.unusedSimpArgs false
set_option linter.unusedVariables false
namespace Go.Proofs.Qxb6500788a
open Go.RowKit Go.Blk
attribute [local go_sem ↓] execOp_load execOp_store execOp_alloc
attribute [local go_sem] Try.ld24 Try.st24 Try.ld25 Try.st25 Try.ld3 Try.st3 Try.ld30 Try.st30 Try.ld36 Try.st36 Try.ld4 Try.st4 Try.ld41 Try.st41 Try.ld50 Try.st50 Try.ld40 Try.st40 Try.ld42 Try.st42 Try.ld89 Try.st89 Try.ld91 Try.st91 Try.ld56 Try.st56 Try.ld97 Try.st97 Try.ld98 Try.st98 Try.ld101 Try.st101 Try.ld104 Try.st104 Try.ld57 Try.st57 Try.ld130 Try.st130 Try.ld2 Try.st2 Try.ld5 Try.st5 Try.ld9 Try.st9 Try.ld12 Try.st12 Try.ld21 Try.st21 Try.ld22 Try.st22 Try.ld29 Try.st29 Try.ld33 Try.st33 Try.ld59 Try.st59 Try.ld62 Try.st62 Try.ld69 Try.st69 Try.ld94 Try.st94 Try.ld96 Try.st96 Try.ld129 Try.st129 Try.ld158 Try.st158 Try.ld162 Try.st162 Try.ld47 Try.st47 Try.ld44 Try.st44 Try.ld137 Try.st137 Try.ld145 Try.st145 Try.ld43 Try.st43 Try.ld27 Try.st27 Try.ld38 Try.st38 Try.ld46 Try.st46 Try.ld49 Try.st49 Try.ld52 Try.st52 Try.ld54 Try.st54 Try.ld61 Try.st61 Try.ld80 Try.st80 Try.ld87 Try.st87 Try.ld93 Try.st93 Try.ld100 Try.st100 Try.ld103 Try.st103 Try.ld106 Try.st106 Try.ld109 Try.st109 Try.ld132 Try.st132 Try.ld147 Try.st147 Try.al47 Try.al44 Try.al137 Try.al145 Try.al43 Try.al27 Try.al38 Try.al46 Try.al49 Try.al52 Try.al54 Try.al61 Try.al80 Try.al87 Try.al93 Try.al100 Try.al103 Try.al106 Try.al109 Try.al132 Try.al147
attribute [local go_sem] GProgram.length_enc GProgram.ok_enc GProgram.all_get GProgram.all_set GProgram.preds_get GProgram.preds_set GProgram.rules_get GProgram.rules_set GProgram.strata_get GProgram.strata_set Answer.length_enc Answer.ok_enc Answer.all_get Answer.all_set Answer.code_get Answer.code_set Answer.n_get Answer.n_set Answer.rows_get Answer.rows_set Term.length_enc Term.ok_enc Term.all_get Term.all_set Term.var_get Term.var_set Term.n_get Term.n_set Atom.length_enc Atom.ok_enc Atom.all_get Atom.all_set Atom.pred_get Atom.pred_set Atom.args_get Atom.args_set GRule.length_enc GRule.ok_enc GRule.all_get GRule.all_set GRule.head_get GRule.head_set GRule.body_get GRule.body_set GRule.head_pred_get GRule.head_pred_set GRule.head_args_get GRule.head_args_set GOp.length_enc GOp.ok_enc GOp.all_get GOp.all_set GOp.kind_get GOp.kind_set GOp.pred_get GOp.pred_set GOp.t_get GOp.t_set GOp.n_get GOp.n_set GOp.base_get GOp.base_set GOp.rule_get GOp.rule_set GOp.rule_head_get GOp.rule_head_set GOp.rule_body_get GOp.rule_body_set GOp.rule_head_pred_get GOp.rule_head_pred_set GOp.rule_head_args_get GOp.rule_head_args_set PredInfo.length_enc PredInfo.ok_enc PredInfo.all_get PredInfo.all_set PredInfo.arity_get PredInfo.arity_set PredInfo.base_get PredInfo.base_set PredInfo.stratum_get PredInfo.stratum_set GStats.length_enc GStats.ok_enc GStats.all_get GStats.all_set GStats.rounds_get GStats.rounds_set GStats.fired_get GStats.fired_set GStats.emitted_get GStats.emitted_set GStats.fresh_get GStats.fresh_set Literal.length_enc Literal.ok_enc Literal.all_get Literal.all_set Literal.neg_get Literal.neg_set Literal.atom_get Literal.atom_set Literal.atom_pred_get Literal.atom_pred_set Literal.atom_args_get Literal.atom_args_set Engine.length_enc Engine.ok_enc Engine.all_get Engine.all_set Engine.prog_get Engine.prog_set Engine.st_get Engine.st_set Engine.levels_get Engine.levels_set Engine.running_get Engine.running_set Engine.stratum_get Engine.stratum_set Engine.round_get Engine.round_set Engine.saved_get Engine.saved_set Engine.stats_get Engine.stats_set Engine.prog_preds_get Engine.prog_preds_set Engine.prog_rules_get Engine.prog_rules_set Engine.prog_strata_get Engine.prog_strata_set Engine.stats_rounds_get Engine.stats_rounds_set Engine.stats_fired_get Engine.stats_fired_set Engine.stats_emitted_get Engine.stats_emitted_set Engine.stats_fresh_get Engine.stats_fresh_set Level.length_enc Level.ok_enc Level.all_get Level.all_set Level.heads_get Level.heads_set Level.jobs_get Level.jobs_set Plan.length_enc Plan.ok_enc Plan.all_get Plan.all_set Plan.rule_get Plan.rule_set Plan.delta_get Plan.delta_set Plan.src_get Plan.src_set Job.length_enc Job.ok_enc Job.all_get Job.all_set Job.full_get Job.full_set Job.deltas_get Job.deltas_set Job.full_rule_get Job.full_rule_set Job.full_delta_get Job.full_delta_set Job.full_src_get Job.full_src_set GState.length_enc GState.ok_enc GState.all_get GState.all_set GState.prog_get GState.prog_set GState.base_get GState.base_set GState.shown_get GState.shown_set GState.prog_preds_get GState.prog_preds_set GState.prog_rules_get GState.prog_rules_set GState.prog_strata_get GState.prog_strata_set Store.length_enc Store.ok_enc Store.all_get Store.all_set Store.arity_get Store.arity_set Store.rows_get Store.rows_set Env.length_enc Env.ok_enc Env.all_get Env.all_set Env.val_get Env.val_set Env.set_get Env.set_set
attribute [local go_sem] size_put size_ext blk_put free_put blk_alloc free_alloc blk_drew free_drew blk_ext free_ext lookOr_some putOr_some segAt_some cellAt_some storeIn_some put_put put_alloc_new length_arr ok_arr_u8 ok_arr_u32 ok_arr_u64 ok_arr_i64 ok_arr_sl cellsV_agg cellsV_int cellsV_bool cellsV_string cellsV_pointer cellsV_slice cellsV_sl ok_int ok_bool ok_string ok_pointer ok_slice ok_sl toList_arr seg_arr set_arr nth_splice nth_splice0 seg_splice seg_splice0 splice_splice splice_splice0 length_splice_if
attribute [local go_sem ↓] execOp_box
attribute [local go_sem] box_run nth_arr_u8 put_arr_u8 blk_drewN free_drewN put_drewN blk_raw free_raw
set_option maxRecDepth 100000 in
theorem frame73 (f : Nat → Value) : frameN 73 f = #[f 0, f 1, f 2, f 3, f 4, f 5, f 6, f 7, f 8, f 9, f 10, f 11, f 12, f 13, f 14, f 15, f 16, f 17, f 18, f 19, f 20, f 21, f 22, f 23, f 24, f 25, f 26, f 27, f 28, f 29, f 30, f 31, f 32, f 33, f 34, f 35, f 36, f 37, f 38, f 39, f 40, f 41, f 42, f 43, f 44, f 45, f 46, f 47, f 48, f 49, f 50, f 51, f 52, f 53, f 54, f 55, f 56, f 57, f 58, f 59, f 60, f 61, f 62, f 63, f 64, f 65, f 66, f 67, f 68, f 69, f 70, f 71, f 72] := by kernel_rfl
def JobPost (w : World) (e : Ending) (w' : World) : Prop := ∃ J : Job, e = .returned (.agg J.enc.toArray) ∧ w.Extends w'
def MJ (w : World) (b6 b7 B g : Nat) (ap : Option Addr) (np : Nat) (Q : List Plan) (pf : Plan) (a : Option Addr) (n c i : Nat) (K : List Plan) (W : World) : Prop :=
  blk W b6 = some Job.zero.enc ∧ free W b6 = true ∧ blk W b7 = some (jobE pf a n c) ∧ free W b7 = true ∧ n = K.length ∧ W.ownsRow B 103 3 (.slice a n c) K.length (K.flatMap Plan.enc) ∧ n ≤ i ∧ w.Extends W ∧ B ≤ W.heap.size ∧ At Plan.enc 3 W g 0 ap np Q
theorem MJ.ext {w : World} {b6 b7 B g : Nat} {ap : Option Addr} {np : Nat} {Q : List Plan} {pf : Plan} {a : Option Addr} {n c i : Nat} {K : List Plan} {W W' : World} (h : MJ w b6 b7 B g ap np Q pf a n c i K W) (he : W.Extends W') : MJ w b6 b7 B g ap np Q pf a n c i K W' := by
  obtain ⟨h1, h2, h3, h4, h5, h6, h7, h8, h9, h10⟩ := h
  exact ⟨(he.blk (blk_lt h1)).trans h1, (free_of_heap (he.block b6 (blk_lt h1))).trans h2, (he.blk (blk_lt h3)).trans h3, (free_of_heap (he.block b7 (blk_lt h3))).trans h4, h5, row_keep h6 (fun k hk => he.block k (row_at h6 k hk).2.1), h7, h8.trans he, Nat.le_trans h9 he.size, h10.grow he⟩
def mjI (w : World) (bp b6 b7 B g k : Nat) (s : Int) (ap : Option Addr) (np cp : Nat) (Q : List Plan) (f : Nat → Value) (W : World) : Prop :=
  f 0 = .pointer (some ⟨bp, 0, none⟩) ∧ f 1 = .int .i64 (k : Nat) ∧ f 2 = .int .i64 s ∧ f 6 = .pointer (some ⟨b6, 0, none⟩) ∧ f 7 = .pointer (some ⟨b7, 0, none⟩) ∧ f 8 = .slice ap np cp ∧ ∃ (i : Nat) (pf : Plan) (a : Option Addr) (n c : Nat) (K : List Plan), i ≤ np ∧ f 9 = .int .i64 (i : Nat) ∧ Hid (MJ w b6 b7 B g ap np Q pf a n c i K W)
attribute [local go_sem] prg_len prg0 prg1 prg2 prg_set0 prg_set1 prg_set2 prg_all prg_ok bslice104 job_len job3 job_set3 job_set0 job_all job_put job_ok
attribute [local go_sem ↓] execOp_build execOp_bslice execOp_slice
set_option maxRecDepth 20000 in
set_option maxHeartbeats 3000000 in
theorem makeJob_any (w : World) (bp bP bR : Nat) (aP : Option Addr) (N cP : Nat) (aR : Option Addr) (M cR : Nat) (S : Int) (P : List PredInfo) (R : List GRule) (ba : Nat → Option Addr) (bn bc : Nat → Nat) (Ls : Nat → List Literal) (hI : PrIn bp bP bR aP N cP aR M cR S P R ba bn bc Ls w) (hN : N ≤ 64) (hM : M ≤ 128) (k : Nat) (hkM : k < M) (s : Int) :
    Calls Try.prog 44 #[.pointer (some ⟨bp, 0, none⟩), .int .i64 (k : Nat), .int .i64 s] w (JobPost w) := by
  have HI : Hid (PrIn bp bP bR aP N cP aR M cR S P R ba bn bc Ls w) := hI
  clear hI
  obtain ⟨r, hr⟩ : ∃ r, R[k]? = some r := by obtain ⟨r, _, h, _⟩ := HI.out.2.2.1.get hkM; exact ⟨r, h⟩
  obtain ⟨bL, oL, hsv, hL, hwf⟩ := HI.out.2.2.2 k r hr
  obtain ⟨nn, hnn⟩ : ∃ nn, nn = bn k := ⟨_, rfl⟩
  obtain ⟨aa, haa⟩ : ∃ aa, aa = ba k := ⟨_, rfl⟩
  obtain ⟨cc, hcc⟩ : ∃ cc, cc = bc k := ⟨_, rfl⟩
  obtain ⟨L, hLL⟩ : ∃ L, L = Ls k := ⟨_, rfl⟩
  rw [← hnn, ← haa, ← hcc] at hsv
  rw [← hnn, ← haa, ← hLL] at hL
  rw [← hnn, ← hLL] at hwf
  obtain ⟨h8, ⟨p0, p1⟩, _, hLp⟩ := hwf
  obtain ⟨h, hh⟩ : ∃ h : Nat, r.head.pred = (h : Int) := ⟨r.head.pred.toNat, by omega⟩
  obtain ⟨CR, rfl, hCR, hCRl, c0, c9⟩ := rule_at HI.out.2.2.1 hkM hr hsv hh
  have HL : Hid (At Literal.enc 10 w bL oL aa nn L) := hL
  have HLp : Hid (∀ l ∈ L, 0 ≤ l.atom.pred ∧ l.atom.pred < (N : Int)) := hLp
  have HCR : Hid (blk w bR = some CR) := hCR
  have HNN : Hid (nn = bn k) := hnn
  have k0 : (0 : Int) ≤ (k : Int) := by omega
  have k1 : (k : Int) < (M : Int) := by omega
  have k2 : ((k : Int)).toNat = k := by omega
  clear hr hsv hL hLp p0 p1 hh hnn haa hcc hLL c0 hCR
  go_enter Try.func44, Try.ntmps44
  go_upto_region 2 with fail
  refine wp_world (fun W => blk W w.heap.size = some Job.zero.enc ∧ free W w.heap.size = true ∧ blk W (w.heap.size + 1) = some Job.zero.enc ∧ free W (w.heap.size + 1) = true ∧ W.heap.size = w.heap.size + 2 ∧ w.Extends W) ⟨?_, ?_, ?_, ?_, ?_, ?_⟩ ?_
  · rw [blk_alloc, if_neg (by rw [World.size_alloc]; omega), blk_alloc, if_pos rfl]
  · rw [free_alloc, if_neg (by rw [World.size_alloc]; omega), free_alloc, if_pos rfl]
  · rw [blk_alloc, if_pos (by rw [World.size_alloc])]
  · rw [free_alloc, if_pos (by rw [World.size_alloc])]
  · rw [World.size_alloc, World.size_alloc]
  · exact extends_alloc (extends_alloc (ext_Ext (Ext.refl w)) _) _
  rintro W0 ⟨i1, i2, i3, i4, i5, i6⟩
  obtain ⟨b6, hb6⟩ : ∃ b6, b6 = w.heap.size := ⟨_, rfl⟩
  obtain ⟨b7, hb7⟩ : ∃ b7, b7 = b6 + 1 := ⟨_, rfl⟩
  rw [← hb6, ← hb7] at i3 i4
  rw [← hb6] at i1 i2
  rw [← hb6, ← hb7]
  have h67 : ¬ b6 = b7 := by omega
  have hw6 : w.heap.size ≤ b6 := by omega
  have hw7 : w.heap.size ≤ b7 := by omega
  have hW0 : b7 < W0.heap.size := by omega
  have HJ : Hid (blk W0 b6 = some Job.zero.enc ∧ free W0 b6 = true ∧ blk W0 b7 = some (jobE Plan.zero none 0 0) ∧ free W0 b7 = true ∧ w.Extends W0) := ⟨i1, i2, i3, i4, i6⟩
  clear i1 i2 i3 i4 i5 i6 hb6 hb7
  go_wp2_with fail
  refine (plans_any W0 bp bP bR aP N cP (some ⟨bR, 0, none⟩) M cR S P R ba bn bc Ls (HI.out.ext HJ.out.2.2.2.2) hN hM k hkM).mono ?_
  rintro e W1 ⟨v, Q, rfl, hrow, hdok, hQ9, he1⟩
  rw [← HNN.out] at hdok
  have HDOK : Hid (∀ pl ∈ Q, DOk nn pl) := hdok
  obtain ⟨ap, g0, cp, rfl, _, _, hg4, hAt, _⟩ := own_at Plan.length_enc hrow
  obtain ⟨np, hnp⟩ : ∃ np, np = Q.length := ⟨_, rfl⟩
  rw [← hnp] at hQ9 hg4 hAt ⊢
  have hgW : np ≠ 0 → W0.heap.size ≤ g0 := fun h0 => (hg4 h0).1
  obtain ⟨j1, j2, j3, j4, j5⟩ := HJ.out
  obtain ⟨B, hB⟩ : ∃ B, B = W1.heap.size := ⟨_, rfl⟩
  have hB0 : W0.heap.size ≤ B := by rw [hB]; exact he1.size
  have HgB : Hid (np ≠ 0 → g0 < B ∧ W0.heap.size ≤ g0) := fun h0 => ⟨by obtain ⟨_, C, h1, _⟩ := hAt.2 h0; rw [hB]; exact blk_lt h1, hgW h0⟩
  have h6B : b6 < B := by have := blk_lt j1; omega
  have h7B : b7 < B := by omega
  have l61 := blk_lt j1
  have H0 : Hid (MJ w b6 b7 B g0 ap np Q Plan.zero none 0 0 0 [] W1) := ⟨(he1.blk l61).trans j1, (free_of_heap (he1.block b6 l61)).trans j2, (he1.blk hW0).trans j3, (free_of_heap (he1.block b7 hW0)).trans j4, rfl, ⟨rfl, .inl ⟨rfl, rfl⟩⟩, by omega, j5.trans he1, by omega, hAt⟩
  clear hrow hdok hg4 hAt hgW j1 j2 j3 j4 j5 he1 hB hB0 l61 HJ hnp
  dsimp only
  go_wp2_with fail
  refine wp_loop_f 73 (mjI w bp b6 b7 B g0 k s ap np cp Q) (fun f _ => np - (intOf (f 9)).toNat) rfl ?_ ?_
  · exact ⟨rfl, rfl, rfl, rfl, rfl, rfl, 0, Plan.zero, none, 0, 0, [], by omega, rfl, H0⟩
  clear H0
  intro F W hrel
  obtain ⟨f0, f1, f2, f6, f7, f8, i, pf, a, n, c, K, hi, f9, HQ⟩ := hrel
  have H9 : Hid (F 9 = .int .i64 (i : Nat)) := f9
  rw [frame73, f0, f1, f2, f6, f7, f8, f9]
  clear f0 f1 f2 f6 f7 f8 f9
  obtain ⟨hz6, hf6, hb7, hf7, hnK, hrow, hni, hext, hBW, hAt⟩ := HQ.out
  by_cases hin : i < np
  · obtain ⟨pl, Cg, hpl, rfl, hCg, hCgl, hps⟩ := hAt.get hin
    obtain ⟨hg1, hg2⟩ := HgB.out (by omega)
    rw [Nat.zero_add] at hps hCgl
    have hd1 : nth Cg (i * 3 + 1) = some (.int .i64 pl.delta) := nth_in hps (Plan.delta_get pl) (by omega)
    have hD := HDOK.out pl (List.mem_of_getElem? hpl)
    have i0 : (0 : Int) ≤ (i : Int) := by omega
    have i1 : (i : Int) < (np : Int) := by omega
    have i2 : ((i : Int)).toNat = i := by omega
    have l3 : i * 3 + 3 ≤ Cg.length := by omega
    have l7 := blk_lt hb7
    have lg := blk_lt hCg
    clear hpl
    by_cases hneg : pl.delta < 0
    · have HQ' : Hid (MJ w b6 b7 B g0 (some ⟨g0, 0, none⟩) np Q pl a n c (i + 1) K (put W b7 (jobE pl a n c))) := by
        refine ⟨by rw [blk_put, if_neg h67]; exact hz6, by rw [free_put]; exact hf6, by rw [blk_put, if_pos rfl, hb7]; rfl, by rw [free_put]; exact hf7, hnK, row_keep hrow (fun k hk => by rw [heap_put, if_neg (fun e => by have := (row_at hrow k hk).1; omega)]), by omega, ?_, by rw [size_put]; exact hBW, hAt.mono (fun _ => by rw [blk_put, if_neg (by omega)])⟩
        exact (Side.put (D := fun k => k = b7) (Side.refl _ _) rfl _).extends hext (fun k hk => by rw [hk]; exact hw7)
      clear hrow hnK HQ hext hAt hD
      go_wp2_with fail
      refine ⟨rfl, rfl, ⟨rfl, rfl, rfl, rfl, rfl, rfl, i + 1, pl, a, n, c, K, by omega, ?_, HQ'⟩, ?_⟩
      · show Value.int .i64 _ = _
        go_num
      · show np - (intOf (Value.int .i64 _)).toNat < np - (intOf (F 9)).toNat
        rw [H9.out]
        simp [intOf]; omega
    · obtain ⟨t, ht⟩ : ∃ t : Nat, pl.delta = (t : Int) := ⟨pl.delta.toNat, by omega⟩
      have htn : t < nn := by rcases hD with h | h <;> omega
      rw [ht] at hd1
      have n0 : ¬ ((t : Int) < 0) := by omega
      obtain ⟨l, CL, q, hl, hq, hqN, rfl, hCL, hCLl, d0, d1⟩ := lit_at (HL.out.grow hext) HLp.out htn
      obtain ⟨x, C, hx, rfl, hC, hCl, hs⟩ := (HI.out.ext hext).2.1.get hqN
      rw [Nat.zero_add] at hs hCl
      have hb : blk W bp = some (prgE (some ⟨bP, 0, none⟩) N cP (some ⟨bR, 0, none⟩) M cR S) := (hext.blk (blk_lt HI.out.1)).trans HI.out.1
      have hCR : blk W bR = some CR := (hext.blk (blk_lt HCR.out)).trans HCR.out
      have t0 : (0 : Int) ≤ (t : Int) := by omega
      have t1 : (t : Int) < (nn : Int) := by omega
      have t2 : ((t : Int)).toNat = t := by omega
      have q0 : (0 : Int) ≤ (q : Int) := by omega
      have q1 : (q : Int) < (N : Int) := by omega
      have q2 : ((q : Int)).toNat = q := by omega
      have l4 : q * 3 + 3 ≤ C.length := by omega
      have lbp := blk_lt hb
      have lbR := blk_lt hCR
      have lbL := blk_lt hCL
      have lbP := blk_lt hC
      have m1 : ¬ bp = W.heap.size := by omega
      have m2 : ¬ bR = W.heap.size := by omega
      have m3 : ¬ bL = W.heap.size := by omega
      have m4 : ¬ g0 = W.heap.size := by omega
      have m5 : ¬ bP = W.heap.size := by omega
      have HPS : Hid (seg Cg (i * 3) 3 = pl.enc) := hps
      clear hl hq hx hrow hnK hext hAt hD ht hz6 hf6 hneg hCl hCLl hf7 hps
      repeat go_step
      refine wp_region_held_drew (S := fun W' => blk W' bp = some (prgE (some ⟨bP, 0, none⟩) N cP (some ⟨bR, 0, none⟩) M cR S) ∧ blk W' bR = some CR ∧ blk W' bL = some CL ∧ blk W' g0 = some Cg ∧ blk W' bP = some C) (by kernel_rfl) ⟨hb, hCR, hCL, hCg, hC⟩ (fun hHeld => ?_)
      refine wpAnyH_take (i := 0) (oi := ⟨_, _, _, _, _, _⟩) (v := ?_) rfl (by kernel_rfl) (by kernel_rfl) (by kernel_rfl) (fun _ _ _ h => h) (Or.inl ⟨by rfl, ?_⟩) (by assumption) ?_
      rotate_left 1
      · intro W' hSw
        obtain ⟨hS1, hS2, hS3, hS4, hS5⟩ := hSw
        go_simp
        try with_reducible rfl
      try simp only [Act.put, List.setIfInBounds_toArray, List.set_cons_zero, List.set_cons_succ]
      refine wpAnyH_take (i := 1) (oi := ⟨_, _, _, _, _, _⟩) (v := ?_) rfl (by kernel_rfl) (by kernel_rfl) (by kernel_rfl) (fun _ _ _ h => h) (Or.inl ⟨by rfl, ?_⟩) (by assumption) ?_
      rotate_left 1
      · intro W' hSw
        obtain ⟨hS1, hS2, hS3, hS4, hS5⟩ := hSw
        go_simp
        try with_reducible rfl
      try simp only [Act.put, List.setIfInBounds_toArray, List.set_cons_zero, List.set_cons_succ]
      refine wpAnyH_take (i := 2) (oi := ⟨_, _, _, _, _, _⟩) (v := ?_) rfl (by kernel_rfl) (by kernel_rfl) (by kernel_rfl) (fun _ _ _ h => h) (Or.inl ⟨by rfl, ?_⟩) (by assumption) ?_
      rotate_left 1
      · intro W' hSw
        obtain ⟨hS1, hS2, hS3, hS4, hS5⟩ := hSw
        go_simp
        try with_reducible rfl
      try simp only [Act.put, List.setIfInBounds_toArray, List.set_cons_zero, List.set_cons_succ]
      refine wpAnyH_take (i := 3) (oi := ⟨_, _, _, _, _, _⟩) (v := ?_) rfl (by kernel_rfl) (by kernel_rfl) (by kernel_rfl) (fun _ _ _ h => h) (Or.inl ⟨by rfl, ?_⟩) (by assumption) ?_
      rotate_left 1
      · intro W' hSw
        obtain ⟨hS1, hS2, hS3, hS4, hS5⟩ := hSw
        go_simp
        try with_reducible rfl
      try simp only [Act.put, List.setIfInBounds_toArray, List.set_cons_zero, List.set_cons_succ]
      refine wpAnyH_take (i := 4) (oi := ⟨_, _, _, _, _, _⟩) (v := ?_) rfl (by kernel_rfl) (by kernel_rfl) (by kernel_rfl) (fun _ _ _ h => h) (Or.inl ⟨by rfl, ?_⟩) (by assumption) ?_
      rotate_left 1
      · intro W' hSw
        obtain ⟨hS1, hS2, hS3, hS4, hS5⟩ := hSw
        go_simp
        try with_reducible rfl
      try simp only [Act.put, List.setIfInBounds_toArray, List.set_cons_zero, List.set_cons_succ]
      refine wpAnyH_take (i := 5) (oi := ⟨_, _, _, _, _, _⟩) (v := ?_) rfl (by kernel_rfl) (by kernel_rfl) (by kernel_rfl) (fun _ _ _ h => h) (Or.inl ⟨by rfl, ?_⟩) (by assumption) ?_
      rotate_left 1
      · intro W' hSw
        obtain ⟨hS1, hS2, hS3, hS4, hS5⟩ := hSw
        go_simp
        try with_reducible rfl
      try simp only [Act.put, List.setIfInBounds_toArray, List.set_cons_zero, List.set_cons_succ]
      refine wpAnyH_take (i := 6) (oi := ⟨_, _, _, _, _, _⟩) (v := ?_) rfl (by kernel_rfl) (by kernel_rfl) (by kernel_rfl) (fun _ _ _ h => h) (Or.inl ⟨by rfl, ?_⟩) (by assumption) ?_
      rotate_left 1
      · intro W' hSw
        obtain ⟨hS1, hS2, hS3, hS4, hS5⟩ := hSw
        go_simp
        try with_reducible rfl
      try simp only [Act.put, List.setIfInBounds_toArray, List.set_cons_zero, List.set_cons_succ]
      refine wpAnyH_take (i := 7) (oi := ⟨_, _, _, _, _, _⟩) (v := ?_) rfl (by kernel_rfl) (by kernel_rfl) (by kernel_rfl) (fun _ _ _ h => h) (Or.inl ⟨by rfl, ?_⟩) (by assumption) ?_
      rotate_left 1
      · intro W' hSw
        obtain ⟨hS1, hS2, hS3, hS4, hS5⟩ := hSw
        go_simp
        try with_reducible rfl
      try simp only [Act.put, List.setIfInBounds_toArray, List.set_cons_zero, List.set_cons_succ]
      refine wpAnyH_take (i := 8) (oi := ⟨_, _, _, _, _, _⟩) (v := ?_) rfl (by kernel_rfl) (by kernel_rfl) (by kernel_rfl) (fun _ _ _ h => h) (Or.inl ⟨by rfl, ?_⟩) (by assumption) ?_
      rotate_left 1
      · intro W' hSw
        obtain ⟨hS1, hS2, hS3, hS4, hS5⟩ := hSw
        go_simp
        try with_reducible rfl
      try simp only [Act.put, List.setIfInBounds_toArray, List.set_cons_zero, List.set_cons_succ]
      refine wpAnyH_take (i := 9) (oi := ⟨_, _, _, _, _, _⟩) (v := ?_) rfl (by kernel_rfl) (by kernel_rfl) (by kernel_rfl) (fun _ _ _ h => h) (Or.inl ⟨by rfl, ?_⟩) (by assumption) ?_
      rotate_left 1
      · intro W' hSw
        obtain ⟨hS1, hS2, hS3, hS4, hS5⟩ := hSw
        go_simp
        try with_reducible rfl
      try simp only [Act.put, List.setIfInBounds_toArray, List.set_cons_zero, List.set_cons_succ]
      refine wpAnyH_take (i := 10) (oi := ⟨_, _, _, _, _, _⟩) (v := ?_) rfl (by kernel_rfl) (by kernel_rfl) (by kernel_rfl) (fun _ _ _ h => h) (Or.inl ⟨by rfl, ?_⟩) (by assumption) ?_
      rotate_left 1
      · intro W' hSw
        obtain ⟨hS1, hS2, hS3, hS4, hS5⟩ := hSw
        go_simp
        try with_reducible rfl
      try simp only [Act.put, List.setIfInBounds_toArray, List.set_cons_zero, List.set_cons_succ]
      refine wpAnyH_take (i := 11) (oi := ⟨_, _, _, _, _, _⟩) (v := ?_) rfl (by kernel_rfl) (by kernel_rfl) (by kernel_rfl) (fun _ _ _ h => h) (Or.inl ⟨by rfl, ?_⟩) (by assumption) ?_
      rotate_left 1
      · intro W' hSw
        obtain ⟨hS1, hS2, hS3, hS4, hS5⟩ := hSw
        go_simp
        try with_reducible rfl
      try simp only [Act.put, List.setIfInBounds_toArray, List.set_cons_zero, List.set_cons_succ]
      refine wpAnyH_take (i := 12) (oi := ⟨_, _, _, _, _, _⟩) (v := ?_) rfl (by kernel_rfl) (by kernel_rfl) (by kernel_rfl) (fun _ _ _ h => h) (Or.inl ⟨by rfl, ?_⟩) (by assumption) ?_
      rotate_left 1
      · intro W' hSw
        obtain ⟨hS1, hS2, hS3, hS4, hS5⟩ := hSw
        go_simp
        try with_reducible rfl
      try simp only [Act.put, List.setIfInBounds_toArray, List.set_cons_zero, List.set_cons_succ]
      refine wpAnyH_take (i := 13) (oi := ⟨_, _, _, _, _, _⟩) (v := ?_) rfl (by kernel_rfl) (by kernel_rfl) (by kernel_rfl) (fun _ _ _ h => h) (Or.inl ⟨by rfl, ?_⟩) (by assumption) ?_
      rotate_left 1
      · intro W' hSw
        obtain ⟨hS1, hS2, hS3, hS4, hS5⟩ := hSw
        go_simp
        try with_reducible rfl
      try simp only [Act.put, List.setIfInBounds_toArray, List.set_cons_zero, List.set_cons_succ]
      refine wpAnyH_take (i := 14) (oi := ⟨_, _, _, _, _, _⟩) (v := ?_) rfl (by kernel_rfl) (by kernel_rfl) (by kernel_rfl) (fun _ _ _ h => h) (Or.inl ⟨by rfl, ?_⟩) (by assumption) ?_
      rotate_left 1
      · intro W' hSw
        obtain ⟨hS1, hS2, hS3, hS4, hS5⟩ := hSw
        go_simp
        try with_reducible rfl
      try simp only [Act.put, List.setIfInBounds_toArray, List.set_cons_zero, List.set_cons_succ]
      refine wpAnyH_take (i := 15) (oi := ⟨_, _, _, _, _, _⟩) (v := ?_) rfl (by kernel_rfl) (by kernel_rfl) (by kernel_rfl) (fun _ _ _ h => h) (Or.inl ⟨by rfl, ?_⟩) (by assumption) ?_
      rotate_left 1
      · intro W' hSw
        obtain ⟨hS1, hS2, hS3, hS4, hS5⟩ := hSw
        go_simp
        try with_reducible rfl
      try simp only [Act.put, List.setIfInBounds_toArray, List.set_cons_zero, List.set_cons_succ]
      refine wpAnyH_take (i := 16) (oi := ⟨_, _, _, _, _, _⟩) (v := ?_) rfl (by kernel_rfl) (by kernel_rfl) (by kernel_rfl) (fun _ _ _ h => h) (Or.inl ⟨by rfl, ?_⟩) (by assumption) ?_
      rotate_left 1
      · intro W' hSw
        obtain ⟨hS1, hS2, hS3, hS4, hS5⟩ := hSw
        go_simp
        try with_reducible rfl
      try simp only [Act.put, List.setIfInBounds_toArray, List.set_cons_zero, List.set_cons_succ]
      refine wpAnyH_take (i := 17) (oi := ⟨_, _, _, _, _, _⟩) (v := ?_) rfl (by kernel_rfl) (by kernel_rfl) (by kernel_rfl) (fun _ _ _ h => h) (Or.inl ⟨by rfl, ?_⟩) (by assumption) ?_
      rotate_left 1
      · intro W' hSw
        obtain ⟨hS1, hS2, hS3, hS4, hS5⟩ := hSw
        go_simp
        try with_reducible rfl
      try simp only [Act.put, List.setIfInBounds_toArray, List.set_cons_zero, List.set_cons_succ]
      refine wpAnyH_take (i := 18) (oi := ⟨_, _, _, _, _, _⟩) (v := ?_) rfl (by kernel_rfl) (by kernel_rfl) (by kernel_rfl) (fun _ _ _ h => h) (Or.inl ⟨by rfl, ?_⟩) (by assumption) ?_
      rotate_left 1
      · intro W' hSw
        obtain ⟨hS1, hS2, hS3, hS4, hS5⟩ := hSw
        go_simp
        try with_reducible rfl
      try simp only [Act.put, List.setIfInBounds_toArray, List.set_cons_zero, List.set_cons_succ]
      refine wpAnyH_take (i := 19) (oi := ⟨_, _, _, _, _, _⟩) (v := ?_) rfl (by kernel_rfl) (by kernel_rfl) (by kernel_rfl) (fun _ _ _ h => h) (Or.inl ⟨by rfl, ?_⟩) (by assumption) ?_
      rotate_left 1
      · intro W' hSw
        obtain ⟨hS1, hS2, hS3, hS4, hS5⟩ := hSw
        go_simp
        try with_reducible rfl
      try simp only [Act.put, List.setIfInBounds_toArray, List.set_cons_zero, List.set_cons_succ]
      refine wpAnyH_take (i := 20) (oi := ⟨_, _, _, _, _, _⟩) (v := ?_) rfl (by kernel_rfl) (by kernel_rfl) (by kernel_rfl) (fun _ _ _ h => h) (Or.inl ⟨by rfl, ?_⟩) (by assumption) ?_
      rotate_left 1
      · intro W' hSw
        obtain ⟨hS1, hS2, hS3, hS4, hS5⟩ := hSw
        go_simp
        try with_reducible rfl
      try simp only [Act.put, List.setIfInBounds_toArray, List.set_cons_zero, List.set_cons_succ]
      refine wpAnyH_take (i := 21) (oi := ⟨_, _, _, _, _, _⟩) (v := ?_) rfl (by kernel_rfl) (by kernel_rfl) (by kernel_rfl) (fun _ _ _ h => h) (Or.inl ⟨by rfl, ?_⟩) (by assumption) ?_
      rotate_left 1
      · intro W' hSw
        obtain ⟨hS1, hS2, hS3, hS4, hS5⟩ := hSw
        go_simp
        try with_reducible rfl
      try simp only [Act.put, List.setIfInBounds_toArray, List.set_cons_zero, List.set_cons_succ]
      refine wpAnyH_take (i := 22) (oi := ⟨_, _, _, _, _, _⟩) (v := ?_) rfl (by kernel_rfl) (by kernel_rfl) (by kernel_rfl) (fun _ _ _ h => h) (Or.inl ⟨by rfl, ?_⟩) (by assumption) ?_
      rotate_left 1
      · intro W' hSw
        obtain ⟨hS1, hS2, hS3, hS4, hS5⟩ := hSw
        go_simp
        try with_reducible rfl
      try simp only [Act.put, List.setIfInBounds_toArray, List.set_cons_zero, List.set_cons_succ]
      refine wpAnyH_ready (rs := [23]) (by kernel_rfl) (by simp) ?_
      refine AllReadyH.cons (o := ⟨_, _, _, _, _, _⟩) rfl (fun K' hK => ?_) AllReadyH.nil
      go_simp
      refine hK.out _ _ ⟨(blk_alloc _ _ _ _).trans ((if_neg m1).trans hb), (blk_alloc _ _ _ _).trans ((if_neg m2).trans hCR), (blk_alloc _ _ _ _).trans ((if_neg m3).trans hCL), (blk_alloc _ _ _ _).trans ((if_neg m4).trans hCg), (blk_alloc _ _ _ _).trans ((if_neg m5).trans hC)⟩ (fun hHeld => ?_)
      clear hK K'
      try simp only [Act.put, List.setIfInBounds_toArray, List.set_cons_zero, List.set_cons_succ]
      refine wpAnyH_ready (rs := [24]) (by kernel_rfl) (by simp) ?_
      refine AllReadyH.cons (o := ⟨_, _, _, _, _, _⟩) rfl (fun K' hK => ?_) AllReadyH.nil
      go_simp
      refine hK.out _ _ (by first | exact ⟨(blk_alloc _ _ _ _).trans ((if_neg m1).trans hb), (blk_alloc _ _ _ _).trans ((if_neg m2).trans hCR), (blk_alloc _ _ _ _).trans ((if_neg m3).trans hCL), (blk_alloc _ _ _ _).trans ((if_neg m4).trans hCg), (blk_alloc _ _ _ _).trans ((if_neg m5).trans hC)⟩ | exact ⟨by rw [blk_put, if_neg m1]; exact (blk_alloc _ _ _ _).trans ((if_neg m1).trans hb), by rw [blk_put, if_neg m2]; exact (blk_alloc _ _ _ _).trans ((if_neg m2).trans hCR), by rw [blk_put, if_neg m3]; exact (blk_alloc _ _ _ _).trans ((if_neg m3).trans hCL), by rw [blk_put, if_neg m4]; exact (blk_alloc _ _ _ _).trans ((if_neg m4).trans hCg), by rw [blk_put, if_neg m5]; exact (blk_alloc _ _ _ _).trans ((if_neg m5).trans hC)⟩) (fun hHeld => ?_)
      clear hK K'
      try simp only [Act.put, List.setIfInBounds_toArray, List.set_cons_zero, List.set_cons_succ]
      refine wpAnyH_done (by kernel_rfl) ?_ _
      go_upto_region 9 with fail
      refine wp_world (fun W2 => blk W2 W.heap.size = some x.enc ∧ Hid (W.Extends W2)) ⟨?_, ?_⟩ ?_
      · first | (rw [blk_put, if_pos rfl, blk_drew, blk_alloc, if_pos rfl]; rfl) | (rw [blk_drew, blk_put, if_pos rfl, blk_alloc, if_pos rfl]; rfl) | (rw [blk_drew, blk_alloc, if_pos rfl])
      · first | exact (Side.put (D := fun k => k = W.heap.size) (Side.refl _ _) rfl _).extends (extends_drew (extends_alloc (ext_Ext (Ext.refl W)) _)) (fun k hk => by omega) | exact extends_drew ((Side.put (D := fun k => k = W.heap.size) (Side.refl _ _) rfl _).extends (extends_alloc (ext_Ext (Ext.refl W)) _) (fun k hk => by omega)) | exact extends_drew (extends_alloc (ext_Ext (Ext.refl W)) _)
      rintro W2 ⟨hbt, HX2⟩
      have hCg2 : blk W2 g0 = some Cg := (HX2.out.blk lg).trans hCg
      obtain ⟨bt, hbt'⟩ : ∃ bt, bt = W.heap.size := ⟨_, rfl⟩
      rw [← hbt'] at hbt ⊢
      have HQ2 : Hid (MJ w b6 b7 B g0 (some ⟨g0, 0, none⟩) np Q pf a n c i K W2) := HQ.out.ext HX2.out
      clear hbt' hb hCR hCL hC hCg lbp lbR lbL lbP m1 m2 m3 m4 m5 hb7 HX2 HQ lg l7 hBW
      obtain ⟨⟨xa, xb, xs⟩, hxx⟩ : ∃ y : PredInfo, y = x := ⟨x, rfl⟩
      rw [← hxx] at hbt
      clear hxx hs
      have HQn : Hid (MJ w b6 b7 B g0 (some ⟨g0, 0, none⟩) np Q pf a n c (i + 1) K W2) := by
        obtain ⟨h1, h2, h3, h4, h5, h6, h7, h8, h9, h10⟩ := HQ2.out
        exact ⟨h1, h2, h3, h4, h5, h6, by omega, h8, h9, h10⟩
      cases xb with
      | true =>
        go_wp2_with fail
        refine ⟨rfl, rfl, ⟨rfl, rfl, rfl, rfl, rfl, rfl, i + 1, pf, a, n, c, K, by omega, ?_, HQn⟩, ?_⟩
        · show Value.int .i64 _ = _
          go_num
        · show np - (intOf (Value.int .i64 _)).toNat < np - (intOf (F 9)).toNat
          rw [H9.out]
          simp [intOf]; omega
      | false =>
      by_cases hst : xs = s
      · obtain ⟨hz6, hf6, hb7, hf7, hnK, hrow, hni, hext, hBW, hAt⟩ := HQ2.out
        have l7 := blk_lt hb7
        have lg := blk_lt hCg2
        have n7 : ¬ b7 = W2.heap.size := by omega
        have ng : ¬ g0 = W2.heap.size := by omega
        have ng7 : ¬ g0 = b7 := by omega
        have hps : seg Cg (i * 3) 3 = pl.enc := HPS.out
        obtain ⟨W3, hW3⟩ : ∃ W3, W3 = W2.drew.alloc (.cells pl.enc.toArray 103) := ⟨_, rfl⟩
        have hx1 : W2.drew.Extends W3 := by rw [hW3]; exact extends_alloc (ext_Ext (Ext.refl _)) _
        have hsz1 : W2.heap.size ≤ W3.heap.size := hx1.size
        obtain ⟨v', W4, hrun, ho2, hg2', hb2'⟩ := appG Plan.enc 3 40 104 103 Try.underlying104 info103 Plan.length_enc Plan.one_enc (by omega) (by omega) B W3 104 (.slice a n c) K pl W2.heap.size 1 (row_keep hrow (fun k hk => hx1.block k (row_at hrow k hk).2.1)) (by rw [hW3]; exact (blk_alloc _ _ _ _).trans (if_pos rfl)) (Nat.le_trans hBW hx1.size) (by omega)
        obtain ⟨a', c', rfl⟩ := row_val ho2
        have hm1 : (K ++ [pl]).length = n + 1 := by rw [List.length_append, List.length_singleton, hnK]
        have hold : ∀ k, k < B → k < W2.heap.size → W4.heap[k]? = W2.heap[k]? := fun k hk hkW => (hg2'.block k (by omega) (fun e => by have := (row_at hrow k e.symm).1; omega)).trans (hx1.block k hkW)
        have hext2 : w.Extends W4 := grown_ext ((extends_drew hext).trans hx1) hg2' (fun k hk => by have := (row_at hrow k hk).1; omega)
        have hb72 : blk W4 b7 = some (jobE pf a n c) := (blk_of_heap (hold b7 h7B l7)).trans hb7
        have hf72 : free W4 b7 = true := (free_of_heap (hold b7 h7B l7)).trans hf7
        have hCg3 : blk W3 g0 = some Cg := (hx1.blk lg).trans hCg2
        have hCg4 : blk W4 g0 = some Cg := (blk_of_heap (hold g0 hg1 lg)).trans hCg2
        have lz := blk_lt hz6
        rw [hm1] at hrun
        have HQ' : Hid (MJ w b6 b7 B g0 (some ⟨g0, 0, none⟩) np Q pf a' (n + 1) c' (i + 1) (K ++ [pl]) (put W4 b7 (jobE pf a' (n + 1) c'))) := by
          refine ⟨by rw [blk_put, if_neg h67]; exact (blk_of_heap (hold b6 h6B lz)).trans hz6, by rw [free_put]; exact (free_of_heap (hold b6 h6B lz)).trans hf6, by rw [blk_put, if_pos rfl, hb72]; rfl, by rw [free_put]; exact hf72, hm1.symm, ?_, by omega, ?_, by rw [size_put]; exact Nat.le_trans (Nat.le_trans hBW hx1.size) hg2'.size, hAt.mono (fun _ => by rw [blk_put, if_neg ng7]; exact blk_of_heap (hold g0 hg1 lg))⟩
          · rw [← hm1]
            exact row_keep ho2 (fun k hk => by rw [heap_put, if_neg (fun e => by have := (row_at ho2 k hk).1; omega)])
          · exact (Side.put (D := fun k => k = b7) (Side.refl _ _) rfl _).extends hext2 (fun k hk => by rw [hk]; exact hw7)
        clear ho2 hg2' hb2' hold hext2 hx1 hrow hnK hext hAt hz6 hf6 HQ2 HQn hm1
        subst hW3
        subst hst
        repeat go_step
        refine wp_region_held_drew (S := fun W' => blk W' g0 = some Cg ∧ True) (by kernel_rfl) ⟨hCg2, trivial⟩ (fun hHeld => ?_)
        refine wpAnyH_take (i := 0) (oi := ⟨_, _, _, _, _, _⟩) (v := ?_) rfl (by kernel_rfl) (by kernel_rfl) (by kernel_rfl) (fun _ _ _ h => h) (Or.inl ⟨by rfl, ?_⟩) (by assumption) ?_
        rotate_left 1
        · intro W' hSw
          obtain ⟨hS1, hS2⟩ := hSw
          go_simp
          try with_reducible rfl
        try simp only [Act.put, List.setIfInBounds_toArray, List.set_cons_zero, List.set_cons_succ]
        refine wpAnyH_take (i := 2) (oi := ⟨_, _, _, _, _, _⟩) (v := ?_) rfl (by kernel_rfl) (by kernel_rfl) (by kernel_rfl) (fun _ _ _ h => h) (Or.inl ⟨by rfl, ?_⟩) (by assumption) ?_
        rotate_left 1
        · intro W' hSw
          obtain ⟨hS1, hS2⟩ := hSw
          go_simp
          try with_reducible rfl
        try simp only [Act.put, List.setIfInBounds_toArray, List.set_cons_zero, List.set_cons_succ]
        refine wpAnyH_take (i := 3) (oi := ⟨_, _, _, _, _, _⟩) (v := ?_) rfl (by kernel_rfl) (by kernel_rfl) (by kernel_rfl) (fun _ _ _ h => h) (Or.inl ⟨by rfl, ?_⟩) (by assumption) ?_
        rotate_left 1
        · intro W' hSw
          obtain ⟨hS1, hS2⟩ := hSw
          go_simp
          try with_reducible rfl
        try simp only [Act.put, List.setIfInBounds_toArray, List.set_cons_zero, List.set_cons_succ]
        refine wpAnyH_take (i := 4) (oi := ⟨_, _, _, _, _, _⟩) (v := ?_) rfl (by kernel_rfl) (by kernel_rfl) (by kernel_rfl) (fun _ _ _ h => h) (Or.inl ⟨by rfl, ?_⟩) (by assumption) ?_
        rotate_left 1
        · intro W' hSw
          obtain ⟨hS1, hS2⟩ := hSw
          go_simp
          try with_reducible rfl
        try simp only [Act.put, List.setIfInBounds_toArray, List.set_cons_zero, List.set_cons_succ]
        refine wpAnyH_take (i := 5) (oi := ⟨_, _, _, _, _, _⟩) (v := ?_) rfl (by kernel_rfl) (by kernel_rfl) (by kernel_rfl) (fun _ _ _ h => h) (Or.inl ⟨by rfl, ?_⟩) (by assumption) ?_
        rotate_left 1
        · intro W' hSw
          obtain ⟨hS1, hS2⟩ := hSw
          go_simp
          try with_reducible rfl
        try simp only [Act.put, List.setIfInBounds_toArray, List.set_cons_zero, List.set_cons_succ]
        refine wpAnyH_ready (rs := [1, 6]) (by kernel_rfl) (by simp) ?_
        refine AllReadyH.cons (o := ⟨_, _, _, _, _, _⟩) rfl (fun K' hK => ?_) (AllReadyH.cons (o := ⟨_, _, _, _, _, _⟩) rfl (fun K' hK => ?_) AllReadyH.nil)
        · go_simp
          refine hK.out _ _ ⟨hCg2, trivial⟩ (fun hHeld => ?_)
          clear hK K'
          try simp only [Act.put, List.setIfInBounds_toArray, List.set_cons_zero, List.set_cons_succ]
          refine wpAnyH_ready (rs := [6]) (by kernel_rfl) (by simp) ?_
          refine AllReadyH.cons (o := ⟨_, _, _, _, _, _⟩) rfl (fun K' hK => ?_) AllReadyH.nil
          go_simp
          refine hK.out _ _ ⟨hCg3, trivial⟩ (fun hHeld => ?_)
          clear hK K'
          try simp only [Act.put, List.setIfInBounds_toArray, List.set_cons_zero, List.set_cons_succ]
          refine wpAnyH_ready (rs := [7]) (by kernel_rfl) (by simp) ?_
          refine AllReadyH.cons (o := ⟨_, _, _, _, _, _⟩) rfl (fun K' hK => ?_) AllReadyH.nil
          rw [if_pos (by rfl)]
          refine wp_append_run _ _ 104 rfl _ _ _ _ rfl rfl hrun ?_
          refine hK.out _ _ ⟨hCg4, trivial⟩ (fun hHeld => ?_)
          clear hK K'
          try simp only [Act.put, List.setIfInBounds_toArray, List.set_cons_zero, List.set_cons_succ]
          refine wpAnyH_take (i := 8) (oi := ⟨_, _, _, _, _, _⟩) (v := ?_) rfl (by kernel_rfl) (by kernel_rfl) (by kernel_rfl) (fun _ _ _ h => h) (Or.inl ⟨by rfl, ?_⟩) (by assumption) ?_
          rotate_left 1
          · intro W' hSw
            obtain ⟨hS1, hS2⟩ := hSw
            go_simp
            try with_reducible rfl
          try simp only [Act.put, List.setIfInBounds_toArray, List.set_cons_zero, List.set_cons_succ]
          refine wpAnyH_ready (rs := [9]) (by kernel_rfl) (by simp) ?_
          refine AllReadyH.cons (o := ⟨_, _, _, _, _, _⟩) rfl (fun K' hK => ?_) AllReadyH.nil
          go_simp
          refine hK.out _ _ ⟨by rw [blk_put, if_neg ng7]; exact hCg4, trivial⟩ (fun hHeld => ?_)
          clear hK K'
          try simp only [Act.put, List.setIfInBounds_toArray, List.set_cons_zero, List.set_cons_succ]
          refine wpAnyH_done (by kernel_rfl) ?_ _
          go_wp2_with fail
          refine ⟨rfl, rfl, ⟨rfl, rfl, rfl, rfl, rfl, rfl, i + 1, pf, a', n + 1, c', K ++ [pl], by omega, ?_, HQ'⟩, ?_⟩
          · show Value.int .i64 _ = _
            go_num
          · show np - (intOf (Value.int .i64 _)).toNat < np - (intOf (F 9)).toNat
            rw [H9.out]
            simp [intOf]; omega
        · go_simp
          refine hK.out _ _ ⟨hCg3, trivial⟩ (fun hHeld => ?_)
          clear hK K'
          try simp only [Act.put, List.setIfInBounds_toArray, List.set_cons_zero, List.set_cons_succ]
          refine wpAnyH_ready (rs := [1]) (by kernel_rfl) (by simp) ?_
          refine AllReadyH.cons (o := ⟨_, _, _, _, _, _⟩) rfl (fun K' hK => ?_) AllReadyH.nil
          go_simp
          refine hK.out _ _ ⟨hCg3, trivial⟩ (fun hHeld => ?_)
          clear hK K'
          try simp only [Act.put, List.setIfInBounds_toArray, List.set_cons_zero, List.set_cons_succ]
          refine wpAnyH_ready (rs := [7]) (by kernel_rfl) (by simp) ?_
          refine AllReadyH.cons (o := ⟨_, _, _, _, _, _⟩) rfl (fun K' hK => ?_) AllReadyH.nil
          rw [if_pos (by rfl)]
          refine wp_append_run _ _ 104 rfl _ _ _ _ rfl rfl hrun ?_
          refine hK.out _ _ ⟨hCg4, trivial⟩ (fun hHeld => ?_)
          clear hK K'
          try simp only [Act.put, List.setIfInBounds_toArray, List.set_cons_zero, List.set_cons_succ]
          refine wpAnyH_take (i := 8) (oi := ⟨_, _, _, _, _, _⟩) (v := ?_) rfl (by kernel_rfl) (by kernel_rfl) (by kernel_rfl) (fun _ _ _ h => h) (Or.inl ⟨by rfl, ?_⟩) (by assumption) ?_
          rotate_left 1
          · intro W' hSw
            obtain ⟨hS1, hS2⟩ := hSw
            go_simp
            try with_reducible rfl
          try simp only [Act.put, List.setIfInBounds_toArray, List.set_cons_zero, List.set_cons_succ]
          refine wpAnyH_ready (rs := [9]) (by kernel_rfl) (by simp) ?_
          refine AllReadyH.cons (o := ⟨_, _, _, _, _, _⟩) rfl (fun K' hK => ?_) AllReadyH.nil
          go_simp
          refine hK.out _ _ ⟨by rw [blk_put, if_neg ng7]; exact hCg4, trivial⟩ (fun hHeld => ?_)
          clear hK K'
          try simp only [Act.put, List.setIfInBounds_toArray, List.set_cons_zero, List.set_cons_succ]
          refine wpAnyH_done (by kernel_rfl) ?_ _
          go_wp2_with fail
          refine ⟨rfl, rfl, ⟨rfl, rfl, rfl, rfl, rfl, rfl, i + 1, pf, a', n + 1, c', K ++ [pl], by omega, ?_, HQ'⟩, ?_⟩
          · show Value.int .i64 _ = _
            go_num
          · show np - (intOf (Value.int .i64 _)).toNat < np - (intOf (F 9)).toNat
            rw [H9.out]
            simp [intOf]; omega
      · go_wp2_with fail
        refine ⟨rfl, rfl, ⟨rfl, rfl, rfl, rfl, rfl, rfl, i + 1, pf, a, n, c, K, by omega, ?_, HQn⟩, ?_⟩
        · show Value.int .i64 _ = _
          go_num
        · show np - (intOf (Value.int .i64 _)).toNat < np - (intOf (F 9)).toNat
          rw [H9.out]
          simp [intOf]; omega
  · obtain rfl : i = np := by omega
    have HF : Hid (JobPost w (.returned (.agg (jobE pf a n c).toArray)) (put W b6 (jobE pf a n c))) := ⟨⟨pf, ⟨a, n, c⟩⟩, rfl, (Side.put (D := fun k => k = b6) (Side.refl _ _) rfl _).extends hext (fun k hk => by rw [hk]; exact hw6)⟩
    clear hrow hnK HQ hext hAt
    go_wp2_with fail
    refine ret_cell (C := jobE pf a n c) rfl rfl ?_ (by kernel_rfl) (by rw [job_len]; kernel_rfl) rfl HF.out
    rw [blk_put, if_pos rfl, hz6]
    rfl
end Go.Proofs.Qxb6500788a
