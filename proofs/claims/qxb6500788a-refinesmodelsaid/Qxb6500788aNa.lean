import Derived.Test.Qxb6500788aEm
import Derived.Test.Qxb6500788aVh
import Derived.StillTailTactics
import Derived.Deep.QuietTactic
import Derived.BigQuiet
import Derived.Deep.RegionHeld
import Derived.Deep.CutRange
import Derived.Laws.ResultCell
import Derived.Laws.Rows
import Derived.DeepKeys
import Derived.DataBytes
import Derived.Laws.StructEq
import Derived.Laws.AppendOwn
import Derived.Laws.MakeOwn
set_option linter.unusedSimpArgs false
set_option linter.unusedVariables false
namespace Go.Proofs.Qxb6500788a
open Go.RowKit Go.Blk
attribute [local go_sem ↓] execOp_load execOp_store execOp_alloc
attribute [local go_sem] Try.ld24 Try.st24 Try.ld25 Try.st25 Try.ld3 Try.st3 Try.ld30 Try.st30 Try.ld36 Try.st36 Try.ld4 Try.st4 Try.ld41 Try.st41 Try.ld50 Try.st50 Try.ld40 Try.st40 Try.ld42 Try.st42 Try.ld89 Try.st89 Try.ld91 Try.st91 Try.ld56 Try.st56 Try.ld97 Try.st97 Try.ld98 Try.st98 Try.ld101 Try.st101 Try.ld104 Try.st104 Try.ld57 Try.st57 Try.ld130 Try.st130 Try.ld2 Try.st2 Try.ld5 Try.st5 Try.ld9 Try.st9 Try.ld12 Try.st12 Try.ld21 Try.st21 Try.ld22 Try.st22 Try.ld29 Try.st29 Try.ld33 Try.st33 Try.ld59 Try.st59 Try.ld62 Try.st62 Try.ld69 Try.st69 Try.ld94 Try.st94 Try.ld96 Try.st96 Try.ld129 Try.st129 Try.ld158 Try.st158 Try.ld162 Try.st162 Try.ld47 Try.st47 Try.ld44 Try.st44 Try.ld137 Try.st137 Try.ld145 Try.st145 Try.ld43 Try.st43 Try.ld27 Try.st27 Try.ld38 Try.st38 Try.ld46 Try.st46 Try.ld49 Try.st49 Try.ld52 Try.st52 Try.ld54 Try.st54 Try.ld61 Try.st61 Try.ld80 Try.st80 Try.ld87 Try.st87 Try.ld93 Try.st93 Try.ld100 Try.st100 Try.ld103 Try.st103 Try.ld106 Try.st106 Try.ld109 Try.st109 Try.ld132 Try.st132 Try.ld147 Try.st147 Try.al47 Try.al44 Try.al137 Try.al145 Try.al43 Try.al27 Try.al38 Try.al46 Try.al49 Try.al52 Try.al54 Try.al61 Try.al80 Try.al87 Try.al93 Try.al100 Try.al103 Try.al106 Try.al109 Try.al132 Try.al147
attribute [local go_sem] GProgram.length_enc GProgram.ok_enc GProgram.all_get GProgram.all_set GProgram.preds_get GProgram.preds_set GProgram.rules_get GProgram.rules_set GProgram.strata_get GProgram.strata_set Answer.length_enc Answer.ok_enc Answer.all_get Answer.all_set Answer.code_get Answer.code_set Answer.n_get Answer.n_set Answer.rows_get Answer.rows_set Term.length_enc Term.ok_enc Term.all_get Term.all_set Term.var_get Term.var_set Term.n_get Term.n_set Atom.length_enc Atom.ok_enc Atom.all_get Atom.all_set Atom.pred_get Atom.pred_set Atom.args_get Atom.args_set GRule.length_enc GRule.ok_enc GRule.all_get GRule.all_set GRule.head_get GRule.head_set GRule.body_get GRule.body_set GRule.head_pred_get GRule.head_pred_set GRule.head_args_get GRule.head_args_set GOp.length_enc GOp.ok_enc GOp.all_get GOp.all_set GOp.kind_get GOp.kind_set GOp.pred_get GOp.pred_set GOp.t_get GOp.t_set GOp.n_get GOp.n_set GOp.base_get GOp.base_set GOp.rule_get GOp.rule_set GOp.rule_head_get GOp.rule_head_set GOp.rule_body_get GOp.rule_body_set GOp.rule_head_pred_get GOp.rule_head_pred_set GOp.rule_head_args_get GOp.rule_head_args_set PredInfo.length_enc PredInfo.ok_enc PredInfo.all_get PredInfo.all_set PredInfo.arity_get PredInfo.arity_set PredInfo.base_get PredInfo.base_set PredInfo.stratum_get PredInfo.stratum_set GStats.length_enc GStats.ok_enc GStats.all_get GStats.all_set GStats.rounds_get GStats.rounds_set GStats.fired_get GStats.fired_set GStats.emitted_get GStats.emitted_set GStats.fresh_get GStats.fresh_set Literal.length_enc Literal.ok_enc Literal.all_get Literal.all_set Literal.neg_get Literal.neg_set Literal.atom_get Literal.atom_set Literal.atom_pred_get Literal.atom_pred_set Literal.atom_args_get Literal.atom_args_set Engine.length_enc Engine.ok_enc Engine.all_get Engine.all_set Engine.prog_get Engine.prog_set Engine.st_get Engine.st_set Engine.levels_get Engine.levels_set Engine.running_get Engine.running_set Engine.stratum_get Engine.stratum_set Engine.round_get Engine.round_set Engine.saved_get Engine.saved_set Engine.stats_get Engine.stats_set Engine.prog_preds_get Engine.prog_preds_set Engine.prog_rules_get Engine.prog_rules_set Engine.prog_strata_get Engine.prog_strata_set Engine.stats_rounds_get Engine.stats_rounds_set Engine.stats_fired_get Engine.stats_fired_set Engine.stats_emitted_get Engine.stats_emitted_set Engine.stats_fresh_get Engine.stats_fresh_set Level.length_enc Level.ok_enc Level.all_get Level.all_set Level.heads_get Level.heads_set Level.jobs_get Level.jobs_set Plan.length_enc Plan.ok_enc Plan.all_get Plan.all_set Plan.rule_get Plan.rule_set Plan.delta_get Plan.delta_set Plan.src_get Plan.src_set Job.length_enc Job.ok_enc Job.all_get Job.all_set Job.full_get Job.full_set Job.deltas_get Job.deltas_set Job.full_rule_get Job.full_rule_set Job.full_delta_get Job.full_delta_set Job.full_src_get Job.full_src_set GState.length_enc GState.ok_enc GState.all_get GState.all_set GState.prog_get GState.prog_set GState.base_get GState.base_set GState.shown_get GState.shown_set GState.prog_preds_get GState.prog_preds_set GState.prog_rules_get GState.prog_rules_set GState.prog_strata_get GState.prog_strata_set Store.length_enc Store.ok_enc Store.all_get Store.all_set Store.arity_get Store.arity_set Store.rows_get Store.rows_set Env.length_enc Env.ok_enc Env.all_get Env.all_set Env.val_get Env.val_set Env.set_get Env.set_set
attribute [local go_sem] size_put size_ext blk_put free_put blk_alloc free_alloc blk_drew free_drew blk_ext free_ext lookOr_some putOr_some segAt_some cellAt_some storeIn_some put_put put_alloc_new length_arr ok_arr_u8 ok_arr_u32 ok_arr_u64 ok_arr_i64 ok_arr_sl cellsV_agg cellsV_int cellsV_bool cellsV_string cellsV_pointer cellsV_slice cellsV_sl ok_int ok_bool ok_string ok_pointer ok_slice ok_sl toList_arr seg_arr set_arr nth_splice nth_splice0 seg_splice seg_splice0 splice_splice splice_splice0 length_splice_if
attribute [local go_sem ↓] execOp_box
attribute [local go_sem] box_run nth_arr_u8 put_arr_u8 blk_drewN free_drewN put_drewN blk_raw free_raw
/-- W' knows all that W knows. -/
def Sub (W W' : World) : Prop := ∀ b C, blk W b = some C → blk W' b = some C
theorem Sub.trans {W W' W'' : World} (h : Sub W W') (h' : Sub W' W'') : Sub W W'' := fun b C hb => h' b C (h b C hb)
theorem Sub.ext {W W' : World} (h : W.Extends W') : Sub W W' := fun b C hb => (h.blk (blk_lt hb)).trans hb
theorem Sub.core (O : Own) (W : World) : Sub (core O W) W := fun b C hb => (core_blk hb).1
theorem Sub.cores {O O' : Own} {W W' : World} (h : ∀ b C, blk W b = some C → O b = .no → blk W' b = some C ∧ O' b = .no) : Sub (Go.Proofs.Qxb6500788a.core O W) (Go.Proofs.Qxb6500788a.core O' W') := fun b C hb => by
  obtain ⟨h1, h2⟩ := core_blk hb
  obtain ⟨h3, h4⟩ := h b C h1 h2
  exact blk_core h3 h4
theorem Rw.sub {α : Type} {en : α → List Value} {sz : Nat} {W W' : World} {a : Option Addr} {n : Nat} {L : List α} (h : Rw en sz W a n L) (hs : Sub W W') : Rw en sz W' a n L := ⟨h.1, fun i x hx => by
  obtain ⟨b, C, h1, h2, h3⟩ := h.2 i x hx
  exact ⟨b, C, h1, hs b C h2, h3⟩⟩
theorem At.sub {α : Type} {e : α → List Value} {sz : Nat} {W W' : World} {b o : Nat} {a : Option Addr} {n : Nat} {L : List α} (h : At e sz W b o a n L) (hs : Sub W W') : At e sz W' b o a n L := ⟨h.1, fun h0 => by
  obtain ⟨h1, C, h2, h3⟩ := h.2 h0
  exact ⟨h1, C, hs b C h2, h3⟩⟩
theorem PlanC.sub {W W' : World} {x : Plan} {p : Pg} {k : Nat} {d : Int} (h : PlanC W x p k d) (hs : Sub W W') : PlanC W' x p k d := ⟨h.1, h.2.1, h.2.2.sub hs⟩
theorem JobC.sub {W W' : World} {x : Job} {p : Pg} {s k : Nat} (h : JobC W x p s k) (hs : Sub W W') : JobC W' x p s k := by
  obtain ⟨h1, D, h2, h3, h4⟩ := h
  exact ⟨h1.sub hs, D, h2.sub hs, h3, fun i y d hy hd => (h4 i y d hy hd).sub hs⟩
theorem PrgC.sub {W W' : World} {x : GProgram} {p : Pg} (h : PrgC W x p) (hs : Sub W W') : PrgC W' x p := by
  obtain ⟨h1, h2, h3, ⟨bP, h4⟩, ⟨bR, h5⟩, h6⟩ := h
  refine ⟨h1, h2, h3, ⟨bP, h4.sub hs⟩, ⟨bR, h5.sub hs⟩, fun k r hr => ?_⟩
  obtain ⟨bL, oL, ba, bc, g1, g2⟩ := h6 k r hr
  exact ⟨bL, oL, ba, bc, g1, g2.sub hs⟩
/-- Only the blocks from n on. -/
def newc (n : Nat) (V : World) : World := core (lab (fun _ => .a 0 0) n .no) V
theorem newc_blk {n : Nat} {V : World} {b : Nat} {C : List Value} (h : blk (newc n V) b = some C) : blk V b = some C ∧ n ≤ b := by
  obtain ⟨h1, h2⟩ := core_blk h
  refine ⟨h1, Nat.le_of_not_lt fun hb => ?_⟩
  rw [lab_lt hb] at h2; cases h2
theorem blk_newc {n : Nat} {V : World} {b : Nat} {C : List Value} (h : blk V b = some C) (hb : n ≤ b) : blk (newc n V) b = some C := blk_core h (lab_ge hb)
theorem newc_core {n : Nat} {V : World} (O : Own) : Sub (newc n V) (core (lab O n .no) V) := fun b C hb => by
  obtain ⟨h1, h2⟩ := newc_blk hb
  exact blk_core h1 (lab_ge h2)
theorem newc_le {n m : Nat} {V : World} (h : n ≤ m) : Sub (newc m V) (newc n V) := fun b C hb => by
  obtain ⟨h1, h2⟩ := newc_blk hb
  exact blk_newc h1 (Nat.le_trans h h2)
theorem newc_ext {n : Nat} {V V' : World} (h : V.Extends V') : Sub (newc n V) (newc n V') := fun b C hb => by
  obtain ⟨h1, h2⟩ := newc_blk hb
  exact blk_newc ((h.blk (blk_lt h1)).trans h1) h2
/-- The program, through a pointer to its cells. -/
def PgB (W : World) (bp : Nat) (p : Pg) : Prop := ∃ aP cP aR cR, blk W bp = some (prgE aP p.P.length cP aR p.R.length cR p.St) ∧ PrgC W ⟨⟨aP, p.P.length, cP⟩, ⟨aR, p.R.length, cR⟩, p.St⟩ p
theorem PgB.ext {W W' : World} {bp : Nat} {p : Pg} (h : PgB W bp p) (he : W.Extends W') : PgB W' bp p := by
  obtain ⟨aP, cP, aR, cR, h1, h2⟩ := h
  exact ⟨aP, cP, aR, cR, (he.blk (blk_lt h1)).trans h1, h2.ext he⟩
theorem bslice101 (w : World) (v : Int) : (bsliceOp 101 1 #[(0, .int .i64 v)]).run Try.prog w = .ok (.value (.slice (some ⟨w.heap.size, 0, none⟩) 1 1)) (w.alloc (.cells (encI v).toArray 94)) := by kernel_rfl
theorem build103 (w : World) (r d : Int) : (buildOp 103 #[(0, .int .i64 r), (1, .int .i64 d)]).run Try.prog w = .ok (.value (.agg (plE r d none 0 0).toArray)) w := by kernel_rfl
def PlanX (w : World) (p : Pg) (k : Nat) (d : Int) (e : Ending) (w' : World) : Prop := ∃ y : Plan, e = .returned (.agg y.enc.toArray) ∧ w.Extends w' ∧ PlanC (newc w.heap.size w') y p k d
def PL (w : World) (b6 b7 B : Nat) (k d : Int) (a : Option Addr) (n c i : Nat) (K : List Nat) (Src : List Nat) (W : World) : Prop :=
  blk W b6 = some Plan.zero.enc ∧ free W b6 = true ∧ blk W b7 = some (plE k d a n c) ∧ free W b7 = true ∧ n = K.length ∧ W.ownsRow B 94 1 (.slice a n c) K.length (K.flatMap encN) ∧ K = Src.take i ∧ w.Extends W ∧ B ≤ W.heap.size
def plI (w : World) (bp b6 b7 B k nn : Nat) (d : Int) (Src : List Nat) (f : Nat → Value) (W : World) : Prop :=
  f 0 = .pointer (some ⟨bp, 0, none⟩) ∧ f 1 = .int .i64 (k : Nat) ∧ f 2 = .int .i64 d ∧ f 6 = .pointer (some ⟨b6, 0, none⟩) ∧ f 7 = .pointer (some ⟨b7, 0, none⟩) ∧ ∃ (i : Nat) (a : Option Addr) (n c : Nat) (K : List Nat), i ≤ nn ∧ f 8 = .int .i64 (i : Nat) ∧ Hid (PL w b6 b7 B (k : Nat) d a n c i K Src W)
attribute [local go_sem] prg_len prg0 prg1 prg2 prg_set0 prg_set1 prg_set2 prg_all prg_ok pl_len pl0 pl1 pl2 pl_set2 pl_all pl_put pl_ok build103 bslice101
attribute [local go_sem ↓] execOp_build execOp_bslice execOp_slice
set_option maxRecDepth 20000 in
set_option maxHeartbeats 2000000 in
theorem plan_x (w : World) (bp : Nat) (p : Pg) (hI : PgB w bp p) (hok : PgOk p) (k : Nat) (r : GRule) (hr : p.R[k]? = some r) (d : Int) :
    Calls Try.prog 82 #[.pointer (some ⟨bp, 0, none⟩), .int .i64 (k : Nat), .int .i64 d] w (PlanX w p k d) := by
  obtain ⟨aP, cP, aR, cR, hbp, hprg⟩ := hI
  obtain ⟨_, _, _, ⟨bP, _⟩, ⟨bR, hAR⟩, hbd⟩ := hprg
  have hkM : k < p.R.length := (List.getElem?_eq_some_iff.1 hr).1
  have hN := hok.nP
  have hM := hok.nR
  obtain ⟨bL, oL, aa, cc, hsv, hL⟩ := hbd k r hr
  obtain ⟨N, hNd⟩ : ∃ N, N = p.P.length := ⟨_, rfl⟩
  obtain ⟨M, hMd⟩ : ∃ M, M = p.R.length := ⟨_, rfl⟩
  obtain ⟨S, hSd⟩ : ∃ S : Int, S = p.St := ⟨_, rfl⟩
  obtain ⟨L, hLL⟩ : ∃ L, L = p.L k := ⟨_, rfl⟩
  obtain ⟨nn, hnn⟩ : ∃ nn, nn = L.length := ⟨_, rfl⟩
  obtain ⟨Src, hSrc⟩ : ∃ Src, Src = srcOf L d := ⟨_, rfl⟩
  have h8 : nn ≤ 8 := by rw [hnn, hLL]; exact hok.b8 k r hr
  have hLp : ∀ l ∈ L, 0 ≤ l.atom.pred ∧ l.atom.pred < (N : Int) := fun l hl => by
    rw [hLL] at hl
    obtain ⟨q, x, f1, f2, _⟩ := hok.lits k r hr l hl
    have := (List.getElem?_eq_some_iff.1 f2).1
    rw [f1, hNd]; omega
  have p0 : 0 ≤ r.head.pred := by
    obtain ⟨q, x, f1, _⟩ := hok.head k r hr
    omega
  rw [← hLL, ← hnn] at hsv hL
  rw [← hMd] at hkM hAR hM
  rw [← hNd, ← hMd, ← hSd] at hbp
  rw [← hNd] at hN
  have HSRC : Hid (srcOf (p.L k) d = Src) := by show _ = _; rw [hSrc, hLL]
  have HSG : Hid (∀ (i : Nat) (l : Literal), L[i]? = some l → Src[i]? = some (if (i : Int) = d then 3 * l.atom.pred.toNat + 1 else 3 * l.atom.pred.toNat)) := fun i l hl => by
    rw [hSrc]; unfold srcOf
    rw [List.getElem?_mapIdx, hl]; rfl
  have HSL : Hid (Src.length = nn) := by show _ = _; rw [hSrc, hnn]; unfold srcOf; rw [List.length_mapIdx]
  obtain ⟨h, hh⟩ : ∃ h : Nat, r.head.pred = (h : Int) := ⟨r.head.pred.toNat, by omega⟩
  obtain ⟨CR, rfl, hCR, hCRl, c0, c9⟩ := rule_at hAR hkM hr hsv hh
  have HL : Hid (At Literal.enc 10 w bL oL aa nn L) := hL
  have HLp : Hid (∀ l ∈ L, 0 ≤ l.atom.pred ∧ l.atom.pred < (N : Int)) := hLp
  have HCR : Hid (blk w bR = some CR) := hCR
  have HBP := hid_of hbp
  have k0 : (0 : Int) ≤ (k : Int) := by omega
  have k1 : (k : Int) < (M : Int) := by omega
  have k2 : ((k : Int)).toNat = k := by omega
  clear hr hsv hL hLp p0 hh hnn hLL c0 hCR hSrc hNd hMd hSd hAR hbd hbp hok
  go_enter Try.func82, Try.ntmps82
  go_upto_region 2 with fail
  refine wp_world (fun W => blk W w.heap.size = some Plan.zero.enc ∧ free W w.heap.size = true ∧ blk W (w.heap.size + 1) = some (plE (k : Nat) d none 0 0) ∧ free W (w.heap.size + 1) = true ∧ W.heap.size = w.heap.size + 2 ∧ w.Extends W) ⟨?_, ?_, ?_, ?_, ?_, ?_⟩ ?_
  · rw [blk_put, if_neg (by omega), blk_alloc, if_neg (by rw [World.size_alloc]; omega), blk_alloc, if_pos rfl]
  · rw [free_put, free_alloc, if_neg (by rw [World.size_alloc]; omega), free_alloc, if_pos rfl]
  · rw [blk_put, if_pos rfl, blk_alloc, if_pos (by rw [World.size_alloc])]; rfl
  · rw [free_put, free_alloc, if_pos (by rw [World.size_alloc])]
  · rw [size_put, World.size_alloc, World.size_alloc]
  · exact (Side.put (D := fun k => k = w.heap.size + 1) (Side.refl _ _) rfl _).extends (extends_alloc (extends_alloc (ext_Ext (Ext.refl w)) _) _) (fun k hk => by omega)
  rintro W0 ⟨i1, i2, i3, i4, i5, i6⟩
  obtain ⟨b6, hb6⟩ : ∃ b6, b6 = w.heap.size := ⟨_, rfl⟩
  obtain ⟨b7, hb7⟩ : ∃ b7, b7 = b6 + 1 := ⟨_, rfl⟩
  rw [← hb6, ← hb7] at i3 i4
  rw [← hb6] at i1 i2
  rw [← hb6, ← hb7]
  have h67 : ¬ b6 = b7 := by omega
  have hw6 : w.heap.size ≤ b6 := by omega
  have hw7 : w.heap.size ≤ b7 := by omega
  obtain ⟨B, hB⟩ : ∃ B, B = W0.heap.size := ⟨_, rfl⟩
  have h6B : b6 < B := by omega
  have h7B : b7 < B := by omega
  have H0 : Hid (PL w b6 b7 B (k : Nat) d none 0 0 0 [] Src W0) := ⟨i1, i2, i3, i4, rfl, ⟨rfl, .inl ⟨rfl, rfl⟩⟩, rfl, i6, by omega⟩
  clear i1 i2 i3 i4 i5 i6 hb6 hb7 hB
  go_wp2_with fail
  refine wp_loop_f 67 (plI w bp b6 b7 B k nn d Src) (fun f _ => nn - (intOf (f 8)).toNat) rfl ?_ ?_
  · exact ⟨rfl, rfl, rfl, rfl, rfl, 0, none, 0, 0, [], by omega, rfl, H0⟩
  clear H0 W0
  intro F W hrel
  obtain ⟨f0, f1, f2, f6, f7, i, a, n, c, K, hi, f8, HQ⟩ := hrel
  have H8 : Hid (F 8 = .int .i64 (i : Nat)) := f8
  rw [frame67, f0, f1, f2, f6, f7, f8]
  clear f0 f1 f2 f6 f7 f8
  obtain ⟨hz6, hf6, hb7, hf7, hnK, hrow, hni, hext, hBW⟩ := HQ.out
  have hb : blk W bp = some (prgE aP N cP (some ⟨bR, 0, none⟩) M cR S) := (hext.blk (blk_lt HBP.out)).trans HBP.out
  have hCR : blk W bR = some CR := (hext.blk (blk_lt HCR.out)).trans HCR.out
  by_cases hin : i < nn
  · obtain ⟨l, CL, q, hl, hq, hqN, rfl, hCL, hCLl, d0, d1⟩ := lit_at (HL.out.grw hext) HLp.out hin
    have i0 : (0 : Int) ≤ (i : Int) := by omega
    have i1 : (i : Int) < (nn : Int) := by omega
    have i2 : ((i : Int)).toNat = i := by omega
    have lbp := blk_lt hb
    have lbR := blk_lt hCR
    have lbL := blk_lt hCL
    have l7 := blk_lt hb7
    have n7 : ¬ b7 = W.heap.size := by omega
    have wbp := blk_lt HBP.out
    have wbR := blk_lt HCR.out
    have wbL : bL < w.heap.size := by obtain ⟨_, C', h1, _⟩ := HL.out.2 (by omega); exact blk_lt h1
    have HSv : Hid (Src[i]? = some (if (i : Int) = d then 3 * q + 1 else 3 * q)) := by
      show _ = _
      rw [HSG.out i l hl, hq, Int.toNat_natCast]
    have hni' : n ≤ 8 := by rw [hnK, hni, List.length_take]; omega
    have hnew : ∀ v : Nat, Src[i]? = some v → Hid (∃ a' c' W2, (Builtin.append_ #[101, 101] 101 #[.slice a n c, .slice (some ⟨W.heap.size, 0, none⟩) 1 1]).run Try.prog (W.drew.alloc (.cells (encI ((v : Nat) : Int)).toArray 94)) = .ok (.slice a' (n + 1) c') W2 ∧ blk W2 bp = some (prgE aP N cP (some ⟨bR, 0, none⟩) M cR S) ∧ blk W2 bR = some CR ∧ blk W2 bL = some CL ∧ blk W2 b7 = some (plE (k : Nat) d a n c) ∧ free W2 b7 = true ∧ PL w b6 b7 B (k : Nat) d a' (n + 1) c' (i + 1) (K ++ [v]) Src (put W2 b7 (plE (k : Nat) d a' (n + 1) c'))) := fun v hv => by
      have hx1 : W.drew.Extends (W.drew.alloc (.cells (encI ((v : Nat) : Int)).toArray 94)) := extends_alloc (ext_Ext (Ext.refl _)) _
      obtain ⟨v', W2, hrun, ho2, hg2, hb2'⟩ := appG encN 1 8 101 94 Try.underlying101 info94 encN_len encN_one (by omega) (by omega) B (W.drew.alloc (.cells (encI ((v : Nat) : Int)).toArray 94)) 101 (.slice a n c) K v W.heap.size 1 (row_keep hrow (fun k hk => hx1.block k (row_at hrow k hk).2.1)) ((blk_alloc _ _ _ _).trans (if_pos rfl)) (Nat.le_trans hBW hx1.size) (by omega)
      obtain ⟨a', c', rfl⟩ := row_val ho2
      have hm1 : (K ++ [v]).length = n + 1 := by rw [List.length_append, List.length_singleton, hnK]
      have hsz1 : W.heap.size ≤ (W.drew.alloc (.cells (encI ((v : Nat) : Int)).toArray 94)).heap.size := hx1.size
      have hold : ∀ k, k < B → k < W.heap.size → W2.heap[k]? = W.heap[k]? := fun k hk hkW => (hg2.block k (by omega) (fun e => by have := (row_at hrow k e.symm).1; omega)).trans (hx1.block k hkW)
      have hext2 : w.Extends W2 := grown_ext ((extends_drew hext).trans hx1) hg2 (fun k hk => by have := (row_at hrow k hk).1; omega)
      have hb72 : blk W2 b7 = some (plE (k : Nat) d a n c) := (blk_of_heap (hold b7 h7B l7)).trans hb7
      rw [hm1] at hrun
      refine ⟨a', c', W2, hrun, (blk_of_heap (hold bp (by omega) lbp)).trans hb, (blk_of_heap (hold bR (by omega) lbR)).trans hCR, (blk_of_heap (hold bL (by omega) lbL)).trans hCL, hb72, (free_of_heap (hold b7 h7B l7)).trans hf7, ?_⟩
      have hz := blk_lt hz6
      refine ⟨by rw [blk_put, if_neg h67]; exact (blk_of_heap (hold b6 h6B hz)).trans hz6, by rw [free_put]; exact (free_of_heap (hold b6 h6B hz)).trans hf6, by rw [blk_put, if_pos rfl, hb72]; rfl, by rw [free_put]; exact (free_of_heap (hold b7 h7B l7)).trans hf7, hm1.symm, ?_, by rw [take_at hv, hni], ?_, by rw [size_put]; exact Nat.le_trans (Nat.le_trans hBW hx1.size) hg2.size⟩
      · rw [← hm1]
        exact row_keep ho2 (fun k hk => by rw [heap_put, if_neg (fun e => by have := (row_at ho2 k hk).1; omega)])
      · exact (Side.put (D := fun k => k = b7) (Side.refl _ _) rfl _).extends hext2 (fun k hk => by rw [hk]; exact hw7)
    have mbp : ¬ bp = W.heap.size := by omega
    have mbR : ¬ bR = W.heap.size := by omega
    have mbL : ¬ bL = W.heap.size := by omega
    have m7p : ¬ bp = b7 := by omega
    have m7R : ¬ bR = b7 := by omega
    have m7L : ¬ bL = b7 := by omega
    clear hl hq hnK hrow HQ hz6 hf6 hni
    by_cases hid : (i : Int) = d
    · subst hid
      rw [if_pos rfl] at HSv
      repeat go_step
      refine wp_region_held_drew (S := fun W' => blk W' bp = some (prgE aP N cP (some ⟨bR, 0, none⟩) M cR S) ∧ blk W' bR = some CR ∧ blk W' bL = some CL) (by kernel_rfl) ⟨hb, hCR, hCL⟩ (fun hHeld => ?_)
      refine wpAnyH_take (i := 0) (oi := ⟨_, _, _, _, _, _⟩) (v := ?_) rfl (by kernel_rfl) (by kernel_rfl) (by kernel_rfl) (fun _ _ _ h => h) (Or.inl ⟨by rfl, ?_⟩) (by assumption) ?_
      rotate_left 1
      · intro W' hSw
        obtain ⟨hS1, hS2, hS3⟩ := hSw
        go_simp
        try with_reducible rfl
      try simp only [Act.put, List.setIfInBounds_toArray, List.set_cons_zero, List.set_cons_succ]
      refine wpAnyH_take (i := 2) (oi := ⟨_, _, _, _, _, _⟩) (v := ?_) rfl (by kernel_rfl) (by kernel_rfl) (by kernel_rfl) (fun _ _ _ h => h) (Or.inl ⟨by rfl, ?_⟩) (by assumption) ?_
      rotate_left 1
      · intro W' hSw
        obtain ⟨hS1, hS2, hS3⟩ := hSw
        go_simp
        try with_reducible rfl
      try simp only [Act.put, List.setIfInBounds_toArray, List.set_cons_zero, List.set_cons_succ]
      refine wpAnyH_take (i := 3) (oi := ⟨_, _, _, _, _, _⟩) (v := ?_) rfl (by kernel_rfl) (by kernel_rfl) (by kernel_rfl) (fun _ _ _ h => h) (Or.inl ⟨by rfl, ?_⟩) (by assumption) ?_
      rotate_left 1
      · intro W' hSw
        obtain ⟨hS1, hS2, hS3⟩ := hSw
        go_simp
        try with_reducible rfl
      try simp only [Act.put, List.setIfInBounds_toArray, List.set_cons_zero, List.set_cons_succ]
      refine wpAnyH_take (i := 4) (oi := ⟨_, _, _, _, _, _⟩) (v := ?_) rfl (by kernel_rfl) (by kernel_rfl) (by kernel_rfl) (fun _ _ _ h => h) (Or.inl ⟨by rfl, ?_⟩) (by assumption) ?_
      rotate_left 1
      · intro W' hSw
        obtain ⟨hS1, hS2, hS3⟩ := hSw
        go_simp
        try with_reducible rfl
      try simp only [Act.put, List.setIfInBounds_toArray, List.set_cons_zero, List.set_cons_succ]
      refine wpAnyH_take (i := 5) (oi := ⟨_, _, _, _, _, _⟩) (v := ?_) rfl (by kernel_rfl) (by kernel_rfl) (by kernel_rfl) (fun _ _ _ h => h) (Or.inl ⟨by rfl, ?_⟩) (by assumption) ?_
      rotate_left 1
      · intro W' hSw
        obtain ⟨hS1, hS2, hS3⟩ := hSw
        go_simp
        try with_reducible rfl
      try simp only [Act.put, List.setIfInBounds_toArray, List.set_cons_zero, List.set_cons_succ]
      refine wpAnyH_take (i := 6) (oi := ⟨_, _, _, _, _, _⟩) (v := ?_) rfl (by kernel_rfl) (by kernel_rfl) (by kernel_rfl) (fun _ _ _ h => h) (Or.inl ⟨by rfl, ?_⟩) (by assumption) ?_
      rotate_left 1
      · intro W' hSw
        obtain ⟨hS1, hS2, hS3⟩ := hSw
        go_simp
        try with_reducible rfl
      try simp only [Act.put, List.setIfInBounds_toArray, List.set_cons_zero, List.set_cons_succ]
      refine wpAnyH_take (i := 7) (oi := ⟨_, _, _, _, _, _⟩) (v := ?_) rfl (by kernel_rfl) (by kernel_rfl) (by kernel_rfl) (fun _ _ _ h => h) (Or.inl ⟨by rfl, ?_⟩) (by assumption) ?_
      rotate_left 1
      · intro W' hSw
        obtain ⟨hS1, hS2, hS3⟩ := hSw
        go_simp
        try with_reducible rfl
      try simp only [Act.put, List.setIfInBounds_toArray, List.set_cons_zero, List.set_cons_succ]
      refine wpAnyH_take (i := 8) (oi := ⟨_, _, _, _, _, _⟩) (v := ?_) rfl (by kernel_rfl) (by kernel_rfl) (by kernel_rfl) (fun _ _ _ h => h) (Or.inl ⟨by rfl, ?_⟩) (by assumption) ?_
      rotate_left 1
      · intro W' hSw
        obtain ⟨hS1, hS2, hS3⟩ := hSw
        go_simp
        try with_reducible rfl
      try simp only [Act.put, List.setIfInBounds_toArray, List.set_cons_zero, List.set_cons_succ]
      refine wpAnyH_take (i := 9) (oi := ⟨_, _, _, _, _, _⟩) (v := ?_) rfl (by kernel_rfl) (by kernel_rfl) (by kernel_rfl) (fun _ _ _ h => h) (Or.inl ⟨by rfl, ?_⟩) (by assumption) ?_
      rotate_left 1
      · intro W' hSw
        obtain ⟨hS1, hS2, hS3⟩ := hSw
        go_simp
        try with_reducible rfl
      try simp only [Act.put, List.setIfInBounds_toArray, List.set_cons_zero, List.set_cons_succ]
      refine wpAnyH_take (i := 10) (oi := ⟨_, _, _, _, _, _⟩) (v := ?_) rfl (by kernel_rfl) (by kernel_rfl) (by kernel_rfl) (fun _ _ _ h => h) (Or.inl ⟨by rfl, ?_⟩) (by assumption) ?_
      rotate_left 1
      · intro W' hSw
        obtain ⟨hS1, hS2, hS3⟩ := hSw
        go_simp
        try with_reducible rfl
      try simp only [Act.put, List.setIfInBounds_toArray, List.set_cons_zero, List.set_cons_succ]
      refine wpAnyH_take (i := 11) (oi := ⟨_, _, _, _, _, _⟩) (v := ?_) rfl (by kernel_rfl) (by kernel_rfl) (by kernel_rfl) (fun _ _ _ h => h) (Or.inl ⟨by rfl, ?_⟩) (by assumption) ?_
      rotate_left 1
      · intro W' hSw
        obtain ⟨hS1, hS2, hS3⟩ := hSw
        go_simp
        try with_reducible rfl
      try simp only [Act.put, List.setIfInBounds_toArray, List.set_cons_zero, List.set_cons_succ]
      refine wpAnyH_take (i := 12) (oi := ⟨_, _, _, _, _, _⟩) (v := ?_) rfl (by kernel_rfl) (by kernel_rfl) (by kernel_rfl) (fun _ _ _ h => h) (Or.inl ⟨by rfl, ?_⟩) (by assumption) ?_
      rotate_left 1
      · intro W' hSw
        obtain ⟨hS1, hS2, hS3⟩ := hSw
        go_simp
        try with_reducible rfl
      try simp only [Act.put, List.setIfInBounds_toArray, List.set_cons_zero, List.set_cons_succ]
      refine wpAnyH_take (i := 13) (oi := ⟨_, _, _, _, _, _⟩) (v := ?_) rfl (by kernel_rfl) (by kernel_rfl) (by kernel_rfl) (fun _ _ _ h => h) (Or.inl ⟨by rfl, ?_⟩) (by assumption) ?_
      rotate_left 1
      · intro W' hSw
        obtain ⟨hS1, hS2, hS3⟩ := hSw
        go_simp
        try with_reducible rfl
      try simp only [Act.put, List.setIfInBounds_toArray, List.set_cons_zero, List.set_cons_succ]
      refine wpAnyH_take (i := 14) (oi := ⟨_, _, _, _, _, _⟩) (v := ?_) rfl (by kernel_rfl) (by kernel_rfl) (by kernel_rfl) (fun _ _ _ h => h) (Or.inl ⟨by rfl, ?_⟩) (by assumption) ?_
      rotate_left 1
      · intro W' hSw
        obtain ⟨hS1, hS2, hS3⟩ := hSw
        go_simp
        try with_reducible rfl
      try simp only [Act.put, List.setIfInBounds_toArray, List.set_cons_zero, List.set_cons_succ]
      refine wpAnyH_ready (rs := [1, 15]) (by kernel_rfl) (by simp) ?_
      refine AllReadyH.cons (o := ⟨_, _, _, _, _, _⟩) rfl (fun K' hK => ?_) (AllReadyH.cons (o := ⟨_, _, _, _, _, _⟩) rfl (fun K' hK => ?_) AllReadyH.nil)
      · go_simp
        refine hK.out _ _ ⟨hb, hCR, hCL⟩ (fun hHeld => ?_)
        clear hK K'
        try simp only [Act.put, List.setIfInBounds_toArray, List.set_cons_zero, List.set_cons_succ]
        refine wpAnyH_ready (rs := [15]) (by kernel_rfl) (by simp) ?_
        refine AllReadyH.cons (o := ⟨_, _, _, _, _, _⟩) rfl (fun K' hK => ?_) AllReadyH.nil
        go_simp
        refine (delta_any W.drew q (by omega)).mono ?_
        rintro e Wx ⟨rfl, hWx⟩
        obtain rfl : Wx = W.drew := hWx
        dsimp only
        refine hK.out _ _ ⟨hb, hCR, hCL⟩ (fun hHeld => ?_)
        clear hK K'
        try simp only [Act.put, List.setIfInBounds_toArray, List.set_cons_zero, List.set_cons_succ]
        refine wpAnyH_ready (rs := [16]) (by kernel_rfl) (by simp) ?_
        refine AllReadyH.cons (o := ⟨_, _, _, _, _, _⟩) rfl (fun K' hK => ?_) AllReadyH.nil
        go_simp
        refine hK.out _ _ ⟨(blk_alloc _ _ _ _).trans ((if_neg mbp).trans hb), (blk_alloc _ _ _ _).trans ((if_neg mbR).trans hCR), (blk_alloc _ _ _ _).trans ((if_neg mbL).trans hCL)⟩ (fun hHeld => ?_)
        clear hK K'
        try simp only [Act.put, List.setIfInBounds_toArray, List.set_cons_zero, List.set_cons_succ]
        refine wpAnyH_ready (rs := [17]) (by kernel_rfl) (by simp) ?_
        refine AllReadyH.cons (o := ⟨_, _, _, _, _, _⟩) rfl (fun K' hK => ?_) AllReadyH.nil
        obtain ⟨a', c', W2, hrun, g1, g2, g3, g4, g5, g6⟩ := (hnew _ HSv.out).out
        rw [if_pos (by rfl)]
        refine wp_append_run _ _ 101 rfl _ _ _ _ rfl rfl hrun ?_
        have HQ' : Hid (PL w b6 b7 B (k : Nat) (i : Int) a' (n + 1) c' (i + 1) (K ++ [_]) Src (put W2 b7 (plE (k : Nat) (i : Int) a' (n + 1) c'))) := g6
        clear g6 hrun
        refine hK.out _ _ ⟨g1, g2, g3⟩ (fun hHeld => ?_)
        clear hK K'
        try simp only [Act.put, List.setIfInBounds_toArray, List.set_cons_zero, List.set_cons_succ]
        refine wpAnyH_take (i := 18) (oi := ⟨_, _, _, _, _, _⟩) (v := ?_) rfl (by kernel_rfl) (by kernel_rfl) (by kernel_rfl) (fun _ _ _ h => h) (Or.inl ⟨by rfl, ?_⟩) (by assumption) ?_
        rotate_left 1
        · intro W' hSw
          obtain ⟨hS1, hS2, hS3⟩ := hSw
          go_simp
          try with_reducible rfl
        try simp only [Act.put, List.setIfInBounds_toArray, List.set_cons_zero, List.set_cons_succ]
        refine wpAnyH_ready (rs := [19]) (by kernel_rfl) (by simp) ?_
        refine AllReadyH.cons (o := ⟨_, _, _, _, _, _⟩) rfl (fun K' hK => ?_) AllReadyH.nil
        go_simp
        refine hK.out _ _ ⟨by rw [blk_put, if_neg m7p]; exact g1, by rw [blk_put, if_neg m7R]; exact g2, by rw [blk_put, if_neg m7L]; exact g3⟩ (fun hHeld => ?_)
        clear hK K'
        try simp only [Act.put, List.setIfInBounds_toArray, List.set_cons_zero, List.set_cons_succ]
        refine wpAnyH_done (by kernel_rfl) ?_ _
        clear hb hCR hCL hb7 hf7 hnew
        go_wp2_with fail
        refine ⟨rfl, rfl, ⟨rfl, rfl, rfl, rfl, rfl, i + 1, a', n + 1, c', K ++ [_], by omega, ?_, HQ'⟩, ?_⟩
        · show Value.int .i64 _ = _
          go_num
        · show nn - (intOf (Value.int .i64 _)).toNat < nn - (intOf (F 8)).toNat
          rw [H8.out]
          simp [intOf]; omega
      · go_simp
        refine (delta_any W.drew q (by omega)).mono ?_
        rintro e Wx ⟨rfl, hWx⟩
        obtain rfl : Wx = W.drew := hWx
        dsimp only
        refine hK.out _ _ ⟨hb, hCR, hCL⟩ (fun hHeld => ?_)
        clear hK K'
        try simp only [Act.put, List.setIfInBounds_toArray, List.set_cons_zero, List.set_cons_succ]
        refine wpAnyH_ready (rs := [1, 16]) (by kernel_rfl) (by simp) ?_
        refine AllReadyH.cons (o := ⟨_, _, _, _, _, _⟩) rfl (fun K' hK => ?_) (AllReadyH.cons (o := ⟨_, _, _, _, _, _⟩) rfl (fun K' hK => ?_) AllReadyH.nil)
        · go_simp
          refine hK.out _ _ ⟨hb, hCR, hCL⟩ (fun hHeld => ?_)
          clear hK K'
          try simp only [Act.put, List.setIfInBounds_toArray, List.set_cons_zero, List.set_cons_succ]
          refine wpAnyH_ready (rs := [16]) (by kernel_rfl) (by simp) ?_
          refine AllReadyH.cons (o := ⟨_, _, _, _, _, _⟩) rfl (fun K' hK => ?_) AllReadyH.nil
          go_simp
          refine hK.out _ _ ⟨(blk_alloc _ _ _ _).trans ((if_neg mbp).trans hb), (blk_alloc _ _ _ _).trans ((if_neg mbR).trans hCR), (blk_alloc _ _ _ _).trans ((if_neg mbL).trans hCL)⟩ (fun hHeld => ?_)
          clear hK K'
          try simp only [Act.put, List.setIfInBounds_toArray, List.set_cons_zero, List.set_cons_succ]
          refine wpAnyH_ready (rs := [17]) (by kernel_rfl) (by simp) ?_
          refine AllReadyH.cons (o := ⟨_, _, _, _, _, _⟩) rfl (fun K' hK => ?_) AllReadyH.nil
          obtain ⟨a', c', W2, hrun, g1, g2, g3, g4, g5, g6⟩ := (hnew _ HSv.out).out
          rw [if_pos (by rfl)]
          refine wp_append_run _ _ 101 rfl _ _ _ _ rfl rfl hrun ?_
          have HQ' : Hid (PL w b6 b7 B (k : Nat) (i : Int) a' (n + 1) c' (i + 1) (K ++ [_]) Src (put W2 b7 (plE (k : Nat) (i : Int) a' (n + 1) c'))) := g6
          clear g6 hrun
          refine hK.out _ _ ⟨g1, g2, g3⟩ (fun hHeld => ?_)
          clear hK K'
          try simp only [Act.put, List.setIfInBounds_toArray, List.set_cons_zero, List.set_cons_succ]
          refine wpAnyH_take (i := 18) (oi := ⟨_, _, _, _, _, _⟩) (v := ?_) rfl (by kernel_rfl) (by kernel_rfl) (by kernel_rfl) (fun _ _ _ h => h) (Or.inl ⟨by rfl, ?_⟩) (by assumption) ?_
          rotate_left 1
          · intro W' hSw
            obtain ⟨hS1, hS2, hS3⟩ := hSw
            go_simp
            try with_reducible rfl
          try simp only [Act.put, List.setIfInBounds_toArray, List.set_cons_zero, List.set_cons_succ]
          refine wpAnyH_ready (rs := [19]) (by kernel_rfl) (by simp) ?_
          refine AllReadyH.cons (o := ⟨_, _, _, _, _, _⟩) rfl (fun K' hK => ?_) AllReadyH.nil
          go_simp
          refine hK.out _ _ ⟨by rw [blk_put, if_neg m7p]; exact g1, by rw [blk_put, if_neg m7R]; exact g2, by rw [blk_put, if_neg m7L]; exact g3⟩ (fun hHeld => ?_)
          clear hK K'
          try simp only [Act.put, List.setIfInBounds_toArray, List.set_cons_zero, List.set_cons_succ]
          refine wpAnyH_done (by kernel_rfl) ?_ _
          clear hb hCR hCL hb7 hf7 hnew
          go_wp2_with fail
          refine ⟨rfl, rfl, ⟨rfl, rfl, rfl, rfl, rfl, i + 1, a', n + 1, c', K ++ [_], by omega, ?_, HQ'⟩, ?_⟩
          · show Value.int .i64 _ = _
            go_num
          · show nn - (intOf (Value.int .i64 _)).toNat < nn - (intOf (F 8)).toNat
            rw [H8.out]
            simp [intOf]; omega
        · go_simp
          refine hK.out _ _ ⟨(blk_alloc _ _ _ _).trans ((if_neg mbp).trans hb), (blk_alloc _ _ _ _).trans ((if_neg mbR).trans hCR), (blk_alloc _ _ _ _).trans ((if_neg mbL).trans hCL)⟩ (fun hHeld => ?_)
          clear hK K'
          try simp only [Act.put, List.setIfInBounds_toArray, List.set_cons_zero, List.set_cons_succ]
          refine wpAnyH_ready (rs := [1]) (by kernel_rfl) (by simp) ?_
          refine AllReadyH.cons (o := ⟨_, _, _, _, _, _⟩) rfl (fun K' hK => ?_) AllReadyH.nil
          go_simp
          refine hK.out _ _ ⟨(blk_alloc _ _ _ _).trans ((if_neg mbp).trans hb), (blk_alloc _ _ _ _).trans ((if_neg mbR).trans hCR), (blk_alloc _ _ _ _).trans ((if_neg mbL).trans hCL)⟩ (fun hHeld => ?_)
          clear hK K'
          try simp only [Act.put, List.setIfInBounds_toArray, List.set_cons_zero, List.set_cons_succ]
          refine wpAnyH_ready (rs := [17]) (by kernel_rfl) (by simp) ?_
          refine AllReadyH.cons (o := ⟨_, _, _, _, _, _⟩) rfl (fun K' hK => ?_) AllReadyH.nil
          obtain ⟨a', c', W2, hrun, g1, g2, g3, g4, g5, g6⟩ := (hnew _ HSv.out).out
          rw [if_pos (by rfl)]
          refine wp_append_run _ _ 101 rfl _ _ _ _ rfl rfl hrun ?_
          have HQ' : Hid (PL w b6 b7 B (k : Nat) (i : Int) a' (n + 1) c' (i + 1) (K ++ [_]) Src (put W2 b7 (plE (k : Nat) (i : Int) a' (n + 1) c'))) := g6
          clear g6 hrun
          refine hK.out _ _ ⟨g1, g2, g3⟩ (fun hHeld => ?_)
          clear hK K'
          try simp only [Act.put, List.setIfInBounds_toArray, List.set_cons_zero, List.set_cons_succ]
          refine wpAnyH_take (i := 18) (oi := ⟨_, _, _, _, _, _⟩) (v := ?_) rfl (by kernel_rfl) (by kernel_rfl) (by kernel_rfl) (fun _ _ _ h => h) (Or.inl ⟨by rfl, ?_⟩) (by assumption) ?_
          rotate_left 1
          · intro W' hSw
            obtain ⟨hS1, hS2, hS3⟩ := hSw
            go_simp
            try with_reducible rfl
          try simp only [Act.put, List.setIfInBounds_toArray, List.set_cons_zero, List.set_cons_succ]
          refine wpAnyH_ready (rs := [19]) (by kernel_rfl) (by simp) ?_
          refine AllReadyH.cons (o := ⟨_, _, _, _, _, _⟩) rfl (fun K' hK => ?_) AllReadyH.nil
          go_simp
          refine hK.out _ _ ⟨by rw [blk_put, if_neg m7p]; exact g1, by rw [blk_put, if_neg m7R]; exact g2, by rw [blk_put, if_neg m7L]; exact g3⟩ (fun hHeld => ?_)
          clear hK K'
          try simp only [Act.put, List.setIfInBounds_toArray, List.set_cons_zero, List.set_cons_succ]
          refine wpAnyH_done (by kernel_rfl) ?_ _
          clear hb hCR hCL hb7 hf7 hnew
          go_wp2_with fail
          refine ⟨rfl, rfl, ⟨rfl, rfl, rfl, rfl, rfl, i + 1, a', n + 1, c', K ++ [_], by omega, ?_, HQ'⟩, ?_⟩
          · show Value.int .i64 _ = _
            go_num
          · show nn - (intOf (Value.int .i64 _)).toNat < nn - (intOf (F 8)).toNat
            rw [H8.out]
            simp [intOf]; omega
    · rw [if_neg hid] at HSv
      repeat go_step
      refine wp_region_held_drew (S := fun W' => blk W' bp = some (prgE aP N cP (some ⟨bR, 0, none⟩) M cR S) ∧ blk W' bR = some CR ∧ blk W' bL = some CL) (by kernel_rfl) ⟨hb, hCR, hCL⟩ (fun hHeld => ?_)
      refine wpAnyH_take (i := 0) (oi := ⟨_, _, _, _, _, _⟩) (v := ?_) rfl (by kernel_rfl) (by kernel_rfl) (by kernel_rfl) (fun _ _ _ h => h) (Or.inl ⟨by rfl, ?_⟩) (by assumption) ?_
      rotate_left 1
      · intro W' hSw
        obtain ⟨hS1, hS2, hS3⟩ := hSw
        go_simp
        try with_reducible rfl
      try simp only [Act.put, List.setIfInBounds_toArray, List.set_cons_zero, List.set_cons_succ]
      refine wpAnyH_take (i := 2) (oi := ⟨_, _, _, _, _, _⟩) (v := ?_) rfl (by kernel_rfl) (by kernel_rfl) (by kernel_rfl) (fun _ _ _ h => h) (Or.inl ⟨by rfl, ?_⟩) (by assumption) ?_
      rotate_left 1
      · intro W' hSw
        obtain ⟨hS1, hS2, hS3⟩ := hSw
        go_simp
        try with_reducible rfl
      try simp only [Act.put, List.setIfInBounds_toArray, List.set_cons_zero, List.set_cons_succ]
      refine wpAnyH_take (i := 3) (oi := ⟨_, _, _, _, _, _⟩) (v := ?_) rfl (by kernel_rfl) (by kernel_rfl) (by kernel_rfl) (fun _ _ _ h => h) (Or.inl ⟨by rfl, ?_⟩) (by assumption) ?_
      rotate_left 1
      · intro W' hSw
        obtain ⟨hS1, hS2, hS3⟩ := hSw
        go_simp
        try with_reducible rfl
      try simp only [Act.put, List.setIfInBounds_toArray, List.set_cons_zero, List.set_cons_succ]
      refine wpAnyH_take (i := 4) (oi := ⟨_, _, _, _, _, _⟩) (v := ?_) rfl (by kernel_rfl) (by kernel_rfl) (by kernel_rfl) (fun _ _ _ h => h) (Or.inl ⟨by rfl, ?_⟩) (by assumption) ?_
      rotate_left 1
      · intro W' hSw
        obtain ⟨hS1, hS2, hS3⟩ := hSw
        go_simp
        try with_reducible rfl
      try simp only [Act.put, List.setIfInBounds_toArray, List.set_cons_zero, List.set_cons_succ]
      refine wpAnyH_take (i := 5) (oi := ⟨_, _, _, _, _, _⟩) (v := ?_) rfl (by kernel_rfl) (by kernel_rfl) (by kernel_rfl) (fun _ _ _ h => h) (Or.inl ⟨by rfl, ?_⟩) (by assumption) ?_
      rotate_left 1
      · intro W' hSw
        obtain ⟨hS1, hS2, hS3⟩ := hSw
        go_simp
        try with_reducible rfl
      try simp only [Act.put, List.setIfInBounds_toArray, List.set_cons_zero, List.set_cons_succ]
      refine wpAnyH_take (i := 6) (oi := ⟨_, _, _, _, _, _⟩) (v := ?_) rfl (by kernel_rfl) (by kernel_rfl) (by kernel_rfl) (fun _ _ _ h => h) (Or.inl ⟨by rfl, ?_⟩) (by assumption) ?_
      rotate_left 1
      · intro W' hSw
        obtain ⟨hS1, hS2, hS3⟩ := hSw
        go_simp
        try with_reducible rfl
      try simp only [Act.put, List.setIfInBounds_toArray, List.set_cons_zero, List.set_cons_succ]
      refine wpAnyH_take (i := 7) (oi := ⟨_, _, _, _, _, _⟩) (v := ?_) rfl (by kernel_rfl) (by kernel_rfl) (by kernel_rfl) (fun _ _ _ h => h) (Or.inl ⟨by rfl, ?_⟩) (by assumption) ?_
      rotate_left 1
      · intro W' hSw
        obtain ⟨hS1, hS2, hS3⟩ := hSw
        go_simp
        try with_reducible rfl
      try simp only [Act.put, List.setIfInBounds_toArray, List.set_cons_zero, List.set_cons_succ]
      refine wpAnyH_take (i := 8) (oi := ⟨_, _, _, _, _, _⟩) (v := ?_) rfl (by kernel_rfl) (by kernel_rfl) (by kernel_rfl) (fun _ _ _ h => h) (Or.inl ⟨by rfl, ?_⟩) (by assumption) ?_
      rotate_left 1
      · intro W' hSw
        obtain ⟨hS1, hS2, hS3⟩ := hSw
        go_simp
        try with_reducible rfl
      try simp only [Act.put, List.setIfInBounds_toArray, List.set_cons_zero, List.set_cons_succ]
      refine wpAnyH_take (i := 9) (oi := ⟨_, _, _, _, _, _⟩) (v := ?_) rfl (by kernel_rfl) (by kernel_rfl) (by kernel_rfl) (fun _ _ _ h => h) (Or.inl ⟨by rfl, ?_⟩) (by assumption) ?_
      rotate_left 1
      · intro W' hSw
        obtain ⟨hS1, hS2, hS3⟩ := hSw
        go_simp
        try with_reducible rfl
      try simp only [Act.put, List.setIfInBounds_toArray, List.set_cons_zero, List.set_cons_succ]
      refine wpAnyH_take (i := 10) (oi := ⟨_, _, _, _, _, _⟩) (v := ?_) rfl (by kernel_rfl) (by kernel_rfl) (by kernel_rfl) (fun _ _ _ h => h) (Or.inl ⟨by rfl, ?_⟩) (by assumption) ?_
      rotate_left 1
      · intro W' hSw
        obtain ⟨hS1, hS2, hS3⟩ := hSw
        go_simp
        try with_reducible rfl
      try simp only [Act.put, List.setIfInBounds_toArray, List.set_cons_zero, List.set_cons_succ]
      refine wpAnyH_take (i := 11) (oi := ⟨_, _, _, _, _, _⟩) (v := ?_) rfl (by kernel_rfl) (by kernel_rfl) (by kernel_rfl) (fun _ _ _ h => h) (Or.inl ⟨by rfl, ?_⟩) (by assumption) ?_
      rotate_left 1
      · intro W' hSw
        obtain ⟨hS1, hS2, hS3⟩ := hSw
        go_simp
        try with_reducible rfl
      try simp only [Act.put, List.setIfInBounds_toArray, List.set_cons_zero, List.set_cons_succ]
      refine wpAnyH_take (i := 12) (oi := ⟨_, _, _, _, _, _⟩) (v := ?_) rfl (by kernel_rfl) (by kernel_rfl) (by kernel_rfl) (fun _ _ _ h => h) (Or.inl ⟨by rfl, ?_⟩) (by assumption) ?_
      rotate_left 1
      · intro W' hSw
        obtain ⟨hS1, hS2, hS3⟩ := hSw
        go_simp
        try with_reducible rfl
      try simp only [Act.put, List.setIfInBounds_toArray, List.set_cons_zero, List.set_cons_succ]
      refine wpAnyH_take (i := 13) (oi := ⟨_, _, _, _, _, _⟩) (v := ?_) rfl (by kernel_rfl) (by kernel_rfl) (by kernel_rfl) (fun _ _ _ h => h) (Or.inl ⟨by rfl, ?_⟩) (by assumption) ?_
      rotate_left 1
      · intro W' hSw
        obtain ⟨hS1, hS2, hS3⟩ := hSw
        go_simp
        try with_reducible rfl
      try simp only [Act.put, List.setIfInBounds_toArray, List.set_cons_zero, List.set_cons_succ]
      refine wpAnyH_take (i := 14) (oi := ⟨_, _, _, _, _, _⟩) (v := ?_) rfl (by kernel_rfl) (by kernel_rfl) (by kernel_rfl) (fun _ _ _ h => h) (Or.inl ⟨by rfl, ?_⟩) (by assumption) ?_
      rotate_left 1
      · intro W' hSw
        obtain ⟨hS1, hS2, hS3⟩ := hSw
        go_simp
        try with_reducible rfl
      try simp only [Act.put, List.setIfInBounds_toArray, List.set_cons_zero, List.set_cons_succ]
      refine wpAnyH_ready (rs := [1, 15]) (by kernel_rfl) (by simp) ?_
      refine AllReadyH.cons (o := ⟨_, _, _, _, _, _⟩) rfl (fun K' hK => ?_) (AllReadyH.cons (o := ⟨_, _, _, _, _, _⟩) rfl (fun K' hK => ?_) AllReadyH.nil)
      · go_simp
        refine hK.out _ _ ⟨hb, hCR, hCL⟩ (fun hHeld => ?_)
        clear hK K'
        try simp only [Act.put, List.setIfInBounds_toArray, List.set_cons_zero, List.set_cons_succ]
        refine wpAnyH_ready (rs := [15]) (by kernel_rfl) (by simp) ?_
        refine AllReadyH.cons (o := ⟨_, _, _, _, _, _⟩) rfl (fun K' hK => ?_) AllReadyH.nil
        go_simp
        refine (full_any W.drew q (by omega)).mono ?_
        rintro e Wx ⟨rfl, hWx⟩
        obtain rfl : Wx = W.drew := hWx
        dsimp only
        refine hK.out _ _ ⟨hb, hCR, hCL⟩ (fun hHeld => ?_)
        clear hK K'
        try simp only [Act.put, List.setIfInBounds_toArray, List.set_cons_zero, List.set_cons_succ]
        refine wpAnyH_ready (rs := [16]) (by kernel_rfl) (by simp) ?_
        refine AllReadyH.cons (o := ⟨_, _, _, _, _, _⟩) rfl (fun K' hK => ?_) AllReadyH.nil
        go_simp
        refine hK.out _ _ ⟨(blk_alloc _ _ _ _).trans ((if_neg mbp).trans hb), (blk_alloc _ _ _ _).trans ((if_neg mbR).trans hCR), (blk_alloc _ _ _ _).trans ((if_neg mbL).trans hCL)⟩ (fun hHeld => ?_)
        clear hK K'
        try simp only [Act.put, List.setIfInBounds_toArray, List.set_cons_zero, List.set_cons_succ]
        refine wpAnyH_ready (rs := [17]) (by kernel_rfl) (by simp) ?_
        refine AllReadyH.cons (o := ⟨_, _, _, _, _, _⟩) rfl (fun K' hK => ?_) AllReadyH.nil
        obtain ⟨a', c', W2, hrun, g1, g2, g3, g4, g5, g6⟩ := (hnew _ HSv.out).out
        rw [if_pos (by rfl)]
        refine wp_append_run _ _ 101 rfl _ _ _ _ rfl rfl hrun ?_
        have HQ' : Hid (PL w b6 b7 B (k : Nat) d a' (n + 1) c' (i + 1) (K ++ [_]) Src (put W2 b7 (plE (k : Nat) d a' (n + 1) c'))) := g6
        clear g6 hrun
        refine hK.out _ _ ⟨g1, g2, g3⟩ (fun hHeld => ?_)
        clear hK K'
        try simp only [Act.put, List.setIfInBounds_toArray, List.set_cons_zero, List.set_cons_succ]
        refine wpAnyH_take (i := 18) (oi := ⟨_, _, _, _, _, _⟩) (v := ?_) rfl (by kernel_rfl) (by kernel_rfl) (by kernel_rfl) (fun _ _ _ h => h) (Or.inl ⟨by rfl, ?_⟩) (by assumption) ?_
        rotate_left 1
        · intro W' hSw
          obtain ⟨hS1, hS2, hS3⟩ := hSw
          go_simp
          try with_reducible rfl
        try simp only [Act.put, List.setIfInBounds_toArray, List.set_cons_zero, List.set_cons_succ]
        refine wpAnyH_ready (rs := [19]) (by kernel_rfl) (by simp) ?_
        refine AllReadyH.cons (o := ⟨_, _, _, _, _, _⟩) rfl (fun K' hK => ?_) AllReadyH.nil
        go_simp
        refine hK.out _ _ ⟨by rw [blk_put, if_neg m7p]; exact g1, by rw [blk_put, if_neg m7R]; exact g2, by rw [blk_put, if_neg m7L]; exact g3⟩ (fun hHeld => ?_)
        clear hK K'
        try simp only [Act.put, List.setIfInBounds_toArray, List.set_cons_zero, List.set_cons_succ]
        refine wpAnyH_done (by kernel_rfl) ?_ _
        clear hb hCR hCL hb7 hf7 hnew
        go_wp2_with fail
        refine ⟨rfl, rfl, ⟨rfl, rfl, rfl, rfl, rfl, i + 1, a', n + 1, c', K ++ [_], by omega, ?_, HQ'⟩, ?_⟩
        · show Value.int .i64 _ = _
          go_num
        · show nn - (intOf (Value.int .i64 _)).toNat < nn - (intOf (F 8)).toNat
          rw [H8.out]
          simp [intOf]; omega
      · go_simp
        refine (full_any W.drew q (by omega)).mono ?_
        rintro e Wx ⟨rfl, hWx⟩
        obtain rfl : Wx = W.drew := hWx
        dsimp only
        refine hK.out _ _ ⟨hb, hCR, hCL⟩ (fun hHeld => ?_)
        clear hK K'
        try simp only [Act.put, List.setIfInBounds_toArray, List.set_cons_zero, List.set_cons_succ]
        refine wpAnyH_ready (rs := [1, 16]) (by kernel_rfl) (by simp) ?_
        refine AllReadyH.cons (o := ⟨_, _, _, _, _, _⟩) rfl (fun K' hK => ?_) (AllReadyH.cons (o := ⟨_, _, _, _, _, _⟩) rfl (fun K' hK => ?_) AllReadyH.nil)
        · go_simp
          refine hK.out _ _ ⟨hb, hCR, hCL⟩ (fun hHeld => ?_)
          clear hK K'
          try simp only [Act.put, List.setIfInBounds_toArray, List.set_cons_zero, List.set_cons_succ]
          refine wpAnyH_ready (rs := [16]) (by kernel_rfl) (by simp) ?_
          refine AllReadyH.cons (o := ⟨_, _, _, _, _, _⟩) rfl (fun K' hK => ?_) AllReadyH.nil
          go_simp
          refine hK.out _ _ ⟨(blk_alloc _ _ _ _).trans ((if_neg mbp).trans hb), (blk_alloc _ _ _ _).trans ((if_neg mbR).trans hCR), (blk_alloc _ _ _ _).trans ((if_neg mbL).trans hCL)⟩ (fun hHeld => ?_)
          clear hK K'
          try simp only [Act.put, List.setIfInBounds_toArray, List.set_cons_zero, List.set_cons_succ]
          refine wpAnyH_ready (rs := [17]) (by kernel_rfl) (by simp) ?_
          refine AllReadyH.cons (o := ⟨_, _, _, _, _, _⟩) rfl (fun K' hK => ?_) AllReadyH.nil
          obtain ⟨a', c', W2, hrun, g1, g2, g3, g4, g5, g6⟩ := (hnew _ HSv.out).out
          rw [if_pos (by rfl)]
          refine wp_append_run _ _ 101 rfl _ _ _ _ rfl rfl hrun ?_
          have HQ' : Hid (PL w b6 b7 B (k : Nat) d a' (n + 1) c' (i + 1) (K ++ [_]) Src (put W2 b7 (plE (k : Nat) d a' (n + 1) c'))) := g6
          clear g6 hrun
          refine hK.out _ _ ⟨g1, g2, g3⟩ (fun hHeld => ?_)
          clear hK K'
          try simp only [Act.put, List.setIfInBounds_toArray, List.set_cons_zero, List.set_cons_succ]
          refine wpAnyH_take (i := 18) (oi := ⟨_, _, _, _, _, _⟩) (v := ?_) rfl (by kernel_rfl) (by kernel_rfl) (by kernel_rfl) (fun _ _ _ h => h) (Or.inl ⟨by rfl, ?_⟩) (by assumption) ?_
          rotate_left 1
          · intro W' hSw
            obtain ⟨hS1, hS2, hS3⟩ := hSw
            go_simp
            try with_reducible rfl
          try simp only [Act.put, List.setIfInBounds_toArray, List.set_cons_zero, List.set_cons_succ]
          refine wpAnyH_ready (rs := [19]) (by kernel_rfl) (by simp) ?_
          refine AllReadyH.cons (o := ⟨_, _, _, _, _, _⟩) rfl (fun K' hK => ?_) AllReadyH.nil
          go_simp
          refine hK.out _ _ ⟨by rw [blk_put, if_neg m7p]; exact g1, by rw [blk_put, if_neg m7R]; exact g2, by rw [blk_put, if_neg m7L]; exact g3⟩ (fun hHeld => ?_)
          clear hK K'
          try simp only [Act.put, List.setIfInBounds_toArray, List.set_cons_zero, List.set_cons_succ]
          refine wpAnyH_done (by kernel_rfl) ?_ _
          clear hb hCR hCL hb7 hf7 hnew
          go_wp2_with fail
          refine ⟨rfl, rfl, ⟨rfl, rfl, rfl, rfl, rfl, i + 1, a', n + 1, c', K ++ [_], by omega, ?_, HQ'⟩, ?_⟩
          · show Value.int .i64 _ = _
            go_num
          · show nn - (intOf (Value.int .i64 _)).toNat < nn - (intOf (F 8)).toNat
            rw [H8.out]
            simp [intOf]; omega
        · go_simp
          refine hK.out _ _ ⟨(blk_alloc _ _ _ _).trans ((if_neg mbp).trans hb), (blk_alloc _ _ _ _).trans ((if_neg mbR).trans hCR), (blk_alloc _ _ _ _).trans ((if_neg mbL).trans hCL)⟩ (fun hHeld => ?_)
          clear hK K'
          try simp only [Act.put, List.setIfInBounds_toArray, List.set_cons_zero, List.set_cons_succ]
          refine wpAnyH_ready (rs := [1]) (by kernel_rfl) (by simp) ?_
          refine AllReadyH.cons (o := ⟨_, _, _, _, _, _⟩) rfl (fun K' hK => ?_) AllReadyH.nil
          go_simp
          refine hK.out _ _ ⟨(blk_alloc _ _ _ _).trans ((if_neg mbp).trans hb), (blk_alloc _ _ _ _).trans ((if_neg mbR).trans hCR), (blk_alloc _ _ _ _).trans ((if_neg mbL).trans hCL)⟩ (fun hHeld => ?_)
          clear hK K'
          try simp only [Act.put, List.setIfInBounds_toArray, List.set_cons_zero, List.set_cons_succ]
          refine wpAnyH_ready (rs := [17]) (by kernel_rfl) (by simp) ?_
          refine AllReadyH.cons (o := ⟨_, _, _, _, _, _⟩) rfl (fun K' hK => ?_) AllReadyH.nil
          obtain ⟨a', c', W2, hrun, g1, g2, g3, g4, g5, g6⟩ := (hnew _ HSv.out).out
          rw [if_pos (by rfl)]
          refine wp_append_run _ _ 101 rfl _ _ _ _ rfl rfl hrun ?_
          have HQ' : Hid (PL w b6 b7 B (k : Nat) d a' (n + 1) c' (i + 1) (K ++ [_]) Src (put W2 b7 (plE (k : Nat) d a' (n + 1) c'))) := g6
          clear g6 hrun
          refine hK.out _ _ ⟨g1, g2, g3⟩ (fun hHeld => ?_)
          clear hK K'
          try simp only [Act.put, List.setIfInBounds_toArray, List.set_cons_zero, List.set_cons_succ]
          refine wpAnyH_take (i := 18) (oi := ⟨_, _, _, _, _, _⟩) (v := ?_) rfl (by kernel_rfl) (by kernel_rfl) (by kernel_rfl) (fun _ _ _ h => h) (Or.inl ⟨by rfl, ?_⟩) (by assumption) ?_
          rotate_left 1
          · intro W' hSw
            obtain ⟨hS1, hS2, hS3⟩ := hSw
            go_simp
            try with_reducible rfl
          try simp only [Act.put, List.setIfInBounds_toArray, List.set_cons_zero, List.set_cons_succ]
          refine wpAnyH_ready (rs := [19]) (by kernel_rfl) (by simp) ?_
          refine AllReadyH.cons (o := ⟨_, _, _, _, _, _⟩) rfl (fun K' hK => ?_) AllReadyH.nil
          go_simp
          refine hK.out _ _ ⟨by rw [blk_put, if_neg m7p]; exact g1, by rw [blk_put, if_neg m7R]; exact g2, by rw [blk_put, if_neg m7L]; exact g3⟩ (fun hHeld => ?_)
          clear hK K'
          try simp only [Act.put, List.setIfInBounds_toArray, List.set_cons_zero, List.set_cons_succ]
          refine wpAnyH_done (by kernel_rfl) ?_ _
          clear hb hCR hCL hb7 hf7 hnew
          go_wp2_with fail
          refine ⟨rfl, rfl, ⟨rfl, rfl, rfl, rfl, rfl, i + 1, a', n + 1, c', K ++ [_], by omega, ?_, HQ'⟩, ?_⟩
          · show Value.int .i64 _ = _
            go_num
          · show nn - (intOf (Value.int .i64 _)).toNat < nn - (intOf (F 8)).toNat
            rw [H8.out]
            simp [intOf]; omega
  · obtain rfl : i = nn := by omega
    have HF : Hid (PlanX w p k d (.returned (.agg (plE (k : Nat) d a n c).toArray)) (put W b6 (plE (k : Nat) d a n c))) := by
      refine ⟨⟨k, d, ⟨a, n, c⟩⟩, rfl, (Side.put (D := fun k => k = b6) (Side.refl _ _) rfl _).extends hext (fun k hk => by rw [hk]; exact hw6), rfl, rfl, ?_⟩
      rw [HSRC.out]
      have hKS : K = Src := by rw [hni, List.take_of_length_le (by rw [HSL.out]; exact Nat.le_refl _)]
      rw [hKS] at hrow
      have hrw := (rw_own encN_len hrow).1
      refine ⟨hrw.1, fun j z hz => ?_⟩
      obtain ⟨b, C, g1, g2, g3⟩ := hrw.2 j z hz
      have hbB : B ≤ b := (row_at hrow b (by rw [g1]; rfl)).1
      exact ⟨b, C, g1, blk_newc (by rw [blk_put, if_neg (by omega)]; exact g2) (by omega), g3⟩
    clear hnK hrow HQ hext hni
    go_wp2_with fail
    refine ret_cell (C := plE (k : Nat) d a n c) rfl rfl ?_ (by kernel_rfl) (by rw [pl_len]; kernel_rfl) rfl HF.out
    rw [blk_put, if_pos rfl, hz6]
    rfl
end Go.Proofs.Qxb6500788a
