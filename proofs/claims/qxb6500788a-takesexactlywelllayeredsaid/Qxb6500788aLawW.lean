import Derived.Test.Qxb6500788aNw6
import Derived.StillTailTactics
import Derived.Deep.QuietTactic
import Derived.BigQuiet
import Derived.Deep.RegionHeld
import Derived.Deep.CutRange
import Derived.Laws.ResultCell
import Derived.Laws.Rows
import Derived.DeepKeys
import Derived.DataBytes
import Derived.Laws.StructEq
import Derived.Laws.AppendOwn
import Derived.Laws.MakeOwn
set_option linter.unusedSimpArgs false
set_option linter.unusedVariables false
namespace Go.Proofs.Qxb6500788a
open Go.RowKit Go.Blk
attribute [local go_sem ↓] execOp_load execOp_store execOp_alloc
attribute [local go_sem] Try.ld24 Try.st24 Try.ld25 Try.st25 Try.ld3 Try.st3 Try.ld30 Try.st30 Try.ld36 Try.st36 Try.ld4 Try.st4 Try.ld41 Try.st41 Try.ld50 Try.st50 Try.ld40 Try.st40 Try.ld42 Try.st42 Try.ld89 Try.st89 Try.ld91 Try.st91 Try.ld56 Try.st56 Try.ld97 Try.st97 Try.ld98 Try.st98 Try.ld101 Try.st101 Try.ld104 Try.st104 Try.ld57 Try.st57 Try.ld130 Try.st130 Try.ld2 Try.st2 Try.ld5 Try.st5 Try.ld9 Try.st9 Try.ld12 Try.st12 Try.ld21 Try.st21 Try.ld22 Try.st22 Try.ld29 Try.st29 Try.ld33 Try.st33 Try.ld59 Try.st59 Try.ld62 Try.st62 Try.ld69 Try.st69 Try.ld94 Try.st94 Try.ld96 Try.st96 Try.ld129 Try.st129 Try.ld158 Try.st158 Try.ld162 Try.st162 Try.ld47 Try.st47 Try.ld44 Try.st44 Try.ld137 Try.st137 Try.ld145 Try.st145 Try.ld43 Try.st43 Try.ld27 Try.st27 Try.ld38 Try.st38 Try.ld46 Try.st46 Try.ld49 Try.st49 Try.ld52 Try.st52 Try.ld54 Try.st54 Try.ld61 Try.st61 Try.ld80 Try.st80 Try.ld87 Try.st87 Try.ld93 Try.st93 Try.ld100 Try.st100 Try.ld103 Try.st103 Try.ld106 Try.st106 Try.ld109 Try.st109 Try.ld132 Try.st132 Try.ld147 Try.st147 Try.al47 Try.al44 Try.al137 Try.al145 Try.al43 Try.al27 Try.al38 Try.al46 Try.al49 Try.al52 Try.al54 Try.al61 Try.al80 Try.al87 Try.al93 Try.al100 Try.al103 Try.al106 Try.al109 Try.al132 Try.al147
attribute [local go_sem] GProgram.length_enc GProgram.ok_enc GProgram.all_get GProgram.all_set GProgram.preds_get GProgram.preds_set GProgram.rules_get GProgram.rules_set GProgram.strata_get GProgram.strata_set Answer.length_enc Answer.ok_enc Answer.all_get Answer.all_set Answer.code_get Answer.code_set Answer.n_get Answer.n_set Answer.rows_get Answer.rows_set Term.length_enc Term.ok_enc Term.all_get Term.all_set Term.var_get Term.var_set Term.n_get Term.n_set Atom.length_enc Atom.ok_enc Atom.all_get Atom.all_set Atom.pred_get Atom.pred_set Atom.args_get Atom.args_set GRule.length_enc GRule.ok_enc GRule.all_get GRule.all_set GRule.head_get GRule.head_set GRule.body_get GRule.body_set GRule.head_pred_get GRule.head_pred_set GRule.head_args_get GRule.head_args_set GOp.length_enc GOp.ok_enc GOp.all_get GOp.all_set GOp.kind_get GOp.kind_set GOp.pred_get GOp.pred_set GOp.t_get GOp.t_set GOp.n_get GOp.n_set GOp.base_get GOp.base_set GOp.rule_get GOp.rule_set GOp.rule_head_get GOp.rule_head_set GOp.rule_body_get GOp.rule_body_set GOp.rule_head_pred_get GOp.rule_head_pred_set GOp.rule_head_args_get GOp.rule_head_args_set PredInfo.length_enc PredInfo.ok_enc PredInfo.all_get PredInfo.all_set PredInfo.arity_get PredInfo.arity_set PredInfo.base_get PredInfo.base_set PredInfo.stratum_get PredInfo.stratum_set GStats.length_enc GStats.ok_enc GStats.all_get GStats.all_set GStats.rounds_get GStats.rounds_set GStats.fired_get GStats.fired_set GStats.emitted_get GStats.emitted_set GStats.fresh_get GStats.fresh_set Literal.length_enc Literal.ok_enc Literal.all_get Literal.all_set Literal.neg_get Literal.neg_set Literal.atom_get Literal.atom_set Literal.atom_pred_get Literal.atom_pred_set Literal.atom_args_get Literal.atom_args_set Engine.length_enc Engine.ok_enc Engine.all_get Engine.all_set Engine.prog_get Engine.prog_set Engine.st_get Engine.st_set Engine.levels_get Engine.levels_set Engine.running_get Engine.running_set Engine.stratum_get Engine.stratum_set Engine.round_get Engine.round_set Engine.saved_get Engine.saved_set Engine.stats_get Engine.stats_set Engine.prog_preds_get Engine.prog_preds_set Engine.prog_rules_get Engine.prog_rules_set Engine.prog_strata_get Engine.prog_strata_set Engine.stats_rounds_get Engine.stats_rounds_set Engine.stats_fired_get Engine.stats_fired_set Engine.stats_emitted_get Engine.stats_emitted_set Engine.stats_fresh_get Engine.stats_fresh_set Level.length_enc Level.ok_enc Level.all_get Level.all_set Level.heads_get Level.heads_set Level.jobs_get Level.jobs_set Plan.length_enc Plan.ok_enc Plan.all_get Plan.all_set Plan.rule_get Plan.rule_set Plan.delta_get Plan.delta_set Plan.src_get Plan.src_set Job.length_enc Job.ok_enc Job.all_get Job.all_set Job.full_get Job.full_set Job.deltas_get Job.deltas_set Job.full_rule_get Job.full_rule_set Job.full_delta_get Job.full_delta_set Job.full_src_get Job.full_src_set GState.length_enc GState.ok_enc GState.all_get GState.all_set GState.prog_get GState.prog_set GState.base_get GState.base_set GState.shown_get GState.shown_set GState.prog_preds_get GState.prog_preds_set GState.prog_rules_get GState.prog_rules_set GState.prog_strata_get GState.prog_strata_set Store.length_enc Store.ok_enc Store.all_get Store.all_set Store.arity_get Store.arity_set Store.rows_get Store.rows_set Env.length_enc Env.ok_enc Env.all_get Env.all_set Env.val_get Env.val_set Env.set_get Env.set_set
attribute [local go_sem] size_put size_ext blk_put free_put blk_alloc free_alloc blk_drew free_drew blk_ext free_ext lookOr_some putOr_some segAt_some cellAt_some storeIn_some put_put put_alloc_new length_arr ok_arr_u8 ok_arr_u32 ok_arr_u64 ok_arr_i64 ok_arr_sl cellsV_agg cellsV_int cellsV_bool cellsV_string cellsV_pointer cellsV_slice cellsV_sl ok_int ok_bool ok_string ok_pointer ok_slice ok_sl toList_arr seg_arr set_arr nth_splice nth_splice0 seg_splice seg_splice0 splice_splice splice_splice0 length_splice_if
attribute [local go_sem ↓] execOp_box
attribute [local go_sem] box_run nth_arr_u8 put_arr_u8 blk_drewN free_drewN put_drewN blk_raw free_raw
set_option maxRecDepth 100000 in
theorem frame142 (f : Nat → Value) : frameN 142 f = #[f 0, f 1, f 2, f 3, f 4, f 5, f 6, f 7, f 8, f 9, f 10, f 11, f 12, f 13, f 14, f 15, f 16, f 17, f 18, f 19, f 20, f 21, f 22, f 23, f 24, f 25, f 26, f 27, f 28, f 29, f 30, f 31, f 32, f 33, f 34, f 35, f 36, f 37, f 38, f 39, f 40, f 41, f 42, f 43, f 44, f 45, f 46, f 47, f 48, f 49, f 50, f 51, f 52, f 53, f 54, f 55, f 56, f 57, f 58, f 59, f 60, f 61, f 62, f 63, f 64, f 65, f 66, f 67, f 68, f 69, f 70, f 71, f 72, f 73, f 74, f 75, f 76, f 77, f 78, f 79, f 80, f 81, f 82, f 83, f 84, f 85, f 86, f 87, f 88, f 89, f 90, f 91, f 92, f 93, f 94, f 95, f 96, f 97, f 98, f 99, f 100, f 101, f 102, f 103, f 104, f 105, f 106, f 107, f 108, f 109, f 110, f 111, f 112, f 113, f 114, f 115, f 116, f 117, f 118, f 119, f 120, f 121, f 122, f 123, f 124, f 125, f 126, f 127, f 128, f 129, f 130, f 131, f 132, f 133, f 134, f 135, f 136, f 137, f 138, f 139, f 140, f 141] := by kernel_rfl
def DP (N bP : Nat) (k : Nat) : Prop := N ≠ 0 ∧ k = bP
def LQ (w W2 : World) (bp bP : Nat) (aP : Option Addr) (N cP : Nat) (aR : Option Addr) (M cR : Nat) (S : Int) (P P' : List PredInfo) (W : World) : Prop :=
  PM bp bP aP N cP aR M cR S P' W ∧ Kin P P' ∧ Side (DP N bP) W2 W ∧ w.Extends W
def lwA (w W2 : World) (a : Option Addr) (len cap bp bP : Nat) (aP : Option Addr) (N cP : Nat) (aR : Option Addr) (M cR : Nat) (S : Int) (P : List PredInfo) (f : Nat → Value) (W : World) : Prop :=
  f 0 = .slice a len cap ∧ f 3 = .pointer (some ⟨bp, 0, none⟩) ∧ ∃ (p : Nat) (P' : List PredInfo), p ≤ N ∧ p ≤ len ∧ f 4 = .int .i64 (p : Nat) ∧ Hid (LQ w W2 bp bP aP N cP aR M cR S P P' W)
def lwB (W3 : World) (bp N : Nat) (S : Int) (P : List PredInfo) (f : Nat → Value) (W : World) : Prop :=
  f 3 = .pointer (some ⟨bp, 0, none⟩) ∧ ∃ (p : Nat) (gd : Bool), p ≤ N ∧ f 6 = .int .i64 (p : Nat) ∧ f 5 = .bool gd ∧ Hid (gd = true ↔ GoodP P S p) ∧ Hid (Ext W3 W)
def lwC (W3 : World) (bp M : Nat) (G0 : Prop) (P : List PredInfo) (R : List GRule) (Ls : Nat → List Literal) (f : Nat → Value) (W : World) : Prop :=
  f 3 = .pointer (some ⟨bp, 0, none⟩) ∧ ∃ (n : Nat) (gd : Bool), n ≤ M ∧ f 7 = .int .i64 (n : Nat) ∧ f 5 = .bool gd ∧ Hid (gd = true ↔ G0 ∧ GoodR P R Ls n) ∧ Hid (Ext W3 W)
def lwD (W3 : World) (bp n nn : Nat) (hs : Int) (G0 : Prop) (P : List PredInfo) (r : GRule) (L : List Literal) (f : Nat → Value) (W : World) : Prop :=
  f 3 = .pointer (some ⟨bp, 0, none⟩) ∧ f 7 = .int .i64 (n : Nat) ∧ f 8 = .int .i64 hs ∧ ∃ (i : Nat) (gd : Bool), i ≤ nn ∧ f 9 = .int .i64 (i : Nat) ∧ f 5 = .bool gd ∧ Hid (gd = true ↔ G0 ∧ GoodL P r L i) ∧ Hid (Ext W3 W)
theorem goodP_iff {P : List PredInfo} {S : Int} {i : Nat} {x : PredInfo} (hx : P[i]? = some x) : GoodP P S (i + 1) ↔ GoodP P S i ∧ (0 ≤ x.stratum ∧ x.stratum < S) :=
  ⟨fun h => ⟨fun k z hk hz => h k z (by omega) hz, h i x (by omega) hx⟩, fun h => h.1.step hx h.2⟩
theorem goodR_iff {P : List PredInfo} {R : List GRule} {Ls : Nat → List Literal} {i : Nat} {r : GRule} (hr : R[i]? = some r) : GoodR P R Ls (i + 1) ↔ GoodR P R Ls i ∧ GoodL P r (Ls i) (Ls i).length :=
  ⟨fun h => ⟨fun k z hk hz => h k z (by omega) hz, h i r (by omega) hr⟩, fun h => h.1.step hr h.2⟩
theorem goodL_iff {P : List PredInfo} {r : GRule} {L : List Literal} {i : Nat} {l : Literal} {y x : PredInfo} (hy : P[r.head.pred.toNat]? = some y) (hl : L[i]? = some l) (hx : P[l.atom.pred.toNat]? = some x) : GoodL P r L (i + 1) ↔ GoodL P r L i ∧ LOk y x l.neg :=
  ⟨fun h => ⟨fun y' hy' k l' x' hk hl' hx' => h y' hy' k l' x' (by omega) hl' hx', h y hy i l x (by omega) hl hx⟩, fun h => h.1.step hy hl hx h.2⟩
theorem prg_putg (x : GProgram) (aP : Option Addr) (N cP : Nat) (aR : Option Addr) (M cR : Nat) (S : Int) : splice x.enc 0 (prgE aP N cP aR M cR S) = prgE aP N cP aR M cR S := GProgram.all_set _ _
attribute [local go_sem] prg_putg prg_len prg0 prg1 prg2 prg_set0 prg_set1 prg_set2 prg_all prg_ok prg_put
attribute [local go_sem ↓] execOp_build execOp_bslice execOp_slice
set_option maxRecDepth 20000 in
set_option maxHeartbeats 4000000 in
theorem takes_walk (w : World) (a : Option Addr) (len cap : Nat) (g : Nat → GOp) (dt : Nat → List Literal) (hS : ScriptAt w a len cap g dt) :
    Calls Try.prog 8 #[.slice a len cap] w fun e w' => e = .returned (.bool true) ∧ w.Extends w' := by
  have HSc : Hid (ScriptAt w a len cap g dt) := hS
  clear hS
  go_enter Try.func8, Try.ntmps8
  go_wp2_with fail
  refine (small_any w a len cap g dt HSc.out).mono ?_
  rintro e w1 ⟨⟨r, rfl, hr⟩, hw⟩
  obtain rfl : w1 = w := hw
  cases r with
  | false =>
    go_wp2_with fail
    go_ret
    exact ⟨rfl, ext_Ext (Ext.refl _)⟩
  | true =>
  have hlen : len ≤ 65536 := (hr rfl).1
  clear hr
  go_wp2_with fail
  refine (programOf_any w1 a len cap g dt HSc.out hlen).mono ?_
  rintro e W1 ⟨bP, bR, aP, N, cP, aR, M, cR, S, P, R, rfl, hext, hAP, hfP, hAR, hRne, hN, hM, hS1, hS2, hA4, hGd⟩
  have hch : ∀ k : Nat, ∃ q : Option Addr × Nat × Nat × List Literal, ∀ r, R[k]? = some r → RBody w1 r q.1 q.2.1 q.2.2.1 q.2.2.2 ∧ RuleWf N P r q.2.1 q.2.2.2 := fun k => by
    cases hk : R[k]? with
    | none => exact ⟨(none, 0, 0, []), fun r h => by simp at h⟩
    | some r =>
      obtain ⟨ba, bn, bc, L, h1, h2⟩ := hGd r (List.mem_of_getElem? hk)
      exact ⟨(ba, bn, bc, L), fun r' h => by obtain rfl := Option.some.inj h; exact ⟨h1, h2⟩⟩
  obtain ⟨Y, hY⟩ := Classical.axiomOfChoice hch
  obtain ⟨ba, hba⟩ : ∃ ba : Nat → Option Addr, ∀ k, ba k = (Y k).1 := ⟨fun k => (Y k).1, fun _ => rfl⟩
  obtain ⟨bn, hbn⟩ : ∃ bn : Nat → Nat, ∀ k, bn k = (Y k).2.1 := ⟨fun k => (Y k).2.1, fun _ => rfl⟩
  obtain ⟨bc, hbc⟩ : ∃ bc : Nat → Nat, ∀ k, bc k = (Y k).2.2.1 := ⟨fun k => (Y k).2.2.1, fun _ => rfl⟩
  obtain ⟨Ls, hLs⟩ : ∃ Ls : Nat → List Literal, ∀ k, Ls k = (Y k).2.2.2 := ⟨fun k => (Y k).2.2.2, fun _ => rfl⟩
  have HRB : Hid (∀ (k : Nat) (r : GRule), R[k]? = some r → RBody w1 r (ba k) (bn k) (bc k) (Ls k) ∧ RuleWf N P r (bn k) (Ls k)) := fun k r h => by
    rw [hba, hbn, hbc, hLs]; exact hY k r h
  have HA4 : Hid (∀ x ∈ P, 0 ≤ x.arity ∧ x.arity ≤ 4) := hA4
  have HAP : Hid (At PredInfo.enc 3 W1 bP 0 aP N P ∧ (N ≠ 0 → free W1 bP = true ∧ w1.heap.size ≤ bP)) := ⟨hAP, hfP⟩
  have HAR : Hid (At GRule.enc 10 W1 bR 0 aR M R ∧ (M ≠ 0 → w1.heap.size ≤ bR ∧ (N ≠ 0 → bR ≠ bP))) := ⟨hAR, hRne⟩
  have HE1 : Hid (w1.Extends W1) := hext
  clear hch hY hba hbn hbc hLs hGd hA4 hAP hfP hAR hRne hext Y
  dsimp only
  go_upto_region 4 with fail
  refine wp_world (fun W2 => blk W2 W1.heap.size = some (prgE aP N cP aR M cR S) ∧ free W2 W1.heap.size = true ∧ Hid (W1.Extends W2)) ⟨?_, ?_, ?_⟩ ?_
  · first | (rw [blk_put, if_pos rfl, blk_alloc, if_pos rfl]; rfl) | (rw [blk_alloc, if_pos rfl])
  · first | (rw [free_put, free_alloc, if_pos rfl]) | (rw [free_alloc, if_pos rfl])
  · first | exact extends_alloc (ext_Ext (Ext.refl _)) _ | exact (Side.put (D := fun k => k = W1.heap.size) (Side.refl _ _) rfl _).extends (extends_alloc (ext_Ext (Ext.refl _)) _) (fun k hk => by omega)
  rintro W2 ⟨hb2, hf2, HX2⟩
  obtain ⟨bp, hbp⟩ : ∃ bp, bp = W1.heap.size := ⟨_, rfl⟩
  rw [← hbp] at hb2 hf2 ⊢
  have hwp : w1.heap.size ≤ bp := by have := HE1.out.size; omega
  have hpP : N ≠ 0 → bp ≠ bP := fun h0 e => by
    obtain ⟨_, C, h1, _⟩ := HAP.out.1.2 h0
    have := blk_lt h1
    omega
  have HPP : Hid (N ≠ 0 → bp ≠ bP) := hpP
  have HWP : Hid (N ≠ 0 → w1.heap.size ≤ bP) := fun h0 => (HAP.out.2 h0).2
  have H0 : Hid (LQ w1 W2 bp bP aP N cP aR M cR S P P W2) := by
    refine ⟨⟨hb2, hf2, HAP.out.1.grow HX2.out, fun h0 => ?_⟩, rfl, Side.refl _ _, HE1.out.trans HX2.out⟩
    obtain ⟨_, C, h1, _⟩ := HAP.out.1.2 h0
    exact (free_of_heap (HX2.out.block bP (blk_lt h1))).trans (HAP.out.2 h0).1
  have HAR2 : Hid (At GRule.enc 10 W2 bR 0 aR M R) := HAR.out.1.grow HX2.out
  clear hb2 hf2 HX2 hbp hpP
  go_wp2_with fail
  refine wp_loop_f 142 (lwA w1 W2 a len cap bp bP aP N cP aR M cR S P) (fun f _ => N - (intOf (f 4)).toNat) rfl ?_ ?_
  · exact ⟨rfl, rfl, 0, P, by omega, by omega, rfl, H0⟩
  clear H0
  intro F W hrel
  obtain ⟨f0, f3, p, P1, hp, hpl, f4, HQ⟩ := hrel
  have H4 : Hid (F 4 = .int .i64 (p : Nat)) := f4
  rw [frame142, f0, f3, f4]
  clear f0 f3 f4
  have hb := HQ.out.1.1
  by_cases hgo : p < N ∧ p < len
  · obtain ⟨hpN, hpL⟩ := hgo
    obtain ⟨bs, o, C, rfl, hC, hlC, hseg⟩ := (HSc.out.mono HQ.out.2.2.2).2.2.2 (by omega)
    have hbsw : bs < w1.heap.size := by
      obtain ⟨bs', o', C', e1, e2, _⟩ := HSc.out.2.2.2 (by omega)
      injection e1 with e1
      injection e1 with e1
      rw [e1]; exact blk_lt e2
    obtain ⟨_, c6, _, _⟩ := op_cells (hseg p hpL)
    obtain ⟨an, han⟩ : ∃ an, an = (g p).n := ⟨_, rfl⟩
    rw [← han] at c6
    obtain ⟨x, D, hx, rfl, hD, hDf, hDl, _, _, _, _⟩ := HQ.out.1.at hpN
    have hwP := HWP.out (by omega)
    have hne := HPP.out (by omega)
    have p0 : (0 : Int) ≤ (p : Int) := by omega
    have p1 : (p : Int) < (N : Int) := by omega
    have p1' : (p : Int) < (len : Int) := by omega
    have p2 : ((p : Int)).toNat = p := by omega
    have l1 : o + p * 18 + 18 ≤ C.length := by omega
    have l2 : p * 3 + 2 + 1 ≤ D.length := by omega
    have m1 : ¬ bs = bP := by omega
    have m2 : ¬ bp = bP := hne
    have HQ' : Hid (LQ w1 W2 bp bP (some ⟨bP, 0, none⟩) N cP aR M cR S P (setS P1 p an) (put W.drew bP (splice D (p * 3 + 2) [.int .i64 an]))) := by
      refine ⟨PM.setS (W := W.drew) HQ.out.1 hne hD hpN an, HQ.out.2.1.set _ _, (HQ.out.2.2.1.drew).put ⟨by omega, rfl⟩ _, ?_⟩
      exact (Side.put (D := fun k => k = bP) (Side.refl _ _) rfl _).extends (extends_drew HQ.out.2.2.2) (fun k hk => by rw [hk]; exact hwP)
    clear hseg han hx hne HQ
    repeat go_step
    refine wp_region_held_drew (S := fun W' => blk W' bp = some (prgE (some ⟨bP, 0, none⟩) N cP aR M cR S) ∧ blk W' bs = some C) (by kernel_rfl) ⟨hb, hC⟩ (fun hHeld => ?_)
    refine wpAnyH_take (i := 0) (oi := ⟨_, _, _, _, _, _⟩) (v := ?_) rfl (by kernel_rfl) (by kernel_rfl) (by kernel_rfl) (fun _ _ _ h => h) (Or.inl ⟨by rfl, ?_⟩) (by assumption) ?_
    rotate_left 1
    · intro W' hSw
      obtain ⟨hS1, hS2⟩ := hSw
      go_simp
      try with_reducible rfl
    try simp only [Act.put, List.setIfInBounds_toArray, List.set_cons_zero, List.set_cons_succ]
    refine wpAnyH_take (i := 1) (oi := ⟨_, _, _, _, _, _⟩) (v := ?_) rfl (by kernel_rfl) (by kernel_rfl) (by kernel_rfl) (fun _ _ _ h => h) (Or.inl ⟨by rfl, ?_⟩) (by assumption) ?_
    rotate_left 1
    · intro W' hSw
      obtain ⟨hS1, hS2⟩ := hSw
      go_simp
      try with_reducible rfl
    try simp only [Act.put, List.setIfInBounds_toArray, List.set_cons_zero, List.set_cons_succ]
    refine wpAnyH_take (i := 2) (oi := ⟨_, _, _, _, _, _⟩) (v := ?_) rfl (by kernel_rfl) (by kernel_rfl) (by kernel_rfl) (fun _ _ _ h => h) (Or.inl ⟨by rfl, ?_⟩) (by assumption) ?_
    rotate_left 1
    · intro W' hSw
      obtain ⟨hS1, hS2⟩ := hSw
      go_simp
      try with_reducible rfl
    try simp only [Act.put, List.setIfInBounds_toArray, List.set_cons_zero, List.set_cons_succ]
    refine wpAnyH_take (i := 3) (oi := ⟨_, _, _, _, _, _⟩) (v := ?_) rfl (by kernel_rfl) (by kernel_rfl) (by kernel_rfl) (fun _ _ _ h => h) (Or.inl ⟨by rfl, ?_⟩) (by assumption) ?_
    rotate_left 1
    · intro W' hSw
      obtain ⟨hS1, hS2⟩ := hSw
      go_simp
      try with_reducible rfl
    try simp only [Act.put, List.setIfInBounds_toArray, List.set_cons_zero, List.set_cons_succ]
    refine wpAnyH_take (i := 4) (oi := ⟨_, _, _, _, _, _⟩) (v := ?_) rfl (by kernel_rfl) (by kernel_rfl) (by kernel_rfl) (fun _ _ _ h => h) (Or.inl ⟨by rfl, ?_⟩) (by assumption) ?_
    rotate_left 1
    · intro W' hSw
      obtain ⟨hS1, hS2⟩ := hSw
      go_simp
      try with_reducible rfl
    try simp only [Act.put, List.setIfInBounds_toArray, List.set_cons_zero, List.set_cons_succ]
    refine wpAnyH_take (i := 5) (oi := ⟨_, _, _, _, _, _⟩) (v := ?_) rfl (by kernel_rfl) (by kernel_rfl) (by kernel_rfl) (fun _ _ _ h => h) (Or.inl ⟨by rfl, ?_⟩) (by assumption) ?_
    rotate_left 1
    · intro W' hSw
      obtain ⟨hS1, hS2⟩ := hSw
      go_simp
      try with_reducible rfl
    try simp only [Act.put, List.setIfInBounds_toArray, List.set_cons_zero, List.set_cons_succ]
    refine wpAnyH_take (i := 6) (oi := ⟨_, _, _, _, _, _⟩) (v := ?_) rfl (by kernel_rfl) (by kernel_rfl) (by kernel_rfl) (fun _ _ _ h => h) (Or.inl ⟨by rfl, ?_⟩) (by assumption) ?_
    rotate_left 1
    · intro W' hSw
      obtain ⟨hS1, hS2⟩ := hSw
      go_simp
      try with_reducible rfl
    try simp only [Act.put, List.setIfInBounds_toArray, List.set_cons_zero, List.set_cons_succ]
    refine wpAnyH_take (i := 7) (oi := ⟨_, _, _, _, _, _⟩) (v := ?_) rfl (by kernel_rfl) (by kernel_rfl) (by kernel_rfl) (fun _ _ _ h => h) (Or.inl ⟨by rfl, ?_⟩) (by assumption) ?_
    rotate_left 1
    · intro W' hSw
      obtain ⟨hS1, hS2⟩ := hSw
      go_simp
      try with_reducible rfl
    try simp only [Act.put, List.setIfInBounds_toArray, List.set_cons_zero, List.set_cons_succ]
    refine wpAnyH_take (i := 8) (oi := ⟨_, _, _, _, _, _⟩) (v := ?_) rfl (by kernel_rfl) (by kernel_rfl) (by kernel_rfl) (fun _ _ _ h => h) (Or.inl ⟨by rfl, ?_⟩) (by assumption) ?_
    rotate_left 1
    · intro W' hSw
      obtain ⟨hS1, hS2⟩ := hSw
      go_simp
      try with_reducible rfl
    try simp only [Act.put, List.setIfInBounds_toArray, List.set_cons_zero, List.set_cons_succ]
    refine wpAnyH_take (i := 9) (oi := ⟨_, _, _, _, _, _⟩) (v := ?_) rfl (by kernel_rfl) (by kernel_rfl) (by kernel_rfl) (fun _ _ _ h => h) (Or.inl ⟨by rfl, ?_⟩) (by assumption) ?_
    rotate_left 1
    · intro W' hSw
      obtain ⟨hS1, hS2⟩ := hSw
      go_simp
      try with_reducible rfl
    try simp only [Act.put, List.setIfInBounds_toArray, List.set_cons_zero, List.set_cons_succ]
    refine wpAnyH_ready (rs := [10]) (by kernel_rfl) (by simp) ?_
    refine AllReadyH.cons (o := ⟨_, _, _, _, _, _⟩) rfl (fun K' hK => ?_) AllReadyH.nil
    go_simp
    refine hK.out _ _ ⟨by rw [blk_put, if_neg m2]; exact hb, by rw [blk_put, if_neg m1]; exact hC⟩ (fun hHeld => ?_)
    clear hK K'
    try simp only [Act.put, List.setIfInBounds_toArray, List.set_cons_zero, List.set_cons_succ]
    refine wpAnyH_done (by kernel_rfl) ?_ _
    go_wp2_with fail
    refine ⟨rfl, rfl, ⟨rfl, rfl, p + 1, setS P1 p an, by omega, by omega, ?_, HQ'⟩, ?_⟩
    · show Value.int .i64 _ = _
      go_num
    · show N - (intOf (Value.int .i64 _)).toNat < N - (intOf (F 4)).toNat
      rw [H4.out]
      simp [intOf]; omega
  clear HSc H4
  have hstop : ¬ ((p : Int) < (N : Int)) ∨ ((p : Int) < (N : Int) ∧ ¬ ((p : Int) < (len : Int))) := by omega
  have HQ3 : Hid (LQ w1 W2 bp bP aP N cP aR M cR S P P1 W) := HQ
  clear HQ
  obtain ⟨hPM3, hKin, hSd3, hext3⟩ := HQ3.out
  have HRB3 : Hid (∀ (k : Nat) (r : GRule), R[k]? = some r → RBody w1 r (ba k) (bn k) (bc k) (Ls k) ∧ RuleWf N P1 r (bn k) (Ls k)) := fun k r h => ⟨(HRB.out k r h).1, (HRB.out k r h).2.kin hKin⟩
  have HA3 : Hid (∀ x ∈ P1, 0 ≤ x.arity ∧ x.arity ≤ 4) := fun y hy => by
    obtain ⟨k, hk, rfl⟩ := List.mem_iff_getElem.1 hy
    obtain ⟨z, hz, e1, _⟩ := hKin.get (List.getElem?_eq_getElem hk)
    rw [← e1]; exact HA4.out z (List.mem_of_getElem? hz)
  have HAR3 : Hid (At GRule.enc 10 W bR 0 aR M R) := HAR2.out.mono (fun h0 => by
    obtain ⟨_, C, h1, _⟩ := HAR2.out.2 h0
    exact hSd3.blk (blk_lt h1) (fun hd => (HAR.out.2 h0).2 hd.1 hd.2))
  have HPM3 : Hid (PM bp bP aP N cP aR M cR S P1 W) := hPM3
  have HEX3 : Hid (w1.Extends W) := hext3
  have HBL : Hid (∀ V, w1.Extends V → ∀ (k : Nat) (r : GRule), R[k]? = some r → ∃ bL oL, Sl.val r.body = .slice (ba k) (bn k) (bc k) ∧ At Literal.enc 10 V bL oL (ba k) (bn k) (Ls k) ∧ RuleWf N P1 r (bn k) (Ls k)) := fun V he k r h => by
    obtain ⟨⟨q1, q2, q3⟩, q4⟩ := HRB3.out k r h
    obtain ⟨bL, oL, q5, _, _⟩ := q3 V he w1.heap.size w1.heap.size (Nat.le_refl _) (Nat.le_refl _)
    exact ⟨bL, oL, q1, q5, q4⟩
  clear hPM3 hKin hSd3 hext3 HQ3 HRB HRB3 HA4 HAP HAR HAR2 HPP HWP
  rcases hstop with hst | ⟨hst0, hst⟩
  · go_wp2_with fail
    refine wp_loop_f 142 (lwB W bp N S P1) (fun f _ => N - (intOf (f 6)).toNat) rfl ?_ ?_
    · exact ⟨rfl, 0, true, by omega, rfl, rfl, ⟨fun _ k x h => absurd h (Nat.not_lt_zero _), fun _ => rfl⟩, Ext.refl _⟩
    clear hb hst
    intro F V hrel
    obtain ⟨f3, p', gd, hp', f6, f5, HGd, HX⟩ := hrel
    have H6 : Hid (F 6 = .int .i64 (p' : Nat)) := f6
    rw [frame142, f3, f5, f6]
    clear f3 f5 f6
    have HPV : Hid (PM bp bP aP N cP aR M cR S P1 V) := HPM3.out.ext HX.out
    have hb := HPV.out.1
    by_cases hpN' : p' < N
    · obtain ⟨x, D, hx, rfl, hD, hDf, hDl, _, _, x2, _⟩ := HPV.out.at hpN'
      have HXx : Hid (P1[p']? = some x) := hx
      obtain ⟨s, hs⟩ : ∃ s, s = x.stratum := ⟨_, rfl⟩
      rw [← hs] at x2
      have HSs : Hid (s = x.stratum) := hs
      have q0 : (0 : Int) ≤ (p' : Int) := by omega
      have q1 : (p' : Int) < (N : Int) := by omega
      have q2 : ((p' : Int)).toNat = p' := by omega
      have l2 : p' * 3 + 2 < D.length := by omega
      clear hx hs
      by_cases s0 : s < 0
      · have HG' : Hid (false = true ↔ GoodP P1 S (p' + 1)) := ⟨fun h => absurd h (by decide), fun h => by have := ((goodP_iff HXx.out).1 h).2.1; rw [← HSs.out] at this; omega⟩
        repeat go_step
        go_quiet (fail)
        go_wp2_with fail
        refine ⟨rfl, rfl, ⟨rfl, p' + 1, false, by omega, ?_, rfl, HG', HX.out.drewN _⟩, ?_⟩
        · show Value.int .i64 _ = _
          go_num
        · show N - (intOf (Value.int .i64 _)).toNat < N - (intOf (F 6)).toNat
          rw [H6.out]
          simp [intOf]; omega
      · by_cases s1 : S ≤ s
        · have HG' : Hid (false = true ↔ GoodP P1 S (p' + 1)) := ⟨fun h => absurd h (by decide), fun h => by have := ((goodP_iff HXx.out).1 h).2.2; rw [← HSs.out] at this; omega⟩
          repeat go_step
          go_quiet (fail)
          go_wp2_with fail
          refine ⟨rfl, rfl, ⟨rfl, p' + 1, false, by omega, ?_, rfl, HG', HX.out.drewN _⟩, ?_⟩
          · show Value.int .i64 _ = _
            go_num
          · show N - (intOf (Value.int .i64 _)).toNat < N - (intOf (F 6)).toNat
            rw [H6.out]
            simp [intOf]; omega
        · have HG' : Hid (gd = true ↔ GoodP P1 S (p' + 1)) := HGd.out.trans ⟨fun h => (goodP_iff HXx.out).2 ⟨h, by rw [← HSs.out]; omega⟩, fun h => ((goodP_iff HXx.out).1 h).1⟩
          repeat go_step
          go_quiet (fail)
          go_wp2_with fail
          refine ⟨rfl, rfl, ⟨rfl, p' + 1, gd, by omega, ?_, rfl, HG', HX.out.drewN _⟩, ?_⟩
          · show Value.int .i64 _ = _
            go_num
          · show N - (intOf (Value.int .i64 _)).toNat < N - (intOf (F 6)).toNat
            rw [H6.out]
            simp [intOf]; omega
    obtain rfl : p' = N := by omega
    have HGP : Hid (gd = true ↔ GoodP P1 S p' ∧ GoodR P1 R Ls 0) := HGd.out.trans ⟨fun h => ⟨h, fun k x hk => absurd hk (Nat.not_lt_zero _)⟩, fun h => h.1⟩
    clear HGd H6
    go_wp2_with fail
    refine wp_loop_f 142 (lwC W bp M (GoodP P1 S p') P1 R Ls) (fun f _ => M - (intOf (f 7)).toNat) rfl ?_ ?_
    · exact ⟨rfl, 0, gd, by omega, rfl, rfl, HGP, HX⟩
    clear HGP HX HPV hb
    intro F V hrel
    obtain ⟨f3, n, gd, hn, f7, f5, HGd, HX⟩ := hrel
    have H7 : Hid (F 7 = .int .i64 (n : Nat)) := f7
    rw [frame142, f3, f5, f7]
    clear f3 f5 f7
    have HPV : Hid (PM bp bP aP p' cP aR M cR S P1 V) := HPM3.out.ext HX.out
    have hb := HPV.out.1
    have HEV : Hid (w1.Extends V) := HEX3.out.trans (ext_Ext HX.out)
    by_cases hnM : n < M
    · obtain ⟨r, hr⟩ : ∃ r, R[n]? = some r := by obtain ⟨r, _, h, _⟩ := HAR3.out.get hnM; exact ⟨r, h⟩
      obtain ⟨bL, oL, hsv, hL, hwf⟩ := HBL.out V HEV.out n r hr
      obtain ⟨nn, hnn⟩ : ∃ nn, nn = bn n := ⟨_, rfl⟩
      obtain ⟨aa, haa⟩ : ∃ aa, aa = ba n := ⟨_, rfl⟩
      obtain ⟨cc, hcc⟩ : ∃ cc, cc = bc n := ⟨_, rfl⟩
      obtain ⟨L, hLL⟩ : ∃ L, L = Ls n := ⟨_, rfl⟩
      rw [← hnn, ← haa, ← hcc] at hsv
      rw [← hnn, ← haa, ← hLL] at hL
      rw [← hnn, ← hLL] at hwf
      obtain ⟨h8, ⟨z0, z1⟩, _, hLp⟩ := hwf
      obtain ⟨h, hh⟩ : ∃ h : Nat, r.head.pred = (h : Int) := ⟨r.head.pred.toNat, by omega⟩
      have hhN : h < p' := by omega
      obtain ⟨CR, rfl, hCR, hCRl, c0, c9⟩ := rule_at (HAR3.out.grow (ext_Ext HX.out)) hnM hr hsv hh
      obtain ⟨y, D, hy, rfl, hD, hDf, hDl, _, _, y2, _⟩ := HPV.out.at hhN
      have HY : Hid (P1[r.head.pred.toNat]? = some y) := by show _ = _; rw [hh]; exact hy
      have HRn : Hid (R[n]? = some r) := hr
      have HLL : Hid (L = Ls n) := hLL
      have HL : Hid (At Literal.enc 10 V bL oL aa nn L) := hL
      have HLp : Hid (∀ l ∈ L, 0 ≤ l.atom.pred ∧ l.atom.pred < (p' : Int)) := hLp
      obtain ⟨hs, hhs⟩ : ∃ hs, hs = y.stratum := ⟨_, rfl⟩
      rw [← hhs] at y2
      have HHS : Hid (hs = y.stratum) := hhs
      have HCR : Hid (blk V bR = some CR) := hCR
      have HD : Hid (blk V bP = some D) := hD
      have HB : Hid (blk V bp = some (prgE (some ⟨bP, 0, none⟩) p' cP (some ⟨bR, 0, none⟩) M cR S)) := hb
      have n0 : (0 : Int) ≤ (n : Int) := by omega
      have n1 : (n : Int) < (M : Int) := by omega
      have n2 : ((n : Int)).toNat = n := by omega
      have t0 : (0 : Int) ≤ (h : Int) := by omega
      have t1 : (h : Int) < (p' : Int) := by omega
      have t2 : ((h : Int)).toNat = h := by omega
      have l3 : h * 3 + 2 < D.length := by omega
      clear hr hsv hL z0 z1 hLp hh hy hhs hnn haa hcc hLL
      have HGL : Hid (gd = true ↔ (GoodP P1 S p' ∧ GoodR P1 R Ls n) ∧ GoodL P1 r L 0) := HGd.out.trans ⟨fun h => ⟨h, fun y hy k l x hk => absurd hk (Nat.not_lt_zero _)⟩, fun h => h.1⟩
      repeat go_step
      go_quiet (fail)
      go_wp2_with fail
      refine wp_loop_f 142 (lwD V bp n nn hs (GoodP P1 S p' ∧ GoodR P1 R Ls n) P1 r L) (fun f _ => nn - (intOf (f 9)).toNat) rfl ?_ ?_
      · exact ⟨rfl, rfl, rfl, 0, gd, by omega, rfl, rfl, HGL, (Ext.refl V).drewN _⟩
      clear HGL HGd hCR hD hb
      intro G U hrel
      obtain ⟨f3, f7, f8, i, gd, hi, f9, f5, HGL, HU⟩ := hrel
      have H9 : Hid (G 9 = .int .i64 (i : Nat)) := f9
      rw [frame142, f3, f5, f7, f8, f9]
      clear f3 f5 f7 f8 f9
      have hb : blk U bp = some (prgE (some ⟨bP, 0, none⟩) p' cP (some ⟨bR, 0, none⟩) M cR S) := (HU.out.blk (blk_lt HB.out)).trans HB.out
      have hCR : blk U bR = some CR := (HU.out.blk (blk_lt HCR.out)).trans HCR.out
      have hD : blk U bP = some D := (HU.out.blk (blk_lt HD.out)).trans HD.out
      by_cases hin : i < nn
      · obtain ⟨l, CL, q, hl, hq, hqN, rfl, hCL, hCLl, d0, d1⟩ := lit_at (HL.out.grow (ext_Ext HU.out)) HLp.out hin
        obtain ⟨x, D', hx, _, hD', _, hDl', _, _, x2, _⟩ := HPV.out.at hqN
        obtain rfl : D' = D := Option.some.inj (hD'.symm.trans HD.out)
        have HXx : Hid (P1[l.atom.pred.toNat]? = some x) := by show _ = _; rw [hq]; exact hx
        have HLi : Hid (L[i]? = some l) := hl
        obtain ⟨s, hss⟩ : ∃ s, s = x.stratum := ⟨_, rfl⟩
        rw [← hss] at x2
        have HSs : Hid (s = x.stratum) := hss
        obtain ⟨ng, hng⟩ : ∃ ng, ng = l.neg := ⟨_, rfl⟩
        rw [← hng] at d0
        have HNG : Hid (ng = l.neg) := hng
        have q0 : (0 : Int) ≤ (q : Int) := by omega
        have q1 : (q : Int) < (p' : Int) := by omega
        have q2 : ((q : Int)).toNat = q := by omega
        have j0 : (0 : Int) ≤ (i : Int) := by omega
        have j1 : (i : Int) < (nn : Int) := by omega
        have j2 : ((i : Int)).toNat = i := by omega
        have l5 : q * 3 + 2 < D'.length := by omega
        clear hl hq hx hss hng hD'
        by_cases c1 : hs < s
        · have HG' : Hid (false = true ↔ (GoodP P1 S p' ∧ GoodR P1 R Ls n) ∧ GoodL P1 r L (i + 1)) := ⟨fun h => absurd h (by decide), fun h => (((goodL_iff HY.out HLi.out HXx.out).1 h.2).2.1 (by rw [← HHS.out, ← HSs.out]; exact c1)).elim⟩
          repeat go_step
          go_quiet (fail)
          go_wp2_with fail
          refine ⟨rfl, rfl, ⟨rfl, rfl, rfl, i + 1, false, by omega, ?_, rfl, HG', HU.out.drewN _⟩, ?_⟩
          · show Value.int .i64 _ = _
            go_num
          · show nn - (intOf (Value.int .i64 _)).toNat < nn - (intOf (G 9)).toNat
            rw [H9.out]
            simp [intOf]; omega
        · cases ng with
          | true =>
            by_cases c2 : hs ≤ s
            · have HG' : Hid (false = true ↔ (GoodP P1 S p' ∧ GoodR P1 R Ls n) ∧ GoodL P1 r L (i + 1)) := ⟨fun h => absurd h (by decide), fun h => (((goodL_iff HY.out HLi.out HXx.out).1 h.2).2.2 ⟨HNG.out.symm, by rw [← HHS.out, ← HSs.out]; exact c2⟩).elim⟩
              repeat go_step
              go_quiet (fail)
              go_wp2_with fail
              refine ⟨rfl, rfl, ⟨rfl, rfl, rfl, i + 1, false, by omega, ?_, rfl, HG', HU.out.drewN _⟩, ?_⟩
              · show Value.int .i64 _ = _
                go_num
              · show nn - (intOf (Value.int .i64 _)).toNat < nn - (intOf (G 9)).toNat
                rw [H9.out]
                simp [intOf]; omega
            · have HG' : Hid (gd = true ↔ (GoodP P1 S p' ∧ GoodR P1 R Ls n) ∧ GoodL P1 r L (i + 1)) := HGL.out.trans ⟨fun h => ⟨h.1, (goodL_iff HY.out HLi.out HXx.out).2 ⟨h.2, by rw [← HHS.out, ← HSs.out]; exact c1, fun e => c2 (by rw [HHS.out, HSs.out]; exact e.2)⟩⟩, fun h => ⟨h.1, ((goodL_iff HY.out HLi.out HXx.out).1 h.2).1⟩⟩
              repeat go_step
              go_quiet (fail)
              go_wp2_with fail
              refine ⟨rfl, rfl, ⟨rfl, rfl, rfl, i + 1, gd, by omega, ?_, rfl, HG', HU.out.drewN _⟩, ?_⟩
              · show Value.int .i64 _ = _
                go_num
              · show nn - (intOf (Value.int .i64 _)).toNat < nn - (intOf (G 9)).toNat
                rw [H9.out]
                simp [intOf]; omega
          | false =>
            have HG' : Hid (gd = true ↔ (GoodP P1 S p' ∧ GoodR P1 R Ls n) ∧ GoodL P1 r L (i + 1)) := HGL.out.trans ⟨fun h => ⟨h.1, (goodL_iff HY.out HLi.out HXx.out).2 ⟨h.2, by rw [← HHS.out, ← HSs.out]; exact c1, fun e => by rw [← HNG.out] at e; exact absurd e.1 (by decide)⟩⟩, fun h => ⟨h.1, ((goodL_iff HY.out HLi.out HXx.out).1 h.2).1⟩⟩
            repeat go_step
            go_quiet (fail)
            go_wp2_with fail
            refine ⟨rfl, rfl, ⟨rfl, rfl, rfl, i + 1, gd, by omega, ?_, rfl, HG', HU.out.drewN _⟩, ?_⟩
            · show Value.int .i64 _ = _
              go_num
            · show nn - (intOf (Value.int .i64 _)).toNat < nn - (intOf (G 9)).toNat
              rw [H9.out]
              simp [intOf]; omega
      · obtain rfl : i = nn := by omega
        have HG' : Hid (gd = true ↔ GoodP P1 S p' ∧ GoodR P1 R Ls (n + 1)) := HGL.out.trans ⟨fun h => ⟨h.1.1, (goodR_iff HRn.out).2 ⟨h.1.2, by rw [← HLL.out, HL.out.1]; exact h.2⟩⟩, fun h => ⟨⟨h.1, ((goodR_iff HRn.out).1 h.2).1⟩, by have := ((goodR_iff HRn.out).1 h.2).2; rw [← HLL.out, HL.out.1] at this; exact this⟩⟩
        go_wp2_with fail
        refine ⟨rfl, rfl, ⟨rfl, n + 1, gd, by omega, ?_, rfl, HG', HX.out.trans HU.out⟩, ?_⟩
        · show Value.int .i64 _ = _
          go_num
        · show M - (intOf (Value.int .i64 _)).toNat < M - (intOf (F 7)).toNat
          rw [H7.out]
          simp [intOf]; omega
    obtain rfl : n = M := by omega
    have HCo : Hid (Comps bP bR aP p' aR n P1 R ba bn bc Ls V) := ⟨HPV.out.2.2.1, HAR3.out.grow (ext_Ext HX.out), HBL.out V HEV.out⟩
    have HGf : Hid (gd = true ↔ Good P1 R Ls S) := by
      have h1 : P1.length = p' := HPV.out.2.2.1.1
      have h2 : R.length = n := HAR3.out.1
      show _ ↔ _
      unfold Good
      rw [h1, h2]
      exact HGd.out
    clear HGd H7
    go_wp2_with fail
    refine (new_any V bP bR aP p' cP aR n cR S P1 R ba bn bc Ls HCo.out hN hM hS1 hS2 HA3.out).mono ?_
    rintro e V2 ⟨v, c, rfl, hc0, hc11, hx2⟩
    have HEnd : Hid (w1.Extends V2) := HEV.out.trans hx2
    dsimp only
    cases gd with
    | true =>
      obtain rfl := hc0 (HGf.out.1 rfl)
      clear hc0 hc11 hx2
      go_wp2_with fail
      go_ret
      exact ⟨rfl, HEnd.out⟩
    | false =>
      obtain rfl := hc11 (fun h => absurd (HGf.out.2 h) (by decide))
      clear hc0 hc11 hx2
      go_wp2_with fail
      go_ret
      exact ⟨rfl, HEnd.out⟩
  · go_wp2_with fail
    refine wp_loop_f 142 (lwB W bp N S P1) (fun f _ => N - (intOf (f 6)).toNat) rfl ?_ ?_
    · exact ⟨rfl, 0, true, by omega, rfl, rfl, ⟨fun _ k x h => absurd h (Nat.not_lt_zero _), fun _ => rfl⟩, Ext.refl _⟩
    clear hb hst
    intro F V hrel
    obtain ⟨f3, p', gd, hp', f6, f5, HGd, HX⟩ := hrel
    have H6 : Hid (F 6 = .int .i64 (p' : Nat)) := f6
    rw [frame142, f3, f5, f6]
    clear f3 f5 f6
    have HPV : Hid (PM bp bP aP N cP aR M cR S P1 V) := HPM3.out.ext HX.out
    have hb := HPV.out.1
    by_cases hpN' : p' < N
    · obtain ⟨x, D, hx, rfl, hD, hDf, hDl, _, _, x2, _⟩ := HPV.out.at hpN'
      have HXx : Hid (P1[p']? = some x) := hx
      obtain ⟨s, hs⟩ : ∃ s, s = x.stratum := ⟨_, rfl⟩
      rw [← hs] at x2
      have HSs : Hid (s = x.stratum) := hs
      have q0 : (0 : Int) ≤ (p' : Int) := by omega
      have q1 : (p' : Int) < (N : Int) := by omega
      have q2 : ((p' : Int)).toNat = p' := by omega
      have l2 : p' * 3 + 2 < D.length := by omega
      clear hx hs
      by_cases s0 : s < 0
      · have HG' : Hid (false = true ↔ GoodP P1 S (p' + 1)) := ⟨fun h => absurd h (by decide), fun h => by have := ((goodP_iff HXx.out).1 h).2.1; rw [← HSs.out] at this; omega⟩
        repeat go_step
        go_quiet (fail)
        go_wp2_with fail
        refine ⟨rfl, rfl, ⟨rfl, p' + 1, false, by omega, ?_, rfl, HG', HX.out.drewN _⟩, ?_⟩
        · show Value.int .i64 _ = _
          go_num
        · show N - (intOf (Value.int .i64 _)).toNat < N - (intOf (F 6)).toNat
          rw [H6.out]
          simp [intOf]; omega
      · by_cases s1 : S ≤ s
        · have HG' : Hid (false = true ↔ GoodP P1 S (p' + 1)) := ⟨fun h => absurd h (by decide), fun h => by have := ((goodP_iff HXx.out).1 h).2.2; rw [← HSs.out] at this; omega⟩
          repeat go_step
          go_quiet (fail)
          go_wp2_with fail
          refine ⟨rfl, rfl, ⟨rfl, p' + 1, false, by omega, ?_, rfl, HG', HX.out.drewN _⟩, ?_⟩
          · show Value.int .i64 _ = _
            go_num
          · show N - (intOf (Value.int .i64 _)).toNat < N - (intOf (F 6)).toNat
            rw [H6.out]
            simp [intOf]; omega
        · have HG' : Hid (gd = true ↔ GoodP P1 S (p' + 1)) := HGd.out.trans ⟨fun h => (goodP_iff HXx.out).2 ⟨h, by rw [← HSs.out]; omega⟩, fun h => ((goodP_iff HXx.out).1 h).1⟩
          repeat go_step
          go_quiet (fail)
          go_wp2_with fail
          refine ⟨rfl, rfl, ⟨rfl, p' + 1, gd, by omega, ?_, rfl, HG', HX.out.drewN _⟩, ?_⟩
          · show Value.int .i64 _ = _
            go_num
          · show N - (intOf (Value.int .i64 _)).toNat < N - (intOf (F 6)).toNat
            rw [H6.out]
            simp [intOf]; omega
    obtain rfl : p' = N := by omega
    have HGP : Hid (gd = true ↔ GoodP P1 S p' ∧ GoodR P1 R Ls 0) := HGd.out.trans ⟨fun h => ⟨h, fun k x hk => absurd hk (Nat.not_lt_zero _)⟩, fun h => h.1⟩
    clear HGd H6
    go_wp2_with fail
    refine wp_loop_f 142 (lwC W bp M (GoodP P1 S p') P1 R Ls) (fun f _ => M - (intOf (f 7)).toNat) rfl ?_ ?_
    · exact ⟨rfl, 0, gd, by omega, rfl, rfl, HGP, HX⟩
    clear HGP HX HPV hb
    intro F V hrel
    obtain ⟨f3, n, gd, hn, f7, f5, HGd, HX⟩ := hrel
    have H7 : Hid (F 7 = .int .i64 (n : Nat)) := f7
    rw [frame142, f3, f5, f7]
    clear f3 f5 f7
    have HPV : Hid (PM bp bP aP p' cP aR M cR S P1 V) := HPM3.out.ext HX.out
    have hb := HPV.out.1
    have HEV : Hid (w1.Extends V) := HEX3.out.trans (ext_Ext HX.out)
    by_cases hnM : n < M
    · obtain ⟨r, hr⟩ : ∃ r, R[n]? = some r := by obtain ⟨r, _, h, _⟩ := HAR3.out.get hnM; exact ⟨r, h⟩
      obtain ⟨bL, oL, hsv, hL, hwf⟩ := HBL.out V HEV.out n r hr
      obtain ⟨nn, hnn⟩ : ∃ nn, nn = bn n := ⟨_, rfl⟩
      obtain ⟨aa, haa⟩ : ∃ aa, aa = ba n := ⟨_, rfl⟩
      obtain ⟨cc, hcc⟩ : ∃ cc, cc = bc n := ⟨_, rfl⟩
      obtain ⟨L, hLL⟩ : ∃ L, L = Ls n := ⟨_, rfl⟩
      rw [← hnn, ← haa, ← hcc] at hsv
      rw [← hnn, ← haa, ← hLL] at hL
      rw [← hnn, ← hLL] at hwf
      obtain ⟨h8, ⟨z0, z1⟩, _, hLp⟩ := hwf
      obtain ⟨h, hh⟩ : ∃ h : Nat, r.head.pred = (h : Int) := ⟨r.head.pred.toNat, by omega⟩
      have hhN : h < p' := by omega
      obtain ⟨CR, rfl, hCR, hCRl, c0, c9⟩ := rule_at (HAR3.out.grow (ext_Ext HX.out)) hnM hr hsv hh
      obtain ⟨y, D, hy, rfl, hD, hDf, hDl, _, _, y2, _⟩ := HPV.out.at hhN
      have HY : Hid (P1[r.head.pred.toNat]? = some y) := by show _ = _; rw [hh]; exact hy
      have HRn : Hid (R[n]? = some r) := hr
      have HLL : Hid (L = Ls n) := hLL
      have HL : Hid (At Literal.enc 10 V bL oL aa nn L) := hL
      have HLp : Hid (∀ l ∈ L, 0 ≤ l.atom.pred ∧ l.atom.pred < (p' : Int)) := hLp
      obtain ⟨hs, hhs⟩ : ∃ hs, hs = y.stratum := ⟨_, rfl⟩
      rw [← hhs] at y2
      have HHS : Hid (hs = y.stratum) := hhs
      have HCR : Hid (blk V bR = some CR) := hCR
      have HD : Hid (blk V bP = some D) := hD
      have HB : Hid (blk V bp = some (prgE (some ⟨bP, 0, none⟩) p' cP (some ⟨bR, 0, none⟩) M cR S)) := hb
      have n0 : (0 : Int) ≤ (n : Int) := by omega
      have n1 : (n : Int) < (M : Int) := by omega
      have n2 : ((n : Int)).toNat = n := by omega
      have t0 : (0 : Int) ≤ (h : Int) := by omega
      have t1 : (h : Int) < (p' : Int) := by omega
      have t2 : ((h : Int)).toNat = h := by omega
      have l3 : h * 3 + 2 < D.length := by omega
      clear hr hsv hL z0 z1 hLp hh hy hhs hnn haa hcc hLL
      have HGL : Hid (gd = true ↔ (GoodP P1 S p' ∧ GoodR P1 R Ls n) ∧ GoodL P1 r L 0) := HGd.out.trans ⟨fun h => ⟨h, fun y hy k l x hk => absurd hk (Nat.not_lt_zero _)⟩, fun h => h.1⟩
      repeat go_step
      go_quiet (fail)
      go_wp2_with fail
      refine wp_loop_f 142 (lwD V bp n nn hs (GoodP P1 S p' ∧ GoodR P1 R Ls n) P1 r L) (fun f _ => nn - (intOf (f 9)).toNat) rfl ?_ ?_
      · exact ⟨rfl, rfl, rfl, 0, gd, by omega, rfl, rfl, HGL, (Ext.refl V).drewN _⟩
      clear HGL HGd hCR hD hb
      intro G U hrel
      obtain ⟨f3, f7, f8, i, gd, hi, f9, f5, HGL, HU⟩ := hrel
      have H9 : Hid (G 9 = .int .i64 (i : Nat)) := f9
      rw [frame142, f3, f5, f7, f8, f9]
      clear f3 f5 f7 f8 f9
      have hb : blk U bp = some (prgE (some ⟨bP, 0, none⟩) p' cP (some ⟨bR, 0, none⟩) M cR S) := (HU.out.blk (blk_lt HB.out)).trans HB.out
      have hCR : blk U bR = some CR := (HU.out.blk (blk_lt HCR.out)).trans HCR.out
      have hD : blk U bP = some D := (HU.out.blk (blk_lt HD.out)).trans HD.out
      by_cases hin : i < nn
      · obtain ⟨l, CL, q, hl, hq, hqN, rfl, hCL, hCLl, d0, d1⟩ := lit_at (HL.out.grow (ext_Ext HU.out)) HLp.out hin
        obtain ⟨x, D', hx, _, hD', _, hDl', _, _, x2, _⟩ := HPV.out.at hqN
        obtain rfl : D' = D := Option.some.inj (hD'.symm.trans HD.out)
        have HXx : Hid (P1[l.atom.pred.toNat]? = some x) := by show _ = _; rw [hq]; exact hx
        have HLi : Hid (L[i]? = some l) := hl
        obtain ⟨s, hss⟩ : ∃ s, s = x.stratum := ⟨_, rfl⟩
        rw [← hss] at x2
        have HSs : Hid (s = x.stratum) := hss
        obtain ⟨ng, hng⟩ : ∃ ng, ng = l.neg := ⟨_, rfl⟩
        rw [← hng] at d0
        have HNG : Hid (ng = l.neg) := hng
        have q0 : (0 : Int) ≤ (q : Int) := by omega
        have q1 : (q : Int) < (p' : Int) := by omega
        have q2 : ((q : Int)).toNat = q := by omega
        have j0 : (0 : Int) ≤ (i : Int) := by omega
        have j1 : (i : Int) < (nn : Int) := by omega
        have j2 : ((i : Int)).toNat = i := by omega
        have l5 : q * 3 + 2 < D'.length := by omega
        clear hl hq hx hss hng hD'
        by_cases c1 : hs < s
        · have HG' : Hid (false = true ↔ (GoodP P1 S p' ∧ GoodR P1 R Ls n) ∧ GoodL P1 r L (i + 1)) := ⟨fun h => absurd h (by decide), fun h => (((goodL_iff HY.out HLi.out HXx.out).1 h.2).2.1 (by rw [← HHS.out, ← HSs.out]; exact c1)).elim⟩
          repeat go_step
          go_quiet (fail)
          go_wp2_with fail
          refine ⟨rfl, rfl, ⟨rfl, rfl, rfl, i + 1, false, by omega, ?_, rfl, HG', HU.out.drewN _⟩, ?_⟩
          · show Value.int .i64 _ = _
            go_num
          · show nn - (intOf (Value.int .i64 _)).toNat < nn - (intOf (G 9)).toNat
            rw [H9.out]
            simp [intOf]; omega
        · cases ng with
          | true =>
            by_cases c2 : hs ≤ s
            · have HG' : Hid (false = true ↔ (GoodP P1 S p' ∧ GoodR P1 R Ls n) ∧ GoodL P1 r L (i + 1)) := ⟨fun h => absurd h (by decide), fun h => (((goodL_iff HY.out HLi.out HXx.out).1 h.2).2.2 ⟨HNG.out.symm, by rw [← HHS.out, ← HSs.out]; exact c2⟩).elim⟩
              repeat go_step
              go_quiet (fail)
              go_wp2_with fail
              refine ⟨rfl, rfl, ⟨rfl, rfl, rfl, i + 1, false, by omega, ?_, rfl, HG', HU.out.drewN _⟩, ?_⟩
              · show Value.int .i64 _ = _
                go_num
              · show nn - (intOf (Value.int .i64 _)).toNat < nn - (intOf (G 9)).toNat
                rw [H9.out]
                simp [intOf]; omega
            · have HG' : Hid (gd = true ↔ (GoodP P1 S p' ∧ GoodR P1 R Ls n) ∧ GoodL P1 r L (i + 1)) := HGL.out.trans ⟨fun h => ⟨h.1, (goodL_iff HY.out HLi.out HXx.out).2 ⟨h.2, by rw [← HHS.out, ← HSs.out]; exact c1, fun e => c2 (by rw [HHS.out, HSs.out]; exact e.2)⟩⟩, fun h => ⟨h.1, ((goodL_iff HY.out HLi.out HXx.out).1 h.2).1⟩⟩
              repeat go_step
              go_quiet (fail)
              go_wp2_with fail
              refine ⟨rfl, rfl, ⟨rfl, rfl, rfl, i + 1, gd, by omega, ?_, rfl, HG', HU.out.drewN _⟩, ?_⟩
              · show Value.int .i64 _ = _
                go_num
              · show nn - (intOf (Value.int .i64 _)).toNat < nn - (intOf (G 9)).toNat
                rw [H9.out]
                simp [intOf]; omega
          | false =>
            have HG' : Hid (gd = true ↔ (GoodP P1 S p' ∧ GoodR P1 R Ls n) ∧ GoodL P1 r L (i + 1)) := HGL.out.trans ⟨fun h => ⟨h.1, (goodL_iff HY.out HLi.out HXx.out).2 ⟨h.2, by rw [← HHS.out, ← HSs.out]; exact c1, fun e => by rw [← HNG.out] at e; exact absurd e.1 (by decide)⟩⟩, fun h => ⟨h.1, ((goodL_iff HY.out HLi.out HXx.out).1 h.2).1⟩⟩
            repeat go_step
            go_quiet (fail)
            go_wp2_with fail
            refine ⟨rfl, rfl, ⟨rfl, rfl, rfl, i + 1, gd, by omega, ?_, rfl, HG', HU.out.drewN _⟩, ?_⟩
            · show Value.int .i64 _ = _
              go_num
            · show nn - (intOf (Value.int .i64 _)).toNat < nn - (intOf (G 9)).toNat
              rw [H9.out]
              simp [intOf]; omega
      · obtain rfl : i = nn := by omega
        have HG' : Hid (gd = true ↔ GoodP P1 S p' ∧ GoodR P1 R Ls (n + 1)) := HGL.out.trans ⟨fun h => ⟨h.1.1, (goodR_iff HRn.out).2 ⟨h.1.2, by rw [← HLL.out, HL.out.1]; exact h.2⟩⟩, fun h => ⟨⟨h.1, ((goodR_iff HRn.out).1 h.2).1⟩, by have := ((goodR_iff HRn.out).1 h.2).2; rw [← HLL.out, HL.out.1] at this; exact this⟩⟩
        go_wp2_with fail
        refine ⟨rfl, rfl, ⟨rfl, n + 1, gd, by omega, ?_, rfl, HG', HX.out.trans HU.out⟩, ?_⟩
        · show Value.int .i64 _ = _
          go_num
        · show M - (intOf (Value.int .i64 _)).toNat < M - (intOf (F 7)).toNat
          rw [H7.out]
          simp [intOf]; omega
    obtain rfl : n = M := by omega
    have HCo : Hid (Comps bP bR aP p' aR n P1 R ba bn bc Ls V) := ⟨HPV.out.2.2.1, HAR3.out.grow (ext_Ext HX.out), HBL.out V HEV.out⟩
    have HGf : Hid (gd = true ↔ Good P1 R Ls S) := by
      have h1 : P1.length = p' := HPV.out.2.2.1.1
      have h2 : R.length = n := HAR3.out.1
      show _ ↔ _
      unfold Good
      rw [h1, h2]
      exact HGd.out
    clear HGd H7
    go_wp2_with fail
    refine (new_any V bP bR aP p' cP aR n cR S P1 R ba bn bc Ls HCo.out hN hM hS1 hS2 HA3.out).mono ?_
    rintro e V2 ⟨v, c, rfl, hc0, hc11, hx2⟩
    have HEnd : Hid (w1.Extends V2) := HEV.out.trans hx2
    dsimp only
    cases gd with
    | true =>
      obtain rfl := hc0 (HGf.out.1 rfl)
      clear hc0 hc11 hx2
      go_wp2_with fail
      go_ret
      exact ⟨rfl, HEnd.out⟩
    | false =>
      obtain rfl := hc11 (fun h => absurd (HGf.out.2 h) (by decide))
      clear hc0 hc11 hx2
      go_wp2_with fail
      go_ret
      exact ⟨rfl, HEnd.out⟩
end Go.Proofs.Qxb6500788a
