import Derived.Test.Qxb6500788aJg
import Derived.StillTailTactics
import Derived.Deep.QuietTactic
import Derived.BigQuiet
import Derived.Deep.RegionHeld
import Derived.Deep.CutRange
import Derived.Laws.ResultCell
import Derived.Laws.Rows
import Derived.DeepKeys
import Derived.DataBytes
import Derived.Laws.StructEq
import Derived.Laws.AppendOwn
import Derived.Laws.MakeOwn
set_option linter.unusedSimpArgs false
set_option linter.unusedVariables false
namespace Go.Proofs.Qxb6500788a
open Go.RowKit Go.Blk
attribute [local go_sem ↓] execOp_load execOp_store execOp_alloc
attribute [local go_sem] Try.ld24 Try.st24 Try.ld25 Try.st25 Try.ld3 Try.st3 Try.ld30 Try.st30 Try.ld36 Try.st36 Try.ld4 Try.st4 Try.ld41 Try.st41 Try.ld50 Try.st50 Try.ld40 Try.st40 Try.ld42 Try.st42 Try.ld89 Try.st89 Try.ld91 Try.st91 Try.ld56 Try.st56 Try.ld97 Try.st97 Try.ld98 Try.st98 Try.ld101 Try.st101 Try.ld104 Try.st104 Try.ld57 Try.st57 Try.ld130 Try.st130 Try.ld2 Try.st2 Try.ld5 Try.st5 Try.ld9 Try.st9 Try.ld12 Try.st12 Try.ld21 Try.st21 Try.ld22 Try.st22 Try.ld29 Try.st29 Try.ld33 Try.st33 Try.ld59 Try.st59 Try.ld62 Try.st62 Try.ld69 Try.st69 Try.ld94 Try.st94 Try.ld96 Try.st96 Try.ld129 Try.st129 Try.ld158 Try.st158 Try.ld162 Try.st162 Try.ld47 Try.st47 Try.ld44 Try.st44 Try.ld137 Try.st137 Try.ld145 Try.st145 Try.ld43 Try.st43 Try.ld27 Try.st27 Try.ld38 Try.st38 Try.ld46 Try.st46 Try.ld49 Try.st49 Try.ld52 Try.st52 Try.ld54 Try.st54 Try.ld61 Try.st61 Try.ld80 Try.st80 Try.ld87 Try.st87 Try.ld93 Try.st93 Try.ld100 Try.st100 Try.ld103 Try.st103 Try.ld106 Try.st106 Try.ld109 Try.st109 Try.ld132 Try.st132 Try.ld147 Try.st147 Try.al47 Try.al44 Try.al137 Try.al145 Try.al43 Try.al27 Try.al38 Try.al46 Try.al49 Try.al52 Try.al54 Try.al61 Try.al80 Try.al87 Try.al93 Try.al100 Try.al103 Try.al106 Try.al109 Try.al132 Try.al147
attribute [local go_sem] GProgram.length_enc GProgram.ok_enc GProgram.all_get GProgram.all_set GProgram.preds_get GProgram.preds_set GProgram.rules_get GProgram.rules_set GProgram.strata_get GProgram.strata_set Answer.length_enc Answer.ok_enc Answer.all_get Answer.all_set Answer.code_get Answer.code_set Answer.n_get Answer.n_set Answer.rows_get Answer.rows_set Term.length_enc Term.ok_enc Term.all_get Term.all_set Term.var_get Term.var_set Term.n_get Term.n_set Atom.length_enc Atom.ok_enc Atom.all_get Atom.all_set Atom.pred_get Atom.pred_set Atom.args_get Atom.args_set GRule.length_enc GRule.ok_enc GRule.all_get GRule.all_set GRule.head_get GRule.head_set GRule.body_get GRule.body_set GRule.head_pred_get GRule.head_pred_set GRule.head_args_get GRule.head_args_set GOp.length_enc GOp.ok_enc GOp.all_get GOp.all_set GOp.kind_get GOp.kind_set GOp.pred_get GOp.pred_set GOp.t_get GOp.t_set GOp.n_get GOp.n_set GOp.base_get GOp.base_set GOp.rule_get GOp.rule_set GOp.rule_head_get GOp.rule_head_set GOp.rule_body_get GOp.rule_body_set GOp.rule_head_pred_get GOp.rule_head_pred_set GOp.rule_head_args_get GOp.rule_head_args_set PredInfo.length_enc PredInfo.ok_enc PredInfo.all_get PredInfo.all_set PredInfo.arity_get PredInfo.arity_set PredInfo.base_get PredInfo.base_set PredInfo.stratum_get PredInfo.stratum_set GStats.length_enc GStats.ok_enc GStats.all_get GStats.all_set GStats.rounds_get GStats.rounds_set GStats.fired_get GStats.fired_set GStats.emitted_get GStats.emitted_set GStats.fresh_get GStats.fresh_set Literal.length_enc Literal.ok_enc Literal.all_get Literal.all_set Literal.neg_get Literal.neg_set Literal.atom_get Literal.atom_set Literal.atom_pred_get Literal.atom_pred_set Literal.atom_args_get Literal.atom_args_set Engine.length_enc Engine.ok_enc Engine.all_get Engine.all_set Engine.prog_get Engine.prog_set Engine.st_get Engine.st_set Engine.levels_get Engine.levels_set Engine.running_get Engine.running_set Engine.stratum_get Engine.stratum_set Engine.round_get Engine.round_set Engine.saved_get Engine.saved_set Engine.stats_get Engine.stats_set Engine.prog_preds_get Engine.prog_preds_set Engine.prog_rules_get Engine.prog_rules_set Engine.prog_strata_get Engine.prog_strata_set Engine.stats_rounds_get Engine.stats_rounds_set Engine.stats_fired_get Engine.stats_fired_set Engine.stats_emitted_get Engine.stats_emitted_set Engine.stats_fresh_get Engine.stats_fresh_set Level.length_enc Level.ok_enc Level.all_get Level.all_set Level.heads_get Level.heads_set Level.jobs_get Level.jobs_set Plan.length_enc Plan.ok_enc Plan.all_get Plan.all_set Plan.rule_get Plan.rule_set Plan.delta_get Plan.delta_set Plan.src_get Plan.src_set Job.length_enc Job.ok_enc Job.all_get Job.all_set Job.full_get Job.full_set Job.deltas_get Job.deltas_set Job.full_rule_get Job.full_rule_set Job.full_delta_get Job.full_delta_set Job.full_src_get Job.full_src_set GState.length_enc GState.ok_enc GState.all_get GState.all_set GState.prog_get GState.prog_set GState.base_get GState.base_set GState.shown_get GState.shown_set GState.prog_preds_get GState.prog_preds_set GState.prog_rules_get GState.prog_rules_set GState.prog_strata_get GState.prog_strata_set Store.length_enc Store.ok_enc Store.all_get Store.all_set Store.arity_get Store.arity_set Store.rows_get Store.rows_set Env.length_enc Env.ok_enc Env.all_get Env.all_set Env.val_get Env.val_set Env.set_get Env.set_set
attribute [local go_sem] size_put size_ext blk_put free_put blk_alloc free_alloc blk_drew free_drew blk_ext free_ext lookOr_some putOr_some segAt_some cellAt_some storeIn_some put_put put_alloc_new length_arr ok_arr_u8 ok_arr_u32 ok_arr_u64 ok_arr_i64 ok_arr_sl cellsV_agg cellsV_int cellsV_bool cellsV_string cellsV_pointer cellsV_slice cellsV_sl ok_int ok_bool ok_string ok_pointer ok_slice ok_sl toList_arr seg_arr set_arr nth_splice nth_splice0 seg_splice seg_splice0 splice_splice splice_splice0 length_splice_if
attribute [local go_sem ↓] execOp_box
attribute [local go_sem] box_run nth_arr_u8 put_arr_u8 blk_drewN free_drewN put_drewN blk_raw free_raw
theorem pgb_rule {W : World} {bp : Nat} {p : Pg} (h : PgX W bp p) {k : Nat} {r : GRule} (hr : p.R[k]? = some r) : ∃ (cR : Nat) (Cb CR : List Value) (bR : Nat), blk W bp = some Cb ∧ 3 ≤ Cb.length ∧ nth Cb 1 = some (.slice (some ⟨bR, 0, none⟩) p.R.length cR) ∧ k < p.R.length ∧ blk W bR = some CR ∧ k * 10 + 10 ≤ CR.length ∧ seg CR (k * 10) 10 = r.enc := by
  obtain ⟨aP, cP, aR, cR, Cb, h1, hl, n0, n1, n2, h2⟩ := h
  obtain ⟨_, _, _, _, ⟨bR, h5⟩, _⟩ := h2
  have hk := (List.getElem?_eq_some_iff.1 hr).1
  obtain ⟨r', CR, g1, g2, g3, g4, g5⟩ := h5.get hk
  obtain rfl : r' = r := Option.some.inj (g1.symm.trans hr)
  have := Nat.mul_le_mul_right 10 (show k + 1 ≤ p.R.length from hk)
  have g2' : aR = some ⟨bR, 0, none⟩ := g2
  subst g2'
  rw [Nat.zero_add] at g4 g5
  exact ⟨cR, _, CR, bR, h1, hl, n1, hk, g3, by omega, g5⟩
theorem ex_bool (P : Prop) : ∃ b : Bool, (b = true ↔ P) := by
  by_cases h : P
  · exact ⟨true, by simp [h]⟩
  · exact ⟨false, by simp [h]⟩
def k1I (p : Pg) (k : Nat) (V1 : World) (bp b9 : Nat) (da : Option Addr) (D dc : Nat) (ra : Option Addr) (rc : Nat) (f : Nat → Value) (V : World) : Prop := f 0 = .pointer (some ⟨bp, 0, none⟩) ∧ f 2 = .slice da D dc ∧ f 3 = .slice ra p.P.length rc ∧ f 9 = .pointer (some ⟨b9, 0, none⟩) ∧ ∃ (i : Nat) (a2 : Option Addr) (n2 c2 : Nat) (L2 : List Int), i ≤ (p.L k).length ∧ f 10 = .slice a2 n2 c2 ∧ f 11 = .int .i64 (i : Nat) ∧ Hid (∃ O', IRow V1.heap.size O' 3 V a2 n2 c2 L2 ∧ Fr isI (fun _ => .no) V1 O' V ∧ VarsUp p k i L2)
def k2I (p : Pg) (k : Nat) (W2 : World) (bp b9 bd : Nat) (da : Option Addr) (D dc : Nat) (ra : Option Addr) (rc : Nat) (va : Option Addr) (vc : Nat) (vars dom : List Int) (T : Nat → List Tup) (m : Nat) (f : Nat → Value) (V : World) : Prop := f 0 = .pointer (some ⟨bp, 0, none⟩) ∧ f 2 = .slice da D dc ∧ f 3 = .slice ra p.P.length rc ∧ f 9 = .pointer (some ⟨b9, 0, none⟩) ∧ f 10 = .slice va vars.length vc ∧ f 13 = .slice (some ⟨bd, 0, none⟩) vars.length vars.length ∧ ∃ (oa : Option Addr) (on oc : Nat) (out : List Tup) (ds : List Nat), f 12 = .slice oa on oc ∧ Hid (CT W2 bd oa on oc out V ∧ blk V bd = some (dgE ds)) ∧ Hid (Dig dom.length vars.length ds ∧ m = dom.length ^ vars.length - rk dom.length ds ∧ Cov p k vars dom T out (rk dom.length ds))
def k3I (p : Pg) (k : Nat) (W2 : World) (bp b9 bd : Nat) (da : Option Addr) (D dc : Nat) (ra : Option Addr) (rc : Nat) (va : Option Addr) (vc : Nat) (vars dom : List Int) (T : Nat → List Tup) (V3 : World) (b14 : Nat) (oa : Option Addr) (on oc : Nat) (ds : List Nat) (f : Nat → Value) (V : World) : Prop := f 0 = .pointer (some ⟨bp, 0, none⟩) ∧ f 2 = .slice da D dc ∧ f 3 = .slice ra p.P.length rc ∧ f 9 = .pointer (some ⟨b9, 0, none⟩) ∧ f 10 = .slice va vars.length vc ∧ f 13 = .slice (some ⟨bd, 0, none⟩) vars.length vars.length ∧ f 12 = .slice oa on oc ∧ f 14 = .pointer (some ⟨b14, 0, none⟩) ∧ ∃ i : Nat, i ≤ vars.length ∧ f 15 = .int .i64 (i : Nat) ∧ Hid (V3.Extends V ∧ blk V b14 = some (arr i64v (valV vars dom ds i)) ∧ free V b14 = true)
def k4I (p : Pg) (k : Nat) (W2 : World) (bp b9 bd : Nat) (da : Option Addr) (D dc : Nat) (ra : Option Addr) (rc : Nat) (va : Option Addr) (vc : Nat) (vars dom : List Int) (T : Nat → List Tup) (oa : Option Addr) (on oc : Nat) (out : List Tup) (ds : List Nat) (f : Nat → Value) (V : World) : Prop := f 0 = .pointer (some ⟨bp, 0, none⟩) ∧ f 2 = .slice da D dc ∧ f 3 = .slice ra p.P.length rc ∧ f 9 = .pointer (some ⟨b9, 0, none⟩) ∧ f 10 = .slice va vars.length vc ∧ f 13 = .slice (some ⟨bd, 0, none⟩) vars.length vars.length ∧ f 12 = .slice oa on oc ∧ ∃ i : Nat, i ≤ vars.length ∧ f 16 = .int .i64 (i : Nat) ∧ Hid (CT W2 bd oa on oc out V ∧ blk V bd = some (dgE (carD ds i)) ∧ ∀ j, j < i → ds[j]? = some (dom.length - 1))
def ConsPost (W : World) (p : Pg) (k : Nat) (T : Nat → List Tup) (e : Ending) (V : World) : Prop := ∃ oa on oc out, e = .returned (.slice oa on oc) ∧ Outs W V oa on oc out ∧ OutOk out ∧ ∀ t, t ∈ out ↔ Con p k (relF T) t
attribute [local go_sem ↓] execOp_bslice execOp_make
attribute [local go_sem] bslice36 make130
set_option maxRecDepth 100000 in
theorem frame126c (f : Nat → Value) : frameN 126 f = #[f 0, f 1, f 2, f 3, f 4, f 5, f 6, f 7, f 8, f 9, f 10, f 11, f 12, f 13, f 14, f 15, f 16, f 17, f 18, f 19, f 20, f 21, f 22, f 23, f 24, f 25, f 26, f 27, f 28, f 29, f 30, f 31, f 32, f 33, f 34, f 35, f 36, f 37, f 38, f 39, f 40, f 41, f 42, f 43, f 44, f 45, f 46, f 47, f 48, f 49, f 50, f 51, f 52, f 53, f 54, f 55, f 56, f 57, f 58, f 59, f 60, f 61, f 62, f 63, f 64, f 65, f 66, f 67, f 68, f 69, f 70, f 71, f 72, f 73, f 74, f 75, f 76, f 77, f 78, f 79, f 80, f 81, f 82, f 83, f 84, f 85, f 86, f 87, f 88, f 89, f 90, f 91, f 92, f 93, f 94, f 95, f 96, f 97, f 98, f 99, f 100, f 101, f 102, f 103, f 104, f 105, f 106, f 107, f 108, f 109, f 110, f 111, f 112, f 113, f 114, f 115, f 116, f 117, f 118, f 119, f 120, f 121, f 122, f 123, f 124, f 125] := by kernel_rfl
set_option maxRecDepth 20000 in
set_option maxHeartbeats 1000000 in
theorem cons_any (W : World) (bp : Nat) (p : Pg) (hpg : PgX W bp p) (hok : PgOk p) (k : Nat) (r : GRule) (hr : p.R[k]? = some r) (da : Option Addr) (D dc : Nat) (dom : List Int) (hdw : Rw encI 1 W da D dom) (hdi : DomI dom) (ra : Option Addr) (rc : Nat) (T : Nat → List Tup) (hR : RelR W ra p.P.length T) (hT : ∀ q, q < p.P.length → OutOk (T q)) (hDC : DomC p dom T) : Calls Try.prog 58 #[.pointer (some ⟨bp, 0, none⟩), .int .i64 (k : Int), .slice da D dc, .slice ra p.P.length rc] W (ConsPost W p k T) := by
  obtain ⟨Q, hQ⟩ : ∃ Q, Q = ConsPost W p k T := ⟨_, rfl⟩
  rw [← hQ]
  have HQ := hid_of hQ
  have HPG := hid_of hpg
  have HOK := hid_of hok
  have HR := hid_of hr
  have HDW := hid_of hdw
  have HDI := hid_of hdi
  have HRR := hid_of hR
  have HTO := hid_of hT
  have HDC := hid_of hDC
  have hDl : D = dom.length := hdw.1.symm
  have hD256 : D ≤ 256 := by rw [hDl]; exact hdi.len
  have HDL := hid_of hDl
  have hK8 := hok.b8 k r hr
  have HLF := hid_of (hok.lits k r hr)
  have hN := hok.nP
  have hM := hok.nR
  obtain ⟨cR, Cb, CR, bR, e1, e2, e3, e4, e5, e6, e7⟩ := pgb_rule hpg hr
  have zCb1 : 1 < Cb.length := by omega
  have hhd := GRule.head_get r
  obtain ⟨bL, oL, ba, bc, hsv, hAL⟩ : ∃ bL oL ba bc, Sl.val r.body = .slice ba (p.L k).length bc ∧ At Literal.enc 10 W bL oL ba (p.L k).length (p.L k) := by
    obtain ⟨aP, cP, aR, cR, Cb0, h1, hl0, n0, n1, n2, h2⟩ := hpg
    exact h2.2.2.2.2.2 k r hr
  have hbody := GRule.body_get r
  rw [hsv] at hbody
  have HAL := hid_of hAL
  have hr0 := GRule.length_enc r
  have hrall := GRule.all_get r
  have hrok := GRule.ok_enc r
  have hzs := GRule.all_set GRule.zero r
  obtain ⟨RC, hRC⟩ : ∃ RC, RC = r.enc := ⟨_, rfl⟩
  have HRC := hid_of hRC
  rw [← hRC] at hbody hr0 hhd e7 hrall hrok hzs
  obtain ⟨AC, hAC⟩ : ∃ AC, AC = r.head.enc := ⟨_, rfl⟩
  have hA0 := Atom.length_enc r.head
  rw [← hAC] at hhd hA0
  have HAC := hid_of hAC
  have k0 : (0 : Int) ≤ (k : Int) := by omega
  have k1 : (k : Int) < (p.R.length : Int) := by omega
  have k2 : ((k : Int)).toNat = k := by omega
  have k3 : k * 10 + 10 ≤ CR.length := by omega
  clear hQ hpg hok hr hdw hdi hR hT hDC hDl hsv hAL hRC hAC
  go_enter Try.func58, Try.ntmps58
  go_upto_region 2 with fail
  refine wp_world (fun V => W.Extends V ∧ blk V W.heap.size = some RC) ⟨?_, ?_⟩ ?_
  · first | exact extends_put (extends_alloc (ext_Ext (Ext.refl _)) _) (Nat.le_refl _) _ | exact extends_alloc (ext_Ext (Ext.refl _)) _
  · first | (rw [blk_put, if_pos rfl, blk_alloc, if_pos rfl]; exact congrArg some hzs) | (rw [blk_alloc, if_pos rfl])
  rintro V1 ⟨hx1, hb9⟩
  obtain ⟨b9, e9⟩ : ∃ b9, b9 = W.heap.size := ⟨_, rfl⟩
  rw [← e9] at hb9 ⊢
  have HX1 := hid_of hx1
  have HB9 := hid_of hb9
  have hfx : ∀ (V : World) (O' : Own), Fr isI (fun _ => .no) V1 O' V → V1.Extends V := fun V O' hf => hf.extends (ext_Ext (Ext.refl _)) (fun _ _ h => by cases h)
  have hav := addVars_any V1.heap.size (fun _ => .no) V1 none 0 0 [] (Nat.le_refl _) (RowL.nil _ _ _ _ _ _) varI_nil bp p (fun V O' hf => HPG.out.ext (HX1.out.trans (hfx _ _ hf))) HOK.out r.head (HOK.out.head k r HR.out)
  rw [← HAC.out] at hav
  have HAV := hid_of hav
  have HFX := hid_of hfx
  clear hx1 e9 hav hfx e1 e2 e3 e4 e5 e6 e7
  go_wp2_with fail
  refine HAV.out.mono ?_
  rintro e V2 ⟨a2, n2, c2, L2, O2, rfl, hr2, hf2, hL2⟩
  have HI0 : Hid (∃ O', IRow V1.heap.size O' 3 V2 a2 n2 c2 L2 ∧ Fr isI (fun _ => .no) V1 O' V2 ∧ VarsUp p k 0 L2) := ⟨O2, hr2, hf2, VarsUp.start (by rw [hdP_some HR.out]; exact hL2)⟩
  clear hr2 hf2 hL2 HAV hb9
  dsimp only
  go_upto_region 4 with fail
  refine wp_loop_f 126 (k1I p k V1 bp b9 da D dc ra rc) (fun f _ => (p.L k).length - (intOf (f 11)).toNat) rfl ⟨rfl, rfl, rfl, rfl, 0, a2, n2, c2, L2, by omega, rfl, rfl, HI0⟩ ?_
  clear HI0
  intro F V hrel
  obtain ⟨f0, f2, f3, f9, i, a3, n3, c3, vars, hi, f10, f11, HI⟩ := hrel
  have H11 := hid_of f11
  rw [frame126c, f0, f2, f3, f9, f10, f11]
  clear f0 f2 f3 f9 f10 f11
  obtain ⟨O', hrow, hfr, hvu⟩ := HI.out
  have hxV : V1.Extends V := HFX.out _ _ hfr
  have hb9 : blk V b9 = some RC := (hxV.blk (blk_lt HB9.out)).trans HB9.out
  by_cases hin : i < (p.L k).length
  · have hin' : (i : Int) < ((p.L k).length : Int) := by omega
    obtain ⟨l, hl⟩ : ∃ l, (p.L k)[i]? = some l := ⟨_, List.getElem?_eq_getElem hin⟩
    obtain ⟨CL, rfl, l1, l2, l3, l4, l5⟩ := lit_x (HAL.out.grw (HX1.out.trans hxV)) hl
    have hav := addVars_any V1.heap.size O' V a3 n3 c3 vars hxV.size hrow hvu.var bp p (fun V' O'' hf => HPG.out.ext (HX1.out.trans (HFX.out _ _ (hfr.trans hf)))) HOK.out l.atom (HLF.out l (List.mem_of_getElem? hl))
    have HVU := hid_of hvu
    have HFR := hid_of hfr
    have HL := hid_of hl
    obtain ⟨LC, hLC⟩ : ∃ LC, LC = l.atom.enc := ⟨_, rfl⟩
    have hA1 := Atom.length_enc l.atom
    rw [← hLC] at l5 hA1 hav
    have HAV := hid_of hav
    have i0 : (0 : Int) ≤ (i : Int) := by omega
    have i2 : ((i : Int)).toNat = i := by omega
    have k9 : oL + i * 10 + 1 + 9 ≤ CL.length := by omega
    clear hrow hfr hvu HI hav hl hLC l3 l4 hxV
    go_wp2_with fail
    refine HAV.out.mono ?_
    rintro e V3 ⟨a4, n4, c4, L4, O4, rfl, hr4, hf4, hL4⟩
    have HI' : Hid (∃ O', IRow V1.heap.size O' 3 V3 a4 n4 c4 L4 ∧ Fr isI (fun _ => .no) V1 O' V3 ∧ VarsUp p k (i + 1) L4) := ⟨O4, hr4, HFR.out.trans hf4, HVU.out.step HL.out hL4⟩
    clear hr4 hf4 hL4 HAV HFR HVU hb9 l1
    dsimp only
    go_wp2_with fail
    refine ⟨rfl, rfl, ⟨rfl, rfl, rfl, rfl, i + 1, a4, n4, c4, L4, by omega, rfl, ?_, HI'⟩, ?_⟩
    · show Value.int .i64 _ = _
      go_num
    · show (p.L k).length - (intOf (Value.int .i64 _)).toNat < (p.L k).length - (intOf (F 11)).toNat
      rw [H11.out]
      simp [intOf]; omega
  · obtain rfl : i = (p.L k).length := by omega
    have hin' : ¬ (((p.L k).length : Int) < ((p.L k).length : Int)) := by omega
    have hV := hvu.fin
    have hvr := (hrow.rw encI_len).1
    have hvl := hvr.1
    subst hvl
    have hv32 := hV.var.len
    have HV := hid_of hV
    have HVR := hid_of hvr
    have HXV := hid_of hxV
    obtain ⟨stop, hstop⟩ : ∃ stop, stop = decide (0 < vars.length ∧ D = 0) := ⟨_, rfl⟩
    have HSTOP := hid_of hstop
    clear hrow hfr hvu HI hV hvr hstop hxV H11
    go_upto_region 7 with fail
    obtain ⟨R7, hR7⟩ : ∃ R7 : Act → Act → World → Prop, R7 = fun a0 a' w' => ∃ f : Nat → Value, a' = ⟨frameN 126 f, []⟩ ∧ f 0 = .pointer (some ⟨bp, 0, none⟩) ∧ f 2 = .slice da D dc ∧ f 3 = .slice ra p.P.length rc ∧ f 9 = .pointer (some ⟨b9, 0, none⟩) ∧ f 10 = .slice a3 vars.length c3 ∧ f 51 = .bool stop ∧ w' = V := ⟨_, rfl⟩
    have HR7 := hid_of hR7
    clear hR7
    refine wp_cutR R7 ?_ ?_
    · by_cases hv0 : 0 < vars.length
      · have hv0' : (0 : Int) < (vars.length : Int) := by omega
        by_cases hD0 : D = 0
        · have e : stop = true := by rw [HSTOP.out]; exact decide_eq_true ⟨hv0, hD0⟩
          subst e
          subst hD0
          clear HSTOP
          go_wp2_with fail
          try refine ⟨rfl, ?_⟩
          rw [HR7.out]
          exact cut_intro _ rfl ⟨rfl, rfl, rfl, rfl, rfl, rfl, rfl⟩
        · have e : stop = false := by rw [HSTOP.out]; exact decide_eq_false (fun h => hD0 h.2)
          subst e
          have hD0' : ¬ (D : Int) = 0 := by omega
          have hD0b : ((D : Int) == 0) = false := by simpa using hD0
          clear HSTOP hD0
          go_wp2_with fail
          try refine ⟨rfl, ?_⟩
          rw [HR7.out]
          exact cut_intro _ rfl ⟨rfl, rfl, rfl, rfl, rfl, rfl, rfl⟩
      · have e : stop = false := by rw [HSTOP.out]; exact decide_eq_false (fun h => hv0 h.1)
        subst e
        have hv0' : ¬ (0 : Int) < (vars.length : Int) := by omega
        clear HSTOP
        go_wp2_with fail
        try refine ⟨rfl, ?_⟩
        rw [HR7.out]
        exact cut_intro _ rfl ⟨rfl, rfl, rfl, rfl, rfl, rfl, rfl⟩
    intro a7 w7 h7
    rw [HR7.out] at h7
    obtain ⟨F7, rfl, f0, f2, f3, f9, f10, f51, hw7⟩ := h7
    rw [hw7, frame126c, f0, f2, f3, f9, f10, f51]
    clear f0 f2 f3 f9 f10 f51 hw7 HR7
    cases stop with
    | true =>
      have hst : 0 < vars.length ∧ D = 0 := of_decide_eq_true HSTOP.out.symm
      have HP : Hid (Q (.returned (.slice none 0 0)) V) := by
        show Q _ _
        rw [HQ.out]
        have hdn : dom = [] := List.length_eq_zero_iff.1 (by rw [← HDL.out]; exact hst.2)
        have hdc := HDC.out
        rw [hdn] at hdc
        exact ⟨none, 0, 0, [], rfl, Outs.nil _ _ (HX1.out.trans HXV.out), outOk_nil, fun t => ⟨fun h => (by cases h), fun h => absurd h (con_none HOK.out HR.out HV.out hdc hst.1 t)⟩⟩
      clear HSTOP hst
      go_wp2_with fail
      try go_ret
      exact HP.out
    | false =>
      have hv0D : vars.length = 0 ∨ 0 < D := by
        by_cases h : vars.length = 0
        · exact .inl h
        · refine .inr (Nat.pos_of_ne_zero fun h0 => ?_)
          have := HSTOP.out
          rw [decide_eq_true ⟨by omega, h0⟩] at this
          cases this
      have HVD := hid_of hv0D
      clear HSTOP hv0D hb9
      have hv100 : vars.length ≤ 100 := by omega
      go_upto_region 11 with fail
      refine wp_world (fun V3 => CT V V.heap.size none 0 0 [] V3 ∧ blk V3 V.heap.size = some (dgE (List.replicate vars.length 0))) ⟨?_, ?_⟩ ?_
      · refine ⟨extends_alloc (ext_Ext (Ext.refl _)) _, ?_, ?_, Nat.le_refl _, fun _ => .no, RowL.nil _ _ _ _ _ _, fun h => (by cases h), fun _ _ h => (by cases h)⟩
        · unfold free
          rw [heap_alloc, if_pos rfl]; rfl
        · rw [World.size_alloc]; omega
      · rw [blk_alloc, if_pos rfl, dgE_zero]; simp
      rintro V3 ⟨hct3, hbd3⟩
      obtain ⟨bd, ebd⟩ : ∃ bd, bd = V.heap.size := ⟨_, rfl⟩
      rw [← ebd] at hct3 hbd3 ⊢
      have HI0 : Hid (CT V bd none 0 0 [] V3 ∧ blk V3 bd = some (dgE (List.replicate vars.length 0))) := ⟨hct3, hbd3⟩
      have HJ0 : Hid (Dig dom.length vars.length (List.replicate vars.length 0) ∧ dom.length ^ vars.length - rk dom.length (List.replicate vars.length 0) = dom.length ^ vars.length - rk dom.length (List.replicate vars.length 0) ∧ Cov p k vars dom T [] (rk dom.length (List.replicate vars.length 0))) := by
        refine ⟨dig_zero (by rw [← HDL.out]; exact HVD.out), rfl, ?_⟩
        have : ∀ v D, rk D (List.replicate v 0) = 0 := by
          intro v D
          induction v with
          | zero => rfl
          | succ v ih => rw [List.replicate_succ]; show 0 + D * rk D _ = 0; rw [ih]; simp
        rw [this]; exact Cov.start p k vars dom T
      clear hct3 hbd3 ebd
      refine wp_loop_ix 126 (k2I p k V bp b9 bd da D dc ra rc a3 c3 vars dom T) _ rfl ⟨rfl, rfl, rfl, rfl, rfl, rfl, none, 0, 0, [], _, rfl, HI0, HJ0⟩ ?_
      clear HI0 HJ0
      intro m F2 V4 hrel μ hμ
      obtain ⟨f0, f2, f3, f9, f10, f13, oa, on, oc, out, ds, f12, HC, HJ⟩ := hrel
      rw [frame126c, f0, f2, f3, f9, f10, f12, f13]
      clear f0 f2 f3 f9 f10 f12 f13
      go_upto_region 12 with fail
      refine wp_world (fun V5 => V4.Extends V5 ∧ blk V5 V4.heap.size = some (arr i64v (valV vars dom ds 0)) ∧ free V5 V4.heap.size = true) ⟨extends_alloc (ext_Ext (Ext.refl _)) _, ?_, ?_⟩ ?_
      · rw [blk_alloc, if_pos rfl]; rfl
      · unfold free
        rw [heap_alloc, if_pos rfl]; rfl
      rintro V5 hV5
      obtain ⟨b14, e14⟩ : ∃ b14, b14 = V4.heap.size := ⟨_, rfl⟩
      rw [← e14] at hV5 ⊢
      have h14 : V4.heap.size ≤ b14 := by omega
      have HI0 := hid_of hV5
      clear hV5 e14
      go_upto_region 13 with fail
      refine wp_loop_f 126 (k3I p k V bp b9 bd da D dc ra rc a3 c3 vars dom T V4 b14 oa on oc ds) (fun f _ => vars.length - (intOf (f 15)).toNat) rfl ⟨rfl, rfl, rfl, rfl, rfl, rfl, rfl, rfl, 0, by omega, rfl, HI0⟩ ?_
      clear HI0
      intro F3 V6 hrel
      obtain ⟨f0, f2, f3, f9, f10, f13, f12, f14, i, hi, f15, HI⟩ := hrel
      have H15 := hid_of f15
      rw [frame126c, f0, f2, f3, f9, f10, f12, f13, f14, f15]
      clear f0 f2 f3 f9 f10 f12 f13 f14 f15
      obtain ⟨hx6, hb14, hf14⟩ := HI.out
      have hbd6 : blk V6 bd = some (dgE ds) := (hx6.blk (blk_lt HC.out.2)).trans HC.out.2
      have HXV6 : Hid (V.Extends V6) := HC.out.1.1.trans hx6
      have hdsl := HJ.out.1.1
      by_cases hin3 : i < vars.length
      · have hin3' : (i : Int) < (vars.length : Int) := by omega
        obtain ⟨x, hx⟩ : ∃ x, vars[i]? = some x := ⟨_, List.getElem?_eq_getElem hin3⟩
        obtain ⟨d, hd⟩ : ∃ d, ds[i]? = some d := ⟨_, List.getElem?_eq_getElem (by rw [hdsl]; exact hin3)⟩
        have hdD : d < dom.length := HJ.out.1.2 d (List.mem_of_getElem? hd)
        obtain ⟨y, hy⟩ : ∃ y, dom[d]? = some y := ⟨_, List.getElem?_eq_getElem hdD⟩
        have hxr := HV.out.var.2 x (List.mem_of_getElem? hx)
        obtain ⟨bv, Cv, rfl, hCv0, hcv, uv⟩ := i_at HVR.out hx
        obtain ⟨bm, Cm, rfl, hCm0, hcm, um⟩ := i_at HDW.out hy
        have hWV := HX1.out.trans HXV.out
        have hCv : blk V6 bv = some Cv := (HXV6.out.blk (blk_lt hCv0)).trans hCv0
        have hCm : blk V6 bm = some Cm := ((hWV.trans HXV6.out).blk (blk_lt hCm0)).trans hCm0
        have hbdb := HC.out.1.2.2
        have nv : ¬ bv = b14 := by have := blk_lt hCv0; omega
        have nm : ¬ bm = b14 := by have := blk_lt hCm0; have := hWV.size; omega
        obtain ⟨xi, rfl⟩ : ∃ xi : Nat, x = (xi : Int) := ⟨x.toNat, by omega⟩
        have ud := dgE_at hd
        have x32 : xi < 32 := by omega
        have x31 : xi ≤ 31 := by omega
        have x0 : (0 : Int) ≤ (xi : Int) := by omega
        have x1 : (xi : Int) < 32 := by omega
        have x2 : ((xi : Int)).toNat = xi := by omega
        have i0 : (0 : Int) ≤ (i : Int) := by omega
        have i2 : ((i : Int)).toNat = i := by omega
        have i5 : i < Cv.length := by omega
        have i6 : i < (dgE ds).length := by rw [dgE_len, hdsl]; exact hin3
        have d0 : (0 : Int) ≤ (d : Int) := by omega
        have d1 : (d : Int) < (D : Int) := by rw [HDL.out]; omega
        have d2 : ((d : Int)).toNat = d := by omega
        have d5 : d < Cm.length := by omega
        have hput : splice (arr i64v (valV vars dom ds i)) xi [.int .i64 y] = arr i64v (valV vars dom ds (i + 1)) := by
          rw [setV_put _ x32]
          show _ = arr i64v (setV _ (vars.getD i 0).toNat _)
          rw [getD_at hx, getD_at hd, getD_at hy, Int.toNat_natCast]
        obtain ⟨T1, hT1⟩ : ∃ T1, T1 = valV vars dom ds (i + 1) := ⟨_, rfl⟩
        obtain ⟨T0, hT0⟩ : ∃ T0, T0 = valV vars dom ds i := ⟨_, rfl⟩
        rw [← hT1, ← hT0] at hput
        rw [← hT0] at hb14
        obtain ⟨DG, hDG⟩ : ∃ DG, DG = dgE ds := ⟨_, rfl⟩
        rw [← hDG] at ud i6 hbd6
        have HV' : Hid (V4.Extends (put V6.drew b14 (arr i64v T1)) ∧ blk (put V6.drew b14 (arr i64v T1)) b14 = some (arr i64v (valV vars dom ds (i + 1))) ∧ free (put V6.drew b14 (arr i64v T1)) b14 = true) := by
          refine ⟨extends_put (extends_drew hx6) h14 _, ?_, by rw [free_put]; exact hf14⟩
          rw [blk_put, if_pos rfl, blk_drew, hb14, hT1]; rfl
        have nd : ¬ bd = b14 := by omega
        have hkeep : ∀ C, blk (put V6.drew b14 C) bv = some Cv ∧ blk (put V6.drew b14 C) bd = some DG ∧ blk (put V6.drew b14 C) bm = some Cm := fun C => ⟨by rw [blk_put, if_neg nv]; exact hCv, by rw [blk_put, if_neg nd]; exact hbd6, by rw [blk_put, if_neg nm]; exact hCm⟩
        clear hCv0 hCm0 hWV hbdb HI hx6 hx hd hy hxr hdD hT1 hT0 hDG hdsl
        go_upto_region 15 with fail
        refine wp_region_held_drew (S := fun W' => blk W' bv = some Cv ∧ blk W' bd = some DG ∧ blk W' bm = some Cm) (by kernel_rfl) ⟨hCv, hbd6, hCm⟩ (fun hHeld => ?_)
        refine wpAnyH_take (i := 0) (oi := ⟨_, _, _, _, _, _⟩) (v := ?_) rfl (by kernel_rfl) (by kernel_rfl) (by kernel_rfl) (fun _ _ _ h => h) (Or.inl ⟨by rfl, ?_⟩) (by assumption) ?_
        rotate_left 1
        · intro W' hSw
          obtain ⟨hS1, hS2, hS3⟩ := hSw
          go_simp
          try with_reducible rfl
        try simp only [Act.put, List.setIfInBounds_toArray, List.set_cons_zero, List.set_cons_succ]
        refine wpAnyH_take (i := 1) (oi := ⟨_, _, _, _, _, _⟩) (v := ?_) rfl (by kernel_rfl) (by kernel_rfl) (by kernel_rfl) (fun _ _ _ h => h) (Or.inl ⟨by rfl, ?_⟩) (by assumption) ?_
        rotate_left 1
        · intro W' hSw
          obtain ⟨hS1, hS2, hS3⟩ := hSw
          go_simp
          try with_reducible rfl
        try simp only [Act.put, List.setIfInBounds_toArray, List.set_cons_zero, List.set_cons_succ]
        refine wpAnyH_take (i := 2) (oi := ⟨_, _, _, _, _, _⟩) (v := ?_) rfl (by kernel_rfl) (by kernel_rfl) (by kernel_rfl) (fun _ _ _ h => h) (Or.inl ⟨by rfl, ?_⟩) (by assumption) ?_
        rotate_left 1
        · intro W' hSw
          obtain ⟨hS1, hS2, hS3⟩ := hSw
          go_simp
          try with_reducible rfl
        try simp only [Act.put, List.setIfInBounds_toArray, List.set_cons_zero, List.set_cons_succ]
        refine wpAnyH_take (i := 3) (oi := ⟨_, _, _, _, _, _⟩) (v := ?_) rfl (by kernel_rfl) (by kernel_rfl) (by kernel_rfl) (fun _ _ _ h => h) (Or.inl ⟨by rfl, ?_⟩) (by assumption) ?_
        rotate_left 1
        · intro W' hSw
          obtain ⟨hS1, hS2, hS3⟩ := hSw
          go_simp
          try with_reducible rfl
        try simp only [Act.put, List.setIfInBounds_toArray, List.set_cons_zero, List.set_cons_succ]
        refine wpAnyH_take (i := 4) (oi := ⟨_, _, _, _, _, _⟩) (v := ?_) rfl (by kernel_rfl) (by kernel_rfl) (by kernel_rfl) (fun _ _ _ h => h) (Or.inl ⟨by rfl, ?_⟩) (by assumption) ?_
        rotate_left 1
        · intro W' hSw
          obtain ⟨hS1, hS2, hS3⟩ := hSw
          go_simp
          try with_reducible rfl
        try simp only [Act.put, List.setIfInBounds_toArray, List.set_cons_zero, List.set_cons_succ]
        refine wpAnyH_take (i := 5) (oi := ⟨_, _, _, _, _, _⟩) (v := ?_) rfl (by kernel_rfl) (by kernel_rfl) (by kernel_rfl) (fun _ _ _ h => h) (Or.inl ⟨by rfl, ?_⟩) (by assumption) ?_
        rotate_left 1
        · intro W' hSw
          obtain ⟨hS1, hS2, hS3⟩ := hSw
          go_simp
          try with_reducible rfl
        try simp only [Act.put, List.setIfInBounds_toArray, List.set_cons_zero, List.set_cons_succ]
        refine wpAnyH_take (i := 6) (oi := ⟨_, _, _, _, _, _⟩) (v := ?_) rfl (by kernel_rfl) (by kernel_rfl) (by kernel_rfl) (fun _ _ _ h => h) (Or.inl ⟨by rfl, ?_⟩) (by assumption) ?_
        rotate_left 1
        · intro W' hSw
          obtain ⟨hS1, hS2, hS3⟩ := hSw
          go_simp
          try with_reducible rfl
        try simp only [Act.put, List.setIfInBounds_toArray, List.set_cons_zero, List.set_cons_succ]
        refine wpAnyH_take (i := 7) (oi := ⟨_, _, _, _, _, _⟩) (v := ?_) rfl (by kernel_rfl) (by kernel_rfl) (by kernel_rfl) (fun _ _ _ h => h) (Or.inl ⟨by rfl, ?_⟩) (by assumption) ?_
        rotate_left 1
        · intro W' hSw
          obtain ⟨hS1, hS2, hS3⟩ := hSw
          go_simp
          try with_reducible rfl
        try simp only [Act.put, List.setIfInBounds_toArray, List.set_cons_zero, List.set_cons_succ]
        refine wpAnyH_take (i := 8) (oi := ⟨_, _, _, _, _, _⟩) (v := ?_) rfl (by kernel_rfl) (by kernel_rfl) (by kernel_rfl) (fun _ _ _ h => h) (Or.inl ⟨by rfl, ?_⟩) (by assumption) ?_
        rotate_left 1
        · intro W' hSw
          obtain ⟨hS1, hS2, hS3⟩ := hSw
          go_simp
          try with_reducible rfl
        try simp only [Act.put, List.setIfInBounds_toArray, List.set_cons_zero, List.set_cons_succ]
        refine wpAnyH_take (i := 9) (oi := ⟨_, _, _, _, _, _⟩) (v := ?_) rfl (by kernel_rfl) (by kernel_rfl) (by kernel_rfl) (fun _ _ _ h => h) (Or.inl ⟨by rfl, ?_⟩) (by assumption) ?_
        rotate_left 1
        · intro W' hSw
          obtain ⟨hS1, hS2, hS3⟩ := hSw
          go_simp
          try with_reducible rfl
        try simp only [Act.put, List.setIfInBounds_toArray, List.set_cons_zero, List.set_cons_succ]
        refine wpAnyH_take (i := 10) (oi := ⟨_, _, _, _, _, _⟩) (v := ?_) rfl (by kernel_rfl) (by kernel_rfl) (by kernel_rfl) (fun _ _ _ h => h) (Or.inl ⟨by rfl, ?_⟩) (by assumption) ?_
        rotate_left 1
        · intro W' hSw
          obtain ⟨hS1, hS2, hS3⟩ := hSw
          go_simp
          try with_reducible rfl
        try simp only [Act.put, List.setIfInBounds_toArray, List.set_cons_zero, List.set_cons_succ]
        refine wpAnyH_take (i := 11) (oi := ⟨_, _, _, _, _, _⟩) (v := ?_) rfl (by kernel_rfl) (by kernel_rfl) (by kernel_rfl) (fun _ _ _ h => h) (Or.inl ⟨by rfl, ?_⟩) (by assumption) ?_
        rotate_left 1
        · intro W' hSw
          obtain ⟨hS1, hS2, hS3⟩ := hSw
          go_simp
          try with_reducible rfl
        try simp only [Act.put, List.setIfInBounds_toArray, List.set_cons_zero, List.set_cons_succ]
        refine wpAnyH_ready (rs := [12]) (by kernel_rfl) (by simp) ?_
        refine AllReadyH.cons (o := ⟨_, _, _, _, _, _⟩) rfl (fun K' hK => ?_) AllReadyH.nil
        go_simp
        refine hK.out _ _ (hkeep _) (fun hHeld => ?_)
        clear hK K'
        try simp only [Act.put, List.setIfInBounds_toArray, List.set_cons_zero, List.set_cons_succ]
        refine wpAnyH_done (by kernel_rfl) ?_ _
        clear hHeld
        go_wp2_with fail
        refine ⟨rfl, rfl, ⟨rfl, rfl, rfl, rfl, rfl, rfl, rfl, rfl, i + 1, by omega, ?_, HV'⟩, ?_⟩
        · show Value.int .i64 _ = _
          go_num
        · show vars.length - (intOf (Value.int .i64 _)).toNat < vars.length - (intOf (F3 15)).toNat
          rw [H15.out]
          simp [intOf]; omega
      · obtain rfl : i = vars.length := by omega
        have hin3' : ¬ ((vars.length : Int) < (vars.length : Int)) := by omega
        have hWV6 : W.Extends V6 := HX1.out.trans (HXV.out.trans HXV6.out)
        have hb9 : blk V6 b9 = some RC := ((HXV.out.trans HXV6.out).blk (blk_lt HB9.out)).trans HB9.out
        obtain ⟨val, hval⟩ : ∃ val, val = valV vars dom ds vars.length := ⟨_, rfl⟩
        rw [← hval] at hb14
        have HVAL := hid_of hval
        have hbh := bodyHolds_any V6 bp p (HPG.out.ext hWV6) HOK.out k r HR.out val ra rc T (HRR.out.ext hWV6) (fun q hq => by have := outok_len (HTO.out q hq); omega)
        obtain ⟨tt, htt⟩ : ∃ tt, tt = sT r.head (vS val) (arA p.P r.head) := ⟨_, rfl⟩
        have HTT := hid_of htt
        have hins : ∀ V7, V6.Extends V7 → Calls Try.prog 78 #[.pointer (some ⟨bp, 0, none⟩), .agg AC.toArray, .agg (arr i64v val).toArray] V7 fun e W' => e = .returned (.agg (arr i64v tt).toArray) ∧ V7.Extends W' := fun V7 hx => by
          rw [HAC.out, HTT.out]
          exact instance_any V7 bp p (HPG.out.ext (hWV6.trans hx)) HOK.out r.head val (HOK.out.head k r HR.out)
        rw [← HRC.out] at hbh
        have HBH := hid_of hbh
        have HINS := hid_of hins
        have hol : on ≤ 4294967296 := by
          rw [← HC.out.1.rw.1]; exact outok_len HJ.out.2.2.ok
        have HMEM : Hid (∀ V7, V6.Extends V7 → Calls Try.prog 47 #[.slice oa on oc, .agg (arr i64v tt).toArray] V7 fun e W' => e = .returned (.bool (decide (tt ∈ out))) ∧ V7.Extends W') := fun V7 hx => memberM_any V7 oa on oc out (HC.out.1.rw.grow (hx6.trans hx)) (by omega) tt
        obtain ⟨add, hadd⟩ := ex_bool (BodyH p k (vS val) T ∧ tt ∉ out)
        have HADD := hid_of hadd
        have HX6 := hid_of hx6
        have HB14 := hid_of hb14
        have HB9' := hid_of hb9
        clear hval hbh htt hins hadd hx6 hWV6 hbd6 hdsl HI hf14 hol H15
        go_upto_region 16 with fail
        obtain ⟨R16, hR16⟩ : ∃ R16 : Act → Act → World → Prop, R16 = fun a0 a' w' => ∃ f : Nat → Value, a' = ⟨frameN 126 f, []⟩ ∧ f 0 = .pointer (some ⟨bp, 0, none⟩) ∧ f 2 = .slice da D dc ∧ f 3 = .slice ra p.P.length rc ∧ f 9 = .pointer (some ⟨b9, 0, none⟩) ∧ f 10 = .slice a3 vars.length c3 ∧ f 13 = .slice (some ⟨bd, 0, none⟩) vars.length vars.length ∧ f 12 = .slice oa on oc ∧ f 14 = .pointer (some ⟨b14, 0, none⟩) ∧ f 87 = .bool add ∧ Hid (V6.Extends w') := ⟨_, rfl⟩
        have HR16 := hid_of hR16
        clear hR16
        refine wp_cutR R16 ?_ ?_
        · go_wp2_with fail
          refine HBH.out.mono ?_
          rintro e V7 ⟨b, rfl, hbb, hx7⟩
          have hb9' : blk V7 b9 = some RC := (hx7.blk (blk_lt hb9)).trans hb9
          have hb14' : blk V7 b14 = some (arr i64v val) := (hx7.blk (blk_lt hb14)).trans hb14
          have HX7 := hid_of hx7
          clear HBH hx7 hb9 hb14
          dsimp only
          cases b with
          | false =>
            have e : add = false := by
              exact Bool.eq_false_iff.2 (fun ha => by have := hbb.2 (HADD.out.1 ha).1; cases this)
            subst e
            clear HADD hbb
            go_wp2_with fail
            try refine ⟨rfl, ?_⟩
            rw [HR16.out]
            exact cut_intro _ rfl ⟨rfl, rfl, rfl, rfl, rfl, rfl, rfl, rfl, rfl, HX7⟩
          | true =>
            have hB : BodyH p k (vS val) T := hbb.1 rfl
            have HB := hid_of hB
            clear hB hbb
            go_wp2_with fail
            refine (HINS.out V7 HX7.out).mono ?_
            rintro e V8 ⟨rfl, hx8⟩
            have HX8 : Hid (V6.Extends V8) := HX7.out.trans hx8
            clear hx8 hb9' hb14'
            dsimp only
            go_wp2_with fail
            refine (HMEM.out V8 HX8.out).mono ?_
            rintro e V9 ⟨rfl, hx9⟩
            have HX9 : Hid (V6.Extends V9) := HX8.out.trans hx9
            clear hx9
            dsimp only
            by_cases hm : tt ∈ out
            · have e : add = false := by
                exact Bool.eq_false_iff.2 (fun ha => (HADD.out.1 ha).2 hm)
              subst e
              have hdm : decide (tt ∈ out) = true := decide_eq_true hm
              rw [hdm]
              clear HADD hm hdm
              go_wp2_with fail
              try refine ⟨rfl, ?_⟩
              rw [HR16.out]
              exact cut_intro _ rfl ⟨rfl, rfl, rfl, rfl, rfl, rfl, rfl, rfl, rfl, HX9⟩
            · have e : add = true := by
                exact HADD.out.2 ⟨HB.out, hm⟩
              subst e
              have hdm : decide (tt ∈ out) = false := decide_eq_false hm
              rw [hdm]
              clear HADD hm hdm
              go_wp2_with fail
              try refine ⟨rfl, ?_⟩
              rw [HR16.out]
              exact cut_intro _ rfl ⟨rfl, rfl, rfl, rfl, rfl, rfl, rfl, rfl, rfl, HX9⟩
        intro a16 V10 h16
        rw [HR16.out] at h16
        obtain ⟨F16, rfl, f0, f2, f3, f9, f10, f13, f12, f14, f87, HX10⟩ := h16
        rw [frame126c, f0, f2, f3, f9, f10, f12, f13, f14, f87]
        clear f0 f2 f3 f9 f10 f12 f13 f14 f87 HR16 HBH hb9 hb14
        have HCT : Hid (CT V bd oa on oc out V10 ∧ blk V10 bd = some (dgE ds)) := ⟨HC.out.1.ext (HX6.out.trans HX10.out), ((HX6.out.trans HX10.out).blk (blk_lt HC.out.2)).trans HC.out.2⟩
        have HSTEP : Hid (∀ out', ((¬ (BodyH p k (vS val) T ∧ tt ∉ out) ∧ out' = out) ∨ (BodyH p k (vS val) T ∧ tt ∉ out ∧ out' = out ++ [tt])) → Cov p k vars dom T out' (rk dom.length ds + 1)) := fun out' ho => by
          refine Cov.step HOK.out HR.out HV.out.var HDI.out HJ.out.1 HJ.out.2.2 (t := tt) (by rw [HTT.out, hdP_some HR.out, HVAL.out]) ?_
          rw [← HVAL.out]; exact ho
        have HDIG := hid_of HJ.out.1
        have HMM := hid_of HJ.out.2.1
        have hol : out.length ≤ 4294967296 := outok_len HJ.out.2.2.ok
        cases add with
        | false =>
          have HCOV : Hid (Cov p k vars dom T out (rk dom.length ds + 1)) := HSTEP.out out (.inl ⟨fun h => (by have := HADD.out.2 h; cases this), rfl⟩)
          clear HADD HSTEP HINS HMEM HJ HC HX6 HB14 HB9' HTT HVAL hol
          go_upto_region 19 with fail
          have HI0 : Hid (CT V bd oa on oc (out) V10 ∧ blk V10 bd = some (dgE (carD ds 0)) ∧ ∀ j, j < 0 → ds[j]? = some (dom.length - 1)) := ⟨HCT.out.1, HCT.out.2, fun j h => absurd h (Nat.not_lt_zero _)⟩
          refine wp_loop_f 126 (k4I p k V bp b9 bd da D dc ra rc a3 c3 vars dom T oa on oc (out) ds) (fun f _ => vars.length - (intOf (f 16)).toNat) rfl ⟨rfl, rfl, rfl, rfl, rfl, rfl, rfl, 0, by omega, rfl, HI0⟩ ?_
          clear HI0 HCT
          intro F4 V13 hrel
          obtain ⟨f0, f2, f3, f9, f10, f13, f12, i, hi4, f16, HI⟩ := hrel
          have H16 := hid_of f16
          rw [frame126c, f0, f2, f3, f9, f10, f12, f13, f16]
          clear f0 f2 f3 f9 f10 f12 f13 f16
          obtain ⟨hct, hbd, hall⟩ := HI.out
          have hfb := hct.2.1
          by_cases hin4 : i < vars.length
          · have hin4' : (i : Int) < (vars.length : Int) := by omega
            obtain ⟨d, hd⟩ : ∃ d, ds[i]? = some d := ⟨_, List.getElem?_eq_getElem (by rw [HDIG.out.1]; exact hin4)⟩
            have hdD : d < dom.length := HDIG.out.2 d (List.mem_of_getElem? hd)
            have hcl : (carD ds i).length = vars.length := (carD_len (by rw [HDIG.out.1]; omega)).trans HDIG.out.1
            have ud := dgE_at (carD_at hd)
            have us := dgE_set (ds := carD ds i) (i := i) (by omega)
            have i6 : i < (dgE (carD ds i)).length := by rw [dgE_len, hcl]; exact hin4
            have i0 : (0 : Int) ≤ (i : Int) := by omega
            have i2 : ((i : Int)).toNat = i := by omega
            obtain ⟨DG, hDG⟩ : ∃ DG, DG = dgE (carD ds i) := ⟨_, rfl⟩
            by_cases hlast : d = dom.length - 1
            · have hd' : (d : Int) = (D : Int) - 1 := by rw [HDL.out]; omega
              have us0 := us 0
              rw [carD_succ hd] at us0
              obtain ⟨DG1, hDG1⟩ : ∃ DG1, DG1 = dgE (carD ds (i + 1)) := ⟨_, rfl⟩
              have HI' : Hid (CT V bd oa on oc (out) (put V13 bd DG1) ∧ blk (put V13 bd DG1) bd = some (dgE (carD ds (i + 1))) ∧ ∀ j, j < i + 1 → ds[j]? = some (dom.length - 1)) := by
                refine ⟨hct.put _, by rw [blk_put, if_pos rfl, hbd, hDG1]; rfl, fun j hj => ?_⟩
                by_cases hji : j = i
                · subst hji; rw [hd, hlast]
                · exact hall j (by omega)
              rw [← hDG] at ud us0 hbd i6
              rw [← hDG1] at us0
              have us0' : splice DG i [.int .i64 0] = DG1 := us0
              clear HI hct hall hd hcl us us0 hDG hDG1 hlast hdD
              go_wp2_with fail
              refine ⟨rfl, rfl, ⟨rfl, rfl, rfl, rfl, rfl, rfl, rfl, i + 1, by omega, ?_, HI'⟩, ?_⟩
              · show Value.int .i64 _ = _
                go_num
              · show vars.length - (intOf (Value.int .i64 _)).toNat < vars.length - (intOf (F4 16)).toNat
                rw [H16.out]
                simp [intOf]; omega
            · have hd' : ¬ (d : Int) = (D : Int) - 1 := by rw [HDL.out]; omega
              have hne : ¬ (i : Int) = (vars.length : Int) := by omega
              have us1 := us (d + 1)
              obtain ⟨hdg, hrk⟩ := inc_dig HDIG.out hd hlast hall
              obtain ⟨DG1, hDG1⟩ : ∃ DG1, DG1 = dgE ((carD ds i).set i (d + 1)) := ⟨_, rfl⟩
              have HI' : Hid (CT V bd oa on oc (out) (put V13 bd DG1) ∧ blk (put V13 bd DG1) bd = some (dgE ((carD ds i).set i (d + 1)))) := by
                refine ⟨hct.put _, by rw [blk_put, if_pos rfl, hbd, hDG1]; rfl⟩
              obtain ⟨m1, hm1⟩ : ∃ m1, m1 = dom.length ^ vars.length - rk dom.length ((carD ds i).set i (d + 1)) := ⟨_, rfl⟩
              have HJ' : Hid (Dig dom.length vars.length ((carD ds i).set i (d + 1)) ∧ m1 = dom.length ^ vars.length - rk dom.length ((carD ds i).set i (d + 1)) ∧ Cov p k vars dom T (out) (rk dom.length ((carD ds i).set i (d + 1)))) := ⟨hdg, hm1, by rw [hrk]; exact HCOV.out⟩
              have HLT : Hid (m1 < m) := by
                show _ < _
                rw [HMM.out, hm1, hrk]
                have := rk_lt HDIG.out.2
                rw [HDIG.out.1] at this
                omega
              rw [← hDG] at ud us1 hbd i6
              rw [← hDG1] at us1
              have us1' : splice DG i [.int .i64 ((d : Int) + 1)] = DG1 := us1
              have d256 : d ≤ 256 := by have := HDI.out.len; omega
              clear HI hct hall hd hcl us us1 hDG hDG1 hlast hdD hdg hrk hm1
              go_wp2_with fail
              exact ⟨rfl, rfl, ⟨m1, rfl, rfl, rfl, rfl, rfl, rfl, oa, on, oc, (out), _, rfl, HI', HJ'⟩, hμ.out m1 _ _ ⟨rfl, rfl, rfl, rfl, rfl, rfl, oa, on, oc, (out), _, rfl, HI', HJ'⟩ HLT.out⟩
          · obtain rfl : i = vars.length := by omega
            have hin4' : ¬ ((vars.length : Int) < (vars.length : Int)) := by omega
            have HP : Hid (Q (.returned (.slice oa on oc)) V13) := by
              show Q _ _
              rw [HQ.out]
              refine ⟨oa, on, oc, (out), rfl, hct.outs (HX1.out.trans HXV.out), HCOV.out.ok, Cov.fin HOK.out HR.out HCOV.out HV.out HDC.out (fun es he => ?_)⟩
              have := end_dig HDIG.out hall he (by rw [← HDL.out]; exact HVD.out)
              omega
            clear HI hct hbd hall
            go_wp2_with fail
            try go_ret
            exact HP.out
        | true =>
          have hadd := HADD.out.1 rfl
          have HCOV : Hid (Cov p k vars dom T (out ++ [tt]) (rk dom.length ds + 1)) := HSTEP.out _ (.inr ⟨hadd.1, hadd.2, rfl⟩)
          have hb9 : blk V10 b9 = some RC := (HX10.out.blk (blk_lt HB9'.out)).trans HB9'.out
          have hb14 : blk V10 b14 = some (arr i64v val) := (HX10.out.blk (blk_lt HB14.out)).trans HB14.out
          clear HADD HSTEP HMEM HJ HC HX6 HB14 HB9' HTT HVAL hadd
          go_wp2_with fail
          refine (HINS.out V10 HX10.out).mono ?_
          rintro e V11 ⟨rfl, hx11⟩
          obtain ⟨oa', oc', V12, hrun, hct, hbk⟩ := (HCT.out.1.ext hx11).app tt (by omega)
          have HCT' : Hid (CT V bd oa' (on + 1) oc' (out ++ [tt]) V12 ∧ blk V12 bd = some (dgE ds)) := ⟨hct, hbk.trans ((hx11.blk (blk_lt HCT.out.2)).trans HCT.out.2)⟩
          clear hct hbk hx11 HCT HINS hb9 hb14 hol
          dsimp only
          go_upto_region 19 with (at_builtin; refine wpList_append_run rfl _ _ 36 rfl _ _ _ _ rfl rfl hrun ?_)
          clear hrun
          have HI0 : Hid (CT V bd oa' (on + 1) oc' (out ++ [tt]) V12 ∧ blk V12 bd = some (dgE (carD ds 0)) ∧ ∀ j, j < 0 → ds[j]? = some (dom.length - 1)) := ⟨HCT'.out.1, HCT'.out.2, fun j h => absurd h (Nat.not_lt_zero _)⟩
          refine wp_loop_f 126 (k4I p k V bp b9 bd da D dc ra rc a3 c3 vars dom T oa' (on + 1) oc' (out ++ [tt]) ds) (fun f _ => vars.length - (intOf (f 16)).toNat) rfl ⟨rfl, rfl, rfl, rfl, rfl, rfl, rfl, 0, by omega, rfl, HI0⟩ ?_
          clear HI0 HCT'
          intro F4 V13 hrel
          obtain ⟨f0, f2, f3, f9, f10, f13, f12, i, hi4, f16, HI⟩ := hrel
          have H16 := hid_of f16
          rw [frame126c, f0, f2, f3, f9, f10, f12, f13, f16]
          clear f0 f2 f3 f9 f10 f12 f13 f16
          obtain ⟨hct, hbd, hall⟩ := HI.out
          have hfb := hct.2.1
          by_cases hin4 : i < vars.length
          · have hin4' : (i : Int) < (vars.length : Int) := by omega
            obtain ⟨d, hd⟩ : ∃ d, ds[i]? = some d := ⟨_, List.getElem?_eq_getElem (by rw [HDIG.out.1]; exact hin4)⟩
            have hdD : d < dom.length := HDIG.out.2 d (List.mem_of_getElem? hd)
            have hcl : (carD ds i).length = vars.length := (carD_len (by rw [HDIG.out.1]; omega)).trans HDIG.out.1
            have ud := dgE_at (carD_at hd)
            have us := dgE_set (ds := carD ds i) (i := i) (by omega)
            have i6 : i < (dgE (carD ds i)).length := by rw [dgE_len, hcl]; exact hin4
            have i0 : (0 : Int) ≤ (i : Int) := by omega
            have i2 : ((i : Int)).toNat = i := by omega
            obtain ⟨DG, hDG⟩ : ∃ DG, DG = dgE (carD ds i) := ⟨_, rfl⟩
            by_cases hlast : d = dom.length - 1
            · have hd' : (d : Int) = (D : Int) - 1 := by rw [HDL.out]; omega
              have us0 := us 0
              rw [carD_succ hd] at us0
              obtain ⟨DG1, hDG1⟩ : ∃ DG1, DG1 = dgE (carD ds (i + 1)) := ⟨_, rfl⟩
              have HI' : Hid (CT V bd oa' (on + 1) oc' (out ++ [tt]) (put V13 bd DG1) ∧ blk (put V13 bd DG1) bd = some (dgE (carD ds (i + 1))) ∧ ∀ j, j < i + 1 → ds[j]? = some (dom.length - 1)) := by
                refine ⟨hct.put _, by rw [blk_put, if_pos rfl, hbd, hDG1]; rfl, fun j hj => ?_⟩
                by_cases hji : j = i
                · subst hji; rw [hd, hlast]
                · exact hall j (by omega)
              rw [← hDG] at ud us0 hbd i6
              rw [← hDG1] at us0
              have us0' : splice DG i [.int .i64 0] = DG1 := us0
              clear HI hct hall hd hcl us us0 hDG hDG1 hlast hdD
              go_wp2_with fail
              refine ⟨rfl, rfl, ⟨rfl, rfl, rfl, rfl, rfl, rfl, rfl, i + 1, by omega, ?_, HI'⟩, ?_⟩
              · show Value.int .i64 _ = _
                go_num
              · show vars.length - (intOf (Value.int .i64 _)).toNat < vars.length - (intOf (F4 16)).toNat
                rw [H16.out]
                simp [intOf]; omega
            · have hd' : ¬ (d : Int) = (D : Int) - 1 := by rw [HDL.out]; omega
              have hne : ¬ (i : Int) = (vars.length : Int) := by omega
              have us1 := us (d + 1)
              obtain ⟨hdg, hrk⟩ := inc_dig HDIG.out hd hlast hall
              obtain ⟨DG1, hDG1⟩ : ∃ DG1, DG1 = dgE ((carD ds i).set i (d + 1)) := ⟨_, rfl⟩
              have HI' : Hid (CT V bd oa' (on + 1) oc' (out ++ [tt]) (put V13 bd DG1) ∧ blk (put V13 bd DG1) bd = some (dgE ((carD ds i).set i (d + 1)))) := by
                refine ⟨hct.put _, by rw [blk_put, if_pos rfl, hbd, hDG1]; rfl⟩
              obtain ⟨m1, hm1⟩ : ∃ m1, m1 = dom.length ^ vars.length - rk dom.length ((carD ds i).set i (d + 1)) := ⟨_, rfl⟩
              have HJ' : Hid (Dig dom.length vars.length ((carD ds i).set i (d + 1)) ∧ m1 = dom.length ^ vars.length - rk dom.length ((carD ds i).set i (d + 1)) ∧ Cov p k vars dom T (out ++ [tt]) (rk dom.length ((carD ds i).set i (d + 1)))) := ⟨hdg, hm1, by rw [hrk]; exact HCOV.out⟩
              have HLT : Hid (m1 < m) := by
                show _ < _
                rw [HMM.out, hm1, hrk]
                have := rk_lt HDIG.out.2
                rw [HDIG.out.1] at this
                omega
              rw [← hDG] at ud us1 hbd i6
              rw [← hDG1] at us1
              have us1' : splice DG i [.int .i64 ((d : Int) + 1)] = DG1 := us1
              have d256 : d ≤ 256 := by have := HDI.out.len; omega
              clear HI hct hall hd hcl us us1 hDG hDG1 hlast hdD hdg hrk hm1
              go_wp2_with fail
              exact ⟨rfl, rfl, ⟨m1, rfl, rfl, rfl, rfl, rfl, rfl, oa', (on + 1), oc', (out ++ [tt]), _, rfl, HI', HJ'⟩, hμ.out m1 _ _ ⟨rfl, rfl, rfl, rfl, rfl, rfl, oa', (on + 1), oc', (out ++ [tt]), _, rfl, HI', HJ'⟩ HLT.out⟩
          · obtain rfl : i = vars.length := by omega
            have hin4' : ¬ ((vars.length : Int) < (vars.length : Int)) := by omega
            have HP : Hid (Q (.returned (.slice oa' (on + 1) oc')) V13) := by
              show Q _ _
              rw [HQ.out]
              refine ⟨oa', (on + 1), oc', (out ++ [tt]), rfl, hct.outs (HX1.out.trans HXV.out), HCOV.out.ok, Cov.fin HOK.out HR.out HCOV.out HV.out HDC.out (fun es he => ?_)⟩
              have := end_dig HDIG.out hall he (by rw [← HDL.out]; exact HVD.out)
              omega
            clear HI hct hbd hall
            go_wp2_with fail
            try go_ret
            exact HP.out
end Go.Proofs.Qxb6500788a
