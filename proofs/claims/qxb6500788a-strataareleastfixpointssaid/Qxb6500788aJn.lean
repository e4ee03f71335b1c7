import Derived.Test.Qxb6500788aLgc
import Derived.StillTailTactics
import Derived.Deep.QuietTactic
import Derived.BigQuiet
import Derived.Deep.RegionHeld
import Derived.Deep.CutRange
import Derived.Laws.ResultCell
import Derived.Laws.Rows
import Derived.DeepKeys
import Derived.DataBytes
import Derived.Laws.StructEq
import Derived.Laws.AppendOwn
import Derived.Laws.MakeOwn
set_option linter.unusedSimpArgs false
set_option linter.unusedVariables false
namespace Go.Proofs.Qxb6500788a
open Go.RowKit Go.Blk
attribute [local go_sem ↓] execOp_load execOp_store execOp_alloc
attribute [local go_sem] Try.ld24 Try.st24 Try.ld25 Try.st25 Try.ld3 Try.st3 Try.ld30 Try.st30 Try.ld36 Try.st36 Try.ld4 Try.st4 Try.ld41 Try.st41 Try.ld50 Try.st50 Try.ld40 Try.st40 Try.ld42 Try.st42 Try.ld89 Try.st89 Try.ld91 Try.st91 Try.ld56 Try.st56 Try.ld97 Try.st97 Try.ld98 Try.st98 Try.ld101 Try.st101 Try.ld104 Try.st104 Try.ld57 Try.st57 Try.ld130 Try.st130 Try.ld2 Try.st2 Try.ld5 Try.st5 Try.ld9 Try.st9 Try.ld12 Try.st12 Try.ld21 Try.st21 Try.ld22 Try.st22 Try.ld29 Try.st29 Try.ld33 Try.st33 Try.ld59 Try.st59 Try.ld62 Try.st62 Try.ld69 Try.st69 Try.ld94 Try.st94 Try.ld96 Try.st96 Try.ld129 Try.st129 Try.ld158 Try.st158 Try.ld162 Try.st162 Try.ld47 Try.st47 Try.ld44 Try.st44 Try.ld137 Try.st137 Try.ld145 Try.st145 Try.ld43 Try.st43 Try.ld27 Try.st27 Try.ld38 Try.st38 Try.ld46 Try.st46 Try.ld49 Try.st49 Try.ld52 Try.st52 Try.ld54 Try.st54 Try.ld61 Try.st61 Try.ld80 Try.st80 Try.ld87 Try.st87 Try.ld93 Try.st93 Try.ld100 Try.st100 Try.ld103 Try.st103 Try.ld106 Try.st106 Try.ld109 Try.st109 Try.ld132 Try.st132 Try.ld147 Try.st147 Try.al47 Try.al44 Try.al137 Try.al145 Try.al43 Try.al27 Try.al38 Try.al46 Try.al49 Try.al52 Try.al54 Try.al61 Try.al80 Try.al87 Try.al93 Try.al100 Try.al103 Try.al106 Try.al109 Try.al132 Try.al147
attribute [local go_sem] GProgram.length_enc GProgram.ok_enc GProgram.all_get GProgram.all_set GProgram.preds_get GProgram.preds_set GProgram.rules_get GProgram.rules_set GProgram.strata_get GProgram.strata_set Answer.length_enc Answer.ok_enc Answer.all_get Answer.all_set Answer.code_get Answer.code_set Answer.n_get Answer.n_set Answer.rows_get Answer.rows_set Term.length_enc Term.ok_enc Term.all_get Term.all_set Term.var_get Term.var_set Term.n_get Term.n_set Atom.length_enc Atom.ok_enc Atom.all_get Atom.all_set Atom.pred_get Atom.pred_set Atom.args_get Atom.args_set GRule.length_enc GRule.ok_enc GRule.all_get GRule.all_set GRule.head_get GRule.head_set GRule.body_get GRule.body_set GRule.head_pred_get GRule.head_pred_set GRule.head_args_get GRule.head_args_set GOp.length_enc GOp.ok_enc GOp.all_get GOp.all_set GOp.kind_get GOp.kind_set GOp.pred_get GOp.pred_set GOp.t_get GOp.t_set GOp.n_get GOp.n_set GOp.base_get GOp.base_set GOp.rule_get GOp.rule_set GOp.rule_head_get GOp.rule_head_set GOp.rule_body_get GOp.rule_body_set GOp.rule_head_pred_get GOp.rule_head_pred_set GOp.rule_head_args_get GOp.rule_head_args_set PredInfo.length_enc PredInfo.ok_enc PredInfo.all_get PredInfo.all_set PredInfo.arity_get PredInfo.arity_set PredInfo.base_get PredInfo.base_set PredInfo.stratum_get PredInfo.stratum_set GStats.length_enc GStats.ok_enc GStats.all_get GStats.all_set GStats.rounds_get GStats.rounds_set GStats.fired_get GStats.fired_set GStats.emitted_get GStats.emitted_set GStats.fresh_get GStats.fresh_set Literal.length_enc Literal.ok_enc Literal.all_get Literal.all_set Literal.neg_get Literal.neg_set Literal.atom_get Literal.atom_set Literal.atom_pred_get Literal.atom_pred_set Literal.atom_args_get Literal.atom_args_set Engine.length_enc Engine.ok_enc Engine.all_get Engine.all_set Engine.prog_get Engine.prog_set Engine.st_get Engine.st_set Engine.levels_get Engine.levels_set Engine.running_get Engine.running_set Engine.stratum_get Engine.stratum_set Engine.round_get Engine.round_set Engine.saved_get Engine.saved_set Engine.stats_get Engine.stats_set Engine.prog_preds_get Engine.prog_preds_set Engine.prog_rules_get Engine.prog_rules_set Engine.prog_strata_get Engine.prog_strata_set Engine.stats_rounds_get Engine.stats_rounds_set Engine.stats_fired_get Engine.stats_fired_set Engine.stats_emitted_get Engine.stats_emitted_set Engine.stats_fresh_get Engine.stats_fresh_set Level.length_enc Level.ok_enc Level.all_get Level.all_set Level.heads_get Level.heads_set Level.jobs_get Level.jobs_set Plan.length_enc Plan.ok_enc Plan.all_get Plan.all_set Plan.rule_get Plan.rule_set Plan.delta_get Plan.delta_set Plan.src_get Plan.src_set Job.length_enc Job.ok_enc Job.all_get Job.all_set Job.full_get Job.full_set Job.deltas_get Job.deltas_set Job.full_rule_get Job.full_rule_set Job.full_delta_get Job.full_delta_set Job.full_src_get Job.full_src_set GState.length_enc GState.ok_enc GState.all_get GState.all_set GState.prog_get GState.prog_set GState.base_get GState.base_set GState.shown_get GState.shown_set GState.prog_preds_get GState.prog_preds_set GState.prog_rules_get GState.prog_rules_set GState.prog_strata_get GState.prog_strata_set Store.length_enc Store.ok_enc Store.all_get Store.all_set Store.arity_get Store.arity_set Store.rows_get Store.rows_set Env.length_enc Env.ok_enc Env.all_get Env.all_set Env.val_get Env.val_set Env.set_get Env.set_set
attribute [local go_sem] size_put size_ext blk_put free_put blk_alloc free_alloc blk_drew free_drew blk_ext free_ext lookOr_some putOr_some segAt_some cellAt_some storeIn_some put_put put_alloc_new length_arr ok_arr_u8 ok_arr_u32 ok_arr_u64 ok_arr_i64 ok_arr_sl cellsV_agg cellsV_int cellsV_bool cellsV_string cellsV_pointer cellsV_slice cellsV_sl ok_int ok_bool ok_string ok_pointer ok_slice ok_sl toList_arr seg_arr set_arr nth_splice nth_splice0 seg_splice seg_splice0 splice_splice splice_splice0 length_splice_if
attribute [local go_sem ↓] execOp_box
attribute [local go_sem] box_run nth_arr_u8 put_arr_u8 blk_drewN free_drewN put_drewN blk_raw free_raw
def lb5I (p : Pg) (W6 : World) (a : Option Addr) (len cap b3 be i : Nat) (aa : Option Addr) (ac : Nat) (da : Option Addr) (D dc : Nat) (f : Nat → Value) (V : World) : Prop := f 0 = .slice a len cap ∧ f 3 = .pointer (some ⟨b3, 0, none⟩) ∧ f 4 = .pointer (some ⟨be, 0, none⟩) ∧ f 6 = .int .i64 (i : Nat) ∧ f 8 = .slice aa p.P.length ac ∧ f 9 = .slice da D dc ∧ ∃ s : Nat, s ≤ p.St ∧ f 10 = .int .i64 (s : Nat) ∧ Hid (W6.Extends V)
def lc5I (p : Pg) (W7 : World) (a : Option Addr) (len cap b3 be i : Nat) (aa : Option Addr) (ac : Nat) (da : Option Addr) (D dc s bo : Nat) (E : List (List Tup)) (f : Nat → Value) (V : World) : Prop := f 0 = .slice a len cap ∧ f 3 = .pointer (some ⟨b3, 0, none⟩) ∧ f 4 = .pointer (some ⟨be, 0, none⟩) ∧ f 6 = .int .i64 (i : Nat) ∧ f 8 = .slice aa p.P.length ac ∧ f 9 = .slice da D dc ∧ f 10 = .int .i64 (s : Nat) ∧ f 11 = .slice (some ⟨bo, 0, none⟩) p.P.length p.P.length ∧ ∃ q : Nat, q ≤ p.P.length ∧ f 12 = .int .i64 (q : Nat) ∧ Hid (LwI W7 W7 bo p.P.length (lowT p s E) q V)
def ld5I (p : Pg) (W8 : World) (a : Option Addr) (len cap b3 be i : Nat) (aa : Option Addr) (ac : Nat) (da : Option Addr) (D dc s : Nat) (la : Option Addr) (lc : Nat) (f : Nat → Value) (V : World) : Prop := f 0 = .slice a len cap ∧ f 3 = .pointer (some ⟨b3, 0, none⟩) ∧ f 4 = .pointer (some ⟨be, 0, none⟩) ∧ f 6 = .int .i64 (i : Nat) ∧ f 8 = .slice aa p.P.length ac ∧ f 9 = .slice da D dc ∧ f 10 = .int .i64 (s : Nat) ∧ f 13 = .slice la p.P.length lc ∧ ∃ q : Nat, q ≤ p.P.length ∧ f 14 = .int .i64 (q : Nat) ∧ Hid (W8.Extends V)
attribute [local go_sem ↓] execOp_make
set_option maxRecDepth 100000 in
theorem frame137 (f : Nat → Value) : frameN 137 f = #[f 0, f 1, f 2, f 3, f 4, f 5, f 6, f 7, f 8, f 9, f 10, f 11, f 12, f 13, f 14, f 15, f 16, f 17, f 18, f 19, f 20, f 21, f 22, f 23, f 24, f 25, f 26, f 27, f 28, f 29, f 30, f 31, f 32, f 33, f 34, f 35, f 36, f 37, f 38, f 39, f 40, f 41, f 42, f 43, f 44, f 45, f 46, f 47, f 48, f 49, f 50, f 51, f 52, f 53, f 54, f 55, f 56, f 57, f 58, f 59, f 60, f 61, f 62, f 63, f 64, f 65, f 66, f 67, f 68, f 69, f 70, f 71, f 72, f 73, f 74, f 75, f 76, f 77, f 78, f 79, f 80, f 81, f 82, f 83, f 84, f 85, f 86, f 87, f 88, f 89, f 90, f 91, f 92, f 93, f 94, f 95, f 96, f 97, f 98, f 99, f 100, f 101, f 102, f 103, f 104, f 105, f 106, f 107, f 108, f 109, f 110, f 111, f 112, f 113, f 114, f 115, f 116, f 117, f 118, f 119, f 120, f 121, f 122, f 123, f 124, f 125, f 126, f 127, f 128, f 129, f 130, f 131, f 132, f 133, f 134, f 135, f 136] := by kernel_rfl
set_option maxRecDepth 20000 in
set_option maxHeartbeats 4000000 in
theorem strata_walk (w : World) (a : Option Addr) (len cap : Nat) (g : Nat → GOp) (dt : Nat → List Literal) (hS : ScriptAt w a len cap g dt) :
    Calls Try.prog 5 #[.slice a len cap] w fun e w' => e = .returned (.bool true) ∧ w.Extends w' := by
  obtain ⟨Q, hQ⟩ : ∃ Q, Q = (fun e w' => e = .returned (.bool true) ∧ w.Extends w' : Ending → World → Prop) := ⟨_, rfl⟩
  rw [← hQ]
  have HQ := hid_of hQ
  have HS := hid_of hS
  have hsm := small_any w a len cap g dt hS
  have HSM := hid_of hsm
  clear hQ hS hsm
  go_enter Try.func5, Try.ntmps5
  go_wp2_with fail
  refine HSM.out.mono ?_
  rintro e W ⟨⟨r, rfl, hr⟩, rfl⟩
  clear HSM
  dsimp only
  cases r with
  | false =>
    have HP : Hid (Q (.returned (.bool true)) W) := by
      show Q _ _
      rw [HQ.out]; exact ⟨rfl, ext_Ext (Ext.refl _)⟩
    go_wp2_with fail
    try go_ret
    exact HP.out
  | true =>
  obtain ⟨hlen, -⟩ := hr rfl
  have hpo := programOf_x W a len cap g dt HS.out hlen
  have HPO := hid_of hpo
  clear hpo hr
  go_wp2_with fail
  refine HPO.out.mono ?_
  intro e W2 hpx
  obtain ⟨x0, p, rfl, hx2, hprg, hok⟩ := progX_ok hpx
  clear HPO hpx
  dsimp only
  have g0l := GProgram.length_enc x0
  go_upto_region 4 with fail
  refine wp_world (fun V => blk V W2.heap.size = some x0.enc ∧ W2.Extends V) ⟨?_, ?_⟩ ?_
  · first | (rw [blk_put, if_pos rfl, blk_alloc, if_pos rfl]; rfl) | (rw [blk_alloc, if_pos rfl])
  · first | exact extends_put (extends_alloc (ext_Ext (Ext.refl _)) _) (Nat.le_refl _) _ | exact extends_alloc (ext_Ext (Ext.refl _)) _
  rintro W3 ⟨hb3, hx3⟩
  obtain ⟨b3, e3⟩ : ∃ b3, b3 = W2.heap.size := ⟨_, rfl⟩
  rw [← e3] at hb3 ⊢
  have hprg3 := hprg.ext hx3
  have HPRG := hid_of hprg3
  have HOK := hid_of hok
  have HXW := hid_of (hx2.trans hx3)
  have HB3 := hid_of hb3
  have hpl := hprg3.1
  have HPL := hid_of hpl
  have h64 := hok.nP
  have hx0 : nth x0.enc 0 = some (.slice x0.preds.a p.P.length x0.preds.cap) := by rw [← hpl]; exact GProgram.preds_get x0
  have hnw := new_x W3 (fun _ => .no) 0 p x0 (hprg3.sub (core_no W3)) hok (fun k _ => ⟨(by rintro ⟨m, e⟩; cases e), (by rintro ⟨m, e⟩; cases e)⟩)
  have HNW := hid_of hnw
  clear e3 hx3 hx2 hprg hprg3 hok hpl hnw
  go_wp2_with fail
  refine HNW.out.mono ?_
  rintro e V1 ⟨be, O1, x1, rfl, hx1, ho1, hE1, hr1⟩
  have HI0 : Hid (∃ S, E1 p W3 be S V1) := by
    have hrow : ∀ r, rowsAt (List.replicate (3 * p.P.length) ([] : List Tup)) r = [] := fun r => by
      unfold rowsAt
      rw [List.getD_eq_getElem?_getD, List.getElem?_replicate]
      by_cases hr : r < 3 * p.P.length
      · rw [if_pos hr]; rfl
      · rw [if_neg hr]; rfl
    refine ⟨_, O1, x1, _, hx1, ho1, hE1, hr1, ⟨⟨⟨by simp, fun L hL => ?_, fun q _ => hrow _⟩, fun q _ => hrow _⟩, fun q j _ _ t ht => by rw [hrow] at ht; cases ht⟩⟩
    rw [List.eq_of_mem_replicate hL]
    exact ⟨by simp, outOk_nil⟩
  clear HNW hx1 ho1 hE1 hr1 hb3
  dsimp only
  go_upto_region 6 with fail
  have HST : Hid (x0.strata = (p.St : Int)) := HPRG.out.2.2.1
  have hs65 := HOK.out.s2
  refine wp_loop_f 137 (la7I p W3 a len cap b3 be) (fun f _ => len - (intOf (f 6)).toNat) rfl ⟨rfl, rfl, rfl, 0, by omega, rfl, HI0⟩ ?_
  clear HI0
  intro F V hrel
  obtain ⟨f0, f3, f4, i, hi, f6, HI⟩ := hrel
  have H6 := hid_of f6
  rw [frame137, f0, f3, f4, f6]
  clear f0 f3 f4 f6
  obtain ⟨S, hE⟩ := HI.out
  have hxV : W3.Extends V := by obtain ⟨_, _, _, h, _⟩ := hE; exact h
  by_cases hin : i < len
  · have hin' : (i : Int) < (len : Int) := by omega
    obtain ⟨bs, o, C, rfl, hCW, hlC, hseg⟩ := (HS.out.mono HXW.out).2.2.2 (by omega)
    have hsg := hseg i hin
    have i0 : (0 : Int) ≤ (i : Int) := by omega
    have i2 : ((i : Int)).toNat = i := by omega
    have hil : (i + 1) * 18 ≤ len * 18 := Nat.mul_le_mul_right _ hin
    have l1 : o + i * 18 + 18 ≤ C.length := by omega
    have hpl := hE.play HOK.out (g i)
    have HPY := hid_of hpl
    have HCW := hid_of hCW
    have hC : blk V bs = some C := (hxV.blk (blk_lt hCW)).trans hCW
    have HSI := hid_of hE.wx.2
    clear hseg hpl hE HI hxV hil hCW
    go_wp2_with fail
    refine HPY.out.mono ?_
    rintro e V2 ⟨S', A, ts, rfl, hpr, hE'⟩
    have HPR := hid_of hpr
    have HE' := hid_of hE'
    have hal := Answer.length_enc A
    clear HPY hE' hC hpr
    dsimp only
    go_upto_region 9 with fail
    refine wp_world (fun V => blk V V2.heap.size = some A.enc ∧ V2.Extends V) ⟨?_, ?_⟩ ?_
    · first | (rw [blk_put, if_pos rfl, blk_alloc, if_pos rfl]; rfl) | (rw [blk_alloc, if_pos rfl])
    · first | exact extends_put (extends_alloc (ext_Ext (Ext.refl _)) _) (Nat.le_refl _) _ | exact extends_alloc (ext_Ext (Ext.refl _)) _
    rintro V3 ⟨hb7, hx3⟩
    obtain ⟨b7, e7⟩ : ∃ b7, b7 = V2.heap.size := ⟨_, rfl⟩
    rw [← e7] at hb7 ⊢
    have HE3 : Hid (E1 p W3 be S' V3) := HE'.out.ext hx3
    have hC : blk V3 bs = some C := (HE3.out.wx.1.blk (blk_lt HCW.out)).trans HCW.out
    have hk0 : nth C (o + i * 18) = some (.int .i64 (g i).kind) := nth_in (j := 0) hsg (GOp.kind_get (g i)) (by omega)
    have l2 : o + i * 18 < C.length := by omega
    clear e7 hx3 HE' hsg
    by_cases hk : (g i).kind = 4
    · rw [hk] at hk0
      by_cases hc : A.code = 0
      · obtain ⟨S0, hF, hS0⟩ := play_fin5 HOK.out HSI.out HPR.out hk hc
        have hla := HE3.out.la HOK.out b3 x0 HB3.out HPL.out
        have HLA := hid_of hla
        have HF := hid_of hF
        have HS0 := hid_of hS0
        clear hla hF hS0
        go_wp2_with fail
        refine HLA.out.mono ?_
        rintro e V4 ⟨aa, ac, rfl, hx4, hrel4⟩
        have HE4 : Hid (E1 p W3 be S' V4) := HE3.out.ext hx4
        have hes := HE4.out.wx
        have hpg4 : PgX V4 b3 p := (pgX_of HB3.out HPRG.out).ext hes.1
        have hdo := domain_any V4 b3 p hpg4 HOK.out aa ac (allT S') hrel4 (allT_relI hes.2)
        have HDO := hid_of hdo
        have HR4 := hid_of hrel4
        have HES := hid_of hes.2
        clear HLA hx4 hrel4 hdo hes HE3 hpg4
        dsimp only
        go_wp2_with fail
        refine HDO.out.mono ?_
        rintro e V5 ⟨da, D, dc, dom, rfl, hx5, hdn, hdi, hdc, hdr⟩
        have hdw := hdn.sub (newc_sub _ _)
        have HE5 : Hid (E1 p W3 be S' V5) := HE4.out.ext hx5
        have HPG : Hid (PgX V5 b3 p) := (pgX_of HB3.out HPRG.out).ext HE5.out.wx.1
        have HR5 : Hid (RelR V5 aa p.P.length (allT S')) := HR4.out.ext hx5
        have HDW := hid_of hdw
        have HDI := hid_of hdi
        have HDC := hid_of hdc
        have HDR := hid_of hdr
        have HX5 : Hid (V5.Extends V5) := ext_Ext (Ext.refl _)
        clear HDO hx5 hdn hdw hdi hdc hdr HE4 HR4 hC hk0 hb7 hal
        dsimp only
        go_upto_region 13 with fail
        refine wp_loop_f 137 (lb5I p V5 (some ⟨bs, o, none⟩) len cap b3 be i aa ac da D dc) (fun f _ => p.St - (intOf (f 10)).toNat) rfl ⟨rfl, rfl, rfl, rfl, rfl, rfl, 0, by omega, rfl, HX5⟩ ?_
        clear HX5
        intro F2 V6 hrel
        obtain ⟨f0, f3, f4, f6, f8, f9, s, hs, f10, HX6⟩ := hrel
        have H10 := hid_of f10
        rw [frame137, f0, f3, f4, f6, f8, f9, f10]
        clear f0 f3 f4 f6 f8 f9 f10
        have hb3V : blk V6 b3 = some x0.enc := ((HE5.out.wx.1.trans HX6.out).blk (blk_lt HB3.out)).trans HB3.out
        have hx2v : nth x0.enc 2 = some (.int .i64 (p.St : Int)) := by rw [← HST.out]; exact GProgram.strata_get x0
        by_cases hsS : s < p.St
        · have hsS' : (s : Int) < (p.St : Int) := by omega
          have hmk := make57 V6 p.P.length (by omega)
          go_upto_region 17 with fail
          refine wp_world (fun V => LwI V6 V6 V6.heap.size p.P.length (lowT p s S') 0 V) ?_ ?_
          · refine ⟨extends_alloc (ext_Ext (Ext.refl _)) _, Nat.le_refl _, [], rfl, ?_, ?_, fun q d hd => by (cases hd)⟩
            · rw [← List.toArray_replicate, blk_alloc, if_pos rfl]; rfl
            · rw [free_alloc, if_pos rfl]
          rintro V7 hI0
          have HI0 := hid_of hI0
          obtain ⟨bo, hbo⟩ : ∃ bo, bo = V6.heap.size := ⟨_, rfl⟩
          rw [← hbo] at HI0 ⊢
          clear hI0 hbo hmk hb3V
          refine wp_loop_f 137 (lc5I p V6 (some ⟨bs, o, none⟩) len cap b3 be i aa ac da D dc s bo S') (fun f _ => p.P.length - (intOf (f 12)).toNat) rfl ⟨rfl, rfl, rfl, rfl, rfl, rfl, rfl, rfl, 0, by omega, rfl, HI0⟩ ?_
          clear HI0
          intro F3 V8 hrel
          obtain ⟨f0, f3, f4, f6, f8, f9, f10, f11, q, hq, f12, HIL⟩ := hrel
          have H12 := hid_of f12
          rw [frame137, f0, f3, f4, f6, f8, f9, f10, f11, f12]
          clear f0 f3 f4 f6 f8 f9 f10 f11 f12
          have hx8 : V5.Extends V8 := HX6.out.trans HIL.out.1
          by_cases hqP : q < p.P.length
          · have hqP' : (q : Int) < (p.P.length : Int) := by omega
            obtain ⟨cP, Cb, CP, bP, e1, e2, e3, e4, e5, e6, e7, -⟩ := pgb_str (HPG.out.ext hx8) hqP
            obtain ⟨br, Cr, ta, tn, tc, hbr, g1, g2, -, g3, -⟩ := rel_at (HR5.out.ext hx8) hqP
            have hr6 : Rw tpl 4 V6 ta tn (allT S' q) := by
              obtain ⟨br', Cr', ta', tn', tc', hbr', g1', g2', -, g3', g4'⟩ := rel_at (HR5.out.ext HX6.out) hqP
              rw [hbr] at hbr'
              have hbb : br = br' := by injection hbr' with h1; injection h1
              subst hbb
              have := (HIL.out.1.blk (blk_lt g1')).trans g1'
              rw [g1] at this
              have hcc : Cr = Cr' := by injection this
              subst hcc
              rw [g3] at g3'
              injection g3' with g3'
              injection g3' with e1 e2 e3
              subst e1 e2 e3
              exact g4'
            subst hbr
            have q0 : (0 : Int) ≤ (q : Int) := by omega
            have q2 : ((q : Int)).toNat = q := by omega
            have c1 : q * 3 + 1 < CP.length := by omega
            have c2 : q * 3 + 2 < CP.length := by omega
            have c0 : 0 < Cb.length := by omega
            by_cases hlow : basP p q = true ∨ strP p q < (s : Int)
            · have hlt : lowT p s S' q = allT S' q := by unfold lowT; rw [if_pos hlow]
              obtain ⟨Co, o1, o2, o3, o4, hI'⟩ := HIL.out.put hqP (by rw [hlt]; exact hr6 : Rw tpl 4 V6 ta tn (lowT p s S' q)) (c := tc)
              have HI' := hid_of hI'
              clear hI' hlt hr6 HIL hx8
              cases hb : basP p q with
              | true =>
                rw [hb] at e6
                clear hlow
                go_wp2_with fail
                refine ⟨rfl, rfl, ⟨rfl, rfl, rfl, rfl, rfl, rfl, rfl, rfl, q + 1, by omega, ?_, HI'⟩, ?_⟩
                · show Value.int .i64 _ = _
                  go_num
                · show p.P.length - (intOf (Value.int .i64 _)).toNat < p.P.length - (intOf (F3 12)).toNat
                  rw [H12.out]
                  simp [intOf]; omega
              | false =>
                rw [hb] at e6
                have hst : strP p q < (s : Int) := by
                  rcases hlow with h | h
                  · rw [hb] at h; cases h
                  · exact h
                clear hlow
                go_wp2_with fail
                refine ⟨rfl, rfl, ⟨rfl, rfl, rfl, rfl, rfl, rfl, rfl, rfl, q + 1, by omega, ?_, HI'⟩, ?_⟩
                · show Value.int .i64 _ = _
                  go_num
                · show p.P.length - (intOf (Value.int .i64 _)).toNat < p.P.length - (intOf (F3 12)).toNat
                  rw [H12.out]
                  simp [intOf]; omega
            · have hlt : lowT p s S' q = [] := by unfold lowT; rw [if_neg hlow]
              have hI' := HIL.out.skip hqP hlt
              have HI' := hid_of hI'
              have hb : basP p q = false := by
                cases hb : basP p q with
                | false => rfl
                | true => exact absurd (.inl hb) hlow
              have hst : ¬ strP p q < (s : Int) := fun h => hlow (.inr h)
              rw [hb] at e6
              clear hI' hlt hr6 HIL hx8 hlow
              go_wp2_with fail
              refine ⟨rfl, rfl, ⟨rfl, rfl, rfl, rfl, rfl, rfl, rfl, rfl, q + 1, by omega, ?_, HI'⟩, ?_⟩
              · show Value.int .i64 _ = _
                go_num
              · show p.P.length - (intOf (Value.int .i64 _)).toNat < p.P.length - (intOf (F3 12)).toNat
                rw [H12.out]
                simp [intOf]; omega
          · obtain rfl : q = p.P.length := by omega
            have hqP' : ¬ ((p.P.length : Int) < (p.P.length : Int)) := by omega
            have hfx := fixpoint_any V8 b3 p (HPG.out.ext hx8) HOK.out s da D dc dom (HDW.out.grow hx8) HDI.out HDR.out (some ⟨bo, 0, none⟩) p.P.length (lowT p s S') (HIL.out.fin (Sub.ext HIL.out.1) (fun _ h => h)) (lowT_relI HES.out) (lowT_dom HDC.out)
            have HFX := hid_of hfx
            have HX8 := hid_of hx8
            clear hfx hx8 HIL
            go_wp2_with fail
            refine HFX.out.mono ?_
            rintro e V9 ⟨la, lc, T2, rfl, hx9, hrn9, hfix⟩
            have hr9 := hrn9.sub (newc_sub _ _)
            have HPM : Hid (∀ q, OwnP p s q → (T2 q).Perm (allT S' q)) := fin_least HOK.out HF.out HES.out HS0.out hsS hfix (bet_low HES.out)
            have HX9 : Hid (V5.Extends V9) := HX8.out.trans hx9
            have HR9 := hid_of hr9
            have HXL : Hid (V9.Extends V9) := ext_Ext (Ext.refl _)
            clear HFX hx9 hr9 hrn9 hfix HX8 HX6 H12
            dsimp only
            go_upto_region 23 with fail
            refine wp_loop_f 137 (ld5I p V9 (some ⟨bs, o, none⟩) len cap b3 be i aa ac da D dc s la lc) (fun f _ => p.P.length - (intOf (f 14)).toNat) rfl ⟨rfl, rfl, rfl, rfl, rfl, rfl, rfl, rfl, 0, by omega, rfl, HXL⟩ ?_
            clear HXL
            intro F4 V10 hrel
            obtain ⟨f0, f3, f4, f6, f8, f9, f10, f13, q, hq, f14, HXA⟩ := hrel
            have H14 := hid_of f14
            rw [frame137, f0, f3, f4, f6, f8, f9, f10, f13, f14]
            clear f0 f3 f4 f6 f8 f9 f10 f13 f14
            have hx10 : V5.Extends V10 := HX9.out.trans HXA.out
            by_cases hqP : q < p.P.length
            · have hqP' : (q : Int) < (p.P.length : Int) := by omega
              obtain ⟨cP, Cb, CP, bP, e1, e2, e3, e4, e5, e6, e7, -⟩ := pgb_str (HPG.out.ext hx10) hqP
              have q0 : (0 : Int) ≤ (q : Int) := by omega
              have q2 : ((q : Int)).toNat = q := by omega
              have c1 : q * 3 + 1 < CP.length := by omega
              have c2 : q * 3 + 2 < CP.length := by omega
              have c0 : 0 < Cb.length := by omega
              have HXD : Hid (V9.Extends V10.drew) := HXA.out.trans (extends_drew (ext_Ext (Ext.refl _)))
              cases hb : basP p q with
              | true =>
                rw [hb] at e6
                clear hx10 HXA
                go_upto_region 25 with fail
                refine wp_region_held_drew (S := fun W' => blk W' b3 = some Cb ∧ blk W' bP = some CP) (by kernel_rfl) ⟨e1, e4⟩ (fun hHeld => ?_)
                refine wpAnyH_take (i := 0) (oi := ⟨_, _, _, _, _, _⟩) (v := ?_) rfl (by kernel_rfl) (by kernel_rfl) (by kernel_rfl) (fun _ _ _ h => h) (Or.inl ⟨by rfl, ?_⟩) (by assumption) ?_
                rotate_left 1
                · intro W' hSw
                  obtain ⟨hS1, hS2⟩ := hSw
                  go_simp
                  try with_reducible rfl
                try simp only [Act.put, List.setIfInBounds_toArray, List.set_cons_zero, List.set_cons_succ]
                refine wpAnyH_take (i := 1) (oi := ⟨_, _, _, _, _, _⟩) (v := ?_) rfl (by kernel_rfl) (by kernel_rfl) (by kernel_rfl) (fun _ _ _ h => h) (Or.inl ⟨by rfl, ?_⟩) (by assumption) ?_
                rotate_left 1
                · intro W' hSw
                  obtain ⟨hS1, hS2⟩ := hSw
                  go_simp
                  try with_reducible rfl
                try simp only [Act.put, List.setIfInBounds_toArray, List.set_cons_zero, List.set_cons_succ]
                refine wpAnyH_take (i := 2) (oi := ⟨_, _, _, _, _, _⟩) (v := ?_) rfl (by kernel_rfl) (by kernel_rfl) (by kernel_rfl) (fun _ _ _ h => h) (Or.inl ⟨by rfl, ?_⟩) (by assumption) ?_
                rotate_left 1
                · intro W' hSw
                  obtain ⟨hS1, hS2⟩ := hSw
                  go_simp
                  try with_reducible rfl
                try simp only [Act.put, List.setIfInBounds_toArray, List.set_cons_zero, List.set_cons_succ]
                refine wpAnyH_take (i := 3) (oi := ⟨_, _, _, _, _, _⟩) (v := ?_) rfl (by kernel_rfl) (by kernel_rfl) (by kernel_rfl) (fun _ _ _ h => h) (Or.inl ⟨by rfl, ?_⟩) (by assumption) ?_
                rotate_left 1
                · intro W' hSw
                  obtain ⟨hS1, hS2⟩ := hSw
                  go_simp
                  try with_reducible rfl
                try simp only [Act.put, List.setIfInBounds_toArray, List.set_cons_zero, List.set_cons_succ]
                refine wpAnyH_take (i := 4) (oi := ⟨_, _, _, _, _, _⟩) (v := ?_) rfl (by kernel_rfl) (by kernel_rfl) (by kernel_rfl) (fun _ _ _ h => h) (Or.inl ⟨by rfl, ?_⟩) (by assumption) ?_
                rotate_left 1
                · intro W' hSw
                  obtain ⟨hS1, hS2⟩ := hSw
                  go_simp
                  try with_reducible rfl
                try simp only [Act.put, List.setIfInBounds_toArray, List.set_cons_zero, List.set_cons_succ]
                refine wpAnyH_take (i := 5) (oi := ⟨_, _, _, _, _, _⟩) (v := ?_) rfl (by kernel_rfl) (by kernel_rfl) (by kernel_rfl) (fun _ _ _ h => h) (Or.inl ⟨by rfl, ?_⟩) (by assumption) ?_
                rotate_left 1
                · intro W' hSw
                  obtain ⟨hS1, hS2⟩ := hSw
                  go_simp
                  try with_reducible rfl
                try simp only [Act.put, List.setIfInBounds_toArray, List.set_cons_zero, List.set_cons_succ]
                refine wpAnyH_take (i := 6) (oi := ⟨_, _, _, _, _, _⟩) (v := ?_) rfl (by kernel_rfl) (by kernel_rfl) (by kernel_rfl) (fun _ _ _ h => h) (Or.inl ⟨by rfl, ?_⟩) (by assumption) ?_
                rotate_left 1
                · intro W' hSw
                  obtain ⟨hS1, hS2⟩ := hSw
                  go_simp
                  try with_reducible rfl
                try simp only [Act.put, List.setIfInBounds_toArray, List.set_cons_zero, List.set_cons_succ]
                refine wpAnyH_take (i := 7) (oi := ⟨_, _, _, _, _, _⟩) (v := ?_) rfl (by kernel_rfl) (by kernel_rfl) (by kernel_rfl) (fun _ _ _ h => h) (Or.inl ⟨by rfl, ?_⟩) (by assumption) ?_
                rotate_left 1
                · intro W' hSw
                  obtain ⟨hS1, hS2⟩ := hSw
                  go_simp
                  try with_reducible rfl
                try simp only [Act.put, List.setIfInBounds_toArray, List.set_cons_zero, List.set_cons_succ]
                refine wpAnyH_take (i := 8) (oi := ⟨_, _, _, _, _, _⟩) (v := undef) rfl (by kernel_rfl) (by kernel_rfl) (by kernel_rfl) (fun _ _ _ h => h) (Or.inr ⟨by rfl, rfl⟩) (by assumption) ?_
                try simp only [Act.put, List.setIfInBounds_toArray, List.set_cons_zero, List.set_cons_succ]
                refine wpAnyH_take (i := 9) (oi := ⟨_, _, _, _, _, _⟩) (v := undef) rfl (by kernel_rfl) (by kernel_rfl) (by kernel_rfl) (fun _ _ _ h => h) (Or.inr ⟨by rfl, rfl⟩) (by assumption) ?_
                try simp only [Act.put, List.setIfInBounds_toArray, List.set_cons_zero, List.set_cons_succ]
                refine wpAnyH_take (i := 10) (oi := ⟨_, _, _, _, _, _⟩) (v := undef) rfl (by kernel_rfl) (by kernel_rfl) (by kernel_rfl) (fun _ _ _ h => h) (Or.inr ⟨by rfl, rfl⟩) (by assumption) ?_
                try simp only [Act.put, List.setIfInBounds_toArray, List.set_cons_zero, List.set_cons_succ]
                refine wpAnyH_take (i := 11) (oi := ⟨_, _, _, _, _, _⟩) (v := undef) rfl (by kernel_rfl) (by kernel_rfl) (by kernel_rfl) (fun _ _ _ h => h) (Or.inr ⟨by rfl, rfl⟩) (by assumption) ?_
                try simp only [Act.put, List.setIfInBounds_toArray, List.set_cons_zero, List.set_cons_succ]
                refine wpAnyH_take (i := 12) (oi := ⟨_, _, _, _, _, _⟩) (v := undef) rfl (by kernel_rfl) (by kernel_rfl) (by kernel_rfl) (fun _ _ _ h => h) (Or.inr ⟨by rfl, rfl⟩) (by assumption) ?_
                try simp only [Act.put, List.setIfInBounds_toArray, List.set_cons_zero, List.set_cons_succ]
                refine wpAnyH_take (i := 13) (oi := ⟨_, _, _, _, _, _⟩) (v := undef) rfl (by kernel_rfl) (by kernel_rfl) (by kernel_rfl) (fun _ _ _ h => h) (Or.inr ⟨by rfl, rfl⟩) (by assumption) ?_
                try simp only [Act.put, List.setIfInBounds_toArray, List.set_cons_zero, List.set_cons_succ]
                refine wpAnyH_take (i := 14) (oi := ⟨_, _, _, _, _, _⟩) (v := undef) rfl (by kernel_rfl) (by kernel_rfl) (by kernel_rfl) (fun _ _ _ h => h) (Or.inr ⟨by rfl, rfl⟩) (by assumption) ?_
                try simp only [Act.put, List.setIfInBounds_toArray, List.set_cons_zero, List.set_cons_succ]
                refine wpAnyH_take (i := 15) (oi := ⟨_, _, _, _, _, _⟩) (v := undef) rfl (by kernel_rfl) (by kernel_rfl) (by kernel_rfl) (fun _ _ _ h => h) (Or.inr ⟨by rfl, rfl⟩) (by assumption) ?_
                try simp only [Act.put, List.setIfInBounds_toArray, List.set_cons_zero, List.set_cons_succ]
                refine wpAnyH_take (i := 16) (oi := ⟨_, _, _, _, _, _⟩) (v := ?_) rfl (by kernel_rfl) (by kernel_rfl) (by kernel_rfl) (fun _ _ _ h => h) (Or.inl ⟨by rfl, ?_⟩) (by assumption) ?_
                rotate_left 1
                · intro W' hSw
                  obtain ⟨hS1, hS2⟩ := hSw
                  go_simp
                  try with_reducible rfl
                try simp only [Act.put, List.setIfInBounds_toArray, List.set_cons_zero, List.set_cons_succ]
                refine wpAnyH_take (i := 17) (oi := ⟨_, _, _, _, _, _⟩) (v := ?_) rfl (by kernel_rfl) (by kernel_rfl) (by kernel_rfl) (fun _ _ _ h => h) (Or.inl ⟨by rfl, ?_⟩) (by assumption) ?_
                rotate_left 1
                · intro W' hSw
                  obtain ⟨hS1, hS2⟩ := hSw
                  go_simp
                  try with_reducible rfl
                try simp only [Act.put, List.setIfInBounds_toArray, List.set_cons_zero, List.set_cons_succ]
                refine wpAnyH_take (i := 18) (oi := ⟨_, _, _, _, _, _⟩) (v := undef) rfl (by kernel_rfl) (by kernel_rfl) (by kernel_rfl) (fun _ _ _ h => h) (Or.inr ⟨by rfl, rfl⟩) (by assumption) ?_
                try simp only [Act.put, List.setIfInBounds_toArray, List.set_cons_zero, List.set_cons_succ]
                refine wpAnyH_take (i := 19) (oi := ⟨_, _, _, _, _, _⟩) (v := undef) rfl (by kernel_rfl) (by kernel_rfl) (by kernel_rfl) (fun _ _ _ h => h) (Or.inr ⟨by rfl, rfl⟩) (by assumption) ?_
                try simp only [Act.put, List.setIfInBounds_toArray, List.set_cons_zero, List.set_cons_succ]
                refine wpAnyH_take (i := 20) (oi := ⟨_, _, _, _, _, _⟩) (v := undef) rfl (by kernel_rfl) (by kernel_rfl) (by kernel_rfl) (fun _ _ _ h => h) (Or.inr ⟨by rfl, rfl⟩) (by assumption) ?_
                try simp only [Act.put, List.setIfInBounds_toArray, List.set_cons_zero, List.set_cons_succ]
                refine wpAnyH_take (i := 21) (oi := ⟨_, _, _, _, _, _⟩) (v := undef) rfl (by kernel_rfl) (by kernel_rfl) (by kernel_rfl) (fun _ _ _ h => h) (Or.inr ⟨by rfl, rfl⟩) (by assumption) ?_
                try simp only [Act.put, List.setIfInBounds_toArray, List.set_cons_zero, List.set_cons_succ]
                refine wpAnyH_take (i := 22) (oi := ⟨_, _, _, _, _, _⟩) (v := undef) rfl (by kernel_rfl) (by kernel_rfl) (by kernel_rfl) (fun _ _ _ h => h) (Or.inr ⟨by rfl, rfl⟩) (by assumption) ?_
                try simp only [Act.put, List.setIfInBounds_toArray, List.set_cons_zero, List.set_cons_succ]
                refine wpAnyH_take (i := 23) (oi := ⟨_, _, _, _, _, _⟩) (v := undef) rfl (by kernel_rfl) (by kernel_rfl) (by kernel_rfl) (fun _ _ _ h => h) (Or.inr ⟨by rfl, rfl⟩) (by assumption) ?_
                try simp only [Act.put, List.setIfInBounds_toArray, List.set_cons_zero, List.set_cons_succ]
                refine wpAnyH_take (i := 24) (oi := ⟨_, _, _, _, _, _⟩) (v := undef) rfl (by kernel_rfl) (by kernel_rfl) (by kernel_rfl) (fun _ _ _ h => h) (Or.inr ⟨by rfl, rfl⟩) (by assumption) ?_
                try simp only [Act.put, List.setIfInBounds_toArray, List.set_cons_zero, List.set_cons_succ]
                refine wpAnyH_take (i := 25) (oi := ⟨_, _, _, _, _, _⟩) (v := undef) rfl (by kernel_rfl) (by kernel_rfl) (by kernel_rfl) (fun _ _ _ h => h) (Or.inr ⟨by rfl, rfl⟩) (by assumption) ?_
                try simp only [Act.put, List.setIfInBounds_toArray, List.set_cons_zero, List.set_cons_succ]
                refine wpAnyH_take (i := 26) (oi := ⟨_, _, _, _, _, _⟩) (v := undef) rfl (by kernel_rfl) (by kernel_rfl) (by kernel_rfl) (fun _ _ _ h => h) (Or.inr ⟨by rfl, rfl⟩) (by assumption) ?_
                try simp only [Act.put, List.setIfInBounds_toArray, List.set_cons_zero, List.set_cons_succ]
                refine wpAnyH_take (i := 27) (oi := ⟨_, _, _, _, _, _⟩) (v := undef) rfl (by kernel_rfl) (by kernel_rfl) (by kernel_rfl) (fun _ _ _ h => h) (Or.inr ⟨by rfl, rfl⟩) (by assumption) ?_
                try simp only [Act.put, List.setIfInBounds_toArray, List.set_cons_zero, List.set_cons_succ]
                refine wpAnyH_take (i := 28) (oi := ⟨_, _, _, _, _, _⟩) (v := ?_) rfl (by kernel_rfl) (by kernel_rfl) (by kernel_rfl) (fun _ _ _ h => h) (Or.inl ⟨by rfl, ?_⟩) (by assumption) ?_
                rotate_left 1
                · intro W' hSw
                  obtain ⟨hS1, hS2⟩ := hSw
                  go_simp
                  try with_reducible rfl
                try simp only [Act.put, List.setIfInBounds_toArray, List.set_cons_zero, List.set_cons_succ]
                refine wpAnyH_done (by kernel_rfl) ?_ _
                clear hHeld
                go_wp2_with fail
                refine ⟨rfl, rfl, ⟨rfl, rfl, rfl, rfl, rfl, rfl, rfl, rfl, q + 1, by omega, ?_, HXD⟩, ?_⟩
                · show Value.int .i64 _ = _
                  go_num
                · show p.P.length - (intOf (Value.int .i64 _)).toNat < p.P.length - (intOf (F4 14)).toNat
                  rw [H14.out]
                  simp [intOf]; omega
              | false =>
                rw [hb] at e6
                by_cases hst : strP p q = (s : Int)
                · obtain ⟨br, Cr, ta, tn, tc, rfl, g1, g2, -, g3, g4⟩ := rel_at (HR5.out.ext hx10) hqP
                  obtain ⟨bl, Cl, ua, un, uc, rfl, k1, k2, -, k3, k4⟩ := rel_at (HR9.out.ext HXA.out) hqP
                  have hdr : V10.Extends V10.drew := extends_drew (ext_Ext (Ext.refl _))
                  have hsb := sameBag_perm V10.drew ta tn tc ua un uc (allT S' q) (T2 q) (g4.grow hdr) (k4.grow hdr) (HPM.out q ⟨hqP, hb, hst⟩) (by rw [← g4.1]; exact Nat.le_trans (HES.out.1.1.2.1.at (3 * q)).1 (by omega))
                  have HSB := hid_of hsb
                  rw [hst] at e7
                  clear hx10 HXA hsb hdr g4 k4
                  go_upto_region 25 with fail
                  refine wp_region_held_drew (S := fun W' => blk W' b3 = some Cb ∧ blk W' bP = some CP ∧ blk W' br = some Cr ∧ blk W' bl = some Cl) (by kernel_rfl) ⟨e1, e4, g1, k1⟩ (fun hHeld => ?_)
                  refine wpAnyH_take (i := 0) (oi := ⟨_, _, _, _, _, _⟩) (v := ?_) rfl (by kernel_rfl) (by kernel_rfl) (by kernel_rfl) (fun _ _ _ h => h) (Or.inl ⟨by rfl, ?_⟩) (by assumption) ?_
                  rotate_left 1
                  · intro W' hSw
                    obtain ⟨hS1, hS2, hS3, hS4⟩ := hSw
                    go_simp
                    try with_reducible rfl
                  try simp only [Act.put, List.setIfInBounds_toArray, List.set_cons_zero, List.set_cons_succ]
                  refine wpAnyH_take (i := 1) (oi := ⟨_, _, _, _, _, _⟩) (v := ?_) rfl (by kernel_rfl) (by kernel_rfl) (by kernel_rfl) (fun _ _ _ h => h) (Or.inl ⟨by rfl, ?_⟩) (by assumption) ?_
                  rotate_left 1
                  · intro W' hSw
                    obtain ⟨hS1, hS2, hS3, hS4⟩ := hSw
                    go_simp
                    try with_reducible rfl
                  try simp only [Act.put, List.setIfInBounds_toArray, List.set_cons_zero, List.set_cons_succ]
                  refine wpAnyH_take (i := 2) (oi := ⟨_, _, _, _, _, _⟩) (v := ?_) rfl (by kernel_rfl) (by kernel_rfl) (by kernel_rfl) (fun _ _ _ h => h) (Or.inl ⟨by rfl, ?_⟩) (by assumption) ?_
                  rotate_left 1
                  · intro W' hSw
                    obtain ⟨hS1, hS2, hS3, hS4⟩ := hSw
                    go_simp
                    try with_reducible rfl
                  try simp only [Act.put, List.setIfInBounds_toArray, List.set_cons_zero, List.set_cons_succ]
                  refine wpAnyH_take (i := 3) (oi := ⟨_, _, _, _, _, _⟩) (v := ?_) rfl (by kernel_rfl) (by kernel_rfl) (by kernel_rfl) (fun _ _ _ h => h) (Or.inl ⟨by rfl, ?_⟩) (by assumption) ?_
                  rotate_left 1
                  · intro W' hSw
                    obtain ⟨hS1, hS2, hS3, hS4⟩ := hSw
                    go_simp
                    try with_reducible rfl
                  try simp only [Act.put, List.setIfInBounds_toArray, List.set_cons_zero, List.set_cons_succ]
                  refine wpAnyH_take (i := 4) (oi := ⟨_, _, _, _, _, _⟩) (v := ?_) rfl (by kernel_rfl) (by kernel_rfl) (by kernel_rfl) (fun _ _ _ h => h) (Or.inl ⟨by rfl, ?_⟩) (by assumption) ?_
                  rotate_left 1
                  · intro W' hSw
                    obtain ⟨hS1, hS2, hS3, hS4⟩ := hSw
                    go_simp
                    try with_reducible rfl
                  try simp only [Act.put, List.setIfInBounds_toArray, List.set_cons_zero, List.set_cons_succ]
                  refine wpAnyH_take (i := 5) (oi := ⟨_, _, _, _, _, _⟩) (v := ?_) rfl (by kernel_rfl) (by kernel_rfl) (by kernel_rfl) (fun _ _ _ h => h) (Or.inl ⟨by rfl, ?_⟩) (by assumption) ?_
                  rotate_left 1
                  · intro W' hSw
                    obtain ⟨hS1, hS2, hS3, hS4⟩ := hSw
                    go_simp
                    try with_reducible rfl
                  try simp only [Act.put, List.setIfInBounds_toArray, List.set_cons_zero, List.set_cons_succ]
                  refine wpAnyH_take (i := 6) (oi := ⟨_, _, _, _, _, _⟩) (v := ?_) rfl (by kernel_rfl) (by kernel_rfl) (by kernel_rfl) (fun _ _ _ h => h) (Or.inl ⟨by rfl, ?_⟩) (by assumption) ?_
                  rotate_left 1
                  · intro W' hSw
                    obtain ⟨hS1, hS2, hS3, hS4⟩ := hSw
                    go_simp
                    try with_reducible rfl
                  try simp only [Act.put, List.setIfInBounds_toArray, List.set_cons_zero, List.set_cons_succ]
                  refine wpAnyH_take (i := 7) (oi := ⟨_, _, _, _, _, _⟩) (v := ?_) rfl (by kernel_rfl) (by kernel_rfl) (by kernel_rfl) (fun _ _ _ h => h) (Or.inl ⟨by rfl, ?_⟩) (by assumption) ?_
                  rotate_left 1
                  · intro W' hSw
                    obtain ⟨hS1, hS2, hS3, hS4⟩ := hSw
                    go_simp
                    try with_reducible rfl
                  try simp only [Act.put, List.setIfInBounds_toArray, List.set_cons_zero, List.set_cons_succ]
                  refine wpAnyH_take (i := 8) (oi := ⟨_, _, _, _, _, _⟩) (v := ?_) rfl (by kernel_rfl) (by kernel_rfl) (by kernel_rfl) (fun _ _ _ h => h) (Or.inl ⟨by rfl, ?_⟩) (by assumption) ?_
                  rotate_left 1
                  · intro W' hSw
                    obtain ⟨hS1, hS2, hS3, hS4⟩ := hSw
                    go_simp
                    try with_reducible rfl
                  try simp only [Act.put, List.setIfInBounds_toArray, List.set_cons_zero, List.set_cons_succ]
                  refine wpAnyH_take (i := 9) (oi := ⟨_, _, _, _, _, _⟩) (v := ?_) rfl (by kernel_rfl) (by kernel_rfl) (by kernel_rfl) (fun _ _ _ h => h) (Or.inl ⟨by rfl, ?_⟩) (by assumption) ?_
                  rotate_left 1
                  · intro W' hSw
                    obtain ⟨hS1, hS2, hS3, hS4⟩ := hSw
                    go_simp
                    try with_reducible rfl
                  try simp only [Act.put, List.setIfInBounds_toArray, List.set_cons_zero, List.set_cons_succ]
                  refine wpAnyH_take (i := 10) (oi := ⟨_, _, _, _, _, _⟩) (v := ?_) rfl (by kernel_rfl) (by kernel_rfl) (by kernel_rfl) (fun _ _ _ h => h) (Or.inl ⟨by rfl, ?_⟩) (by assumption) ?_
                  rotate_left 1
                  · intro W' hSw
                    obtain ⟨hS1, hS2, hS3, hS4⟩ := hSw
                    go_simp
                    try with_reducible rfl
                  try simp only [Act.put, List.setIfInBounds_toArray, List.set_cons_zero, List.set_cons_succ]
                  refine wpAnyH_take (i := 11) (oi := ⟨_, _, _, _, _, _⟩) (v := ?_) rfl (by kernel_rfl) (by kernel_rfl) (by kernel_rfl) (fun _ _ _ h => h) (Or.inl ⟨by rfl, ?_⟩) (by assumption) ?_
                  rotate_left 1
                  · intro W' hSw
                    obtain ⟨hS1, hS2, hS3, hS4⟩ := hSw
                    go_simp
                    try with_reducible rfl
                  try simp only [Act.put, List.setIfInBounds_toArray, List.set_cons_zero, List.set_cons_succ]
                  refine wpAnyH_take (i := 12) (oi := ⟨_, _, _, _, _, _⟩) (v := ?_) rfl (by kernel_rfl) (by kernel_rfl) (by kernel_rfl) (fun _ _ _ h => h) (Or.inl ⟨by rfl, ?_⟩) (by assumption) ?_
                  rotate_left 1
                  · intro W' hSw
                    obtain ⟨hS1, hS2, hS3, hS4⟩ := hSw
                    go_simp
                    try with_reducible rfl
                  try simp only [Act.put, List.setIfInBounds_toArray, List.set_cons_zero, List.set_cons_succ]
                  refine wpAnyH_take (i := 13) (oi := ⟨_, _, _, _, _, _⟩) (v := ?_) rfl (by kernel_rfl) (by kernel_rfl) (by kernel_rfl) (fun _ _ _ h => h) (Or.inl ⟨by rfl, ?_⟩) (by assumption) ?_
                  rotate_left 1
                  · intro W' hSw
                    obtain ⟨hS1, hS2, hS3, hS4⟩ := hSw
                    go_simp
                    try with_reducible rfl
                  try simp only [Act.put, List.setIfInBounds_toArray, List.set_cons_zero, List.set_cons_succ]
                  refine wpAnyH_take (i := 14) (oi := ⟨_, _, _, _, _, _⟩) (v := ?_) rfl (by kernel_rfl) (by kernel_rfl) (by kernel_rfl) (fun _ _ _ h => h) (Or.inl ⟨by rfl, ?_⟩) (by assumption) ?_
                  rotate_left 1
                  · intro W' hSw
                    obtain ⟨hS1, hS2, hS3, hS4⟩ := hSw
                    go_simp
                    try with_reducible rfl
                  try simp only [Act.put, List.setIfInBounds_toArray, List.set_cons_zero, List.set_cons_succ]
                  refine wpAnyH_take (i := 15) (oi := ⟨_, _, _, _, _, _⟩) (v := ?_) rfl (by kernel_rfl) (by kernel_rfl) (by kernel_rfl) (fun _ _ _ h => h) (Or.inl ⟨by rfl, ?_⟩) (by assumption) ?_
                  rotate_left 1
                  · intro W' hSw
                    obtain ⟨hS1, hS2, hS3, hS4⟩ := hSw
                    go_simp
                    try with_reducible rfl
                  try simp only [Act.put, List.setIfInBounds_toArray, List.set_cons_zero, List.set_cons_succ]
                  refine wpAnyH_take (i := 16) (oi := ⟨_, _, _, _, _, _⟩) (v := ?_) rfl (by kernel_rfl) (by kernel_rfl) (by kernel_rfl) (fun _ _ _ h => h) (Or.inl ⟨by rfl, ?_⟩) (by assumption) ?_
                  rotate_left 1
                  · intro W' hSw
                    obtain ⟨hS1, hS2, hS3, hS4⟩ := hSw
                    go_simp
                    try with_reducible rfl
                  try simp only [Act.put, List.setIfInBounds_toArray, List.set_cons_zero, List.set_cons_succ]
                  refine wpAnyH_take (i := 17) (oi := ⟨_, _, _, _, _, _⟩) (v := ?_) rfl (by kernel_rfl) (by kernel_rfl) (by kernel_rfl) (fun _ _ _ h => h) (Or.inl ⟨by rfl, ?_⟩) (by assumption) ?_
                  rotate_left 1
                  · intro W' hSw
                    obtain ⟨hS1, hS2, hS3, hS4⟩ := hSw
                    go_simp
                    try with_reducible rfl
                  try simp only [Act.put, List.setIfInBounds_toArray, List.set_cons_zero, List.set_cons_succ]
                  refine wpAnyH_take (i := 18) (oi := ⟨_, _, _, _, _, _⟩) (v := ?_) rfl (by kernel_rfl) (by kernel_rfl) (by kernel_rfl) (fun _ _ _ h => h) (Or.inl ⟨by rfl, ?_⟩) (by assumption) ?_
                  rotate_left 1
                  · intro W' hSw
                    obtain ⟨hS1, hS2, hS3, hS4⟩ := hSw
                    go_simp
                    try with_reducible rfl
                  try simp only [Act.put, List.setIfInBounds_toArray, List.set_cons_zero, List.set_cons_succ]
                  refine wpAnyH_take (i := 19) (oi := ⟨_, _, _, _, _, _⟩) (v := ?_) rfl (by kernel_rfl) (by kernel_rfl) (by kernel_rfl) (fun _ _ _ h => h) (Or.inl ⟨by rfl, ?_⟩) (by assumption) ?_
                  rotate_left 1
                  · intro W' hSw
                    obtain ⟨hS1, hS2, hS3, hS4⟩ := hSw
                    go_simp
                    try with_reducible rfl
                  try simp only [Act.put, List.setIfInBounds_toArray, List.set_cons_zero, List.set_cons_succ]
                  refine wpAnyH_take (i := 20) (oi := ⟨_, _, _, _, _, _⟩) (v := ?_) rfl (by kernel_rfl) (by kernel_rfl) (by kernel_rfl) (fun _ _ _ h => h) (Or.inl ⟨by rfl, ?_⟩) (by assumption) ?_
                  rotate_left 1
                  · intro W' hSw
                    obtain ⟨hS1, hS2, hS3, hS4⟩ := hSw
                    go_simp
                    try with_reducible rfl
                  try simp only [Act.put, List.setIfInBounds_toArray, List.set_cons_zero, List.set_cons_succ]
                  refine wpAnyH_take (i := 21) (oi := ⟨_, _, _, _, _, _⟩) (v := ?_) rfl (by kernel_rfl) (by kernel_rfl) (by kernel_rfl) (fun _ _ _ h => h) (Or.inl ⟨by rfl, ?_⟩) (by assumption) ?_
                  rotate_left 1
                  · intro W' hSw
                    obtain ⟨hS1, hS2, hS3, hS4⟩ := hSw
                    go_simp
                    try with_reducible rfl
                  try simp only [Act.put, List.setIfInBounds_toArray, List.set_cons_zero, List.set_cons_succ]
                  refine wpAnyH_take (i := 22) (oi := ⟨_, _, _, _, _, _⟩) (v := ?_) rfl (by kernel_rfl) (by kernel_rfl) (by kernel_rfl) (fun _ _ _ h => h) (Or.inl ⟨by rfl, ?_⟩) (by assumption) ?_
                  rotate_left 1
                  · intro W' hSw
                    obtain ⟨hS1, hS2, hS3, hS4⟩ := hSw
                    go_simp
                    try with_reducible rfl
                  try simp only [Act.put, List.setIfInBounds_toArray, List.set_cons_zero, List.set_cons_succ]
                  refine wpAnyH_take (i := 23) (oi := ⟨_, _, _, _, _, _⟩) (v := ?_) rfl (by kernel_rfl) (by kernel_rfl) (by kernel_rfl) (fun _ _ _ h => h) (Or.inl ⟨by rfl, ?_⟩) (by assumption) ?_
                  rotate_left 1
                  · intro W' hSw
                    obtain ⟨hS1, hS2, hS3, hS4⟩ := hSw
                    go_simp
                    try with_reducible rfl
                  try simp only [Act.put, List.setIfInBounds_toArray, List.set_cons_zero, List.set_cons_succ]
                  refine wpAnyH_take (i := 24) (oi := ⟨_, _, _, _, _, _⟩) (v := ?_) rfl (by kernel_rfl) (by kernel_rfl) (by kernel_rfl) (fun _ _ _ h => h) (Or.inl ⟨by rfl, ?_⟩) (by assumption) ?_
                  rotate_left 1
                  · intro W' hSw
                    obtain ⟨hS1, hS2, hS3, hS4⟩ := hSw
                    go_simp
                    try with_reducible rfl
                  try simp only [Act.put, List.setIfInBounds_toArray, List.set_cons_zero, List.set_cons_succ]
                  refine wpAnyH_take (i := 25) (oi := ⟨_, _, _, _, _, _⟩) (v := ?_) rfl (by kernel_rfl) (by kernel_rfl) (by kernel_rfl) (fun _ _ _ h => h) (Or.inl ⟨by rfl, ?_⟩) (by assumption) ?_
                  rotate_left 1
                  · intro W' hSw
                    obtain ⟨hS1, hS2, hS3, hS4⟩ := hSw
                    go_simp
                    try with_reducible rfl
                  try simp only [Act.put, List.setIfInBounds_toArray, List.set_cons_zero, List.set_cons_succ]
                  refine wpAnyH_ready (rs := [26]) (by kernel_rfl) (by simp) ?_
                  refine AllReadyH.cons (o := ⟨_, _, _, _, _, _⟩) rfl (fun K' hK => ?_) AllReadyH.nil
                  go_simp
                  refine HSB.out.mono ?_
                  rintro en V11 ⟨rfl, hx11⟩
                  have HXE : Hid (V9.Extends V11) := HXD.out.trans hx11
                  have u1 : blk V11 b3 = some Cb := (hx11.blk (blk_lt e1)).trans e1
                  have u2 : blk V11 bP = some CP := (hx11.blk (blk_lt e4)).trans e4
                  have u3 : blk V11 br = some Cr := (hx11.blk (blk_lt g1)).trans g1
                  have u4 : blk V11 bl = some Cl := (hx11.blk (blk_lt k1)).trans k1
                  clear hx11 HSB
                  dsimp only
                  refine hK.out _ _ ⟨u1, u2, u3, u4⟩ (fun hHeld => ?_)
                  clear hK K'
                  try simp only [Act.put, List.setIfInBounds_toArray, List.set_cons_zero, List.set_cons_succ]
                  refine wpAnyH_take (i := 27) (oi := ⟨_, _, _, _, _, _⟩) (v := ?_) rfl (by kernel_rfl) (by kernel_rfl) (by kernel_rfl) (fun _ _ _ h => h) (Or.inl ⟨by rfl, ?_⟩) (by assumption) ?_
                  rotate_left 1
                  · intro W' hSw
                    obtain ⟨hS1, hS2, hS3, hS4⟩ := hSw
                    go_simp
                    try with_reducible rfl
                  try simp only [Act.put, List.setIfInBounds_toArray, List.set_cons_zero, List.set_cons_succ]
                  refine wpAnyH_take (i := 28) (oi := ⟨_, _, _, _, _, _⟩) (v := ?_) rfl (by kernel_rfl) (by kernel_rfl) (by kernel_rfl) (fun _ _ _ h => h) (Or.inl ⟨by rfl, ?_⟩) (by assumption) ?_
                  rotate_left 1
                  · intro W' hSw
                    obtain ⟨hS1, hS2, hS3, hS4⟩ := hSw
                    go_simp
                    try with_reducible rfl
                  try simp only [Act.put, List.setIfInBounds_toArray, List.set_cons_zero, List.set_cons_succ]
                  refine wpAnyH_done (by kernel_rfl) ?_ _
                  clear hHeld
                  go_wp2_with fail
                  refine ⟨rfl, rfl, ⟨rfl, rfl, rfl, rfl, rfl, rfl, rfl, rfl, q + 1, by omega, ?_, HXE⟩, ?_⟩
                  · show Value.int .i64 _ = _
                    go_num
                  · show p.P.length - (intOf (Value.int .i64 _)).toNat < p.P.length - (intOf (F4 14)).toNat
                    rw [H14.out]
                    simp [intOf]; omega
                · obtain ⟨sv, hsv⟩ : ∃ sv, sv = strP p q := ⟨_, rfl⟩
                  rw [← hsv] at e7 hst
                  have hd1 : decide (sv = (s : Int)) = false := decide_eq_false hst
                  have hd2 : (sv == (s : Int)) = false := by simp [hst]
                  clear hx10 HXA hsv
                  go_upto_region 25 with fail
                  refine wp_region_held_drew (S := fun W' => blk W' b3 = some Cb ∧ blk W' bP = some CP) (by kernel_rfl) ⟨e1, e4⟩ (fun hHeld => ?_)
                  refine wpAnyH_take (i := 0) (oi := ⟨_, _, _, _, _, _⟩) (v := ?_) rfl (by kernel_rfl) (by kernel_rfl) (by kernel_rfl) (fun _ _ _ h => h) (Or.inl ⟨by rfl, ?_⟩) (by assumption) ?_
                  rotate_left 1
                  · intro W' hSw
                    obtain ⟨hS1, hS2⟩ := hSw
                    go_simp
                    try with_reducible rfl
                  try simp only [Act.put, List.setIfInBounds_toArray, List.set_cons_zero, List.set_cons_succ]
                  refine wpAnyH_take (i := 1) (oi := ⟨_, _, _, _, _, _⟩) (v := ?_) rfl (by kernel_rfl) (by kernel_rfl) (by kernel_rfl) (fun _ _ _ h => h) (Or.inl ⟨by rfl, ?_⟩) (by assumption) ?_
                  rotate_left 1
                  · intro W' hSw
                    obtain ⟨hS1, hS2⟩ := hSw
                    go_simp
                    try with_reducible rfl
                  try simp only [Act.put, List.setIfInBounds_toArray, List.set_cons_zero, List.set_cons_succ]
                  refine wpAnyH_take (i := 2) (oi := ⟨_, _, _, _, _, _⟩) (v := ?_) rfl (by kernel_rfl) (by kernel_rfl) (by kernel_rfl) (fun _ _ _ h => h) (Or.inl ⟨by rfl, ?_⟩) (by assumption) ?_
                  rotate_left 1
                  · intro W' hSw
                    obtain ⟨hS1, hS2⟩ := hSw
                    go_simp
                    try with_reducible rfl
                  try simp only [Act.put, List.setIfInBounds_toArray, List.set_cons_zero, List.set_cons_succ]
                  refine wpAnyH_take (i := 3) (oi := ⟨_, _, _, _, _, _⟩) (v := ?_) rfl (by kernel_rfl) (by kernel_rfl) (by kernel_rfl) (fun _ _ _ h => h) (Or.inl ⟨by rfl, ?_⟩) (by assumption) ?_
                  rotate_left 1
                  · intro W' hSw
                    obtain ⟨hS1, hS2⟩ := hSw
                    go_simp
                    try with_reducible rfl
                  try simp only [Act.put, List.setIfInBounds_toArray, List.set_cons_zero, List.set_cons_succ]
                  refine wpAnyH_take (i := 4) (oi := ⟨_, _, _, _, _, _⟩) (v := ?_) rfl (by kernel_rfl) (by kernel_rfl) (by kernel_rfl) (fun _ _ _ h => h) (Or.inl ⟨by rfl, ?_⟩) (by assumption) ?_
                  rotate_left 1
                  · intro W' hSw
                    obtain ⟨hS1, hS2⟩ := hSw
                    go_simp
                    try with_reducible rfl
                  try simp only [Act.put, List.setIfInBounds_toArray, List.set_cons_zero, List.set_cons_succ]
                  refine wpAnyH_take (i := 5) (oi := ⟨_, _, _, _, _, _⟩) (v := ?_) rfl (by kernel_rfl) (by kernel_rfl) (by kernel_rfl) (fun _ _ _ h => h) (Or.inl ⟨by rfl, ?_⟩) (by assumption) ?_
                  rotate_left 1
                  · intro W' hSw
                    obtain ⟨hS1, hS2⟩ := hSw
                    go_simp
                    try with_reducible rfl
                  try simp only [Act.put, List.setIfInBounds_toArray, List.set_cons_zero, List.set_cons_succ]
                  refine wpAnyH_take (i := 6) (oi := ⟨_, _, _, _, _, _⟩) (v := ?_) rfl (by kernel_rfl) (by kernel_rfl) (by kernel_rfl) (fun _ _ _ h => h) (Or.inl ⟨by rfl, ?_⟩) (by assumption) ?_
                  rotate_left 1
                  · intro W' hSw
                    obtain ⟨hS1, hS2⟩ := hSw
                    go_simp
                    try with_reducible rfl
                  try simp only [Act.put, List.setIfInBounds_toArray, List.set_cons_zero, List.set_cons_succ]
                  refine wpAnyH_take (i := 7) (oi := ⟨_, _, _, _, _, _⟩) (v := ?_) rfl (by kernel_rfl) (by kernel_rfl) (by kernel_rfl) (fun _ _ _ h => h) (Or.inl ⟨by rfl, ?_⟩) (by assumption) ?_
                  rotate_left 1
                  · intro W' hSw
                    obtain ⟨hS1, hS2⟩ := hSw
                    go_simp
                    try with_reducible rfl
                  try simp only [Act.put, List.setIfInBounds_toArray, List.set_cons_zero, List.set_cons_succ]
                  refine wpAnyH_take (i := 8) (oi := ⟨_, _, _, _, _, _⟩) (v := ?_) rfl (by kernel_rfl) (by kernel_rfl) (by kernel_rfl) (fun _ _ _ h => h) (Or.inl ⟨by rfl, ?_⟩) (by assumption) ?_
                  rotate_left 1
                  · intro W' hSw
                    obtain ⟨hS1, hS2⟩ := hSw
                    go_simp
                    try with_reducible rfl
                  try simp only [Act.put, List.setIfInBounds_toArray, List.set_cons_zero, List.set_cons_succ]
                  refine wpAnyH_take (i := 9) (oi := ⟨_, _, _, _, _, _⟩) (v := ?_) rfl (by kernel_rfl) (by kernel_rfl) (by kernel_rfl) (fun _ _ _ h => h) (Or.inl ⟨by rfl, ?_⟩) (by assumption) ?_
                  rotate_left 1
                  · intro W' hSw
                    obtain ⟨hS1, hS2⟩ := hSw
                    go_simp
                    try with_reducible rfl
                  try simp only [Act.put, List.setIfInBounds_toArray, List.set_cons_zero, List.set_cons_succ]
                  refine wpAnyH_take (i := 10) (oi := ⟨_, _, _, _, _, _⟩) (v := ?_) rfl (by kernel_rfl) (by kernel_rfl) (by kernel_rfl) (fun _ _ _ h => h) (Or.inl ⟨by rfl, ?_⟩) (by assumption) ?_
                  rotate_left 1
                  · intro W' hSw
                    obtain ⟨hS1, hS2⟩ := hSw
                    go_simp
                    try with_reducible rfl
                  try simp only [Act.put, List.setIfInBounds_toArray, List.set_cons_zero, List.set_cons_succ]
                  refine wpAnyH_take (i := 11) (oi := ⟨_, _, _, _, _, _⟩) (v := ?_) rfl (by kernel_rfl) (by kernel_rfl) (by kernel_rfl) (fun _ _ _ h => h) (Or.inl ⟨by rfl, ?_⟩) (by assumption) ?_
                  rotate_left 1
                  · intro W' hSw
                    obtain ⟨hS1, hS2⟩ := hSw
                    go_simp
                    try with_reducible rfl
                  try simp only [Act.put, List.setIfInBounds_toArray, List.set_cons_zero, List.set_cons_succ]
                  refine wpAnyH_take (i := 12) (oi := ⟨_, _, _, _, _, _⟩) (v := ?_) rfl (by kernel_rfl) (by kernel_rfl) (by kernel_rfl) (fun _ _ _ h => h) (Or.inl ⟨by rfl, ?_⟩) (by assumption) ?_
                  rotate_left 1
                  · intro W' hSw
                    obtain ⟨hS1, hS2⟩ := hSw
                    go_simp
                    try with_reducible rfl
                  try simp only [Act.put, List.setIfInBounds_toArray, List.set_cons_zero, List.set_cons_succ]
                  refine wpAnyH_take (i := 13) (oi := ⟨_, _, _, _, _, _⟩) (v := ?_) rfl (by kernel_rfl) (by kernel_rfl) (by kernel_rfl) (fun _ _ _ h => h) (Or.inl ⟨by rfl, ?_⟩) (by assumption) ?_
                  rotate_left 1
                  · intro W' hSw
                    obtain ⟨hS1, hS2⟩ := hSw
                    go_simp
                    try with_reducible rfl
                  try simp only [Act.put, List.setIfInBounds_toArray, List.set_cons_zero, List.set_cons_succ]
                  refine wpAnyH_take (i := 14) (oi := ⟨_, _, _, _, _, _⟩) (v := ?_) rfl (by kernel_rfl) (by kernel_rfl) (by kernel_rfl) (fun _ _ _ h => h) (Or.inl ⟨by rfl, ?_⟩) (by assumption) ?_
                  rotate_left 1
                  · intro W' hSw
                    obtain ⟨hS1, hS2⟩ := hSw
                    go_simp
                    try with_reducible rfl
                  try simp only [Act.put, List.setIfInBounds_toArray, List.set_cons_zero, List.set_cons_succ]
                  refine wpAnyH_take (i := 15) (oi := ⟨_, _, _, _, _, _⟩) (v := ?_) rfl (by kernel_rfl) (by kernel_rfl) (by kernel_rfl) (fun _ _ _ h => h) (Or.inl ⟨by rfl, ?_⟩) (by assumption) ?_
                  rotate_left 1
                  · intro W' hSw
                    obtain ⟨hS1, hS2⟩ := hSw
                    go_simp
                    try with_reducible rfl
                  try simp only [Act.put, List.setIfInBounds_toArray, List.set_cons_zero, List.set_cons_succ]
                  refine wpAnyH_take (i := 16) (oi := ⟨_, _, _, _, _, _⟩) (v := ?_) rfl (by kernel_rfl) (by kernel_rfl) (by kernel_rfl) (fun _ _ _ h => h) (Or.inl ⟨by rfl, ?_⟩) (by assumption) ?_
                  rotate_left 1
                  · intro W' hSw
                    obtain ⟨hS1, hS2⟩ := hSw
                    go_simp
                    try with_reducible rfl
                  try simp only [Act.put, List.setIfInBounds_toArray, List.set_cons_zero, List.set_cons_succ]
                  refine wpAnyH_take (i := 17) (oi := ⟨_, _, _, _, _, _⟩) (v := ?_) rfl (by kernel_rfl) (by kernel_rfl) (by kernel_rfl) (fun _ _ _ h => h) (Or.inl ⟨by rfl, ?_⟩) (by assumption) ?_
                  rotate_left 1
                  · intro W' hSw
                    obtain ⟨hS1, hS2⟩ := hSw
                    go_simp
                    try with_reducible rfl
                  try simp only [Act.put, List.setIfInBounds_toArray, List.set_cons_zero, List.set_cons_succ]
                  refine wpAnyH_take (i := 18) (oi := ⟨_, _, _, _, _, _⟩) (v := undef) rfl (by kernel_rfl) (by kernel_rfl) (by kernel_rfl) (fun _ _ _ h => h) (Or.inr ⟨by rfl, rfl⟩) (by assumption) ?_
                  try simp only [Act.put, List.setIfInBounds_toArray, List.set_cons_zero, List.set_cons_succ]
                  refine wpAnyH_take (i := 19) (oi := ⟨_, _, _, _, _, _⟩) (v := undef) rfl (by kernel_rfl) (by kernel_rfl) (by kernel_rfl) (fun _ _ _ h => h) (Or.inr ⟨by rfl, rfl⟩) (by assumption) ?_
                  try simp only [Act.put, List.setIfInBounds_toArray, List.set_cons_zero, List.set_cons_succ]
                  refine wpAnyH_take (i := 20) (oi := ⟨_, _, _, _, _, _⟩) (v := undef) rfl (by kernel_rfl) (by kernel_rfl) (by kernel_rfl) (fun _ _ _ h => h) (Or.inr ⟨by rfl, rfl⟩) (by assumption) ?_
                  try simp only [Act.put, List.setIfInBounds_toArray, List.set_cons_zero, List.set_cons_succ]
                  refine wpAnyH_take (i := 21) (oi := ⟨_, _, _, _, _, _⟩) (v := undef) rfl (by kernel_rfl) (by kernel_rfl) (by kernel_rfl) (fun _ _ _ h => h) (Or.inr ⟨by rfl, rfl⟩) (by assumption) ?_
                  try simp only [Act.put, List.setIfInBounds_toArray, List.set_cons_zero, List.set_cons_succ]
                  refine wpAnyH_take (i := 22) (oi := ⟨_, _, _, _, _, _⟩) (v := undef) rfl (by kernel_rfl) (by kernel_rfl) (by kernel_rfl) (fun _ _ _ h => h) (Or.inr ⟨by rfl, rfl⟩) (by assumption) ?_
                  try simp only [Act.put, List.setIfInBounds_toArray, List.set_cons_zero, List.set_cons_succ]
                  refine wpAnyH_take (i := 23) (oi := ⟨_, _, _, _, _, _⟩) (v := undef) rfl (by kernel_rfl) (by kernel_rfl) (by kernel_rfl) (fun _ _ _ h => h) (Or.inr ⟨by rfl, rfl⟩) (by assumption) ?_
                  try simp only [Act.put, List.setIfInBounds_toArray, List.set_cons_zero, List.set_cons_succ]
                  refine wpAnyH_take (i := 24) (oi := ⟨_, _, _, _, _, _⟩) (v := undef) rfl (by kernel_rfl) (by kernel_rfl) (by kernel_rfl) (fun _ _ _ h => h) (Or.inr ⟨by rfl, rfl⟩) (by assumption) ?_
                  try simp only [Act.put, List.setIfInBounds_toArray, List.set_cons_zero, List.set_cons_succ]
                  refine wpAnyH_take (i := 25) (oi := ⟨_, _, _, _, _, _⟩) (v := undef) rfl (by kernel_rfl) (by kernel_rfl) (by kernel_rfl) (fun _ _ _ h => h) (Or.inr ⟨by rfl, rfl⟩) (by assumption) ?_
                  try simp only [Act.put, List.setIfInBounds_toArray, List.set_cons_zero, List.set_cons_succ]
                  refine wpAnyH_take (i := 26) (oi := ⟨_, _, _, _, _, _⟩) (v := undef) rfl (by kernel_rfl) (by kernel_rfl) (by kernel_rfl) (fun _ _ _ h => h) (Or.inr ⟨by rfl, rfl⟩) (by assumption) ?_
                  try simp only [Act.put, List.setIfInBounds_toArray, List.set_cons_zero, List.set_cons_succ]
                  refine wpAnyH_take (i := 27) (oi := ⟨_, _, _, _, _, _⟩) (v := undef) rfl (by kernel_rfl) (by kernel_rfl) (by kernel_rfl) (fun _ _ _ h => h) (Or.inr ⟨by rfl, rfl⟩) (by assumption) ?_
                  try simp only [Act.put, List.setIfInBounds_toArray, List.set_cons_zero, List.set_cons_succ]
                  refine wpAnyH_take (i := 28) (oi := ⟨_, _, _, _, _, _⟩) (v := ?_) rfl (by kernel_rfl) (by kernel_rfl) (by kernel_rfl) (fun _ _ _ h => h) (Or.inl ⟨by rfl, ?_⟩) (by assumption) ?_
                  rotate_left 1
                  · intro W' hSw
                    obtain ⟨hS1, hS2⟩ := hSw
                    go_simp
                    try with_reducible rfl
                  try simp only [Act.put, List.setIfInBounds_toArray, List.set_cons_zero, List.set_cons_succ]
                  refine wpAnyH_done (by kernel_rfl) ?_ _
                  clear hHeld
                  go_wp2_with fail
                  refine ⟨rfl, rfl, ⟨rfl, rfl, rfl, rfl, rfl, rfl, rfl, rfl, q + 1, by omega, ?_, HXD⟩, ?_⟩
                  · show Value.int .i64 _ = _
                    go_num
                  · show p.P.length - (intOf (Value.int .i64 _)).toNat < p.P.length - (intOf (F4 14)).toNat
                    rw [H14.out]
                    simp [intOf]; omega
            · obtain rfl : q = p.P.length := by omega
              have hqP' : ¬ ((p.P.length : Int) < (p.P.length : Int)) := by omega
              have hna := naive_any V10 b3 p (HPG.out.ext hx10) HOK.out s da D dc dom (HDW.out.grow hx10) HDI.out aa ac (allT S') (HR5.out.ext hx10) (allT_relI HES.out) HDC.out
              have HNA := hid_of hna
              have HXT := hid_of hx10
              clear hna hx10 HXA
              go_wp2_with fail
              refine HNA.out.mono ?_
              rintro e V11 ⟨na, nc, T1, rfl, hx11, hrn11, hnr⟩
              have hr11 := hrn11.sub (newc_sub _ _)
              have HCT : Hid (cntT T1 p.P.length = cntT (allT S') p.P.length) := fin_round HOK.out HF.out HES.out hsS hnr
              have hc1 := count_any V11 na p.P.length nc T1 hr11 (by omega) (fun q hq => outok_len (hnr q hq).1)
              have HC1 := hid_of hc1
              have HX11 := hid_of hx11
              clear HNA hx11 hr11 hrn11 hnr hc1
              dsimp only
              go_wp2_with fail
              refine HC1.out.mono ?_
              rintro e V12 ⟨rfl, hx12⟩
              have hx0' : V5.Extends V12 := HXT.out.trans (HX11.out.trans hx12)
              have hc2 := count_any V12 aa p.P.length ac (allT S') (HR5.out.ext hx0') (by omega) (fun q hq => outok_len (allT_relI HES.out q hq))
              have HC2 := hid_of hc2
              have HX12 := hid_of hx0'
              clear HC1 hc2 hx12 hx0'
              dsimp only
              go_wp2_with fail
              refine HC2.out.mono ?_
              rintro e V13 ⟨rfl, hx13⟩
              have HX13 : Hid (V5.Extends V13) := HX12.out.trans hx13
              clear HC2 hx13
              dsimp only
              rw [HCT.out]
              obtain ⟨cv, hcv⟩ : ∃ cv, cv = cntT (allT S') p.P.length := ⟨_, rfl⟩
              rw [← hcv]
              clear hcv HCT
              go_wp2_with fail
              refine ⟨rfl, rfl, ⟨rfl, rfl, rfl, rfl, rfl, rfl, s + 1, by omega, ?_, HX13⟩, ?_⟩
              · show Value.int .i64 _ = _
                go_num
              · show p.St - (intOf (Value.int .i64 _)).toNat < p.St - (intOf (F2 10)).toNat
                rw [H10.out]
                simp [intOf]; omega
        · obtain rfl : s = p.St := by omega
          have hsS' : ¬ ((p.St : Int) < (p.St : Int)) := by omega
          have HI' : Hid (∃ S, E1 p W3 be S V6) := ⟨S', HE5.out.ext HX6.out⟩
          clear HX6
          go_wp2_with fail
          refine ⟨rfl, rfl, ⟨rfl, rfl, rfl, i + 1, by omega, ?_, HI'⟩, ?_⟩
          · show Value.int .i64 _ = _
            go_num
          · show len - (intOf (Value.int .i64 _)).toNat < len - (intOf (F 6)).toNat
            rw [H6.out]
            simp [intOf]; omega
      · have HI' : Hid (∃ S, E1 p W3 be S V3) := ⟨S', HE3.out⟩
        clear HE3
        go_wp2_with fail
        refine ⟨rfl, rfl, ⟨rfl, rfl, rfl, i + 1, by omega, ?_, HI'⟩, ?_⟩
        · show Value.int .i64 _ = _
          go_num
        · show len - (intOf (Value.int .i64 _)).toNat < len - (intOf (F 6)).toNat
          rw [H6.out]
          simp [intOf]; omega
    · have HI' : Hid (∃ S, E1 p W3 be S V3) := ⟨S', HE3.out⟩
      clear HE3
      go_wp2_with fail
      refine ⟨rfl, rfl, ⟨rfl, rfl, rfl, i + 1, by omega, ?_, HI'⟩, ?_⟩
      · show Value.int .i64 _ = _
        go_num
      · show len - (intOf (Value.int .i64 _)).toNat < len - (intOf (F 6)).toNat
        rw [H6.out]
        simp [intOf]; omega
  · obtain rfl : i = len := by omega
    have hin' : ¬ ((i : Int) < (i : Int)) := by omega
    have HP : Hid (Q (.returned (.bool true)) V) := by
      show Q _ _
      rw [HQ.out]; exact ⟨rfl, HXW.out.trans hxV⟩
    clear HI hE hxV
    go_wp2_with fail
    try go_ret
    exact HP.out
end Go.Proofs.Qxb6500788a
