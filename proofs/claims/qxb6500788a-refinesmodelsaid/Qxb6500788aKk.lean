import Derived.Test.Qxb6500788aKj
import Derived.StillTailTactics
import Derived.Deep.QuietTactic
import Derived.BigQuiet
import Derived.Deep.RegionHeld
import Derived.Deep.CutRange
import Derived.Laws.ResultCell
import Derived.Laws.Rows
import Derived.DeepKeys
import Derived.DataBytes
import Derived.Laws.StructEq
import Derived.Laws.AppendOwn
import Derived.Laws.MakeOwn
set_option linter.unusedSimpArgs false
set_option linter.unusedVariables false
namespace Go.Proofs.Qxb6500788a
open Go.RowKit Go.Blk
attribute [local go_sem ↓] execOp_load execOp_store execOp_alloc
attribute [local go_sem] Try.ld24 Try.st24 Try.ld25 Try.st25 Try.ld3 Try.st3 Try.ld30 Try.st30 Try.ld36 Try.st36 Try.ld4 Try.st4 Try.ld41 Try.st41 Try.ld50 Try.st50 Try.ld40 Try.st40 Try.ld42 Try.st42 Try.ld89 Try.st89 Try.ld91 Try.st91 Try.ld56 Try.st56 Try.ld97 Try.st97 Try.ld98 Try.st98 Try.ld101 Try.st101 Try.ld104 Try.st104 Try.ld57 Try.st57 Try.ld130 Try.st130 Try.ld2 Try.st2 Try.ld5 Try.st5 Try.ld9 Try.st9 Try.ld12 Try.st12 Try.ld21 Try.st21 Try.ld22 Try.st22 Try.ld29 Try.st29 Try.ld33 Try.st33 Try.ld59 Try.st59 Try.ld62 Try.st62 Try.ld69 Try.st69 Try.ld94 Try.st94 Try.ld96 Try.st96 Try.ld129 Try.st129 Try.ld158 Try.st158 Try.ld162 Try.st162 Try.ld47 Try.st47 Try.ld44 Try.st44 Try.ld137 Try.st137 Try.ld145 Try.st145 Try.ld43 Try.st43 Try.ld27 Try.st27 Try.ld38 Try.st38 Try.ld46 Try.st46 Try.ld49 Try.st49 Try.ld52 Try.st52 Try.ld54 Try.st54 Try.ld61 Try.st61 Try.ld80 Try.st80 Try.ld87 Try.st87 Try.ld93 Try.st93 Try.ld100 Try.st100 Try.ld103 Try.st103 Try.ld106 Try.st106 Try.ld109 Try.st109 Try.ld132 Try.st132 Try.ld147 Try.st147 Try.al47 Try.al44 Try.al137 Try.al145 Try.al43 Try.al27 Try.al38 Try.al46 Try.al49 Try.al52 Try.al54 Try.al61 Try.al80 Try.al87 Try.al93 Try.al100 Try.al103 Try.al106 Try.al109 Try.al132 Try.al147
attribute [local go_sem] GProgram.length_enc GProgram.ok_enc GProgram.all_get GProgram.all_set GProgram.preds_get GProgram.preds_set GProgram.rules_get GProgram.rules_set GProgram.strata_get GProgram.strata_set Answer.length_enc Answer.ok_enc Answer.all_get Answer.all_set Answer.code_get Answer.code_set Answer.n_get Answer.n_set Answer.rows_get Answer.rows_set Term.length_enc Term.ok_enc Term.all_get Term.all_set Term.var_get Term.var_set Term.n_get Term.n_set Atom.length_enc Atom.ok_enc Atom.all_get Atom.all_set Atom.pred_get Atom.pred_set Atom.args_get Atom.args_set GRule.length_enc GRule.ok_enc GRule.all_get GRule.all_set GRule.head_get GRule.head_set GRule.body_get GRule.body_set GRule.head_pred_get GRule.head_pred_set GRule.head_args_get GRule.head_args_set GOp.length_enc GOp.ok_enc GOp.all_get GOp.all_set GOp.kind_get GOp.kind_set GOp.pred_get GOp.pred_set GOp.t_get GOp.t_set GOp.n_get GOp.n_set GOp.base_get GOp.base_set GOp.rule_get GOp.rule_set GOp.rule_head_get GOp.rule_head_set GOp.rule_body_get GOp.rule_body_set GOp.rule_head_pred_get GOp.rule_head_pred_set GOp.rule_head_args_get GOp.rule_head_args_set PredInfo.length_enc PredInfo.ok_enc PredInfo.all_get PredInfo.all_set PredInfo.arity_get PredInfo.arity_set PredInfo.base_get PredInfo.base_set PredInfo.stratum_get PredInfo.stratum_set GStats.length_enc GStats.ok_enc GStats.all_get GStats.all_set GStats.rounds_get GStats.rounds_set GStats.fired_get GStats.fired_set GStats.emitted_get GStats.emitted_set GStats.fresh_get GStats.fresh_set Literal.length_enc Literal.ok_enc Literal.all_get Literal.all_set Literal.neg_get Literal.neg_set Literal.atom_get Literal.atom_set Literal.atom_pred_get Literal.atom_pred_set Literal.atom_args_get Literal.atom_args_set Engine.length_enc Engine.ok_enc Engine.all_get Engine.all_set Engine.prog_get Engine.prog_set Engine.st_get Engine.st_set Engine.levels_get Engine.levels_set Engine.running_get Engine.running_set Engine.stratum_get Engine.stratum_set Engine.round_get Engine.round_set Engine.saved_get Engine.saved_set Engine.stats_get Engine.stats_set Engine.prog_preds_get Engine.prog_preds_set Engine.prog_rules_get Engine.prog_rules_set Engine.prog_strata_get Engine.prog_strata_set Engine.stats_rounds_get Engine.stats_rounds_set Engine.stats_fired_get Engine.stats_fired_set Engine.stats_emitted_get Engine.stats_emitted_set Engine.stats_fresh_get Engine.stats_fresh_set Level.length_enc Level.ok_enc Level.all_get Level.all_set Level.heads_get Level.heads_set Level.jobs_get Level.jobs_set Plan.length_enc Plan.ok_enc Plan.all_get Plan.all_set Plan.rule_get Plan.rule_set Plan.delta_get Plan.delta_set Plan.src_get Plan.src_set Job.length_enc Job.ok_enc Job.all_get Job.all_set Job.full_get Job.full_set Job.deltas_get Job.deltas_set Job.full_rule_get Job.full_rule_set Job.full_delta_get Job.full_delta_set Job.full_src_get Job.full_src_set GState.length_enc GState.ok_enc GState.all_get GState.all_set GState.prog_get GState.prog_set GState.base_get GState.base_set GState.shown_get GState.shown_set GState.prog_preds_get GState.prog_preds_set GState.prog_rules_get GState.prog_rules_set GState.prog_strata_get GState.prog_strata_set Store.length_enc Store.ok_enc Store.all_get Store.all_set Store.arity_get Store.arity_set Store.rows_get Store.rows_set Env.length_enc Env.ok_enc Env.all_get Env.all_set Env.val_get Env.val_set Env.set_get Env.set_set
attribute [local go_sem] size_put size_ext blk_put free_put blk_alloc free_alloc blk_drew free_drew blk_ext free_ext lookOr_some putOr_some segAt_some cellAt_some storeIn_some put_put put_alloc_new length_arr ok_arr_u8 ok_arr_u32 ok_arr_u64 ok_arr_i64 ok_arr_sl cellsV_agg cellsV_int cellsV_bool cellsV_string cellsV_pointer cellsV_slice cellsV_sl ok_int ok_bool ok_string ok_pointer ok_slice ok_sl toList_arr seg_arr set_arr nth_splice nth_splice0 seg_splice seg_splice0 splice_splice splice_splice0 length_splice_if
attribute [local go_sem ↓] execOp_box
attribute [local go_sem] box_run nth_arr_u8 put_arr_u8 blk_drewN free_drewN put_drewN blk_raw free_raw
theorem fr_law3 {O O' : Own} {W3 K V V' : World} (h0 : Sub K (core O V)) (h1 : W3.Extends V) (h2 : ∀ k, k < W3.heap.size → O k = .no) (hf : Fr (isE 0) O V O' V') : Sub K (core O' V') ∧ W3.Extends V' ∧ ∀ k, k < W3.heap.size → O' k = .no := by
  have hs := h1.size
  exact ⟨h0.trans (Sub.ext (core_fr hf (isE_no 0))), hf.extends h1 (fun k hk => by rw [h2 k hk]; exact isE_no 0), fun k hk => (hf.keep k (by omega)).trans (h2 k hk)⟩
/-- Engine and model in one memory, beside memory K. -/
def J3 (p : Pg) (W3 : World) (be bm bb bs : Nat) (S : List (List Tup)) (T U : Nat → List Tup) (K V : World) : Prop := ∃ (O : Own) (x : Engine) (sav : List (List Tup)), Sub K (core O V) ∧ W3.Extends V ∧ (∀ k, k < W3.heap.size → O k = .no) ∧ EAt W3.heap.size O V 0 be p x S sav ∧ x.running = false ∧ EngI p S ∧ MAt W3 O V bm bb bs p T U
theorem J3.wx {p : Pg} {W3 : World} {be bm bb bs : Nat} {S : List (List Tup)} {T U : Nat → List Tup} {K V : World} (h : J3 p W3 be bm bb bs S T U K V) : W3.Extends V ∧ EngI p S ∧ Sub K V := by
  obtain ⟨O, x, sav, h0, h1, h2, h3, h4, h5, h6⟩ := h
  exact ⟨h1, h5, h0.trans (Sub.core O V)⟩
theorem J3.grow {p : Pg} {W3 : World} {be bm bb bs : Nat} {S : List (List Tup)} {T U : Nat → List Tup} {K V V' : World} (h : J3 p W3 be bm bb bs S T U K V) (he : V.Extends V') : J3 p W3 be bm bb bs S T U (newc V.heap.size V') V' := by
  obtain ⟨O, x, sav, h0, h1, h2, h3, h4, h5, h6⟩ := h
  have hs := h1.size
  exact ⟨lab O V.heap.size .no, x, sav, newc_core O, h1.trans he, fun k hk => by rw [lab_lt (by omega)]; exact h2 k hk, h3.new he _, h4, h5, h6.new he⟩
theorem J3.ext {p : Pg} {W3 : World} {be bm bb bs : Nat} {S : List (List Tup)} {T U : Nat → List Tup} {K V V' : World} (h : J3 p W3 be bm bb bs S T U K V) (he : V.Extends V') : J3 p W3 be bm bb bs S T U K V' := by
  obtain ⟨O, x, sav, h0, h1, h2, h3, h4, h5, h6⟩ := h
  exact ⟨O, x, sav, h0.trans (Sub.ext (core_ext he)), h1.trans he, h2, h3.ext he, h4, h5, h6.ext he⟩
def J3a (p : Pg) (W3 : World) (be bm bb bs : Nat) (S : List (List Tup)) (T U : Nat → List Tup) (A : Answer) (ts : List Tup) (K V : World) : Prop := ∃ (O : Own) (x : Engine) (sav : List (List Tup)), Sub K (core O V) ∧ W3.Extends V ∧ (∀ k, k < W3.heap.size → O k = .no) ∧ EAt W3.heap.size O V 0 be p x S sav ∧ x.running = false ∧ EngI p S ∧ MAt W3 O V bm bb bs p T U ∧ Rw tpl 4 (core O V) A.rows.a A.rows.len ts
theorem J3a.wx {p : Pg} {W3 : World} {be bm bb bs : Nat} {S : List (List Tup)} {T U : Nat → List Tup} {A : Answer} {ts : List Tup} {K V : World} (h : J3a p W3 be bm bb bs S T U A ts K V) : W3.Extends V ∧ EngI p S ∧ Sub K V := by
  obtain ⟨O, x, sav, h0, h1, h2, h3, h4, h5, h6, _⟩ := h
  exact ⟨h1, h5, h0.trans (Sub.core O V)⟩
theorem J3.play {p : Pg} (hok : PgOk p) {W3 : World} {be bm bb bs : Nat} {S : List (List Tup)} {T U : Nat → List Tup} {K V : World} (h : J3 p W3 be bm bb bs S T U K V) (op : GOp) : Calls Try.prog 14 #[.pointer (some ⟨be, 0, none⟩), .agg (GOp.enc op).toArray] V fun e V' => ∃ (S' : List (List Tup)) (A : Answer) (ts : List Tup), e = .returned (.agg A.enc.toArray) ∧ PlayR p S op S' A.code A.n ts ∧ J3a p W3 be bm bb bs S' T U A ts K V' := by
  obtain ⟨O, x, sav, h0, h1, h2, h3, h4, h5, h6⟩ := h
  refine (play_any W3.heap.size O V 0 be p x S sav h3 hok h4 h5.1 op).mono ?_
  rintro e V' ⟨S', A, ts, x', sav', O', rfl, hp, hr, hf, hE, hrw⟩
  obtain ⟨g0, g1, g2⟩ := fr_law3 h0 h1 h2 hf
  exact ⟨S', A, ts, rfl, hp, O', x', sav', g0, g1, g2, hE, hr, play_inv hok h5 hp, h6.fr hf (fun l hl => isE_M hl) (isE_no 0), hrw⟩
theorem J3a.step {p : Pg} (hok : PgOk p) {W3 : World} {be bm bb bs : Nat} {S : List (List Tup)} {T U : Nat → List Tup} {A : Answer} {ts : List Tup} {K V : World} (h : J3a p W3 be bm bb bs S T U A ts K V) (hT : RelI p T) (hU : RelI p U) (op : GOp) : Calls Try.prog 15 #[.pointer (some ⟨bm, 0, none⟩), .agg (GOp.enc op).toArray] V fun e V' => ∃ (T' U' : Nat → List Tup) (B : Answer) (us : List Tup), e = .returned (.agg B.enc.toArray) ∧ MR p T U op T' U' B.code B.n us ∧ J3 p W3 be bm bb bs S T' U' K V' ∧ Rw tpl 4 V' A.rows.a A.rows.len ts ∧ Rw tpl 4 V' B.rows.a B.rows.len us := by
  obtain ⟨O, x, sav, h0, h1, h2, h3, h4, h5, h6, h7⟩ := h
  refine (step_any W3 O V bm bb bs p T U h6 hok hT hU op).mono ?_
  rintro e V' ⟨T', U', B, us, O', rfl, hm, hf, hM, hrw⟩
  have hs := h1.size
  have hc := Sub.ext (core_fr hf isM_no)
  exact ⟨T', U', B, us, rfl, hm, ⟨O', x, sav, h0.trans hc, hf.extends h1 (fun k hk => by rw [h2 k hk]; exact isM_no), fun k hk => (hf.keep k (by omega)).trans (h2 k hk), h3.fr hf (fun l hl => isM_E hl) isM_no, h4, h5, hM⟩, (h7.sub hc).uncore, hrw⟩
theorem E1.newM {p : Pg} (hok : PgOk p) {W3 : World} {be : Nat} {S : List (List Tup)} {V : World} (h : E1 p W3 be S V) {x0 : GProgram} (hx : PrgC W3 x0 p) : Calls Try.prog 12 #[.agg x0.enc.toArray] V fun e V' => ∃ bm bb bs, e = .returned (.pointer (some ⟨bm, 0, none⟩)) ∧ J3 p W3 be bm bb bs S (fun _ => []) (fun _ => []) (newc V'.heap.size V') V' := by
  obtain ⟨O, x, sav, h1, h2, h3, h4, h5⟩ := h
  have hprg : PrgC (core O V) x0 p := hx.sub (fun b C hb => blk_core ((h1.blk (blk_lt hb)).trans hb) (h2 b (blk_lt hb)))
  refine (newM_any W3 O V p x0 h1 h2 hprg hok).mono ?_
  rintro e V' ⟨bm, bb, bs, O', rfl, hx', ho, hM⟩
  have hs := h1.size
  have hf : Fr (fun _ => False) O V O' V' := ⟨hx'.os, hx'.tape, hx'.output, hx'.size, ho, fun k hk _ => hx'.block k hk⟩
  refine ⟨bm, bb, bs, rfl, O', x, sav, fun b C hb => ?_, h1.trans hx', fun k hk => (ho k (by omega)).trans (h2 k hk), h3.fr hf (fun _ _ h => h) (fun h => h), h4, h5, hM⟩
  obtain ⟨g1, g2⟩ := newc_blk hb
  have := blk_lt g1
  omega
theorem build54 (w : World) (q : Int) : (buildOp 54 #[(0, .int .i64 6), (1, .int .i64 q)]).run Try.prog w = .ok (.value (.agg (GOp.enc ⟨6, q, Vector.replicate 4 0, 0, false, GRule.zero⟩).toArray)) w := by kernel_rfl
/-- Engine and model agree. -/
def Ag3 (p : Pg) (W3 : World) (be bm bb bs : Nat) (V : World) : Prop := ∃ S T U K, J3 p W3 be bm bb bs S T U K V ∧ JR p S T U
def la3I (p : Pg) (W3 : World) (a : Option Addr) (len cap b3 be bm bb bs : Nat) (f : Nat → Value) (V : World) : Prop := f 0 = .slice a len cap ∧ f 3 = .pointer (some ⟨b3, 0, none⟩) ∧ f 4 = .pointer (some ⟨be, 0, none⟩) ∧ f 6 = .pointer (some ⟨bm, 0, none⟩) ∧ ∃ i : Nat, i ≤ len ∧ f 7 = .int .i64 (i : Nat) ∧ Hid (Ag3 p W3 be bm bb bs V)
def lb3I (p : Pg) (W3 : World) (b3 be bm bb bs : Nat) (f : Nat → Value) (V : World) : Prop := f 3 = .pointer (some ⟨b3, 0, none⟩) ∧ f 4 = .pointer (some ⟨be, 0, none⟩) ∧ f 6 = .pointer (some ⟨bm, 0, none⟩) ∧ ∃ i : Nat, i ≤ p.P.length ∧ f 8 = .int .i64 (i : Nat) ∧ Hid (Ag3 p W3 be bm bb bs V)
attribute [local go_sem ↓] execOp_build
attribute [local go_sem] build54
set_option maxRecDepth 100000 in
theorem frame61k (f : Nat → Value) : frameN 61 f = #[f 0, f 1, f 2, f 3, f 4, f 5, f 6, f 7, f 8, f 9, f 10, f 11, f 12, f 13, f 14, f 15, f 16, f 17, f 18, f 19, f 20, f 21, f 22, f 23, f 24, f 25, f 26, f 27, f 28, f 29, f 30, f 31, f 32, f 33, f 34, f 35, f 36, f 37, f 38, f 39, f 40, f 41, f 42, f 43, f 44, f 45, f 46, f 47, f 48, f 49, f 50, f 51, f 52, f 53, f 54, f 55, f 56, f 57, f 58, f 59, f 60] := by kernel_rfl
set_option maxRecDepth 20000 in
set_option maxHeartbeats 4000000 in
theorem refine_walk (w : World) (a : Option Addr) (len cap : Nat) (g : Nat → GOp) (dt : Nat → List Literal) (hS : ScriptAt w a len cap g dt) :
    Calls Try.prog 3 #[.slice a len cap] w fun e w' => e = .returned (.bool true) ∧ w.Extends w' := by
  obtain ⟨Q, hQ⟩ : ∃ Q, Q = (fun e w' => e = .returned (.bool true) ∧ w.Extends w' : Ending → World → Prop) := ⟨_, rfl⟩
  rw [← hQ]
  have HQ := hid_of hQ
  have HS := hid_of hS
  have hsm := small_any w a len cap g dt hS
  have HSM := hid_of hsm
  clear hQ hS hsm
  go_enter Try.func3, Try.ntmps3
  go_wp2_with fail
  refine HSM.out.mono ?_
  rintro e W ⟨⟨r, rfl, hr⟩, rfl⟩
  clear HSM
  dsimp only
  cases r with
  | false =>
    have HP : Hid (Q (.returned (.bool true)) W) := by
      show Q _ _
      rw [HQ.out]; exact ⟨rfl, ext_Ext (Ext.refl _)⟩
    go_wp2_with fail
    try go_ret
    exact HP.out
  | true =>
  obtain ⟨hlen, -⟩ := hr rfl
  have hpo := programOf_x W a len cap g dt HS.out hlen
  have HPO := hid_of hpo
  clear hpo hr
  go_wp2_with fail
  refine HPO.out.mono ?_
  intro e W2 hpx
  obtain ⟨x0, p, rfl, hx2, hprg, hok⟩ := progX_ok hpx
  clear HPO hpx
  dsimp only
  have g0l := GProgram.length_enc x0
  go_upto_region 4 with fail
  refine wp_world (fun V => blk V W2.heap.size = some x0.enc ∧ W2.Extends V) ⟨?_, ?_⟩ ?_
  · first | (rw [blk_put, if_pos rfl, blk_alloc, if_pos rfl]; rfl) | (rw [blk_alloc, if_pos rfl])
  · first | exact extends_put (extends_alloc (ext_Ext (Ext.refl _)) _) (Nat.le_refl _) _ | exact extends_alloc (ext_Ext (Ext.refl _)) _
  rintro W3 ⟨hb3, hx3⟩
  obtain ⟨b3, e3⟩ : ∃ b3, b3 = W2.heap.size := ⟨_, rfl⟩
  rw [← e3] at hb3 ⊢
  have hprg3 := hprg.ext hx3
  have HPRG := hid_of hprg3
  have HOK := hid_of hok
  have HXW := hid_of (hx2.trans hx3)
  have HB3 := hid_of hb3
  have hpl := hprg3.1
  have HPL := hid_of hpl
  have h64 := hok.nP
  have hx0 : nth x0.enc 0 = some (.slice x0.preds.a p.P.length x0.preds.cap) := by rw [← hpl]; exact GProgram.preds_get x0
  have hnw := new_x W3 (fun _ => .no) 0 p x0 (hprg3.sub (core_no W3)) hok (fun k _ => ⟨(by rintro ⟨m, e⟩; cases e), (by rintro ⟨m, e⟩; cases e)⟩)
  have HNW := hid_of hnw
  clear e3 hx3 hx2 hprg hprg3 hok hpl hnw
  go_wp2_with fail
  refine HNW.out.mono ?_
  rintro e V1 ⟨be, O1, x1, rfl, hx1, ho1, hE1, hr1⟩
  have HI0 : Hid (E1 p W3 be (List.replicate (3 * p.P.length) []) V1) := by
    have hrow : ∀ r, rowsAt (List.replicate (3 * p.P.length) ([] : List Tup)) r = [] := fun r => by
      unfold rowsAt
      rw [List.getD_eq_getElem?_getD, List.getElem?_replicate]
      by_cases hr : r < 3 * p.P.length
      · rw [if_pos hr]; rfl
      · rw [if_neg hr]; rfl
    refine ⟨O1, x1, _, hx1, ho1, hE1, hr1, ⟨⟨⟨by simp, fun L hL => ?_, fun q _ => hrow _⟩, fun q _ => hrow _⟩, fun q j _ _ t ht => by rw [hrow] at ht; cases ht⟩⟩
    rw [List.eq_of_mem_replicate hL]
    exact ⟨by simp, outOk_nil⟩
  clear HNW hx1 ho1 hE1 hr1 hb3
  dsimp only
  have hb3V : blk V1 b3 = some x0.enc := (HI0.out.wx.1.blk (blk_lt HB3.out)).trans HB3.out
  have hnm := HI0.out.newM HOK.out HPRG.out
  have HNM := hid_of hnm
  clear hnm
  go_wp2_with fail
  refine HNM.out.mono ?_
  rintro e V2 ⟨bm, bb, bs, rfl, hJ⟩
  have HA0 : Hid (Ag3 p W3 be bm bb bs V2) := by
    refine ⟨_, _, _, _, hJ, fun q hq => ?_⟩
    have hrow : rowsAt (List.replicate (3 * p.P.length) ([] : List Tup)) (3 * q) = [] := by
      unfold rowsAt
      rw [List.getD_eq_getElem?_getD, List.getElem?_replicate, if_pos (by omega)]; rfl
    rw [hrow]
    exact ⟨fun _ => ⟨List.Perm.refl _, rfl⟩, fun _ => ⟨rfl, List.Perm.refl _⟩⟩
  clear HNM hJ HI0 hb3V
  dsimp only
  go_upto_region 9 with fail
  refine wp_loop_f 61 (la3I p W3 a len cap b3 be bm bb bs) (fun f _ => len - (intOf (f 7)).toNat) rfl ⟨rfl, rfl, rfl, rfl, 0, by omega, rfl, HA0⟩ ?_
  clear HA0
  intro F V hrel
  obtain ⟨f0, f3, f4, f6, i, hi, f7, HI⟩ := hrel
  have H7 := hid_of f7
  rw [frame61k, f0, f3, f4, f6, f7]
  clear f0 f3 f4 f6 f7
  obtain ⟨S, T, U, K, hJ, hR⟩ := HI.out
  have hxV := hJ.wx.1
  by_cases hin : i < len
  · have hin' : (i : Int) < (len : Int) := by omega
    obtain ⟨bx, o, C, rfl, hCW, hlC, hseg⟩ := (HS.out.mono HXW.out).2.2.2 (by omega)
    have hsg := hseg i hin
    have i0 : (0 : Int) ≤ (i : Int) := by omega
    have i2 : ((i : Int)).toNat = i := by omega
    have hil : (i + 1) * 18 ≤ len * 18 := Nat.mul_le_mul_right _ hin
    have l1 : o + i * 18 + 18 ≤ C.length := by omega
    have hC : blk V bx = some C := (hxV.blk (blk_lt hCW)).trans hCW
    have HCW := hid_of hCW
    have hpy := (hJ.ext (extends_drew (ext_Ext (Ext.refl _)))).play HOK.out (g i)
    have HPY := hid_of hpy
    have HR := hid_of hR
    have HES := hid_of hJ.wx.2.1
    clear hseg hil hCW hpy hR hJ HI hxV
    go_upto_region 11 with fail
    refine wp_region_held_drew (S := fun W' => blk W' bx = some C) (by kernel_rfl) hC (fun hHeld => ?_)
    refine wpAnyH_take (i := 0) (oi := ⟨_, _, _, _, _, _⟩) (v := ?_) rfl (by kernel_rfl) (by kernel_rfl) (by kernel_rfl) (fun _ _ _ h => h) (Or.inl ⟨by rfl, ?_⟩) (by assumption) ?_
    rotate_left 1
    · intro W' hSw
      go_simp
      try with_reducible rfl
    try simp only [Act.put, List.setIfInBounds_toArray, List.set_cons_zero, List.set_cons_succ]
    refine wpAnyH_take (i := 1) (oi := ⟨_, _, _, _, _, _⟩) (v := ?_) rfl (by kernel_rfl) (by kernel_rfl) (by kernel_rfl) (fun _ _ _ h => h) (Or.inl ⟨by rfl, ?_⟩) (by assumption) ?_
    rotate_left 1
    · intro W' hSw
      go_simp
      try with_reducible rfl
    try simp only [Act.put, List.setIfInBounds_toArray, List.set_cons_zero, List.set_cons_succ]
    refine wpAnyH_take (i := 2) (oi := ⟨_, _, _, _, _, _⟩) (v := ?_) rfl (by kernel_rfl) (by kernel_rfl) (by kernel_rfl) (fun _ _ _ h => h) (Or.inl ⟨by rfl, ?_⟩) (by assumption) ?_
    rotate_left 1
    · intro W' hSw
      go_simp
      try with_reducible rfl
    try simp only [Act.put, List.setIfInBounds_toArray, List.set_cons_zero, List.set_cons_succ]
    refine wpAnyH_take (i := 3) (oi := ⟨_, _, _, _, _, _⟩) (v := ?_) rfl (by kernel_rfl) (by kernel_rfl) (by kernel_rfl) (fun _ _ _ h => h) (Or.inl ⟨by rfl, ?_⟩) (by assumption) ?_
    rotate_left 1
    · intro W' hSw
      go_simp
      try with_reducible rfl
    try simp only [Act.put, List.setIfInBounds_toArray, List.set_cons_zero, List.set_cons_succ]
    refine wpAnyH_take (i := 4) (oi := ⟨_, _, _, _, _, _⟩) (v := ?_) rfl (by kernel_rfl) (by kernel_rfl) (by kernel_rfl) (fun _ _ _ h => h) (Or.inl ⟨by rfl, ?_⟩) (by assumption) ?_
    rotate_left 1
    · intro W' hSw
      go_simp
      try with_reducible rfl
    try simp only [Act.put, List.setIfInBounds_toArray, List.set_cons_zero, List.set_cons_succ]
    refine wpAnyH_take (i := 6) (oi := ⟨_, _, _, _, _, _⟩) (v := ?_) rfl (by kernel_rfl) (by kernel_rfl) (by kernel_rfl) (fun _ _ _ h => h) (Or.inl ⟨by rfl, ?_⟩) (by assumption) ?_
    rotate_left 1
    · intro W' hSw
      go_simp
      try with_reducible rfl
    try simp only [Act.put, List.setIfInBounds_toArray, List.set_cons_zero, List.set_cons_succ]
    refine wpAnyH_take (i := 7) (oi := ⟨_, _, _, _, _, _⟩) (v := ?_) rfl (by kernel_rfl) (by kernel_rfl) (by kernel_rfl) (fun _ _ _ h => h) (Or.inl ⟨by rfl, ?_⟩) (by assumption) ?_
    rotate_left 1
    · intro W' hSw
      go_simp
      try with_reducible rfl
    try simp only [Act.put, List.setIfInBounds_toArray, List.set_cons_zero, List.set_cons_succ]
    refine wpAnyH_take (i := 8) (oi := ⟨_, _, _, _, _, _⟩) (v := ?_) rfl (by kernel_rfl) (by kernel_rfl) (by kernel_rfl) (fun _ _ _ h => h) (Or.inl ⟨by rfl, ?_⟩) (by assumption) ?_
    rotate_left 1
    · intro W' hSw
      go_simp
      try with_reducible rfl
    try simp only [Act.put, List.setIfInBounds_toArray, List.set_cons_zero, List.set_cons_succ]
    refine wpAnyH_take (i := 9) (oi := ⟨_, _, _, _, _, _⟩) (v := ?_) rfl (by kernel_rfl) (by kernel_rfl) (by kernel_rfl) (fun _ _ _ h => h) (Or.inl ⟨by rfl, ?_⟩) (by assumption) ?_
    rotate_left 1
    · intro W' hSw
      go_simp
      try with_reducible rfl
    try simp only [Act.put, List.setIfInBounds_toArray, List.set_cons_zero, List.set_cons_succ]
    refine wpAnyH_take (i := 10) (oi := ⟨_, _, _, _, _, _⟩) (v := ?_) rfl (by kernel_rfl) (by kernel_rfl) (by kernel_rfl) (fun _ _ _ h => h) (Or.inl ⟨by rfl, ?_⟩) (by assumption) ?_
    rotate_left 1
    · intro W' hSw
      go_simp
      try with_reducible rfl
    try simp only [Act.put, List.setIfInBounds_toArray, List.set_cons_zero, List.set_cons_succ]
    refine wpAnyH_ready (rs := [5]) (by kernel_rfl) (by simp) ?_
    refine AllReadyH.cons (o := ⟨_, _, _, _, _, _⟩) rfl (fun K' hK => ?_) AllReadyH.nil
    go_simp
    refine HPY.out.mono ?_
    rintro en Va ⟨S', A, ts, rfl, hpr, hJa⟩
    have hst := hJa.step HOK.out (HR.out.relT HES.out) (HR.out.relU HES.out) (g i)
    have HSTP := hid_of hst
    have HPR := hid_of hpr
    have ca : blk Va bx = some C := (hJa.wx.1.blk (blk_lt HCW.out)).trans HCW.out
    clear HPY hpr hJa hst
    dsimp only
    refine hK.out _ _ ca (fun hHeld => ?_)
    clear hK K'
    try simp only [Act.put, List.setIfInBounds_toArray, List.set_cons_zero, List.set_cons_succ]
    refine wpAnyH_ready (rs := [11]) (by kernel_rfl) (by simp) ?_
    refine AllReadyH.cons (o := ⟨_, _, _, _, _, _⟩) rfl (fun K' hK => ?_) AllReadyH.nil
    go_simp
    refine HSTP.out.mono ?_
    rintro en Vb ⟨T', U', B, us, rfl, hmr, hJb, hra, hrb⟩
    obtain ⟨v1, v2, v3, v4, v5⟩ := jr_step HOK.out HR.out HES.out HPR.out hmr
    have hsa := sameAns_any Vb A B ts us hra hrb v1 v2 v3 (by rw [← hra.1]; omega)
    have HSA := hid_of hsa
    have cb : blk Vb bx = some C := (hJb.wx.1.blk (blk_lt HCW.out)).trans HCW.out
    have HJB := hid_of hJb
    have HV4 := hid_of v4
    clear HSTP hmr hJb hra hrb v1 v2 v3 v4 v5 hsa
    dsimp only
    refine hK.out _ _ cb (fun hHeld => ?_)
    clear hK K'
    try simp only [Act.put, List.setIfInBounds_toArray, List.set_cons_zero, List.set_cons_succ]
    refine wpAnyH_ready (rs := [12]) (by kernel_rfl) (by simp) ?_
    refine AllReadyH.cons (o := ⟨_, _, _, _, _, _⟩) rfl (fun K' hK => ?_) AllReadyH.nil
    go_simp
    refine HSA.out.mono ?_
    rintro en Vc ⟨rfl, hxc⟩
    have hjc := HJB.out.ext hxc
    have cc : blk Vc bx = some C := (hjc.wx.1.blk (blk_lt HCW.out)).trans HCW.out
    have HA' : Hid (Ag3 p W3 be bm bb bs Vc) := ⟨_, _, _, _, hjc, HV4.out⟩
    clear HSA hxc HJB HV4 hjc
    dsimp only
    refine hK.out _ _ cc (fun hHeld => ?_)
    clear hK K'
    try simp only [Act.put, List.setIfInBounds_toArray, List.set_cons_zero, List.set_cons_succ]
    refine wpAnyH_take (i := 13) (oi := ⟨_, _, _, _, _, _⟩) (v := ?_) rfl (by kernel_rfl) (by kernel_rfl) (by kernel_rfl) (fun _ _ _ h => h) (Or.inl ⟨by rfl, ?_⟩) (by assumption) ?_
    rotate_left 1
    · intro W' hSw
      go_simp
      try with_reducible rfl
    try simp only [Act.put, List.setIfInBounds_toArray, List.set_cons_zero, List.set_cons_succ]
    refine wpAnyH_done (by kernel_rfl) ?_ _
    clear hHeld
    go_wp2_with fail
    refine ⟨rfl, rfl, ⟨rfl, rfl, rfl, rfl, i + 1, by omega, ?_, HA'⟩, ?_⟩
    · show Value.int .i64 _ = _
      go_num
    · show len - (intOf (Value.int .i64 _)).toNat < len - (intOf (F 7)).toNat
      rw [H7.out]
      simp [intOf]; omega
  · obtain rfl : i = len := by omega
    have hin' : ¬ ((i : Int) < (i : Int)) := by omega
    have HA : Hid (Ag3 p W3 be bm bb bs V) := ⟨S, T, U, K, hJ, hR⟩
    clear HI hJ hR hxV
    go_upto_region 14 with fail
    refine wp_loop_f 61 (lb3I p W3 b3 be bm bb bs) (fun f _ => p.P.length - (intOf (f 8)).toNat) rfl ⟨rfl, rfl, rfl, 0, by omega, rfl, HA⟩ ?_
    clear HA H7
    intro F2 V3 hrel
    obtain ⟨f3, f4, f6, j, hj, f8, HI⟩ := hrel
    have H8 := hid_of f8
    rw [frame61k, f3, f4, f6, f8]
    clear f3 f4 f6 f8
    obtain ⟨S, T, U, K, hJ, hR⟩ := HI.out
    have hxV := hJ.wx.1
    have hb3V : blk V3 b3 = some x0.enc := (hxV.blk (blk_lt HB3.out)).trans HB3.out
    by_cases hjP : j < p.P.length
    · have hjP' : (j : Int) < (p.P.length : Int) := by omega
      have HR := hid_of hR
      have HJ := hid_of hJ
      have ol := GOp.length_enc ⟨6, (j : Int), Vector.replicate 4 0, 0, false, GRule.zero⟩
      have oo := GOp.ok_enc ⟨6, (j : Int), Vector.replicate 4 0, 0, false, GRule.zero⟩
      have oa := GOp.all_get ⟨6, (j : Int), Vector.replicate 4 0, 0, false, GRule.zero⟩
      clear HI hJ hR hxV
      go_upto_region 17 with fail
      refine wp_world (fun W => blk W V3.heap.size = some (GOp.enc ⟨6, (j : Int), Vector.replicate 4 0, 0, false, GRule.zero⟩) ∧ V3.Extends W) ⟨?_, ?_⟩ ?_
      · first | (rw [blk_put, if_pos rfl, blk_alloc, if_pos rfl]; rfl) | (rw [blk_alloc, if_pos rfl])
      · first | exact extends_put (extends_alloc (ext_Ext (Ext.refl _)) _) (Nat.le_refl _) _ | exact extends_alloc (ext_Ext (Ext.refl _)) _
      rintro V4 ⟨hb9, hx4⟩
      have hJ4 := HJ.out.grow hx4
      have hb9K : blk (newc V3.heap.size V4) V3.heap.size = some (GOp.enc ⟨6, (j : Int), Vector.replicate 4 0, 0, false, GRule.zero⟩) := blk_newc hb9 (Nat.le_refl _)
      obtain ⟨K4, hK4⟩ : ∃ K4, K4 = newc V3.heap.size V4 := ⟨_, rfl⟩
      rw [← hK4] at hJ4 hb9K
      obtain ⟨b9, e9⟩ : ∃ b9, b9 = V3.heap.size := ⟨_, rfl⟩
      rw [← e9] at hb9 hb9K ⊢
      have hpy := (hJ4.ext (extends_drew (ext_Ext (Ext.refl _)))).play HOK.out ⟨6, (j : Int), Vector.replicate 4 0, 0, false, GRule.zero⟩
      have HPY := hid_of hpy
      have HES := hid_of hJ4.wx.2.1
      have HBK := hid_of hb9K
      obtain ⟨GE, hGE⟩ : ∃ GE, GE = GOp.enc ⟨6, (j : Int), Vector.replicate 4 0, 0, false, GRule.zero⟩ := ⟨_, rfl⟩
      rw [← hGE] at hb9 HBK HPY ol oo oa
      have HGE := hid_of hGE
      clear hx4 hJ4 hb9K hK4 e9 hpy HJ hb3V hGE
      refine wp_region_held_drew (S := fun W' => blk W' b9 = some GE) (by kernel_rfl) hb9 (fun hHeld => ?_)
      refine wpAnyH_take (i := 0) (oi := ⟨_, _, _, _, _, _⟩) (v := ?_) rfl (by kernel_rfl) (by kernel_rfl) (by kernel_rfl) (fun _ _ _ h => h) (Or.inl ⟨by rfl, ?_⟩) (by assumption) ?_
      rotate_left 1
      · intro W' hSw
        go_simp
        try with_reducible rfl
      try simp only [Act.put, List.setIfInBounds_toArray, List.set_cons_zero, List.set_cons_succ]
      refine wpAnyH_take (i := 1) (oi := ⟨_, _, _, _, _, _⟩) (v := ?_) rfl (by kernel_rfl) (by kernel_rfl) (by kernel_rfl) (fun _ _ _ h => h) (Or.inl ⟨by rfl, ?_⟩) (by assumption) ?_
      rotate_left 1
      · intro W' hSw
        go_simp
        try with_reducible rfl
      try simp only [Act.put, List.setIfInBounds_toArray, List.set_cons_zero, List.set_cons_succ]
      refine wpAnyH_take (i := 3) (oi := ⟨_, _, _, _, _, _⟩) (v := ?_) rfl (by kernel_rfl) (by kernel_rfl) (by kernel_rfl) (fun _ _ _ h => h) (Or.inl ⟨by rfl, ?_⟩) (by assumption) ?_
      rotate_left 1
      · intro W' hSw
        go_simp
        try with_reducible rfl
      try simp only [Act.put, List.setIfInBounds_toArray, List.set_cons_zero, List.set_cons_succ]
      refine wpAnyH_take (i := 4) (oi := ⟨_, _, _, _, _, _⟩) (v := ?_) rfl (by kernel_rfl) (by kernel_rfl) (by kernel_rfl) (fun _ _ _ h => h) (Or.inl ⟨by rfl, ?_⟩) (by assumption) ?_
      rotate_left 1
      · intro W' hSw
        go_simp
        try with_reducible rfl
      try simp only [Act.put, List.setIfInBounds_toArray, List.set_cons_zero, List.set_cons_succ]
      refine wpAnyH_ready (rs := [2]) (by kernel_rfl) (by simp) ?_
      refine AllReadyH.cons (o := ⟨_, _, _, _, _, _⟩) rfl (fun K' hK => ?_) AllReadyH.nil
      go_simp
      refine HPY.out.mono ?_
      rintro en Va ⟨S', A, ts, rfl, hpr, hJa⟩
      have hst := hJa.step HOK.out (HR.out.relT HES.out) (HR.out.relU HES.out) ⟨6, (j : Int), Vector.replicate 4 0, 0, false, GRule.zero⟩
      rw [← HGE.out] at hst
      have HSTP := hid_of hst
      have HPR := hid_of hpr
      have ca : blk Va b9 = some GE := hJa.wx.2.2 _ _ HBK.out
      clear HPY hpr hJa hst
      dsimp only
      refine hK.out _ _ ca (fun hHeld => ?_)
      clear hK K'
      try simp only [Act.put, List.setIfInBounds_toArray, List.set_cons_zero, List.set_cons_succ]
      refine wpAnyH_ready (rs := [5]) (by kernel_rfl) (by simp) ?_
      refine AllReadyH.cons (o := ⟨_, _, _, _, _, _⟩) rfl (fun K' hK => ?_) AllReadyH.nil
      go_simp
      refine HSTP.out.mono ?_
      rintro en Vb ⟨T', U', B, us, rfl, hmr, hJb, hra, hrb⟩
      obtain ⟨v1, v2, v3, v4, v5⟩ := jr_step HOK.out HR.out HES.out HPR.out hmr
      have hsa := sameAns_any Vb A B ts us hra hrb v1 v2 v3 (by rw [← hra.1]; omega)
      have HSA := hid_of hsa
      have cb : blk Vb b9 = some GE := hJb.wx.2.2 _ _ HBK.out
      have HJB := hid_of hJb
      have HV4 := hid_of v4
      clear HSTP hmr hJb hra hrb v1 v2 v3 v4 v5 hsa
      dsimp only
      refine hK.out _ _ cb (fun hHeld => ?_)
      clear hK K'
      try simp only [Act.put, List.setIfInBounds_toArray, List.set_cons_zero, List.set_cons_succ]
      refine wpAnyH_ready (rs := [6]) (by kernel_rfl) (by simp) ?_
      refine AllReadyH.cons (o := ⟨_, _, _, _, _, _⟩) rfl (fun K' hK => ?_) AllReadyH.nil
      go_simp
      refine HSA.out.mono ?_
      rintro en Vc ⟨rfl, hxc⟩
      have hjc := HJB.out.ext hxc
      have cc : blk Vc b9 = some GE := hjc.wx.2.2 _ _ HBK.out
      have HA' : Hid (Ag3 p W3 be bm bb bs Vc) := ⟨_, _, _, _, hjc, HV4.out⟩
      clear HSA hxc HJB HV4 hjc
      dsimp only
      refine hK.out _ _ cc (fun hHeld => ?_)
      clear hK K'
      try simp only [Act.put, List.setIfInBounds_toArray, List.set_cons_zero, List.set_cons_succ]
      refine wpAnyH_take (i := 7) (oi := ⟨_, _, _, _, _, _⟩) (v := ?_) rfl (by kernel_rfl) (by kernel_rfl) (by kernel_rfl) (fun _ _ _ h => h) (Or.inl ⟨by rfl, ?_⟩) (by assumption) ?_
      rotate_left 1
      · intro W' hSw
        go_simp
        try with_reducible rfl
      try simp only [Act.put, List.setIfInBounds_toArray, List.set_cons_zero, List.set_cons_succ]
      refine wpAnyH_done (by kernel_rfl) ?_ _
      clear hHeld
      go_wp2_with fail
      refine ⟨rfl, rfl, ⟨rfl, rfl, rfl, j + 1, by omega, ?_, HA'⟩, ?_⟩
      · show Value.int .i64 _ = _
        go_num
      · show p.P.length - (intOf (Value.int .i64 _)).toNat < p.P.length - (intOf (F2 8)).toNat
        rw [H8.out]
        simp [intOf]; omega
    · obtain rfl : j = p.P.length := by omega
      have hjP' : ¬ ((p.P.length : Int) < (p.P.length : Int)) := by omega
      have HP : Hid (Q (.returned (.bool true)) V3) := by
        show Q _ _
        rw [HQ.out]; exact ⟨rfl, HXW.out.trans hxV⟩
      clear HI hJ hR hxV
      go_wp2_with fail
      try go_ret
      exact HP.out
end Go.Proofs.Qxb6500788a
