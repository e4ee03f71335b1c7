import Derived.Test.Qxb6500788aLga
import Derived.StillTailTactics
import Derived.Deep.QuietTactic
import Derived.BigQuiet
import Derived.Deep.RegionHeld
import Derived.Deep.CutRange
import Derived.Laws.ResultCell
import Derived.Laws.Rows
import Derived.DeepKeys
import Derived.DataBytes
import Derived.Laws.StructEq
import Derived.Laws.AppendOwn
import Derived.Laws.MakeOwn
set_option linter.unusedSimpArgs false
set_option linter.unusedVariables false
namespace Go.Proofs.Qxb6500788a
open Go.RowKit Go.Blk
attribute [local go_sem ↓] execOp_load execOp_store execOp_alloc
attribute [local go_sem] Try.ld24 Try.st24 Try.ld25 Try.st25 Try.ld3 Try.st3 Try.ld30 Try.st30 Try.ld36 Try.st36 Try.ld4 Try.st4 Try.ld41 Try.st41 Try.ld50 Try.st50 Try.ld40 Try.st40 Try.ld42 Try.st42 Try.ld89 Try.st89 Try.ld91 Try.st91 Try.ld56 Try.st56 Try.ld97 Try.st97 Try.ld98 Try.st98 Try.ld101 Try.st101 Try.ld104 Try.st104 Try.ld57 Try.st57 Try.ld130 Try.st130 Try.ld2 Try.st2 Try.ld5 Try.st5 Try.ld9 Try.st9 Try.ld12 Try.st12 Try.ld21 Try.st21 Try.ld22 Try.st22 Try.ld29 Try.st29 Try.ld33 Try.st33 Try.ld59 Try.st59 Try.ld62 Try.st62 Try.ld69 Try.st69 Try.ld94 Try.st94 Try.ld96 Try.st96 Try.ld129 Try.st129 Try.ld158 Try.st158 Try.ld162 Try.st162 Try.ld47 Try.st47 Try.ld44 Try.st44 Try.ld137 Try.st137 Try.ld145 Try.st145 Try.ld43 Try.st43 Try.ld27 Try.st27 Try.ld38 Try.st38 Try.ld46 Try.st46 Try.ld49 Try.st49 Try.ld52 Try.st52 Try.ld54 Try.st54 Try.ld61 Try.st61 Try.ld80 Try.st80 Try.ld87 Try.st87 Try.ld93 Try.st93 Try.ld100 Try.st100 Try.ld103 Try.st103 Try.ld106 Try.st106 Try.ld109 Try.st109 Try.ld132 Try.st132 Try.ld147 Try.st147 Try.al47 Try.al44 Try.al137 Try.al145 Try.al43 Try.al27 Try.al38 Try.al46 Try.al49 Try.al52 Try.al54 Try.al61 Try.al80 Try.al87 Try.al93 Try.al100 Try.al103 Try.al106 Try.al109 Try.al132 Try.al147
attribute [local go_sem] GProgram.length_enc GProgram.ok_enc GProgram.all_get GProgram.all_set GProgram.preds_get GProgram.preds_set GProgram.rules_get GProgram.rules_set GProgram.strata_get GProgram.strata_set Answer.length_enc Answer.ok_enc Answer.all_get Answer.all_set Answer.code_get Answer.code_set Answer.n_get Answer.n_set Answer.rows_get Answer.rows_set Term.length_enc Term.ok_enc Term.all_get Term.all_set Term.var_get Term.var_set Term.n_get Term.n_set Atom.length_enc Atom.ok_enc Atom.all_get Atom.all_set Atom.pred_get Atom.pred_set Atom.args_get Atom.args_set GRule.length_enc GRule.ok_enc GRule.all_get GRule.all_set GRule.head_get GRule.head_set GRule.body_get GRule.body_set GRule.head_pred_get GRule.head_pred_set GRule.head_args_get GRule.head_args_set GOp.length_enc GOp.ok_enc GOp.all_get GOp.all_set GOp.kind_get GOp.kind_set GOp.pred_get GOp.pred_set GOp.t_get GOp.t_set GOp.n_get GOp.n_set GOp.base_get GOp.base_set GOp.rule_get GOp.rule_set GOp.rule_head_get GOp.rule_head_set GOp.rule_body_get GOp.rule_body_set GOp.rule_head_pred_get GOp.rule_head_pred_set GOp.rule_head_args_get GOp.rule_head_args_set PredInfo.length_enc PredInfo.ok_enc PredInfo.all_get PredInfo.all_set PredInfo.arity_get PredInfo.arity_set PredInfo.base_get PredInfo.base_set PredInfo.stratum_get PredInfo.stratum_set GStats.length_enc GStats.ok_enc GStats.all_get GStats.all_set GStats.rounds_get GStats.rounds_set GStats.fired_get GStats.fired_set GStats.emitted_get GStats.emitted_set GStats.fresh_get GStats.fresh_set Literal.length_enc Literal.ok_enc Literal.all_get Literal.all_set Literal.neg_get Literal.neg_set Literal.atom_get Literal.atom_set Literal.atom_pred_get Literal.atom_pred_set Literal.atom_args_get Literal.atom_args_set Engine.length_enc Engine.ok_enc Engine.all_get Engine.all_set Engine.prog_get Engine.prog_set Engine.st_get Engine.st_set Engine.levels_get Engine.levels_set Engine.running_get Engine.running_set Engine.stratum_get Engine.stratum_set Engine.round_get Engine.round_set Engine.saved_get Engine.saved_set Engine.stats_get Engine.stats_set Engine.prog_preds_get Engine.prog_preds_set Engine.prog_rules_get Engine.prog_rules_set Engine.prog_strata_get Engine.prog_strata_set Engine.stats_rounds_get Engine.stats_rounds_set Engine.stats_fired_get Engine.stats_fired_set Engine.stats_emitted_get Engine.stats_emitted_set Engine.stats_fresh_get Engine.stats_fresh_set Level.length_enc Level.ok_enc Level.all_get Level.all_set Level.heads_get Level.heads_set Level.jobs_get Level.jobs_set Plan.length_enc Plan.ok_enc Plan.all_get Plan.all_set Plan.rule_get Plan.rule_set Plan.delta_get Plan.delta_set Plan.src_get Plan.src_set Job.length_enc Job.ok_enc Job.all_get Job.all_set Job.full_get Job.full_set Job.deltas_get Job.deltas_set Job.full_rule_get Job.full_rule_set Job.full_delta_get Job.full_delta_set Job.full_src_get Job.full_src_set GState.length_enc GState.ok_enc GState.all_get GState.all_set GState.prog_get GState.prog_set GState.base_get GState.base_set GState.shown_get GState.shown_set GState.prog_preds_get GState.prog_preds_set GState.prog_rules_get GState.prog_rules_set GState.prog_strata_get GState.prog_strata_set Store.length_enc Store.ok_enc Store.all_get Store.all_set Store.arity_get Store.arity_set Store.rows_get Store.rows_set Env.length_enc Env.ok_enc Env.all_get Env.all_set Env.val_get Env.val_set Env.set_get Env.set_set
attribute [local go_sem] size_put size_ext blk_put free_put blk_alloc free_alloc blk_drew free_drew blk_ext free_ext lookOr_some putOr_some segAt_some cellAt_some storeIn_some put_put put_alloc_new length_arr ok_arr_u8 ok_arr_u32 ok_arr_u64 ok_arr_i64 ok_arr_sl cellsV_agg cellsV_int cellsV_bool cellsV_string cellsV_pointer cellsV_slice cellsV_sl ok_int ok_bool ok_string ok_pointer ok_slice ok_sl toList_arr seg_arr set_arr nth_splice nth_splice0 seg_splice seg_splice0 splice_splice splice_splice0 length_splice_if
attribute [local go_sem ↓] execOp_box
attribute [local go_sem] box_run nth_arr_u8 put_arr_u8 blk_drewN free_drewN put_drewN blk_raw free_raw
/-- Both engines, and a row beside them. -/
def E2r (p : Pg) (W3 : World) (be bf : Nat) (S S2 : List (List Tup)) (a : Option Addr) (n : Nat) (us : List Tup) (V : World) : Prop := ∃ (O : Own) (B2 : Nat) (x x2 : Engine) (sav sav2 : List (List Tup)), (W3.Extends V ∧ (∀ k, k < W3.heap.size → O k = .no) ∧ EAt W3.heap.size O V 0 be p x S sav ∧ x.running = false ∧ EngI p S ∧ EAt B2 O V 2 bf p x2 S2 sav2 ∧ x2.running = false ∧ EngI p S2) ∧ Rw tpl 4 (core O V) a n us
theorem E2r.e2 {p : Pg} {W3 : World} {be bf : Nat} {S S2 : List (List Tup)} {a : Option Addr} {n : Nat} {us : List Tup} {V : World} (h : E2r p W3 be bf S S2 a n us V) : E2 p W3 be bf S S2 V := by
  obtain ⟨O, B2, x, x2, sav, sav2, h, _⟩ := h
  exact ⟨O, B2, x, x2, sav, sav2, h⟩
theorem E2.row {p : Pg} {W3 : World} {be bf : Nat} {S S2 : List (List Tup)} {V V' : World} (h : E2 p W3 be bf S S2 V) {a : Option Addr} {n c : Nat} {us : List Tup} (ho : Outs V V' a n c us) : E2r p W3 be bf S S2 a n us V' := by
  obtain ⟨O, B2, x, x2, sav, sav2, h1, h2, h3, h4, h5, h6, h7, h8⟩ := h
  have hs := h1.size
  exact ⟨lab O V.heap.size .no, B2, x, x2, sav, sav2, ⟨h1.trans ho.2.1, fun k hk => by rw [lab_lt (by omega)]; exact h2 k hk, h3.new ho.2.1 _, h4, h5, h6.new ho.2.1 _, h7, h8⟩, outs_core ho⟩
theorem E2r.rw {p : Pg} {W3 : World} {be bf : Nat} {S S2 : List (List Tup)} {a : Option Addr} {n : Nat} {us : List Tup} {V : World} (h : E2r p W3 be bf S S2 a n us V) : Rw tpl 4 V a n us := by
  obtain ⟨O, B2, x, x2, sav, sav2, _, h⟩ := h
  exact h.uncore
theorem E2r.add {p : Pg} (hok : PgOk p) {W3 : World} {be bf : Nat} {S S2 : List (List Tup)} {a : Option Addr} {n : Nat} {us : List Tup} {V : World} (h : E2r p W3 be bf S S2 a n us V) (q : Nat) (t : Tup) : Calls Try.prog 21 #[.pointer (some ⟨bf, 0, none⟩), .int .i64 (q : Int), .agg (arr i64v t).toArray] V fun e V' => e = .returned (.int .i64 (addC p false S2 (q : Int) t)) ∧ E2r p W3 be bf S (addS p false S2 (q : Int) t) a n us V' := by
  obtain ⟨O, B2, x, x2, sav, sav2, ⟨h1, h2, h3, h4, h5, h6, h7, h8⟩, hw⟩ := h
  have hc := add_any B2 O V 2 bf p x2 S2 sav2 h6 hok h8.1.1.1 h8.1.1.2.1 (q : Int) t
  rw [h7] at hc
  refine hc.mono ?_
  rintro e V' ⟨rfl, O', hf, hE⟩
  have hs := h1.size
  exact ⟨rfl, O', B2, x, x2, sav, sav2, ⟨hf.extends h1 (fun k hk => by rw [h2 k hk]; exact isE_no 2), fun k hk => (hf.keep k (by omega)).trans (h2 k hk), h3.fr hf (fun l hl => isE_02 hl) (isE_no 2), h4, h5, hE, h7, play_inv (op := ⟨2, q, t, 0, false, GRule.zero⟩) hok h8 (.fact rfl)⟩, hw.grow (core_fr hf (isE_no 2))⟩
theorem E2.wx {p : Pg} {W3 : World} {be bf : Nat} {S S2 : List (List Tup)} {V : World} (h : E2 p W3 be bf S S2 V) : W3.Extends V ∧ EngI p S ∧ EngI p S2 := by
  obtain ⟨O, B2, x, x2, sav, sav2, h1, h2, h3, h4, h5, h6, h7, h8⟩ := h
  exact ⟨h1, h5, h8⟩
theorem E2.la1 {p : Pg} (hok : PgOk p) {W3 : World} {be bf : Nat} {S S2 : List (List Tup)} {V : World} (h : E2 p W3 be bf S S2 V) (b3 : Nat) (x0 : GProgram) (hb : blk W3 b3 = some x0.enc) (hl : x0.preds.len = p.P.length) : Calls Try.prog 16 #[.pointer (some ⟨be, 0, none⟩), .pointer (some ⟨b3, 0, none⟩)] V fun e V' => ∃ a c, e = .returned (.slice a p.P.length c) ∧ V.Extends V' ∧ RelR V' a p.P.length (fun q => rowsAt S (3 * q)) := by
  obtain ⟨O, B2, x, x2, sav, sav2, h1, h2, h3, h4, h5, h6, h7, h8⟩ := h
  exact listAll_any W3.heap.size O V 0 be p x S sav h3 hok h5.1.1.1 h5.1.1.2.1 b3 x0.enc x0.preds.a x0.preds.cap ((h1.blk (blk_lt hb)).trans hb) (by rw [← hl]; exact GProgram.preds_get x0) (by rw [GProgram.length_enc]; omega)
theorem E2.la2 {p : Pg} (hok : PgOk p) {W3 : World} {be bf : Nat} {S S2 : List (List Tup)} {V : World} (h : E2 p W3 be bf S S2 V) (b3 : Nat) (x0 : GProgram) (hb : blk W3 b3 = some x0.enc) (hl : x0.preds.len = p.P.length) : Calls Try.prog 16 #[.pointer (some ⟨bf, 0, none⟩), .pointer (some ⟨b3, 0, none⟩)] V fun e V' => ∃ a c, e = .returned (.slice a p.P.length c) ∧ V.Extends V' ∧ RelR V' a p.P.length (fun q => rowsAt S2 (3 * q)) := by
  obtain ⟨O, B2, x, x2, sav, sav2, h1, h2, h3, h4, h5, h6, h7, h8⟩ := h
  exact listAll_any B2 O V 2 bf p x2 S2 sav2 h6 hok h8.1.1.1 h8.1.1.2.1 b3 x0.enc x0.preds.a x0.preds.cap ((h1.blk (blk_lt hb)).trans hb) (by rw [← hl]; exact GProgram.preds_get x0) (by rw [GProgram.length_enc]; omega)
/-- The program that ProgramOf returns. -/
theorem progX_ok {w : World} {e : Ending} {W : World} (h : ProgX w e W) : ∃ (x0 : GProgram) (p : Pg), e = .returned (.agg x0.enc.toArray) ∧ w.Extends W ∧ PrgC W x0 p ∧ PgOk p := by
  obtain ⟨bP, bR, aP, N, cP, aR, M, cR, S, P, R, Ls, rfl, hx, hP, -, hR, -, hN, hM, hS1, hS2, hA, hrd, hv, hl⟩ := h
  obtain ⟨St, rfl⟩ : ∃ St : Nat, S = (St : Int) := ⟨S.toNat, by omega⟩
  refine ⟨⟨⟨aP, N, cP⟩, ⟨aR, M, cR⟩, St⟩, ⟨P, R, Ls, St⟩, rfl, hx, ⟨hP.1.symm, hR.1.symm, rfl, ⟨bP, by rw [show P.length = N from hP.1]; exact hP⟩, ⟨bR, by rw [show R.length = M from hR.1]; exact hR⟩, fun k r hr => ?_⟩, pgOk_of (by rw [hP.1]; exact hN) hA (by omega) (by omega) hv hl⟩
  have hl' := hrd k r hr
  have hlen := hl'.1
  obtain ⟨h1, h2, h3⟩ := rbody_of hl'
  obtain ⟨bL, oL, h4, _, _⟩ := h3 W hx w.heap.size w.heap.size (Nat.le_refl _) (Nat.le_refl _)
  rw [← hlen] at h1 h4
  exact ⟨bL, oL, r.body.a, r.body.cap, h1, h4⟩
def la7I (p : Pg) (W3 : World) (a : Option Addr) (len cap b3 be : Nat) (f : Nat → Value) (V : World) : Prop := f 0 = .slice a len cap ∧ f 3 = .pointer (some ⟨b3, 0, none⟩) ∧ f 4 = .pointer (some ⟨be, 0, none⟩) ∧ ∃ i : Nat, i ≤ len ∧ f 6 = .int .i64 (i : Nat) ∧ Hid (∃ S, E1 p W3 be S V)
def lb7I (p : Pg) (W3 : World) (b3 be bf : Nat) (S : List (List Tup)) (f : Nat → Value) (V : World) : Prop := f 3 = .pointer (some ⟨b3, 0, none⟩) ∧ f 4 = .pointer (some ⟨be, 0, none⟩) ∧ f 7 = .pointer (some ⟨bf, 0, none⟩) ∧ ∃ i : Nat, i ≤ p.P.length ∧ f 9 = .int .i64 (i : Nat) ∧ Hid (∃ S2, E2 p W3 be bf S S2 V ∧ Fed p S S2 i)
def lc7I (p : Pg) (W3 : World) (b3 be bf i : Nat) (S : List (List Tup)) (a : Option Addr) (n c : Nat) (us : List Tup) (f : Nat → Value) (V : World) : Prop := f 3 = .pointer (some ⟨b3, 0, none⟩) ∧ f 4 = .pointer (some ⟨be, 0, none⟩) ∧ f 7 = .pointer (some ⟨bf, 0, none⟩) ∧ f 9 = .int .i64 (i : Nat) ∧ f 10 = .slice a n c ∧ ∃ k : Nat, k ≤ n ∧ f 12 = .int .i64 (k : Nat) ∧ Hid (∃ S2, E2r p W3 be bf S S2 a n us V ∧ FedK p S S2 i (us.take k))
set_option maxRecDepth 100000 in
theorem frame92 (f : Nat → Value) : frameN 92 f = #[f 0, f 1, f 2, f 3, f 4, f 5, f 6, f 7, f 8, f 9, f 10, f 11, f 12, f 13, f 14, f 15, f 16, f 17, f 18, f 19, f 20, f 21, f 22, f 23, f 24, f 25, f 26, f 27, f 28, f 29, f 30, f 31, f 32, f 33, f 34, f 35, f 36, f 37, f 38, f 39, f 40, f 41, f 42, f 43, f 44, f 45, f 46, f 47, f 48, f 49, f 50, f 51, f 52, f 53, f 54, f 55, f 56, f 57, f 58, f 59, f 60, f 61, f 62, f 63, f 64, f 65, f 66, f 67, f 68, f 69, f 70, f 71, f 72, f 73, f 74, f 75, f 76, f 77, f 78, f 79, f 80, f 81, f 82, f 83, f 84, f 85, f 86, f 87, f 88, f 89, f 90, f 91] := by kernel_rfl
set_option maxRecDepth 20000 in
set_option maxHeartbeats 2000000 in
theorem fresh_walk (w : World) (a : Option Addr) (len cap : Nat) (g : Nat → GOp) (dt : Nat → List Literal) (hS : ScriptAt w a len cap g dt) :
    Calls Try.prog 7 #[.slice a len cap] w fun e w' => e = .returned (.bool true) ∧ w.Extends w' := by
  obtain ⟨Q, hQ⟩ : ∃ Q, Q = (fun e w' => e = .returned (.bool true) ∧ w.Extends w' : Ending → World → Prop) := ⟨_, rfl⟩
  rw [← hQ]
  have HQ := hid_of hQ
  have HS := hid_of hS
  have hsm := small_any w a len cap g dt hS
  have HSM := hid_of hsm
  clear hQ hS hsm
  go_enter Try.func7, Try.ntmps7
  go_wp2_with fail
  refine HSM.out.mono ?_
  rintro e W ⟨⟨r, rfl, hr⟩, rfl⟩
  clear HSM
  dsimp only
  cases r with
  | false =>
    have HP : Hid (Q (.returned (.bool true)) W) := by
      show Q _ _
      rw [HQ.out]; exact ⟨rfl, ext_Ext (Ext.refl _)⟩
    go_wp2_with fail
    try go_ret
    exact HP.out
  | true =>
  obtain ⟨hlen, -⟩ := hr rfl
  have hpo := programOf_x W a len cap g dt HS.out hlen
  have HPO := hid_of hpo
  clear hpo hr
  go_wp2_with fail
  refine HPO.out.mono ?_
  intro e W2 hpx
  obtain ⟨x0, p, rfl, hx2, hprg, hok⟩ := progX_ok hpx
  clear HPO hpx
  dsimp only
  have g0l := GProgram.length_enc x0
  go_upto_region 4 with fail
  refine wp_world (fun V => blk V W2.heap.size = some x0.enc ∧ W2.Extends V) ⟨?_, ?_⟩ ?_
  · first | (rw [blk_put, if_pos rfl, blk_alloc, if_pos rfl]; rfl) | (rw [blk_alloc, if_pos rfl])
  · first | exact extends_put (extends_alloc (ext_Ext (Ext.refl _)) _) (Nat.le_refl _) _ | exact extends_alloc (ext_Ext (Ext.refl _)) _
  rintro W3 ⟨hb3, hx3⟩
  obtain ⟨b3, e3⟩ : ∃ b3, b3 = W2.heap.size := ⟨_, rfl⟩
  rw [← e3] at hb3 ⊢
  have hprg3 := hprg.ext hx3
  have HPRG := hid_of hprg3
  have HOK := hid_of hok
  have HXW := hid_of (hx2.trans hx3)
  have HB3 := hid_of hb3
  have hpl := hprg3.1
  have HPL := hid_of hpl
  have h64 := hok.nP
  have hx0 : nth x0.enc 0 = some (.slice x0.preds.a p.P.length x0.preds.cap) := by rw [← hpl]; exact GProgram.preds_get x0
  have hnw := new_x W3 (fun _ => .no) 0 p x0 (hprg3.sub (core_no W3)) hok (fun k _ => ⟨(by rintro ⟨m, e⟩; cases e), (by rintro ⟨m, e⟩; cases e)⟩)
  have HNW := hid_of hnw
  clear e3 hx3 hx2 hprg hprg3 hok hpl hnw
  go_wp2_with fail
  refine HNW.out.mono ?_
  rintro e V1 ⟨be, O1, x1, rfl, hx1, ho1, hE1, hr1⟩
  have HI0 : Hid (∃ S, E1 p W3 be S V1) := by
    have hrow : ∀ r, rowsAt (List.replicate (3 * p.P.length) ([] : List Tup)) r = [] := fun r => by
      unfold rowsAt
      rw [List.getD_eq_getElem?_getD, List.getElem?_replicate]
      by_cases hr : r < 3 * p.P.length
      · rw [if_pos hr]; rfl
      · rw [if_neg hr]; rfl
    refine ⟨_, O1, x1, _, hx1, ho1, hE1, hr1, ⟨⟨⟨by simp, fun L hL => ?_, fun q _ => hrow _⟩, fun q _ => hrow _⟩, fun q j _ _ t ht => by rw [hrow] at ht; cases ht⟩⟩
    rw [List.eq_of_mem_replicate hL]
    exact ⟨by simp, outOk_nil⟩
  clear HNW hx1 ho1 hE1 hr1 hb3
  dsimp only
  go_upto_region 6 with fail
  refine wp_loop_f 92 (la7I p W3 a len cap b3 be) (fun f _ => len - (intOf (f 6)).toNat) rfl ⟨rfl, rfl, rfl, 0, by omega, rfl, HI0⟩ ?_
  clear HI0
  intro F V hrel
  obtain ⟨f0, f3, f4, i, hi, f6, HI⟩ := hrel
  have H6 := hid_of f6
  rw [frame92, f0, f3, f4, f6]
  clear f0 f3 f4 f6
  obtain ⟨S, hE⟩ := HI.out
  have hxV : W3.Extends V := by obtain ⟨_, _, _, h, _⟩ := hE; exact h
  by_cases hin : i < len
  · have hin' : (i : Int) < (len : Int) := by omega
    obtain ⟨bs, o, C, rfl, hC, hlC, hseg⟩ := (HS.out.mono (HXW.out.trans hxV)).2.2.2 (by omega)
    have hsg := hseg i hin
    have i0 : (0 : Int) ≤ (i : Int) := by omega
    have i2 : ((i : Int)).toNat = i := by omega
    have hil : (i + 1) * 18 ≤ len * 18 := Nat.mul_le_mul_right _ hin
    have l1 : o + i * 18 + 18 ≤ C.length := by omega
    have hpl := hE.play HOK.out (g i)
    have HPY := hid_of hpl
    clear hseg hpl hE HI hxV hil
    go_wp2_with fail
    refine HPY.out.mono ?_
    rintro e V2 ⟨S', A, ts, rfl, -, hE'⟩
    have HI' : Hid (∃ S, E1 p W3 be S V2) := ⟨S', hE'⟩
    clear HPY hE' hC
    dsimp only
    go_wp2_with fail
    refine ⟨rfl, rfl, ⟨rfl, rfl, rfl, i + 1, by omega, ?_, HI'⟩, ?_⟩
    · show Value.int .i64 _ = _
      go_num
    · show len - (intOf (Value.int .i64 _)).toNat < len - (intOf (F 6)).toNat
      rw [H6.out]
      simp [intOf]; omega
  obtain rfl : i = len := by omega
  have hin' : ¬ ((i : Int) < (i : Int)) := by omega
  have hb3V : blk V b3 = some x0.enc := (hxV.blk (blk_lt HB3.out)).trans HB3.out
  have hnw := hE.new HOK.out HPRG.out
  have HNW := hid_of hnw
  clear HI hE hnw hxV
  go_wp2_with fail
  refine HNW.out.mono ?_
  rintro e V2 ⟨bf, rfl, hE2⟩
  have HI0 : Hid (∃ S2, E2 p W3 be bf S S2 V2 ∧ Fed p S S2 0) := by
    refine ⟨_, hE2, fun q hq t => ?_⟩
    have : rowsAt (List.replicate (3 * p.P.length) ([] : List Tup)) (3 * q) = [] := by
      unfold rowsAt
      rw [List.getD_eq_getElem?_getD, List.getElem?_replicate, if_pos (by omega)]; rfl
    rw [this]
    exact ⟨fun h => (by cases h), fun h => absurd h.1 (Nat.not_lt_zero _)⟩
  clear HNW hE2 hb3V
  dsimp only
  go_upto_region 11 with fail
  refine wp_loop_f 92 (lb7I p W3 b3 be bf S) (fun f _ => p.P.length - (intOf (f 9)).toNat) rfl ⟨rfl, rfl, rfl, 0, by omega, rfl, HI0⟩ ?_
  clear HI0 H6
  intro F V hrel
  obtain ⟨f3, f4, f7, i, hi, f9, HI⟩ := hrel
  have H9 := hid_of f9
  rw [frame92, f3, f4, f7, f9]
  clear f3 f4 f7 f9
  obtain ⟨S2, hE, hF⟩ := HI.out
  have hxV : W3.Extends V := hE.wx.1
  have hb3V : blk V b3 = some x0.enc := (hxV.blk (blk_lt HB3.out)).trans HB3.out
  by_cases hiP : i < p.P.length
  · have hiP' : (i : Int) < (p.P.length : Int) := by omega
    obtain ⟨bP, CP, hPa, hCP, hPl, hPb, -⟩ := pred_base (HPRG.out.ext hxV) hiP
    rw [hPa] at hx0
    have i0 : (0 : Int) ≤ (i : Int) := by omega
    have i2 : ((i : Int)).toNat = i := by omega
    have l1 : i * 3 + 1 < CP.length := by omega
    clear HI hPa hxV
    cases hb : basP p i with
    | false =>
      rw [hb] at hPb
      have HI' : Hid (∃ S2, E2 p W3 be bf S S2 V ∧ Fed p S S2 (i + 1)) := by
        refine ⟨S2, hE, fun q hq t => ?_⟩
        rw [hF q hq t]
        refine ⟨fun h => ⟨by omega, h.2⟩, fun h => ⟨?_, h.2⟩⟩
        by_cases hqi : q = i
        · subst hqi
          have := h.2.1
          rw [hb] at this; cases this
        · omega
      clear hE hF
      go_wp2_with fail
      refine ⟨rfl, rfl, ⟨rfl, rfl, rfl, i + 1, by omega, ?_, HI'⟩, ?_⟩
      · show Value.int .i64 _ = _
        go_num
      · show p.P.length - (intOf (Value.int .i64 _)).toNat < p.P.length - (intOf (F 9)).toNat
        rw [H9.out]
        simp [intOf]; omega
    | true =>
      rw [hb] at hPb
      have hli := hE.list HOK.out i hiP
      have HLI := hid_of hli
      have HE2 := hid_of hE
      have HFE := hid_of hF
      clear hE hF hli
      go_wp2_with fail
      refine HLI.out.mono ?_
      rintro e V3 ⟨ra, rn, rc, rfl, hro⟩
      have hrl : rn ≤ 512 := by rw [hro.2.2]; exact (HE2.out.wx.2.1.1.1.2.1.at (3 * i)).1
      have hso := sorted_any V3 ra rn rc _ hro.rw' (by omega)
      have HSO := hid_of hso
      have HX3 := hid_of hro.2.1
      clear HLI hro hso hCP hb3V
      dsimp only
      go_wp2_with fail
      refine HSO.out.mono ?_
      rintro e V4 ⟨ua, un, uc, us, rfl, huo, hup, -⟩
      have hun : un = us.length := huo.2.2
      have hE4 : E2r p W3 be bf S S2 ua un us V4 := (HE2.out.ext HX3.out).row huo
      have hunl : un ≤ 512 := by
        rw [hun, hup.length_eq]; exact (HE2.out.wx.2.1.1.1.2.1.at (3 * i)).1
      have HI3 : Hid (∃ S2, E2r p W3 be bf S S2 ua un us V4 ∧ FedK p S S2 i (us.take 0)) := by
        refine ⟨S2, hE4, fun q hq t => ?_⟩
        rw [HFE.out q hq t]
        exact ⟨.inl, fun h => h.elim id (fun h => by cases h.2)⟩
      have HUP := hid_of hup
      have HUN := hid_of hun
      have HES := hid_of HE2.out.wx.2.1
      clear HSO huo hup hun hE4 HE2 HFE HX3 hrl
      dsimp only
      go_upto_region 17 with fail
      refine wp_loop_f 92 (lc7I p W3 b3 be bf i S ua un uc us) (fun f _ => un - (intOf (f 12)).toNat) rfl ⟨rfl, rfl, rfl, rfl, rfl, 0, by omega, rfl, HI3⟩ ?_
      clear HI3
      intro F' V5 hrel
      obtain ⟨f3, f4, f7, f9, f10, k, hk, f12, HI⟩ := hrel
      have H12 := hid_of f12
      rw [frame92, f3, f4, f7, f9, f10, f12]
      clear f3 f4 f7 f9 f10 f12
      obtain ⟨S3, hE5, hF5⟩ := HI.out
      by_cases hkn : k < un
      · have hkn' : (k : Int) < (un : Int) := by omega
        obtain ⟨t, ht⟩ : ∃ t, us[k]? = some t := ⟨_, List.getElem?_eq_getElem (by rw [← HUN.out]; exact hkn)⟩
        obtain ⟨bn, Cn, rfl, hCn, hcn, _, un4⟩ := tup_at hE5.rw ht
        have k0 : (0 : Int) ≤ (k : Int) := by omega
        have k2 : ((k : Int)).toNat = k := by omega
        have k5 : k * 4 < Cn.length := by omega
        have hus : us = us.take k ++ t :: us.drop (k + 1) := by
          rw [← drop_at ht, List.take_append_drop]
        have hud : us.Nodup := HUP.out.nodup_iff.2 (HES.out.1.1.2.1.at (3 * i)).2.1
        obtain ⟨a1, a2⟩ := fed_add HOK.out hiP hb HES.out hE5.e2.wx.2.2 hF5 rfl (by rw [← hus]; exact hud) (by rw [← hus]; exact HUP.out)
        have had := hE5.add HOK.out i t
        rw [a1] at had
        have HAD := hid_of had
        have HA2 : Hid (FedK p S (addS p false S3 (i : Int) t) i (us.take (k + 1))) := by
          show FedK _ _ _ _ _
          rw [take_at ht]; exact a2
        clear HI hE5 hF5 hus hud a1 a2 had ht
        go_wp2_with fail
        refine HAD.out.mono ?_
        rintro e V6 ⟨rfl, hE6⟩
        have HI' : Hid (∃ S2, E2r p W3 be bf S S2 (some ⟨bn, 0, none⟩) un us V6 ∧ FedK p S S2 i (us.take (k + 1))) := ⟨_, hE6, HA2.out⟩
        clear HAD hE6 HA2 hCn
        dsimp only
        go_wp2_with fail
        refine ⟨rfl, rfl, ⟨rfl, rfl, rfl, rfl, rfl, k + 1, by omega, ?_, HI'⟩, ?_⟩
        · show Value.int .i64 _ = _
          go_num
        · show un - (intOf (Value.int .i64 _)).toNat < un - (intOf (F' 12)).toNat
          rw [H12.out]
          simp [intOf]; omega
      · obtain rfl : k = un := by omega
        have hkn' : ¬ ((k : Int) < (k : Int)) := by omega
        have HI' : Hid (∃ S2, E2 p W3 be bf S S2 V5 ∧ Fed p S S2 (i + 1)) := by
          refine ⟨S3, hE5.e2, fun q hq t => ?_⟩
          rw [hF5 q hq t, List.take_of_length_le (by rw [HUN.out]; exact Nat.le_refl _), HUP.out.mem_iff]
          constructor
          · rintro (h | ⟨rfl, h⟩)
            · exact ⟨by omega, h.2⟩
            · exact ⟨by omega, hb, h⟩
          · rintro ⟨h1, h2, h3⟩
            by_cases hqi : q = i
            · subst hqi; exact .inr ⟨rfl, h3⟩
            · exact .inl ⟨by omega, h2, h3⟩
        clear HI hE5 hF5
        go_wp2_with fail
        refine ⟨rfl, rfl, ⟨rfl, rfl, rfl, i + 1, by omega, ?_, HI'⟩, ?_⟩
        · show Value.int .i64 _ = _
          go_num
        · show p.P.length - (intOf (Value.int .i64 _)).toNat < p.P.length - (intOf (F 9)).toNat
          rw [H9.out]
          simp [intOf]; omega
  · obtain rfl : i = p.P.length := by omega
    have hiP' : ¬ ((p.P.length : Int) < (p.P.length : Int)) := by omega
    have hr1 := hE.run1 HOK.out
    have HR1 := hid_of hr1
    obtain ⟨-, hw1, hw2⟩ := hE.wx
    have hsq := fed_seq hw1 hw2 hF
    have HSQ := hid_of hsq
    have HW1 := hid_of hw1
    have HW2 := hid_of hw2
    clear HI hE hF hr1 hw1 hw2 hsq hxV
    go_wp2_with fail
    refine HR1.out.mono ?_
    rintro e V3 ⟨r1, S', hrt1, hE3, hres1⟩
    have hr2 := hE3.run2 HOK.out
    have HR2 := hid_of hr2
    have HRT1 := hid_of hrt1
    clear HR1 hr2 hrt1 hb3V
    rcases hres1 with ⟨rfl, rfl⟩ | ⟨σ1, rfl, rfl, rfl⟩
    · dsimp only
      go_wp2_with fail
      refine HR2.out.mono ?_
      rintro e V4 ⟨r2, S'', hrt2, hE4, hres2⟩
      rcases runs_agree HOK.out HRT1.out HW1.out.beg.1 HW2.out.beg.1 HSQ.out hrt2 with ⟨-, hn2⟩ | ⟨_, _, hc, _⟩
      · subst hn2
        rcases hres2 with ⟨-, rfl⟩ | ⟨σ2, hc, _⟩
        · have HP : Hid (Q (.returned (.bool true)) V4) := by
            show Q _ _
            rw [HQ.out]; exact ⟨rfl, HXW.out.trans hE4.wx.1⟩
          clear HR2 hrt2 hE4
          dsimp only
          go_wp2_with fail
          try go_ret
          exact HP.out
        · cases hc
      · cases hc
    · dsimp only
      go_wp2_with fail
      refine HR2.out.mono ?_
      rintro e V4 ⟨r2, S'', hrt2, hE4, hres2⟩
      rcases runs_agree HOK.out HRT1.out HW1.out.beg.1 HW2.out.beg.1 HSQ.out hrt2 with ⟨hc, _⟩ | ⟨τ1, τ2, h1, h2, hseq⟩
      · cases hc
      · injection h1 with h1
        subst h1 h2
        rcases hres2 with ⟨hc, _⟩ | ⟨σ2, hc, rfl, rfl⟩
        · cases hc
        · injection hc with hc
          subst hc
          have hla := hE4.la1 HOK.out b3 x0 HB3.out HPL.out
          have HLA := hid_of hla
          have HE4 := hid_of hE4
          have HSE := hid_of hseq
          clear HR2 hrt2 hE4 hla hseq HRT1
          dsimp only
          go_wp2_with fail
          refine HLA.out.mono ?_
          rintro e V5 ⟨aa, ac, rfl, hx5, hrel5⟩
          have hlb := (HE4.out.ext hx5).la2 HOK.out b3 x0 HB3.out HPL.out
          have HLB := hid_of hlb
          have HR5 := hid_of hrel5
          have HX5 := hid_of hx5
          clear HLA hlb hrel5 hx5
          dsimp only
          go_wp2_with fail
          refine HLB.out.mono ?_
          rintro e V6 ⟨ba, bc, rfl, hx6, hrel6⟩
          have hsr := sameRels_perm V6 aa p.P.length ac ba bc _ _ (HR5.out.ext hx6) hrel6 (by omega) (fun q hq => by
            obtain ⟨-, w1, w2⟩ := HE4.out.wx
            have h1 := w1.1.1.2.1.at (3 * q)
            have h2 := w2.1.1.2.1.at (3 * q)
            exact ⟨(perm_of h1.2.1 h2.2.1 (fun t => HSE.out q hq t)).symm, by have := h1.1; omega⟩)
          have HSR := hid_of hsr
          have HXF := hid_of (HXW.out.trans (HE4.out.wx.1.trans (HX5.out.trans hx6)))
          clear HLB hsr hx6 hrel6
          dsimp only
          go_wp2_with fail
          refine HSR.out.mono ?_
          rintro e V7 ⟨rfl, hx7⟩
          have HP : Hid (Q (.returned (.bool true)) V7) := by
            show Q _ _
            rw [HQ.out]; exact ⟨rfl, HXF.out.trans hx7⟩
          clear HSR hx7
          dsimp only
          go_wp2_with fail
          try go_ret
          exact HP.out
end Go.Proofs.Qxb6500788a
