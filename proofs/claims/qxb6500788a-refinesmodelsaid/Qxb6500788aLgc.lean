import Derived.Test.Qxb6500788aJm
import Derived.Test.Qxb6500788aLgb
import Derived.StillTailTactics
import Derived.Deep.QuietTactic
import Derived.BigQuiet
import Derived.Deep.RegionHeld
import Derived.Deep.CutRange
import Derived.Laws.ResultCell
import Derived.Laws.Rows
import Derived.DeepKeys
import Derived.DataBytes
import Derived.Laws.StructEq
import Derived.Laws.AppendOwn
import Derived.Laws.MakeOwn
set_option linter.unusedSimpArgs false
set_option linter.unusedVariables false
namespace Go.Proofs.Qxb6500788a
open Go.RowKit Go.Blk
attribute [local go_sem ↓] execOp_load execOp_store execOp_alloc
attribute [local go_sem] Try.ld24 Try.st24 Try.ld25 Try.st25 Try.ld3 Try.st3 Try.ld30 Try.st30 Try.ld36 Try.st36 Try.ld4 Try.st4 Try.ld41 Try.st41 Try.ld50 Try.st50 Try.ld40 Try.st40 Try.ld42 Try.st42 Try.ld89 Try.st89 Try.ld91 Try.st91 Try.ld56 Try.st56 Try.ld97 Try.st97 Try.ld98 Try.st98 Try.ld101 Try.st101 Try.ld104 Try.st104 Try.ld57 Try.st57 Try.ld130 Try.st130 Try.ld2 Try.st2 Try.ld5 Try.st5 Try.ld9 Try.st9 Try.ld12 Try.st12 Try.ld21 Try.st21 Try.ld22 Try.st22 Try.ld29 Try.st29 Try.ld33 Try.st33 Try.ld59 Try.st59 Try.ld62 Try.st62 Try.ld69 Try.st69 Try.ld94 Try.st94 Try.ld96 Try.st96 Try.ld129 Try.st129 Try.ld158 Try.st158 Try.ld162 Try.st162 Try.ld47 Try.st47 Try.ld44 Try.st44 Try.ld137 Try.st137 Try.ld145 Try.st145 Try.ld43 Try.st43 Try.ld27 Try.st27 Try.ld38 Try.st38 Try.ld46 Try.st46 Try.ld49 Try.st49 Try.ld52 Try.st52 Try.ld54 Try.st54 Try.ld61 Try.st61 Try.ld80 Try.st80 Try.ld87 Try.st87 Try.ld93 Try.st93 Try.ld100 Try.st100 Try.ld103 Try.st103 Try.ld106 Try.st106 Try.ld109 Try.st109 Try.ld132 Try.st132 Try.ld147 Try.st147 Try.al47 Try.al44 Try.al137 Try.al145 Try.al43 Try.al27 Try.al38 Try.al46 Try.al49 Try.al52 Try.al54 Try.al61 Try.al80 Try.al87 Try.al93 Try.al100 Try.al103 Try.al106 Try.al109 Try.al132 Try.al147
attribute [local go_sem] GProgram.length_enc GProgram.ok_enc GProgram.all_get GProgram.all_set GProgram.preds_get GProgram.preds_set GProgram.rules_get GProgram.rules_set GProgram.strata_get GProgram.strata_set Answer.length_enc Answer.ok_enc Answer.all_get Answer.all_set Answer.code_get Answer.code_set Answer.n_get Answer.n_set Answer.rows_get Answer.rows_set Term.length_enc Term.ok_enc Term.all_get Term.all_set Term.var_get Term.var_set Term.n_get Term.n_set Atom.length_enc Atom.ok_enc Atom.all_get Atom.all_set Atom.pred_get Atom.pred_set Atom.args_get Atom.args_set GRule.length_enc GRule.ok_enc GRule.all_get GRule.all_set GRule.head_get GRule.head_set GRule.body_get GRule.body_set GRule.head_pred_get GRule.head_pred_set GRule.head_args_get GRule.head_args_set GOp.length_enc GOp.ok_enc GOp.all_get GOp.all_set GOp.kind_get GOp.kind_set GOp.pred_get GOp.pred_set GOp.t_get GOp.t_set GOp.n_get GOp.n_set GOp.base_get GOp.base_set GOp.rule_get GOp.rule_set GOp.rule_head_get GOp.rule_head_set GOp.rule_body_get GOp.rule_body_set GOp.rule_head_pred_get GOp.rule_head_pred_set GOp.rule_head_args_get GOp.rule_head_args_set PredInfo.length_enc PredInfo.ok_enc PredInfo.all_get PredInfo.all_set PredInfo.arity_get PredInfo.arity_set PredInfo.base_get PredInfo.base_set PredInfo.stratum_get PredInfo.stratum_set GStats.length_enc GStats.ok_enc GStats.all_get GStats.all_set GStats.rounds_get GStats.rounds_set GStats.fired_get GStats.fired_set GStats.emitted_get GStats.emitted_set GStats.fresh_get GStats.fresh_set Literal.length_enc Literal.ok_enc Literal.all_get Literal.all_set Literal.neg_get Literal.neg_set Literal.atom_get Literal.atom_set Literal.atom_pred_get Literal.atom_pred_set Literal.atom_args_get Literal.atom_args_set Engine.length_enc Engine.ok_enc Engine.all_get Engine.all_set Engine.prog_get Engine.prog_set Engine.st_get Engine.st_set Engine.levels_get Engine.levels_set Engine.running_get Engine.running_set Engine.stratum_get Engine.stratum_set Engine.round_get Engine.round_set Engine.saved_get Engine.saved_set Engine.stats_get Engine.stats_set Engine.prog_preds_get Engine.prog_preds_set Engine.prog_rules_get Engine.prog_rules_set Engine.prog_strata_get Engine.prog_strata_set Engine.stats_rounds_get Engine.stats_rounds_set Engine.stats_fired_get Engine.stats_fired_set Engine.stats_emitted_get Engine.stats_emitted_set Engine.stats_fresh_get Engine.stats_fresh_set Level.length_enc Level.ok_enc Level.all_get Level.all_set Level.heads_get Level.heads_set Level.jobs_get Level.jobs_set Plan.length_enc Plan.ok_enc Plan.all_get Plan.all_set Plan.rule_get Plan.rule_set Plan.delta_get Plan.delta_set Plan.src_get Plan.src_set Job.length_enc Job.ok_enc Job.all_get Job.all_set Job.full_get Job.full_set Job.deltas_get Job.deltas_set Job.full_rule_get Job.full_rule_set Job.full_delta_get Job.full_delta_set Job.full_src_get Job.full_src_set GState.length_enc GState.ok_enc GState.all_get GState.all_set GState.prog_get GState.prog_set GState.base_get GState.base_set GState.shown_get GState.shown_set GState.prog_preds_get GState.prog_preds_set GState.prog_rules_get GState.prog_rules_set GState.prog_strata_get GState.prog_strata_set Store.length_enc Store.ok_enc Store.all_get Store.all_set Store.arity_get Store.arity_set Store.rows_get Store.rows_set Env.length_enc Env.ok_enc Env.all_get Env.all_set Env.val_get Env.val_set Env.set_get Env.set_set
attribute [local go_sem] size_put size_ext blk_put free_put blk_alloc free_alloc blk_drew free_drew blk_ext free_ext lookOr_some putOr_some segAt_some cellAt_some storeIn_some put_put put_alloc_new length_arr ok_arr_u8 ok_arr_u32 ok_arr_u64 ok_arr_i64 ok_arr_sl cellsV_agg cellsV_int cellsV_bool cellsV_string cellsV_pointer cellsV_slice cellsV_sl ok_int ok_bool ok_string ok_pointer ok_slice ok_sl toList_arr seg_arr set_arr nth_splice nth_splice0 seg_splice seg_splice0 splice_splice splice_splice0 length_splice_if
attribute [local go_sem ↓] execOp_box
attribute [local go_sem] box_run nth_arr_u8 put_arr_u8 blk_drewN free_drewN put_drewN blk_raw free_raw
theorem pgX_of {W : World} {b3 : Nat} {x0 : GProgram} {p : Pg} (hb : blk W b3 = some x0.enc) (h : PrgC W x0 p) : PgX W b3 p := by
  obtain ⟨⟨pa, pl, pc⟩, ⟨ra, rl, rc⟩, st⟩ := x0
  obtain ⟨h1, h2, h3, h4, h5, h6⟩ := h
  dsimp only at h1 h2 h3 h4 h5
  subst h1 h2 h3
  exact ⟨pa, pc, ra, rc, _, hb, by rw [GProgram.length_enc]; exact Nat.le_refl _, GProgram.preds_get ⟨⟨pa, p.P.length, pc⟩, ⟨ra, p.R.length, rc⟩, p.St⟩, GProgram.rules_get ⟨⟨pa, p.P.length, pc⟩, ⟨ra, p.R.length, rc⟩, p.St⟩, GProgram.strata_get ⟨⟨pa, p.P.length, pc⟩, ⟨ra, p.R.length, rc⟩, p.St⟩, rfl, rfl, rfl, h4, h5, h6⟩
theorem E1.ext {p : Pg} {W3 : World} {be : Nat} {S : List (List Tup)} {V V' : World} (h : E1 p W3 be S V) (he : V.Extends V') : E1 p W3 be S V' := by
  obtain ⟨O, x, sav, h1, h2, h3, h4, h5⟩ := h
  exact ⟨O, x, sav, h1.trans he, h2, h3.ext he, h4, h5⟩
theorem E1.wx {p : Pg} {W3 : World} {be : Nat} {S : List (List Tup)} {V : World} (h : E1 p W3 be S V) : W3.Extends V ∧ EngI p S := by
  obtain ⟨O, x, sav, h1, h2, h3, h4, h5⟩ := h
  exact ⟨h1, h5⟩
theorem E1.la {p : Pg} (hok : PgOk p) {W3 : World} {be : Nat} {S : List (List Tup)} {V : World} (h : E1 p W3 be S V) (b3 : Nat) (x0 : GProgram) (hb : blk W3 b3 = some x0.enc) (hl : x0.preds.len = p.P.length) : Calls Try.prog 16 #[.pointer (some ⟨be, 0, none⟩), .pointer (some ⟨b3, 0, none⟩)] V fun e V' => ∃ a c, e = .returned (.slice a p.P.length c) ∧ V.Extends V' ∧ RelR V' a p.P.length (allT S) := by
  obtain ⟨O, x, sav, h1, h2, h3, h4, h5⟩ := h
  exact listAll_any W3.heap.size O V 0 be p x S sav h3 hok h5.1.1.1 h5.1.1.2.1 b3 x0.enc x0.preds.a x0.preds.cap ((h1.blk (blk_lt hb)).trans hb) (by rw [← hl]; exact GProgram.preds_get x0) (by rw [GProgram.length_enc]; omega)
/-- A row of rows of a law's own while it is filled from older rows. -/
def LwI (W M : World) (bo n : Nat) (T : Nat → List Tup) (i : Nat) (V : World) : Prop := W.Extends V ∧ W.heap.size ≤ bo ∧ ∃ Ds : List Sl, Ds.length = i ∧ blk V bo = some (Ds.flatMap slE ++ List.replicate (n - i) (.slice none 0 0)) ∧ free V bo = true ∧ ∀ (q : Nat) (d : Sl), Ds[q]? = some d → Rw tpl 4 M d.a d.len (T q)
theorem LwI.put {W M V : World} {bo n : Nat} {T : Nat → List Tup} {i : Nat} (h : LwI W M bo n T i V) (hin : i < n) {a : Option Addr} {m c : Nat} (hw : Rw tpl 4 M a m (T i)) : ∃ C, blk V bo = some C ∧ free V bo = true ∧ i < C.length ∧ i + 1 ≤ C.length ∧ LwI W M bo n T (i + 1) (put V bo (splice C i [.slice a m c])) := by
  obtain ⟨hx, hwb, Ds, hl, hb, hf, hr⟩ := h
  have hlen : i + 1 ≤ (Ds.flatMap slE ++ List.replicate (n - i) (Value.slice none 0 0)).length := by rw [List.length_append, flat_sl, List.length_replicate]; omega
  refine ⟨_, hb, hf, by omega, hlen, extends_put hx hwb _, hwb, Ds ++ [⟨a, m, c⟩], by simp [hl], ?_, by rw [free_put]; exact hf, fun q d hd => ?_⟩
  · rw [blk_put, if_pos rfl, hb]
    show some _ = some _
    congr 1
    rw [show n - i = (n - (i + 1)) + 1 by omega, List.replicate_succ, List.flatMap_append]
    have e : (Ds.flatMap slE).length = i := by rw [flat_sl, hl]
    have h9 := splice_mid (Ds.flatMap slE) (List.replicate (n - (i + 1)) (.slice none 0 0)) (.slice none 0 0) (.slice a m c)
    rw [e] at h9
    rw [h9, List.append_assoc]
    rfl
  · by_cases hq : q < Ds.length
    · rw [List.getElem?_append_left hq] at hd
      exact hr q d hd
    · have hl2 := (List.getElem?_eq_some_iff.1 hd).1
      rw [List.length_append, List.length_singleton] at hl2
      obtain rfl : q = Ds.length := by omega
      rw [List.getElem?_append_right (Nat.le_refl _), Nat.sub_self] at hd
      have e1 : (⟨a, m, c⟩ : Sl) = d := Option.some.inj hd
      subst e1
      rw [hl]; exact hw
theorem rw_nilT (W : World) : Rw tpl 4 W none 0 ([] : List Tup) := ⟨rfl, fun j y hy => by cases hy⟩
theorem LwI.skip {W M V : World} {bo n : Nat} {T : Nat → List Tup} {i : Nat} (h : LwI W M bo n T i V) (hin : i < n) (hT : T i = []) : LwI W M bo n T (i + 1) V := by
  obtain ⟨hx, hwb, Ds, hl, hb, hf, hr⟩ := h
  refine ⟨hx, hwb, Ds ++ [⟨none, 0, 0⟩], by simp [hl], ?_, hf, fun q d hd => ?_⟩
  · rw [hb, show n - i = (n - (i + 1)) + 1 by omega, List.replicate_succ, List.flatMap_append, List.append_assoc]
    rfl
  · by_cases hq : q < Ds.length
    · rw [List.getElem?_append_left hq] at hd
      exact hr q d hd
    · have hl2 := (List.getElem?_eq_some_iff.1 hd).1
      rw [List.length_append, List.length_singleton] at hl2
      obtain rfl : q = Ds.length := by omega
      rw [List.getElem?_append_right (Nat.le_refl _), Nat.sub_self] at hd
      have e1 : (⟨none, 0, 0⟩ : Sl) = d := Option.some.inj hd
      subst e1
      rw [hl, hT]; exact rw_nilT M
theorem LwI.fin {W M K V : World} {bo n : Nat} {T : Nat → List Tup} (h : LwI W M bo n T n V) (hs : Sub M K) (hb : ∀ C, blk V bo = some C → blk K bo = some C) : RelR K (some ⟨bo, 0, none⟩) n T := by
  obtain ⟨q1, -, Ds, q2, q3, q4, q5⟩ := h
  rw [Nat.sub_self, List.replicate_zero] at q3
  refine ⟨Ds, ⟨q2, fun j d hd => ⟨bo, _, rfl, hb _ q3, ?_, ?_⟩⟩, fun q d hd => (q5 q d hd).sub hs⟩
  · rw [List.append_nil, flat_sl, q2]
    have := (List.getElem?_eq_some_iff.1 hd).1
    omega
  · rw [Nat.mul_one]
    exact seg_nth1 (flat_at Ds j d hd [])
theorem LaI.relN {W V : World} {bo n : Nat} {T : Nat → List Tup} (h : LaI W bo n T n V) (hn : W.heap.size ≤ bo) : RelR (newc W.heap.size V) (some ⟨bo, 0, none⟩) n T := by
  obtain ⟨q1, Ds, q2, q3, q4, q5⟩ := h
  rw [Nat.sub_self, List.replicate_zero] at q3
  refine ⟨Ds, ⟨q2, fun j d hd => ⟨bo, _, rfl, blk_newc q3 hn, ?_, ?_⟩⟩, fun q d hd => (q5 q d hd).1.tocore (fun b C e _ => lab_ge (by have := (q5 q d hd).2 b e; omega))⟩
  · rw [List.append_nil, flat_sl, q2]
    have := (List.getElem?_eq_some_iff.1 hd).1
    omega
  · rw [Nat.mul_one]
    exact seg_nth1 (flat_at Ds j d hd [])
theorem play_fin5 {p : Pg} (hok : PgOk p) {S S' : List (List Tup)} {op : GOp} {c n : Int} {ts : List Tup} (hS : EngI p S) (h : PlayR p S op S' c n ts) (hk : op.kind = 4) (hc : c = 0) : ∃ S0, FinR p 0 S0 S' ∧ ∀ q, OwnP p 0 q → rowsAt S0 (3 * q) = [] := by
  have hrun : ∃ σ : StQ, RunsTo p 0 0 (begS p S p.P.length, ⟨0, 0, 0, 0⟩) (some σ) ∧ S' = σ.1 := by
    cases h with
    | skip h => omega
    | fact h => omega
    | drop h => omega
    | over h => omega
    | runs h1 h2 => exact ⟨_, h2, rfl⟩
    | has h => omega
    | list h => omega
    | bad h => omega
  obtain ⟨σ, h1, rfl⟩ := hrun
  refine ⟨_, run_fin hok hS h1, fun q hq => ?_⟩
  rw [begS_rows hS.1.1.1 (r := 3 * q) (q := q) (j := 0) rfl (by omega) _ (Nat.le_refl _), if_pos ⟨hq.1, rfl, hq.2.1⟩]
theorem lowT_relI {p : Pg} {s : Nat} {E : List (List Tup)} (h : EngI p E) : RelI p (lowT p s E) := fun q hq => by
  unfold lowT
  split
  · exact allT_relI h q hq
  · exact outOk_nil
theorem lowT_dom {p : Pg} {s : Nat} {E : List (List Tup)} {dom : List Int} (h : DomC p dom (allT E)) : DomC p dom (lowT p s E) := fun q hq t ht c hc => by
  unfold lowT at ht
  split at ht
  · exact h q hq t ht c hc
  · cases ht
attribute [local go_sem ↓] execOp_make
set_option maxRecDepth 20000 in
set_option maxHeartbeats 2000000 in
theorem listAll_l (B : Nat) (O : Own) (W : World) (g be : Nat) (p : Pg) (x : Engine) (S sav : List (List Tup)) (hE : EAt B O W g be p x S sav) (hok : PgOk p) (hl : S.length = 3 * p.P.length) (hS : SOk S) (bpr : Nat) (Cp : List Value) (aP : Option Addr) (cP : Nat) (hbp : blk W bpr = some Cp) (hcp : nth Cp 0 = some (.slice aP p.P.length cP)) (hcl : 1 ≤ Cp.length) :
    Calls Try.prog 16 #[.pointer (some ⟨be, 0, none⟩), .pointer (some ⟨bpr, 0, none⟩)] W fun e V => ∃ bo, W.heap.size ≤ bo ∧ e = .returned (.slice (some ⟨bo, 0, none⟩) p.P.length p.P.length) ∧ LaI W bo p.P.length (fun q => rowsAt S (3 * q)) p.P.length V := by
  obtain ⟨Q, hQ⟩ : ∃ Q, Q = (fun e V => ∃ bo, W.heap.size ≤ bo ∧ e = .returned (.slice (some ⟨bo, 0, none⟩) p.P.length p.P.length) ∧ LaI W bo p.P.length (fun q => rowsAt S (3 * q)) p.P.length V : Ending → World → Prop) := ⟨_, rfl⟩
  rw [← hQ]
  have HQ := hid_of hQ
  have h64 := hok.nP
  have HE := hid_of hE
  have HOK := hid_of hok
  have HL := hid_of hl
  have HS := hid_of hS
  have hmk := make57 W p.P.length (by omega)
  have hcl' : 0 < Cp.length := by omega
  have lbp := blk_lt hbp
  have nbp : ¬ bpr = W.heap.size := by omega
  have HBP := hid_of hbp
  clear hQ hE hok hl hS lbp hcl
  go_enter Try.func16, Try.ntmps16
  go_upto_region 3 with fail
  refine wp_world (fun V => LaI W W.heap.size p.P.length (fun q => rowsAt S (3 * q)) 0 V) ?_ ?_
  · refine ⟨extends_alloc (ext_Ext (Ext.refl _)) _, [], rfl, ?_, ?_, fun q d hd => by (cases hd)⟩
    · rw [← List.toArray_replicate, blk_alloc, if_pos rfl]; rfl
    · rw [free_alloc, if_pos rfl]
  rintro V0 hI0
  have HI0 := hid_of hI0
  obtain ⟨bo, hbo⟩ : ∃ bo, bo = W.heap.size := ⟨_, rfl⟩
  rw [← hbo] at HI0 ⊢
  have hwb : W.heap.size ≤ bo := by omega
  have hpbo : ¬ bpr = bo := by rw [hbo]; exact nbp
  clear hI0 hbo hmk nbp hbp
  refine wp_loop_f 32 (laI W be bpr bo p.P.length (fun q => rowsAt S (3 * q))) (fun f _ => p.P.length - (intOf (f 6)).toNat) rfl ⟨rfl, rfl, rfl, 0, by omega, rfl, HI0⟩ ?_
  clear HI0
  intro F V hrel
  obtain ⟨f0, f1, f5, i, hi, f6, HI⟩ := hrel
  have H6 := hid_of f6
  rw [frame32l, f0, f1, f5, f6]
  clear f0 f1 f5 f6
  have hxW := HI.out.1
  have hb : blk V bpr = some Cp := (hxW.blk (blk_lt HBP.out)).trans HBP.out
  by_cases hin : i < p.P.length
  · have hin' : (i : Int) < (p.P.length : Int) := by omega
    have hls := listE_any B O V g be p x S sav (HE.out.ext hxW) HOK.out HL.out HS.out (i : Int)
    have HLS := hid_of hls
    have i0 : (0 : Int) ≤ (i : Int) := by omega
    have i2 : ((i : Int)).toNat = i := by omega
    have HIN : Hid (inT p (i : Int)) := ⟨by omega, by omega⟩
    clear hls hxW
    go_wp2_with fail
    refine HLS.out.mono ?_
    rintro e V1 ⟨a, m, c, rfl, ho⟩
    rw [if_pos HIN.out, Int.toNat_natCast] at ho
    obtain ⟨C, hC, hCf, hCl, hI'⟩ := HI.out.app hin hwb ho
    have HI' := hid_of hI'
    obtain ⟨cd, hcd⟩ : ∃ cd : Int, cd = (if inT p (i : Int) then 0 else 5) := ⟨_, rfl⟩
    rw [← hcd]
    clear HLS ho hI' hcd hb HI
    dsimp only
    go_wp2_with fail
    refine ⟨rfl, rfl, ⟨rfl, rfl, rfl, i + 1, by omega, ?_, HI'⟩, ?_⟩
    · show Value.int .i64 _ = _
      go_num
    · show p.P.length - (intOf (Value.int .i64 _)).toNat < p.P.length - (intOf (F 6)).toNat
      rw [H6.out]
      simp [intOf]; omega
  · obtain rfl : i = p.P.length := by omega
    have hin' : ¬ ((p.P.length : Int) < (p.P.length : Int)) := by omega
    have HP : Hid (Q (.returned (.slice (some ⟨bo, 0, none⟩) p.P.length p.P.length)) V) := by
      show Q _ _
      rw [HQ.out]
      exact ⟨bo, hwb, rfl, HI.out⟩
    clear HI hxW
    go_wp2_with fail
    try go_ret
    exact HP.out
end Go.Proofs.Qxb6500788a
