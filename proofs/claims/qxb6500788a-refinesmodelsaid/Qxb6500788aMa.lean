import Derived.Test.Qxb6500788aSd
import Derived.StillTailTactics
import Derived.Deep.QuietTactic
import Derived.BigQuiet
import Derived.Deep.RegionHeld
import Derived.Deep.CutRange
import Derived.Laws.ResultCell
import Derived.Laws.Rows
import Derived.DeepKeys
import Derived.DataBytes
import Derived.Laws.StructEq
import Derived.Laws.AppendOwn
import Derived.Laws.MakeOwn
set_option linter.unusedSimpArgs false
set_option linter.unusedVariables false
namespace Go.Proofs.Qxb6500788a
open Go.RowKit Go.Blk
attribute [local go_sem ↓] execOp_load execOp_store execOp_alloc
attribute [local go_sem] Try.ld24 Try.st24 Try.ld25 Try.st25 Try.ld3 Try.st3 Try.ld30 Try.st30 Try.ld36 Try.st36 Try.ld4 Try.st4 Try.ld41 Try.st41 Try.ld50 Try.st50 Try.ld40 Try.st40 Try.ld42 Try.st42 Try.ld89 Try.st89 Try.ld91 Try.st91 Try.ld56 Try.st56 Try.ld97 Try.st97 Try.ld98 Try.st98 Try.ld101 Try.st101 Try.ld104 Try.st104 Try.ld57 Try.st57 Try.ld130 Try.st130 Try.ld2 Try.st2 Try.ld5 Try.st5 Try.ld9 Try.st9 Try.ld12 Try.st12 Try.ld21 Try.st21 Try.ld22 Try.st22 Try.ld29 Try.st29 Try.ld33 Try.st33 Try.ld59 Try.st59 Try.ld62 Try.st62 Try.ld69 Try.st69 Try.ld94 Try.st94 Try.ld96 Try.st96 Try.ld129 Try.st129 Try.ld158 Try.st158 Try.ld162 Try.st162 Try.ld47 Try.st47 Try.ld44 Try.st44 Try.ld137 Try.st137 Try.ld145 Try.st145 Try.ld43 Try.st43 Try.ld27 Try.st27 Try.ld38 Try.st38 Try.ld46 Try.st46 Try.ld49 Try.st49 Try.ld52 Try.st52 Try.ld54 Try.st54 Try.ld61 Try.st61 Try.ld80 Try.st80 Try.ld87 Try.st87 Try.ld93 Try.st93 Try.ld100 Try.st100 Try.ld103 Try.st103 Try.ld106 Try.st106 Try.ld109 Try.st109 Try.ld132 Try.st132 Try.ld147 Try.st147 Try.al47 Try.al44 Try.al137 Try.al145 Try.al43 Try.al27 Try.al38 Try.al46 Try.al49 Try.al52 Try.al54 Try.al61 Try.al80 Try.al87 Try.al93 Try.al100 Try.al103 Try.al106 Try.al109 Try.al132 Try.al147
attribute [local go_sem] GProgram.length_enc GProgram.ok_enc GProgram.all_get GProgram.all_set GProgram.preds_get GProgram.preds_set GProgram.rules_get GProgram.rules_set GProgram.strata_get GProgram.strata_set Answer.length_enc Answer.ok_enc Answer.all_get Answer.all_set Answer.code_get Answer.code_set Answer.n_get Answer.n_set Answer.rows_get Answer.rows_set Term.length_enc Term.ok_enc Term.all_get Term.all_set Term.var_get Term.var_set Term.n_get Term.n_set Atom.length_enc Atom.ok_enc Atom.all_get Atom.all_set Atom.pred_get Atom.pred_set Atom.args_get Atom.args_set GRule.length_enc GRule.ok_enc GRule.all_get GRule.all_set GRule.head_get GRule.head_set GRule.body_get GRule.body_set GRule.head_pred_get GRule.head_pred_set GRule.head_args_get GRule.head_args_set GOp.length_enc GOp.ok_enc GOp.all_get GOp.all_set GOp.kind_get GOp.kind_set GOp.pred_get GOp.pred_set GOp.t_get GOp.t_set GOp.n_get GOp.n_set GOp.base_get GOp.base_set GOp.rule_get GOp.rule_set GOp.rule_head_get GOp.rule_head_set GOp.rule_body_get GOp.rule_body_set GOp.rule_head_pred_get GOp.rule_head_pred_set GOp.rule_head_args_get GOp.rule_head_args_set PredInfo.length_enc PredInfo.ok_enc PredInfo.all_get PredInfo.all_set PredInfo.arity_get PredInfo.arity_set PredInfo.base_get PredInfo.base_set PredInfo.stratum_get PredInfo.stratum_set GStats.length_enc GStats.ok_enc GStats.all_get GStats.all_set GStats.rounds_get GStats.rounds_set GStats.fired_get GStats.fired_set GStats.emitted_get GStats.emitted_set GStats.fresh_get GStats.fresh_set Literal.length_enc Literal.ok_enc Literal.all_get Literal.all_set Literal.neg_get Literal.neg_set Literal.atom_get Literal.atom_set Literal.atom_pred_get Literal.atom_pred_set Literal.atom_args_get Literal.atom_args_set Engine.length_enc Engine.ok_enc Engine.all_get Engine.all_set Engine.prog_get Engine.prog_set Engine.st_get Engine.st_set Engine.levels_get Engine.levels_set Engine.running_get Engine.running_set Engine.stratum_get Engine.stratum_set Engine.round_get Engine.round_set Engine.saved_get Engine.saved_set Engine.stats_get Engine.stats_set Engine.prog_preds_get Engine.prog_preds_set Engine.prog_rules_get Engine.prog_rules_set Engine.prog_strata_get Engine.prog_strata_set Engine.stats_rounds_get Engine.stats_rounds_set Engine.stats_fired_get Engine.stats_fired_set Engine.stats_emitted_get Engine.stats_emitted_set Engine.stats_fresh_get Engine.stats_fresh_set Level.length_enc Level.ok_enc Level.all_get Level.all_set Level.heads_get Level.heads_set Level.jobs_get Level.jobs_set Plan.length_enc Plan.ok_enc Plan.all_get Plan.all_set Plan.rule_get Plan.rule_set Plan.delta_get Plan.delta_set Plan.src_get Plan.src_set Job.length_enc Job.ok_enc Job.all_get Job.all_set Job.full_get Job.full_set Job.deltas_get Job.deltas_set Job.full_rule_get Job.full_rule_set Job.full_delta_get Job.full_delta_set Job.full_src_get Job.full_src_set GState.length_enc GState.ok_enc GState.all_get GState.all_set GState.prog_get GState.prog_set GState.base_get GState.base_set GState.shown_get GState.shown_set GState.prog_preds_get GState.prog_preds_set GState.prog_rules_get GState.prog_rules_set GState.prog_strata_get GState.prog_strata_set Store.length_enc Store.ok_enc Store.all_get Store.all_set Store.arity_get Store.arity_set Store.rows_get Store.rows_set Env.length_enc Env.ok_enc Env.all_get Env.all_set Env.val_get Env.val_set Env.set_get Env.set_set
attribute [local go_sem] size_put size_ext blk_put free_put blk_alloc free_alloc blk_drew free_drew blk_ext free_ext lookOr_some putOr_some segAt_some cellAt_some storeIn_some put_put put_alloc_new length_arr ok_arr_u8 ok_arr_u32 ok_arr_u64 ok_arr_i64 ok_arr_sl cellsV_agg cellsV_int cellsV_bool cellsV_string cellsV_pointer cellsV_slice cellsV_sl ok_int ok_bool ok_string ok_pointer ok_slice ok_sl toList_arr seg_arr set_arr nth_splice nth_splice0 seg_splice seg_splice0 splice_splice splice_splice0 length_splice_if
attribute [local go_sem ↓] execOp_box
attribute [local go_sem] box_run nth_arr_u8 put_arr_u8 blk_drewN free_drewN put_drewN blk_raw free_raw
theorem extends_put {w W : World} (h : w.Extends W) {b : Nat} (hb : w.heap.size ≤ b) (C : List Value) : w.Extends (put W b C) := (Fr.put_new (L := fun _ => False) (O := fun _ => Lab.no) (Fr.of_extends h) hb C).extends (ext_Ext (Ext.refl _)) (fun _ _ h => h)
def tA (a : Atom) (c : Nat) : Term := a.args.toList.getD c Term.zero
theorem ta_seg (a : Atom) {c : Nat} (h : c < 4) : seg a.enc (1 + c * 2) 2 = (tA a c).enc := by
  have h1 := seg_in (p := c * 2) (m := 2) (Atom.args_get a) (by omega)
  have hx : a.args.toList[c]? = some (tA a c) := by
    unfold tA
    rw [List.getD_eq_getElem?_getD, List.getElem?_eq_getElem (by simp; omega)]; rfl
  exact h1.trans (seg_flatG Term.enc 2 Term.length_enc a.args.toList c _ hx)
theorem ta_v (a : Atom) {c : Nat} (h : c < 4) : nth a.enc (1 + c * 2) = some (.bool (tA a c).var) := nth_in (j := 0) (ta_seg a h) rfl (by omega)
theorem ta_n (a : Atom) {c : Nat} (h : c < 4) : nth a.enc (1 + c * 2 + 1) = some (.int .i64 (tA a c).n) := nth_in (j := 1) (ta_seg a h) rfl (by omega)
def eV (e : Env) (i : Nat) : Int := e.val.toList.getD i 0
def eS (e : Env) (i : Nat) : Bool := e.set.toList.getD i false
def eU (e : Env) (i : Nat) (x : Int) : Env := if h : i < 32 then ⟨e.val.set i x h, e.set.set i true h⟩ else e
theorem eV_at (e : Env) {i : Nat} (h : i < 32) : eV e i = e.val[i] := by
  unfold eV
  rw [List.getD_eq_getElem?_getD, List.getElem?_eq_getElem (by simp; omega)]; simp
theorem eS_at (e : Env) {i : Nat} (h : i < 32) : eS e i = e.set[i] := by
  unfold eS
  rw [List.getD_eq_getElem?_getD, List.getElem?_eq_getElem (by simp; omega)]; simp
theorem env_v (e : Env) {i : Nat} (h : i < 32) : nth e.enc i = some (.int .i64 (eV e i)) := by
  have := Env.val_at e i h
  rw [Nat.zero_add] at this
  rw [this, eV_at e h]
theorem env_s (e : Env) {i : Nat} (h : i < 32) : nth e.enc (32 + i) = some (.bool (eS e i)) := by rw [Env.set_at e i h, eS_at e h]
theorem env_put (e : Env) {i : Nat} (h : i < 32) (x : Int) : splice (splice e.enc i [.int .i64 x]) (32 + i) [.bool true] = (eU e i x).enc := by
  have h1 := Env.val_put e i x h
  rw [Nat.zero_add] at h1
  rw [h1, Env.set_put _ i true h]
  unfold eU
  rw [dif_pos h]
theorem eV_eU (e : Env) {i : Nat} (h : i < 32) (x : Int) (j : Nat) : eV (eU e i x) j = if j = i then x else eV e j := by
  unfold eU
  rw [dif_pos h]
  unfold eV
  simp only [List.getD_eq_getElem?_getD, Vector.toList_set, List.getElem?_set]
  by_cases hij : i = j
  · subst hij; simp [h]
  · rw [if_neg hij, if_neg (fun e => hij e.symm)]
theorem eS_eU (e : Env) {i : Nat} (h : i < 32) (x : Int) (j : Nat) : eS (eU e i x) j = if j = i then true else eS e j := by
  unfold eU
  rw [dif_pos h]
  unfold eS
  simp only [List.getD_eq_getElem?_getD, Vector.toList_set, List.getElem?_set]
  by_cases hij : i = j
  · subst hij; simp [h]
  · rw [if_neg hij, if_neg (fun e => hij e.symm)]
/-- A term's value under an environment. -/
def valT (e : Env) (t : Term) : Int := if t.var then eV e t.n.toNat else t.n
/-- The first c columns of an atom under an environment. -/
def gT (a : Atom) (e : Env) (c : Nat) : Tup := Vector.ofFn fun i => if i.val < c then valT e (tA a i.val) else 0
theorem tg_gT (a : Atom) (e : Env) (c i : Nat) (hi : i < 4) : tg (gT a e c) i = if i < c then valT e (tA a i) else 0 := by
  unfold tg gT
  rw [List.getD_eq_getElem?_getD, List.getElem?_eq_getElem (by simp; omega)]; simp
theorem gT_zero (a : Atom) (e : Env) : gT a e 0 = Vector.replicate 4 0 := by
  apply Vector.ext
  intro i hi
  simp [gT]
theorem gT_succ (a : Atom) (e : Env) {c : Nat} (hc : c < 4) : (gT a e c).set c (valT e (tA a c)) hc = gT a e (c + 1) := by
  apply Vector.ext
  intro i hi
  rw [Vector.getElem_set]
  simp only [gT, Vector.getElem_ofFn]
  by_cases h : c = i
  · subst h; rw [if_pos rfl, if_pos (by omega)]
  · rw [if_neg h]
    by_cases h2 : i < c
    · rw [if_pos h2, if_pos (by omega)]
    · rw [if_neg h2, if_neg (by omega)]
theorem gT_put (a : Atom) (e : Env) {c : Nat} (hc : c < 4) {v : Int} (hv : v = valT e (tA a c)) : splice (arr i64v (gT a e c)) c [.int .i64 v] = arr i64v (gT a e (c + 1)) := by
  rw [put_arr_i64 _ _ hc, hv, gT_succ a e hc]
/-- An atom's first ar columns are in range. -/
def Fit (a : Atom) (ar : Nat) : Prop := ar ≤ 4 ∧ ∀ c, c < ar → 0 ≤ (tA a c).n ∧ ((tA a c).var = true → (tA a c).n < 32) ∧ ((tA a c).var = false → (tA a c).n < 256)
def grI (W : World) (b3 b5 b6 b7 ar : Nat) (a : Atom) (s : Env) (f : Nat → Value) (V : World) : Prop := f 1 = .int .i64 (ar : Int) ∧ f 3 = .pointer (some ⟨b3, 0, none⟩) ∧ f 5 = .pointer (some ⟨b5, 0, none⟩) ∧ f 6 = .pointer (some ⟨b6, 0, none⟩) ∧ f 7 = .pointer (some ⟨b7, 0, none⟩) ∧ ∃ c : Nat, c ≤ ar ∧ f 8 = .int .i64 (c : Nat) ∧ Hid (W.Extends V ∧ blk V b3 = some a.enc ∧ blk V b5 = some s.enc ∧ blk V b6 = some (arr i64v (gT a s 0)) ∧ free V b6 = true ∧ blk V b7 = some (arr i64v (gT a s c)) ∧ free V b7 = true)
set_option maxRecDepth 100000 in
theorem frame37g (f : Nat → Value) : frameN 37 f = #[f 0, f 1, f 2, f 3, f 4, f 5, f 6, f 7, f 8, f 9, f 10, f 11, f 12, f 13, f 14, f 15, f 16, f 17, f 18, f 19, f 20, f 21, f 22, f 23, f 24, f 25, f 26, f 27, f 28, f 29, f 30, f 31, f 32, f 33, f 34, f 35, f 36] := by kernel_rfl
set_option maxRecDepth 20000 in
set_option maxHeartbeats 4000000 in
theorem ground_any (W : World) (a : Atom) (ar : Nat) (s : Env) (hf : Fit a ar) : Calls Try.prog 86 #[.agg a.enc.toArray, .int .i64 (ar : Int), .agg s.enc.toArray] W fun e W' => e = .returned (.agg (arr i64v (gT a s ar)).toArray) ∧ W.Extends W' := by
  obtain ⟨ha4, hfit⟩ := hf
  have HFIT := hid_of hfit
  clear hfit
  go_enter Try.func86, Try.ntmps86
  go_upto_region 2 with fail
  refine wp_world (fun V => W.Extends V ∧ blk V W.heap.size = some a.enc ∧ blk V (W.heap.size + 1) = some s.enc ∧ blk V (W.heap.size + 1 + 1) = some (arr i64v (gT a s 0)) ∧ free V (W.heap.size + 1 + 1) = true ∧ blk V (W.heap.size + 1 + 1 + 1) = some (arr i64v (gT a s 0)) ∧ free V (W.heap.size + 1 + 1 + 1) = true) ?_ ?_
  · rw [gT_zero]
    refine ⟨extends_alloc (extends_alloc (extends_alloc (extends_alloc (ext_Ext (Ext.refl _)) _) _) _) _, ?_, ?_, ?_, ?_, ?_, ?_⟩
    all_goals first
      | (repeat rw [blk_alloc, if_neg (by simp only [World.size_alloc]; omega)]
         rw [blk_alloc, if_pos (by simp only [World.size_alloc])]
         done)
      | (unfold free
         repeat rw [heap_alloc, if_neg (by simp only [World.size_alloc]; omega)]
         rw [heap_alloc, if_pos (by simp only [World.size_alloc])]
         rfl)
  intro V1 hV1
  try simp only [World.size_alloc]
  obtain ⟨b3, e_b3⟩ : ∃ b, b = W.heap.size := ⟨_, rfl⟩
  obtain ⟨b5, e_b5⟩ : ∃ b, b = W.heap.size + 1 := ⟨_, rfl⟩
  obtain ⟨b6, e_b6⟩ : ∃ b, b = W.heap.size + 1 + 1 := ⟨_, rfl⟩
  obtain ⟨b7, e_b7⟩ : ∃ b, b = W.heap.size + 1 + 1 + 1 := ⟨_, rfl⟩
  rw [← e_b7] at hV1 ⊢
  rw [← e_b6] at hV1 ⊢
  rw [← e_b5] at hV1 ⊢
  rw [← e_b3] at hV1 ⊢
  have hn_b3 : W.heap.size ≤ b3 := by omega
  have n_b3_b5 : ¬ b3 = b5 := by omega
  have n_b5_b3 : ¬ b5 = b3 := by omega
  have n_b3_b6 : ¬ b3 = b6 := by omega
  have n_b6_b3 : ¬ b6 = b3 := by omega
  have n_b3_b7 : ¬ b3 = b7 := by omega
  have n_b7_b3 : ¬ b7 = b3 := by omega
  have hn_b5 : W.heap.size ≤ b5 := by omega
  have n_b5_b6 : ¬ b5 = b6 := by omega
  have n_b6_b5 : ¬ b6 = b5 := by omega
  have n_b5_b7 : ¬ b5 = b7 := by omega
  have n_b7_b5 : ¬ b7 = b5 := by omega
  have hn_b6 : W.heap.size ≤ b6 := by omega
  have n_b6_b7 : ¬ b6 = b7 := by omega
  have n_b7_b6 : ¬ b7 = b6 := by omega
  have hn_b7 : W.heap.size ≤ b7 := by omega
  clear e_b3 e_b5 e_b6 e_b7
  have H1 := hid_of hV1
  clear hV1
  go_wp2_with fail
  refine wp_loop_f 37 (grI W b3 b5 b6 b7 ar a s) (fun f _ => ar - (intOf (f 8)).toNat) rfl ⟨rfl, rfl, rfl, rfl, rfl, 0, by omega, rfl, H1⟩ ?_
  clear H1
  intro F V hrel
  obtain ⟨f1, f3, f5, f6, f7, c, hc, f8, HV⟩ := hrel
  have H8 := hid_of f8
  rw [frame37g, f1, f3, f5, f6, f7, f8]
  clear f1 f3 f5 f6 f7 f8
  obtain ⟨hx, hb3, hb5, hb6, hf6, hb7, hf7⟩ := HV.out
  by_cases hin : c < ar
  · have hin' : (c : Int) < (ar : Int) := by omega
    have h4 : c < 4 := by omega
    have p0 : (0 : Int) ≤ (c : Int) := by omega
    have p1 : (c : Int) < 4 := by omega
    have p2 : ((c : Int)).toNat = c := by omega
    obtain ⟨r0, r1, r2⟩ := HFIT.out c hin
    have hv := ta_v a h4
    have hn := ta_n a h4
    have hput := fun v hv => gT_put a s h4 (v := v) hv
    obtain ⟨tm, htm⟩ : ∃ tm, tm = tA a c := ⟨_, rfl⟩
    rw [← htm] at hv hn r0 r1 r2 hput
    obtain ⟨vb, hvb⟩ : ∃ vb, vb = tm.var := ⟨_, rfl⟩
    obtain ⟨vn, hvn⟩ : ∃ vn, vn = tm.n := ⟨_, rfl⟩
    rw [← hvb] at hv r1 r2
    rw [← hvn] at hn r0 r1 r2
    have hval : valT s tm = if vb then eV s vn.toNat else vn := by unfold valT; rw [← hvb, ← hvn]
    rw [hval] at hput
    obtain ⟨T1, hT1⟩ : ∃ T1, T1 = gT a s (c + 1) := ⟨_, rfl⟩
    obtain ⟨T0, hT0⟩ : ∃ T0, T0 = gT a s c := ⟨_, rfl⟩
    rw [← hT1, ← hT0] at hput
    rw [← hT0] at hb7
    have HV' : Hid (W.Extends (put V b7 (arr i64v T1)) ∧ blk (put V b7 (arr i64v T1)) b3 = some a.enc ∧ blk (put V b7 (arr i64v T1)) b5 = some s.enc ∧ blk (put V b7 (arr i64v T1)) b6 = some (arr i64v (gT a s 0)) ∧ free (put V b7 (arr i64v T1)) b6 = true ∧ blk (put V b7 (arr i64v T1)) b7 = some (arr i64v (gT a s (c + 1))) ∧ free (put V b7 (arr i64v T1)) b7 = true) := by
      refine ⟨extends_put hx hn_b7 _, by rw [blk_put, if_neg n_b3_b7]; exact hb3, by rw [blk_put, if_neg n_b5_b7]; exact hb5, by rw [blk_put, if_neg n_b6_b7]; exact hb6, by rw [free_put]; exact hf6, ?_, by rw [free_put]; exact hf7⟩
      rw [blk_put, if_pos rfl, hb7, hT1]; rfl
    cases vb
    · have hp := hput vn (by simp)
      clear hput hval HV htm hvb hvn hT0 hT1 hx HFIT hb6 hf6
      go_wp2_with fail
      refine ⟨rfl, rfl, ⟨rfl, rfl, rfl, rfl, rfl, c + 1, by omega, ?_, HV'⟩, ?_⟩
      · show Value.int .i64 _ = _
        go_num
      · show ar - (intOf (Value.int .i64 _)).toNat < ar - (intOf (F 8)).toNat
        rw [H8.out]
        simp [intOf]; omega
    · have r1' := r1 rfl
      obtain ⟨vi, rfl⟩ : ∃ vi : Nat, vn = (vi : Int) := ⟨vn.toNat, by omega⟩
      have h32 : vi < 32 := by omega
      have hev := env_v s h32
      have hp := hput (eV s vi) (by simp)
      clear hput hval HV htm hvb hvn hT0 hT1 hx HFIT hb6 hf6
      go_wp2_with fail
      refine ⟨rfl, rfl, ⟨rfl, rfl, rfl, rfl, rfl, c + 1, by omega, ?_, HV'⟩, ?_⟩
      · show Value.int .i64 _ = _
        go_num
      · show ar - (intOf (Value.int .i64 _)).toNat < ar - (intOf (F 8)).toNat
        rw [H8.out]
        simp [intOf]; omega
  · obtain rfl : c = ar := by omega
    have hin' : ¬ ((c : Int) < (c : Int)) := by omega
    have HX : Hid (W.Extends (put V b6 (arr i64v (gT a s c)))) := extends_put hx hn_b6 _
    have HB : Hid (blk (put V b6 (arr i64v (gT a s c))) b6 = some (arr i64v (gT a s c))) := by
      show blk _ _ = _
      rw [blk_put, if_pos rfl, hb6]; rfl
    obtain ⟨T, hT⟩ : ∃ T, T = gT a s c := ⟨_, rfl⟩
    obtain ⟨T0, hT0⟩ : ∃ T0, T0 = gT a s 0 := ⟨_, rfl⟩
    have HT := hid_of hT
    rw [← hT] at HX HB hb7
    rw [← hT0] at hb6
    clear HV hT hT0 hx HFIT
    go_wp2_with fail
    try go_ret2
    refine ret_cell (C := arr i64v T) rfl rfl HB.out (by kernel_rfl) (by rw [length_arr]; kernel_rfl) rfl ?_
    exact ⟨by rw [HT.out], HX.out⟩
/-- One column of unify. -/
def uniS (a : Atom) (row : Tup) (c : Nat) (e : Env) : Option Env :=
  if (tA a c).var then (if eS e (tA a c).n.toNat = true ∧ ¬ eV e (tA a c).n.toNat = tg row c then none else some (eU e (tA a c).n.toNat (tg row c)))
  else if (tA a c).n = tg row c then some e else none
def uniF (a : Atom) (row : Tup) : Nat → Env → Option Env
  | 0, e => some e
  | c + 1, e => (uniF a row c e).bind (uniS a row c)
theorem uniF_none {a : Atom} {row : Tup} {c : Nat} {e : Env} (h : uniF a row c e = none) : ∀ d, c ≤ d → uniF a row d e = none := by
  intro d hd
  induction d with
  | zero => rw [Nat.le_zero.1 hd] at h; exact h
  | succ d ih =>
    by_cases hc : c = d + 1
    · rw [← hc]; exact h
    · show (uniF a row d e).bind _ = none
      rw [ih (by omega)]; rfl
def UniPost (W : World) (r : Option Env) (e : Ending) (W' : World) : Prop := ∃ s' : Env, e = .returned (.tuple #[.agg s'.enc.toArray, .bool r.isSome]) ∧ (∀ x, r = some x → s' = x) ∧ W.Extends W'
def unI (W : World) (b4 b6 b7 b8 ar : Nat) (a : Atom) (row : Tup) (s : Env) (f : Nat → Value) (V : World) : Prop := f 1 = .int .i64 (ar : Int) ∧ f 4 = .pointer (some ⟨b4, 0, none⟩) ∧ f 6 = .pointer (some ⟨b6, 0, none⟩) ∧ f 7 = .pointer (some ⟨b7, 0, none⟩) ∧ f 8 = .pointer (some ⟨b8, 0, none⟩) ∧ ∃ (c : Nat) (e : Env), c ≤ ar ∧ f 10 = .int .i64 (c : Nat) ∧ Hid (uniF a row c s = some e) ∧ Hid (W.Extends V ∧ blk V b4 = some a.enc ∧ blk V b6 = some (arr i64v row) ∧ blk V b7 = some e.enc ∧ free V b7 = true ∧ blk V b8 = some Env.zero.enc ∧ free V b8 = true)
set_option maxRecDepth 100000 in
theorem frame63 (f : Nat → Value) : frameN 63 f = #[f 0, f 1, f 2, f 3, f 4, f 5, f 6, f 7, f 8, f 9, f 10, f 11, f 12, f 13, f 14, f 15, f 16, f 17, f 18, f 19, f 20, f 21, f 22, f 23, f 24, f 25, f 26, f 27, f 28, f 29, f 30, f 31, f 32, f 33, f 34, f 35, f 36, f 37, f 38, f 39, f 40, f 41, f 42, f 43, f 44, f 45, f 46, f 47, f 48, f 49, f 50, f 51, f 52, f 53, f 54, f 55, f 56, f 57, f 58, f 59, f 60, f 61, f 62] := by kernel_rfl
set_option maxRecDepth 20000 in
set_option maxHeartbeats 4000000 in
theorem unify_any (W : World) (a : Atom) (ar : Nat) (row : Tup) (s : Env) (hf : Fit a ar) : Calls Try.prog 85 #[.agg a.enc.toArray, .int .i64 (ar : Int), .agg (arr i64v row).toArray, .agg s.enc.toArray] W (UniPost W (uniF a row ar s)) := by
  obtain ⟨ha4, hfit⟩ := hf
  have HFIT := hid_of hfit
  obtain ⟨Q, hQ⟩ : ∃ Q, Q = UniPost W (uniF a row ar s) := ⟨_, rfl⟩
  rw [← hQ]
  have HQ := hid_of hQ
  clear hfit hQ
  go_enter Try.func85, Try.ntmps85
  go_upto_region 1 with fail
  refine wp_world (fun V => W.Extends V ∧ blk V W.heap.size = some a.enc ∧ blk V (W.heap.size + 1) = some (arr i64v row) ∧ blk V (W.heap.size + 1 + 1) = some s.enc ∧ free V (W.heap.size + 1 + 1) = true ∧ blk V (W.heap.size + 1 + 1 + 1) = some Env.zero.enc ∧ free V (W.heap.size + 1 + 1 + 1) = true) ?_ ?_
  · refine ⟨extends_alloc (extends_alloc (extends_alloc (extends_alloc (ext_Ext (Ext.refl _)) _) _) _) _, ?_, ?_, ?_, ?_, ?_, ?_⟩
    all_goals first
      | (repeat rw [blk_alloc, if_neg (by simp only [World.size_alloc]; omega)]
         rw [blk_alloc, if_pos (by simp only [World.size_alloc])]
         done)
      | (unfold free
         repeat rw [heap_alloc, if_neg (by simp only [World.size_alloc]; omega)]
         rw [heap_alloc, if_pos (by simp only [World.size_alloc])]
         rfl)
  intro V1 hV1
  try simp only [World.size_alloc]
  obtain ⟨b4, e_b4⟩ : ∃ b, b = W.heap.size := ⟨_, rfl⟩
  obtain ⟨b6, e_b6⟩ : ∃ b, b = W.heap.size + 1 := ⟨_, rfl⟩
  obtain ⟨b7, e_b7⟩ : ∃ b, b = W.heap.size + 1 + 1 := ⟨_, rfl⟩
  obtain ⟨b8, e_b8⟩ : ∃ b, b = W.heap.size + 1 + 1 + 1 := ⟨_, rfl⟩
  rw [← e_b8] at hV1 ⊢
  rw [← e_b7] at hV1 ⊢
  rw [← e_b6] at hV1 ⊢
  rw [← e_b4] at hV1 ⊢
  have hn_b4 : W.heap.size ≤ b4 := by omega
  have n_b4_b6 : ¬ b4 = b6 := by omega
  have n_b6_b4 : ¬ b6 = b4 := by omega
  have n_b4_b7 : ¬ b4 = b7 := by omega
  have n_b7_b4 : ¬ b7 = b4 := by omega
  have n_b4_b8 : ¬ b4 = b8 := by omega
  have n_b8_b4 : ¬ b8 = b4 := by omega
  have hn_b6 : W.heap.size ≤ b6 := by omega
  have n_b6_b7 : ¬ b6 = b7 := by omega
  have n_b7_b6 : ¬ b7 = b6 := by omega
  have n_b6_b8 : ¬ b6 = b8 := by omega
  have n_b8_b6 : ¬ b8 = b6 := by omega
  have hn_b7 : W.heap.size ≤ b7 := by omega
  have n_b7_b8 : ¬ b7 = b8 := by omega
  have n_b8_b7 : ¬ b8 = b7 := by omega
  have hn_b8 : W.heap.size ≤ b8 := by omega
  clear e_b4 e_b6 e_b7 e_b8
  have H1 := hid_of hV1
  clear hV1
  go_wp2_with fail
  refine wp_loop_f 63 (unI W b4 b6 b7 b8 ar a row s) (fun f _ => ar - (intOf (f 10)).toNat) rfl ⟨rfl, rfl, rfl, rfl, rfl, 0, s, by omega, rfl, rfl, H1⟩ ?_
  clear H1
  intro F V hrel
  obtain ⟨f1, f4, f6, f7, f8, c, e, hc, f10, HU, HV⟩ := hrel
  have H10 := hid_of f10
  rw [frame63, f1, f4, f6, f7, f8, f10]
  clear f1 f4 f6 f7 f8 f10
  obtain ⟨hx, hb4, hb6, hb7, hf7, hb8, hf8⟩ := HV.out
  -- the two ends
  have HEND : Hid (∀ V' (s' : Env) (ok : Bool), blk V' b8 = some Env.zero.enc → W.Extends V' → (ok = (uniF a row ar s).isSome) → (∀ x, uniF a row ar s = some x → s' = x) → Q (.returned (.tuple #[.agg s'.enc.toArray, .bool ok])) (put V' b8 s'.enc) ∧ blk (put V' b8 s'.enc) b8 = some s'.enc) := by
    intro V' s' ok h8 hxx hok hsx
    refine ⟨?_, by rw [blk_put, if_pos rfl, h8]; rfl⟩
    rw [HQ.out]
    exact ⟨s', by rw [hok], hsx, extends_put hxx hn_b8 _⟩
  by_cases hin : c < ar
  rotate_left 1
  · obtain rfl : c = ar := by omega
    have hin' : ¬ ((c : Int) < (c : Int)) := by omega
    obtain ⟨hP, hB⟩ := HEND.out V e true hb8 hx (by rw [HU.out]; rfl) (fun x hx => by rw [HU.out] at hx; exact Option.some.inj hx)
    have HP := hid_of hP
    have HB := hid_of hB
    clear HV hx HFIT HEND hP hB HU
    go_wp2_with fail
    try go_ret2
    refine ret_cell_tmp (C := e.enc) rfl rfl rfl HB.out (by kernel_rfl) (by rw [Env.length_enc]; kernel_rfl) rfl ?_
    exact HP.out
  have hin' : (c : Int) < (ar : Int) := by omega
  have h4 : c < 4 := by omega
  have p0 : (0 : Int) ≤ (c : Int) := by omega
  have p1 : (c : Int) < 4 := by omega
  have p2 : ((c : Int)).toNat = c := by omega
  obtain ⟨r0, r1, r2⟩ := HFIT.out c hin
  have hv := ta_v a h4
  have hn := ta_n a h4
  have hrw := nth_t row c h4
  have hs1 : uniF a row (c + 1) s = uniS a row c e := by show (uniF a row c s).bind _ = _; rw [HU.out]; rfl
  have hnone : uniS a row c e = none → uniF a row ar s = none := fun h => uniF_none (hs1.trans h) ar (by omega)
  unfold uniS at hs1 hnone
  obtain ⟨tm, htm⟩ : ∃ tm, tm = tA a c := ⟨_, rfl⟩
  rw [← htm] at hv hn r0 r1 r2 hs1 hnone
  obtain ⟨vb, hvb⟩ : ∃ vb, vb = tm.var := ⟨_, rfl⟩
  obtain ⟨vn, hvn⟩ : ∃ vn, vn = tm.n := ⟨_, rfl⟩
  rw [← hvb] at hv r1 r2 hs1 hnone
  rw [← hvn] at hn r0 r1 r2 hs1 hnone
  obtain ⟨rv, hrv⟩ : ∃ rv, rv = tg row c := ⟨_, rfl⟩
  rw [← hrv] at hrw hs1 hnone
  clear htm hvb hvn hrv HFIT
  have hd : W.Extends V.drew := extends_drew hx
  cases vb
  · by_cases he : vn = rv
    · have HU' : Hid (uniF a row (c + 1) s = some e) := by show _ = _; rw [hs1]; simp [he]
      have HV' : Hid (W.Extends V.drew ∧ blk V.drew b4 = some a.enc ∧ blk V.drew b6 = some (arr i64v row) ∧ blk V.drew b7 = some e.enc ∧ free V.drew b7 = true ∧ blk V.drew b8 = some Env.zero.enc ∧ free V.drew b8 = true) := ⟨hd, hb4, hb6, hb7, hf7, hb8, hf8⟩
      have hnb : (vn != rv) = false := by simp [he]
      subst he
      clear HV hx hd HU HEND hs1 hnone hb8 hf8
      go_upto_region 5 with fail
      refine wp_region_held_drew (S := fun W' => blk W' b4 = some a.enc ∧ blk W' b6 = some (arr i64v row) ∧ blk W' b7 = some e.enc) (by kernel_rfl) ⟨hb4, hb6, hb7⟩ (fun hHeld => ?_)
      refine wpAnyH_take (i := 0) (oi := ⟨_, _, _, _, _, _⟩) (v := ?_) rfl (by kernel_rfl) (by kernel_rfl) (by kernel_rfl) (fun _ _ _ h => h) (Or.inl ⟨by rfl, ?_⟩) (by assumption) ?_
      rotate_left 1
      · intro W' hSw
        obtain ⟨hS1, hS2, hS3⟩ := hSw
        go_simp
        try with_reducible rfl
      try simp only [Act.put, List.setIfInBounds_toArray, List.set_cons_zero, List.set_cons_succ]
      refine wpAnyH_take (i := 1) (oi := ⟨_, _, _, _, _, _⟩) (v := ?_) rfl (by kernel_rfl) (by kernel_rfl) (by kernel_rfl) (fun _ _ _ h => h) (Or.inl ⟨by rfl, ?_⟩) (by assumption) ?_
      rotate_left 1
      · intro W' hSw
        obtain ⟨hS1, hS2, hS3⟩ := hSw
        go_simp
        try with_reducible rfl
      try simp only [Act.put, List.setIfInBounds_toArray, List.set_cons_zero, List.set_cons_succ]
      refine wpAnyH_take (i := 2) (oi := ⟨_, _, _, _, _, _⟩) (v := ?_) rfl (by kernel_rfl) (by kernel_rfl) (by kernel_rfl) (fun _ _ _ h => h) (Or.inl ⟨by rfl, ?_⟩) (by assumption) ?_
      rotate_left 1
      · intro W' hSw
        obtain ⟨hS1, hS2, hS3⟩ := hSw
        go_simp
        try with_reducible rfl
      try simp only [Act.put, List.setIfInBounds_toArray, List.set_cons_zero, List.set_cons_succ]
      refine wpAnyH_take (i := 3) (oi := ⟨_, _, _, _, _, _⟩) (v := ?_) rfl (by kernel_rfl) (by kernel_rfl) (by kernel_rfl) (fun _ _ _ h => h) (Or.inl ⟨by rfl, ?_⟩) (by assumption) ?_
      rotate_left 1
      · intro W' hSw
        obtain ⟨hS1, hS2, hS3⟩ := hSw
        go_simp
        try with_reducible rfl
      try simp only [Act.put, List.setIfInBounds_toArray, List.set_cons_zero, List.set_cons_succ]
      refine wpAnyH_take (i := 4) (oi := ⟨_, _, _, _, _, _⟩) (v := ?_) rfl (by kernel_rfl) (by kernel_rfl) (by kernel_rfl) (fun _ _ _ h => h) (Or.inl ⟨by rfl, ?_⟩) (by assumption) ?_
      rotate_left 1
      · intro W' hSw
        obtain ⟨hS1, hS2, hS3⟩ := hSw
        go_simp
        try with_reducible rfl
      try simp only [Act.put, List.setIfInBounds_toArray, List.set_cons_zero, List.set_cons_succ]
      refine wpAnyH_take (i := 5) (oi := ⟨_, _, _, _, _, _⟩) (v := ?_) rfl (by kernel_rfl) (by kernel_rfl) (by kernel_rfl) (fun _ _ _ h => h) (Or.inl ⟨by rfl, ?_⟩) (by assumption) ?_
      rotate_left 1
      · intro W' hSw
        obtain ⟨hS1, hS2, hS3⟩ := hSw
        go_simp
        try with_reducible rfl
      try simp only [Act.put, List.setIfInBounds_toArray, List.set_cons_zero, List.set_cons_succ]
      refine wpAnyH_take (i := 6) (oi := ⟨_, _, _, _, _, _⟩) (v := ?_) rfl (by kernel_rfl) (by kernel_rfl) (by kernel_rfl) (fun _ _ _ h => h) (Or.inl ⟨by rfl, ?_⟩) (by assumption) ?_
      rotate_left 1
      · intro W' hSw
        obtain ⟨hS1, hS2, hS3⟩ := hSw
        go_simp
        try with_reducible rfl
      try simp only [Act.put, List.setIfInBounds_toArray, List.set_cons_zero, List.set_cons_succ]
      refine wpAnyH_take (i := 7) (oi := ⟨_, _, _, _, _, _⟩) (v := ?_) rfl (by kernel_rfl) (by kernel_rfl) (by kernel_rfl) (fun _ _ _ h => h) (Or.inl ⟨by rfl, ?_⟩) (by assumption) ?_
      rotate_left 1
      · intro W' hSw
        obtain ⟨hS1, hS2, hS3⟩ := hSw
        go_simp
        try with_reducible rfl
      try simp only [Act.put, List.setIfInBounds_toArray, List.set_cons_zero, List.set_cons_succ]
      refine wpAnyH_take (i := 8) (oi := ⟨_, _, _, _, _, _⟩) (v := ?_) rfl (by kernel_rfl) (by kernel_rfl) (by kernel_rfl) (fun _ _ _ h => h) (Or.inl ⟨by rfl, ?_⟩) (by assumption) ?_
      rotate_left 1
      · intro W' hSw
        obtain ⟨hS1, hS2, hS3⟩ := hSw
        go_simp
        try with_reducible rfl
      try simp only [Act.put, List.setIfInBounds_toArray, List.set_cons_zero, List.set_cons_succ]
      refine wpAnyH_done (by kernel_rfl) ?_ _
      go_wp2_with fail
      refine ⟨rfl, rfl, ⟨rfl, rfl, rfl, rfl, rfl, c + 1, _, by omega, ?_, HU', HV'⟩, ?_⟩
      · show Value.int .i64 _ = _
        go_num
      · show ar - (intOf (Value.int .i64 _)).toNat < ar - (intOf (F 10)).toNat
        rw [H10.out]
        simp [intOf]; omega
    · have hNo := hnone (by simp [he])
      obtain ⟨hP, hB⟩ := HEND.out V.drew e false hb8 hd (by rw [hNo]; rfl) (fun x hx => by rw [hNo] at hx; cases hx)
      have HP := hid_of hP
      have HB := hid_of hB
      have hnb : (vn != rv) = true := by simp [he]
      have hb8d : blk V.drew b8 = some Env.zero.enc := hb8
      have hf8d : free V.drew b8 = true := hf8
      have hb7d : blk V.drew b7 = some e.enc := hb7
      clear HV hx hd HU HEND hs1 hnone hP hB hNo
      go_upto_region 5 with fail
      refine wp_region_held_drew (S := fun W' => blk W' b4 = some a.enc ∧ blk W' b6 = some (arr i64v row) ∧ blk W' b7 = some e.enc) (by kernel_rfl) ⟨hb4, hb6, hb7⟩ (fun hHeld => ?_)
      refine wpAnyH_take (i := 0) (oi := ⟨_, _, _, _, _, _⟩) (v := ?_) rfl (by kernel_rfl) (by kernel_rfl) (by kernel_rfl) (fun _ _ _ h => h) (Or.inl ⟨by rfl, ?_⟩) (by assumption) ?_
      rotate_left 1
      · intro W' hSw
        obtain ⟨hS1, hS2, hS3⟩ := hSw
        go_simp
        try with_reducible rfl
      try simp only [Act.put, List.setIfInBounds_toArray, List.set_cons_zero, List.set_cons_succ]
      refine wpAnyH_take (i := 1) (oi := ⟨_, _, _, _, _, _⟩) (v := ?_) rfl (by kernel_rfl) (by kernel_rfl) (by kernel_rfl) (fun _ _ _ h => h) (Or.inl ⟨by rfl, ?_⟩) (by assumption) ?_
      rotate_left 1
      · intro W' hSw
        obtain ⟨hS1, hS2, hS3⟩ := hSw
        go_simp
        try with_reducible rfl
      try simp only [Act.put, List.setIfInBounds_toArray, List.set_cons_zero, List.set_cons_succ]
      refine wpAnyH_take (i := 2) (oi := ⟨_, _, _, _, _, _⟩) (v := ?_) rfl (by kernel_rfl) (by kernel_rfl) (by kernel_rfl) (fun _ _ _ h => h) (Or.inl ⟨by rfl, ?_⟩) (by assumption) ?_
      rotate_left 1
      · intro W' hSw
        obtain ⟨hS1, hS2, hS3⟩ := hSw
        go_simp
        try with_reducible rfl
      try simp only [Act.put, List.setIfInBounds_toArray, List.set_cons_zero, List.set_cons_succ]
      refine wpAnyH_take (i := 3) (oi := ⟨_, _, _, _, _, _⟩) (v := ?_) rfl (by kernel_rfl) (by kernel_rfl) (by kernel_rfl) (fun _ _ _ h => h) (Or.inl ⟨by rfl, ?_⟩) (by assumption) ?_
      rotate_left 1
      · intro W' hSw
        obtain ⟨hS1, hS2, hS3⟩ := hSw
        go_simp
        try with_reducible rfl
      try simp only [Act.put, List.setIfInBounds_toArray, List.set_cons_zero, List.set_cons_succ]
      refine wpAnyH_take (i := 4) (oi := ⟨_, _, _, _, _, _⟩) (v := ?_) rfl (by kernel_rfl) (by kernel_rfl) (by kernel_rfl) (fun _ _ _ h => h) (Or.inl ⟨by rfl, ?_⟩) (by assumption) ?_
      rotate_left 1
      · intro W' hSw
        obtain ⟨hS1, hS2, hS3⟩ := hSw
        go_simp
        try with_reducible rfl
      try simp only [Act.put, List.setIfInBounds_toArray, List.set_cons_zero, List.set_cons_succ]
      refine wpAnyH_take (i := 5) (oi := ⟨_, _, _, _, _, _⟩) (v := ?_) rfl (by kernel_rfl) (by kernel_rfl) (by kernel_rfl) (fun _ _ _ h => h) (Or.inl ⟨by rfl, ?_⟩) (by assumption) ?_
      rotate_left 1
      · intro W' hSw
        obtain ⟨hS1, hS2, hS3⟩ := hSw
        go_simp
        try with_reducible rfl
      try simp only [Act.put, List.setIfInBounds_toArray, List.set_cons_zero, List.set_cons_succ]
      refine wpAnyH_take (i := 6) (oi := ⟨_, _, _, _, _, _⟩) (v := ?_) rfl (by kernel_rfl) (by kernel_rfl) (by kernel_rfl) (fun _ _ _ h => h) (Or.inl ⟨by rfl, ?_⟩) (by assumption) ?_
      rotate_left 1
      · intro W' hSw
        obtain ⟨hS1, hS2, hS3⟩ := hSw
        go_simp
        try with_reducible rfl
      try simp only [Act.put, List.setIfInBounds_toArray, List.set_cons_zero, List.set_cons_succ]
      refine wpAnyH_take (i := 7) (oi := ⟨_, _, _, _, _, _⟩) (v := ?_) rfl (by kernel_rfl) (by kernel_rfl) (by kernel_rfl) (fun _ _ _ h => h) (Or.inl ⟨by rfl, ?_⟩) (by assumption) ?_
      rotate_left 1
      · intro W' hSw
        obtain ⟨hS1, hS2, hS3⟩ := hSw
        go_simp
        try with_reducible rfl
      try simp only [Act.put, List.setIfInBounds_toArray, List.set_cons_zero, List.set_cons_succ]
      refine wpAnyH_take (i := 8) (oi := ⟨_, _, _, _, _, _⟩) (v := ?_) rfl (by kernel_rfl) (by kernel_rfl) (by kernel_rfl) (fun _ _ _ h => h) (Or.inl ⟨by rfl, ?_⟩) (by assumption) ?_
      rotate_left 1
      · intro W' hSw
        obtain ⟨hS1, hS2, hS3⟩ := hSw
        go_simp
        try with_reducible rfl
      try simp only [Act.put, List.setIfInBounds_toArray, List.set_cons_zero, List.set_cons_succ]
      refine wpAnyH_done (by kernel_rfl) ?_ _
      go_wp2_with fail
      try go_ret2
      refine ret_cell_tmp (C := e.enc) rfl rfl rfl HB.out (by kernel_rfl) (by rw [Env.length_enc]; kernel_rfl) rfl ?_
      exact HP.out
  · have r1' := r1 rfl
    obtain ⟨vi, rfl⟩ : ∃ vi : Nat, vn = (vi : Int) := ⟨vn.toNat, by omega⟩
    have h32 : vi < 32 := by omega
    have hev := env_v e h32
    have hes := env_s e h32
    have hep := env_put e h32 rv
    have k0 : (0 : Int) ≤ (vi : Int) := by omega
    have k1 : (vi : Int) < 32 := by omega
    have k2 : ((vi : Int)).toNat = vi := by omega
    rw [k2] at hs1 hnone
    obtain ⟨sb, hsb⟩ : ∃ sb, sb = eS e vi := ⟨_, rfl⟩
    obtain ⟨sv, hsv⟩ : ∃ sv, sv = eV e vi := ⟨_, rfl⟩
    rw [← hsb] at hes hs1 hnone
    rw [← hsv] at hev hs1 hnone
    have hb7d : blk V.drew b7 = some e.enc := hb7
    have hf7d : free V.drew b7 = true := hf7
    have hb6d : blk V.drew b6 = some (arr i64v row) := hb6
    by_cases hbad : sb = true ∧ ¬ sv = rv
    · have hNo := hnone (by simp [hbad])
      obtain ⟨hP, hB⟩ := HEND.out V.drew e false hb8 hd (by rw [hNo]; rfl) (fun x hx => by rw [hNo] at hx; cases hx)
      have HP := hid_of hP
      have HB := hid_of hB
      obtain ⟨rfl, hne⟩ := hbad
      have hnb : (sv != rv) = true := by simp [hne]
      have hb8d : blk V.drew b8 = some Env.zero.enc := hb8
      have hf8d : free V.drew b8 = true := hf8
      clear HV hx hd HU HEND hs1 hnone hP hB hNo hsb hsv hep
      go_upto_region 8 with fail
      refine wp_region_held_drew (S := fun W' => blk W' b4 = some a.enc ∧ blk W' b6 = some (arr i64v row) ∧ blk W' b7 = some e.enc) (by kernel_rfl) ⟨hb4, hb6, hb7⟩ (fun hHeld => ?_)
      refine wpAnyH_take (i := 0) (oi := ⟨_, _, _, _, _, _⟩) (v := ?_) rfl (by kernel_rfl) (by kernel_rfl) (by kernel_rfl) (fun _ _ _ h => h) (Or.inl ⟨by rfl, ?_⟩) (by assumption) ?_
      rotate_left 1
      · intro W' hSw
        obtain ⟨hS1, hS2, hS3⟩ := hSw
        go_simp
        try with_reducible rfl
      try simp only [Act.put, List.setIfInBounds_toArray, List.set_cons_zero, List.set_cons_succ]
      refine wpAnyH_take (i := 1) (oi := ⟨_, _, _, _, _, _⟩) (v := ?_) rfl (by kernel_rfl) (by kernel_rfl) (by kernel_rfl) (fun _ _ _ h => h) (Or.inl ⟨by rfl, ?_⟩) (by assumption) ?_
      rotate_left 1
      · intro W' hSw
        obtain ⟨hS1, hS2, hS3⟩ := hSw
        go_simp
        try with_reducible rfl
      try simp only [Act.put, List.setIfInBounds_toArray, List.set_cons_zero, List.set_cons_succ]
      refine wpAnyH_take (i := 2) (oi := ⟨_, _, _, _, _, _⟩) (v := ?_) rfl (by kernel_rfl) (by kernel_rfl) (by kernel_rfl) (fun _ _ _ h => h) (Or.inl ⟨by rfl, ?_⟩) (by assumption) ?_
      rotate_left 1
      · intro W' hSw
        obtain ⟨hS1, hS2, hS3⟩ := hSw
        go_simp
        try with_reducible rfl
      try simp only [Act.put, List.setIfInBounds_toArray, List.set_cons_zero, List.set_cons_succ]
      refine wpAnyH_take (i := 3) (oi := ⟨_, _, _, _, _, _⟩) (v := ?_) rfl (by kernel_rfl) (by kernel_rfl) (by kernel_rfl) (fun _ _ _ h => h) (Or.inl ⟨by rfl, ?_⟩) (by assumption) ?_
      rotate_left 1
      · intro W' hSw
        obtain ⟨hS1, hS2, hS3⟩ := hSw
        go_simp
        try with_reducible rfl
      try simp only [Act.put, List.setIfInBounds_toArray, List.set_cons_zero, List.set_cons_succ]
      refine wpAnyH_take (i := 4) (oi := ⟨_, _, _, _, _, _⟩) (v := ?_) rfl (by kernel_rfl) (by kernel_rfl) (by kernel_rfl) (fun _ _ _ h => h) (Or.inl ⟨by rfl, ?_⟩) (by assumption) ?_
      rotate_left 1
      · intro W' hSw
        obtain ⟨hS1, hS2, hS3⟩ := hSw
        go_simp
        try with_reducible rfl
      try simp only [Act.put, List.setIfInBounds_toArray, List.set_cons_zero, List.set_cons_succ]
      refine wpAnyH_take (i := 5) (oi := ⟨_, _, _, _, _, _⟩) (v := ?_) rfl (by kernel_rfl) (by kernel_rfl) (by kernel_rfl) (fun _ _ _ h => h) (Or.inl ⟨by rfl, ?_⟩) (by assumption) ?_
      rotate_left 1
      · intro W' hSw
        obtain ⟨hS1, hS2, hS3⟩ := hSw
        go_simp
        try with_reducible rfl
      try simp only [Act.put, List.setIfInBounds_toArray, List.set_cons_zero, List.set_cons_succ]
      refine wpAnyH_take (i := 6) (oi := ⟨_, _, _, _, _, _⟩) (v := ?_) rfl (by kernel_rfl) (by kernel_rfl) (by kernel_rfl) (fun _ _ _ h => h) (Or.inl ⟨by rfl, ?_⟩) (by assumption) ?_
      rotate_left 1
      · intro W' hSw
        obtain ⟨hS1, hS2, hS3⟩ := hSw
        go_simp
        try with_reducible rfl
      try simp only [Act.put, List.setIfInBounds_toArray, List.set_cons_zero, List.set_cons_succ]
      refine wpAnyH_take (i := 7) (oi := ⟨_, _, _, _, _, _⟩) (v := ?_) rfl (by kernel_rfl) (by kernel_rfl) (by kernel_rfl) (fun _ _ _ h => h) (Or.inl ⟨by rfl, ?_⟩) (by assumption) ?_
      rotate_left 1
      · intro W' hSw
        obtain ⟨hS1, hS2, hS3⟩ := hSw
        go_simp
        try with_reducible rfl
      try simp only [Act.put, List.setIfInBounds_toArray, List.set_cons_zero, List.set_cons_succ]
      refine wpAnyH_take (i := 8) (oi := ⟨_, _, _, _, _, _⟩) (v := ?_) rfl (by kernel_rfl) (by kernel_rfl) (by kernel_rfl) (fun _ _ _ h => h) (Or.inl ⟨by rfl, ?_⟩) (by assumption) ?_
      rotate_left 1
      · intro W' hSw
        obtain ⟨hS1, hS2, hS3⟩ := hSw
        go_simp
        try with_reducible rfl
      try simp only [Act.put, List.setIfInBounds_toArray, List.set_cons_zero, List.set_cons_succ]
      refine wpAnyH_take (i := 9) (oi := ⟨_, _, _, _, _, _⟩) (v := ?_) rfl (by kernel_rfl) (by kernel_rfl) (by kernel_rfl) (fun _ _ _ h => h) (Or.inl ⟨by rfl, ?_⟩) (by assumption) ?_
      rotate_left 1
      · intro W' hSw
        obtain ⟨hS1, hS2, hS3⟩ := hSw
        go_simp
        try with_reducible rfl
      try simp only [Act.put, List.setIfInBounds_toArray, List.set_cons_zero, List.set_cons_succ]
      refine wpAnyH_take (i := 10) (oi := ⟨_, _, _, _, _, _⟩) (v := ?_) rfl (by kernel_rfl) (by kernel_rfl) (by kernel_rfl) (fun _ _ _ h => h) (Or.inl ⟨by rfl, ?_⟩) (by assumption) ?_
      rotate_left 1
      · intro W' hSw
        obtain ⟨hS1, hS2, hS3⟩ := hSw
        go_simp
        try with_reducible rfl
      try simp only [Act.put, List.setIfInBounds_toArray, List.set_cons_zero, List.set_cons_succ]
      refine wpAnyH_take (i := 11) (oi := ⟨_, _, _, _, _, _⟩) (v := ?_) rfl (by kernel_rfl) (by kernel_rfl) (by kernel_rfl) (fun _ _ _ h => h) (Or.inl ⟨by rfl, ?_⟩) (by assumption) ?_
      rotate_left 1
      · intro W' hSw
        obtain ⟨hS1, hS2, hS3⟩ := hSw
        go_simp
        try with_reducible rfl
      try simp only [Act.put, List.setIfInBounds_toArray, List.set_cons_zero, List.set_cons_succ]
      refine wpAnyH_take (i := 12) (oi := ⟨_, _, _, _, _, _⟩) (v := ?_) rfl (by kernel_rfl) (by kernel_rfl) (by kernel_rfl) (fun _ _ _ h => h) (Or.inl ⟨by rfl, ?_⟩) (by assumption) ?_
      rotate_left 1
      · intro W' hSw
        obtain ⟨hS1, hS2, hS3⟩ := hSw
        go_simp
        try with_reducible rfl
      try simp only [Act.put, List.setIfInBounds_toArray, List.set_cons_zero, List.set_cons_succ]
      refine wpAnyH_take (i := 13) (oi := ⟨_, _, _, _, _, _⟩) (v := ?_) rfl (by kernel_rfl) (by kernel_rfl) (by kernel_rfl) (fun _ _ _ h => h) (Or.inl ⟨by rfl, ?_⟩) (by assumption) ?_
      rotate_left 1
      · intro W' hSw
        obtain ⟨hS1, hS2, hS3⟩ := hSw
        go_simp
        try with_reducible rfl
      try simp only [Act.put, List.setIfInBounds_toArray, List.set_cons_zero, List.set_cons_succ]
      refine wpAnyH_done (by kernel_rfl) ?_ _
      go_wp2_with fail
      try go_ret2
      refine ret_cell_tmp (C := e.enc) rfl rfl rfl HB.out (by kernel_rfl) (by rw [Env.length_enc]; kernel_rfl) rfl ?_
      exact HP.out
    · have HU' : Hid (uniF a row (c + 1) s = some (eU e vi rv)) := by show _ = _; rw [hs1, if_pos rfl, if_neg hbad]
      obtain ⟨e', he'⟩ : ∃ e', e' = eU e vi rv := ⟨_, rfl⟩
      rw [← he'] at HU' hep
      have HV' : Hid (W.Extends (put V.drew b7 e'.enc) ∧ blk (put V.drew b7 e'.enc) b4 = some a.enc ∧ blk (put V.drew b7 e'.enc) b6 = some (arr i64v row) ∧ blk (put V.drew b7 e'.enc) b7 = some e'.enc ∧ free (put V.drew b7 e'.enc) b7 = true ∧ blk (put V.drew b7 e'.enc) b8 = some Env.zero.enc ∧ free (put V.drew b7 e'.enc) b8 = true) := by
        refine ⟨extends_put hd hn_b7 _, by rw [blk_put, if_neg n_b4_b7]; exact hb4, by rw [blk_put, if_neg n_b6_b7]; exact hb6, ?_, by rw [free_put]; exact hf7, by rw [blk_put, if_neg n_b8_b7]; exact hb8, by rw [free_put]; exact hf8⟩
        rw [blk_put, if_pos rfl, hb7d]; rfl
      clear HV hx hd HU HEND hs1 hnone hsb hsv he' hb8 hf8
      cases sb
      · clear hbad
        go_upto_region 8 with fail
        refine wp_region_held_drew (S := fun W' => blk W' b4 = some a.enc ∧ blk W' b6 = some (arr i64v row) ∧ blk W' b7 = some e.enc) (by kernel_rfl) ⟨hb4, hb6, hb7⟩ (fun hHeld => ?_)
        refine wpAnyH_take (i := 0) (oi := ⟨_, _, _, _, _, _⟩) (v := ?_) rfl (by kernel_rfl) (by kernel_rfl) (by kernel_rfl) (fun _ _ _ h => h) (Or.inl ⟨by rfl, ?_⟩) (by assumption) ?_
        rotate_left 1
        · intro W' hSw
          obtain ⟨hS1, hS2, hS3⟩ := hSw
          go_simp
          try with_reducible rfl
        try simp only [Act.put, List.setIfInBounds_toArray, List.set_cons_zero, List.set_cons_succ]
        refine wpAnyH_take (i := 1) (oi := ⟨_, _, _, _, _, _⟩) (v := ?_) rfl (by kernel_rfl) (by kernel_rfl) (by kernel_rfl) (fun _ _ _ h => h) (Or.inl ⟨by rfl, ?_⟩) (by assumption) ?_
        rotate_left 1
        · intro W' hSw
          obtain ⟨hS1, hS2, hS3⟩ := hSw
          go_simp
          try with_reducible rfl
        try simp only [Act.put, List.setIfInBounds_toArray, List.set_cons_zero, List.set_cons_succ]
        refine wpAnyH_take (i := 2) (oi := ⟨_, _, _, _, _, _⟩) (v := ?_) rfl (by kernel_rfl) (by kernel_rfl) (by kernel_rfl) (fun _ _ _ h => h) (Or.inl ⟨by rfl, ?_⟩) (by assumption) ?_
        rotate_left 1
        · intro W' hSw
          obtain ⟨hS1, hS2, hS3⟩ := hSw
          go_simp
          try with_reducible rfl
        try simp only [Act.put, List.setIfInBounds_toArray, List.set_cons_zero, List.set_cons_succ]
        refine wpAnyH_take (i := 3) (oi := ⟨_, _, _, _, _, _⟩) (v := ?_) rfl (by kernel_rfl) (by kernel_rfl) (by kernel_rfl) (fun _ _ _ h => h) (Or.inl ⟨by rfl, ?_⟩) (by assumption) ?_
        rotate_left 1
        · intro W' hSw
          obtain ⟨hS1, hS2, hS3⟩ := hSw
          go_simp
          try with_reducible rfl
        try simp only [Act.put, List.setIfInBounds_toArray, List.set_cons_zero, List.set_cons_succ]
        refine wpAnyH_take (i := 4) (oi := ⟨_, _, _, _, _, _⟩) (v := ?_) rfl (by kernel_rfl) (by kernel_rfl) (by kernel_rfl) (fun _ _ _ h => h) (Or.inl ⟨by rfl, ?_⟩) (by assumption) ?_
        rotate_left 1
        · intro W' hSw
          obtain ⟨hS1, hS2, hS3⟩ := hSw
          go_simp
          try with_reducible rfl
        try simp only [Act.put, List.setIfInBounds_toArray, List.set_cons_zero, List.set_cons_succ]
        refine wpAnyH_take (i := 5) (oi := ⟨_, _, _, _, _, _⟩) (v := undef) rfl (by kernel_rfl) (by kernel_rfl) (by kernel_rfl) (fun _ _ _ h => h) (Or.inr ⟨by rfl, rfl⟩) (by assumption) ?_
        try simp only [Act.put, List.setIfInBounds_toArray, List.set_cons_zero, List.set_cons_succ]
        refine wpAnyH_take (i := 6) (oi := ⟨_, _, _, _, _, _⟩) (v := undef) rfl (by kernel_rfl) (by kernel_rfl) (by kernel_rfl) (fun _ _ _ h => h) (Or.inr ⟨by rfl, rfl⟩) (by assumption) ?_
        try simp only [Act.put, List.setIfInBounds_toArray, List.set_cons_zero, List.set_cons_succ]
        refine wpAnyH_take (i := 7) (oi := ⟨_, _, _, _, _, _⟩) (v := undef) rfl (by kernel_rfl) (by kernel_rfl) (by kernel_rfl) (fun _ _ _ h => h) (Or.inr ⟨by rfl, rfl⟩) (by assumption) ?_
        try simp only [Act.put, List.setIfInBounds_toArray, List.set_cons_zero, List.set_cons_succ]
        refine wpAnyH_take (i := 8) (oi := ⟨_, _, _, _, _, _⟩) (v := undef) rfl (by kernel_rfl) (by kernel_rfl) (by kernel_rfl) (fun _ _ _ h => h) (Or.inr ⟨by rfl, rfl⟩) (by assumption) ?_
        try simp only [Act.put, List.setIfInBounds_toArray, List.set_cons_zero, List.set_cons_succ]
        refine wpAnyH_take (i := 9) (oi := ⟨_, _, _, _, _, _⟩) (v := undef) rfl (by kernel_rfl) (by kernel_rfl) (by kernel_rfl) (fun _ _ _ h => h) (Or.inr ⟨by rfl, rfl⟩) (by assumption) ?_
        try simp only [Act.put, List.setIfInBounds_toArray, List.set_cons_zero, List.set_cons_succ]
        refine wpAnyH_take (i := 10) (oi := ⟨_, _, _, _, _, _⟩) (v := undef) rfl (by kernel_rfl) (by kernel_rfl) (by kernel_rfl) (fun _ _ _ h => h) (Or.inr ⟨by rfl, rfl⟩) (by assumption) ?_
        try simp only [Act.put, List.setIfInBounds_toArray, List.set_cons_zero, List.set_cons_succ]
        refine wpAnyH_take (i := 11) (oi := ⟨_, _, _, _, _, _⟩) (v := undef) rfl (by kernel_rfl) (by kernel_rfl) (by kernel_rfl) (fun _ _ _ h => h) (Or.inr ⟨by rfl, rfl⟩) (by assumption) ?_
        try simp only [Act.put, List.setIfInBounds_toArray, List.set_cons_zero, List.set_cons_succ]
        refine wpAnyH_take (i := 12) (oi := ⟨_, _, _, _, _, _⟩) (v := undef) rfl (by kernel_rfl) (by kernel_rfl) (by kernel_rfl) (fun _ _ _ h => h) (Or.inr ⟨by rfl, rfl⟩) (by assumption) ?_
        try simp only [Act.put, List.setIfInBounds_toArray, List.set_cons_zero, List.set_cons_succ]
        refine wpAnyH_take (i := 13) (oi := ⟨_, _, _, _, _, _⟩) (v := ?_) rfl (by kernel_rfl) (by kernel_rfl) (by kernel_rfl) (fun _ _ _ h => h) (Or.inl ⟨by rfl, ?_⟩) (by assumption) ?_
        rotate_left 1
        · intro W' hSw
          obtain ⟨hS1, hS2, hS3⟩ := hSw
          go_simp
          try with_reducible rfl
        try simp only [Act.put, List.setIfInBounds_toArray, List.set_cons_zero, List.set_cons_succ]
        refine wpAnyH_done (by kernel_rfl) ?_ _
        go_wp2_with fail
        refine ⟨rfl, rfl, ⟨rfl, rfl, rfl, rfl, rfl, c + 1, _, by omega, ?_, HU', HV'⟩, ?_⟩
        · show Value.int .i64 _ = _
          go_num
        · show ar - (intOf (Value.int .i64 _)).toNat < ar - (intOf (F 10)).toNat
          rw [H10.out]
          simp [intOf]; omega
      · have hve : sv = rv := by
          by_cases h : sv = rv
          · exact h
          · exact absurd ⟨rfl, h⟩ hbad
        clear hbad
        subst hve
        have hnb : (sv != sv) = false := by simp
        go_upto_region 8 with fail
        refine wp_region_held_drew (S := fun W' => blk W' b4 = some a.enc ∧ blk W' b6 = some (arr i64v row) ∧ blk W' b7 = some e.enc) (by kernel_rfl) ⟨hb4, hb6, hb7⟩ (fun hHeld => ?_)
        refine wpAnyH_take (i := 0) (oi := ⟨_, _, _, _, _, _⟩) (v := ?_) rfl (by kernel_rfl) (by kernel_rfl) (by kernel_rfl) (fun _ _ _ h => h) (Or.inl ⟨by rfl, ?_⟩) (by assumption) ?_
        rotate_left 1
        · intro W' hSw
          obtain ⟨hS1, hS2, hS3⟩ := hSw
          go_simp
          try with_reducible rfl
        try simp only [Act.put, List.setIfInBounds_toArray, List.set_cons_zero, List.set_cons_succ]
        refine wpAnyH_take (i := 1) (oi := ⟨_, _, _, _, _, _⟩) (v := ?_) rfl (by kernel_rfl) (by kernel_rfl) (by kernel_rfl) (fun _ _ _ h => h) (Or.inl ⟨by rfl, ?_⟩) (by assumption) ?_
        rotate_left 1
        · intro W' hSw
          obtain ⟨hS1, hS2, hS3⟩ := hSw
          go_simp
          try with_reducible rfl
        try simp only [Act.put, List.setIfInBounds_toArray, List.set_cons_zero, List.set_cons_succ]
        refine wpAnyH_take (i := 2) (oi := ⟨_, _, _, _, _, _⟩) (v := ?_) rfl (by kernel_rfl) (by kernel_rfl) (by kernel_rfl) (fun _ _ _ h => h) (Or.inl ⟨by rfl, ?_⟩) (by assumption) ?_
        rotate_left 1
        · intro W' hSw
          obtain ⟨hS1, hS2, hS3⟩ := hSw
          go_simp
          try with_reducible rfl
        try simp only [Act.put, List.setIfInBounds_toArray, List.set_cons_zero, List.set_cons_succ]
        refine wpAnyH_take (i := 3) (oi := ⟨_, _, _, _, _, _⟩) (v := ?_) rfl (by kernel_rfl) (by kernel_rfl) (by kernel_rfl) (fun _ _ _ h => h) (Or.inl ⟨by rfl, ?_⟩) (by assumption) ?_
        rotate_left 1
        · intro W' hSw
          obtain ⟨hS1, hS2, hS3⟩ := hSw
          go_simp
          try with_reducible rfl
        try simp only [Act.put, List.setIfInBounds_toArray, List.set_cons_zero, List.set_cons_succ]
        refine wpAnyH_take (i := 4) (oi := ⟨_, _, _, _, _, _⟩) (v := ?_) rfl (by kernel_rfl) (by kernel_rfl) (by kernel_rfl) (fun _ _ _ h => h) (Or.inl ⟨by rfl, ?_⟩) (by assumption) ?_
        rotate_left 1
        · intro W' hSw
          obtain ⟨hS1, hS2, hS3⟩ := hSw
          go_simp
          try with_reducible rfl
        try simp only [Act.put, List.setIfInBounds_toArray, List.set_cons_zero, List.set_cons_succ]
        refine wpAnyH_take (i := 5) (oi := ⟨_, _, _, _, _, _⟩) (v := ?_) rfl (by kernel_rfl) (by kernel_rfl) (by kernel_rfl) (fun _ _ _ h => h) (Or.inl ⟨by rfl, ?_⟩) (by assumption) ?_
        rotate_left 1
        · intro W' hSw
          obtain ⟨hS1, hS2, hS3⟩ := hSw
          go_simp
          try with_reducible rfl
        try simp only [Act.put, List.setIfInBounds_toArray, List.set_cons_zero, List.set_cons_succ]
        refine wpAnyH_take (i := 6) (oi := ⟨_, _, _, _, _, _⟩) (v := ?_) rfl (by kernel_rfl) (by kernel_rfl) (by kernel_rfl) (fun _ _ _ h => h) (Or.inl ⟨by rfl, ?_⟩) (by assumption) ?_
        rotate_left 1
        · intro W' hSw
          obtain ⟨hS1, hS2, hS3⟩ := hSw
          go_simp
          try with_reducible rfl
        try simp only [Act.put, List.setIfInBounds_toArray, List.set_cons_zero, List.set_cons_succ]
        refine wpAnyH_take (i := 7) (oi := ⟨_, _, _, _, _, _⟩) (v := ?_) rfl (by kernel_rfl) (by kernel_rfl) (by kernel_rfl) (fun _ _ _ h => h) (Or.inl ⟨by rfl, ?_⟩) (by assumption) ?_
        rotate_left 1
        · intro W' hSw
          obtain ⟨hS1, hS2, hS3⟩ := hSw
          go_simp
          try with_reducible rfl
        try simp only [Act.put, List.setIfInBounds_toArray, List.set_cons_zero, List.set_cons_succ]
        refine wpAnyH_take (i := 8) (oi := ⟨_, _, _, _, _, _⟩) (v := ?_) rfl (by kernel_rfl) (by kernel_rfl) (by kernel_rfl) (fun _ _ _ h => h) (Or.inl ⟨by rfl, ?_⟩) (by assumption) ?_
        rotate_left 1
        · intro W' hSw
          obtain ⟨hS1, hS2, hS3⟩ := hSw
          go_simp
          try with_reducible rfl
        try simp only [Act.put, List.setIfInBounds_toArray, List.set_cons_zero, List.set_cons_succ]
        refine wpAnyH_take (i := 9) (oi := ⟨_, _, _, _, _, _⟩) (v := ?_) rfl (by kernel_rfl) (by kernel_rfl) (by kernel_rfl) (fun _ _ _ h => h) (Or.inl ⟨by rfl, ?_⟩) (by assumption) ?_
        rotate_left 1
        · intro W' hSw
          obtain ⟨hS1, hS2, hS3⟩ := hSw
          go_simp
          try with_reducible rfl
        try simp only [Act.put, List.setIfInBounds_toArray, List.set_cons_zero, List.set_cons_succ]
        refine wpAnyH_take (i := 10) (oi := ⟨_, _, _, _, _, _⟩) (v := ?_) rfl (by kernel_rfl) (by kernel_rfl) (by kernel_rfl) (fun _ _ _ h => h) (Or.inl ⟨by rfl, ?_⟩) (by assumption) ?_
        rotate_left 1
        · intro W' hSw
          obtain ⟨hS1, hS2, hS3⟩ := hSw
          go_simp
          try with_reducible rfl
        try simp only [Act.put, List.setIfInBounds_toArray, List.set_cons_zero, List.set_cons_succ]
        refine wpAnyH_take (i := 11) (oi := ⟨_, _, _, _, _, _⟩) (v := ?_) rfl (by kernel_rfl) (by kernel_rfl) (by kernel_rfl) (fun _ _ _ h => h) (Or.inl ⟨by rfl, ?_⟩) (by assumption) ?_
        rotate_left 1
        · intro W' hSw
          obtain ⟨hS1, hS2, hS3⟩ := hSw
          go_simp
          try with_reducible rfl
        try simp only [Act.put, List.setIfInBounds_toArray, List.set_cons_zero, List.set_cons_succ]
        refine wpAnyH_take (i := 12) (oi := ⟨_, _, _, _, _, _⟩) (v := ?_) rfl (by kernel_rfl) (by kernel_rfl) (by kernel_rfl) (fun _ _ _ h => h) (Or.inl ⟨by rfl, ?_⟩) (by assumption) ?_
        rotate_left 1
        · intro W' hSw
          obtain ⟨hS1, hS2, hS3⟩ := hSw
          go_simp
          try with_reducible rfl
        try simp only [Act.put, List.setIfInBounds_toArray, List.set_cons_zero, List.set_cons_succ]
        refine wpAnyH_take (i := 13) (oi := ⟨_, _, _, _, _, _⟩) (v := ?_) rfl (by kernel_rfl) (by kernel_rfl) (by kernel_rfl) (fun _ _ _ h => h) (Or.inl ⟨by rfl, ?_⟩) (by assumption) ?_
        rotate_left 1
        · intro W' hSw
          obtain ⟨hS1, hS2, hS3⟩ := hSw
          go_simp
          try with_reducible rfl
        try simp only [Act.put, List.setIfInBounds_toArray, List.set_cons_zero, List.set_cons_succ]
        refine wpAnyH_done (by kernel_rfl) ?_ _
        go_wp2_with fail
        refine ⟨rfl, rfl, ⟨rfl, rfl, rfl, rfl, rfl, c + 1, _, by omega, ?_, HU', HV'⟩, ?_⟩
        · show Value.int .i64 _ = _
          go_num
        · show ar - (intOf (Value.int .i64 _)).toNat < ar - (intOf (F 10)).toNat
          rw [H10.out]
          simp [intOf]; omega
end Go.Proofs.Qxb6500788a
