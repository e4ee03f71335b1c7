import Derived.Test.Qxb6500788aQc
import Derived.Test.Qxb6500788aNf
import Derived.StillTailTactics
import Derived.Deep.QuietTactic
import Derived.BigQuiet
import Derived.Deep.RegionHeld
import Derived.Deep.CutRange
import Derived.Laws.ResultCell
import Derived.Laws.Rows
import Derived.DeepKeys
import Derived.DataBytes
import Derived.Laws.StructEq
import Derived.Laws.AppendOwn
import Derived.Laws.MakeOwn
set_option linter.unusedSimpArgs false
set_option linter.unusedVariables false
namespace Go.Proofs.Qxb6500788a
open Go.RowKit Go.Blk
attribute [local go_sem ↓] execOp_load execOp_store execOp_alloc
attribute [local go_sem] Try.ld24 Try.st24 Try.ld25 Try.st25 Try.ld3 Try.st3 Try.ld30 Try.st30 Try.ld36 Try.st36 Try.ld4 Try.st4 Try.ld41 Try.st41 Try.ld50 Try.st50 Try.ld40 Try.st40 Try.ld42 Try.st42 Try.ld89 Try.st89 Try.ld91 Try.st91 Try.ld56 Try.st56 Try.ld97 Try.st97 Try.ld98 Try.st98 Try.ld101 Try.st101 Try.ld104 Try.st104 Try.ld57 Try.st57 Try.ld130 Try.st130 Try.ld2 Try.st2 Try.ld5 Try.st5 Try.ld9 Try.st9 Try.ld12 Try.st12 Try.ld21 Try.st21 Try.ld22 Try.st22 Try.ld29 Try.st29 Try.ld33 Try.st33 Try.ld59 Try.st59 Try.ld62 Try.st62 Try.ld69 Try.st69 Try.ld94 Try.st94 Try.ld96 Try.st96 Try.ld129 Try.st129 Try.ld158 Try.st158 Try.ld162 Try.st162 Try.ld47 Try.st47 Try.ld44 Try.st44 Try.ld137 Try.st137 Try.ld145 Try.st145 Try.ld43 Try.st43 Try.ld27 Try.st27 Try.ld38 Try.st38 Try.ld46 Try.st46 Try.ld49 Try.st49 Try.ld52 Try.st52 Try.ld54 Try.st54 Try.ld61 Try.st61 Try.ld80 Try.st80 Try.ld87 Try.st87 Try.ld93 Try.st93 Try.ld100 Try.st100 Try.ld103 Try.st103 Try.ld106 Try.st106 Try.ld109 Try.st109 Try.ld132 Try.st132 Try.ld147 Try.st147 Try.al47 Try.al44 Try.al137 Try.al145 Try.al43 Try.al27 Try.al38 Try.al46 Try.al49 Try.al52 Try.al54 Try.al61 Try.al80 Try.al87 Try.al93 Try.al100 Try.al103 Try.al106 Try.al109 Try.al132 Try.al147
attribute [local go_sem] GProgram.length_enc GProgram.ok_enc GProgram.all_get GProgram.all_set GProgram.preds_get GProgram.preds_set GProgram.rules_get GProgram.rules_set GProgram.strata_get GProgram.strata_set Answer.length_enc Answer.ok_enc Answer.all_get Answer.all_set Answer.code_get Answer.code_set Answer.n_get Answer.n_set Answer.rows_get Answer.rows_set Term.length_enc Term.ok_enc Term.all_get Term.all_set Term.var_get Term.var_set Term.n_get Term.n_set Atom.length_enc Atom.ok_enc Atom.all_get Atom.all_set Atom.pred_get Atom.pred_set Atom.args_get Atom.args_set GRule.length_enc GRule.ok_enc GRule.all_get GRule.all_set GRule.head_get GRule.head_set GRule.body_get GRule.body_set GRule.head_pred_get GRule.head_pred_set GRule.head_args_get GRule.head_args_set GOp.length_enc GOp.ok_enc GOp.all_get GOp.all_set GOp.kind_get GOp.kind_set GOp.pred_get GOp.pred_set GOp.t_get GOp.t_set GOp.n_get GOp.n_set GOp.base_get GOp.base_set GOp.rule_get GOp.rule_set GOp.rule_head_get GOp.rule_head_set GOp.rule_body_get GOp.rule_body_set GOp.rule_head_pred_get GOp.rule_head_pred_set GOp.rule_head_args_get GOp.rule_head_args_set PredInfo.length_enc PredInfo.ok_enc PredInfo.all_get PredInfo.all_set PredInfo.arity_get PredInfo.arity_set PredInfo.base_get PredInfo.base_set PredInfo.stratum_get PredInfo.stratum_set GStats.length_enc GStats.ok_enc GStats.all_get GStats.all_set GStats.rounds_get GStats.rounds_set GStats.fired_get GStats.fired_set GStats.emitted_get GStats.emitted_set GStats.fresh_get GStats.fresh_set Literal.length_enc Literal.ok_enc Literal.all_get Literal.all_set Literal.neg_get Literal.neg_set Literal.atom_get Literal.atom_set Literal.atom_pred_get Literal.atom_pred_set Literal.atom_args_get Literal.atom_args_set Engine.length_enc Engine.ok_enc Engine.all_get Engine.all_set Engine.prog_get Engine.prog_set Engine.st_get Engine.st_set Engine.levels_get Engine.levels_set Engine.running_get Engine.running_set Engine.stratum_get Engine.stratum_set Engine.round_get Engine.round_set Engine.saved_get Engine.saved_set Engine.stats_get Engine.stats_set Engine.prog_preds_get Engine.prog_preds_set Engine.prog_rules_get Engine.prog_rules_set Engine.prog_strata_get Engine.prog_strata_set Engine.stats_rounds_get Engine.stats_rounds_set Engine.stats_fired_get Engine.stats_fired_set Engine.stats_emitted_get Engine.stats_emitted_set Engine.stats_fresh_get Engine.stats_fresh_set Level.length_enc Level.ok_enc Level.all_get Level.all_set Level.heads_get Level.heads_set Level.jobs_get Level.jobs_set Plan.length_enc Plan.ok_enc Plan.all_get Plan.all_set Plan.rule_get Plan.rule_set Plan.delta_get Plan.delta_set Plan.src_get Plan.src_set Job.length_enc Job.ok_enc Job.all_get Job.all_set Job.full_get Job.full_set Job.deltas_get Job.deltas_set Job.full_rule_get Job.full_rule_set Job.full_delta_get Job.full_delta_set Job.full_src_get Job.full_src_set GState.length_enc GState.ok_enc GState.all_get GState.all_set GState.prog_get GState.prog_set GState.base_get GState.base_set GState.shown_get GState.shown_set GState.prog_preds_get GState.prog_preds_set GState.prog_rules_get GState.prog_rules_set GState.prog_strata_get GState.prog_strata_set Store.length_enc Store.ok_enc Store.all_get Store.all_set Store.arity_get Store.arity_set Store.rows_get Store.rows_set Env.length_enc Env.ok_enc Env.all_get Env.all_set Env.val_get Env.val_set Env.set_get Env.set_set
attribute [local go_sem] size_put size_ext blk_put free_put blk_alloc free_alloc blk_drew free_drew blk_ext free_ext lookOr_some putOr_some segAt_some cellAt_some storeIn_some put_put put_alloc_new length_arr ok_arr_u8 ok_arr_u32 ok_arr_u64 ok_arr_i64 ok_arr_sl cellsV_agg cellsV_int cellsV_bool cellsV_string cellsV_pointer cellsV_slice cellsV_sl ok_int ok_bool ok_string ok_pointer ok_slice ok_sl toList_arr seg_arr set_arr nth_splice nth_splice0 seg_splice seg_splice0 splice_splice splice_splice0 length_splice_if
attribute [local go_sem ↓] execOp_box
attribute [local go_sem] box_run nth_arr_u8 put_arr_u8 blk_drewN free_drewN put_drewN blk_raw free_raw
theorem make57 (w : World) (n : Nat) (hn : n ≤ 100) : (makeOp 57 (.int .i64 (n : Int)) (.int .i64 (n : Int))).run Try.prog w = .ok (.value (.slice (some ⟨w.heap.size, 0, none⟩) n n)) (w.alloc (.cells (Array.replicate n (Value.slice none 0 0)) 36)) := by
  obtain ⟨i, hi, hz, hsz, hby⟩ : ∃ i, Try.prog.info? 36 = some i ∧ i.zero = some (.slice none 0 0) ∧ i.size = 1 ∧ i.bytes = 24 := by
    have hq : (Try.prog.info? 36).map (fun i => (i.zero, i.size, i.bytes)) = some (some (.slice none 0 0), 1, 24) := by kernel_rfl
    cases hx : Try.prog.info? 36 with
    | none => rw [hx] at hq; simp at hq
    | some i =>
      rw [hx] at hq
      simp only [Option.map_some, Option.some.injEq, Prod.mk.injEq] at hq
      exact ⟨i, rfl, hq.1, hq.2.1, hq.2.2⟩
  have hr := run_make (P := Try.prog) w 57 36 i _ Try.underlying57 hi hz .i64 .i64 (n : Int) (n : Int) (by omega) (by omega) (by rw [hby]; omega) (by omega)
  have hC := rep_cells n (madeCells (Value.slice none 0 0).cells (n * 1)).toList (by rw [Array.length_toList, size_madeCells, Nat.mul_one]) (fun k hk => by
    unfold nth madeCells
    rw [Array.getElem?_toList, Array.getElem?_map, Array.getElem?_range]
    simp only [Nat.mul_one, hk, if_true, Option.map_some]
    simp [Value.cells, Nat.mod_one])
  have hC2 : madeCells (Value.slice none 0 0).cells (n * 1) = Array.replicate n (Value.slice none 0 0) := by
    rw [← List.toArray_replicate, ← hC, Array.toArray_toList]
  unfold makeOp
  rw [Sem.run_bind, hr, hsz, Int.toNat_natCast, hC2]
  rfl
theorem splice_mid (A R : List Value) (v u : Value) : splice (A ++ v :: R) A.length [u] = A ++ u :: R := by
  unfold splice
  rw [List.take_left', show A.length + [u].length = A.length + 1 from rfl, ← List.drop_drop, List.drop_left']
  · rw [List.append_assoc]; rfl
  · rfl
  · rfl
theorem seg_nth1 {C : List Value} {i : Nat} {v : Value} (h : nth C i = some v) : seg C i 1 = [v] := by
  unfold nth at h
  unfold seg
  obtain ⟨hi, e⟩ := List.getElem?_eq_some_iff.1 h
  rw [List.drop_eq_getElem_cons hi, e]
  rfl
/-- Rows of rows, read. -/
def RelR (W : World) (a : Option Addr) (n : Nat) (T : Nat → List Tup) : Prop := ∃ Ds : List Sl, Rw slE 1 W a n Ds ∧ ∀ (q : Nat) (d : Sl), Ds[q]? = some d → Rw tpl 4 W d.a d.len (T q)
theorem RelR.ext {W W' : World} {a : Option Addr} {n : Nat} {T : Nat → List Tup} (h : RelR W a n T) (he : W.Extends W') : RelR W' a n T := by
  obtain ⟨Ds, h1, h2⟩ := h
  exact ⟨Ds, h1.grow he, fun q d hd => (h2 q d hd).grow he⟩
def LaI (W : World) (bo n : Nat) (T : Nat → List Tup) (i : Nat) (V : World) : Prop := W.Extends V ∧ ∃ Ds : List Sl, Ds.length = i ∧ blk V bo = some (Ds.flatMap slE ++ List.replicate (n - i) (.slice none 0 0)) ∧ free V bo = true ∧ ∀ (q : Nat) (d : Sl), Ds[q]? = some d → Rw tpl 4 V d.a d.len (T q) ∧ ∀ b, d.a = some ⟨b, 0, none⟩ → bo < b
def laI (W : World) (be bpr bo n : Nat) (T : Nat → List Tup) (f : Nat → Value) (V : World) : Prop := f 0 = .pointer (some ⟨be, 0, none⟩) ∧ f 1 = .pointer (some ⟨bpr, 0, none⟩) ∧ f 5 = .slice (some ⟨bo, 0, none⟩) n n ∧ ∃ i : Nat, i ≤ n ∧ f 6 = .int .i64 (i : Nat) ∧ Hid (LaI W bo n T i V)
theorem flat_sl (Ds : List Sl) : (Ds.flatMap slE).length = Ds.length := by
  induction Ds with
  | nil => rfl
  | cons d Ds ih => rw [List.flatMap_cons, List.length_append, ih]; show 1 + _ = _; rw [List.length_cons]; omega
theorem flat_at (Ds : List Sl) (i : Nat) (d : Sl) (h : Ds[i]? = some d) (R : List Value) : nth (Ds.flatMap slE ++ R) i = some (Sl.val d) := by
  induction Ds generalizing i with
  | nil => cases h
  | cons e Ds ih =>
    cases i with
    | zero =>
      have : e = d := Option.some.inj h
      subst this; rfl
    | succ i => exact ih i h
theorem LaI.app {W V V1 : World} {bo n : Nat} {T : Nat → List Tup} {i : Nat} (h : LaI W bo n T i V) (hin : i < n) (hwb : W.heap.size ≤ bo) {a : Option Addr} {m c : Nat} (ho : Outs V V1 a m c (T i)) : ∃ C, blk V1 bo = some C ∧ free V1 bo = true ∧ i + 1 ≤ C.length ∧ LaI W bo n T (i + 1) (put V1 bo (splice C i [.slice a m c])) := by
  obtain ⟨hx, Ds, hl, hb, hf, hr⟩ := h
  have hb1 := (ho.2.1.blk (blk_lt hb)).trans hb
  have hf1 := (free_of_heap (ho.2.1.block bo (blk_lt hb))).trans hf
  have hlt := blk_lt hb
  refine ⟨_, hb1, hf1, by rw [List.length_append, flat_sl, List.length_replicate]; omega, ?_, Ds ++ [⟨a, m, c⟩], by simp [hl], ?_, by rw [free_put]; exact hf1, fun q d hd => ?_⟩
  · exact extends_put (hx.trans ho.2.1) hwb _
  · rw [blk_put, if_pos rfl, hb1]
    show some _ = some _
    congr 1
    rw [show n - i = (n - (i + 1)) + 1 by omega, List.replicate_succ, List.flatMap_append]
    have e : (Ds.flatMap slE).length = i := by rw [flat_sl, hl]
    have h9 := splice_mid (Ds.flatMap slE) (List.replicate (n - (i + 1)) (.slice none 0 0)) (.slice none 0 0) (.slice a m c)
    rw [e] at h9
    rw [h9, List.append_assoc]
    rfl
  · have hnb : ∀ (d : Sl) (L : List Tup), Rw tpl 4 V1 d.a d.len L → (∀ b, d.a = some ⟨b, 0, none⟩ → bo < b) → ∀ D, Rw tpl 4 (put V1 bo D) d.a d.len L := fun d L hw hbo D => ⟨hw.1, fun j y hy => by
      obtain ⟨b, C, g1, g2, g3⟩ := hw.2 j y hy
      exact ⟨b, C, g1, by rw [blk_put, if_neg (by have := hbo b g1; omega)]; exact g2, g3⟩⟩
    by_cases hq : q < Ds.length
    · rw [List.getElem?_append_left hq] at hd
      obtain ⟨r1, r2⟩ := hr q d hd
      exact ⟨hnb d _ (r1.grow ho.2.1) r2 _, r2⟩
    · have hl2 := (List.getElem?_eq_some_iff.1 hd).1
      rw [List.length_append, List.length_singleton] at hl2
      obtain rfl : q = Ds.length := by omega
      rw [List.getElem?_append_right (Nat.le_refl _), Nat.sub_self] at hd
      have e1 : (⟨a, m, c⟩ : Sl) = d := Option.some.inj hd
      subst e1
      rw [hl]
      have hb9 : ∀ b, a = some ⟨b, 0, none⟩ → bo < b := fun b e => by
        have := (row_at ho.1 b (by rw [e]; rfl)).1
        omega
      exact ⟨hnb _ _ (outs_rw ho).1 hb9 _, hb9⟩
set_option maxRecDepth 100000 in
theorem frame32l (f : Nat → Value) : frameN 32 f = #[f 0, f 1, f 2, f 3, f 4, f 5, f 6, f 7, f 8, f 9, f 10, f 11, f 12, f 13, f 14, f 15, f 16, f 17, f 18, f 19, f 20, f 21, f 22, f 23, f 24, f 25, f 26, f 27, f 28, f 29, f 30, f 31] := by kernel_rfl
attribute [local go_sem ↓] execOp_make
set_option maxRecDepth 20000 in
set_option maxHeartbeats 2000000 in
theorem listAll_any (B : Nat) (O : Own) (W : World) (g be : Nat) (p : Pg) (x : Engine) (S sav : List (List Tup)) (hE : EAt B O W g be p x S sav) (hok : PgOk p) (hl : S.length = 3 * p.P.length) (hS : SOk S) (bpr : Nat) (Cp : List Value) (aP : Option Addr) (cP : Nat) (hbp : blk W bpr = some Cp) (hcp : nth Cp 0 = some (.slice aP p.P.length cP)) (hcl : 1 ≤ Cp.length) :
    Calls Try.prog 16 #[.pointer (some ⟨be, 0, none⟩), .pointer (some ⟨bpr, 0, none⟩)] W fun e V => ∃ a c, e = .returned (.slice a p.P.length c) ∧ W.Extends V ∧ RelR V a p.P.length (fun q => rowsAt S (3 * q)) := by
  obtain ⟨Q, hQ⟩ : ∃ Q, Q = (fun e V => ∃ a c, e = .returned (.slice a p.P.length c) ∧ W.Extends V ∧ RelR V a p.P.length (fun q => rowsAt S (3 * q)) : Ending → World → Prop) := ⟨_, rfl⟩
  rw [← hQ]
  have HQ := hid_of hQ
  have h64 := hok.nP
  have HE := hid_of hE
  have HOK := hid_of hok
  have HL := hid_of hl
  have HS := hid_of hS
  have hmk := make57 W p.P.length (by omega)
  have hcl' : 0 < Cp.length := by omega
  have lbp := blk_lt hbp
  have nbp : ¬ bpr = W.heap.size := by omega
  have HBP := hid_of hbp
  clear hQ hE hok hl hS lbp hcl
  go_enter Try.func16, Try.ntmps16
  go_upto_region 3 with fail
  refine wp_world (fun V => LaI W W.heap.size p.P.length (fun q => rowsAt S (3 * q)) 0 V) ?_ ?_
  · refine ⟨extends_alloc (ext_Ext (Ext.refl _)) _, [], rfl, ?_, ?_, fun q d hd => by (cases hd)⟩
    · rw [← List.toArray_replicate, blk_alloc, if_pos rfl]; rfl
    · rw [free_alloc, if_pos rfl]
  rintro V0 hI0
  have HI0 := hid_of hI0
  obtain ⟨bo, hbo⟩ : ∃ bo, bo = W.heap.size := ⟨_, rfl⟩
  rw [← hbo] at HI0 ⊢
  have hwb : W.heap.size ≤ bo := by omega
  have hpbo : ¬ bpr = bo := by rw [hbo]; exact nbp
  clear hI0 hbo hmk nbp hbp
  refine wp_loop_f 32 (laI W be bpr bo p.P.length (fun q => rowsAt S (3 * q))) (fun f _ => p.P.length - (intOf (f 6)).toNat) rfl ⟨rfl, rfl, rfl, 0, by omega, rfl, HI0⟩ ?_
  clear HI0
  intro F V hrel
  obtain ⟨f0, f1, f5, i, hi, f6, HI⟩ := hrel
  have H6 := hid_of f6
  rw [frame32l, f0, f1, f5, f6]
  clear f0 f1 f5 f6
  have hxW := HI.out.1
  have hb : blk V bpr = some Cp := (hxW.blk (blk_lt HBP.out)).trans HBP.out
  by_cases hin : i < p.P.length
  · have hin' : (i : Int) < (p.P.length : Int) := by omega
    have hls := listE_any B O V g be p x S sav (HE.out.ext hxW) HOK.out HL.out HS.out (i : Int)
    have HLS := hid_of hls
    have i0 : (0 : Int) ≤ (i : Int) := by omega
    have i2 : ((i : Int)).toNat = i := by omega
    have HIN : Hid (inT p (i : Int)) := ⟨by omega, by omega⟩
    clear hls hxW
    go_wp2_with fail
    refine HLS.out.mono ?_
    rintro e V1 ⟨a, m, c, rfl, ho⟩
    rw [if_pos HIN.out, Int.toNat_natCast] at ho
    obtain ⟨C, hC, hCf, hCl, hI'⟩ := HI.out.app hin hwb ho
    have HI' := hid_of hI'
    obtain ⟨cd, hcd⟩ : ∃ cd : Int, cd = (if inT p (i : Int) then 0 else 5) := ⟨_, rfl⟩
    rw [← hcd]
    clear HLS ho hI' hcd hb HI
    dsimp only
    go_wp2_with fail
    refine ⟨rfl, rfl, ⟨rfl, rfl, rfl, i + 1, by omega, ?_, HI'⟩, ?_⟩
    · show Value.int .i64 _ = _
      go_num
    · show p.P.length - (intOf (Value.int .i64 _)).toNat < p.P.length - (intOf (F 6)).toNat
      rw [H6.out]
      simp [intOf]; omega
  · obtain rfl : i = p.P.length := by omega
    have hin' : ¬ ((p.P.length : Int) < (p.P.length : Int)) := by omega
    have HP : Hid (Q (.returned (.slice (some ⟨bo, 0, none⟩) p.P.length p.P.length)) V) := by
      show Q _ _
      rw [HQ.out]
      obtain ⟨q1, Ds, q2, q3, q4, q5⟩ := HI.out
      rw [Nat.sub_self, List.replicate_zero] at q3
      refine ⟨_, _, rfl, q1, Ds, ⟨q2, fun j d hd => ⟨bo, _, rfl, q3, ?_, ?_⟩⟩, fun q d hd => (q5 q d hd).1⟩
      · rw [List.append_nil, flat_sl, q2]; omega
      · rw [Nat.mul_one]
        exact seg_nth1 (flat_at Ds j d hd [])
    clear HI hxW
    go_wp2_with fail
    try go_ret
    exact HP.out
def srI (W0 : World) (a : Option Addr) (n c : Nat) (a' : Option Addr) (c' : Nat) (f : Nat → Value) (V : World) : Prop := f 0 = .slice a n c ∧ f 1 = .slice a' n c' ∧ Hid (W0.Extends V) ∧ ∃ i : Nat, i ≤ n ∧ f 5 = .int .i64 (i : Nat)
set_option maxRecDepth 100000 in
theorem frame27 (f : Nat → Value) : frameN 27 f = #[f 0, f 1, f 2, f 3, f 4, f 5, f 6, f 7, f 8, f 9, f 10, f 11, f 12, f 13, f 14, f 15, f 16, f 17, f 18, f 19, f 20, f 21, f 22, f 23, f 24, f 25, f 26] := by kernel_rfl
set_option maxRecDepth 20000 in
set_option maxHeartbeats 2000000 in
theorem sameRels_perm (W : World) (a : Option Addr) (n c : Nat) (a' : Option Addr) (c' : Nat) (T T' : Nat → List Tup) (h : RelR W a n T) (h' : RelR W a' n T') (hn : n ≤ 100) (hp : ∀ q, q < n → (T' q).Perm (T q) ∧ (T q).length ≤ 10000) : Calls Try.prog 26 #[.slice a n c, .slice a' n c'] W fun e W' => e = .returned (.bool true) ∧ W.Extends W' := by
  have H := hid_of h
  have H' := hid_of h'
  have HP := hid_of hp
  have HX0 : Hid (W.Extends W) := ext_Ext (Ext.refl _)
  clear h h' hp
  go_enter Try.func26, Try.ntmps26
  go_upto_region 4 with fail
  refine wp_loop_f 27 (srI W a n c a' c') (fun f _ => n - (intOf (f 5)).toNat) rfl ⟨rfl, rfl, HX0, 0, by omega, rfl⟩ ?_
  clear HX0
  intro F V hrel
  obtain ⟨f0, f1, HE, i, hi, f5⟩ := hrel
  have H5 := hid_of f5
  rw [frame27, f0, f1, f5]
  clear f0 f1 f5
  by_cases hin : i < n
  · have hin' : (i : Int) < (n : Int) := by omega
    obtain ⟨Ds, d1, d2⟩ := H.out.ext HE.out
    obtain ⟨Ds', e1, e2⟩ := H'.out.ext HE.out
    obtain ⟨d, b1, C1, u1, rfl, u3, u4, u5⟩ := d1.at hin
    obtain ⟨d', b2, C2, v1, rfl, v3, v4, v5⟩ := e1.at hin
    rw [Nat.mul_one] at u5 v5 u4 v4
    have w1 : nth C1 i = some (.slice d.a d.len d.cap) := nth_in (j := 0) u5 rfl (by omega)
    have w2 : nth C2 i = some (.slice d'.a d'.len d'.cap) := nth_in (j := 0) v5 rfl (by omega)
    obtain ⟨p1, p2⟩ := HP.out i hin
    have hsb := sameBag_perm V.drew d.a d.len d.cap d'.a d'.len d'.cap (T i) (T' i) ((d2 i d u1).grow (extends_drew (ext_Ext (Ext.refl _)))) ((e2 i d' v1).grow (extends_drew (ext_Ext (Ext.refl _)))) p1 (by rw [← (d2 i d u1).1]; exact p2)
    have HSB := hid_of hsb
    have i0 : (0 : Int) ≤ (i : Int) := by omega
    have i2 : ((i : Int)).toNat = i := by omega
    have l1 : i < C1.length := by omega
    have l2 : i < C2.length := by omega
    clear hsb d1 d2 e1 e2 u1 u5 v1 v5 p1 p2
    go_upto_region 6 with fail
    refine wp_region_held_drew (S := fun W' => blk W' b1 = some C1 ∧ blk W' b2 = some C2) (by kernel_rfl) ⟨u3, v3⟩ (fun hHeld => ?_)
    refine wpAnyH_take (i := 0) (oi := ⟨_, _, _, _, _, _⟩) (v := ?_) rfl (by kernel_rfl) (by kernel_rfl) (by kernel_rfl) (fun _ _ _ h => h) (Or.inl ⟨by rfl, ?_⟩) (by assumption) ?_
    rotate_left 1
    · intro W' hSw
      obtain ⟨hS1, hS2⟩ := hSw
      go_simp
      try with_reducible rfl
    try simp only [Act.put, List.setIfInBounds_toArray, List.set_cons_zero, List.set_cons_succ]
    refine wpAnyH_take (i := 1) (oi := ⟨_, _, _, _, _, _⟩) (v := ?_) rfl (by kernel_rfl) (by kernel_rfl) (by kernel_rfl) (fun _ _ _ h => h) (Or.inl ⟨by rfl, ?_⟩) (by assumption) ?_
    rotate_left 1
    · intro W' hSw
      obtain ⟨hS1, hS2⟩ := hSw
      go_simp
      try with_reducible rfl
    try simp only [Act.put, List.setIfInBounds_toArray, List.set_cons_zero, List.set_cons_succ]
    refine wpAnyH_take (i := 2) (oi := ⟨_, _, _, _, _, _⟩) (v := ?_) rfl (by kernel_rfl) (by kernel_rfl) (by kernel_rfl) (fun _ _ _ h => h) (Or.inl ⟨by rfl, ?_⟩) (by assumption) ?_
    rotate_left 1
    · intro W' hSw
      obtain ⟨hS1, hS2⟩ := hSw
      go_simp
      try with_reducible rfl
    try simp only [Act.put, List.setIfInBounds_toArray, List.set_cons_zero, List.set_cons_succ]
    refine wpAnyH_take (i := 3) (oi := ⟨_, _, _, _, _, _⟩) (v := ?_) rfl (by kernel_rfl) (by kernel_rfl) (by kernel_rfl) (fun _ _ _ h => h) (Or.inl ⟨by rfl, ?_⟩) (by assumption) ?_
    rotate_left 1
    · intro W' hSw
      obtain ⟨hS1, hS2⟩ := hSw
      go_simp
      try with_reducible rfl
    try simp only [Act.put, List.setIfInBounds_toArray, List.set_cons_zero, List.set_cons_succ]
    refine wpAnyH_take (i := 4) (oi := ⟨_, _, _, _, _, _⟩) (v := ?_) rfl (by kernel_rfl) (by kernel_rfl) (by kernel_rfl) (fun _ _ _ h => h) (Or.inl ⟨by rfl, ?_⟩) (by assumption) ?_
    rotate_left 1
    · intro W' hSw
      obtain ⟨hS1, hS2⟩ := hSw
      go_simp
      try with_reducible rfl
    try simp only [Act.put, List.setIfInBounds_toArray, List.set_cons_zero, List.set_cons_succ]
    refine wpAnyH_take (i := 5) (oi := ⟨_, _, _, _, _, _⟩) (v := ?_) rfl (by kernel_rfl) (by kernel_rfl) (by kernel_rfl) (fun _ _ _ h => h) (Or.inl ⟨by rfl, ?_⟩) (by assumption) ?_
    rotate_left 1
    · intro W' hSw
      obtain ⟨hS1, hS2⟩ := hSw
      go_simp
      try with_reducible rfl
    try simp only [Act.put, List.setIfInBounds_toArray, List.set_cons_zero, List.set_cons_succ]
    refine wpAnyH_take (i := 6) (oi := ⟨_, _, _, _, _, _⟩) (v := ?_) rfl (by kernel_rfl) (by kernel_rfl) (by kernel_rfl) (fun _ _ _ h => h) (Or.inl ⟨by rfl, ?_⟩) (by assumption) ?_
    rotate_left 1
    · intro W' hSw
      obtain ⟨hS1, hS2⟩ := hSw
      go_simp
      try with_reducible rfl
    try simp only [Act.put, List.setIfInBounds_toArray, List.set_cons_zero, List.set_cons_succ]
    refine wpAnyH_take (i := 7) (oi := ⟨_, _, _, _, _, _⟩) (v := ?_) rfl (by kernel_rfl) (by kernel_rfl) (by kernel_rfl) (fun _ _ _ h => h) (Or.inl ⟨by rfl, ?_⟩) (by assumption) ?_
    rotate_left 1
    · intro W' hSw
      obtain ⟨hS1, hS2⟩ := hSw
      go_simp
      try with_reducible rfl
    try simp only [Act.put, List.setIfInBounds_toArray, List.set_cons_zero, List.set_cons_succ]
    refine wpAnyH_ready (rs := [8]) (by kernel_rfl) (by simp) ?_
    refine AllReadyH.cons (o := ⟨_, _, _, _, _, _⟩) rfl (fun K' hK => ?_) AllReadyH.nil
    go_simp
    refine HSB.out.mono ?_
    rintro en V2 ⟨rfl, hx2⟩
    have HX2 := hid_of hx2
    have g1 : blk V2 b1 = some C1 := (hx2.blk (blk_lt u3)).trans u3
    have g2 : blk V2 b2 = some C2 := (hx2.blk (blk_lt v3)).trans v3
    clear hx2 HSB
    dsimp only
    refine hK.out _ _ ⟨g1, g2⟩ (fun hHeld => ?_)
    clear hK K'
    try simp only [Act.put, List.setIfInBounds_toArray, List.set_cons_zero, List.set_cons_succ]
    refine wpAnyH_take (i := 9) (oi := ⟨_, _, _, _, _, _⟩) (v := ?_) rfl (by kernel_rfl) (by kernel_rfl) (by kernel_rfl) (fun _ _ _ h => h) (Or.inl ⟨by rfl, ?_⟩) (by assumption) ?_
    rotate_left 1
    · intro W' hSw
      obtain ⟨hS1, hS2⟩ := hSw
      go_simp
      try with_reducible rfl
    try simp only [Act.put, List.setIfInBounds_toArray, List.set_cons_zero, List.set_cons_succ]
    refine wpAnyH_done (by kernel_rfl) ?_ _
    clear hHeld
    have HE' : Hid (W.Extends V2) := (HE.out.trans (extends_drew (ext_Ext (Ext.refl _)))).trans HX2.out
    clear HE HX2
    go_wp2_with fail
    refine ⟨rfl, rfl, ⟨rfl, rfl, HE', i + 1, by omega, ?_⟩, ?_⟩
    · show Value.int .i64 _ = _
      go_num
    · show n - (intOf (Value.int .i64 _)).toNat < n - (intOf (F 5)).toNat
      rw [H5.out]
      simp [intOf]; omega
  · obtain rfl : i = n := by omega
    have hin' : ¬ ((i : Int) < (i : Int)) := by omega
    go_wp2_with fail
    try go_ret
    exact ⟨rfl, HE.out⟩
end Go.Proofs.Qxb6500788a
