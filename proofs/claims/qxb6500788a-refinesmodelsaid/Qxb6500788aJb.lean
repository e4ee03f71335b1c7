import Derived.Test.Qxb6500788aJa
import Derived.StillTailTactics
import Derived.Deep.QuietTactic
import Derived.BigQuiet
import Derived.Deep.RegionHeld
import Derived.Deep.CutRange
import Derived.Laws.ResultCell
import Derived.Laws.Rows
import Derived.DeepKeys
import Derived.DataBytes
import Derived.Laws.StructEq
import Derived.Laws.AppendOwn
import Derived.Laws.MakeOwn
set_option linter.unusedSimpArgs false
set_option linter.unusedVariables false
namespace Go.Proofs.Qxb6500788a
open Go.RowKit Go.Blk
attribute [local go_sem ↓] execOp_load execOp_store execOp_alloc
attribute [local go_sem] Try.ld24 Try.st24 Try.ld25 Try.st25 Try.ld3 Try.st3 Try.ld30 Try.st30 Try.ld36 Try.st36 Try.ld4 Try.st4 Try.ld41 Try.st41 Try.ld50 Try.st50 Try.ld40 Try.st40 Try.ld42 Try.st42 Try.ld89 Try.st89 Try.ld91 Try.st91 Try.ld56 Try.st56 Try.ld97 Try.st97 Try.ld98 Try.st98 Try.ld101 Try.st101 Try.ld104 Try.st104 Try.ld57 Try.st57 Try.ld130 Try.st130 Try.ld2 Try.st2 Try.ld5 Try.st5 Try.ld9 Try.st9 Try.ld12 Try.st12 Try.ld21 Try.st21 Try.ld22 Try.st22 Try.ld29 Try.st29 Try.ld33 Try.st33 Try.ld59 Try.st59 Try.ld62 Try.st62 Try.ld69 Try.st69 Try.ld94 Try.st94 Try.ld96 Try.st96 Try.ld129 Try.st129 Try.ld158 Try.st158 Try.ld162 Try.st162 Try.ld47 Try.st47 Try.ld44 Try.st44 Try.ld137 Try.st137 Try.ld145 Try.st145 Try.ld43 Try.st43 Try.ld27 Try.st27 Try.ld38 Try.st38 Try.ld46 Try.st46 Try.ld49 Try.st49 Try.ld52 Try.st52 Try.ld54 Try.st54 Try.ld61 Try.st61 Try.ld80 Try.st80 Try.ld87 Try.st87 Try.ld93 Try.st93 Try.ld100 Try.st100 Try.ld103 Try.st103 Try.ld106 Try.st106 Try.ld109 Try.st109 Try.ld132 Try.st132 Try.ld147 Try.st147 Try.al47 Try.al44 Try.al137 Try.al145 Try.al43 Try.al27 Try.al38 Try.al46 Try.al49 Try.al52 Try.al54 Try.al61 Try.al80 Try.al87 Try.al93 Try.al100 Try.al103 Try.al106 Try.al109 Try.al132 Try.al147
attribute [local go_sem] GProgram.length_enc GProgram.ok_enc GProgram.all_get GProgram.all_set GProgram.preds_get GProgram.preds_set GProgram.rules_get GProgram.rules_set GProgram.strata_get GProgram.strata_set Answer.length_enc Answer.ok_enc Answer.all_get Answer.all_set Answer.code_get Answer.code_set Answer.n_get Answer.n_set Answer.rows_get Answer.rows_set Term.length_enc Term.ok_enc Term.all_get Term.all_set Term.var_get Term.var_set Term.n_get Term.n_set Atom.length_enc Atom.ok_enc Atom.all_get Atom.all_set Atom.pred_get Atom.pred_set Atom.args_get Atom.args_set GRule.length_enc GRule.ok_enc GRule.all_get GRule.all_set GRule.head_get GRule.head_set GRule.body_get GRule.body_set GRule.head_pred_get GRule.head_pred_set GRule.head_args_get GRule.head_args_set GOp.length_enc GOp.ok_enc GOp.all_get GOp.all_set GOp.kind_get GOp.kind_set GOp.pred_get GOp.pred_set GOp.t_get GOp.t_set GOp.n_get GOp.n_set GOp.base_get GOp.base_set GOp.rule_get GOp.rule_set GOp.rule_head_get GOp.rule_head_set GOp.rule_body_get GOp.rule_body_set GOp.rule_head_pred_get GOp.rule_head_pred_set GOp.rule_head_args_get GOp.rule_head_args_set PredInfo.length_enc PredInfo.ok_enc PredInfo.all_get PredInfo.all_set PredInfo.arity_get PredInfo.arity_set PredInfo.base_get PredInfo.base_set PredInfo.stratum_get PredInfo.stratum_set GStats.length_enc GStats.ok_enc GStats.all_get GStats.all_set GStats.rounds_get GStats.rounds_set GStats.fired_get GStats.fired_set GStats.emitted_get GStats.emitted_set GStats.fresh_get GStats.fresh_set Literal.length_enc Literal.ok_enc Literal.all_get Literal.all_set Literal.neg_get Literal.neg_set Literal.atom_get Literal.atom_set Literal.atom_pred_get Literal.atom_pred_set Literal.atom_args_get Literal.atom_args_set Engine.length_enc Engine.ok_enc Engine.all_get Engine.all_set Engine.prog_get Engine.prog_set Engine.st_get Engine.st_set Engine.levels_get Engine.levels_set Engine.running_get Engine.running_set Engine.stratum_get Engine.stratum_set Engine.round_get Engine.round_set Engine.saved_get Engine.saved_set Engine.stats_get Engine.stats_set Engine.prog_preds_get Engine.prog_preds_set Engine.prog_rules_get Engine.prog_rules_set Engine.prog_strata_get Engine.prog_strata_set Engine.stats_rounds_get Engine.stats_rounds_set Engine.stats_fired_get Engine.stats_fired_set Engine.stats_emitted_get Engine.stats_emitted_set Engine.stats_fresh_get Engine.stats_fresh_set Level.length_enc Level.ok_enc Level.all_get Level.all_set Level.heads_get Level.heads_set Level.jobs_get Level.jobs_set Plan.length_enc Plan.ok_enc Plan.all_get Plan.all_set Plan.rule_get Plan.rule_set Plan.delta_get Plan.delta_set Plan.src_get Plan.src_set Job.length_enc Job.ok_enc Job.all_get Job.all_set Job.full_get Job.full_set Job.deltas_get Job.deltas_set Job.full_rule_get Job.full_rule_set Job.full_delta_get Job.full_delta_set Job.full_src_get Job.full_src_set GState.length_enc GState.ok_enc GState.all_get GState.all_set GState.prog_get GState.prog_set GState.base_get GState.base_set GState.shown_get GState.shown_set GState.prog_preds_get GState.prog_preds_set GState.prog_rules_get GState.prog_rules_set GState.prog_strata_get GState.prog_strata_set Store.length_enc Store.ok_enc Store.all_get Store.all_set Store.arity_get Store.arity_set Store.rows_get Store.rows_set Env.length_enc Env.ok_enc Env.all_get Env.all_set Env.val_get Env.val_set Env.set_get Env.set_set
attribute [local go_sem] size_put size_ext blk_put free_put blk_alloc free_alloc blk_drew free_drew blk_ext free_ext lookOr_some putOr_some segAt_some cellAt_some storeIn_some put_put put_alloc_new length_arr ok_arr_u8 ok_arr_u32 ok_arr_u64 ok_arr_i64 ok_arr_sl cellsV_agg cellsV_int cellsV_bool cellsV_string cellsV_pointer cellsV_slice cellsV_sl ok_int ok_bool ok_string ok_pointer ok_slice ok_sl toList_arr seg_arr set_arr nth_splice nth_splice0 seg_splice seg_splice0 splice_splice splice_splice0 length_splice_if
attribute [local go_sem ↓] execOp_box
attribute [local go_sem] box_run nth_arr_u8 put_arr_u8 blk_drewN free_drewN put_drewN blk_raw free_raw
theorem bslice62 (w : World) (v : Int) : (bsliceOp 62 1 #[(0, .int .i64 v)]).run Try.prog w = .ok (.value (.slice (some ⟨w.heap.size, 0, none⟩) 1 1)) (w.alloc (.cells (encI v).toArray 42)) := by kernel_rfl
/-- A number put in, if it isn't there. -/
def insI (L : List Int) (y : Int) : List Int := if y ∈ L then L else L ++ [y]
theorem mem_insI {L : List Int} {y z : Int} : z ∈ insI L y ↔ z ∈ L ∨ z = y := by
  unfold insI
  by_cases h : y ∈ L
  · rw [if_pos h]
    exact ⟨.inl, fun h1 => h1.elim id (fun e => e ▸ h)⟩
  · rw [if_neg h]; simp
theorem insI_nodup {L : List Int} {y : Int} (h : L.Nodup) : (insI L y).Nodup := by
  unfold insI
  by_cases hy : y ∈ L
  · rw [if_pos hy]; exact h
  · rw [if_neg hy, List.nodup_append]
    exact ⟨h, by simp, fun a ha b hb e => hy (by rw [List.mem_singleton] at hb; rw [← hb, ← e]; exact ha)⟩
theorem nodup_int : ∀ {N : Nat} {L : List Int}, L.Nodup → (∀ y ∈ L, 0 ≤ y ∧ y < (N : Int)) → L.length ≤ N := by
  intro N L hN h
  have key : ∀ {A M : List Int}, A.Nodup → (∀ t ∈ A, t ∈ M) → A.length ≤ M.length := by
    intro A
    induction A with
    | nil => intro M _ _; exact Nat.zero_le _
    | cons a A ih =>
      intro M hA hs
      rw [List.nodup_cons] at hA
      have ha := hs a (List.mem_cons_self ..)
      have := ih (M := M.erase a) hA.2 (fun t ht => by
        have hta : t ≠ a := fun e => hA.1 (e ▸ ht)
        exact (List.mem_erase_of_ne hta).2 (hs t (List.mem_cons_of_mem _ ht)))
      rw [List.length_erase_of_mem ha] at this
      have : 0 < M.length := List.length_pos_of_mem ha
      rw [List.length_cons]; omega
  have := key (M := (List.range N).map (fun n : Nat => (n : Int))) hN (fun y hy => by
    obtain ⟨h0, h1⟩ := h y hy
    exact List.mem_map.2 ⟨y.toNat, List.mem_range.2 (by omega), by omega⟩)
  simpa using this
/-- A row of numbers of its own. -/
abbrev IRow (B : Nat) (O : Own) (ty : TypeId) (V : World) (a : Option Addr) (n c : Nat) (L : List Int) : Prop := RowL B O (.a 9 9) V ty 1 (.slice a n c) L.length (L.flatMap encI)
abbrev isI (l : Lab) : Prop := l = .a 9 9
theorem i_at {W : World} {a : Option Addr} {n : Nat} {L : List Int} (hw : Rw encI 1 W a n L) {i : Nat} {x : Int} (hx : L[i]? = some x) : ∃ b C, a = some ⟨b, 0, none⟩ ∧ blk W b = some C ∧ n ≤ C.length ∧ nth C i = some (.int .i64 x) := by
  obtain ⟨b, C, h1, h2, h3, h4⟩ := hw.2 i x hx
  refine ⟨b, C, h1, h2, by omega, ?_⟩
  have := nth_in (j := 0) h4 rfl (by omega)
  rwa [Nat.mul_one, Nat.add_zero] at this
def asI (W : World) (a : Option Addr) (n c : Nat) (L : List Int) (y : Int) (f : Nat → Value) (V : World) : Prop := f 0 = .slice a n c ∧ f 1 = .int .i64 y ∧ Hid (∃ k, V = W.drewN k) ∧ ∃ i : Nat, i ≤ n ∧ f 5 = .int .i64 (i : Nat) ∧ Hid (∀ j, j < i → L[j]? ≠ some y)
attribute [local go_sem ↓] execOp_bslice
attribute [local go_sem] bslice62 bslice130
def SymPost (B : Nat) (O : Own) (ty : TypeId) (W : World) (P : List Int → Prop) (e : Ending) (V : World) : Prop := ∃ a n c L' O', e = .returned (.slice a n c) ∧ IRow B O' ty V a n c L' ∧ Fr isI O W O' V ∧ P L'
set_option maxRecDepth 100000 in
theorem frame23s (f : Nat → Value) : frameN 23 f = #[f 0, f 1, f 2, f 3, f 4, f 5, f 6, f 7, f 8, f 9, f 10, f 11, f 12, f 13, f 14, f 15, f 16, f 17, f 18, f 19, f 20, f 21, f 22] := by kernel_rfl
set_option maxRecDepth 20000 in
set_option maxHeartbeats 1000000 in
theorem addSym_any (B : Nat) (O : Own) (W : World) (a : Option Addr) (n c : Nat) (L : List Int) (hB : B ≤ W.heap.size) (hw : IRow B O 42 W a n c L) (hl : L.length ≤ 1000) (y : Int) : Calls Try.prog 49 #[.slice a n c, .int .i64 y] W (SymPost B O 42 W (fun L' => L' = insI L y)) := by
  obtain ⟨Q, hQ⟩ : ∃ Q, Q = SymPost B O 42 W (fun L' => L' = insI L y) := ⟨_, rfl⟩
  rw [← hQ]
  have HQ := hid_of hQ
  have HW := hid_of hw
  have hn := (hw.rw encI_len).1.1
  have hl' : n ≤ 1000 := by omega
  have HN := hid_of hn
  have HL := hid_of hl
  clear hQ hw hn hl
  go_enter Try.func49, Try.ntmps49
  go_wp2_with fail
  have HK0 : Hid (∃ k, W = W.drewN k) := ⟨0, rfl⟩
  refine wp_loop_f 23 (asI W a n c L y) (fun f _ => n - (intOf (f 5)).toNat) rfl ⟨rfl, rfl, HK0, 0, by omega, rfl, fun j h => absurd h (Nat.not_lt_zero _)⟩ ?_
  clear HK0
  intro F V hrel
  obtain ⟨f0, f1, HK, i, hi, f5, HJ⟩ := hrel
  have H5 := hid_of f5
  rw [frame23s, f0, f1, f5]
  clear f0 f1 f5
  obtain ⟨k0, hV⟩ := HK.out
  have hxV : W.Extends V := by rw [hV]; exact extends_drewN (ext_Ext (Ext.refl _)) _
  by_cases hin : i < n
  · have hin' : (i : Int) < (n : Int) := by omega
    obtain ⟨x, hx⟩ : ∃ x, L[i]? = some x := ⟨_, List.getElem?_eq_getElem (by rw [HN.out]; exact hin)⟩
    obtain ⟨bn, Cn, rfl, hCn, hcn, un⟩ := i_at ((HW.out.rw encI_len).1.grow hxV) hx
    have p0 : (0 : Int) ≤ (i : Int) := by omega
    have p2 : ((i : Int)).toNat = i := by omega
    have p5 : i < Cn.length := by omega
    have HX := hid_of hxV
    have HK' : Hid (∃ k, V.drew = W.drewN k) := ⟨k0 + 1, by rw [hV]; rfl⟩
    by_cases he : x = y
    · subst he
      have HP : Hid (∀ k, Q (.returned (.slice (some ⟨bn, 0, none⟩) n c)) (V.drewN k)) := fun k => by
        rw [HQ.out]
        have e : insI L x = L := if_pos (List.mem_of_getElem? hx)
        have hx2 := extends_drewN HX.out k
        exact ⟨_, _, _, _, O, rfl, HW.out.keep (fun b hb _ => ⟨hx2.block b hb, rfl⟩), Fr.of_extends hx2, e.symm⟩
      clear HK HK' HJ hV hxV hx HX
      go_wp2_with fail
      try go_ret
      first | exact HP.out 0 | exact HP.out 1
    · have hne : ¬ x = y := he
      have hne2 : (x == y) = false := by simpa using he
      have HJ' : Hid (∀ j, j < i + 1 → L[j]? ≠ some y) := by
        intro j h1
        by_cases h3 : j = i
        · subst h3; rw [hx]; intro e; exact he (Option.some.inj e)
        · exact HJ.out j (by omega)
      clear HJ hx hV hxV HX he
      go_wp2_with fail
      refine ⟨rfl, rfl, ⟨rfl, rfl, ?_, i + 1, by omega, ?_, HJ'⟩, ?_⟩
      · first | exact HK' | exact HK
      · show Value.int .i64 _ = _
        go_num
      · show n - (intOf (Value.int .i64 _)).toNat < n - (intOf (F 5)).toNat
        rw [H5.out]
        simp [intOf]; omega
  · obtain rfl : i = n := by omega
    have hin' : ¬ ((i : Int) < (i : Int)) := by omega
    have hnm : y ∉ L := fun h => by
      obtain ⟨j, hj⟩ := List.mem_iff_getElem?.1 h
      exact HJ.out j (by rw [← HN.out]; exact (List.getElem?_eq_some_iff.1 hj).1) hj
    have hwV : IRow B O 42 V a i c L := HW.out.keep (fun b hb _ => ⟨hxV.block b hb, rfl⟩)
    obtain ⟨a', c', W', hrun, hrow2, hfr⟩ := appL encI 1 8 62 42 Try.underlying62 info42 encI_len encI_one (by omega) (by omega) 62 y hwV (Nat.le_trans hB hxV.size) (by have := HL.out; omega) (encI y).toArray rfl 1
    have HP : Hid (Q (.returned (.slice a' (i + 1) c')) W') := by
      show Q _ _
      rw [HQ.out]
      have e : insI L y = L ++ [y] := if_neg hnm
      exact ⟨_, _, _, _, _, rfl, hrow2, (Fr.of_extends hxV).trans hfr, e.symm⟩
    clear HK HJ hV hxV hnm hwV hrow2 hfr
    go_wp2_with (at_builtin; refine wpList_append_run rfl _ _ 62 rfl _ _ _ _ rfl rfl hrun ?_)
    try go_ret
    exact HP.out
end Go.Proofs.Qxb6500788a
