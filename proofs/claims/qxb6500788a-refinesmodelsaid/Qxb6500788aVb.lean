import Derived.Test.Qxb6500788aVa
import Derived.StillTailTactics
import Derived.Deep.QuietTactic
import Derived.BigQuiet
import Derived.Deep.RegionHeld
import Derived.Deep.CutRange
import Derived.Laws.ResultCell
import Derived.Laws.Rows
import Derived.DeepKeys
import Derived.DataBytes
import Derived.Laws.StructEq
import Derived.Laws.AppendOwn
import Derived.Laws.MakeOwn
set_option linter.unusedSimpArgs false
set_option linter.unusedVariables false
namespace Go.Proofs.Qxb6500788a
open Go.RowKit Go.Blk
attribute [local go_sem ↓] execOp_load execOp_store execOp_alloc
attribute [local go_sem] Try.ld24 Try.st24 Try.ld25 Try.st25 Try.ld3 Try.st3 Try.ld30 Try.st30 Try.ld36 Try.st36 Try.ld4 Try.st4 Try.ld41 Try.st41 Try.ld50 Try.st50 Try.ld40 Try.st40 Try.ld42 Try.st42 Try.ld89 Try.st89 Try.ld91 Try.st91 Try.ld56 Try.st56 Try.ld97 Try.st97 Try.ld98 Try.st98 Try.ld101 Try.st101 Try.ld104 Try.st104 Try.ld57 Try.st57 Try.ld130 Try.st130 Try.ld2 Try.st2 Try.ld5 Try.st5 Try.ld9 Try.st9 Try.ld12 Try.st12 Try.ld21 Try.st21 Try.ld22 Try.st22 Try.ld29 Try.st29 Try.ld33 Try.st33 Try.ld59 Try.st59 Try.ld62 Try.st62 Try.ld69 Try.st69 Try.ld94 Try.st94 Try.ld96 Try.st96 Try.ld129 Try.st129 Try.ld158 Try.st158 Try.ld162 Try.st162 Try.ld47 Try.st47 Try.ld44 Try.st44 Try.ld137 Try.st137 Try.ld145 Try.st145 Try.ld43 Try.st43 Try.ld27 Try.st27 Try.ld38 Try.st38 Try.ld46 Try.st46 Try.ld49 Try.st49 Try.ld52 Try.st52 Try.ld54 Try.st54 Try.ld61 Try.st61 Try.ld80 Try.st80 Try.ld87 Try.st87 Try.ld93 Try.st93 Try.ld100 Try.st100 Try.ld103 Try.st103 Try.ld106 Try.st106 Try.ld109 Try.st109 Try.ld132 Try.st132 Try.ld147 Try.st147 Try.al47 Try.al44 Try.al137 Try.al145 Try.al43 Try.al27 Try.al38 Try.al46 Try.al49 Try.al52 Try.al54 Try.al61 Try.al80 Try.al87 Try.al93 Try.al100 Try.al103 Try.al106 Try.al109 Try.al132 Try.al147
attribute [local go_sem] GProgram.length_enc GProgram.ok_enc GProgram.all_get GProgram.all_set GProgram.preds_get GProgram.preds_set GProgram.rules_get GProgram.rules_set GProgram.strata_get GProgram.strata_set Answer.length_enc Answer.ok_enc Answer.all_get Answer.all_set Answer.code_get Answer.code_set Answer.n_get Answer.n_set Answer.rows_get Answer.rows_set Term.length_enc Term.ok_enc Term.all_get Term.all_set Term.var_get Term.var_set Term.n_get Term.n_set Atom.length_enc Atom.ok_enc Atom.all_get Atom.all_set Atom.pred_get Atom.pred_set Atom.args_get Atom.args_set GRule.length_enc GRule.ok_enc GRule.all_get GRule.all_set GRule.head_get GRule.head_set GRule.body_get GRule.body_set GRule.head_pred_get GRule.head_pred_set GRule.head_args_get GRule.head_args_set GOp.length_enc GOp.ok_enc GOp.all_get GOp.all_set GOp.kind_get GOp.kind_set GOp.pred_get GOp.pred_set GOp.t_get GOp.t_set GOp.n_get GOp.n_set GOp.base_get GOp.base_set GOp.rule_get GOp.rule_set GOp.rule_head_get GOp.rule_head_set GOp.rule_body_get GOp.rule_body_set GOp.rule_head_pred_get GOp.rule_head_pred_set GOp.rule_head_args_get GOp.rule_head_args_set PredInfo.length_enc PredInfo.ok_enc PredInfo.all_get PredInfo.all_set PredInfo.arity_get PredInfo.arity_set PredInfo.base_get PredInfo.base_set PredInfo.stratum_get PredInfo.stratum_set GStats.length_enc GStats.ok_enc GStats.all_get GStats.all_set GStats.rounds_get GStats.rounds_set GStats.fired_get GStats.fired_set GStats.emitted_get GStats.emitted_set GStats.fresh_get GStats.fresh_set Literal.length_enc Literal.ok_enc Literal.all_get Literal.all_set Literal.neg_get Literal.neg_set Literal.atom_get Literal.atom_set Literal.atom_pred_get Literal.atom_pred_set Literal.atom_args_get Literal.atom_args_set Engine.length_enc Engine.ok_enc Engine.all_get Engine.all_set Engine.prog_get Engine.prog_set Engine.st_get Engine.st_set Engine.levels_get Engine.levels_set Engine.running_get Engine.running_set Engine.stratum_get Engine.stratum_set Engine.round_get Engine.round_set Engine.saved_get Engine.saved_set Engine.stats_get Engine.stats_set Engine.prog_preds_get Engine.prog_preds_set Engine.prog_rules_get Engine.prog_rules_set Engine.prog_strata_get Engine.prog_strata_set Engine.stats_rounds_get Engine.stats_rounds_set Engine.stats_fired_get Engine.stats_fired_set Engine.stats_emitted_get Engine.stats_emitted_set Engine.stats_fresh_get Engine.stats_fresh_set Level.length_enc Level.ok_enc Level.all_get Level.all_set Level.heads_get Level.heads_set Level.jobs_get Level.jobs_set Plan.length_enc Plan.ok_enc Plan.all_get Plan.all_set Plan.rule_get Plan.rule_set Plan.delta_get Plan.delta_set Plan.src_get Plan.src_set Job.length_enc Job.ok_enc Job.all_get Job.all_set Job.full_get Job.full_set Job.deltas_get Job.deltas_set Job.full_rule_get Job.full_rule_set Job.full_delta_get Job.full_delta_set Job.full_src_get Job.full_src_set GState.length_enc GState.ok_enc GState.all_get GState.all_set GState.prog_get GState.prog_set GState.base_get GState.base_set GState.shown_get GState.shown_set GState.prog_preds_get GState.prog_preds_set GState.prog_rules_get GState.prog_rules_set GState.prog_strata_get GState.prog_strata_set Store.length_enc Store.ok_enc Store.all_get Store.all_set Store.arity_get Store.arity_set Store.rows_get Store.rows_set Env.length_enc Env.ok_enc Env.all_get Env.all_set Env.val_get Env.val_set Env.set_get Env.set_set
attribute [local go_sem] size_put size_ext blk_put free_put blk_alloc free_alloc blk_drew free_drew blk_ext free_ext lookOr_some putOr_some segAt_some cellAt_some storeIn_some put_put put_alloc_new length_arr ok_arr_u8 ok_arr_u32 ok_arr_u64 ok_arr_i64 ok_arr_sl cellsV_agg cellsV_int cellsV_bool cellsV_string cellsV_pointer cellsV_slice cellsV_sl ok_int ok_bool ok_string ok_pointer ok_slice ok_sl toList_arr seg_arr set_arr nth_splice nth_splice0 seg_splice seg_splice0 splice_splice splice_splice0 length_splice_if
attribute [local go_sem ↓] execOp_box
attribute [local go_sem] box_run nth_arr_u8 put_arr_u8 blk_drewN free_drewN put_drewN blk_raw free_raw
theorem lit_cells2 {C : List Value} {o : Nat} {l : Literal} (h : seg C o 10 = l.enc) {c : Nat} (hc : c < 4) : nth C (o + 1 + 1 + c * 2) = some (.bool (tA l.atom c).var) ∧ nth C (o + 1 + 1 + c * 2 + 1) = some (.int .i64 (tA l.atom c).n) := by
  have ha : seg C (o + 1) 9 = l.atom.enc := (seg_in (p := 1) (m := 9) h (by omega)).trans (Literal.atom_get l)
  have h2 : seg C (o + 1 + (1 + c * 2)) 2 = (tA l.atom c).enc := (seg_in (p := 1 + c * 2) (m := 2) ha (by omega)).trans (ta_seg l.atom hc)
  refine ⟨?_, ?_⟩
  · have := nth_in h2 (Term.var_get _) (by omega)
    rw [show o + 1 + 1 + c * 2 = o + 1 + (1 + c * 2) + 0 by omega]
    exact this
  · have := nth_in h2 (Term.n_get _) (by omega)
    rw [show o + 1 + 1 + c * 2 + 1 = o + 1 + (1 + c * 2) + 1 by omega]
    exact this
/-- The variable v stands in column i of the literal. -/
def ColHas (l : Literal) (v : Int) (i : Nat) : Prop := (tA l.atom i).var = true ∧ (tA l.atom i).n = v
def LitHas (P : List PredInfo) (l : Literal) (v : Int) : Prop := l.neg = false ∧ ∃ i, i < arA P l.atom ∧ ColHas l v i
/-- inPositive, plainly. -/
def InPos (P : List PredInfo) (L : List Literal) (v : Int) : Prop := ∃ l ∈ L, LitHas P l v
def ipX (W1 : World) (aP : Option Addr) (N cP b bn : Nat) (P : List PredInfo) (L : List Literal) (v : Int) (f : Nat → Value) (W : World) : Prop :=
  f 0 = .slice aP N cP ∧ f 2 = .int .i64 v ∧ f 4 = .pointer (some ⟨b, 0, none⟩) ∧ W = W1 ∧ ∃ i : Nat, i ≤ bn ∧ f 7 = .int .i64 (i : Nat) ∧ Hid (∀ (k : Nat) (l : Literal), k < i → L[k]? = some l → ¬ LitHas P l v)
def ipY (W1 : World) (aP : Option Addr) (N cP b i : Nat) (l : Literal) (v : Int) (f : Nat → Value) (W : World) : Prop :=
  f 0 = .slice aP N cP ∧ f 2 = .int .i64 v ∧ f 4 = .pointer (some ⟨b, 0, none⟩) ∧ W = W1 ∧ f 7 = .int .i64 (i : Nat) ∧ ∃ c : Nat, c ≤ 4 ∧ f 8 = .int .i64 (c : Nat) ∧ Hid (∀ k, k < c → ¬ ColHas l v k)
def BoolX (w : World) (p : Prop) (e : Ending) (w' : World) : Prop := ∃ r, e = .returned (.bool r) ∧ (r = true ↔ p) ∧ Ext w w'
set_option maxRecDepth 20000 in
set_option maxHeartbeats 4000000 in
theorem inPos_x (w : World) (aP : Option Addr) (N cP bP : Nat) (P : List PredInfo) (hP : At PredInfo.enc 3 w bP 0 aP N P) (hN : N ≤ 64) (hA4 : ∀ x ∈ P, x.arity ≤ 4) (r : GRule) (ba : Option Addr) (bn bc bL oL : Nat) (hsv : Sl.val r.body = .slice ba bn bc) (L : List Literal) (hL : At Literal.enc 10 w bL oL ba bn L) (hl8 : bn ≤ 8) (hLp : ∀ l ∈ L, 0 ≤ l.atom.pred ∧ l.atom.pred < N) (v : Int) :
    Calls Try.prog 84 #[.slice aP N cP, .agg r.enc.toArray, .int .i64 v] w (BoolX w (InPos P L v)) := by
  have HP : Hid (At PredInfo.enc 3 w bP 0 aP N P) := hP
  have HA : Hid (∀ x ∈ P, x.arity ≤ 4) := hA4
  have HL : Hid (At Literal.enc 10 w bL oL ba bn L) := hL
  have HLP : Hid (∀ l ∈ L, 0 ≤ l.atom.pred ∧ l.atom.pred < N) := hLp
  clear hP hA4 hL hLp
  go_enter Try.func84, Try.ntmps84
  go_upto_region 1 with fail
  refine wp_world (fun W => blk W w.heap.size = some r.enc ∧ Hid (Ext w W)) ⟨?_, (Ext.refl w).alloc _⟩ ?_
  · rw [blk_alloc, if_pos rfl]
  rintro W1 ⟨hb1, HE1⟩
  obtain ⟨b, hb⟩ : ∃ b, b = w.heap.size := ⟨_, rfl⟩
  rw [← hb] at hb1 ⊢
  clear hb
  go_wp2_with fail
  refine wp_loop_f 61 (ipX W1 aP N cP b bn P L v) (fun f _ => bn - (intOf (f 7)).toNat) rfl ?_ ?_
  · exact ⟨rfl, rfl, rfl, rfl, 0, by omega, rfl, fun k l h => absurd h (Nat.not_lt_zero _)⟩
  intro F W hrel
  obtain ⟨f0, f2, f4, rfl, i, hi, f7, HNO⟩ := hrel
  have H7 : Hid (F 7 = .int .i64 (i : Nat)) := f7
  rw [frame61, f0, f2, f4, f7]
  clear f0 f2 f4 f7
  by_cases hin : i < bn
  · obtain ⟨l, CL, hl, rfl, hCL, hCLl, hls⟩ := HL.out.get hin
    have hCLW : blk W bL = some CL := (HE1.out.blk (blk_lt hCL)).trans hCL
    obtain ⟨k0, k1, _, _⟩ := lit_cells hls
    have HK2 : Hid (∀ c, c < 4 → nth CL (oL + i * 10 + 1 + 1 + c * 2) = some (.bool (tA l.atom c).var) ∧ nth CL (oL + i * 10 + 1 + 1 + c * 2 + 1) = some (.int .i64 (tA l.atom c).n)) := fun c hc => lit_cells2 hls hc
    obtain ⟨p0, p1⟩ := HLP.out l (List.mem_of_getElem? hl)
    obtain ⟨q, hq⟩ : ∃ q : Nat, l.atom.pred = (q : Int) := ⟨l.atom.pred.toNat, by omega⟩
    rw [hq] at k1
    have hqN : q < N := by omega
    obtain ⟨x, C, hx, rfl, hC, hCl, hs⟩ := HP.out.get hqN
    have hCW : blk W bP = some C := (HE1.out.blk (blk_lt hC)).trans hC
    have hAr : nth C (q * 3) = some (.int .i64 x.arity) := by have := nth_in hs (PredInfo.arity_get x) (by omega); simpa using this
    have ha4 : x.arity ≤ 4 := HA.out x (List.mem_of_getElem? hx)
    have HARA : Hid (arA P l.atom = x.arity.toNat) := AFit.ar hq hx
    have HLM : Hid (l ∈ L) := List.mem_of_getElem? hl
    have HSTEP : ¬ LitHas P l v → Hid (∀ (k : Nat) (l' : Literal), k < i + 1 → L[k]? = some l' → ¬ LitHas P l' v) := fun hn k l' hk hl' => by
      by_cases hki : k = i
      · subst hki
        obtain rfl : l' = l := Option.some.inj (hl'.symm.trans hl)
        exact hn
      · exact HNO.out k l' (by omega) hl'
    have q0 : (0 : Int) ≤ (q : Int) := by omega
    have q1 : (q : Int) < (N : Int) := by omega
    have q2 : ((q : Int)).toNat = q := by omega
    have i0 : (0 : Int) ≤ (i : Int) := by omega
    have i1 : (i : Int) < (bn : Int) := by omega
    have i2 : ((i : Int)).toNat = i := by omega
    have l1 : oL + i * 10 + 10 ≤ CL.length := by omega
    have l2 : q * 3 < C.length := by omega
    clear hls hCL p0 p1 hq hs hC hx hCLl hCl
    obtain ⟨ng, hng⟩ : ∃ ng, ng = l.neg := ⟨_, rfl⟩
    rw [← hng] at k0
    have HNG := hid_of hng
    clear hng
    cases ng with
    | true =>
      have HI' := HSTEP (fun h => by have := h.1; rw [← HNG.out] at this; cases this)
      clear HSTEP hl
      go_wp2_with fail
      refine ⟨rfl, rfl, ⟨rfl, rfl, rfl, rfl, i + 1, by omega, ?_, HI'⟩, ?_⟩
      · show Value.int .i64 _ = _
        go_num
      · show bn - (intOf (Value.int .i64 _)).toNat < bn - (intOf (F 7)).toNat
        rw [H7.out]
        simp [intOf]; omega
    | false =>
      have HST : Hid (¬ LitHas P l v → ∀ (k : Nat) (l' : Literal), k < i + 1 → L[k]? = some l' → ¬ LitHas P l' v) := fun h => (HSTEP h).out
      clear HSTEP hl
      go_wp2_with fail
      refine wp_loop_f 61 (ipY W (some ⟨bP, 0, none⟩) N cP b i l v) (fun f _ => 4 - (intOf (f 8)).toNat) rfl ?_ ?_
      · exact ⟨rfl, rfl, rfl, rfl, rfl, 0, by omega, rfl, fun k h => absurd h (Nat.not_lt_zero _)⟩
      intro G V hrel
      obtain ⟨f0, f2, f4, hV, f7, c, hc, f8, HNC⟩ := hrel
      obtain rfl : V = W := hV
      have H8 : Hid (G 8 = .int .i64 (c : Nat)) := f8
      rw [frame61, f0, f2, f4, f7, f8]
      clear f0 f2 f4 f7 f8
      by_cases hca : (c : Int) < x.arity
      · obtain ⟨t1, t2⟩ := HK2.out c (by omega)
        have c0 : (0 : Int) ≤ (c : Int) := by omega
        have c1 : (c : Int) < 4 := by omega
        have c2 : ((c : Int)).toNat = c := by omega
        obtain ⟨tv, htv⟩ : ∃ tv, tv = (tA l.atom c).var := ⟨_, rfl⟩
        obtain ⟨tn, htn⟩ : ∃ tn, tn = (tA l.atom c).n := ⟨_, rfl⟩
        rw [← htv] at t1
        rw [← htn] at t2
        have HTV := hid_of htv
        have HTN := hid_of htn
        clear htv htn
        have HC' : ¬ ColHas l v c → Hid (∀ k, k < c + 1 → ¬ ColHas l v k) := fun hn k hk => by
          by_cases hkc : k = c
          · subst hkc; exact hn
          · exact HNC.out k (by omega)
        cases tv with
        | false =>
          have HI' := HC' (fun h => by have := h.1; rw [← HTV.out] at this; cases this)
          clear HC'
          by_cases hv : tn = v
          all_goals go_wp2_with fail
          all_goals refine ⟨rfl, rfl, ⟨rfl, rfl, rfl, rfl, rfl, c + 1, by omega, ?_, HI'⟩, ?_⟩
          all_goals first
            | (show Value.int .i64 _ = _
               go_num)
            | (show 4 - (intOf (Value.int .i64 _)).toNat < 4 - (intOf (G 8)).toNat
               rw [H8.out]
               simp [intOf]; omega)
        | true =>
          by_cases hv : tn = v
          · have HP9 : Hid (BoolX w (InPos P L v) (.returned (.bool true)) V) := ⟨true, rfl, ⟨fun _ => ⟨l, HLM.out, HNG.out.symm, c, by rw [HARA.out]; omega, HTV.out.symm, HTN.out.symm.trans hv⟩, fun _ => rfl⟩, HE1.out⟩
            clear HC'
            go_wp2_with fail
            go_ret
            exact HP9.out
          · have HI' := HC' (fun h => hv (HTN.out.trans h.2))
            clear HC'
            go_wp2_with fail
            refine ⟨rfl, rfl, ⟨rfl, rfl, rfl, rfl, rfl, c + 1, by omega, ?_, HI'⟩, ?_⟩
            · show Value.int .i64 _ = _
              go_num
            · show 4 - (intOf (Value.int .i64 _)).toNat < 4 - (intOf (G 8)).toNat
              rw [H8.out]
              simp [intOf]; omega
      · have HI' : Hid (∀ (k : Nat) (l' : Literal), k < i + 1 → L[k]? = some l' → ¬ LitHas P l' v) := HST.out (fun h => by
          obtain ⟨_, k, hk1, hk2⟩ := h
          rw [HARA.out] at hk1
          exact HNC.out k (by omega) hk2)
        go_wp2_with fail
        refine ⟨rfl, rfl, ⟨rfl, rfl, rfl, rfl, i + 1, by omega, ?_, HI'⟩, ?_⟩
        · show Value.int .i64 _ = _
          go_num
        · show bn - (intOf (Value.int .i64 _)).toNat < bn - (intOf (F 7)).toNat
          rw [H7.out]
          simp [intOf]; omega
  · obtain rfl : i = bn := by omega
    have HP9 : Hid (BoolX w (InPos P L v) (.returned (.bool false)) W) := ⟨false, rfl, ⟨fun h => absurd h (by decide), fun ⟨l, hl, h⟩ => by
      obtain ⟨k, hk⟩ := List.mem_iff_getElem?.1 hl
      exact absurd h (HNO.out k l (by rw [← HL.out.1]; exact (List.getElem?_eq_some_iff.1 hk).1) hk)⟩, HE1.out⟩
    go_wp2_with fail
    go_ret
    exact HP9.out
theorem restr_iff {P : List PredInfo} {L : List Literal} {a : Atom} : Restr P L a ↔ ∀ c, c < arA P a → (tA a c).var = true → InPos P L (tA a c).n := Iff.rfl
end Go.Proofs.Qxb6500788a
