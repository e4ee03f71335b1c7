import Derived.Test.Qxb6500788aVd
import Derived.StillTailTactics
import Derived.Deep.QuietTactic
import Derived.BigQuiet
import Derived.Deep.RegionHeld
import Derived.Deep.CutRange
import Derived.Laws.ResultCell
import Derived.Laws.Rows
import Derived.DeepKeys
import Derived.DataBytes
import Derived.Laws.StructEq
import Derived.Laws.AppendOwn
import Derived.Laws.MakeOwn
set_option linter.unusedSimpArgs false
set_option linter.unusedVariables false
namespace Go.Proofs.Qxb6500788a
open Go.RowKit Go.Blk
attribute [local go_sem ↓] execOp_load execOp_store execOp_alloc
attribute [local go_sem] Try.ld24 Try.st24 Try.ld25 Try.st25 Try.ld3 Try.st3 Try.ld30 Try.st30 Try.ld36 Try.st36 Try.ld4 Try.st4 Try.ld41 Try.st41 Try.ld50 Try.st50 Try.ld40 Try.st40 Try.ld42 Try.st42 Try.ld89 Try.st89 Try.ld91 Try.st91 Try.ld56 Try.st56 Try.ld97 Try.st97 Try.ld98 Try.st98 Try.ld101 Try.st101 Try.ld104 Try.st104 Try.ld57 Try.st57 Try.ld130 Try.st130 Try.ld2 Try.st2 Try.ld5 Try.st5 Try.ld9 Try.st9 Try.ld12 Try.st12 Try.ld21 Try.st21 Try.ld22 Try.st22 Try.ld29 Try.st29 Try.ld33 Try.st33 Try.ld59 Try.st59 Try.ld62 Try.st62 Try.ld69 Try.st69 Try.ld94 Try.st94 Try.ld96 Try.st96 Try.ld129 Try.st129 Try.ld158 Try.st158 Try.ld162 Try.st162 Try.ld47 Try.st47 Try.ld44 Try.st44 Try.ld137 Try.st137 Try.ld145 Try.st145 Try.ld43 Try.st43 Try.ld27 Try.st27 Try.ld38 Try.st38 Try.ld46 Try.st46 Try.ld49 Try.st49 Try.ld52 Try.st52 Try.ld54 Try.st54 Try.ld61 Try.st61 Try.ld80 Try.st80 Try.ld87 Try.st87 Try.ld93 Try.st93 Try.ld100 Try.st100 Try.ld103 Try.st103 Try.ld106 Try.st106 Try.ld109 Try.st109 Try.ld132 Try.st132 Try.ld147 Try.st147 Try.al47 Try.al44 Try.al137 Try.al145 Try.al43 Try.al27 Try.al38 Try.al46 Try.al49 Try.al52 Try.al54 Try.al61 Try.al80 Try.al87 Try.al93 Try.al100 Try.al103 Try.al106 Try.al109 Try.al132 Try.al147
attribute [local go_sem] GProgram.length_enc GProgram.ok_enc GProgram.all_get GProgram.all_set GProgram.preds_get GProgram.preds_set GProgram.rules_get GProgram.rules_set GProgram.strata_get GProgram.strata_set Answer.length_enc Answer.ok_enc Answer.all_get Answer.all_set Answer.code_get Answer.code_set Answer.n_get Answer.n_set Answer.rows_get Answer.rows_set Term.length_enc Term.ok_enc Term.all_get Term.all_set Term.var_get Term.var_set Term.n_get Term.n_set Atom.length_enc Atom.ok_enc Atom.all_get Atom.all_set Atom.pred_get Atom.pred_set Atom.args_get Atom.args_set GRule.length_enc GRule.ok_enc GRule.all_get GRule.all_set GRule.head_get GRule.head_set GRule.body_get GRule.body_set GRule.head_pred_get GRule.head_pred_set GRule.head_args_get GRule.head_args_set GOp.length_enc GOp.ok_enc GOp.all_get GOp.all_set GOp.kind_get GOp.kind_set GOp.pred_get GOp.pred_set GOp.t_get GOp.t_set GOp.n_get GOp.n_set GOp.base_get GOp.base_set GOp.rule_get GOp.rule_set GOp.rule_head_get GOp.rule_head_set GOp.rule_body_get GOp.rule_body_set GOp.rule_head_pred_get GOp.rule_head_pred_set GOp.rule_head_args_get GOp.rule_head_args_set PredInfo.length_enc PredInfo.ok_enc PredInfo.all_get PredInfo.all_set PredInfo.arity_get PredInfo.arity_set PredInfo.base_get PredInfo.base_set PredInfo.stratum_get PredInfo.stratum_set GStats.length_enc GStats.ok_enc GStats.all_get GStats.all_set GStats.rounds_get GStats.rounds_set GStats.fired_get GStats.fired_set GStats.emitted_get GStats.emitted_set GStats.fresh_get GStats.fresh_set Literal.length_enc Literal.ok_enc Literal.all_get Literal.all_set Literal.neg_get Literal.neg_set Literal.atom_get Literal.atom_set Literal.atom_pred_get Literal.atom_pred_set Literal.atom_args_get Literal.atom_args_set Engine.length_enc Engine.ok_enc Engine.all_get Engine.all_set Engine.prog_get Engine.prog_set Engine.st_get Engine.st_set Engine.levels_get Engine.levels_set Engine.running_get Engine.running_set Engine.stratum_get Engine.stratum_set Engine.round_get Engine.round_set Engine.saved_get Engine.saved_set Engine.stats_get Engine.stats_set Engine.prog_preds_get Engine.prog_preds_set Engine.prog_rules_get Engine.prog_rules_set Engine.prog_strata_get Engine.prog_strata_set Engine.stats_rounds_get Engine.stats_rounds_set Engine.stats_fired_get Engine.stats_fired_set Engine.stats_emitted_get Engine.stats_emitted_set Engine.stats_fresh_get Engine.stats_fresh_set Level.length_enc Level.ok_enc Level.all_get Level.all_set Level.heads_get Level.heads_set Level.jobs_get Level.jobs_set Plan.length_enc Plan.ok_enc Plan.all_get Plan.all_set Plan.rule_get Plan.rule_set Plan.delta_get Plan.delta_set Plan.src_get Plan.src_set Job.length_enc Job.ok_enc Job.all_get Job.all_set Job.full_get Job.full_set Job.deltas_get Job.deltas_set Job.full_rule_get Job.full_rule_set Job.full_delta_get Job.full_delta_set Job.full_src_get Job.full_src_set GState.length_enc GState.ok_enc GState.all_get GState.all_set GState.prog_get GState.prog_set GState.base_get GState.base_set GState.shown_get GState.shown_set GState.prog_preds_get GState.prog_preds_set GState.prog_rules_get GState.prog_rules_set GState.prog_strata_get GState.prog_strata_set Store.length_enc Store.ok_enc Store.all_get Store.all_set Store.arity_get Store.arity_set Store.rows_get Store.rows_set Env.length_enc Env.ok_enc Env.all_get Env.all_set Env.val_get Env.val_set Env.set_get Env.set_set
attribute [local go_sem] size_put size_ext blk_put free_put blk_alloc free_alloc blk_drew free_drew blk_ext free_ext lookOr_some putOr_some segAt_some cellAt_some storeIn_some put_put put_alloc_new length_arr ok_arr_u8 ok_arr_u32 ok_arr_u64 ok_arr_i64 ok_arr_sl cellsV_agg cellsV_int cellsV_bool cellsV_string cellsV_pointer cellsV_slice cellsV_sl ok_int ok_bool ok_string ok_pointer ok_slice ok_sl toList_arr seg_arr set_arr nth_splice nth_splice0 seg_splice seg_splice0 splice_splice splice_splice0 length_splice_if
attribute [local go_sem ↓] execOp_box
attribute [local go_sem] box_run nth_arr_u8 put_arr_u8 blk_drewN free_drewN put_drewN blk_raw free_raw
def sOf (P : List PredInfo) (q : Nat) : Int := (P.getD q ⟨0, false, 0⟩).stratum
/-- A rule's literals lie low enough. -/
def LitC (f : Nat → Int) (r : GRule) (l : Literal) : Prop := f l.atom.pred.toNat + (if l.neg then 1 else 0) ≤ f r.head.pred.toNat
def Cst (f : Nat → Int) (r : GRule) (L : List Literal) : Prop := ∀ l ∈ L, LitC f r l
/-- Numbers that layer the rules. -/
def Sol (R : List GRule) (Ls : Nat → List Literal) (N : Nat) (f : Nat → Int) : Prop := (∀ q, 0 ≤ f q) ∧ ∀ (k : Nat) (r : GRule), R[k]? = some r → Cst f r (Ls k) ∧ f r.head.pred.toNat < (N : Int)
def LeS (R : List GRule) (Ls : Nat → List Literal) (N : Nat) (P : List PredInfo) : Prop := ∀ f, Sol R Ls N f → ∀ (q : Nat) (x : PredInfo), P[q]? = some x → x.stratum ≤ f q
def FixU (R : List GRule) (Ls : Nat → List Literal) (P : List PredInfo) (i : Nat) : Prop := ∀ (k : Nat) (r : GRule), k < i → R[k]? = some r → Cst (sOf P) r (Ls k)
def FixL (P : List PredInfo) (r : GRule) (L : List Literal) (j : Nat) : Prop := ∀ (k : Nat) (l : Literal), k < j → L[k]? = some l → LitC (sOf P) r l
/-- The rules in memory, each well formed, with the bodies told. -/
def RulesIx (W : World) (bp bP : Nat) (N : Nat) (P : List PredInfo) (R : List GRule) (Ls : Nat → List Literal) : Prop :=
  ∀ (k : Nat) (r : GRule), R[k]? = some r → ∃ ba bc bL oL, Sl.val r.body = .slice ba (Ls k).length bc ∧ At Literal.enc 10 W bL oL ba (Ls k).length (Ls k) ∧ bL ≠ bp ∧ bL ≠ bP ∧ RuleWf N P r (Ls k).length (Ls k)
def LayX (P : List PredInfo) (R : List GRule) (Ls : Nat → List Literal) (S : Int) : Prop := (∀ (k : Nat) (x : PredInfo), P[k]? = some x → 0 ≤ x.stratum ∧ x.stratum < S) ∧ ∀ (k : Nat) (r : GRule), R[k]? = some r → Cst (sOf P) r (Ls k)
def StratX (bp bP : Nat) (aP : Option Addr) (N cP : Nat) (aR : Option Addr) (M cR : Nat) (P : List PredInfo) (R : List GRule) (Ls : Nat → List Literal) (w : World) (e : Ending) (w' : World) : Prop :=
  ∃ b P' S', e = .returned (.bool b) ∧ PM bp bP aP N cP aR M cR S' P' w' ∧ Kin P P' ∧ Side (DS N bp bP) w w' ∧ (b = true → 1 ≤ S' ∧ S' ≤ 65 ∧ LayX P' R Ls S') ∧ (b = true ↔ ∃ f, Sol R Ls N f)
theorem sOf_some {P : List PredInfo} {q : Nat} {x : PredInfo} (h : P[q]? = some x) : sOf P q = x.stratum := by
  unfold sOf
  rw [List.getD_eq_getElem?_getD, h]; rfl
theorem LeS.raise {R : List GRule} {Ls : Nat → List Literal} {N : Nat} {P : List PredInfo} (h : LeS R Ls N P) {hd q : Nat} {x : PredInfo} {k : Nat} {r : GRule} (hr : R[k]? = some r) (hh : r.head.pred = (hd : Int)) {l : Literal} (hl : l ∈ Ls k) (hq : l.atom.pred = (q : Int)) (hx : P[q]? = some x) {v : Int} (hv : v = x.stratum + (if l.neg then 1 else 0)) : LeS R Ls N (setS P hd v) := by
  intro f hf q' y hy
  rcases setS_mem hy with ⟨e1, e2⟩ | ⟨e1, e2⟩
  · have h1 := (hf.2 k r hr).1 l hl
    unfold LitC at h1
    rw [hh, hq, Int.toNat_natCast, Int.toNat_natCast] at h1
    have h2 := h f hf q x hx
    rw [e1, e2, hv]; omega
  · exact h f hf q' y e2
def stAx (w : World) (bp bP : Nat) (aP : Option Addr) (N cP : Nat) (aR : Option Addr) (M cR : Nat) (S : Int) (P0 : List PredInfo) (f : Nat → Value) (W : World) : Prop :=
  f 0 = .pointer (some ⟨bp, 0, none⟩) ∧ ∃ (i : Nat) (P : List PredInfo), i ≤ N ∧ f 3 = .int .i64 (i : Nat) ∧ Hid (PM bp bP aP N cP aR M cR S P W) ∧ Hid (Kin P0 P) ∧ Hid (Side (DS N bp bP) w W) ∧ Hid (∀ (k : Nat) (x : PredInfo), k < i → P[k]? = some x → x.stratum = 0)
def stBx (w : World) (bp bP : Nat) (aP : Option Addr) (N cP : Nat) (aR : Option Addr) (M cR : Nat) (S : Int) (P0 : List PredInfo) (R : List GRule) (Ls : Nat → List Literal) (n : Nat) (f : Nat → Value) (W : World) : Prop :=
  f 0 = .pointer (some ⟨bp, 0, none⟩) ∧ ∃ (rz : Bool) (P : List PredInfo), f 4 = .bool rz ∧ Hid (PM bp bP aP N cP aR M cR S P W) ∧ Hid (Kin P0 P) ∧ Hid (Side (DS N bp bP) w W) ∧ Hid (Low P N) ∧ Hid (n = if rz then 1 + (4096 - sumS P) else 0) ∧ Hid (LeS R Ls N P) ∧ Hid (rz = false → FixU R Ls P M)
def stCx (w : World) (bp bP : Nat) (aP : Option Addr) (N cP : Nat) (aR : Option Addr) (M cR : Nat) (S : Int) (P0 : List PredInfo) (R : List GRule) (Ls : Nat → List Literal) (s0 : Nat) (f : Nat → Value) (W : World) : Prop :=
  f 0 = .pointer (some ⟨bp, 0, none⟩) ∧ ∃ (rz : Bool) (P : List PredInfo) (i : Nat), f 4 = .bool rz ∧ i ≤ M ∧ f 5 = .int .i64 (i : Nat) ∧ Hid (PM bp bP aP N cP aR M cR S P W) ∧ Hid (Kin P0 P) ∧ Hid (Side (DS N bp bP) w W) ∧ Hid (Low P N) ∧ Hid (s0 ≤ sumS P) ∧ Hid (rz = true → s0 + 1 ≤ sumS P) ∧ Hid (LeS R Ls N P) ∧ Hid (rz = false → FixU R Ls P i)
def stDx (w : World) (bp bP : Nat) (aP : Option Addr) (N cP : Nat) (aR : Option Addr) (M cR : Nat) (S : Int) (P0 : List PredInfo) (R : List GRule) (Ls : Nat → List Literal) (r : GRule) (s0 i h bn : Nat) (f : Nat → Value) (W : World) : Prop :=
  f 0 = .pointer (some ⟨bp, 0, none⟩) ∧ f 5 = .int .i64 (i : Nat) ∧ f 6 = .int .i64 (h : Nat) ∧ ∃ (rz : Bool) (P : List PredInfo) (j : Nat), f 4 = .bool rz ∧ j ≤ bn ∧ f 7 = .int .i64 (j : Nat) ∧ Hid (PM bp bP aP N cP aR M cR S P W) ∧ Hid (Kin P0 P) ∧ Hid (Side (DS N bp bP) w W) ∧ Hid (Low4 P N h j) ∧ Hid (s0 ≤ sumS P) ∧ Hid (rz = true → s0 + 1 ≤ sumS P) ∧ Hid (LeS R Ls N P) ∧ Hid (rz = false → FixU R Ls P i) ∧ Hid (rz = false → FixL P r (Ls i) j)
def stEx (w : World) (bp bP : Nat) (aP : Option Addr) (N cP : Nat) (aR : Option Addr) (M cR : Nat) (P : List PredInfo) (f : Nat → Value) (W : World) : Prop :=
  f 0 = .pointer (some ⟨bp, 0, none⟩) ∧ ∃ (i : Nat) (S : Int), i ≤ N ∧ f 9 = .int .i64 (i : Nat) ∧ 1 ≤ S ∧ S ≤ 65 ∧ Hid (PM bp bP aP N cP aR M cR S P W) ∧ Hid (Side (DS N bp bP) w W) ∧ Hid (∀ (k : Nat) (x : PredInfo), k < i → P[k]? = some x → x.stratum < S)
attribute [local go_sem] prg_len prg0 prg1 prg2 prg_set0 prg_set1 prg_set2 prg_all prg_ok
set_option maxRecDepth 20000 in
set_option maxHeartbeats 8000000 in
theorem stratify_x (w : World) (bp bP bR : Nat) (aP : Option Addr) (N cP : Nat) (aR : Option Addr) (M cR : Nat) (S : Int) (P : List PredInfo) (R : List GRule) (Ls : Nat → List Literal) (hPM : PM bp bP aP N cP aR M cR S P w) (hne : bp ≠ bP) (hR : At GRule.enc 10 w bR 0 aR M R) (hRne : M ≠ 0 → bR ≠ bp ∧ (N ≠ 0 → bR ≠ bP)) (hRok : RulesIx w bp bP N P R Ls) (hN : N ≤ 64) (hM : M ≤ 128) :
    Calls Try.prog 71 #[.pointer (some ⟨bp, 0, none⟩)] w (StratX bp bP aP N cP aR M cR P R Ls w) := by
  have HPM : Hid (PM bp bP aP N cP aR M cR S P w) := hPM
  have HRm : ∀ W, Hid (Side (DS N bp bP) w W → At GRule.enc 10 W bR 0 aR M R) := fun W hs => hR.mono (fun h0 => by
    obtain ⟨_, C, h1, _⟩ := hR.2 h0
    exact hs.blk (blk_lt h1) (fun hd => by rcases hd with h | h; exact (hRne h0).1 h; exact (hRne h0).2 h.1 h.2))
  have HRO : Hid (∀ (k : Nat) (r : GRule), R[k]? = some r → ∃ ba bc bL oL, Sl.val r.body = .slice ba (Ls k).length bc ∧ (∀ W, Side (DS N bp bP) w W → At Literal.enc 10 W bL oL ba (Ls k).length (Ls k)) ∧ RuleWf N P r (Ls k).length (Ls k)) := fun k r hr => by
    obtain ⟨ba, bc, bL, oL, h1, h2, h3, h4, h5⟩ := hRok k r hr
    refine ⟨ba, bc, bL, oL, h1, fun W hs => h2.mono (fun h0 => ?_), h5⟩
    obtain ⟨_, C, h6, _⟩ := h2.2 h0
    exact hs.blk (blk_lt h6) (fun hd => by rcases hd with h | h; exact h3 h; exact h4 h.2)
  have HRL : Hid (R.length = M) := hR.1
  have HNE : Hid (bp ≠ bP) := hne
  have n1 : ¬ bP = bp := fun h => hne h.symm
  clear hPM hR hRne hRok
  go_enter Try.func71, Try.ntmps71
  go_wp2_with fail
  refine wp_loop_f 162 (stAx w bp bP aP N cP aR M cR S P) (fun f _ => N - (intOf (f 3)).toNat) rfl ?_ ?_
  · exact ⟨rfl, 0, P, by omega, rfl, HPM, rfl, Side.refl _ _, fun k x h => absurd h (Nat.not_lt_zero _)⟩
  clear HPM
  intro F W hrel
  obtain ⟨f0, i, P1, hi, f3, HM, HK, HS, HZ⟩ := hrel
  have H3 : Hid (F 3 = .int .i64 (i : Nat)) := f3
  rw [frame162, f0, f3]
  clear f0 f3
  obtain ⟨hb, hbf, _, _⟩ := HM.out
  by_cases hiN : i < N
  · obtain ⟨x, C, hx, rfl, hC, hCf, hCl, _, _, _, _⟩ := HM.out.at hiN
    have i0 : (0 : Int) ≤ (i : Int) := by omega
    have i1 : (i : Int) < (N : Int) := by omega
    have i2 : ((i : Int)).toNat = i := by omega
    have l1 : i * 3 + 2 < C.length := by omega
    have l2 : i * 3 + 2 + 1 ≤ C.length := by omega
    have HM' : Hid (PM bp bP (some ⟨bP, 0, none⟩) N cP aR M cR S (setS P1 i 0) (put W bP (splice C (i * 3 + 2) [.int .i64 0]))) := HM.out.setS HNE.out hC hiN 0
    have HZ' : Hid (∀ (k : Nat) (x : PredInfo), k < i + 1 → (setS P1 i 0)[k]? = some x → x.stratum = 0) := fun k y hk hy => by
      rcases setS_mem hy with ⟨_, h⟩ | ⟨h, h'⟩
      · exact h
      · exact HZ.out k y (by omega) h'
    clear hx
    go_wp2_with fail
    refine ⟨rfl, rfl, ⟨rfl, i + 1, setS P1 i 0, by omega, ?_, HM', HK.out.set _ _, HS.out.put (.inr ⟨by omega, rfl⟩) _, HZ'⟩, ?_⟩
    · show Value.int .i64 _ = _
      go_num
    · show N - (intOf (Value.int .i64 _)).toNat < N - (intOf (F 3)).toNat
      rw [H3.out]
      simp [intOf]; omega
  obtain rfl : i = N := by omega
  have HL1 : Hid (Low P1 i) := fun k x hx => by
    have hk : k < i := by rw [← HM.out.2.2.1.1]; exact (List.getElem?_eq_some_iff.1 hx).1
    have := HZ.out k x hk hx
    omega
  have HLE1 : Hid (LeS R Ls i P1) := fun f hf q x hx => by
    have hk : q < i := by rw [← HM.out.2.2.1.1]; exact (List.getElem?_eq_some_iff.1 hx).1
    have h1 := HZ.out q x hk hx
    have h2 := hf.1 q
    omega
  go_wp2_with fail
  clear hb hbf HZ H3
  refine wp_loop_ix 162 (stBx w bp bP aP i cP aR M cR S P R Ls) (1 + (4096 - sumS P1)) rfl ?_ ?_
  · exact ⟨rfl, true, P1, rfl, HM, HK, HS, HL1, rfl, HLE1, fun h => absurd h (by decide)⟩
  clear HM HK HS HL1 HLE1
  intro nn F W hrel μ HMU
  obtain ⟨f0, rz, P2, f4, HM, HK, HS, HL, HNn, HLE, HFX⟩ := hrel
  rw [frame162, f0, f4]
  clear f0 f4
  obtain ⟨hb, hbf, _, _⟩ := HM.out
  cases rz with
  | true =>
    go_wp2_with fail
    refine wp_loop_f 162 (stCx w bp bP aP i cP aR M cR S P R Ls (sumS P2)) (fun f _ => M - (intOf (f 5)).toNat) rfl ?_ ?_
    · exact ⟨rfl, false, P2, 0, rfl, by omega, rfl, HM, HK, HS, HL, Nat.le_refl _, fun h => absurd h (by decide), HLE, fun _ k r h => absurd h (Nat.not_lt_zero _)⟩
    clear HM HK HS HL hb hbf HLE HFX
    intro G V hrel
    obtain ⟨f0, rz, P3, k, f4, hk, f5, HM, HK, HS, HL, HS0, HS1, HLE, HFU⟩ := hrel
    have H5 : Hid (G 5 = .int .i64 (k : Nat)) := f5
    rw [frame162, f0, f4, f5]
    clear f0 f4 f5
    obtain ⟨hb, hbf, _, _⟩ := HM.out
    by_cases hkM : k < M
    · obtain ⟨r, hr⟩ : ∃ r, R[k]? = some r := by obtain ⟨r, _, h, _⟩ := ((HRm V).out HS.out).get hkM; exact ⟨r, h⟩
      obtain ⟨ba, bc, bL, oL, hsv, hLm, hbn, ⟨p0, p1⟩, _, hLp⟩ := HRO.out k r hr
      obtain ⟨bn, hbnd⟩ : ∃ bn, bn = (Ls k).length := ⟨_, rfl⟩
      rw [← hbnd] at hsv hLm hbn
      have HBN := hid_of hbnd
      clear hbnd
      have HLm : Hid (∀ W, Side (DS i bp bP) w W → At Literal.enc 10 W bL oL ba bn (Ls k)) := hLm
      have HLp : Hid (∀ l ∈ Ls k, 0 ≤ l.atom.pred ∧ l.atom.pred < i) := hLp
      obtain ⟨h, hh⟩ : ∃ h : Nat, r.head.pred = (h : Int) := ⟨r.head.pred.toNat, by omega⟩
      have hhN : h < i := by omega
      have HRA : Hid (∀ W, Side (DS i bp bP) w W → ∃ CR, aR = some ⟨bR, 0, none⟩ ∧ blk W bR = some CR ∧ k * 10 + 10 ≤ CR.length ∧ nth CR (k * 10) = some (.int .i64 (h : Int)) ∧ nth CR (k * 10 + 9) = some (.slice ba bn bc)) := fun W hs => rule_at ((HRm W).out hs) hkM hr hsv hh
      have HRR := hid_of hr
      have HHH := hid_of hh
      clear hr hsv hLm hLp p0 p1 hh
      obtain ⟨CR, rfl, hCR, hCRl, c0, c9⟩ := HRA.out V HS.out
      have k0 : (0 : Int) ≤ (k : Int) := by omega
      have k1 : (k : Int) < (M : Int) := by omega
      have k2 : ((k : Int)).toNat = k := by omega
      have HL4 : Hid (Low4 P3 i h 0) := fun k' x hx => by
        have := HL.out k' x hx
        exact ⟨this.1, fun _ => this.2, by omega⟩
      go_wp2_with fail
      clear hCR hCRl c0 c9 hb hbf HL
      refine wp_loop_f 162 (stDx w bp bP aP i cP (some ⟨bR, 0, none⟩) M cR S P R Ls r (sumS P2) k h bn) (fun f _ => bn - (intOf (f 7)).toNat) rfl ?_ ?_
      · exact ⟨rfl, rfl, rfl, rz, P3, 0, rfl, by omega, rfl, HM, HK, HS, HL4, HS0, HS1, HLE, HFU, fun _ k l h => absurd h (Nat.not_lt_zero _)⟩
      clear HM HK HS HL4 HS0 HS1 HLE HFU
      intro J U hrel
      obtain ⟨f0, f5, f6, rz, P4, j, f4, hj, f7, HM, HK, HS, HL4, HS0, HS1, HLE, HFU, HFL⟩ := hrel
      have H7 : Hid (J 7 = .int .i64 (j : Nat)) := f7
      rw [frame162, f0, f4, f5, f6, f7]
      clear f0 f4 f5 f6 f7
      obtain ⟨hb, hbf, _, _⟩ := HM.out
      obtain ⟨CR, _, hCR, hCRl, c0, c9⟩ := HRA.out U HS.out
      obtain ⟨y, C, hy, rfl, hC, hCf, hCl, _, _, hy2, _⟩ := HM.out.at hhN
      have HY : Hid (P4[h]? = some y) := hy
      have HYL : Hid (0 ≤ y.stratum ∧ y.stratum ≤ (i : Int) - 1 + j) := ⟨(HL4.out h y hy).1, (HL4.out h y hy).2.2⟩
      have h0 : (0 : Int) ≤ (h : Int) := by omega
      have h1 : (h : Int) < (i : Int) := by omega
      have h2 : ((h : Int)).toNat = h := by omega
      have l3 : h * 3 + 2 < C.length := by omega
      have l4 : h * 3 + 2 + 1 ≤ C.length := by omega
      clear hy
      by_cases hjn : j < bn
      · obtain ⟨l, CL, q, hl, hq, hqN, rfl, hCL, hCLl, d0, d1⟩ := lit_at (HLm.out U HS.out) HLp.out hjn
        obtain ⟨x, C', hx, _, hC', _, _, _, _, hx2, _⟩ := HM.out.at hqN
        obtain rfl : C' = C := Option.some.inj (hC'.symm.trans hC)
        obtain ⟨b1, _, b2⟩ := HL4.out q x hx
        obtain ⟨s, hs⟩ : ∃ s, s = x.stratum := ⟨_, rfl⟩
        obtain ⟨t, ht⟩ : ∃ t, t = y.stratum := ⟨_, rfl⟩
        rw [← hs] at hx2 b1 b2
        rw [← ht] at hy2 HYL
        have HT : Hid (t = y.stratum) := ht
        obtain ⟨ng, hng⟩ : ∃ ng, ng = l.neg := ⟨_, rfl⟩
        rw [← hng] at d0
        have q0 : (0 : Int) ≤ (q : Int) := by omega
        have q1 : (q : Int) < (i : Int) := by omega
        have q2 : ((q : Int)).toNat = q := by omega
        have j0 : (0 : Int) ≤ (j : Int) := by omega
        have j1 : (j : Int) < (bn : Int) := by omega
        have j2 : ((j : Int)).toNat = j := by omega
        have l5 : q * 3 + 2 < C'.length := by omega
        have s9 : s ≤ 1000 := by omega
        have HNR : ∀ ng', ng' = l.neg → (x.stratum + (if ng' then 1 else 0) ≤ y.stratum) → Hid (rz = false → FixL P4 r (Ls k) (j + 1)) := fun ng' e hle hrz k' l' hk' hl' => by
          by_cases hkj : k' = j
          · subst hkj
            obtain rfl : l' = l := Option.some.inj (hl'.symm.trans hl)
            unfold LitC
            rw [hq, HHH.out, Int.toNat_natCast, Int.toNat_natCast, sOf_some hx, sOf_some HY.out, ← e]
            exact hle
          · exact HFL.out hrz k' l' (by omega) hl'
        have HRA9 : ∀ ng', ng' = l.neg → ∀ v, v = x.stratum + (if ng' then 1 else 0) → Hid (LeS R Ls i (setS P4 h v)) := fun ng' e v hv => HLE.out.raise HRR.out HHH.out (List.mem_of_getElem? hl) hq hx (by rw [hv, e])
        rw [← hs] at HNR HRA9
        rw [← ht] at HNR
        clear hl hq hC' hx hs ht
        cases ng with
        | false =>
          have HNR1 : Hid (¬ t < s → rz = false → FixL P4 r (Ls k) (j + 1)) := fun h9 => (HNR false hng (by show s + 0 ≤ t; omega)).out
          have HRA1 := HRA9 false hng s (by show s = s + 0; omega)
          clear HNR HRA9 hng
          by_cases hlt : t < s
          · obtain ⟨HL5, HS5⟩ := raise_step (v := s) HY.out HL4.out (by rw [← HT.out]; exact hlt) (by omega)
            have HL5' : Hid (Low4 (setS P4 h (s)) i h (j + 1)) := HL5
            have HS5' : Hid (sumS P4 + 1 ≤ sumS (setS P4 h (s))) := HS5
            clear HL5 HS5
            repeat go_step
            go_quiet (fail)
            go_wp2_with fail
            refine ⟨rfl, rfl, ⟨rfl, rfl, rfl, true, setS P4 h (s), j + 1, rfl, by omega, ?_, (HM.out.drewN _).setS HNE.out hC hhN _, HK.out.set _ _, (HS.out.drewN _).put (.inr ⟨by omega, rfl⟩) _, HL5', Nat.le_trans HS0.out (Nat.le_of_succ_le HS5'.out), fun _ => Nat.le_trans (Nat.succ_le_succ HS0.out) HS5'.out, HRA1, fun h => absurd h (by decide), fun h => absurd h (by decide)⟩, ?_⟩
            · show Value.int .i64 _ = _
              go_num
            · show bn - (intOf (Value.int .i64 _)).toNat < bn - (intOf (J 7)).toNat
              rw [H7.out]
              simp [intOf]; omega
          · have HFL' : Hid (rz = false → FixL P4 r (Ls k) (j + 1)) := HNR1.out hlt
            clear HRA1 HNR1
            repeat go_step
            go_quiet (fail)
            go_wp2_with fail
            refine ⟨rfl, rfl, ⟨rfl, rfl, rfl, rz, P4, j + 1, rfl, by omega, ?_, HM, HK, HS.out.drewN _, HL4.out.step, HS0, HS1, HLE, HFU, HFL'⟩, ?_⟩
            · show Value.int .i64 _ = _
              go_num
            · show bn - (intOf (Value.int .i64 _)).toNat < bn - (intOf (J 7)).toNat
              rw [H7.out]
              simp [intOf]; omega
        | true =>
          have HNR1 : Hid (¬ t < s + 1 → rz = false → FixL P4 r (Ls k) (j + 1)) := fun h9 => (HNR true hng (by show s + 1 ≤ t; omega)).out
          have HRA1 := HRA9 true hng (s + 1) rfl
          clear HNR HRA9 hng
          by_cases hlt : t < s + 1
          · obtain ⟨HL5, HS5⟩ := raise_step (v := s + 1) HY.out HL4.out (by rw [← HT.out]; exact hlt) (by omega)
            have HL5' : Hid (Low4 (setS P4 h (s + 1)) i h (j + 1)) := HL5
            have HS5' : Hid (sumS P4 + 1 ≤ sumS (setS P4 h (s + 1))) := HS5
            clear HL5 HS5
            repeat go_step
            go_quiet (fail)
            go_wp2_with fail
            refine ⟨rfl, rfl, ⟨rfl, rfl, rfl, true, setS P4 h (s + 1), j + 1, rfl, by omega, ?_, (HM.out.drewN _).setS HNE.out hC hhN _, HK.out.set _ _, (HS.out.drewN _).put (.inr ⟨by omega, rfl⟩) _, HL5', Nat.le_trans HS0.out (Nat.le_of_succ_le HS5'.out), fun _ => Nat.le_trans (Nat.succ_le_succ HS0.out) HS5'.out, HRA1, fun h => absurd h (by decide), fun h => absurd h (by decide)⟩, ?_⟩
            · show Value.int .i64 _ = _
              go_num
            · show bn - (intOf (Value.int .i64 _)).toNat < bn - (intOf (J 7)).toNat
              rw [H7.out]
              simp [intOf]; omega
          · have HFL' : Hid (rz = false → FixL P4 r (Ls k) (j + 1)) := HNR1.out hlt
            clear HRA1 HNR1
            repeat go_step
            go_quiet (fail)
            go_wp2_with fail
            refine ⟨rfl, rfl, ⟨rfl, rfl, rfl, rz, P4, j + 1, rfl, by omega, ?_, HM, HK, HS.out.drewN _, HL4.out.step, HS0, HS1, HLE, HFU, HFL'⟩, ?_⟩
            · show Value.int .i64 _ = _
              go_num
            · show bn - (intOf (Value.int .i64 _)).toNat < bn - (intOf (J 7)).toNat
              rw [H7.out]
              simp [intOf]; omega
      · obtain rfl : j = bn := by omega
        by_cases hge : (i : Int) ≤ y.stratum
        · repeat go_step
          go_quiet (fail)
          go_wp2_with fail
          go_ret
          refine ⟨false, P4, S, rfl, HM, HK, HS.out.drewN _, fun h => absurd h (by decide), fun h => absurd h (by decide), fun ⟨f, hf⟩ => ?_⟩
          have h7 := HLE.out f hf h y HY.out
          have h8 := (hf.2 k r HRR.out).2
          rw [HHH.out, Int.toNat_natCast] at h8
          omega
        · have HLn : Hid (Low P4 i) := fun k' x hx => by
            obtain ⟨a, b, c⟩ := HL4.out k' x hx
            refine ⟨a, ?_⟩
            by_cases hk' : k' = h
            · subst hk'
              obtain rfl : x = y := Option.some.inj (hx.symm.trans HY.out)
              omega
            · exact b hk'
          have HFU' : Hid (rz = false → FixU R Ls P4 (k + 1)) := fun hrz k' r' hk' hr' => by
            by_cases hkk : k' = k
            · subst hkk
              obtain rfl : r' = r := Option.some.inj (hr'.symm.trans HRR.out)
              intro l hl
              obtain ⟨j', hj'⟩ := List.mem_iff_getElem?.1 hl
              exact HFL.out hrz j' l (by rw [HBN.out]; exact (List.getElem?_eq_some_iff.1 hj').1) hj'
            · exact HFU.out hrz k' r' (by omega) hr'
          repeat go_step
          go_quiet (fail)
          go_wp2_with fail
          refine ⟨rfl, rfl, ⟨rfl, rz, P4, k + 1, rfl, by omega, ?_, HM, HK, HS.out.drewN _, HLn, HS0, HS1, HLE, HFU'⟩, ?_⟩
          · show Value.int .i64 _ = _
            go_num
          · show M - (intOf (Value.int .i64 _)).toNat < M - (intOf (G 5)).toNat
            rw [H5.out]
            simp [intOf]; omega
    · obtain rfl : k = M := by omega
      have HL' := HL
      go_wp2_with fail
      refine ⟨rfl, rfl, ⟨_, rfl, rz, P3, rfl, HM, HK, HS, HL, rfl, HLE, HFU⟩, ?_⟩
      refine HMU.out _ _ _ ⟨rfl, rz, P3, rfl, HM, HK, HS, HL, rfl, HLE, HFU⟩ ?_
      rw [HNn.out]
      cases rz with
      | false => first | omega | (simp; omega) | simp
      | true =>
        have h1 := HS1.out rfl
        have h2 := sumS_le P3 63 (fun x hx => by
          obtain ⟨q, hq, rfl⟩ := List.mem_iff_getElem.1 hx
          have := (HL.out q _ (List.getElem?_eq_getElem hq)).2
          omega)
        have h3 : P3.length = i := HM.out.2.2.1.1
        have h4 : P3.length * 63 ≤ 64 * 63 := Nat.mul_le_mul_right _ (by omega)
        first | omega | (simp only [if_true]; omega) | (simp; omega)
  | false =>
    have HM1 := HM.out.strata HNE.out 1
    have HM1' : Hid (PM bp bP aP i cP aR M cR 1 P2 (put W bp (prgE aP i cP aR M cR 1))) := HM1
    clear HM1
    go_wp2_with fail
    refine wp_loop_f 162 (stEx w bp bP aP i cP aR M cR P2) (fun f _ => i - (intOf (f 9)).toNat) rfl ?_ ?_
    · exact ⟨rfl, 0, 1, by omega, rfl, by omega, by omega, HM1', HS.out.put (.inl rfl) _, fun k x h => absurd h (Nat.not_lt_zero _)⟩
    have HFX2 : Hid (FixU R Ls P2 M) := HFX.out (by first | trivial | rfl)
    clear HM1' hb hbf HS HNn HMU
    intro G V hrel
    obtain ⟨f0, k, T, hk, f9, t1, t2, HV, HS, HTT⟩ := hrel
    have H9 : Hid (G 9 = .int .i64 (k : Nat)) := f9
    rw [frame162, f0, f9]
    clear f0 f9
    obtain ⟨hb, hbf, _, _⟩ := HV.out
    by_cases hki : k < i
    · obtain ⟨x, C, hx, rfl, hC, hCf, hCl, _, _, hx2, _⟩ := HV.out.at hki
      obtain ⟨b1, b2⟩ := HL.out k x hx
      obtain ⟨s, hs⟩ : ∃ s, s = x.stratum := ⟨_, rfl⟩
      rw [← hs] at hx2 b1 b2
      have k0 : (0 : Int) ≤ (k : Int) := by omega
      have k1 : (k : Int) < (i : Int) := by omega
      have k2 : ((k : Int)).toNat = k := by omega
      have l3 : k * 3 + 2 < C.length := by omega
      have s9 : s ≤ 1000 := by omega
      have hwr : IntKind.i64.wrap (s + 1) = s + 1 := by rw [IntKind.wrap_i64]; omega
      have HT1 : ∀ T', T ≤ T' → s < T' → Hid (∀ (k' : Nat) (x : PredInfo), k' < k + 1 → P2[k']? = some x → x.stratum < T') := fun T' h1 h2 k' x' hk' hx' => by
        by_cases hkk : k' = k
        · subst hkk
          obtain rfl : x' = x := Option.some.inj (hx'.symm.trans hx)
          rw [← hs]; exact h2
        · have := HTT.out k' x' (by omega) hx'
          omega
      clear hx hs
      by_cases hgt : T < s + 1
      · have HV' : Hid (PM bp bP (some ⟨bP, 0, none⟩) i cP aR M cR (s + 1) P2 (put V bp (prgE (some ⟨bP, 0, none⟩) i cP aR M cR (s + 1)))) := HV.out.strata HNE.out _
        have HTT' := HT1 (s + 1) (by omega) (by omega)
        clear HT1
        repeat go_step
        go_quiet (fail)
        go_wp2_with fail
        refine ⟨rfl, rfl, ⟨rfl, k + 1, s + 1, by omega, ?_, by omega, by omega, HV', (HS.out.drewN _).put (.inl rfl) _, HTT'⟩, ?_⟩
        · show Value.int .i64 _ = _
          go_num
        · show i - (intOf (Value.int .i64 _)).toNat < i - (intOf (G 9)).toNat
          rw [H9.out]
          simp [intOf]; omega
      · have HTT' := HT1 T (by omega) (by omega)
        clear HT1
        repeat go_step
        go_quiet (fail)
        go_wp2_with fail
        refine ⟨rfl, rfl, ⟨rfl, k + 1, T, by omega, ?_, by omega, by omega, HV, HS.out.drewN _, HTT'⟩, ?_⟩
        · show Value.int .i64 _ = _
          go_num
        · show i - (intOf (Value.int .i64 _)).toNat < i - (intOf (G 9)).toNat
          rw [H9.out]
          simp [intOf]; omega
    · obtain rfl : k = i := by omega
      go_wp2_with fail
      go_ret
      have hlen : P2.length = k := HV.out.2.2.1.1
      have hfx : ∀ (k' : Nat) (r : GRule), R[k']? = some r → Cst (sOf P2) r (Ls k') := fun k' r hr => HFX2.out k' r (by rw [← HRL.out]; exact (List.getElem?_eq_some_iff.1 hr).1) hr
      refine ⟨true, P2, T, rfl, HV.out, HK.out, HS.out, fun _ => ⟨t1, t2, fun k' x hx => ⟨(HL.out k' x hx).1, HTT.out k' x (by rw [← hlen]; exact (List.getElem?_eq_some_iff.1 hx).1) hx⟩, hfx⟩, fun _ => ⟨sOf P2, fun q => ?_, fun k' r hr => ⟨hfx k' r hr, ?_⟩⟩, fun _ => rfl⟩
      · cases hq : P2[q]? with
        | none =>
          unfold sOf
          rw [List.getD_eq_getElem?_getD, hq]; exact Int.le_refl _
        | some x => rw [sOf_some hq]; exact (HL.out q x hq).1
      · obtain ⟨_, _, _, _, _, _, _, ⟨p0, p1⟩, _, _⟩ := HRO.out k' r hr
        have hq : r.head.pred.toNat < P2.length := by omega
        have h5 := HL.out _ _ (List.getElem?_eq_getElem hq)
        rw [sOf_some (List.getElem?_eq_getElem hq)]
        omega
end Go.Proofs.Qxb6500788a
