import Derived.Test.Qxb6500788aSf1
import Derived.StillTailTactics
import Derived.Deep.QuietTactic
import Derived.BigQuiet
import Derived.Deep.RegionHeld
import Derived.Deep.CutRange
import Derived.Laws.ResultCell
import Derived.Laws.Rows
import Derived.DeepKeys
import Derived.DataBytes
import Derived.Laws.StructEq
import Derived.Laws.AppendOwn
set_option linter.unusedSimpArgs false
set_option linter.unusedVariables false
namespace Go.Proofs.Qxb6500788a
open Go.RowKit Go.Blk
attribute [local go_sem ↓] execOp_load execOp_store execOp_alloc
attribute [local go_sem] Try.ld24 Try.st24 Try.ld25 Try.st25 Try.ld3 Try.st3 Try.ld30 Try.st30 Try.ld36 Try.st36 Try.ld4 Try.st4 Try.ld41 Try.st41 Try.ld50 Try.st50 Try.ld40 Try.st40 Try.ld42 Try.st42 Try.ld89 Try.st89 Try.ld91 Try.st91 Try.ld56 Try.st56 Try.ld97 Try.st97 Try.ld98 Try.st98 Try.ld101 Try.st101 Try.ld104 Try.st104 Try.ld57 Try.st57 Try.ld130 Try.st130 Try.ld2 Try.st2 Try.ld5 Try.st5 Try.ld9 Try.st9 Try.ld12 Try.st12 Try.ld21 Try.st21 Try.ld22 Try.st22 Try.ld29 Try.st29 Try.ld33 Try.st33 Try.ld59 Try.st59 Try.ld62 Try.st62 Try.ld69 Try.st69 Try.ld94 Try.st94 Try.ld96 Try.st96 Try.ld129 Try.st129 Try.ld158 Try.st158 Try.ld162 Try.st162 Try.ld47 Try.st47 Try.ld44 Try.st44 Try.ld137 Try.st137 Try.ld145 Try.st145 Try.ld43 Try.st43 Try.ld27 Try.st27 Try.ld38 Try.st38 Try.ld46 Try.st46 Try.ld49 Try.st49 Try.ld52 Try.st52 Try.ld54 Try.st54 Try.ld61 Try.st61 Try.ld80 Try.st80 Try.ld87 Try.st87 Try.ld93 Try.st93 Try.ld100 Try.st100 Try.ld103 Try.st103 Try.ld106 Try.st106 Try.ld109 Try.st109 Try.ld132 Try.st132 Try.ld147 Try.st147 Try.al47 Try.al44 Try.al137 Try.al145 Try.al43 Try.al27 Try.al38 Try.al46 Try.al49 Try.al52 Try.al54 Try.al61 Try.al80 Try.al87 Try.al93 Try.al100 Try.al103 Try.al106 Try.al109 Try.al132 Try.al147
attribute [local go_sem] GProgram.length_enc GProgram.ok_enc GProgram.all_get GProgram.all_set GProgram.preds_get GProgram.preds_set GProgram.rules_get GProgram.rules_set GProgram.strata_get GProgram.strata_set Answer.length_enc Answer.ok_enc Answer.all_get Answer.all_set Answer.code_get Answer.code_set Answer.n_get Answer.n_set Answer.rows_get Answer.rows_set Term.length_enc Term.ok_enc Term.all_get Term.all_set Term.var_get Term.var_set Term.n_get Term.n_set Atom.length_enc Atom.ok_enc Atom.all_get Atom.all_set Atom.pred_get Atom.pred_set Atom.args_get Atom.args_set GRule.length_enc GRule.ok_enc GRule.all_get GRule.all_set GRule.head_get GRule.head_set GRule.body_get GRule.body_set GRule.head_pred_get GRule.head_pred_set GRule.head_args_get GRule.head_args_set GOp.length_enc GOp.ok_enc GOp.all_get GOp.all_set GOp.kind_get GOp.kind_set GOp.pred_get GOp.pred_set GOp.t_get GOp.t_set GOp.n_get GOp.n_set GOp.base_get GOp.base_set GOp.rule_get GOp.rule_set GOp.rule_head_get GOp.rule_head_set GOp.rule_body_get GOp.rule_body_set GOp.rule_head_pred_get GOp.rule_head_pred_set GOp.rule_head_args_get GOp.rule_head_args_set PredInfo.length_enc PredInfo.ok_enc PredInfo.all_get PredInfo.all_set PredInfo.arity_get PredInfo.arity_set PredInfo.base_get PredInfo.base_set PredInfo.stratum_get PredInfo.stratum_set GStats.length_enc GStats.ok_enc GStats.all_get GStats.all_set GStats.rounds_get GStats.rounds_set GStats.fired_get GStats.fired_set GStats.emitted_get GStats.emitted_set GStats.fresh_get GStats.fresh_set Literal.length_enc Literal.ok_enc Literal.all_get Literal.all_set Literal.neg_get Literal.neg_set Literal.atom_get Literal.atom_set Literal.atom_pred_get Literal.atom_pred_set Literal.atom_args_get Literal.atom_args_set Engine.length_enc Engine.ok_enc Engine.all_get Engine.all_set Engine.prog_get Engine.prog_set Engine.st_get Engine.st_set Engine.levels_get Engine.levels_set Engine.running_get Engine.running_set Engine.stratum_get Engine.stratum_set Engine.round_get Engine.round_set Engine.saved_get Engine.saved_set Engine.stats_get Engine.stats_set Engine.prog_preds_get Engine.prog_preds_set Engine.prog_rules_get Engine.prog_rules_set Engine.prog_strata_get Engine.prog_strata_set Engine.stats_rounds_get Engine.stats_rounds_set Engine.stats_fired_get Engine.stats_fired_set Engine.stats_emitted_get Engine.stats_emitted_set Engine.stats_fresh_get Engine.stats_fresh_set Level.length_enc Level.ok_enc Level.all_get Level.all_set Level.heads_get Level.heads_set Level.jobs_get Level.jobs_set Plan.length_enc Plan.ok_enc Plan.all_get Plan.all_set Plan.rule_get Plan.rule_set Plan.delta_get Plan.delta_set Plan.src_get Plan.src_set Job.length_enc Job.ok_enc Job.all_get Job.all_set Job.full_get Job.full_set Job.deltas_get Job.deltas_set Job.full_rule_get Job.full_rule_set Job.full_delta_get Job.full_delta_set Job.full_src_get Job.full_src_set GState.length_enc GState.ok_enc GState.all_get GState.all_set GState.prog_get GState.prog_set GState.base_get GState.base_set GState.shown_get GState.shown_set GState.prog_preds_get GState.prog_preds_set GState.prog_rules_get GState.prog_rules_set GState.prog_strata_get GState.prog_strata_set Store.length_enc Store.ok_enc Store.all_get Store.all_set Store.arity_get Store.arity_set Store.rows_get Store.rows_set Env.length_enc Env.ok_enc Env.all_get Env.all_set Env.val_get Env.val_set Env.set_get Env.set_set
attribute [local go_sem] size_put size_ext blk_put free_put blk_alloc free_alloc blk_drew free_drew blk_ext free_ext lookOr_some putOr_some segAt_some cellAt_some storeIn_some put_put put_alloc_new length_arr ok_arr_u8 ok_arr_u32 ok_arr_u64 ok_arr_i64 ok_arr_sl cellsV_agg cellsV_int cellsV_bool cellsV_string cellsV_pointer cellsV_slice cellsV_sl ok_int ok_bool ok_string ok_pointer ok_slice ok_sl toList_arr seg_arr set_arr nth_splice nth_splice0 seg_splice seg_splice0 splice_splice splice_splice0 length_splice_if
attribute [local go_sem ↓] execOp_box
attribute [local go_sem] box_run nth_arr_u8 put_arr_u8 blk_drewN free_drewN put_drewN blk_raw free_raw
set_option maxRecDepth 100000 in
theorem frame162 (f : Nat → Value) : frameN 162 f = #[f 0, f 1, f 2, f 3, f 4, f 5, f 6, f 7, f 8, f 9, f 10, f 11, f 12, f 13, f 14, f 15, f 16, f 17, f 18, f 19, f 20, f 21, f 22, f 23, f 24, f 25, f 26, f 27, f 28, f 29, f 30, f 31, f 32, f 33, f 34, f 35, f 36, f 37, f 38, f 39, f 40, f 41, f 42, f 43, f 44, f 45, f 46, f 47, f 48, f 49, f 50, f 51, f 52, f 53, f 54, f 55, f 56, f 57, f 58, f 59, f 60, f 61, f 62, f 63, f 64, f 65, f 66, f 67, f 68, f 69, f 70, f 71, f 72, f 73, f 74, f 75, f 76, f 77, f 78, f 79, f 80, f 81, f 82, f 83, f 84, f 85, f 86, f 87, f 88, f 89, f 90, f 91, f 92, f 93, f 94, f 95, f 96, f 97, f 98, f 99, f 100, f 101, f 102, f 103, f 104, f 105, f 106, f 107, f 108, f 109, f 110, f 111, f 112, f 113, f 114, f 115, f 116, f 117, f 118, f 119, f 120, f 121, f 122, f 123, f 124, f 125, f 126, f 127, f 128, f 129, f 130, f 131, f 132, f 133, f 134, f 135, f 136, f 137, f 138, f 139, f 140, f 141, f 142, f 143, f 144, f 145, f 146, f 147, f 148, f 149, f 150, f 151, f 152, f 153, f 154, f 155, f 156, f 157, f 158, f 159, f 160, f 161] := by kernel_rfl
def stA (w : World) (bp bP : Nat) (aP : Option Addr) (N cP : Nat) (aR : Option Addr) (M cR : Nat) (S : Int) (P0 : List PredInfo) (f : Nat → Value) (W : World) : Prop :=
  f 0 = .pointer (some ⟨bp, 0, none⟩) ∧ ∃ (i : Nat) (P : List PredInfo), i ≤ N ∧ f 3 = .int .i64 (i : Nat) ∧ Hid (PM bp bP aP N cP aR M cR S P W) ∧ Hid (Kin P0 P) ∧ Hid (Side (DS N bp bP) w W) ∧ Hid (∀ (k : Nat) (x : PredInfo), k < i → P[k]? = some x → x.stratum = 0)
def stB (w : World) (bp bP : Nat) (aP : Option Addr) (N cP : Nat) (aR : Option Addr) (M cR : Nat) (S : Int) (P0 : List PredInfo) (n : Nat) (f : Nat → Value) (W : World) : Prop :=
  f 0 = .pointer (some ⟨bp, 0, none⟩) ∧ ∃ (rz : Bool) (P : List PredInfo), f 4 = .bool rz ∧ Hid (PM bp bP aP N cP aR M cR S P W) ∧ Hid (Kin P0 P) ∧ Hid (Side (DS N bp bP) w W) ∧ Hid (Low P N) ∧ Hid (n = if rz then 1 + (4096 - sumS P) else 0)
def stC (w : World) (bp bP : Nat) (aP : Option Addr) (N cP : Nat) (aR : Option Addr) (M cR : Nat) (S : Int) (P0 : List PredInfo) (s0 : Nat) (f : Nat → Value) (W : World) : Prop :=
  f 0 = .pointer (some ⟨bp, 0, none⟩) ∧ ∃ (rz : Bool) (P : List PredInfo) (i : Nat), f 4 = .bool rz ∧ i ≤ M ∧ f 5 = .int .i64 (i : Nat) ∧ Hid (PM bp bP aP N cP aR M cR S P W) ∧ Hid (Kin P0 P) ∧ Hid (Side (DS N bp bP) w W) ∧ Hid (Low P N) ∧ Hid (s0 ≤ sumS P) ∧ Hid (rz = true → s0 + 1 ≤ sumS P)
def Low4 (P : List PredInfo) (N h j : Nat) : Prop := ∀ (k : Nat) (x : PredInfo), P[k]? = some x → 0 ≤ x.stratum ∧ (k ≠ h → x.stratum ≤ (N : Int) - 1) ∧ x.stratum ≤ (N : Int) - 1 + j
def stD (w : World) (bp bP : Nat) (aP : Option Addr) (N cP : Nat) (aR : Option Addr) (M cR : Nat) (S : Int) (P0 : List PredInfo) (s0 i h bn : Nat) (f : Nat → Value) (W : World) : Prop :=
  f 0 = .pointer (some ⟨bp, 0, none⟩) ∧ f 5 = .int .i64 (i : Nat) ∧ f 6 = .int .i64 (h : Nat) ∧ ∃ (rz : Bool) (P : List PredInfo) (j : Nat), f 4 = .bool rz ∧ j ≤ bn ∧ f 7 = .int .i64 (j : Nat) ∧ Hid (PM bp bP aP N cP aR M cR S P W) ∧ Hid (Kin P0 P) ∧ Hid (Side (DS N bp bP) w W) ∧ Hid (Low4 P N h j) ∧ Hid (s0 ≤ sumS P) ∧ Hid (rz = true → s0 + 1 ≤ sumS P)
def stE (w : World) (bp bP : Nat) (aP : Option Addr) (N cP : Nat) (aR : Option Addr) (M cR : Nat) (P : List PredInfo) (f : Nat → Value) (W : World) : Prop :=
  f 0 = .pointer (some ⟨bp, 0, none⟩) ∧ ∃ (i : Nat) (S : Int), i ≤ N ∧ f 9 = .int .i64 (i : Nat) ∧ 1 ≤ S ∧ S ≤ 65 ∧ Hid (PM bp bP aP N cP aR M cR S P W) ∧ Hid (Side (DS N bp bP) w W)
theorem setS_mem {P : List PredInfo} {h : Nat} {v : Int} {k : Nat} {x : PredInfo} (hx : (setS P h v)[k]? = some x) : (k = h ∧ x.stratum = v) ∨ (k ≠ h ∧ P[k]? = some x) := by
  rw [setS_get] at hx
  by_cases hk : k = h
  · rw [if_pos hk] at hx
    obtain ⟨y, _, rfl⟩ := Option.map_eq_some_iff.1 hx
    exact .inl ⟨hk, rfl⟩
  · rw [if_neg hk] at hx
    exact .inr ⟨hk, hx⟩
/-- The rule i of the row: its cells. -/
theorem rule_cells {C : List Value} {o : Nat} {r : GRule} {ba : Option Addr} {bn bc : Nat} (h : seg C o 10 = r.enc) (hs : Sl.val r.body = .slice ba bn bc) : nth C o = some (.int .i64 r.head.pred) ∧ nth C (o + 9) = some (.slice ba bn bc) := by
  refine ⟨by simpa using nth_in h (GRule.head_pred_get r) (by omega), ?_⟩
  have := nth_in h (GRule.body_get r) (by omega)
  rw [hs] at this
  exact this
theorem rule_at {V : World} {bR : Nat} {aR : Option Addr} {M : Nat} {R : List GRule} (h : At GRule.enc 10 V bR 0 aR M R) {k : Nat} (hk : k < M) {r : GRule} (hr : R[k]? = some r) {ba : Option Addr} {bn bc h' : Nat} (hs : Sl.val r.body = .slice ba bn bc) (hh : r.head.pred = (h' : Int)) :
    ∃ CR, aR = some ⟨bR, 0, none⟩ ∧ blk V bR = some CR ∧ k * 10 + 10 ≤ CR.length ∧ nth CR (k * 10) = some (.int .i64 (h' : Int)) ∧ nth CR (k * 10 + 9) = some (.slice ba bn bc) := by
  obtain ⟨r', CR, h1, h2, h3, h4, h5⟩ := h.get hk
  obtain rfl : r' = r := Option.some.inj (h1.symm.trans hr)
  rw [Nat.zero_add] at h4 h5
  obtain ⟨c0, c9⟩ := rule_cells h5 hs
  rw [hh] at c0
  exact ⟨CR, h2, h3, by omega, c0, c9⟩
theorem lit_at {V : World} {bL oL : Nat} {ba : Option Addr} {bn N : Nat} {L : List Literal} (h : At Literal.enc 10 V bL oL ba bn L) (hp : ∀ l ∈ L, 0 ≤ l.atom.pred ∧ l.atom.pred < (N : Int)) {j : Nat} (hj : j < bn) :
    ∃ (l : Literal) (CL : List Value) (q : Nat), L[j]? = some l ∧ l.atom.pred = (q : Int) ∧ q < N ∧ ba = some ⟨bL, oL, none⟩ ∧ blk V bL = some CL ∧ oL + j * 10 + 10 ≤ CL.length ∧ nth CL (oL + j * 10) = some (.bool l.neg) ∧ nth CL (oL + j * 10 + 1) = some (.int .i64 (q : Int)) := by
  obtain ⟨l, CL, h1, h2, h3, h4, h5⟩ := h.get hj
  obtain ⟨k0, k1, _, _⟩ := lit_cells h5
  obtain ⟨p0, p1⟩ := hp l (List.mem_of_getElem? h1)
  have e : l.atom.pred = ((l.atom.pred.toNat : Nat) : Int) := by omega
  rw [e] at k1
  exact ⟨l, CL, l.atom.pred.toNat, h1, e, by omega, h2, h3, by omega, k0, k1⟩
theorem raise_step {P : List PredInfo} {N h j : Nat} {y : PredInfo} {v : Int} (hy : P[h]? = some y) (hl : Low4 P N h j) (hlt : y.stratum < v) (hv : v ≤ (N : Int) + j) : Low4 (setS P h v) N h (j + 1) ∧ sumS P + 1 ≤ sumS (setS P h v) := by
  have h0 := (hl h y hy).1
  refine ⟨fun k x hx => ?_, ?_⟩
  · rcases setS_mem hx with ⟨h1, h2⟩ | ⟨h1, h2⟩
    · exact ⟨by omega, fun hk => absurd h1 hk, by omega⟩
    · obtain ⟨a, b, c⟩ := hl k x h2
      exact ⟨a, b, by omega⟩
  · have := sumS_set P h y v hy
    omega
theorem Low4.step {P : List PredInfo} {N h j : Nat} (hl : Low4 P N h j) : Low4 P N h (j + 1) := fun k x hx => by
  obtain ⟨a, b, c⟩ := hl k x hx
  exact ⟨a, b, by omega⟩
attribute [local go_sem] prg_len prg0 prg1 prg2 prg_set0 prg_set1 prg_set2 prg_all prg_ok
set_option maxRecDepth 20000 in
set_option maxHeartbeats 8000000 in
theorem stratify_any (w : World) (bp bP bR : Nat) (aP : Option Addr) (N cP : Nat) (aR : Option Addr) (M cR : Nat) (S : Int) (P : List PredInfo) (R : List GRule) (hPM : PM bp bP aP N cP aR M cR S P w) (hne : bp ≠ bP) (hR : At GRule.enc 10 w bR 0 aR M R) (hRne : M ≠ 0 → bR ≠ bp ∧ (N ≠ 0 → bR ≠ bP)) (hRok : RulesOk w bp bP N P R) (hN : N ≤ 64) (hM : M ≤ 128) :
    Calls Try.prog 71 #[.pointer (some ⟨bp, 0, none⟩)] w (StratPost bp bP aP N cP aR M cR S P w) := by
  have HPM : Hid (PM bp bP aP N cP aR M cR S P w) := hPM
  have HRm : ∀ W, Hid (Side (DS N bp bP) w W → At GRule.enc 10 W bR 0 aR M R) := fun W hs => hR.mono (fun h0 => by
    obtain ⟨_, C, h1, _⟩ := hR.2 h0
    exact hs.blk (blk_lt h1) (fun hd => by rcases hd with h | h; exact (hRne h0).1 h; exact (hRne h0).2 h.1 h.2))
  have HRO : Hid (∀ r ∈ R, ∃ ba bn bc bL oL L, Sl.val r.body = .slice ba bn bc ∧ (∀ W, Side (DS N bp bP) w W → At Literal.enc 10 W bL oL ba bn L) ∧ RuleWf N P r bn L) := fun r hr => by
    obtain ⟨ba, bn, bc, bL, oL, L, h1, h2, h3, h4, h5⟩ := hRok r hr
    refine ⟨ba, bn, bc, bL, oL, L, h1, fun W hs => h2.mono (fun h0 => ?_), h5⟩
    obtain ⟨_, C, h6, _⟩ := h2.2 h0
    exact hs.blk (blk_lt h6) (fun hd => by rcases hd with h | h; exact h3 h; exact h4 h.2)
  have HNE : Hid (bp ≠ bP) := hne
  have n1 : ¬ bP = bp := fun h => hne h.symm
  clear hPM hR hRne hRok
  go_enter Try.func71, Try.ntmps71
  go_wp2_with fail
  refine wp_loop_f 162 (stA w bp bP aP N cP aR M cR S P) (fun f _ => N - (intOf (f 3)).toNat) rfl ?_ ?_
  · exact ⟨rfl, 0, P, by omega, rfl, HPM, rfl, Side.refl _ _, fun k x h => absurd h (Nat.not_lt_zero _)⟩
  clear HPM
  intro F W hrel
  obtain ⟨f0, i, P1, hi, f3, HM, HK, HS, HZ⟩ := hrel
  have H3 : Hid (F 3 = .int .i64 (i : Nat)) := f3
  rw [frame162, f0, f3]
  clear f0 f3
  obtain ⟨hb, hbf, _, _⟩ := HM.out
  by_cases hiN : i < N
  · obtain ⟨x, C, hx, rfl, hC, hCf, hCl, _, _, _, _⟩ := HM.out.at hiN
    have i0 : (0 : Int) ≤ (i : Int) := by omega
    have i1 : (i : Int) < (N : Int) := by omega
    have i2 : ((i : Int)).toNat = i := by omega
    have l1 : i * 3 + 2 < C.length := by omega
    have l2 : i * 3 + 2 + 1 ≤ C.length := by omega
    have HM' : Hid (PM bp bP (some ⟨bP, 0, none⟩) N cP aR M cR S (setS P1 i 0) (put W bP (splice C (i * 3 + 2) [.int .i64 0]))) := HM.out.setS HNE.out hC hiN 0
    have HZ' : Hid (∀ (k : Nat) (x : PredInfo), k < i + 1 → (setS P1 i 0)[k]? = some x → x.stratum = 0) := fun k y hk hy => by
      rcases setS_mem hy with ⟨_, h⟩ | ⟨h, h'⟩
      · exact h
      · exact HZ.out k y (by omega) h'
    clear hx
    go_wp2_with fail
    refine ⟨rfl, rfl, ⟨rfl, i + 1, setS P1 i 0, by omega, ?_, HM', HK.out.set _ _, HS.out.put (.inr ⟨by omega, rfl⟩) _, HZ'⟩, ?_⟩
    · show Value.int .i64 _ = _
      go_num
    · show N - (intOf (Value.int .i64 _)).toNat < N - (intOf (F 3)).toNat
      rw [H3.out]
      simp [intOf]; omega
  obtain rfl : i = N := by omega
  have HL1 : Hid (Low P1 i) := fun k x hx => by
    have hk : k < i := by rw [← HM.out.2.2.1.1]; exact (List.getElem?_eq_some_iff.1 hx).1
    have := HZ.out k x hk hx
    omega
  go_wp2_with fail
  clear hb hbf HZ H3
  refine wp_loop_ix 162 (stB w bp bP aP i cP aR M cR S P) (1 + (4096 - sumS P1)) rfl ?_ ?_
  · exact ⟨rfl, true, P1, rfl, HM, HK, HS, HL1, rfl⟩
  clear HM HK HS HL1
  intro nn F W hrel μ HMU
  obtain ⟨f0, rz, P2, f4, HM, HK, HS, HL, HNn⟩ := hrel
  rw [frame162, f0, f4]
  clear f0 f4
  obtain ⟨hb, hbf, _, _⟩ := HM.out
  cases rz with
  | true =>
    go_wp2_with fail
    refine wp_loop_f 162 (stC w bp bP aP i cP aR M cR S P (sumS P2)) (fun f _ => M - (intOf (f 5)).toNat) rfl ?_ ?_
    · exact ⟨rfl, false, P2, 0, rfl, by omega, rfl, HM, HK, HS, HL, Nat.le_refl _, fun h => absurd h (by decide)⟩
    clear HM HK HS HL hb hbf
    intro G V hrel
    obtain ⟨f0, rz, P3, k, f4, hk, f5, HM, HK, HS, HL, HS0, HS1⟩ := hrel
    have H5 : Hid (G 5 = .int .i64 (k : Nat)) := f5
    rw [frame162, f0, f4, f5]
    clear f0 f4 f5
    obtain ⟨hb, hbf, _, _⟩ := HM.out
    by_cases hkM : k < M
    · obtain ⟨r, hr⟩ : ∃ r, R[k]? = some r := by obtain ⟨r, _, h, _⟩ := ((HRm V).out HS.out).get hkM; exact ⟨r, h⟩
      obtain ⟨ba, bn, bc, bL, oL, L, hsv, hLm, hbn, ⟨p0, p1⟩, _, hLp⟩ := HRO.out r (List.mem_of_getElem? hr)
      have HLm : Hid (∀ W, Side (DS i bp bP) w W → At Literal.enc 10 W bL oL ba bn L) := hLm
      have HLp : Hid (∀ l ∈ L, 0 ≤ l.atom.pred ∧ l.atom.pred < i) := hLp
      obtain ⟨h, hh⟩ : ∃ h : Nat, r.head.pred = (h : Int) := ⟨r.head.pred.toNat, by omega⟩
      have hhN : h < i := by omega
      have HRA : Hid (∀ W, Side (DS i bp bP) w W → ∃ CR, aR = some ⟨bR, 0, none⟩ ∧ blk W bR = some CR ∧ k * 10 + 10 ≤ CR.length ∧ nth CR (k * 10) = some (.int .i64 (h : Int)) ∧ nth CR (k * 10 + 9) = some (.slice ba bn bc)) := fun W hs => rule_at ((HRm W).out hs) hkM hr hsv hh
      clear hr hsv hLm hLp p0 p1 hh
      obtain ⟨CR, rfl, hCR, hCRl, c0, c9⟩ := HRA.out V HS.out
      have k0 : (0 : Int) ≤ (k : Int) := by omega
      have k1 : (k : Int) < (M : Int) := by omega
      have k2 : ((k : Int)).toNat = k := by omega
      have HL4 : Hid (Low4 P3 i h 0) := fun k' x hx => by
        have := HL.out k' x hx
        exact ⟨this.1, fun _ => this.2, by omega⟩
      go_wp2_with fail
      clear hCR hCRl c0 c9 hb hbf HL
      refine wp_loop_f 162 (stD w bp bP aP i cP (some ⟨bR, 0, none⟩) M cR S P (sumS P2) k h bn) (fun f _ => bn - (intOf (f 7)).toNat) rfl ?_ ?_
      · exact ⟨rfl, rfl, rfl, rz, P3, 0, rfl, by omega, rfl, HM, HK, HS, HL4, HS0, HS1⟩
      clear HM HK HS HL4 HS0 HS1
      intro J U hrel
      obtain ⟨f0, f5, f6, rz, P4, j, f4, hj, f7, HM, HK, HS, HL4, HS0, HS1⟩ := hrel
      have H7 : Hid (J 7 = .int .i64 (j : Nat)) := f7
      rw [frame162, f0, f4, f5, f6, f7]
      clear f0 f4 f5 f6 f7
      obtain ⟨hb, hbf, _, _⟩ := HM.out
      obtain ⟨CR, _, hCR, hCRl, c0, c9⟩ := HRA.out U HS.out
      obtain ⟨y, C, hy, rfl, hC, hCf, hCl, _, _, hy2, _⟩ := HM.out.at hhN
      have HY : Hid (P4[h]? = some y) := hy
      have HYL : Hid (0 ≤ y.stratum ∧ y.stratum ≤ (i : Int) - 1 + j) := ⟨(HL4.out h y hy).1, (HL4.out h y hy).2.2⟩
      have h0 : (0 : Int) ≤ (h : Int) := by omega
      have h1 : (h : Int) < (i : Int) := by omega
      have h2 : ((h : Int)).toNat = h := by omega
      have l3 : h * 3 + 2 < C.length := by omega
      have l4 : h * 3 + 2 + 1 ≤ C.length := by omega
      clear hy
      by_cases hjn : j < bn
      · obtain ⟨l, CL, q, hl, hq, hqN, rfl, hCL, hCLl, d0, d1⟩ := lit_at (HLm.out U HS.out) HLp.out hjn
        obtain ⟨x, C', hx, _, hC', _, _, _, _, hx2, _⟩ := HM.out.at hqN
        obtain rfl : C' = C := Option.some.inj (hC'.symm.trans hC)
        obtain ⟨b1, _, b2⟩ := HL4.out q x hx
        obtain ⟨s, hs⟩ : ∃ s, s = x.stratum := ⟨_, rfl⟩
        obtain ⟨t, ht⟩ : ∃ t, t = y.stratum := ⟨_, rfl⟩
        rw [← hs] at hx2 b1 b2
        rw [← ht] at hy2 HYL
        have HT : Hid (t = y.stratum) := ht
        obtain ⟨ng, hng⟩ : ∃ ng, ng = l.neg := ⟨_, rfl⟩
        rw [← hng] at d0
        have q0 : (0 : Int) ≤ (q : Int) := by omega
        have q1 : (q : Int) < (i : Int) := by omega
        have q2 : ((q : Int)).toNat = q := by omega
        have j0 : (0 : Int) ≤ (j : Int) := by omega
        have j1 : (j : Int) < (bn : Int) := by omega
        have j2 : ((j : Int)).toNat = j := by omega
        have l5 : q * 3 + 2 < C'.length := by omega
        have s9 : s ≤ 1000 := by omega
        clear hl hq hC' hx hng hs ht
        cases ng with
        | false =>
          by_cases hlt : t < s
          · obtain ⟨HL5, HS5⟩ := raise_step (v := s) HY.out HL4.out (by rw [← HT.out]; exact hlt) (by omega)
            have HL5' : Hid (Low4 (setS P4 h (s)) i h (j + 1)) := HL5
            have HS5' : Hid (sumS P4 + 1 ≤ sumS (setS P4 h (s))) := HS5
            clear HL5 HS5
            repeat go_step
            go_quiet (fail)
            go_wp2_with fail
            refine ⟨rfl, rfl, ⟨rfl, rfl, rfl, true, setS P4 h (s), j + 1, rfl, by omega, ?_, (HM.out.drewN _).setS HNE.out hC hhN _, HK.out.set _ _, (HS.out.drewN _).put (.inr ⟨by omega, rfl⟩) _, HL5', Nat.le_trans HS0.out (Nat.le_of_succ_le HS5'.out), fun _ => Nat.le_trans (Nat.succ_le_succ HS0.out) HS5'.out⟩, ?_⟩
            · show Value.int .i64 _ = _
              go_num
            · show bn - (intOf (Value.int .i64 _)).toNat < bn - (intOf (J 7)).toNat
              rw [H7.out]
              simp [intOf]; omega
          · repeat go_step
            go_quiet (fail)
            go_wp2_with fail
            refine ⟨rfl, rfl, ⟨rfl, rfl, rfl, rz, P4, j + 1, rfl, by omega, ?_, HM, HK, HS.out.drewN _, HL4.out.step, HS0, HS1⟩, ?_⟩
            · show Value.int .i64 _ = _
              go_num
            · show bn - (intOf (Value.int .i64 _)).toNat < bn - (intOf (J 7)).toNat
              rw [H7.out]
              simp [intOf]; omega
        | true =>
          by_cases hlt : t < s + 1
          · obtain ⟨HL5, HS5⟩ := raise_step (v := s + 1) HY.out HL4.out (by rw [← HT.out]; exact hlt) (by omega)
            have HL5' : Hid (Low4 (setS P4 h (s + 1)) i h (j + 1)) := HL5
            have HS5' : Hid (sumS P4 + 1 ≤ sumS (setS P4 h (s + 1))) := HS5
            clear HL5 HS5
            repeat go_step
            go_quiet (fail)
            go_wp2_with fail
            refine ⟨rfl, rfl, ⟨rfl, rfl, rfl, true, setS P4 h (s + 1), j + 1, rfl, by omega, ?_, (HM.out.drewN _).setS HNE.out hC hhN _, HK.out.set _ _, (HS.out.drewN _).put (.inr ⟨by omega, rfl⟩) _, HL5', Nat.le_trans HS0.out (Nat.le_of_succ_le HS5'.out), fun _ => Nat.le_trans (Nat.succ_le_succ HS0.out) HS5'.out⟩, ?_⟩
            · show Value.int .i64 _ = _
              go_num
            · show bn - (intOf (Value.int .i64 _)).toNat < bn - (intOf (J 7)).toNat
              rw [H7.out]
              simp [intOf]; omega
          · repeat go_step
            go_quiet (fail)
            go_wp2_with fail
            refine ⟨rfl, rfl, ⟨rfl, rfl, rfl, rz, P4, j + 1, rfl, by omega, ?_, HM, HK, HS.out.drewN _, HL4.out.step, HS0, HS1⟩, ?_⟩
            · show Value.int .i64 _ = _
              go_num
            · show bn - (intOf (Value.int .i64 _)).toNat < bn - (intOf (J 7)).toNat
              rw [H7.out]
              simp [intOf]; omega
      · obtain rfl : j = bn := by omega
        by_cases hge : (i : Int) ≤ y.stratum
        · repeat go_step
          go_quiet (fail)
          go_wp2_with fail
          go_ret
          exact ⟨false, P4, S, rfl, HM, HK, HS.out.drewN _, fun h => absurd h (by decide), fun _ => rfl, fun h0 => absurd h0 (by omega)⟩
        · have HLn : Hid (Low P4 i) := fun k' x hx => by
            obtain ⟨a, b, c⟩ := HL4.out k' x hx
            refine ⟨a, ?_⟩
            by_cases hk' : k' = h
            · subst hk'
              obtain rfl : x = y := Option.some.inj (hx.symm.trans HY.out)
              omega
            · exact b hk'
          repeat go_step
          go_quiet (fail)
          go_wp2_with fail
          refine ⟨rfl, rfl, ⟨rfl, rz, P4, k + 1, rfl, by omega, ?_, HM, HK, HS.out.drewN _, HLn, HS0, HS1⟩, ?_⟩
          · show Value.int .i64 _ = _
            go_num
          · show M - (intOf (Value.int .i64 _)).toNat < M - (intOf (G 5)).toNat
            rw [H5.out]
            simp [intOf]; omega
    · obtain rfl : k = M := by omega
      have HL' := HL
      go_wp2_with fail
      refine ⟨rfl, rfl, ⟨_, rfl, rz, P3, rfl, HM, HK, HS, HL, rfl⟩, ?_⟩
      refine HMU.out _ _ _ ⟨rfl, rz, P3, rfl, HM, HK, HS, HL, rfl⟩ ?_
      rw [HNn.out]
      cases rz with
      | false => first | omega | (simp; omega) | simp
      | true =>
        have h1 := HS1.out rfl
        have h2 := sumS_le P3 63 (fun x hx => by
          obtain ⟨q, hq, rfl⟩ := List.mem_iff_getElem.1 hx
          have := (HL.out q _ (List.getElem?_eq_getElem hq)).2
          omega)
        have h3 : P3.length = i := HM.out.2.2.1.1
        have h4 : P3.length * 63 ≤ 64 * 63 := Nat.mul_le_mul_right _ (by omega)
        first | omega | (simp only [if_true]; omega) | (simp; omega)
  | false =>
    have HM1 := HM.out.strata HNE.out 1
    have HM1' : Hid (PM bp bP aP i cP aR M cR 1 P2 (put W bp (prgE aP i cP aR M cR 1))) := HM1
    clear HM1
    go_wp2_with fail
    refine wp_loop_f 162 (stE w bp bP aP i cP aR M cR P2) (fun f _ => i - (intOf (f 9)).toNat) rfl ?_ ?_
    · exact ⟨rfl, 0, 1, by omega, rfl, by omega, by omega, HM1', HS.out.put (.inl rfl) _⟩
    clear HM1' hb hbf HS HNn HMU
    intro G V hrel
    obtain ⟨f0, k, T, hk, f9, t1, t2, HV, HS⟩ := hrel
    have H9 : Hid (G 9 = .int .i64 (k : Nat)) := f9
    rw [frame162, f0, f9]
    clear f0 f9
    obtain ⟨hb, hbf, _, _⟩ := HV.out
    by_cases hki : k < i
    · obtain ⟨x, C, hx, rfl, hC, hCf, hCl, _, _, hx2, _⟩ := HV.out.at hki
      obtain ⟨b1, b2⟩ := HL.out k x hx
      obtain ⟨s, hs⟩ : ∃ s, s = x.stratum := ⟨_, rfl⟩
      rw [← hs] at hx2 b1 b2
      have k0 : (0 : Int) ≤ (k : Int) := by omega
      have k1 : (k : Int) < (i : Int) := by omega
      have k2 : ((k : Int)).toNat = k := by omega
      have l3 : k * 3 + 2 < C.length := by omega
      have s9 : s ≤ 1000 := by omega
      have hwr : IntKind.i64.wrap (s + 1) = s + 1 := by rw [IntKind.wrap_i64]; omega
      clear hx hs
      by_cases hgt : T < s + 1
      · have HV' : Hid (PM bp bP (some ⟨bP, 0, none⟩) i cP aR M cR (s + 1) P2 (put V bp (prgE (some ⟨bP, 0, none⟩) i cP aR M cR (s + 1)))) := HV.out.strata HNE.out _
        repeat go_step
        go_quiet (fail)
        go_wp2_with fail
        refine ⟨rfl, rfl, ⟨rfl, k + 1, s + 1, by omega, ?_, by omega, by omega, HV', (HS.out.drewN _).put (.inl rfl) _⟩, ?_⟩
        · show Value.int .i64 _ = _
          go_num
        · show i - (intOf (Value.int .i64 _)).toNat < i - (intOf (G 9)).toNat
          rw [H9.out]
          simp [intOf]; omega
      · repeat go_step
        go_quiet (fail)
        go_wp2_with fail
        refine ⟨rfl, rfl, ⟨rfl, k + 1, T, by omega, ?_, by omega, by omega, HV, HS.out.drewN _⟩, ?_⟩
        · show Value.int .i64 _ = _
          go_num
        · show i - (intOf (Value.int .i64 _)).toNat < i - (intOf (G 9)).toNat
          rw [H9.out]
          simp [intOf]; omega
    · obtain rfl : k = i := by omega
      go_wp2_with fail
      go_ret
      exact ⟨true, P2, T, rfl, HV.out, HK.out, HS.out, fun _ => ⟨t1, t2⟩, fun h => absurd h (by decide), fun _ => rfl⟩
end Go.Proofs.Qxb6500788a
