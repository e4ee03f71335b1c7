import Derived.Test.Qxb6500788aMb
import Derived.StillTailTactics
import Derived.Deep.QuietTactic
import Derived.BigQuiet
import Derived.Deep.RegionHeld
import Derived.Deep.CutRange
import Derived.Laws.ResultCell
import Derived.Laws.Rows
import Derived.DeepKeys
import Derived.DataBytes
import Derived.Laws.StructEq
import Derived.Laws.AppendOwn
import Derived.Laws.MakeOwn
set_option linter.unusedSimpArgs false
set_option linter.unusedVariables false
namespace Go.Proofs.Qxb6500788a
open Go.RowKit Go.Blk
attribute [local go_sem ↓] execOp_load execOp_store execOp_alloc
attribute [local go_sem] Try.ld24 Try.st24 Try.ld25 Try.st25 Try.ld3 Try.st3 Try.ld30 Try.st30 Try.ld36 Try.st36 Try.ld4 Try.st4 Try.ld41 Try.st41 Try.ld50 Try.st50 Try.ld40 Try.st40 Try.ld42 Try.st42 Try.ld89 Try.st89 Try.ld91 Try.st91 Try.ld56 Try.st56 Try.ld97 Try.st97 Try.ld98 Try.st98 Try.ld101 Try.st101 Try.ld104 Try.st104 Try.ld57 Try.st57 Try.ld130 Try.st130 Try.ld2 Try.st2 Try.ld5 Try.st5 Try.ld9 Try.st9 Try.ld12 Try.st12 Try.ld21 Try.st21 Try.ld22 Try.st22 Try.ld29 Try.st29 Try.ld33 Try.st33 Try.ld59 Try.st59 Try.ld62 Try.st62 Try.ld69 Try.st69 Try.ld94 Try.st94 Try.ld96 Try.st96 Try.ld129 Try.st129 Try.ld158 Try.st158 Try.ld162 Try.st162 Try.ld47 Try.st47 Try.ld44 Try.st44 Try.ld137 Try.st137 Try.ld145 Try.st145 Try.ld43 Try.st43 Try.ld27 Try.st27 Try.ld38 Try.st38 Try.ld46 Try.st46 Try.ld49 Try.st49 Try.ld52 Try.st52 Try.ld54 Try.st54 Try.ld61 Try.st61 Try.ld80 Try.st80 Try.ld87 Try.st87 Try.ld93 Try.st93 Try.ld100 Try.st100 Try.ld103 Try.st103 Try.ld106 Try.st106 Try.ld109 Try.st109 Try.ld132 Try.st132 Try.ld147 Try.st147 Try.al47 Try.al44 Try.al137 Try.al145 Try.al43 Try.al27 Try.al38 Try.al46 Try.al49 Try.al52 Try.al54 Try.al61 Try.al80 Try.al87 Try.al93 Try.al100 Try.al103 Try.al106 Try.al109 Try.al132 Try.al147
attribute [local go_sem] GProgram.length_enc GProgram.ok_enc GProgram.all_get GProgram.all_set GProgram.preds_get GProgram.preds_set GProgram.rules_get GProgram.rules_set GProgram.strata_get GProgram.strata_set Answer.length_enc Answer.ok_enc Answer.all_get Answer.all_set Answer.code_get Answer.code_set Answer.n_get Answer.n_set Answer.rows_get Answer.rows_set Term.length_enc Term.ok_enc Term.all_get Term.all_set Term.var_get Term.var_set Term.n_get Term.n_set Atom.length_enc Atom.ok_enc Atom.all_get Atom.all_set Atom.pred_get Atom.pred_set Atom.args_get Atom.args_set GRule.length_enc GRule.ok_enc GRule.all_get GRule.all_set GRule.head_get GRule.head_set GRule.body_get GRule.body_set GRule.head_pred_get GRule.head_pred_set GRule.head_args_get GRule.head_args_set GOp.length_enc GOp.ok_enc GOp.all_get GOp.all_set GOp.kind_get GOp.kind_set GOp.pred_get GOp.pred_set GOp.t_get GOp.t_set GOp.n_get GOp.n_set GOp.base_get GOp.base_set GOp.rule_get GOp.rule_set GOp.rule_head_get GOp.rule_head_set GOp.rule_body_get GOp.rule_body_set GOp.rule_head_pred_get GOp.rule_head_pred_set GOp.rule_head_args_get GOp.rule_head_args_set PredInfo.length_enc PredInfo.ok_enc PredInfo.all_get PredInfo.all_set PredInfo.arity_get PredInfo.arity_set PredInfo.base_get PredInfo.base_set PredInfo.stratum_get PredInfo.stratum_set GStats.length_enc GStats.ok_enc GStats.all_get GStats.all_set GStats.rounds_get GStats.rounds_set GStats.fired_get GStats.fired_set GStats.emitted_get GStats.emitted_set GStats.fresh_get GStats.fresh_set Literal.length_enc Literal.ok_enc Literal.all_get Literal.all_set Literal.neg_get Literal.neg_set Literal.atom_get Literal.atom_set Literal.atom_pred_get Literal.atom_pred_set Literal.atom_args_get Literal.atom_args_set Engine.length_enc Engine.ok_enc Engine.all_get Engine.all_set Engine.prog_get Engine.prog_set Engine.st_get Engine.st_set Engine.levels_get Engine.levels_set Engine.running_get Engine.running_set Engine.stratum_get Engine.stratum_set Engine.round_get Engine.round_set Engine.saved_get Engine.saved_set Engine.stats_get Engine.stats_set Engine.prog_preds_get Engine.prog_preds_set Engine.prog_rules_get Engine.prog_rules_set Engine.prog_strata_get Engine.prog_strata_set Engine.stats_rounds_get Engine.stats_rounds_set Engine.stats_fired_get Engine.stats_fired_set Engine.stats_emitted_get Engine.stats_emitted_set Engine.stats_fresh_get Engine.stats_fresh_set Level.length_enc Level.ok_enc Level.all_get Level.all_set Level.heads_get Level.heads_set Level.jobs_get Level.jobs_set Plan.length_enc Plan.ok_enc Plan.all_get Plan.all_set Plan.rule_get Plan.rule_set Plan.delta_get Plan.delta_set Plan.src_get Plan.src_set Job.length_enc Job.ok_enc Job.all_get Job.all_set Job.full_get Job.full_set Job.deltas_get Job.deltas_set Job.full_rule_get Job.full_rule_set Job.full_delta_get Job.full_delta_set Job.full_src_get Job.full_src_set GState.length_enc GState.ok_enc GState.all_get GState.all_set GState.prog_get GState.prog_set GState.base_get GState.base_set GState.shown_get GState.shown_set GState.prog_preds_get GState.prog_preds_set GState.prog_rules_get GState.prog_rules_set GState.prog_strata_get GState.prog_strata_set Store.length_enc Store.ok_enc Store.all_get Store.all_set Store.arity_get Store.arity_set Store.rows_get Store.rows_set Env.length_enc Env.ok_enc Env.all_get Env.all_set Env.val_get Env.val_set Env.set_get Env.set_set
attribute [local go_sem] size_put size_ext blk_put free_put blk_alloc free_alloc blk_drew free_drew blk_ext free_ext lookOr_some putOr_some segAt_some cellAt_some storeIn_some put_put put_alloc_new length_arr ok_arr_u8 ok_arr_u32 ok_arr_u64 ok_arr_i64 ok_arr_sl cellsV_agg cellsV_int cellsV_bool cellsV_string cellsV_pointer cellsV_slice cellsV_sl ok_int ok_bool ok_string ok_pointer ok_slice ok_sl toList_arr seg_arr set_arr nth_splice nth_splice0 seg_splice seg_splice0 splice_splice splice_splice0 length_splice_if
attribute [local go_sem ↓] execOp_box
attribute [local go_sem] box_run nth_arr_u8 put_arr_u8 blk_drewN free_drewN put_drewN blk_raw free_raw
theorem extd (V : World) : V.Extends V.drew := extends_drew (ext_Ext (Ext.refl _))
def plE (r d : Int) (a : Option Addr) (n c : Nat) : List Value := Plan.enc ⟨r, d, ⟨a, n, c⟩⟩
theorem pl_len (r d : Int) (a : Option Addr) (n c : Nat) : (plE r d a n c).length = 3 := rfl
theorem pl0 (r d : Int) (a : Option Addr) (n c : Nat) : nth (plE r d a n c) 0 = some (.int .i64 r) := rfl
theorem pl1 (r d : Int) (a : Option Addr) (n c : Nat) : nth (plE r d a n c) 1 = some (.int .i64 d) := rfl
theorem pl2 (r d : Int) (a : Option Addr) (n c : Nat) : nth (plE r d a n c) 2 = some (.slice a n c) := rfl
theorem pl_set2 (r d : Int) (a : Option Addr) (n c : Nat) (a' : Option Addr) (n' c' : Nat) : splice (plE r d a n c) 2 [.slice a' n' c'] = plE r d a' n' c' := rfl
theorem pl_all (r d : Int) (a : Option Addr) (n c : Nat) : seg (plE r d a n c) 0 3 = plE r d a n c := rfl
theorem pl_put (r d : Int) (a : Option Addr) (n c : Nat) (x : Plan) : splice x.enc 0 (plE r d a n c) = plE r d a n c := Plan.all_set x ⟨r, d, ⟨a, n, c⟩⟩
theorem pl_ok (r d : Int) (a : Option Addr) (n c : Nat) : okCells 3 (plE r d a n c) = true := rfl
def encN (x : Nat) : List Value := [.int .i64 (x : Int)]
theorem encN_len (x : Nat) : (encN x).length = 1 := rfl
theorem encN_one (x : Nat) : (encN x).all (fun v => v.oneCell') = true := rfl
/-- The program, read through a pointer to its first cell. -/
def PrgM (W : World) (bp : Nat) (P : List PredInfo) (R : List GRule) (Ls : Nat → List Literal) (St : Int) : Prop :=
  ∃ Ce aP cP aR cR bP bR, blk W bp = some Ce ∧ 3 ≤ Ce.length ∧ nth Ce 0 = some (.slice aP P.length cP) ∧ nth Ce 1 = some (.slice aR R.length cR) ∧ nth Ce 2 = some (.int .i64 St) ∧ At PredInfo.enc 3 W bP 0 aP P.length P ∧ At GRule.enc 10 W bR 0 aR R.length R ∧ ∀ k r, R[k]? = some r → ∃ bL oL ba bc, Sl.val r.body = .slice ba (Ls k).length bc ∧ At Literal.enc 10 W bL oL ba (Ls k).length (Ls k)
theorem At.grw {α : Type} {e : α → List Value} {sz : Nat} {W W' : World} {b o : Nat} {a : Option Addr} {n : Nat} {L : List α} (h : At e sz W b o a n L) (he : W.Extends W') : At e sz W' b o a n L :=
  h.mono (fun h0 => by obtain ⟨_, C, h1, _⟩ := h.2 h0; exact he.blk (blk_lt h1))
theorem PrgM.ext {W W' : World} {bp : Nat} {P : List PredInfo} {R : List GRule} {Ls : Nat → List Literal} {St : Int} (h : PrgM W bp P R Ls St) (he : W.Extends W') : PrgM W' bp P R Ls St := by
  obtain ⟨Ce, aP, cP, aR, cR, bP, bR, h1, h2, h3, h4, h5, h6, h7, h8⟩ := h
  refine ⟨Ce, aP, cP, aR, cR, bP, bR, (he.blk (blk_lt h1)).trans h1, h2, h3, h4, h5, h6.grw he, h7.grw he, fun k r hr => ?_⟩
  obtain ⟨bL, oL, ba, bc, g1, g2⟩ := h8 k r hr
  exact ⟨bL, oL, ba, bc, g1, g2.grw he⟩
/-- An atom that fits the table. -/
def AFit (P : List PredInfo) (a : Atom) : Prop := ∃ (q : Nat) (x : PredInfo), a.pred = (q : Int) ∧ P[q]? = some x ∧ 0 ≤ x.arity ∧ Fit a x.arity.toNat
theorem AFit.ar {P : List PredInfo} {a : Atom} {q : Nat} {x : PredInfo} (h1 : a.pred = (q : Int)) (h2 : P[q]? = some x) : arA P a = x.arity.toNat := by
  unfold arA
  rw [h1, Int.toNat_natCast, List.getD_eq_getElem?_getD, h2]; rfl
theorem AFit.fit {P : List PredInfo} {a : Atom} (h : AFit P a) : Fit a (arA P a) := by
  obtain ⟨q, x, h1, h2, _, h4⟩ := h
  rw [AFit.ar h1 h2]; exact h4
/-- A literal of a rule, its atom and its predicate's arity in memory. -/
theorem lit_full {V : World} {bL oL : Nat} {ba : Option Addr} {P : List PredInfo} {L : List Literal} {bP : Nat} {aP : Option Addr} (h : At Literal.enc 10 V bL oL ba L.length L) (hP : At PredInfo.enc 3 V bP 0 aP P.length P) {j : Nat} {l : Literal} (hl : L[j]? = some l) (hf : AFit P l.atom) :
    ∃ (CL CP : List Value) (q ar : Nat), ba = some ⟨bL, oL, none⟩ ∧ blk V bL = some CL ∧ oL + j * 10 + 10 ≤ CL.length ∧ nth CL (oL + j * 10) = some (.bool l.neg) ∧ nth CL (oL + j * 10 + 1) = some (.int .i64 (q : Int)) ∧ seg CL (oL + j * 10 + 1) 9 = l.atom.enc ∧ aP = some ⟨bP, 0, none⟩ ∧ blk V bP = some CP ∧ q * 3 + 3 ≤ CP.length ∧ q < P.length ∧ nth CP (q * 3) = some (.int .i64 (ar : Int)) ∧ ar = arA P l.atom := by
  have hj : j < L.length := (List.getElem?_eq_some_iff.1 hl).1
  obtain ⟨l', CL, h1, h2, h3, h4, h5⟩ := h.get hj
  obtain rfl : l' = l := Option.some.inj (h1.symm.trans hl)
  obtain ⟨q, x, f1, f2, f3, f4⟩ := hf
  have hq : q < P.length := (List.getElem?_eq_some_iff.1 f2).1
  obtain ⟨x', CP, g1, g2, g3, g4, g5⟩ := hP.get hq
  obtain rfl : x' = x := Option.some.inj (g1.symm.trans f2)
  rw [Nat.zero_add] at g4 g5
  have hjl : (j + 1) * 10 ≤ L.length * 10 := Nat.mul_le_mul_right _ hj
  have hql : (q + 1) * 3 ≤ P.length * 3 := Nat.mul_le_mul_right _ hq
  refine ⟨CL, CP, q, x'.arity.toNat, h2, h3, by omega, nth_in (j := 0) h5 (Literal.neg_get l') (by omega), ?_, ?_, g2, g3, by omega, hq, ?_, (AFit.ar f1 f2).symm⟩
  · have := nth_in (j := 1) h5 (Literal.atom_pred_get l') (by omega)
    rw [f1] at this; exact this
  · have := seg_in (p := 1) (m := 9) h5 (by omega)
    rw [this]; exact Literal.atom_get l'
  · have := nth_in (j := 0) g5 (PredInfo.arity_get x') (by omega)
    rw [Nat.add_zero] at this
    rw [this]
    congr 2
    omega
theorem atom_ar {V : World} {P : List PredInfo} {bP : Nat} {aP : Option Addr} (hP : At PredInfo.enc 3 V bP 0 aP P.length P) {a : Atom} (hf : AFit P a) :
    ∃ (CP : List Value) (q ar : Nat), a.pred = (q : Int) ∧ aP = some ⟨bP, 0, none⟩ ∧ blk V bP = some CP ∧ q * 3 + 3 ≤ CP.length ∧ q < P.length ∧ nth CP (q * 3) = some (.int .i64 (ar : Int)) ∧ ar = arA P a := by
  obtain ⟨q, x, f1, f2, f3, f4⟩ := hf
  have hq : q < P.length := (List.getElem?_eq_some_iff.1 f2).1
  obtain ⟨x', CP, g1, g2, g3, g4, g5⟩ := hP.get hq
  obtain rfl : x' = x := Option.some.inj (g1.symm.trans f2)
  rw [Nat.zero_add] at g4 g5
  have hql : (q + 1) * 3 ≤ P.length * 3 := Nat.mul_le_mul_right _ hq
  refine ⟨CP, q, x'.arity.toNat, f1, g2, g3, by omega, hq, ?_, (AFit.ar f1 f2).symm⟩
  have := nth_in (j := 0) g5 (PredInfo.arity_get x') (by omega)
  rw [Nat.add_zero] at this
  rw [this]
  congr 2
  omega
theorem negs_true {P : List PredInfo} {S : List (List Tup)} {Z : List (Literal × Nat)} {e : Env} (h : ∀ (j : Nat) (z : Literal × Nat), Z[j]? = some z → (z.1.neg && decide (gT z.1.atom e (arA P z.1.atom) ∈ rowsAt S z.2)) = false) : negs P S Z e = true := by
  unfold negs
  rw [List.all_eq_true]
  intro z hz
  obtain ⟨j, hj⟩ := List.mem_iff_getElem?.1 hz
  rw [h j z hj]; rfl
theorem negs_false {P : List PredInfo} {S : List (List Tup)} {Z : List (Literal × Nat)} {e : Env} {z : Literal × Nat} (hz : z ∈ Z) (h : (z.1.neg && decide (gT z.1.atom e (arA P z.1.atom) ∈ rowsAt S z.2)) = true) : negs P S Z e = false := by
  unfold negs
  rw [List.all_eq_false]
  exact ⟨z, hz, by rw [h]; decide⟩
def MPost (W0 W : World) (a : Option Addr) (n c : Nat) (out' : List Tup) (e : Ending) (W' : World) : Prop := ∃ a' n' c', e = .returned (.slice a' n' c') ∧ Outs W0 W' a' n' c' out' ∧ Gro W W' (.slice a n c) (.slice a' n' c')
/-- What the walk of match needs. -/
structure MEnv (W0 : World) (B : Nat) (O : Own) (g bst : Nat) (S : List (List Tup)) (bp : Nat) (P : List PredInfo) (R : List GRule) (Ls : Nat → List Literal) (St : Int) (k : Nat) (r : GRule) (sa : Option Addr) (sn : Nat) (Src : List Nat) : Prop where
  st : SAt B O W0 g bst S
  sok : SOk S
  prg : PrgM W0 bp P R Ls St
  nP : P.length ≤ 64
  nR : R.length ≤ 128
  rule : R[k]? = some r
  src : Rw encN 1 W0 sa sn Src
  slen : Src.length = (Ls k).length
  srel : ∀ x ∈ Src, x < S.length
  b8 : (Ls k).length ≤ 8
  lits : ∀ l ∈ Ls k, AFit P l.atom
  head : AFit P r.head
def m1I (W0 W : World) (bst bp i b8 b10 b13 : Nat) (v0 : Value) (ra : Option Addr) (rn rc : Nat) (rows : List Tup) (X8 X10 X13 : List Value) (fo : Nat → List Tup) (f : Nat → Value) (V : World) : Prop := f 0 = .pointer (some ⟨bst, 0, none⟩) ∧ f 1 = .pointer (some ⟨bp, 0, none⟩) ∧ f 3 = .int .i64 (i : Int) ∧ f 8 = .pointer (some ⟨b8, 0, none⟩) ∧ f 10 = .pointer (some ⟨b10, 0, none⟩) ∧ f 13 = .pointer (some ⟨b13, 0, none⟩) ∧ f 14 = .slice ra rn rc ∧ ∃ (k : Nat) (a : Option Addr) (n c : Nat), k ≤ rn ∧ f 16 = .int .i64 (k : Nat) ∧ f 5 = .slice a n c ∧ Hid (Outs W0 V a n c (fo k) ∧ Gro W V v0 (.slice a n c) ∧ (blk V b8 = some X8 ∧ (Value.slice a n c).ownBlock ≠ some b8) ∧ (blk V b10 = some X10 ∧ (Value.slice a n c).ownBlock ≠ some b10) ∧ (blk V b13 = some X13 ∧ (Value.slice a n c).ownBlock ≠ some b13) ∧ Apt V (.slice a n c) ra rn rows)
def m2I (V2 : World) (bst bp b8 b10 b13 nn : Nat) (a : Option Addr) (n c : Nat) (ok : Nat → Prop) (f : Nat → Value) (V : World) : Prop := f 0 = .pointer (some ⟨bst, 0, none⟩) ∧ f 1 = .pointer (some ⟨bp, 0, none⟩) ∧ f 5 = .slice a n c ∧ f 8 = .pointer (some ⟨b8, 0, none⟩) ∧ f 10 = .pointer (some ⟨b10, 0, none⟩) ∧ f 13 = .pointer (some ⟨b13, 0, none⟩) ∧ ∃ (j : Nat), j ≤ nn ∧ f 19 = .int .i64 (j : Nat) ∧ Hid (V2.Extends V) ∧ Hid (ok j)
theorem zip_at {α β : Type} {L : List α} {M : List β} {j : Nat} {l : α} {m : β} (h1 : L[j]? = some l) (h2 : M[j]? = some m) : (L.zip M)[j]? = some (l, m) := by
  rw [List.getElem?_zip_eq_some]; exact ⟨h1, h2⟩
theorem drop_at {α : Type} {L : List α} {i : Nat} {x : α} (h : L[i]? = some x) : L.drop i = x :: L.drop (i + 1) := by
  obtain ⟨hi, e⟩ := List.getElem?_eq_some_iff.1 h
  rw [← e]; exact List.drop_eq_getElem_cons hi
theorem rowsAt_some {S : List (List Tup)} {r : Nat} {L : List Tup} (h : S[r]? = some L) : rowsAt S r = L := by
  unfold rowsAt
  rw [List.getD_eq_getElem?_getD, h]; rfl
theorem own_lt {W0 W : World} {a : Option Addr} {n c : Nat} {ts : List Tup} (h : Outs W0 W a n c ts) {b : Nat} (hb : W.heap.size ≤ b) : (Value.slice a n c).ownBlock ≠ some b := fun e => by
  have := (row_at h.1 b e).2.1; omega
set_option maxRecDepth 100000 in
theorem frame183 (f : Nat → Value) : frameN 183 f = #[f 0, f 1, f 2, f 3, f 4, f 5, f 6, f 7, f 8, f 9, f 10, f 11, f 12, f 13, f 14, f 15, f 16, f 17, f 18, f 19, f 20, f 21, f 22, f 23, f 24, f 25, f 26, f 27, f 28, f 29, f 30, f 31, f 32, f 33, f 34, f 35, f 36, f 37, f 38, f 39, f 40, f 41, f 42, f 43, f 44, f 45, f 46, f 47, f 48, f 49, f 50, f 51, f 52, f 53, f 54, f 55, f 56, f 57, f 58, f 59, f 60, f 61, f 62, f 63, f 64, f 65, f 66, f 67, f 68, f 69, f 70, f 71, f 72, f 73, f 74, f 75, f 76, f 77, f 78, f 79, f 80, f 81, f 82, f 83, f 84, f 85, f 86, f 87, f 88, f 89, f 90, f 91, f 92, f 93, f 94, f 95, f 96, f 97, f 98, f 99, f 100, f 101, f 102, f 103, f 104, f 105, f 106, f 107, f 108, f 109, f 110, f 111, f 112, f 113, f 114, f 115, f 116, f 117, f 118, f 119, f 120, f 121, f 122, f 123, f 124, f 125, f 126, f 127, f 128, f 129, f 130, f 131, f 132, f 133, f 134, f 135, f 136, f 137, f 138, f 139, f 140, f 141, f 142, f 143, f 144, f 145, f 146, f 147, f 148, f 149, f 150, f 151, f 152, f 153, f 154, f 155, f 156, f 157, f 158, f 159, f 160, f 161, f 162, f 163, f 164, f 165, f 166, f 167, f 168, f 169, f 170, f 171, f 172, f 173, f 174, f 175, f 176, f 177, f 178, f 179, f 180, f 181, f 182] := by kernel_rfl
attribute [local go_sem] pl_len pl0 pl1 pl2 pl_all pl_ok bslice36
attribute [local go_sem ↓] execOp_bslice execOp_build
set_option maxRecDepth 40000 in
set_option maxHeartbeats 8000000 in
theorem match_any (W0 : World) (B : Nat) (O : Own) (g bst : Nat) (S : List (List Tup)) (bp : Nat) (P : List PredInfo) (R : List GRule) (Ls : Nat → List Literal) (St : Int) (k : Nat) (r : GRule) (sa : Option Addr) (sn sc : Nat) (Src : List Nat) (d : Int) (hE : MEnv W0 B O g bst S bp P R Ls St k r sa sn Src) :
    ∀ (m i : Nat), i + m = (Ls k).length → ∀ (W : World) (e : Env) (a : Option Addr) (n c : Nat) (out : List Tup), Outs W0 W a n c out → EOk e → OutOk out →
      Calls Try.prog 83 #[.pointer (some ⟨bst, 0, none⟩), .pointer (some ⟨bp, 0, none⟩), .agg (plE (k : Int) d sa sn sc).toArray, .int .i64 (i : Int), .agg e.enc.toArray, .slice a n c] W (MPost W0 W a n c (goM P S ((Ls k).zip Src) r.head (((Ls k).zip Src).drop i) e out)) := by
  intro m
  induction m with
  | zero =>
    intro i hi W e a n c out hout heok hook
    have HE := hid_of hE
    have HOUT := hid_of hout
    obtain ⟨Z0, hZ0⟩ : ∃ Z0, Z0 = (Ls k).zip Src := ⟨_, rfl⟩
    try rw [← hZ0] at HIH
    rw [← hZ0]
    have HZ0 := hid_of hZ0
    obtain ⟨L, hLL⟩ : ∃ L, L = Ls k := ⟨_, rfl⟩
    rw [← hLL] at hi
    try rw [← hLL] at HIH
    have HLL := hid_of hLL
    obtain ⟨Q, hQ⟩ : ∃ Q, Q = MPost W0 W a n c (goM P S Z0 r.head (Z0.drop i) e out) := ⟨_, rfl⟩
    rw [← hQ]
    have HQ := hid_of hQ
    obtain ⟨Ce, aP, cP, aR, cR, bP, bR, g1, g2, g3, g4, g5, g6, g7, g8⟩ := hE.prg
    obtain ⟨bL, oL, ba, bc, g9, g10⟩ := g8 k r hE.rule
    rw [← hLL] at g9 g10
    have hkM : k < R.length := (List.getElem?_eq_some_iff.1 hE.rule).1
    obtain ⟨r', CR, k1, rfl, k3, k4, k5⟩ := g7.get hkM
    obtain rfl : r' = r := Option.some.inj (k1.symm.trans hE.rule)
    rw [Nat.zero_add] at k4 k5
    have hkl : (k + 1) * 10 ≤ R.length * 10 := Nat.mul_le_mul_right _ hkM
    obtain ⟨M, hMM⟩ : ∃ M, M = R.length := ⟨_, rfl⟩
    obtain ⟨N, hNN⟩ : ∃ N, N = P.length := ⟨_, rfl⟩
    have hM := hE.nR
    have hN := hE.nP
    have h8 := hE.b8
    rw [← hLL] at h8
    rw [← hMM] at g4 hkM hM hkl k4
    rw [← hNN] at g3 hN
    obtain ⟨Rc, hRc⟩ : ∃ Rc, Rc = r'.enc := ⟨_, rfl⟩
    have r1 : nth Rc 9 = some (.slice ba L.length bc) := by rw [hRc, GRule.body_get, g9]
    have r2 : seg Rc 0 9 = r'.head.enc := by rw [hRc]; exact GRule.head_get r'
    have r3 : seg Rc 0 10 = Rc := by rw [hRc]; exact GRule.all_get r'
    have r4 : Rc.length = 10 := by rw [hRc]; exact GRule.length_enc r'
    have r5 : okCells 10 Rc = true := by rw [hRc]; exact GRule.ok_enc r'
    have r6 : splice GRule.zero.enc 0 Rc = Rc := by rw [hRc]; exact GRule.all_set _ _
    have r7 : seg CR (k * 10) 10 = Rc := by rw [hRc]; exact k5
    have r8 : nth Rc 0 = some (.int .i64 r'.head.pred) := by rw [hRc]; exact GRule.head_pred_get r'
    have HRC := hid_of hRc
    have d1 : k * 10 + 10 ≤ CR.length := by omega
    have d2 : k * 10 < CR.length := by omega
    have q0 : (0 : Int) ≤ (k : Int) := by omega
    have q1 : (k : Int) < (M : Int) := by omega
    have q2 : ((k : Int)).toNat = k := by omega
    have HC0 : Hid (blk W0 bp = some Ce ∧ blk W0 bR = some CR) := ⟨g1, k3⟩
    have HG6 := hid_of g6
    have HG10 := hid_of g10
    have HNN := hid_of hNN
    clear hE hZ0 hLL hQ g1 g5 g6 g7 g8 g9 g10 k1 k3 k5 hRc hMM hkM hkl hNN k4
    go_enter Try.func83, Try.ntmps83
    go_upto_region 1 with fail
    refine wp_world (fun V => W.Extends V ∧ blk V W.heap.size = some (plE (k : Int) d sa sn sc) ∧ blk V (W.heap.size + 1) = some e.enc) ?_ ?_
    · refine ⟨extends_alloc (extends_alloc (ext_Ext (Ext.refl _)) _) _, ?_, ?_⟩
      all_goals first
        | (repeat rw [blk_alloc, if_neg (by simp only [World.size_alloc]; omega)]
           rw [blk_alloc, if_pos (by simp only [World.size_alloc])]
           done)
        | (unfold free
           repeat rw [heap_alloc, if_neg (by simp only [World.size_alloc]; omega)]
           rw [heap_alloc, if_pos (by simp only [World.size_alloc])]
           rfl)
    intro V1 hV1
    try simp only [World.size_alloc]
    obtain ⟨b8, e_b8⟩ : ∃ b, b = W.heap.size := ⟨_, rfl⟩
    obtain ⟨b10, e_b10⟩ : ∃ b, b = W.heap.size + 1 := ⟨_, rfl⟩
    rw [← e_b10] at hV1 ⊢
    rw [← e_b8] at hV1 ⊢
    have hn_b8 : W.heap.size ≤ b8 := by omega
    have n_b8_b10 : ¬ b8 = b10 := by omega
    have n_b10_b8 : ¬ b10 = b8 := by omega
    have hn_b10 : W.heap.size ≤ b10 := by omega
    clear e_b8 e_b10
    obtain ⟨hx1, hb8, hb10⟩ := hV1
    have hxx := HOUT.out.2.1.trans hx1
    have hbp : blk V1 bp = some Ce := (hxx.blk (blk_lt HC0.out.1)).trans HC0.out.1
    have hbR : blk V1 bR = some CR := (hxx.blk (blk_lt HC0.out.2)).trans HC0.out.2
    have m8 : ¬ b8 = V1.heap.size := Nat.ne_of_lt (blk_lt hb8)
    have mp : ¬ bp = V1.heap.size := Nat.ne_of_lt (blk_lt hbp)
    have mR : ¬ bR = V1.heap.size := Nat.ne_of_lt (blk_lt hbR)
    have HX1 := hid_of hx1
    have HB10 := hid_of hb10
    clear hx1 hxx hout hb10
    refine wp_region_held_drew (S := fun W' => blk W' b8 = some (plE (k : Int) d sa sn sc) ∧ blk W' bp = some Ce ∧ blk W' bR = some CR) (by kernel_rfl) ⟨hb8, hbp, hbR⟩ (fun hHeld => ?_)
    refine wpAnyH_take (i := 0) (oi := ⟨_, _, _, _, _, _⟩) (v := ?_) rfl (by kernel_rfl) (by kernel_rfl) (by kernel_rfl) (fun _ _ _ h => h) (Or.inl ⟨by rfl, ?_⟩) (by assumption) ?_
    rotate_left 1
    · intro W' hSw
      obtain ⟨hS1, hS2, hS3⟩ := hSw
      go_simp
      try with_reducible rfl
    try simp only [Act.put, List.setIfInBounds_toArray, List.set_cons_zero, List.set_cons_succ]
    refine wpAnyH_take (i := 1) (oi := ⟨_, _, _, _, _, _⟩) (v := ?_) rfl (by kernel_rfl) (by kernel_rfl) (by kernel_rfl) (fun _ _ _ h => h) (Or.inl ⟨by rfl, ?_⟩) (by assumption) ?_
    rotate_left 1
    · intro W' hSw
      obtain ⟨hS1, hS2, hS3⟩ := hSw
      go_simp
      try with_reducible rfl
    try simp only [Act.put, List.setIfInBounds_toArray, List.set_cons_zero, List.set_cons_succ]
    refine wpAnyH_take (i := 2) (oi := ⟨_, _, _, _, _, _⟩) (v := ?_) rfl (by kernel_rfl) (by kernel_rfl) (by kernel_rfl) (fun _ _ _ h => h) (Or.inl ⟨by rfl, ?_⟩) (by assumption) ?_
    rotate_left 1
    · intro W' hSw
      obtain ⟨hS1, hS2, hS3⟩ := hSw
      go_simp
      try with_reducible rfl
    try simp only [Act.put, List.setIfInBounds_toArray, List.set_cons_zero, List.set_cons_succ]
    refine wpAnyH_take (i := 3) (oi := ⟨_, _, _, _, _, _⟩) (v := ?_) rfl (by kernel_rfl) (by kernel_rfl) (by kernel_rfl) (fun _ _ _ h => h) (Or.inl ⟨by rfl, ?_⟩) (by assumption) ?_
    rotate_left 1
    · intro W' hSw
      obtain ⟨hS1, hS2, hS3⟩ := hSw
      go_simp
      try with_reducible rfl
    try simp only [Act.put, List.setIfInBounds_toArray, List.set_cons_zero, List.set_cons_succ]
    refine wpAnyH_take (i := 4) (oi := ⟨_, _, _, _, _, _⟩) (v := ?_) rfl (by kernel_rfl) (by kernel_rfl) (by kernel_rfl) (fun _ _ _ h => h) (Or.inl ⟨by rfl, ?_⟩) (by assumption) ?_
    rotate_left 1
    · intro W' hSw
      obtain ⟨hS1, hS2, hS3⟩ := hSw
      go_simp
      try with_reducible rfl
    try simp only [Act.put, List.setIfInBounds_toArray, List.set_cons_zero, List.set_cons_succ]
    refine wpAnyH_take (i := 5) (oi := ⟨_, _, _, _, _, _⟩) (v := ?_) rfl (by kernel_rfl) (by kernel_rfl) (by kernel_rfl) (fun _ _ _ h => h) (Or.inl ⟨by rfl, ?_⟩) (by assumption) ?_
    rotate_left 1
    · intro W' hSw
      obtain ⟨hS1, hS2, hS3⟩ := hSw
      go_simp
      try with_reducible rfl
    try simp only [Act.put, List.setIfInBounds_toArray, List.set_cons_zero, List.set_cons_succ]
    refine wpAnyH_take (i := 6) (oi := ⟨_, _, _, _, _, _⟩) (v := ?_) rfl (by kernel_rfl) (by kernel_rfl) (by kernel_rfl) (fun _ _ _ h => h) (Or.inl ⟨by rfl, ?_⟩) (by assumption) ?_
    rotate_left 1
    · intro W' hSw
      obtain ⟨hS1, hS2, hS3⟩ := hSw
      go_simp
      try with_reducible rfl
    try simp only [Act.put, List.setIfInBounds_toArray, List.set_cons_zero, List.set_cons_succ]
    refine wpAnyH_take (i := 7) (oi := ⟨_, _, _, _, _, _⟩) (v := ?_) rfl (by kernel_rfl) (by kernel_rfl) (by kernel_rfl) (fun _ _ _ h => h) (Or.inl ⟨by rfl, ?_⟩) (by assumption) ?_
    rotate_left 1
    · intro W' hSw
      obtain ⟨hS1, hS2, hS3⟩ := hSw
      go_simp
      try with_reducible rfl
    try simp only [Act.put, List.setIfInBounds_toArray, List.set_cons_zero, List.set_cons_succ]
    refine wpAnyH_ready (rs := [8]) (by kernel_rfl) (by simp) ?_
    refine AllReadyH.cons (o := ⟨_, _, _, _, _, _⟩) rfl (fun K' hK => ?_) AllReadyH.nil
    go_simp
    refine hK.out _ _ ⟨(blk_alloc _ _ _ _).trans ((if_neg m8).trans hb8), (blk_alloc _ _ _ _).trans ((if_neg mp).trans hbp), (blk_alloc _ _ _ _).trans ((if_neg mR).trans hbR)⟩ (fun hHeld => ?_)
    clear hK K'
    try simp only [Act.put, List.setIfInBounds_toArray, List.set_cons_zero, List.set_cons_succ]
    refine wpAnyH_ready (rs := [9]) (by kernel_rfl) (by simp) ?_
    refine AllReadyH.cons (o := ⟨_, _, _, _, _, _⟩) rfl (fun K' hK => ?_) AllReadyH.nil
    go_simp
    refine hK.out _ _ ⟨by first | (rw [blk_put, if_neg m8]; exact (blk_alloc _ _ _ _).trans ((if_neg m8).trans hb8)) | exact (blk_alloc _ _ _ _).trans ((if_neg m8).trans hb8), by first | (rw [blk_put, if_neg mp]; exact (blk_alloc _ _ _ _).trans ((if_neg mp).trans hbp)) | exact (blk_alloc _ _ _ _).trans ((if_neg mp).trans hbp), by first | (rw [blk_put, if_neg mR]; exact (blk_alloc _ _ _ _).trans ((if_neg mR).trans hbR)) | exact (blk_alloc _ _ _ _).trans ((if_neg mR).trans hbR)⟩ (fun hHeld => ?_)
    clear hK K'
    try simp only [Act.put, List.setIfInBounds_toArray, List.set_cons_zero, List.set_cons_succ]
    refine wpAnyH_done (by kernel_rfl) ?_ _
    go_upto_region 2 with fail
    refine wp_world (fun V => V1.Extends V ∧ blk V V1.heap.size = some Rc) ⟨?_, ?_⟩ ?_
    · first
        | exact extends_put (extends_drew (extends_alloc (ext_Ext (Ext.refl _)) _)) (Nat.le_refl _) _
        | exact extends_drew (extends_put (extends_alloc (ext_Ext (Ext.refl _)) _) (Nat.le_refl _) _)
    · first
        | (rw [blk_put, if_pos rfl, blk_drew, blk_alloc, if_pos rfl]; rfl)
        | (rw [blk_drew, blk_put, if_pos rfl, blk_alloc, if_pos rfl]; rfl)
    rintro V2 ⟨hx2, hb13⟩
    obtain ⟨b13, e13⟩ : ∃ b, b = V1.heap.size := ⟨_, rfl⟩
    rw [← e13] at hb13 ⊢
    have hn13 : W.heap.size ≤ b13 := by rw [e13]; exact HX1.out.size
    have hxW : W.Extends V2 := HX1.out.trans hx2
    have HXW := hid_of hxW
    have hb8 : blk V2 b8 = some (plE (k : Int) d sa sn sc) := (hx2.blk (blk_lt hb8)).trans hb8
    have hb10 : blk V2 b10 = some e.enc := (hx2.blk (blk_lt HB10.out)).trans HB10.out
    have hout2 := HOUT.out.ext hxW
    have HOUT2 := hid_of hout2
    have o8 := own_lt HOUT.out hn_b8
    have o10 := own_lt HOUT.out hn_b10
    have o13 := own_lt HOUT.out hn13
    clear e13 hx2 hxW hbp hbR m8 mp mR HX1 HB10 hout2
    have hie : i = L.length := by omega
    have hgo : goM P S Z0 r'.head (Z0.drop i) e out = if negs P S Z0 e then addT out (gT r'.head e (arA P r'.head)) else out := by
      rw [List.drop_of_length_le (by rw [HZ0.out, List.length_zip, ← HLL.out]; omega)]; rfl
    have HGO := hid_of hgo
    obtain ⟨CP, qh, arh, l5, rfl, l8, l9, l10, l11, l12⟩ := atom_ar HG6.out HE.out.head
    have hfh := HE.out.head.fit
    rw [← l12] at hfh
    have HFH := hid_of hfh
    have HL12 := hid_of l12
    rw [l5] at r8
    have HCP := hid_of l8
    have hqN : qh < N := by rw [HNN.out]; exact l10
    have hn10 : n ≤ 10000000000 := by
      have := hook.len
      rw [HOUT.out.2.2]; omega
    obtain ⟨ln, hln⟩ : ∃ ln, ln = L.length := ⟨_, rfl⟩
    rw [← hln] at r1 hie h8
    have HLN := hid_of hln
    have HKB : Hid (blk V2 b8 = some (plE (k : Int) d sa sn sc) ∧ blk V2 b10 = some e.enc ∧ blk V2 b13 = some Rc) := ⟨hb8, hb10, hb13⟩
    have hii : ¬ ((ln : Int) < (ln : Int)) := by omega
    rw [hie]
    clear hi hln l5 l8 l10 l12 hfh hgo hie
    go_wp2_with fail
    have HK0 : Hid (V2.Extends V2) := ext_Ext (Ext.refl _)
    have HN0 : Hid (∀ j', j' < 0 → ∀ z, Z0[j']? = some z → (z.1.neg && decide (gT z.1.atom e (arA P z.1.atom) ∈ rowsAt S z.2)) = false) := fun j' h => absurd h (Nat.not_lt_zero _)
    refine wp_loop_f 183 (m2I V2 bst bp b8 b10 b13 ln a n c (fun j => ∀ j', j' < j → ∀ z, Z0[j']? = some z → (z.1.neg && decide (gT z.1.atom e (arA P z.1.atom) ∈ rowsAt S z.2)) = false)) (fun f _ => ln - (intOf (f 19)).toNat) rfl ⟨rfl, rfl, rfl, rfl, rfl, rfl, 0, by omega, rfl, HK0, HN0⟩ ?_
    clear HK0 HN0 hb8 hb10 hb13
    intro F V hrel
    obtain ⟨f0, f1, f5, f8, f10, f13, j, hj, f19, HX, HOK⟩ := hrel
    have H19 := hid_of f19
    rw [frame183, f0, f1, f5, f8, f10, f13, f19]
    clear f0 f1 f5 f8 f10 f13 f19
    have hb8 : blk V b8 = some (plE (k : Int) d sa sn sc) := (HX.out.blk (blk_lt HKB.out.1)).trans HKB.out.1
    have hb10 : blk V b10 = some e.enc := (HX.out.blk (blk_lt HKB.out.2.1)).trans HKB.out.2.1
    have hb13 : blk V b13 = some Rc := (HX.out.blk (blk_lt HKB.out.2.2)).trans HKB.out.2.2
    have xv : W0.Extends V := HOUT2.out.2.1.trans HX.out
    have hbp : blk V bp = some Ce := (xv.blk (blk_lt HC0.out.1)).trans HC0.out.1
    have hbP : blk V bP = some CP := (xv.blk (blk_lt HCP.out)).trans HCP.out
    have HRET : Hid (∀ V', V.Extends V' → goM P S Z0 r'.head (Z0.drop i) e out = out → Q (.returned (.slice a n c)) V') := by
      intro V' hx hg
      rw [HQ.out, hg]
      exact ⟨a, n, c, rfl, HOUT2.out.ext (HX.out.trans hx), Gro.of_ext (HXW.out.trans (HX.out.trans hx)) _⟩
    by_cases hin : j < ln
    · have hin' : (j : Int) < (ln : Int) := by omega
      obtain ⟨l, hl⟩ : ∃ l, L[j]? = some l := ⟨_, List.getElem?_eq_getElem (by rw [← HLN.out]; exact hin)⟩
      obtain ⟨sr, hsr⟩ : ∃ sr, Src[j]? = some sr := ⟨_, List.getElem?_eq_getElem (by have h1 := HE.out.slen; rw [← HLL.out] at h1; have h2 := HLN.out; omega)⟩
      have hz : Z0[j]? = some (l, sr) := by rw [HZ0.out, ← HLL.out]; exact zip_at hl hsr
      have hafit : AFit P l.atom := HE.out.lits l (by rw [← HLL.out]; exact List.mem_of_getElem? hl)
      obtain ⟨CL, CP', q, ar, rfl, l2, l3, l4, l5, l6, e7, l8, l9', l10, l11', l12⟩ := lit_full HG10.out HG6.out hl hafit
      obtain rfl : CP' = CP := by rw [HCP.out] at l8; exact (Option.some.inj l8).symm
      have hfit := hafit.fit
      rw [← l12] at hfit
      have hqN' : q < N := by rw [HNN.out]; exact l10
      have hbL : blk V bL = some CL := (xv.blk (blk_lt l2)).trans l2
      have i0 : (0 : Int) ≤ (j : Int) := by omega
      have i2 : ((j : Int)).toNat = j := by omega
      have HZ := hid_of hz
      have HL12' := hid_of l12
      clear l2 l8 l10 hl hafit l12 hz e7
      have hnext : ∀ {b : Bool}, (l.neg && decide (gT l.atom e (arA P l.atom) ∈ rowsAt S sr)) = b → b = false → ∀ j', j' < j + 1 → ∀ z, Z0[j']? = some z → (z.1.neg && decide (gT z.1.atom e (arA P z.1.atom) ∈ rowsAt S z.2)) = false := by
        intro b h1 h2 j' h3 z h4
        by_cases h5 : j' = j
        · subst h5
          rw [HZ.out] at h4
          have := Option.some.inj h4
          subst this
          rw [h1, h2]
        · exact HOK.out j' (by omega) z h4
      by_cases hneg : l.neg = true
      rotate_left 1
      · have hnegf : l.neg = false := by simpa using hneg
        have HOK' : Hid (∀ j', j' < j + 1 → ∀ z, Z0[j']? = some z → (z.1.neg && decide (gT z.1.atom e (arA P z.1.atom) ∈ rowsAt S z.2)) = false) := hnext rfl (by rw [hnegf]; rfl)
        rw [hnegf] at l4
        have HX' := hid_of HX.out
        clear hnext HOK HRET xv hsr
        go_wp2_with fail
        refine ⟨rfl, rfl, ⟨rfl, rfl, rfl, rfl, rfl, rfl, j + 1, by omega, ?_, HX', HOK'⟩, ?_⟩
        · show Value.int .i64 _ = _
          go_num
        · show ln - (intOf (Value.int .i64 _)).toNat < ln - (intOf (F 19)).toNat
          rw [H19.out]
          simp [intOf]; omega
      rw [hneg] at l4
      obtain ⟨bs, Cs, rfl, s1, s2, s3, s4⟩ := rw_cell (v := .int .i64 (sr : Int)) (HE.out.src.ext' xv) hsr rfl
      obtain ⟨rows, hrows⟩ : ∃ rows, S[sr]? = some rows := ⟨_, List.getElem?_eq_getElem (HE.out.srel sr (List.mem_of_getElem? hsr))⟩
      have h512 : rows.length ≤ 512 := (HE.out.sok rows (List.mem_of_getElem? hrows)).1
      have hct := fun V' (hx : V.Extends V') t => contains_any B O V' g bst S (HE.out.st.ext (xv.trans hx)) sr rows hrows h512 t
      have hra : rowsAt S sr = rows := rowsAt_some hrows
      have s5 : j < Cs.length := by omega
      have s6 : (j : Int) < (sn : Int) := by omega
      have y0 : (0 : Int) ≤ (q : Int) := by omega
      have y1 : (q : Int) < (N : Int) := by omega
      have y2 : ((q : Int)).toNat = q := by omega
      have hgr := fun V' => ground_any V' l.atom ar e hfit
      obtain ⟨T, hT⟩ : ∃ T, T = gT l.atom e ar := ⟨_, rfl⟩
      rw [← hT] at hgr
      have hcond : (l.neg && decide (gT l.atom e (arA P l.atom) ∈ rowsAt S sr)) = decide (T ∈ rows) := by rw [hneg, hra, ← HL12'.out, ← hT]; rfl
      have HCOND := hid_of hcond
      have HNEXT : Hid (∀ b : Bool, (l.neg && decide (gT l.atom e (arA P l.atom) ∈ rowsAt S sr)) = b → b = false → ∀ j', j' < j + 1 → ∀ z, Z0[j']? = some z → (z.1.neg && decide (gT z.1.atom e (arA P z.1.atom) ∈ rowsAt S z.2)) = false) := fun b => hnext
      have HSX : Hid (∀ V', V.Extends V' → blk V' b8 = some (plE (k : Int) d (some ⟨bs, 0, none⟩) sn sc) ∧ blk V' bs = some Cs ∧ blk V' b13 = some Rc ∧ blk V' bL = some CL ∧ blk V' bp = some Ce ∧ blk V' bP = some CP' ∧ blk V' b10 = some e.enc) := fun V' hx => ⟨(hx.blk (blk_lt hb8)).trans hb8, (hx.blk (blk_lt s1)).trans s1, (hx.blk (blk_lt hb13)).trans hb13, (hx.blk (blk_lt hbL)).trans hbL, (hx.blk (blk_lt hbp)).trans hbp, (hx.blk (blk_lt hbP)).trans hbP, (hx.blk (blk_lt hb10)).trans hb10⟩
      have HGR := hid_of hgr
      have HCT := hid_of hct
      clear hnext hcond hra hrows hsr xv hT hgr hct
      go_upto_region 17 with fail
      refine wp_region_held_drew (S := fun W' => blk W' b8 = some (plE (k : Int) d (some ⟨bs, 0, none⟩) sn sc) ∧ blk W' bs = some Cs ∧ blk W' b13 = some Rc ∧ blk W' bL = some CL ∧ blk W' bp = some Ce ∧ blk W' bP = some CP' ∧ blk W' b10 = some e.enc) (by kernel_rfl) (HSX.out _ (extd V)) (fun hHeld => ?_)
      refine wpAnyH_take (i := 0) (oi := ⟨_, _, _, _, _, _⟩) (v := ?_) rfl (by kernel_rfl) (by kernel_rfl) (by kernel_rfl) (fun _ _ _ h => h) (Or.inl ⟨by rfl, ?_⟩) (by assumption) ?_
      rotate_left 1
      · intro W' hSw
        obtain ⟨hS1, hS2, hS3, hS4, hS5, hS6, hS7⟩ := hSw
        go_simp
        try with_reducible rfl
      try simp only [Act.put, List.setIfInBounds_toArray, List.set_cons_zero, List.set_cons_succ]
      refine wpAnyH_take (i := 1) (oi := ⟨_, _, _, _, _, _⟩) (v := ?_) rfl (by kernel_rfl) (by kernel_rfl) (by kernel_rfl) (fun _ _ _ h => h) (Or.inl ⟨by rfl, ?_⟩) (by assumption) ?_
      rotate_left 1
      · intro W' hSw
        obtain ⟨hS1, hS2, hS3, hS4, hS5, hS6, hS7⟩ := hSw
        go_simp
        try with_reducible rfl
      try simp only [Act.put, List.setIfInBounds_toArray, List.set_cons_zero, List.set_cons_succ]
      refine wpAnyH_take (i := 2) (oi := ⟨_, _, _, _, _, _⟩) (v := ?_) rfl (by kernel_rfl) (by kernel_rfl) (by kernel_rfl) (fun _ _ _ h => h) (Or.inl ⟨by rfl, ?_⟩) (by assumption) ?_
      rotate_left 1
      · intro W' hSw
        obtain ⟨hS1, hS2, hS3, hS4, hS5, hS6, hS7⟩ := hSw
        go_simp
        try with_reducible rfl
      try simp only [Act.put, List.setIfInBounds_toArray, List.set_cons_zero, List.set_cons_succ]
      refine wpAnyH_take (i := 3) (oi := ⟨_, _, _, _, _, _⟩) (v := ?_) rfl (by kernel_rfl) (by kernel_rfl) (by kernel_rfl) (fun _ _ _ h => h) (Or.inl ⟨by rfl, ?_⟩) (by assumption) ?_
      rotate_left 1
      · intro W' hSw
        obtain ⟨hS1, hS2, hS3, hS4, hS5, hS6, hS7⟩ := hSw
        go_simp
        try with_reducible rfl
      try simp only [Act.put, List.setIfInBounds_toArray, List.set_cons_zero, List.set_cons_succ]
      refine wpAnyH_take (i := 4) (oi := ⟨_, _, _, _, _, _⟩) (v := ?_) rfl (by kernel_rfl) (by kernel_rfl) (by kernel_rfl) (fun _ _ _ h => h) (Or.inl ⟨by rfl, ?_⟩) (by assumption) ?_
      rotate_left 1
      · intro W' hSw
        obtain ⟨hS1, hS2, hS3, hS4, hS5, hS6, hS7⟩ := hSw
        go_simp
        try with_reducible rfl
      try simp only [Act.put, List.setIfInBounds_toArray, List.set_cons_zero, List.set_cons_succ]
      refine wpAnyH_take (i := 5) (oi := ⟨_, _, _, _, _, _⟩) (v := ?_) rfl (by kernel_rfl) (by kernel_rfl) (by kernel_rfl) (fun _ _ _ h => h) (Or.inl ⟨by rfl, ?_⟩) (by assumption) ?_
      rotate_left 1
      · intro W' hSw
        obtain ⟨hS1, hS2, hS3, hS4, hS5, hS6, hS7⟩ := hSw
        go_simp
        try with_reducible rfl
      try simp only [Act.put, List.setIfInBounds_toArray, List.set_cons_zero, List.set_cons_succ]
      refine wpAnyH_take (i := 6) (oi := ⟨_, _, _, _, _, _⟩) (v := ?_) rfl (by kernel_rfl) (by kernel_rfl) (by kernel_rfl) (fun _ _ _ h => h) (Or.inl ⟨by rfl, ?_⟩) (by assumption) ?_
      rotate_left 1
      · intro W' hSw
        obtain ⟨hS1, hS2, hS3, hS4, hS5, hS6, hS7⟩ := hSw
        go_simp
        try with_reducible rfl
      try simp only [Act.put, List.setIfInBounds_toArray, List.set_cons_zero, List.set_cons_succ]
      refine wpAnyH_take (i := 7) (oi := ⟨_, _, _, _, _, _⟩) (v := ?_) rfl (by kernel_rfl) (by kernel_rfl) (by kernel_rfl) (fun _ _ _ h => h) (Or.inl ⟨by rfl, ?_⟩) (by assumption) ?_
      rotate_left 1
      · intro W' hSw
        obtain ⟨hS1, hS2, hS3, hS4, hS5, hS6, hS7⟩ := hSw
        go_simp
        try with_reducible rfl
      try simp only [Act.put, List.setIfInBounds_toArray, List.set_cons_zero, List.set_cons_succ]
      refine wpAnyH_take (i := 8) (oi := ⟨_, _, _, _, _, _⟩) (v := ?_) rfl (by kernel_rfl) (by kernel_rfl) (by kernel_rfl) (fun _ _ _ h => h) (Or.inl ⟨by rfl, ?_⟩) (by assumption) ?_
      rotate_left 1
      · intro W' hSw
        obtain ⟨hS1, hS2, hS3, hS4, hS5, hS6, hS7⟩ := hSw
        go_simp
        try with_reducible rfl
      try simp only [Act.put, List.setIfInBounds_toArray, List.set_cons_zero, List.set_cons_succ]
      refine wpAnyH_take (i := 9) (oi := ⟨_, _, _, _, _, _⟩) (v := ?_) rfl (by kernel_rfl) (by kernel_rfl) (by kernel_rfl) (fun _ _ _ h => h) (Or.inl ⟨by rfl, ?_⟩) (by assumption) ?_
      rotate_left 1
      · intro W' hSw
        obtain ⟨hS1, hS2, hS3, hS4, hS5, hS6, hS7⟩ := hSw
        go_simp
        try with_reducible rfl
      try simp only [Act.put, List.setIfInBounds_toArray, List.set_cons_zero, List.set_cons_succ]
      refine wpAnyH_take (i := 10) (oi := ⟨_, _, _, _, _, _⟩) (v := ?_) rfl (by kernel_rfl) (by kernel_rfl) (by kernel_rfl) (fun _ _ _ h => h) (Or.inl ⟨by rfl, ?_⟩) (by assumption) ?_
      rotate_left 1
      · intro W' hSw
        obtain ⟨hS1, hS2, hS3, hS4, hS5, hS6, hS7⟩ := hSw
        go_simp
        try with_reducible rfl
      try simp only [Act.put, List.setIfInBounds_toArray, List.set_cons_zero, List.set_cons_succ]
      refine wpAnyH_take (i := 11) (oi := ⟨_, _, _, _, _, _⟩) (v := ?_) rfl (by kernel_rfl) (by kernel_rfl) (by kernel_rfl) (fun _ _ _ h => h) (Or.inl ⟨by rfl, ?_⟩) (by assumption) ?_
      rotate_left 1
      · intro W' hSw
        obtain ⟨hS1, hS2, hS3, hS4, hS5, hS6, hS7⟩ := hSw
        go_simp
        try with_reducible rfl
      try simp only [Act.put, List.setIfInBounds_toArray, List.set_cons_zero, List.set_cons_succ]
      refine wpAnyH_take (i := 12) (oi := ⟨_, _, _, _, _, _⟩) (v := ?_) rfl (by kernel_rfl) (by kernel_rfl) (by kernel_rfl) (fun _ _ _ h => h) (Or.inl ⟨by rfl, ?_⟩) (by assumption) ?_
      rotate_left 1
      · intro W' hSw
        obtain ⟨hS1, hS2, hS3, hS4, hS5, hS6, hS7⟩ := hSw
        go_simp
        try with_reducible rfl
      try simp only [Act.put, List.setIfInBounds_toArray, List.set_cons_zero, List.set_cons_succ]
      refine wpAnyH_take (i := 13) (oi := ⟨_, _, _, _, _, _⟩) (v := ?_) rfl (by kernel_rfl) (by kernel_rfl) (by kernel_rfl) (fun _ _ _ h => h) (Or.inl ⟨by rfl, ?_⟩) (by assumption) ?_
      rotate_left 1
      · intro W' hSw
        obtain ⟨hS1, hS2, hS3, hS4, hS5, hS6, hS7⟩ := hSw
        go_simp
        try with_reducible rfl
      try simp only [Act.put, List.setIfInBounds_toArray, List.set_cons_zero, List.set_cons_succ]
      refine wpAnyH_take (i := 14) (oi := ⟨_, _, _, _, _, _⟩) (v := ?_) rfl (by kernel_rfl) (by kernel_rfl) (by kernel_rfl) (fun _ _ _ h => h) (Or.inl ⟨by rfl, ?_⟩) (by assumption) ?_
      rotate_left 1
      · intro W' hSw
        obtain ⟨hS1, hS2, hS3, hS4, hS5, hS6, hS7⟩ := hSw
        go_simp
        try with_reducible rfl
      try simp only [Act.put, List.setIfInBounds_toArray, List.set_cons_zero, List.set_cons_succ]
      refine wpAnyH_take (i := 15) (oi := ⟨_, _, _, _, _, _⟩) (v := ?_) rfl (by kernel_rfl) (by kernel_rfl) (by kernel_rfl) (fun _ _ _ h => h) (Or.inl ⟨by rfl, ?_⟩) (by assumption) ?_
      rotate_left 1
      · intro W' hSw
        obtain ⟨hS1, hS2, hS3, hS4, hS5, hS6, hS7⟩ := hSw
        go_simp
        try with_reducible rfl
      try simp only [Act.put, List.setIfInBounds_toArray, List.set_cons_zero, List.set_cons_succ]
      refine wpAnyH_take (i := 16) (oi := ⟨_, _, _, _, _, _⟩) (v := ?_) rfl (by kernel_rfl) (by kernel_rfl) (by kernel_rfl) (fun _ _ _ h => h) (Or.inl ⟨by rfl, ?_⟩) (by assumption) ?_
      rotate_left 1
      · intro W' hSw
        obtain ⟨hS1, hS2, hS3, hS4, hS5, hS6, hS7⟩ := hSw
        go_simp
        try with_reducible rfl
      try simp only [Act.put, List.setIfInBounds_toArray, List.set_cons_zero, List.set_cons_succ]
      refine wpAnyH_take (i := 17) (oi := ⟨_, _, _, _, _, _⟩) (v := ?_) rfl (by kernel_rfl) (by kernel_rfl) (by kernel_rfl) (fun _ _ _ h => h) (Or.inl ⟨by rfl, ?_⟩) (by assumption) ?_
      rotate_left 1
      · intro W' hSw
        obtain ⟨hS1, hS2, hS3, hS4, hS5, hS6, hS7⟩ := hSw
        go_simp
        try with_reducible rfl
      try simp only [Act.put, List.setIfInBounds_toArray, List.set_cons_zero, List.set_cons_succ]
      refine wpAnyH_take (i := 18) (oi := ⟨_, _, _, _, _, _⟩) (v := ?_) rfl (by kernel_rfl) (by kernel_rfl) (by kernel_rfl) (fun _ _ _ h => h) (Or.inl ⟨by rfl, ?_⟩) (by assumption) ?_
      rotate_left 1
      · intro W' hSw
        obtain ⟨hS1, hS2, hS3, hS4, hS5, hS6, hS7⟩ := hSw
        go_simp
        try with_reducible rfl
      try simp only [Act.put, List.setIfInBounds_toArray, List.set_cons_zero, List.set_cons_succ]
      refine wpAnyH_take (i := 19) (oi := ⟨_, _, _, _, _, _⟩) (v := ?_) rfl (by kernel_rfl) (by kernel_rfl) (by kernel_rfl) (fun _ _ _ h => h) (Or.inl ⟨by rfl, ?_⟩) (by assumption) ?_
      rotate_left 1
      · intro W' hSw
        obtain ⟨hS1, hS2, hS3, hS4, hS5, hS6, hS7⟩ := hSw
        go_simp
        try with_reducible rfl
      try simp only [Act.put, List.setIfInBounds_toArray, List.set_cons_zero, List.set_cons_succ]
      refine wpAnyH_take (i := 20) (oi := ⟨_, _, _, _, _, _⟩) (v := ?_) rfl (by kernel_rfl) (by kernel_rfl) (by kernel_rfl) (fun _ _ _ h => h) (Or.inl ⟨by rfl, ?_⟩) (by assumption) ?_
      rotate_left 1
      · intro W' hSw
        obtain ⟨hS1, hS2, hS3, hS4, hS5, hS6, hS7⟩ := hSw
        go_simp
        try with_reducible rfl
      try simp only [Act.put, List.setIfInBounds_toArray, List.set_cons_zero, List.set_cons_succ]
      refine wpAnyH_take (i := 21) (oi := ⟨_, _, _, _, _, _⟩) (v := ?_) rfl (by kernel_rfl) (by kernel_rfl) (by kernel_rfl) (fun _ _ _ h => h) (Or.inl ⟨by rfl, ?_⟩) (by assumption) ?_
      rotate_left 1
      · intro W' hSw
        obtain ⟨hS1, hS2, hS3, hS4, hS5, hS6, hS7⟩ := hSw
        go_simp
        try with_reducible rfl
      try simp only [Act.put, List.setIfInBounds_toArray, List.set_cons_zero, List.set_cons_succ]
      refine wpAnyH_take (i := 22) (oi := ⟨_, _, _, _, _, _⟩) (v := ?_) rfl (by kernel_rfl) (by kernel_rfl) (by kernel_rfl) (fun _ _ _ h => h) (Or.inl ⟨by rfl, ?_⟩) (by assumption) ?_
      rotate_left 1
      · intro W' hSw
        obtain ⟨hS1, hS2, hS3, hS4, hS5, hS6, hS7⟩ := hSw
        go_simp
        try with_reducible rfl
      try simp only [Act.put, List.setIfInBounds_toArray, List.set_cons_zero, List.set_cons_succ]
      refine wpAnyH_take (i := 23) (oi := ⟨_, _, _, _, _, _⟩) (v := ?_) rfl (by kernel_rfl) (by kernel_rfl) (by kernel_rfl) (fun _ _ _ h => h) (Or.inl ⟨by rfl, ?_⟩) (by assumption) ?_
      rotate_left 1
      · intro W' hSw
        obtain ⟨hS1, hS2, hS3, hS4, hS5, hS6, hS7⟩ := hSw
        go_simp
        try with_reducible rfl
      try simp only [Act.put, List.setIfInBounds_toArray, List.set_cons_zero, List.set_cons_succ]
      refine wpAnyH_take (i := 24) (oi := ⟨_, _, _, _, _, _⟩) (v := ?_) rfl (by kernel_rfl) (by kernel_rfl) (by kernel_rfl) (fun _ _ _ h => h) (Or.inl ⟨by rfl, ?_⟩) (by assumption) ?_
      rotate_left 1
      · intro W' hSw
        obtain ⟨hS1, hS2, hS3, hS4, hS5, hS6, hS7⟩ := hSw
        go_simp
        try with_reducible rfl
      try simp only [Act.put, List.setIfInBounds_toArray, List.set_cons_zero, List.set_cons_succ]
      refine wpAnyH_take (i := 25) (oi := ⟨_, _, _, _, _, _⟩) (v := ?_) rfl (by kernel_rfl) (by kernel_rfl) (by kernel_rfl) (fun _ _ _ h => h) (Or.inl ⟨by rfl, ?_⟩) (by assumption) ?_
      rotate_left 1
      · intro W' hSw
        obtain ⟨hS1, hS2, hS3, hS4, hS5, hS6, hS7⟩ := hSw
        go_simp
        try with_reducible rfl
      try simp only [Act.put, List.setIfInBounds_toArray, List.set_cons_zero, List.set_cons_succ]
      refine wpAnyH_take (i := 26) (oi := ⟨_, _, _, _, _, _⟩) (v := ?_) rfl (by kernel_rfl) (by kernel_rfl) (by kernel_rfl) (fun _ _ _ h => h) (Or.inl ⟨by rfl, ?_⟩) (by assumption) ?_
      rotate_left 1
      · intro W' hSw
        obtain ⟨hS1, hS2, hS3, hS4, hS5, hS6, hS7⟩ := hSw
        go_simp
        try with_reducible rfl
      try simp only [Act.put, List.setIfInBounds_toArray, List.set_cons_zero, List.set_cons_succ]
      refine wpAnyH_ready (rs := [27]) (by kernel_rfl) (by simp) ?_
      refine AllReadyH.cons (o := ⟨_, _, _, _, _, _⟩) rfl (fun K' hK => ?_) AllReadyH.nil
      go_simp
      refine (HGR.out _).mono ?_
      rintro en V5 ⟨rfl, hx5⟩
      have hx5' : V.Extends V5 := (extd V).trans hx5
      dsimp only
      refine hK.out _ _ (HSX.out _ hx5') (fun hHeld => ?_)
      clear hK K'
      try simp only [Act.put, List.setIfInBounds_toArray, List.set_cons_zero, List.set_cons_succ]
      refine wpAnyH_ready (rs := [28]) (by kernel_rfl) (by simp) ?_
      refine AllReadyH.cons (o := ⟨_, _, _, _, _, _⟩) rfl (fun K' hK => ?_) AllReadyH.nil
      go_simp
      refine (HCT.out _ hx5' _).mono ?_
      rintro en V6 ⟨rfl, hx6⟩
      have hx6' : V.Extends V6 := hx5'.trans hx6
      dsimp only
      refine hK.out _ _ (HSX.out _ hx6') (fun hHeld => ?_)
      clear hK K'
      try simp only [Act.put, List.setIfInBounds_toArray, List.set_cons_zero, List.set_cons_succ]
      refine wpAnyH_take (i := 29) (oi := ⟨_, _, _, _, _, _⟩) (v := ?_) rfl (by kernel_rfl) (by kernel_rfl) (by kernel_rfl) (fun _ _ _ h => h) (Or.inl ⟨by rfl, ?_⟩) (by assumption) ?_
      rotate_left 1
      · intro W' hSw
        obtain ⟨hS1, hS2, hS3, hS4, hS5, hS6, hS7⟩ := hSw
        go_simp
        try with_reducible rfl
      try simp only [Act.put, List.setIfInBounds_toArray, List.set_cons_zero, List.set_cons_succ]
      refine wpAnyH_take (i := 30) (oi := ⟨_, _, _, _, _, _⟩) (v := ?_) rfl (by kernel_rfl) (by kernel_rfl) (by kernel_rfl) (fun _ _ _ h => h) (Or.inl ⟨by rfl, ?_⟩) (by assumption) ?_
      rotate_left 1
      · intro W' hSw
        obtain ⟨hS1, hS2, hS3, hS4, hS5, hS6, hS7⟩ := hSw
        go_simp
        try with_reducible rfl
      try simp only [Act.put, List.setIfInBounds_toArray, List.set_cons_zero, List.set_cons_succ]
      refine wpAnyH_take (i := 31) (oi := ⟨_, _, _, _, _, _⟩) (v := ?_) rfl (by kernel_rfl) (by kernel_rfl) (by kernel_rfl) (fun _ _ _ h => h) (Or.inl ⟨by rfl, ?_⟩) (by assumption) ?_
      rotate_left 1
      · intro W' hSw
        obtain ⟨hS1, hS2, hS3, hS4, hS5, hS6, hS7⟩ := hSw
        go_simp
        try with_reducible rfl
      try simp only [Act.put, List.setIfInBounds_toArray, List.set_cons_zero, List.set_cons_succ]
      refine wpAnyH_take (i := 32) (oi := ⟨_, _, _, _, _, _⟩) (v := ?_) rfl (by kernel_rfl) (by kernel_rfl) (by kernel_rfl) (fun _ _ _ h => h) (Or.inl ⟨by rfl, ?_⟩) (by assumption) ?_
      rotate_left 1
      · intro W' hSw
        obtain ⟨hS1, hS2, hS3, hS4, hS5, hS6, hS7⟩ := hSw
        go_simp
        try with_reducible rfl
      try simp only [Act.put, List.setIfInBounds_toArray, List.set_cons_zero, List.set_cons_succ]
      refine wpAnyH_take (i := 33) (oi := ⟨_, _, _, _, _, _⟩) (v := ?_) rfl (by kernel_rfl) (by kernel_rfl) (by kernel_rfl) (fun _ _ _ h => h) (Or.inl ⟨by rfl, ?_⟩) (by assumption) ?_
      rotate_left 1
      · intro W' hSw
        obtain ⟨hS1, hS2, hS3, hS4, hS5, hS6, hS7⟩ := hSw
        go_simp
        try with_reducible rfl
      try simp only [Act.put, List.setIfInBounds_toArray, List.set_cons_zero, List.set_cons_succ]
      refine wpAnyH_done (by kernel_rfl) ?_ _
      by_cases hres : T ∈ rows
      · have hde : decide (T ∈ rows) = true := decide_eq_true hres
        have HP : Hid (Q (.returned (.slice a n c)) V6) := by
          refine HRET.out V6 hx6' ?_
          rw [HGO.out, negs_false (List.mem_of_getElem? HZ.out) (by show (l.neg && decide (gT l.atom e (arA P l.atom) ∈ rowsAt S sr)) = true; rw [HCOND.out, hde])]; rfl
        clear HRET HCOND HNEXT HOK
        go_wp2_with fail
        try go_ret
        exact HP.out
      · have hde : decide (T ∈ rows) = false := decide_eq_false hres
        have HOK' : Hid (∀ j', j' < j + 1 → ∀ z, Z0[j']? = some z → (z.1.neg && decide (gT z.1.atom e (arA P z.1.atom) ∈ rowsAt S z.2)) = false) := HNEXT.out _ HCOND.out hde
        have HX' : Hid (V2.Extends V6) := HX.out.trans hx6'
        clear HRET HCOND HNEXT HOK
        go_wp2_with fail
        refine ⟨rfl, rfl, ⟨rfl, rfl, rfl, rfl, rfl, rfl, j + 1, by omega, ?_, HX', HOK'⟩, ?_⟩
        · show Value.int .i64 _ = _
          go_num
        · show ln - (intOf (Value.int .i64 _)).toNat < ln - (intOf (F 19)).toNat
          rw [H19.out]
          simp [intOf]; omega
    have hin' : ¬ (j : Int) < (ln : Int) := by omega
    have hnt : negs P S Z0 e = true := negs_true (fun j' z hz => HOK.out j' (by
      have h1 := (List.getElem?_eq_some_iff.1 hz).1
      rw [HZ0.out, List.length_zip, ← HLL.out] at h1
      have h2 := HLN.out
      omega) z hz)
    have hgo := HGO.out
    rw [hnt, if_pos rfl, ← HL12.out] at hgo
    obtain ⟨T, hT⟩ : ∃ T, T = gT r'.head e arh := ⟨_, rfl⟩
    have hgr := fun V' => ground_any V' r'.head arh e HFH.out
    rw [← hT] at hgo hgr
    have htok : TOk T := by rw [hT]; exact gT_ok HFH.out heok
    have HGO2 := hid_of hgo
    have HGR := hid_of hgr
    have y0 : (0 : Int) ≤ (qh : Int) := by omega
    have y1 : (qh : Int) < (N : Int) := by omega
    have y2 : ((qh : Int)).toNat = qh := by omega
    have HSX : Hid (∀ V', V.Extends V' → blk V' b13 = some Rc ∧ blk V' bp = some Ce ∧ blk V' bP = some CP ∧ blk V' b10 = some e.enc) := fun V' hx => ⟨(hx.blk (blk_lt hb13)).trans hb13, (hx.blk (blk_lt hbp)).trans hbp, (hx.blk (blk_lt hbP)).trans hbP, (hx.blk (blk_lt hb10)).trans hb10⟩
    clear hgo hT hnt hgr HOK
    go_upto_region 20 with fail
    obtain ⟨R20, hR20⟩ : ∃ R20 : Act → Act → World → Prop, R20 = fun a0 a' w' => ∃ b22, ∃ f : Nat → Value, a' = ⟨frameN 183 f, []⟩ ∧ f 5 = .slice a n c ∧ f 22 = .pointer (some ⟨b22, 0, none⟩) ∧ Hid (blk w' b22 = some (arr i64v T) ∧ V.Extends w') := ⟨_, rfl⟩
    have HR20 := hid_of hR20
    clear hR20
    refine wp_cutR R20 ?_ ?_
    · rw [HR20.out]
      clear HR20 HE HOUT HOUT2 HQ HC0 HG6 HG10 HGO HGO2 HRET
      refine wp_region_held_drew (S := fun W' => blk W' b13 = some Rc ∧ blk W' bp = some Ce ∧ blk W' bP = some CP ∧ blk W' b10 = some e.enc) (by kernel_rfl) (HSX.out _ (extd V)) (fun hHeld => ?_)
      refine wpAnyH_take (i := 0) (oi := ⟨_, _, _, _, _, _⟩) (v := ?_) rfl (by kernel_rfl) (by kernel_rfl) (by kernel_rfl) (fun _ _ _ h => nomatch h.1) (Or.inl ⟨by rfl, ?_⟩) (by assumption) ?_
      rotate_left 1
      · intro W' hSw
        obtain ⟨hS1, hS2, hS3, hS4⟩ := hSw
        go_simp
        try with_reducible rfl
      try simp only [Act.put, List.setIfInBounds_toArray, List.set_cons_zero, List.set_cons_succ]
      refine wpAnyH_take (i := 1) (oi := ⟨_, _, _, _, _, _⟩) (v := ?_) rfl (by kernel_rfl) (by kernel_rfl) (by kernel_rfl) (fun _ _ _ h => nomatch h.1) (Or.inl ⟨by rfl, ?_⟩) (by assumption) ?_
      rotate_left 1
      · intro W' hSw
        obtain ⟨hS1, hS2, hS3, hS4⟩ := hSw
        go_simp
        try with_reducible rfl
      try simp only [Act.put, List.setIfInBounds_toArray, List.set_cons_zero, List.set_cons_succ]
      refine wpAnyH_take (i := 2) (oi := ⟨_, _, _, _, _, _⟩) (v := ?_) rfl (by kernel_rfl) (by kernel_rfl) (by kernel_rfl) (fun _ _ _ h => nomatch h.1) (Or.inl ⟨by rfl, ?_⟩) (by assumption) ?_
      rotate_left 1
      · intro W' hSw
        obtain ⟨hS1, hS2, hS3, hS4⟩ := hSw
        go_simp
        try with_reducible rfl
      try simp only [Act.put, List.setIfInBounds_toArray, List.set_cons_zero, List.set_cons_succ]
      refine wpAnyH_take (i := 3) (oi := ⟨_, _, _, _, _, _⟩) (v := ?_) rfl (by kernel_rfl) (by kernel_rfl) (by kernel_rfl) (fun _ _ _ h => nomatch h.1) (Or.inl ⟨by rfl, ?_⟩) (by assumption) ?_
      rotate_left 1
      · intro W' hSw
        obtain ⟨hS1, hS2, hS3, hS4⟩ := hSw
        go_simp
        try with_reducible rfl
      try simp only [Act.put, List.setIfInBounds_toArray, List.set_cons_zero, List.set_cons_succ]
      refine wpAnyH_take (i := 4) (oi := ⟨_, _, _, _, _, _⟩) (v := ?_) rfl (by kernel_rfl) (by kernel_rfl) (by kernel_rfl) (fun _ _ _ h => nomatch h.1) (Or.inl ⟨by rfl, ?_⟩) (by assumption) ?_
      rotate_left 1
      · intro W' hSw
        obtain ⟨hS1, hS2, hS3, hS4⟩ := hSw
        go_simp
        try with_reducible rfl
      try simp only [Act.put, List.setIfInBounds_toArray, List.set_cons_zero, List.set_cons_succ]
      refine wpAnyH_take (i := 5) (oi := ⟨_, _, _, _, _, _⟩) (v := ?_) rfl (by kernel_rfl) (by kernel_rfl) (by kernel_rfl) (fun _ _ _ h => nomatch h.1) (Or.inl ⟨by rfl, ?_⟩) (by assumption) ?_
      rotate_left 1
      · intro W' hSw
        obtain ⟨hS1, hS2, hS3, hS4⟩ := hSw
        go_simp
        try with_reducible rfl
      try simp only [Act.put, List.setIfInBounds_toArray, List.set_cons_zero, List.set_cons_succ]
      refine wpAnyH_take (i := 6) (oi := ⟨_, _, _, _, _, _⟩) (v := ?_) rfl (by kernel_rfl) (by kernel_rfl) (by kernel_rfl) (fun _ _ _ h => nomatch h.1) (Or.inl ⟨by rfl, ?_⟩) (by assumption) ?_
      rotate_left 1
      · intro W' hSw
        obtain ⟨hS1, hS2, hS3, hS4⟩ := hSw
        go_simp
        try with_reducible rfl
      try simp only [Act.put, List.setIfInBounds_toArray, List.set_cons_zero, List.set_cons_succ]
      refine wpAnyH_take (i := 7) (oi := ⟨_, _, _, _, _, _⟩) (v := ?_) rfl (by kernel_rfl) (by kernel_rfl) (by kernel_rfl) (fun _ _ _ h => nomatch h.1) (Or.inl ⟨by rfl, ?_⟩) (by assumption) ?_
      rotate_left 1
      · intro W' hSw
        obtain ⟨hS1, hS2, hS3, hS4⟩ := hSw
        go_simp
        try with_reducible rfl
      try simp only [Act.put, List.setIfInBounds_toArray, List.set_cons_zero, List.set_cons_succ]
      refine wpAnyH_take (i := 8) (oi := ⟨_, _, _, _, _, _⟩) (v := ?_) rfl (by kernel_rfl) (by kernel_rfl) (by kernel_rfl) (fun _ _ _ h => nomatch h.1) (Or.inl ⟨by rfl, ?_⟩) (by assumption) ?_
      rotate_left 1
      · intro W' hSw
        obtain ⟨hS1, hS2, hS3, hS4⟩ := hSw
        go_simp
        try with_reducible rfl
      try simp only [Act.put, List.setIfInBounds_toArray, List.set_cons_zero, List.set_cons_succ]
      refine wpAnyH_take (i := 9) (oi := ⟨_, _, _, _, _, _⟩) (v := ?_) rfl (by kernel_rfl) (by kernel_rfl) (by kernel_rfl) (fun _ _ _ h => nomatch h.1) (Or.inl ⟨by rfl, ?_⟩) (by assumption) ?_
      rotate_left 1
      · intro W' hSw
        obtain ⟨hS1, hS2, hS3, hS4⟩ := hSw
        go_simp
        try with_reducible rfl
      try simp only [Act.put, List.setIfInBounds_toArray, List.set_cons_zero, List.set_cons_succ]
      refine wpAnyH_take (i := 10) (oi := ⟨_, _, _, _, _, _⟩) (v := ?_) rfl (by kernel_rfl) (by kernel_rfl) (by kernel_rfl) (fun _ _ _ h => nomatch h.1) (Or.inl ⟨by rfl, ?_⟩) (by assumption) ?_
      rotate_left 1
      · intro W' hSw
        obtain ⟨hS1, hS2, hS3, hS4⟩ := hSw
        go_simp
        try with_reducible rfl
      try simp only [Act.put, List.setIfInBounds_toArray, List.set_cons_zero, List.set_cons_succ]
      refine wpAnyH_take (i := 11) (oi := ⟨_, _, _, _, _, _⟩) (v := ?_) rfl (by kernel_rfl) (by kernel_rfl) (by kernel_rfl) (fun _ _ _ h => nomatch h.1) (Or.inl ⟨by rfl, ?_⟩) (by assumption) ?_
      rotate_left 1
      · intro W' hSw
        obtain ⟨hS1, hS2, hS3, hS4⟩ := hSw
        go_simp
        try with_reducible rfl
      try simp only [Act.put, List.setIfInBounds_toArray, List.set_cons_zero, List.set_cons_succ]
      refine wpAnyH_take (i := 12) (oi := ⟨_, _, _, _, _, _⟩) (v := ?_) rfl (by kernel_rfl) (by kernel_rfl) (by kernel_rfl) (fun _ _ _ h => nomatch h.1) (Or.inl ⟨by rfl, ?_⟩) (by assumption) ?_
      rotate_left 1
      · intro W' hSw
        obtain ⟨hS1, hS2, hS3, hS4⟩ := hSw
        go_simp
        try with_reducible rfl
      try simp only [Act.put, List.setIfInBounds_toArray, List.set_cons_zero, List.set_cons_succ]
      refine wpAnyH_ready (rs := [13, 14]) (by kernel_rfl) (by simp) ?_
      refine AllReadyH.cons (o := ⟨_, _, _, _, _, _⟩) rfl (fun K' hK => ?_) (AllReadyH.cons (o := ⟨_, _, _, _, _, _⟩) rfl (fun K' hK => ?_) AllReadyH.nil)
      · go_simp
        refine (HGR.out _).mono ?_
        rintro en V5 ⟨rfl, hx5⟩
        have hx5' : V.Extends V5 := Go.World.Extends.trans (by (repeat (first | assumption | exact ext_Ext (Ext.refl _) | apply extends_drew | apply extends_alloc | (refine extends_put ?_ (by first | exact Nat.le_refl _ | assumption | omega) _)))) hx5
        have hz5 := hx5'.size
        dsimp only
        refine hK.out _ _ (HSX.out _ (by (repeat (first | assumption | exact ext_Ext (Ext.refl _) | apply extends_drew | apply extends_alloc | (refine extends_put ?_ (by first | exact Nat.le_refl _ | assumption | omega) _))))) (fun hHeld => ?_)
        clear hK K'
        try simp only [Act.put, List.setIfInBounds_toArray, List.set_cons_zero, List.set_cons_succ]
        refine wpAnyH_ready (rs := [14]) (by kernel_rfl) (by simp) ?_
        refine AllReadyH.cons (o := ⟨_, _, _, _, _, _⟩) rfl (fun K' hK => ?_) AllReadyH.nil
        go_simp
        refine hK.out _ _ (HSX.out _ (by (repeat (first | assumption | exact ext_Ext (Ext.refl _) | apply extends_drew | apply extends_alloc | (refine extends_put ?_ (by first | exact Nat.le_refl _ | assumption | omega) _))))) (fun hHeld => ?_)
        clear hK K'
        try simp only [Act.put, List.setIfInBounds_toArray, List.set_cons_zero, List.set_cons_succ]
        refine wpAnyH_ready (rs := [15]) (by kernel_rfl) (by simp) ?_
        refine AllReadyH.cons (o := ⟨_, _, _, _, _, _⟩) rfl (fun K' hK => ?_) AllReadyH.nil
        go_simp
        refine hK.out _ _ (HSX.out _ (by (repeat (first | assumption | exact ext_Ext (Ext.refl _) | apply extends_drew | apply extends_alloc | (refine extends_put ?_ (by first | exact Nat.le_refl _ | assumption | omega) _))))) (fun hHeld => ?_)
        clear hK K'
        try simp only [Act.put, List.setIfInBounds_toArray, List.set_cons_zero, List.set_cons_succ]
        refine wpAnyH_done (by kernel_rfl) ?_ _
        refine ⟨rfl, _, cut_intro _ rfl ⟨rfl, rfl, ?_⟩⟩
        refine ⟨?_, ?_⟩
        · first
            | (rw [blk_put, if_pos rfl, blk_alloc, if_pos rfl]; rfl)
            | (rw [blk_put, if_pos rfl, HBZ.out]; rfl)
            | (rw [blk_alloc, if_pos rfl])
            | (rw [blk_drew, blk_alloc, if_pos rfl])
        · (repeat (first | assumption | exact ext_Ext (Ext.refl _) | apply extends_drew | apply extends_alloc | (refine extends_put ?_ (by first | exact Nat.le_refl _ | assumption | omega) _)))
      · go_simp
        have HFZ0 : Hid (free (V.alloc (.cells (arr i64v (Vector.replicate 4 0 : Vector Int 4)).toArray 44)) V.heap.size = true) := by show free _ _ = _; unfold free; rw [heap_alloc, if_pos rfl]; rfl
        have HBZ0 : Hid (blk (V.alloc (.cells (arr i64v (Vector.replicate 4 0 : Vector Int 4)).toArray 44)) V.heap.size = some (arr i64v (Vector.replicate 4 0 : Vector Int 4))) := by show blk _ _ = _; rw [blk_alloc, if_pos rfl]
        refine hK.out _ _ (HSX.out _ (by (repeat (first | assumption | exact ext_Ext (Ext.refl _) | apply extends_drew | apply extends_alloc | (refine extends_put ?_ (by first | exact Nat.le_refl _ | assumption | omega) _))))) (fun hHeld => ?_)
        clear hK K'
        try simp only [Act.put, List.setIfInBounds_toArray, List.set_cons_zero, List.set_cons_succ]
        refine wpAnyH_ready (rs := [13]) (by kernel_rfl) (by simp) ?_
        refine AllReadyH.cons (o := ⟨_, _, _, _, _, _⟩) rfl (fun K' hK => ?_) AllReadyH.nil
        go_simp
        refine (HGR.out _).mono ?_
        rintro en V5 ⟨rfl, hx5⟩
        have hx5' : V.Extends V5 := Go.World.Extends.trans (by (repeat (first | assumption | exact ext_Ext (Ext.refl _) | apply extends_drew | apply extends_alloc | (refine extends_put ?_ (by first | exact Nat.le_refl _ | assumption | omega) _)))) hx5
        have hz5 := hx5'.size
        dsimp only
        have HBZ : Hid (blk V5 V.heap.size = some (arr i64v (Vector.replicate 4 0 : Vector Int 4))) := (hx5.blk (blk_lt HBZ0.out)).trans HBZ0.out
        have hbz := HBZ.out
        have hfz : free V5 V.heap.size = true := (free_of_heap (hx5.block V.heap.size (blk_lt HBZ0.out))).trans HFZ0.out
        refine hK.out _ _ (HSX.out _ (by (repeat (first | assumption | exact ext_Ext (Ext.refl _) | apply extends_drew | apply extends_alloc | (refine extends_put ?_ (by first | exact Nat.le_refl _ | assumption | omega) _))))) (fun hHeld => ?_)
        clear hK K'
        try simp only [Act.put, List.setIfInBounds_toArray, List.set_cons_zero, List.set_cons_succ]
        refine wpAnyH_ready (rs := [15]) (by kernel_rfl) (by simp) ?_
        refine AllReadyH.cons (o := ⟨_, _, _, _, _, _⟩) rfl (fun K' hK => ?_) AllReadyH.nil
        go_simp
        refine hK.out _ _ (HSX.out _ (by (repeat (first | assumption | exact ext_Ext (Ext.refl _) | apply extends_drew | apply extends_alloc | (refine extends_put ?_ (by first | exact Nat.le_refl _ | assumption | omega) _))))) (fun hHeld => ?_)
        clear hK K'
        try simp only [Act.put, List.setIfInBounds_toArray, List.set_cons_zero, List.set_cons_succ]
        refine wpAnyH_done (by kernel_rfl) ?_ _
        refine ⟨rfl, _, cut_intro _ rfl ⟨rfl, rfl, ?_⟩⟩
        refine ⟨?_, ?_⟩
        · first
            | (rw [blk_put, if_pos rfl, blk_alloc, if_pos rfl]; rfl)
            | (rw [blk_put, if_pos rfl, HBZ.out]; rfl)
            | (rw [blk_alloc, if_pos rfl])
            | (rw [blk_drew, blk_alloc, if_pos rfl])
        · (repeat (first | assumption | exact ext_Ext (Ext.refl _) | apply extends_drew | apply extends_alloc | (refine extends_put ?_ (by first | exact Nat.le_refl _ | assumption | omega) _)))
    rw [HR20.out]
    rintro _ V4 ⟨b22, f4, rfl, f5, f22, H4⟩
    rw [frame183, f5, f22]
    clear f5 f22
    obtain ⟨h22, hx4⟩ := H4.out
    have ho4 := HOUT2.out.ext (HX.out.trans hx4)
    have hme := member_any V4 a n c out (outs_rw ho4).1 hn10 T
    have HX4 := hid_of hx4
    have HO4 := hid_of ho4
    clear hx4 ho4 H4
    go_wp2_with fail
    refine hme.mono ?_
    rintro en V5 ⟨rfl, hx5⟩
    clear hme
    dsimp only
    by_cases hm : T ∈ out
    · have hde : decide (T ∈ out) = true := decide_eq_true hm
      have HP : Hid (Q (.returned (.slice a n c)) V5) := by
        refine HRET.out V5 (HX4.out.trans hx5) ?_
        rw [HGO2.out]
        exact if_pos hm
      clear HRET hx5
      go_wp2_with fail
      try go_ret
      exact HP.out
    · have hde : decide (T ∈ out) = false := decide_eq_false hm
      have h22' : blk V5 b22 = some (arr i64v T) := (hx5.blk (blk_lt h22)).trans h22
      obtain ⟨a', c', W3, hrun, ho3, hg3⟩ := (HO4.out.ext hx5).app2 T (by have := hook.len; omega)
      have HP : Hid (Q (.returned (.slice a' (n + 1) c')) W3) := by
        show Q _ _
        rw [HQ.out, HGO2.out]
        refine ⟨a', n + 1, c', rfl, ?_, (Gro.of_ext (HXW.out.trans (HX.out.trans (HX4.out.trans hx5))) _).trans hg3⟩
        have e1 : addT out T = out ++ [T] := if_neg hm
        rw [e1]; exact ho3
      clear HRET hx5 ho3 hg3
      go_wp2_with (at_builtin; refine wpList_append_run rfl _ _ 36 rfl _ _ _ _ rfl rfl hrun ?_)
      try go_ret
      exact HP.out
  | succ m ih =>
    intro i hi W e a n c out hout heok hook
    have HIH := hid_of ih
    clear ih
    have HE := hid_of hE
    have HOUT := hid_of hout
    obtain ⟨Z0, hZ0⟩ : ∃ Z0, Z0 = (Ls k).zip Src := ⟨_, rfl⟩
    try rw [← hZ0] at HIH
    rw [← hZ0]
    have HZ0 := hid_of hZ0
    obtain ⟨L, hLL⟩ : ∃ L, L = Ls k := ⟨_, rfl⟩
    rw [← hLL] at hi
    try rw [← hLL] at HIH
    have HLL := hid_of hLL
    obtain ⟨Q, hQ⟩ : ∃ Q, Q = MPost W0 W a n c (goM P S Z0 r.head (Z0.drop i) e out) := ⟨_, rfl⟩
    rw [← hQ]
    have HQ := hid_of hQ
    obtain ⟨Ce, aP, cP, aR, cR, bP, bR, g1, g2, g3, g4, g5, g6, g7, g8⟩ := hE.prg
    obtain ⟨bL, oL, ba, bc, g9, g10⟩ := g8 k r hE.rule
    rw [← hLL] at g9 g10
    have hkM : k < R.length := (List.getElem?_eq_some_iff.1 hE.rule).1
    obtain ⟨r', CR, k1, rfl, k3, k4, k5⟩ := g7.get hkM
    obtain rfl : r' = r := Option.some.inj (k1.symm.trans hE.rule)
    rw [Nat.zero_add] at k4 k5
    have hkl : (k + 1) * 10 ≤ R.length * 10 := Nat.mul_le_mul_right _ hkM
    obtain ⟨M, hMM⟩ : ∃ M, M = R.length := ⟨_, rfl⟩
    obtain ⟨N, hNN⟩ : ∃ N, N = P.length := ⟨_, rfl⟩
    have hM := hE.nR
    have hN := hE.nP
    have h8 := hE.b8
    rw [← hLL] at h8
    rw [← hMM] at g4 hkM hM hkl k4
    rw [← hNN] at g3 hN
    obtain ⟨Rc, hRc⟩ : ∃ Rc, Rc = r'.enc := ⟨_, rfl⟩
    have r1 : nth Rc 9 = some (.slice ba L.length bc) := by rw [hRc, GRule.body_get, g9]
    have r2 : seg Rc 0 9 = r'.head.enc := by rw [hRc]; exact GRule.head_get r'
    have r3 : seg Rc 0 10 = Rc := by rw [hRc]; exact GRule.all_get r'
    have r4 : Rc.length = 10 := by rw [hRc]; exact GRule.length_enc r'
    have r5 : okCells 10 Rc = true := by rw [hRc]; exact GRule.ok_enc r'
    have r6 : splice GRule.zero.enc 0 Rc = Rc := by rw [hRc]; exact GRule.all_set _ _
    have r7 : seg CR (k * 10) 10 = Rc := by rw [hRc]; exact k5
    have r8 : nth Rc 0 = some (.int .i64 r'.head.pred) := by rw [hRc]; exact GRule.head_pred_get r'
    have HRC := hid_of hRc
    have d1 : k * 10 + 10 ≤ CR.length := by omega
    have d2 : k * 10 < CR.length := by omega
    have q0 : (0 : Int) ≤ (k : Int) := by omega
    have q1 : (k : Int) < (M : Int) := by omega
    have q2 : ((k : Int)).toNat = k := by omega
    have HC0 : Hid (blk W0 bp = some Ce ∧ blk W0 bR = some CR) := ⟨g1, k3⟩
    have HG6 := hid_of g6
    have HG10 := hid_of g10
    have HNN := hid_of hNN
    clear hE hZ0 hLL hQ g1 g5 g6 g7 g8 g9 g10 k1 k3 k5 hRc hMM hkM hkl hNN k4
    go_enter Try.func83, Try.ntmps83
    go_upto_region 1 with fail
    refine wp_world (fun V => W.Extends V ∧ blk V W.heap.size = some (plE (k : Int) d sa sn sc) ∧ blk V (W.heap.size + 1) = some e.enc) ?_ ?_
    · refine ⟨extends_alloc (extends_alloc (ext_Ext (Ext.refl _)) _) _, ?_, ?_⟩
      all_goals first
        | (repeat rw [blk_alloc, if_neg (by simp only [World.size_alloc]; omega)]
           rw [blk_alloc, if_pos (by simp only [World.size_alloc])]
           done)
        | (unfold free
           repeat rw [heap_alloc, if_neg (by simp only [World.size_alloc]; omega)]
           rw [heap_alloc, if_pos (by simp only [World.size_alloc])]
           rfl)
    intro V1 hV1
    try simp only [World.size_alloc]
    obtain ⟨b8, e_b8⟩ : ∃ b, b = W.heap.size := ⟨_, rfl⟩
    obtain ⟨b10, e_b10⟩ : ∃ b, b = W.heap.size + 1 := ⟨_, rfl⟩
    rw [← e_b10] at hV1 ⊢
    rw [← e_b8] at hV1 ⊢
    have hn_b8 : W.heap.size ≤ b8 := by omega
    have n_b8_b10 : ¬ b8 = b10 := by omega
    have n_b10_b8 : ¬ b10 = b8 := by omega
    have hn_b10 : W.heap.size ≤ b10 := by omega
    clear e_b8 e_b10
    obtain ⟨hx1, hb8, hb10⟩ := hV1
    have hxx := HOUT.out.2.1.trans hx1
    have hbp : blk V1 bp = some Ce := (hxx.blk (blk_lt HC0.out.1)).trans HC0.out.1
    have hbR : blk V1 bR = some CR := (hxx.blk (blk_lt HC0.out.2)).trans HC0.out.2
    have m8 : ¬ b8 = V1.heap.size := Nat.ne_of_lt (blk_lt hb8)
    have mp : ¬ bp = V1.heap.size := Nat.ne_of_lt (blk_lt hbp)
    have mR : ¬ bR = V1.heap.size := Nat.ne_of_lt (blk_lt hbR)
    have HX1 := hid_of hx1
    have HB10 := hid_of hb10
    clear hx1 hxx hout hb10
    refine wp_region_held_drew (S := fun W' => blk W' b8 = some (plE (k : Int) d sa sn sc) ∧ blk W' bp = some Ce ∧ blk W' bR = some CR) (by kernel_rfl) ⟨hb8, hbp, hbR⟩ (fun hHeld => ?_)
    refine wpAnyH_take (i := 0) (oi := ⟨_, _, _, _, _, _⟩) (v := ?_) rfl (by kernel_rfl) (by kernel_rfl) (by kernel_rfl) (fun _ _ _ h => h) (Or.inl ⟨by rfl, ?_⟩) (by assumption) ?_
    rotate_left 1
    · intro W' hSw
      obtain ⟨hS1, hS2, hS3⟩ := hSw
      go_simp
      try with_reducible rfl
    try simp only [Act.put, List.setIfInBounds_toArray, List.set_cons_zero, List.set_cons_succ]
    refine wpAnyH_take (i := 1) (oi := ⟨_, _, _, _, _, _⟩) (v := ?_) rfl (by kernel_rfl) (by kernel_rfl) (by kernel_rfl) (fun _ _ _ h => h) (Or.inl ⟨by rfl, ?_⟩) (by assumption) ?_
    rotate_left 1
    · intro W' hSw
      obtain ⟨hS1, hS2, hS3⟩ := hSw
      go_simp
      try with_reducible rfl
    try simp only [Act.put, List.setIfInBounds_toArray, List.set_cons_zero, List.set_cons_succ]
    refine wpAnyH_take (i := 2) (oi := ⟨_, _, _, _, _, _⟩) (v := ?_) rfl (by kernel_rfl) (by kernel_rfl) (by kernel_rfl) (fun _ _ _ h => h) (Or.inl ⟨by rfl, ?_⟩) (by assumption) ?_
    rotate_left 1
    · intro W' hSw
      obtain ⟨hS1, hS2, hS3⟩ := hSw
      go_simp
      try with_reducible rfl
    try simp only [Act.put, List.setIfInBounds_toArray, List.set_cons_zero, List.set_cons_succ]
    refine wpAnyH_take (i := 3) (oi := ⟨_, _, _, _, _, _⟩) (v := ?_) rfl (by kernel_rfl) (by kernel_rfl) (by kernel_rfl) (fun _ _ _ h => h) (Or.inl ⟨by rfl, ?_⟩) (by assumption) ?_
    rotate_left 1
    · intro W' hSw
      obtain ⟨hS1, hS2, hS3⟩ := hSw
      go_simp
      try with_reducible rfl
    try simp only [Act.put, List.setIfInBounds_toArray, List.set_cons_zero, List.set_cons_succ]
    refine wpAnyH_take (i := 4) (oi := ⟨_, _, _, _, _, _⟩) (v := ?_) rfl (by kernel_rfl) (by kernel_rfl) (by kernel_rfl) (fun _ _ _ h => h) (Or.inl ⟨by rfl, ?_⟩) (by assumption) ?_
    rotate_left 1
    · intro W' hSw
      obtain ⟨hS1, hS2, hS3⟩ := hSw
      go_simp
      try with_reducible rfl
    try simp only [Act.put, List.setIfInBounds_toArray, List.set_cons_zero, List.set_cons_succ]
    refine wpAnyH_take (i := 5) (oi := ⟨_, _, _, _, _, _⟩) (v := ?_) rfl (by kernel_rfl) (by kernel_rfl) (by kernel_rfl) (fun _ _ _ h => h) (Or.inl ⟨by rfl, ?_⟩) (by assumption) ?_
    rotate_left 1
    · intro W' hSw
      obtain ⟨hS1, hS2, hS3⟩ := hSw
      go_simp
      try with_reducible rfl
    try simp only [Act.put, List.setIfInBounds_toArray, List.set_cons_zero, List.set_cons_succ]
    refine wpAnyH_take (i := 6) (oi := ⟨_, _, _, _, _, _⟩) (v := ?_) rfl (by kernel_rfl) (by kernel_rfl) (by kernel_rfl) (fun _ _ _ h => h) (Or.inl ⟨by rfl, ?_⟩) (by assumption) ?_
    rotate_left 1
    · intro W' hSw
      obtain ⟨hS1, hS2, hS3⟩ := hSw
      go_simp
      try with_reducible rfl
    try simp only [Act.put, List.setIfInBounds_toArray, List.set_cons_zero, List.set_cons_succ]
    refine wpAnyH_take (i := 7) (oi := ⟨_, _, _, _, _, _⟩) (v := ?_) rfl (by kernel_rfl) (by kernel_rfl) (by kernel_rfl) (fun _ _ _ h => h) (Or.inl ⟨by rfl, ?_⟩) (by assumption) ?_
    rotate_left 1
    · intro W' hSw
      obtain ⟨hS1, hS2, hS3⟩ := hSw
      go_simp
      try with_reducible rfl
    try simp only [Act.put, List.setIfInBounds_toArray, List.set_cons_zero, List.set_cons_succ]
    refine wpAnyH_ready (rs := [8]) (by kernel_rfl) (by simp) ?_
    refine AllReadyH.cons (o := ⟨_, _, _, _, _, _⟩) rfl (fun K' hK => ?_) AllReadyH.nil
    go_simp
    refine hK.out _ _ ⟨(blk_alloc _ _ _ _).trans ((if_neg m8).trans hb8), (blk_alloc _ _ _ _).trans ((if_neg mp).trans hbp), (blk_alloc _ _ _ _).trans ((if_neg mR).trans hbR)⟩ (fun hHeld => ?_)
    clear hK K'
    try simp only [Act.put, List.setIfInBounds_toArray, List.set_cons_zero, List.set_cons_succ]
    refine wpAnyH_ready (rs := [9]) (by kernel_rfl) (by simp) ?_
    refine AllReadyH.cons (o := ⟨_, _, _, _, _, _⟩) rfl (fun K' hK => ?_) AllReadyH.nil
    go_simp
    refine hK.out _ _ ⟨by first | (rw [blk_put, if_neg m8]; exact (blk_alloc _ _ _ _).trans ((if_neg m8).trans hb8)) | exact (blk_alloc _ _ _ _).trans ((if_neg m8).trans hb8), by first | (rw [blk_put, if_neg mp]; exact (blk_alloc _ _ _ _).trans ((if_neg mp).trans hbp)) | exact (blk_alloc _ _ _ _).trans ((if_neg mp).trans hbp), by first | (rw [blk_put, if_neg mR]; exact (blk_alloc _ _ _ _).trans ((if_neg mR).trans hbR)) | exact (blk_alloc _ _ _ _).trans ((if_neg mR).trans hbR)⟩ (fun hHeld => ?_)
    clear hK K'
    try simp only [Act.put, List.setIfInBounds_toArray, List.set_cons_zero, List.set_cons_succ]
    refine wpAnyH_done (by kernel_rfl) ?_ _
    go_upto_region 2 with fail
    refine wp_world (fun V => V1.Extends V ∧ blk V V1.heap.size = some Rc) ⟨?_, ?_⟩ ?_
    · first
        | exact extends_put (extends_drew (extends_alloc (ext_Ext (Ext.refl _)) _)) (Nat.le_refl _) _
        | exact extends_drew (extends_put (extends_alloc (ext_Ext (Ext.refl _)) _) (Nat.le_refl _) _)
    · first
        | (rw [blk_put, if_pos rfl, blk_drew, blk_alloc, if_pos rfl]; rfl)
        | (rw [blk_drew, blk_put, if_pos rfl, blk_alloc, if_pos rfl]; rfl)
    rintro V2 ⟨hx2, hb13⟩
    obtain ⟨b13, e13⟩ : ∃ b, b = V1.heap.size := ⟨_, rfl⟩
    rw [← e13] at hb13 ⊢
    have hn13 : W.heap.size ≤ b13 := by rw [e13]; exact HX1.out.size
    have hxW : W.Extends V2 := HX1.out.trans hx2
    have HXW := hid_of hxW
    have hb8 : blk V2 b8 = some (plE (k : Int) d sa sn sc) := (hx2.blk (blk_lt hb8)).trans hb8
    have hb10 : blk V2 b10 = some e.enc := (hx2.blk (blk_lt HB10.out)).trans HB10.out
    have hout2 := HOUT.out.ext hxW
    have HOUT2 := hid_of hout2
    have o8 := own_lt HOUT.out hn_b8
    have o10 := own_lt HOUT.out hn_b10
    have o13 := own_lt HOUT.out hn13
    clear e13 hx2 hxW hbp hbR m8 mp mR HX1 HB10 hout2
    have hiL : i < L.length := by omega
    obtain ⟨l, hl⟩ : ∃ l, L[i]? = some l := ⟨_, List.getElem?_eq_getElem hiL⟩
    obtain ⟨sr, hsr⟩ : ∃ sr, Src[i]? = some sr := ⟨_, List.getElem?_eq_getElem (by have := HE.out.slen; rw [← HLL.out] at this; omega)⟩
    have hdr : Z0.drop i = (l, sr) :: Z0.drop (i + 1) := drop_at (by rw [HZ0.out, ← HLL.out]; exact zip_at hl hsr)
    have hafit : AFit P l.atom := HE.out.lits l (by rw [← HLL.out]; exact List.mem_of_getElem? hl)
    obtain ⟨CL, CP, q, ar, rfl, l2, l3, l4, l5, l6, rfl, l8, l9, l10, l11, l12⟩ := lit_full HG10.out HG6.out hl hafit
    have hfit := hafit.fit
    rw [← l12] at hfit
    have HW0 : Hid (blk W0 bL = some CL ∧ blk W0 bP = some CP) := ⟨l2, l8⟩
    have hqN : q < N := by rw [HNN.out]; exact l10
    have x0 : W0.Extends V2 := HOUT2.out.2.1
    have hbL : blk V2 bL = some CL := (x0.blk (blk_lt l2)).trans l2
    have i0 : (0 : Int) ≤ (i : Int) := by omega
    have i1 : (i : Int) < (L.length : Int) := by omega
    have i2 : ((i : Int)).toNat = i := by omega
    have i3 : (i : Int) + 1 = ((i + 1 : Nat) : Int) := by omega
    have HL12 := hid_of l12
    have HDR := hid_of hdr
    clear l2 l8 l10 hl hafit l12 hdr
    obtain ⟨ln, hln⟩ : ∃ ln, ln = L.length := ⟨_, rfl⟩
    rw [← hln] at r1 i1 hi hiL h8
    have HLN := hid_of hln
    clear hln
    by_cases hneg : l.neg = true
    · rw [hneg] at l4
      have hrec := HIH.out (i + 1) (by rw [← HLN.out]; omega) V2 e a n c out HOUT2.out heok hook
      rw [← i3] at hrec
      clear i3
      have HREC := hid_of hrec
      clear hrec x0
      go_wp2_with fail
      refine HREC.out.mono ?_
      rintro en V3 ⟨a', n', c', rfl, ho3, hg3⟩
      have HP : Hid (Q (.returned (.slice a' n' c')) V3) := by
        show Q _ _
        rw [HQ.out]
        refine ⟨a', n', c', rfl, ?_, (Gro.of_ext HXW.out _).trans hg3⟩
        rw [HDR.out, goM_cons, if_pos hneg]; exact ho3
      clear ho3 hg3 HREC
      dsimp only
      go_wp2_with fail
      try go_ret
      exact HP.out
    have hnegf : l.neg = false := by simpa using hneg
    rw [hnegf] at l4
    obtain ⟨bs, Cs, rfl, s1, s2, s3, s4⟩ := rw_cell (v := .int .i64 (sr : Int)) (HE.out.src.ext' x0) hsr rfl
    obtain ⟨rows, hrows⟩ : ∃ rows, S[sr]? = some rows := ⟨_, List.getElem?_eq_getElem (HE.out.srel sr (List.mem_of_getElem? hsr))⟩
    have h512 : rows.length ≤ 512 := (HE.out.sok rows (List.mem_of_getElem? hrows)).1
    have hli := list_any B O V2 g bst S (HE.out.st.ext x0) sr rows hrows h512
    have hrt : ∀ t ∈ rows, TOk t := (HE.out.sok rows (List.mem_of_getElem? hrows)).2.2
    have hra : rowsAt S sr = rows := rowsAt_some hrows
    have HRT := hid_of hrt
    have HRA := hid_of hra
    have s5 : i < Cs.length := by omega
    have s6 : (i : Int) < (sn : Int) := by omega
    obtain ⟨rn, hrn⟩ : ∃ rn, rn = rows.length := ⟨_, rfl⟩
    rw [← hrn] at hli h512
    have HRN := hid_of hrn
    clear x0 hrows hsr hrt hra hrn
    go_wp2_with fail
    refine hli.mono ?_
    rintro en V3 ⟨ra, rc, rfl, hrow⟩
    have hx3 := hrow.2.1
    have hb8' : blk V3 b8 = some (plE (k : Int) d (some ⟨bs, 0, none⟩) sn sc) := (hx3.blk (blk_lt hb8)).trans hb8
    have hb10' : blk V3 b10 = some e.enc := (hx3.blk (blk_lt hb10)).trans hb10
    have hb13' : blk V3 b13 = some Rc := (hx3.blk (blk_lt hb13)).trans hb13
    have hap : Apt V3 (.slice a n c) ra rn rows := apt_of (outs_rw hrow).1 (fun b hb => by
      refine own_lt HOUT2.out (row_at hrow.1 b (by rw [hb]; rfl)).1)
    have HST : Hid (Outs W0 V3 a n c (((rows.take 0).foldl (stM P S Z0 r'.head (l, sr) (Z0.drop (i + 1)) e) out)) ∧ Gro W V3 (.slice a n c) (.slice a n c) ∧ (blk V3 b8 = some (plE (k : Int) d (some ⟨bs, 0, none⟩) sn sc) ∧ (Value.slice a n c).ownBlock ≠ some b8) ∧ (blk V3 b10 = some e.enc ∧ (Value.slice a n c).ownBlock ≠ some b10) ∧ (blk V3 b13 = some Rc ∧ (Value.slice a n c).ownBlock ≠ some b13) ∧ Apt V3 (.slice a n c) ra rn rows) := ⟨HOUT2.out.ext hx3, Gro.of_ext (HXW.out.trans hx3) _, ⟨hb8', o8⟩, ⟨hb10', o10⟩, ⟨hb13', o13⟩, hap⟩
    clear hli hrow hx3 hb8 hb10 hb13 hb8' hb10' hb13' hap hbL s1 o8 o10 o13
    dsimp only
    go_wp2_with fail
    refine wp_loop_f 183 (m1I W0 W bst bp i b8 b10 b13 (.slice a n c) ra rn rc rows (plE (k : Int) d (some ⟨bs, 0, none⟩) sn sc) e.enc Rc (fun k => (rows.take k).foldl (stM P S Z0 r'.head (l, sr) (Z0.drop (i + 1)) e) out)) (fun f _ => rn - (intOf (f 16)).toNat) rfl ⟨rfl, rfl, rfl, rfl, rfl, rfl, rfl, 0, a, n, c, by omega, rfl, rfl, HST⟩ ?_
    clear HST
    intro F V hrel
    obtain ⟨f0, f1, f3, f8, f10, f13, f14, kk, a1, n1, c1, hkk, f16, f5, HV⟩ := hrel
    have H16 := hid_of f16
    rw [frame183, f0, f1, f3, f5, f8, f10, f13, f14, f16]
    clear f0 f1 f3 f5 f8 f10 f13 f14 f16
    obtain ⟨hO, hG, ⟨hb8, o8⟩, ⟨hb10, o10⟩, ⟨hb13, o13⟩, hap⟩ := HV.out
    dsimp only at hO
    by_cases hin : kk < rn
    rotate_left 1
    · have hin' : ¬ (kk : Int) < (rn : Int) := by omega
      have HP : Hid (Q (.returned (.slice a1 n1 c1)) V) := by
        show Q _ _
        rw [HQ.out]
        refine ⟨a1, n1, c1, rfl, ?_, hG⟩
        rw [HDR.out, goM_cons, if_neg hneg, HRA.out]
        rw [List.take_of_length_le (by rw [← HRN.out]; omega)] at hO
        exact hO
      clear hO hG HV hap
      go_wp2_with fail
      try go_ret
      exact HP.out
    have hin' : (kk : Int) < (rn : Int) := by omega
    obtain ⟨x, hx⟩ : ∃ x, rows[kk]? = some x := ⟨_, List.getElem?_eq_getElem (by rw [← HRN.out]; exact hin)⟩
    obtain ⟨bn, Cn, rfl, hCn, on, hcn⟩ := hap.2 (fun e => by rw [e] at hx; cases hx)
    obtain ⟨un1, un⟩ := hcn kk x hx
    have xv := hO.2.1
    have hbp : blk V bp = some Ce := (xv.blk (blk_lt HC0.out.1)).trans HC0.out.1
    have hbL : blk V bL = some CL := (xv.blk (blk_lt HW0.out.1)).trans HW0.out.1
    have hbP : blk V bP = some CP := (xv.blk (blk_lt HW0.out.2)).trans HW0.out.2
    have p0 : (0 : Int) ≤ (kk : Int) := by omega
    have p2 : ((kk : Int)).toNat = kk := by omega
    have p5 : kk * 4 < Cn.length := by omega
    have y0 : (0 : Int) ≤ (q : Int) := by omega
    have y1 : (q : Int) < (N : Int) := by omega
    have y2 : ((q : Int)).toNat = q := by omega
    have HSX : Hid (∀ V', V.Extends V' → blk V' b13 = some Rc ∧ blk V' bL = some CL ∧ blk V' bp = some Ce ∧ blk V' bP = some CP ∧ blk V' bn = some Cn ∧ blk V' b10 = some e.enc) := fun V' hx => ⟨(hx.blk (blk_lt hb13)).trans hb13, (hx.blk (blk_lt hbL)).trans hbL, (hx.blk (blk_lt hbp)).trans hbp, (hx.blk (blk_lt hbP)).trans hbP, (hx.blk (blk_lt hCn)).trans hCn, (hx.blk (blk_lt hb10)).trans hb10⟩
    have hfo : (rows.take (kk + 1)).foldl (stM P S Z0 r'.head (l, sr) (Z0.drop (i + 1)) e) out = stM P S Z0 r'.head (l, sr) (Z0.drop (i + 1)) e ((rows.take kk).foldl (stM P S Z0 r'.head (l, sr) (Z0.drop (i + 1)) e) out) x := by rw [take_at hx, List.foldl_append]; rfl
    have hxt : TOk x := HRT.out x (List.mem_of_getElem? hx)
    obtain ⟨u, hu⟩ : ∃ u, u = uniF l.atom x ar e := ⟨_, rfl⟩
    have HU := hid_of hu
    have HXT := hid_of hxt
    have HFO := hid_of hfo
    clear hap hcn hO hG hx hfo hxt xv
    go_upto_region 9 with fail
    obtain ⟨R9, hR9⟩ : ∃ R9 : Act → Act → World → Prop, R9 = fun a0 a' w' => ∃ b17 s', ∃ f : Nat → Value, a' = ⟨frameN 183 f, []⟩ ∧ f 0 = .pointer (some ⟨bst, 0, none⟩) ∧ f 1 = .pointer (some ⟨bp, 0, none⟩) ∧ f 3 = .int .i64 (i : Int) ∧ f 5 = .slice a1 n1 c1 ∧ f 8 = .pointer (some ⟨b8, 0, none⟩) ∧ f 10 = .pointer (some ⟨b10, 0, none⟩) ∧ f 13 = .pointer (some ⟨b13, 0, none⟩) ∧ f 14 = .slice (some ⟨bn, 0, none⟩) rn rc ∧ f 16 = .int .i64 (kk : Nat) ∧ f 17 = .pointer (some ⟨b17, 0, none⟩) ∧ f 18 = .bool u.isSome ∧ Hid (blk w' b17 = some (Env.enc s') ∧ V.Extends w' ∧ ∀ x, u = some x → s' = x) := ⟨_, rfl⟩
    have HR9 := hid_of hR9
    clear hR9
    refine wp_cutR R9 ?_ ?_
    · rw [HR9.out]
      clear HR9
      have hun := fun V' => unify_any V' l.atom ar x e hfit
      rw [← hu] at hun
      clear HV HFO HXT HRA HRT HE HOUT HOUT2 HQ HIH HW0 HC0 HG6 HG10 HU hu
      refine wp_region_held_drew (S := fun W' => blk W' b13 = some Rc ∧ blk W' bL = some CL ∧ blk W' bp = some Ce ∧ blk W' bP = some CP ∧ blk W' bn = some Cn ∧ blk W' b10 = some e.enc) (by kernel_rfl) (HSX.out _ (extd V)) (fun hHeld => ?_)
      refine wpAnyH_take (i := 0) (oi := ⟨_, _, _, _, _, _⟩) (v := ?_) rfl (by kernel_rfl) (by kernel_rfl) (by kernel_rfl) (fun _ _ _ h => nomatch h.1) (Or.inl ⟨by rfl, ?_⟩) (by assumption) ?_
      rotate_left 1
      · intro W' hSw
        obtain ⟨hS1, hS2, hS3, hS4, hS5, hS6⟩ := hSw
        go_simp
        try with_reducible rfl
      try simp only [Act.put, List.setIfInBounds_toArray, List.set_cons_zero, List.set_cons_succ]
      refine wpAnyH_take (i := 1) (oi := ⟨_, _, _, _, _, _⟩) (v := ?_) rfl (by kernel_rfl) (by kernel_rfl) (by kernel_rfl) (fun _ _ _ h => nomatch h.1) (Or.inl ⟨by rfl, ?_⟩) (by assumption) ?_
      rotate_left 1
      · intro W' hSw
        obtain ⟨hS1, hS2, hS3, hS4, hS5, hS6⟩ := hSw
        go_simp
        try with_reducible rfl
      try simp only [Act.put, List.setIfInBounds_toArray, List.set_cons_zero, List.set_cons_succ]
      refine wpAnyH_take (i := 2) (oi := ⟨_, _, _, _, _, _⟩) (v := ?_) rfl (by kernel_rfl) (by kernel_rfl) (by kernel_rfl) (fun _ _ _ h => nomatch h.1) (Or.inl ⟨by rfl, ?_⟩) (by assumption) ?_
      rotate_left 1
      · intro W' hSw
        obtain ⟨hS1, hS2, hS3, hS4, hS5, hS6⟩ := hSw
        go_simp
        try with_reducible rfl
      try simp only [Act.put, List.setIfInBounds_toArray, List.set_cons_zero, List.set_cons_succ]
      refine wpAnyH_take (i := 3) (oi := ⟨_, _, _, _, _, _⟩) (v := ?_) rfl (by kernel_rfl) (by kernel_rfl) (by kernel_rfl) (fun _ _ _ h => nomatch h.1) (Or.inl ⟨by rfl, ?_⟩) (by assumption) ?_
      rotate_left 1
      · intro W' hSw
        obtain ⟨hS1, hS2, hS3, hS4, hS5, hS6⟩ := hSw
        go_simp
        try with_reducible rfl
      try simp only [Act.put, List.setIfInBounds_toArray, List.set_cons_zero, List.set_cons_succ]
      refine wpAnyH_take (i := 4) (oi := ⟨_, _, _, _, _, _⟩) (v := ?_) rfl (by kernel_rfl) (by kernel_rfl) (by kernel_rfl) (fun _ _ _ h => nomatch h.1) (Or.inl ⟨by rfl, ?_⟩) (by assumption) ?_
      rotate_left 1
      · intro W' hSw
        obtain ⟨hS1, hS2, hS3, hS4, hS5, hS6⟩ := hSw
        go_simp
        try with_reducible rfl
      try simp only [Act.put, List.setIfInBounds_toArray, List.set_cons_zero, List.set_cons_succ]
      refine wpAnyH_take (i := 5) (oi := ⟨_, _, _, _, _, _⟩) (v := ?_) rfl (by kernel_rfl) (by kernel_rfl) (by kernel_rfl) (fun _ _ _ h => nomatch h.1) (Or.inl ⟨by rfl, ?_⟩) (by assumption) ?_
      rotate_left 1
      · intro W' hSw
        obtain ⟨hS1, hS2, hS3, hS4, hS5, hS6⟩ := hSw
        go_simp
        try with_reducible rfl
      try simp only [Act.put, List.setIfInBounds_toArray, List.set_cons_zero, List.set_cons_succ]
      refine wpAnyH_take (i := 6) (oi := ⟨_, _, _, _, _, _⟩) (v := ?_) rfl (by kernel_rfl) (by kernel_rfl) (by kernel_rfl) (fun _ _ _ h => nomatch h.1) (Or.inl ⟨by rfl, ?_⟩) (by assumption) ?_
      rotate_left 1
      · intro W' hSw
        obtain ⟨hS1, hS2, hS3, hS4, hS5, hS6⟩ := hSw
        go_simp
        try with_reducible rfl
      try simp only [Act.put, List.setIfInBounds_toArray, List.set_cons_zero, List.set_cons_succ]
      refine wpAnyH_take (i := 7) (oi := ⟨_, _, _, _, _, _⟩) (v := ?_) rfl (by kernel_rfl) (by kernel_rfl) (by kernel_rfl) (fun _ _ _ h => nomatch h.1) (Or.inl ⟨by rfl, ?_⟩) (by assumption) ?_
      rotate_left 1
      · intro W' hSw
        obtain ⟨hS1, hS2, hS3, hS4, hS5, hS6⟩ := hSw
        go_simp
        try with_reducible rfl
      try simp only [Act.put, List.setIfInBounds_toArray, List.set_cons_zero, List.set_cons_succ]
      refine wpAnyH_take (i := 8) (oi := ⟨_, _, _, _, _, _⟩) (v := ?_) rfl (by kernel_rfl) (by kernel_rfl) (by kernel_rfl) (fun _ _ _ h => nomatch h.1) (Or.inl ⟨by rfl, ?_⟩) (by assumption) ?_
      rotate_left 1
      · intro W' hSw
        obtain ⟨hS1, hS2, hS3, hS4, hS5, hS6⟩ := hSw
        go_simp
        try with_reducible rfl
      try simp only [Act.put, List.setIfInBounds_toArray, List.set_cons_zero, List.set_cons_succ]
      refine wpAnyH_take (i := 9) (oi := ⟨_, _, _, _, _, _⟩) (v := ?_) rfl (by kernel_rfl) (by kernel_rfl) (by kernel_rfl) (fun _ _ _ h => nomatch h.1) (Or.inl ⟨by rfl, ?_⟩) (by assumption) ?_
      rotate_left 1
      · intro W' hSw
        obtain ⟨hS1, hS2, hS3, hS4, hS5, hS6⟩ := hSw
        go_simp
        try with_reducible rfl
      try simp only [Act.put, List.setIfInBounds_toArray, List.set_cons_zero, List.set_cons_succ]
      refine wpAnyH_take (i := 10) (oi := ⟨_, _, _, _, _, _⟩) (v := ?_) rfl (by kernel_rfl) (by kernel_rfl) (by kernel_rfl) (fun _ _ _ h => nomatch h.1) (Or.inl ⟨by rfl, ?_⟩) (by assumption) ?_
      rotate_left 1
      · intro W' hSw
        obtain ⟨hS1, hS2, hS3, hS4, hS5, hS6⟩ := hSw
        go_simp
        try with_reducible rfl
      try simp only [Act.put, List.setIfInBounds_toArray, List.set_cons_zero, List.set_cons_succ]
      refine wpAnyH_take (i := 11) (oi := ⟨_, _, _, _, _, _⟩) (v := ?_) rfl (by kernel_rfl) (by kernel_rfl) (by kernel_rfl) (fun _ _ _ h => nomatch h.1) (Or.inl ⟨by rfl, ?_⟩) (by assumption) ?_
      rotate_left 1
      · intro W' hSw
        obtain ⟨hS1, hS2, hS3, hS4, hS5, hS6⟩ := hSw
        go_simp
        try with_reducible rfl
      try simp only [Act.put, List.setIfInBounds_toArray, List.set_cons_zero, List.set_cons_succ]
      refine wpAnyH_take (i := 12) (oi := ⟨_, _, _, _, _, _⟩) (v := ?_) rfl (by kernel_rfl) (by kernel_rfl) (by kernel_rfl) (fun _ _ _ h => nomatch h.1) (Or.inl ⟨by rfl, ?_⟩) (by assumption) ?_
      rotate_left 1
      · intro W' hSw
        obtain ⟨hS1, hS2, hS3, hS4, hS5, hS6⟩ := hSw
        go_simp
        try with_reducible rfl
      try simp only [Act.put, List.setIfInBounds_toArray, List.set_cons_zero, List.set_cons_succ]
      refine wpAnyH_take (i := 13) (oi := ⟨_, _, _, _, _, _⟩) (v := ?_) rfl (by kernel_rfl) (by kernel_rfl) (by kernel_rfl) (fun _ _ _ h => nomatch h.1) (Or.inl ⟨by rfl, ?_⟩) (by assumption) ?_
      rotate_left 1
      · intro W' hSw
        obtain ⟨hS1, hS2, hS3, hS4, hS5, hS6⟩ := hSw
        go_simp
        try with_reducible rfl
      try simp only [Act.put, List.setIfInBounds_toArray, List.set_cons_zero, List.set_cons_succ]
      refine wpAnyH_take (i := 14) (oi := ⟨_, _, _, _, _, _⟩) (v := ?_) rfl (by kernel_rfl) (by kernel_rfl) (by kernel_rfl) (fun _ _ _ h => nomatch h.1) (Or.inl ⟨by rfl, ?_⟩) (by assumption) ?_
      rotate_left 1
      · intro W' hSw
        obtain ⟨hS1, hS2, hS3, hS4, hS5, hS6⟩ := hSw
        go_simp
        try with_reducible rfl
      try simp only [Act.put, List.setIfInBounds_toArray, List.set_cons_zero, List.set_cons_succ]
      refine wpAnyH_take (i := 15) (oi := ⟨_, _, _, _, _, _⟩) (v := ?_) rfl (by kernel_rfl) (by kernel_rfl) (by kernel_rfl) (fun _ _ _ h => nomatch h.1) (Or.inl ⟨by rfl, ?_⟩) (by assumption) ?_
      rotate_left 1
      · intro W' hSw
        obtain ⟨hS1, hS2, hS3, hS4, hS5, hS6⟩ := hSw
        go_simp
        try with_reducible rfl
      try simp only [Act.put, List.setIfInBounds_toArray, List.set_cons_zero, List.set_cons_succ]
      refine wpAnyH_take (i := 16) (oi := ⟨_, _, _, _, _, _⟩) (v := ?_) rfl (by kernel_rfl) (by kernel_rfl) (by kernel_rfl) (fun _ _ _ h => nomatch h.1) (Or.inl ⟨by rfl, ?_⟩) (by assumption) ?_
      rotate_left 1
      · intro W' hSw
        obtain ⟨hS1, hS2, hS3, hS4, hS5, hS6⟩ := hSw
        go_simp
        try with_reducible rfl
      try simp only [Act.put, List.setIfInBounds_toArray, List.set_cons_zero, List.set_cons_succ]
      refine wpAnyH_take (i := 17) (oi := ⟨_, _, _, _, _, _⟩) (v := ?_) rfl (by kernel_rfl) (by kernel_rfl) (by kernel_rfl) (fun _ _ _ h => nomatch h.1) (Or.inl ⟨by rfl, ?_⟩) (by assumption) ?_
      rotate_left 1
      · intro W' hSw
        obtain ⟨hS1, hS2, hS3, hS4, hS5, hS6⟩ := hSw
        go_simp
        try with_reducible rfl
      try simp only [Act.put, List.setIfInBounds_toArray, List.set_cons_zero, List.set_cons_succ]
      refine wpAnyH_take (i := 18) (oi := ⟨_, _, _, _, _, _⟩) (v := ?_) rfl (by kernel_rfl) (by kernel_rfl) (by kernel_rfl) (fun _ _ _ h => nomatch h.1) (Or.inl ⟨by rfl, ?_⟩) (by assumption) ?_
      rotate_left 1
      · intro W' hSw
        obtain ⟨hS1, hS2, hS3, hS4, hS5, hS6⟩ := hSw
        go_simp
        try with_reducible rfl
      try simp only [Act.put, List.setIfInBounds_toArray, List.set_cons_zero, List.set_cons_succ]
      refine wpAnyH_take (i := 19) (oi := ⟨_, _, _, _, _, _⟩) (v := ?_) rfl (by kernel_rfl) (by kernel_rfl) (by kernel_rfl) (fun _ _ _ h => nomatch h.1) (Or.inl ⟨by rfl, ?_⟩) (by assumption) ?_
      rotate_left 1
      · intro W' hSw
        obtain ⟨hS1, hS2, hS3, hS4, hS5, hS6⟩ := hSw
        go_simp
        try with_reducible rfl
      try simp only [Act.put, List.setIfInBounds_toArray, List.set_cons_zero, List.set_cons_succ]
      refine wpAnyH_take (i := 20) (oi := ⟨_, _, _, _, _, _⟩) (v := ?_) rfl (by kernel_rfl) (by kernel_rfl) (by kernel_rfl) (fun _ _ _ h => nomatch h.1) (Or.inl ⟨by rfl, ?_⟩) (by assumption) ?_
      rotate_left 1
      · intro W' hSw
        obtain ⟨hS1, hS2, hS3, hS4, hS5, hS6⟩ := hSw
        go_simp
        try with_reducible rfl
      try simp only [Act.put, List.setIfInBounds_toArray, List.set_cons_zero, List.set_cons_succ]
      refine wpAnyH_take (i := 21) (oi := ⟨_, _, _, _, _, _⟩) (v := ?_) rfl (by kernel_rfl) (by kernel_rfl) (by kernel_rfl) (fun _ _ _ h => nomatch h.1) (Or.inl ⟨by rfl, ?_⟩) (by assumption) ?_
      rotate_left 1
      · intro W' hSw
        obtain ⟨hS1, hS2, hS3, hS4, hS5, hS6⟩ := hSw
        go_simp
        try with_reducible rfl
      try simp only [Act.put, List.setIfInBounds_toArray, List.set_cons_zero, List.set_cons_succ]
      refine wpAnyH_take (i := 22) (oi := ⟨_, _, _, _, _, _⟩) (v := ?_) rfl (by kernel_rfl) (by kernel_rfl) (by kernel_rfl) (fun _ _ _ h => nomatch h.1) (Or.inl ⟨by rfl, ?_⟩) (by assumption) ?_
      rotate_left 1
      · intro W' hSw
        obtain ⟨hS1, hS2, hS3, hS4, hS5, hS6⟩ := hSw
        go_simp
        try with_reducible rfl
      try simp only [Act.put, List.setIfInBounds_toArray, List.set_cons_zero, List.set_cons_succ]
      refine wpAnyH_take (i := 23) (oi := ⟨_, _, _, _, _, _⟩) (v := ?_) rfl (by kernel_rfl) (by kernel_rfl) (by kernel_rfl) (fun _ _ _ h => nomatch h.1) (Or.inl ⟨by rfl, ?_⟩) (by assumption) ?_
      rotate_left 1
      · intro W' hSw
        obtain ⟨hS1, hS2, hS3, hS4, hS5, hS6⟩ := hSw
        go_simp
        try with_reducible rfl
      try simp only [Act.put, List.setIfInBounds_toArray, List.set_cons_zero, List.set_cons_succ]
      refine wpAnyH_take (i := 24) (oi := ⟨_, _, _, _, _, _⟩) (v := ?_) rfl (by kernel_rfl) (by kernel_rfl) (by kernel_rfl) (fun _ _ _ h => nomatch h.1) (Or.inl ⟨by rfl, ?_⟩) (by assumption) ?_
      rotate_left 1
      · intro W' hSw
        obtain ⟨hS1, hS2, hS3, hS4, hS5, hS6⟩ := hSw
        go_simp
        try with_reducible rfl
      try simp only [Act.put, List.setIfInBounds_toArray, List.set_cons_zero, List.set_cons_succ]
      refine wpAnyH_ready (rs := [25, 29]) (by kernel_rfl) (by simp) ?_
      refine AllReadyH.cons (o := ⟨_, _, _, _, _, _⟩) rfl (fun K' hK => ?_) (AllReadyH.cons (o := ⟨_, _, _, _, _, _⟩) rfl (fun K' hK => ?_) AllReadyH.nil)
      · go_simp
        refine (hun _).mono ?_
        rintro en V5 ⟨s', rfl, hs5, hx5⟩
        have hx5' : V.Extends V5 := Go.World.Extends.trans (by (repeat (first | assumption | exact ext_Ext (Ext.refl _) | apply extends_drew | apply extends_alloc | (refine extends_put ?_ (by first | exact Nat.le_refl _ | assumption | omega) _)))) hx5
        have hz5 := hx5'.size
        dsimp only
        refine hK.out _ _ (HSX.out _ (by (repeat (first | assumption | exact ext_Ext (Ext.refl _) | apply extends_drew | apply extends_alloc | (refine extends_put ?_ (by first | exact Nat.le_refl _ | assumption | omega) _))))) (fun hHeld => ?_)
        clear hK K'
        try simp only [Act.put, List.setIfInBounds_toArray, List.set_cons_zero, List.set_cons_succ]
        refine wpAnyH_take (i := 26) (oi := ⟨_, _, _, _, _, _⟩) (v := ?_) rfl (by kernel_rfl) (by kernel_rfl) (by kernel_rfl) (fun _ _ _ h => nomatch h.1) (Or.inl ⟨by rfl, ?_⟩) (by assumption) ?_
        rotate_left 1
        · intro W' hSw
          obtain ⟨hS1, hS2, hS3, hS4, hS5, hS6⟩ := hSw
          go_simp
          try with_reducible rfl
        try simp only [Act.put, List.setIfInBounds_toArray, List.set_cons_zero, List.set_cons_succ]
        refine wpAnyH_take (i := 27) (oi := ⟨_, _, _, _, _, _⟩) (v := ?_) rfl (by kernel_rfl) (by kernel_rfl) (by kernel_rfl) (fun _ _ _ h => nomatch h.1) (Or.inl ⟨by rfl, ?_⟩) (by assumption) ?_
        rotate_left 1
        · intro W' hSw
          obtain ⟨hS1, hS2, hS3, hS4, hS5, hS6⟩ := hSw
          go_simp
          try with_reducible rfl
        try simp only [Act.put, List.setIfInBounds_toArray, List.set_cons_zero, List.set_cons_succ]
        refine wpAnyH_take (i := 28) (oi := ⟨_, _, _, _, _, _⟩) (v := ?_) rfl (by kernel_rfl) (by kernel_rfl) (by kernel_rfl) (fun _ _ _ h => nomatch h.1) (Or.inl ⟨by rfl, ?_⟩) (by assumption) ?_
        rotate_left 1
        · intro W' hSw
          obtain ⟨hS1, hS2, hS3, hS4, hS5, hS6⟩ := hSw
          go_simp
          try with_reducible rfl
        try simp only [Act.put, List.setIfInBounds_toArray, List.set_cons_zero, List.set_cons_succ]
        refine wpAnyH_ready (rs := [29]) (by kernel_rfl) (by simp) ?_
        refine AllReadyH.cons (o := ⟨_, _, _, _, _, _⟩) rfl (fun K' hK => ?_) AllReadyH.nil
        go_simp
        refine hK.out _ _ (HSX.out _ (by (repeat (first | assumption | exact ext_Ext (Ext.refl _) | apply extends_drew | apply extends_alloc | (refine extends_put ?_ (by first | exact Nat.le_refl _ | assumption | omega) _))))) (fun hHeld => ?_)
        clear hK K'
        try simp only [Act.put, List.setIfInBounds_toArray, List.set_cons_zero, List.set_cons_succ]
        refine wpAnyH_ready (rs := [30]) (by kernel_rfl) (by simp) ?_
        refine AllReadyH.cons (o := ⟨_, _, _, _, _, _⟩) rfl (fun K' hK => ?_) AllReadyH.nil
        go_simp
        refine hK.out _ _ (HSX.out _ (by (repeat (first | assumption | exact ext_Ext (Ext.refl _) | apply extends_drew | apply extends_alloc | (refine extends_put ?_ (by first | exact Nat.le_refl _ | assumption | omega) _))))) (fun hHeld => ?_)
        clear hK K'
        try simp only [Act.put, List.setIfInBounds_toArray, List.set_cons_zero, List.set_cons_succ]
        refine wpAnyH_take (i := 31) (oi := ⟨_, _, _, _, _, _⟩) (v := ?_) rfl (by kernel_rfl) (by kernel_rfl) (by kernel_rfl) (fun _ _ _ h => nomatch h.1) (Or.inl ⟨by rfl, ?_⟩) (by assumption) ?_
        rotate_left 1
        · intro W' hSw
          obtain ⟨hS1, hS2, hS3, hS4, hS5, hS6⟩ := hSw
          go_simp
          try with_reducible rfl
        try simp only [Act.put, List.setIfInBounds_toArray, List.set_cons_zero, List.set_cons_succ]
        refine wpAnyH_done (by kernel_rfl) ?_ _
        refine ⟨rfl, _, s', cut_intro _ rfl ⟨rfl, rfl, rfl, rfl, rfl, rfl, rfl, rfl, rfl, rfl, rfl, ?_⟩⟩
        refine ⟨?_, ?_, hs5⟩
        · first
            | (rw [blk_put, if_pos rfl, blk_alloc, if_pos rfl]; rfl)
            | (rw [blk_put, if_pos rfl, HBZ.out]; rfl)
            | (rw [blk_alloc, if_pos rfl])
            | (rw [blk_drew, blk_alloc, if_pos rfl])
        · (repeat (first | assumption | exact ext_Ext (Ext.refl _) | apply extends_drew | apply extends_alloc | (refine extends_put ?_ (by first | exact Nat.le_refl _ | assumption | omega) _)))
      · go_simp
        have HFZ0 : Hid (free (V.alloc (.cells Env.zero.enc.toArray 147)) V.heap.size = true) := by show free _ _ = _; unfold free; rw [heap_alloc, if_pos rfl]; rfl
        have HBZ0 : Hid (blk (V.alloc (.cells Env.zero.enc.toArray 147)) V.heap.size = some Env.zero.enc) := by show blk _ _ = _; rw [blk_alloc, if_pos rfl]
        refine hK.out _ _ (HSX.out _ (by (repeat (first | assumption | exact ext_Ext (Ext.refl _) | apply extends_drew | apply extends_alloc | (refine extends_put ?_ (by first | exact Nat.le_refl _ | assumption | omega) _))))) (fun hHeld => ?_)
        clear hK K'
        try simp only [Act.put, List.setIfInBounds_toArray, List.set_cons_zero, List.set_cons_succ]
        refine wpAnyH_ready (rs := [25]) (by kernel_rfl) (by simp) ?_
        refine AllReadyH.cons (o := ⟨_, _, _, _, _, _⟩) rfl (fun K' hK => ?_) AllReadyH.nil
        go_simp
        refine (hun _).mono ?_
        rintro en V5 ⟨s', rfl, hs5, hx5⟩
        have hx5' : V.Extends V5 := Go.World.Extends.trans (by (repeat (first | assumption | exact ext_Ext (Ext.refl _) | apply extends_drew | apply extends_alloc | (refine extends_put ?_ (by first | exact Nat.le_refl _ | assumption | omega) _)))) hx5
        have hz5 := hx5'.size
        dsimp only
        have HBZ : Hid (blk V5 V.heap.size = some Env.zero.enc) := (hx5.blk (blk_lt HBZ0.out)).trans HBZ0.out
        have hbz := HBZ.out
        have hfz : free V5 V.heap.size = true := (free_of_heap (hx5.block V.heap.size (blk_lt HBZ0.out))).trans HFZ0.out
        refine hK.out _ _ (HSX.out _ (by (repeat (first | assumption | exact ext_Ext (Ext.refl _) | apply extends_drew | apply extends_alloc | (refine extends_put ?_ (by first | exact Nat.le_refl _ | assumption | omega) _))))) (fun hHeld => ?_)
        clear hK K'
        try simp only [Act.put, List.setIfInBounds_toArray, List.set_cons_zero, List.set_cons_succ]
        refine wpAnyH_take (i := 26) (oi := ⟨_, _, _, _, _, _⟩) (v := ?_) rfl (by kernel_rfl) (by kernel_rfl) (by kernel_rfl) (fun _ _ _ h => nomatch h.1) (Or.inl ⟨by rfl, ?_⟩) (by assumption) ?_
        rotate_left 1
        · intro W' hSw
          obtain ⟨hS1, hS2, hS3, hS4, hS5, hS6⟩ := hSw
          go_simp
          try with_reducible rfl
        try simp only [Act.put, List.setIfInBounds_toArray, List.set_cons_zero, List.set_cons_succ]
        refine wpAnyH_take (i := 27) (oi := ⟨_, _, _, _, _, _⟩) (v := ?_) rfl (by kernel_rfl) (by kernel_rfl) (by kernel_rfl) (fun _ _ _ h => nomatch h.1) (Or.inl ⟨by rfl, ?_⟩) (by assumption) ?_
        rotate_left 1
        · intro W' hSw
          obtain ⟨hS1, hS2, hS3, hS4, hS5, hS6⟩ := hSw
          go_simp
          try with_reducible rfl
        try simp only [Act.put, List.setIfInBounds_toArray, List.set_cons_zero, List.set_cons_succ]
        refine wpAnyH_take (i := 28) (oi := ⟨_, _, _, _, _, _⟩) (v := ?_) rfl (by kernel_rfl) (by kernel_rfl) (by kernel_rfl) (fun _ _ _ h => nomatch h.1) (Or.inl ⟨by rfl, ?_⟩) (by assumption) ?_
        rotate_left 1
        · intro W' hSw
          obtain ⟨hS1, hS2, hS3, hS4, hS5, hS6⟩ := hSw
          go_simp
          try with_reducible rfl
        try simp only [Act.put, List.setIfInBounds_toArray, List.set_cons_zero, List.set_cons_succ]
        refine wpAnyH_ready (rs := [30]) (by kernel_rfl) (by simp) ?_
        refine AllReadyH.cons (o := ⟨_, _, _, _, _, _⟩) rfl (fun K' hK => ?_) AllReadyH.nil
        go_simp
        refine hK.out _ _ (HSX.out _ (by (repeat (first | assumption | exact ext_Ext (Ext.refl _) | apply extends_drew | apply extends_alloc | (refine extends_put ?_ (by first | exact Nat.le_refl _ | assumption | omega) _))))) (fun hHeld => ?_)
        clear hK K'
        try simp only [Act.put, List.setIfInBounds_toArray, List.set_cons_zero, List.set_cons_succ]
        refine wpAnyH_take (i := 31) (oi := ⟨_, _, _, _, _, _⟩) (v := ?_) rfl (by kernel_rfl) (by kernel_rfl) (by kernel_rfl) (fun _ _ _ h => nomatch h.1) (Or.inl ⟨by rfl, ?_⟩) (by assumption) ?_
        rotate_left 1
        · intro W' hSw
          obtain ⟨hS1, hS2, hS3, hS4, hS5, hS6⟩ := hSw
          go_simp
          try with_reducible rfl
        try simp only [Act.put, List.setIfInBounds_toArray, List.set_cons_zero, List.set_cons_succ]
        refine wpAnyH_done (by kernel_rfl) ?_ _
        refine ⟨rfl, _, s', cut_intro _ rfl ⟨rfl, rfl, rfl, rfl, rfl, rfl, rfl, rfl, rfl, rfl, rfl, ?_⟩⟩
        refine ⟨?_, ?_, hs5⟩
        · first
            | (rw [blk_put, if_pos rfl, blk_alloc, if_pos rfl]; rfl)
            | (rw [blk_put, if_pos rfl, HBZ.out]; rfl)
            | (rw [blk_alloc, if_pos rfl])
            | (rw [blk_drew, blk_alloc, if_pos rfl])
        · (repeat (first | assumption | exact ext_Ext (Ext.refl _) | apply extends_drew | apply extends_alloc | (refine extends_put ?_ (by first | exact Nat.le_refl _ | assumption | omega) _)))
    rw [HR9.out]
    rintro _ V4 ⟨b17, s', f4, rfl, f0, f1, f3, f5, f8, f10, f13, f14, f16, f17, f18, H4⟩
    rw [frame183, f0, f1, f3, f5, f8, f10, f13, f14, f16, f17, f18]
    clear f0 f1 f3 f5 f8 f10 f13 f14 f16 f17 f18
    obtain ⟨h17, hx4, hs4⟩ := H4.out
    obtain ⟨hO, hG, _, _, _, hap⟩ := HV.out
    dsimp only at hO
    have hb8' : blk V4 b8 = some (plE (k : Int) d (some ⟨bs, 0, none⟩) sn sc) := (hx4.blk (blk_lt hb8)).trans hb8
    have hb10' : blk V4 b10 = some e.enc := (hx4.blk (blk_lt hb10)).trans hb10
    have hb13' : blk V4 b13 = some Rc := (hx4.blk (blk_lt hb13)).trans hb13
    have hg4 := Gro.of_ext hx4 (.slice a1 n1 c1)
    cases u with
    | none =>
      have e1 := HFO.out
      have e2 : stM P S Z0 r'.head (l, sr) (Z0.drop (i + 1)) e ((rows.take kk).foldl (stM P S Z0 r'.head (l, sr) (Z0.drop (i + 1)) e) out) x = (rows.take kk).foldl (stM P S Z0 r'.head (l, sr) (Z0.drop (i + 1)) e) out := by
        show (match uniF l.atom x (arA P l.atom) e with | some e' => _ | none => _) = _
        rw [← HL12.out, ← hu]
      rw [e2] at e1
      have HST : Hid (Outs W0 V4 a1 n1 c1 ((rows.take (kk + 1)).foldl (stM P S Z0 r'.head (l, sr) (Z0.drop (i + 1)) e) out) ∧ Gro W V4 (.slice a n c) (.slice a1 n1 c1) ∧ (blk V4 b8 = some (plE (k : Int) d (some ⟨bs, 0, none⟩) sn sc) ∧ (Value.slice a1 n1 c1).ownBlock ≠ some b8) ∧ (blk V4 b10 = some e.enc ∧ (Value.slice a1 n1 c1).ownBlock ≠ some b10) ∧ (blk V4 b13 = some Rc ∧ (Value.slice a1 n1 c1).ownBlock ≠ some b13) ∧ Apt V4 (.slice a1 n1 c1) (some ⟨bn, 0, none⟩) rn rows) := by
        refine ⟨?_, hG.trans hg4, ⟨hb8', o8⟩, ⟨hb10', o10⟩, ⟨hb13', o13⟩, hap.gro hg4⟩
        rw [e1]; exact hO.ext hx4
      clear e1 e2 hO hG hap hg4 HV H4 HFO hx4 hs4
      go_wp2_with fail
      refine ⟨rfl, rfl, ⟨rfl, rfl, rfl, rfl, rfl, rfl, rfl, kk + 1, _, _, _, by omega, ?_, rfl, HST⟩, ?_⟩
      · show Value.int .i64 _ = _
        go_num
      · show rn - (intOf (Value.int .i64 _)).toNat < rn - (intOf (F 16)).toNat
        rw [H16.out]
        simp [intOf]; omega
    | some e' =>
      obtain rfl := hs4 e' rfl
      have hfk : OutOk ((rows.take kk).foldl (stM P S Z0 r'.head (l, sr) (Z0.drop (i + 1)) e) out) := by
        have hz : ZFit P Z0 := fun z hz => by
          rw [HZ0.out] at hz
          exact (HE.out.lits z.1 (List.of_mem_zip hz).1).fit
        refine stM_ok HE.out.sok HE.out.head.fit (z := (l, sr)) (Z := Z0.drop (i + 1)) ?_ heok _ out (fun t ht => HRT.out t (List.mem_of_mem_take ht)) hook
        rw [← HDR.out]
        exact fun z h => hz z (List.mem_of_mem_drop h)
      have hee : EOk s' := EOk.uni HXT.out hfit.1 heok hu.symm
      have e1 := HFO.out
      have e2 : stM P S Z0 r'.head (l, sr) (Z0.drop (i + 1)) e ((rows.take kk).foldl (stM P S Z0 r'.head (l, sr) (Z0.drop (i + 1)) e) out) x = goM P S Z0 r'.head (Z0.drop (i + 1)) s' ((rows.take kk).foldl (stM P S Z0 r'.head (l, sr) (Z0.drop (i + 1)) e) out) := by
        show (match uniF l.atom x (arA P l.atom) e with | some e' => _ | none => _) = _
        rw [← HL12.out, ← hu]
      rw [e2] at e1
      have hrec := HIH.out (i + 1) (by rw [← HLN.out]; omega) V4 s' a1 n1 c1 _ (hO.ext hx4) hee hfk
      rw [← i3, ← e1] at hrec
      have HREC := hid_of hrec
      have HGG : Hid (Gro W V4 (.slice a n c) (.slice a1 n1 c1)) := hG.trans hg4
      have HAP : Hid (Apt V4 (.slice a1 n1 c1) (some ⟨bn, 0, none⟩) rn rows) := hap.gro hg4
      clear i3 hrec e1 e2 hO hG hap hg4 HV H4 HFO hx4 hs4 hfk hee
      go_wp2_with fail
      refine HREC.out.mono ?_
      rintro en V5 ⟨a2, n2, c2, rfl, ho5, hg5⟩
      have HST : Hid (Outs W0 V5 a2 n2 c2 ((rows.take (kk + 1)).foldl (stM P S Z0 r'.head (l, sr) (Z0.drop (i + 1)) e) out) ∧ Gro W V5 (.slice a n c) (.slice a2 n2 c2) ∧ (blk V5 b8 = some (plE (k : Int) d (some ⟨bs, 0, none⟩) sn sc) ∧ (Value.slice a2 n2 c2).ownBlock ≠ some b8) ∧ (blk V5 b10 = some e.enc ∧ (Value.slice a2 n2 c2).ownBlock ≠ some b10) ∧ (blk V5 b13 = some Rc ∧ (Value.slice a2 n2 c2).ownBlock ≠ some b13) ∧ Apt V5 (.slice a2 n2 c2) (some ⟨bn, 0, none⟩) rn rows) := ⟨ho5, HGG.out.trans hg5, hg5.blk hb8' o8, hg5.blk hb10' o10, hg5.blk hb13' o13, HAP.out.gro hg5⟩
      clear ho5 hg5 HREC
      dsimp only
      go_wp2_with fail
      refine ⟨rfl, rfl, ⟨rfl, rfl, rfl, rfl, rfl, rfl, rfl, kk + 1, _, _, _, by omega, ?_, rfl, HST⟩, ?_⟩
      · show Value.int .i64 _ = _
        go_num
      · show rn - (intOf (Value.int .i64 _)).toNat < rn - (intOf (F 16)).toNat
        rw [H16.out]
        simp [intOf]; omega
end Go.Proofs.Qxb6500788a
