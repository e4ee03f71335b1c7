import Derived.Test.Qxb6500788aEd
import Derived.StillTailTactics
import Derived.Deep.QuietTactic
import Derived.BigQuiet
import Derived.Deep.RegionHeld
import Derived.Deep.CutRange
import Derived.Laws.ResultCell
import Derived.Laws.Rows
import Derived.DeepKeys
import Derived.DataBytes
import Derived.Laws.StructEq
import Derived.Laws.AppendOwn
import Derived.Laws.MakeOwn
set_option linter.unusedSimpArgs false
set_option linter.unusedVariables false
namespace Go.Proofs.Qxb6500788a
open Go.RowKit Go.Blk
attribute [local go_sem ↓] execOp_load execOp_store execOp_alloc
attribute [local go_sem] Try.ld24 Try.st24 Try.ld25 Try.st25 Try.ld3 Try.st3 Try.ld30 Try.st30 Try.ld36 Try.st36 Try.ld4 Try.st4 Try.ld41 Try.st41 Try.ld50 Try.st50 Try.ld40 Try.st40 Try.ld42 Try.st42 Try.ld89 Try.st89 Try.ld91 Try.st91 Try.ld56 Try.st56 Try.ld97 Try.st97 Try.ld98 Try.st98 Try.ld101 Try.st101 Try.ld104 Try.st104 Try.ld57 Try.st57 Try.ld130 Try.st130 Try.ld2 Try.st2 Try.ld5 Try.st5 Try.ld9 Try.st9 Try.ld12 Try.st12 Try.ld21 Try.st21 Try.ld22 Try.st22 Try.ld29 Try.st29 Try.ld33 Try.st33 Try.ld59 Try.st59 Try.ld62 Try.st62 Try.ld69 Try.st69 Try.ld94 Try.st94 Try.ld96 Try.st96 Try.ld129 Try.st129 Try.ld158 Try.st158 Try.ld162 Try.st162 Try.ld47 Try.st47 Try.ld44 Try.st44 Try.ld137 Try.st137 Try.ld145 Try.st145 Try.ld43 Try.st43 Try.ld27 Try.st27 Try.ld38 Try.st38 Try.ld46 Try.st46 Try.ld49 Try.st49 Try.ld52 Try.st52 Try.ld54 Try.st54 Try.ld61 Try.st61 Try.ld80 Try.st80 Try.ld87 Try.st87 Try.ld93 Try.st93 Try.ld100 Try.st100 Try.ld103 Try.st103 Try.ld106 Try.st106 Try.ld109 Try.st109 Try.ld132 Try.st132 Try.ld147 Try.st147 Try.al47 Try.al44 Try.al137 Try.al145 Try.al43 Try.al27 Try.al38 Try.al46 Try.al49 Try.al52 Try.al54 Try.al61 Try.al80 Try.al87 Try.al93 Try.al100 Try.al103 Try.al106 Try.al109 Try.al132 Try.al147
attribute [local go_sem] GProgram.length_enc GProgram.ok_enc GProgram.all_get GProgram.all_set GProgram.preds_get GProgram.preds_set GProgram.rules_get GProgram.rules_set GProgram.strata_get GProgram.strata_set Answer.length_enc Answer.ok_enc Answer.all_get Answer.all_set Answer.code_get Answer.code_set Answer.n_get Answer.n_set Answer.rows_get Answer.rows_set Term.length_enc Term.ok_enc Term.all_get Term.all_set Term.var_get Term.var_set Term.n_get Term.n_set Atom.length_enc Atom.ok_enc Atom.all_get Atom.all_set Atom.pred_get Atom.pred_set Atom.args_get Atom.args_set GRule.length_enc GRule.ok_enc GRule.all_get GRule.all_set GRule.head_get GRule.head_set GRule.body_get GRule.body_set GRule.head_pred_get GRule.head_pred_set GRule.head_args_get GRule.head_args_set GOp.length_enc GOp.ok_enc GOp.all_get GOp.all_set GOp.kind_get GOp.kind_set GOp.pred_get GOp.pred_set GOp.t_get GOp.t_set GOp.n_get GOp.n_set GOp.base_get GOp.base_set GOp.rule_get GOp.rule_set GOp.rule_head_get GOp.rule_head_set GOp.rule_body_get GOp.rule_body_set GOp.rule_head_pred_get GOp.rule_head_pred_set GOp.rule_head_args_get GOp.rule_head_args_set PredInfo.length_enc PredInfo.ok_enc PredInfo.all_get PredInfo.all_set PredInfo.arity_get PredInfo.arity_set PredInfo.base_get PredInfo.base_set PredInfo.stratum_get PredInfo.stratum_set GStats.length_enc GStats.ok_enc GStats.all_get GStats.all_set GStats.rounds_get GStats.rounds_set GStats.fired_get GStats.fired_set GStats.emitted_get GStats.emitted_set GStats.fresh_get GStats.fresh_set Literal.length_enc Literal.ok_enc Literal.all_get Literal.all_set Literal.neg_get Literal.neg_set Literal.atom_get Literal.atom_set Literal.atom_pred_get Literal.atom_pred_set Literal.atom_args_get Literal.atom_args_set Engine.length_enc Engine.ok_enc Engine.all_get Engine.all_set Engine.prog_get Engine.prog_set Engine.st_get Engine.st_set Engine.levels_get Engine.levels_set Engine.running_get Engine.running_set Engine.stratum_get Engine.stratum_set Engine.round_get Engine.round_set Engine.saved_get Engine.saved_set Engine.stats_get Engine.stats_set Engine.prog_preds_get Engine.prog_preds_set Engine.prog_rules_get Engine.prog_rules_set Engine.prog_strata_get Engine.prog_strata_set Engine.stats_rounds_get Engine.stats_rounds_set Engine.stats_fired_get Engine.stats_fired_set Engine.stats_emitted_get Engine.stats_emitted_set Engine.stats_fresh_get Engine.stats_fresh_set Level.length_enc Level.ok_enc Level.all_get Level.all_set Level.heads_get Level.heads_set Level.jobs_get Level.jobs_set Plan.length_enc Plan.ok_enc Plan.all_get Plan.all_set Plan.rule_get Plan.rule_set Plan.delta_get Plan.delta_set Plan.src_get Plan.src_set Job.length_enc Job.ok_enc Job.all_get Job.all_set Job.full_get Job.full_set Job.deltas_get Job.deltas_set Job.full_rule_get Job.full_rule_set Job.full_delta_get Job.full_delta_set Job.full_src_get Job.full_src_set GState.length_enc GState.ok_enc GState.all_get GState.all_set GState.prog_get GState.prog_set GState.base_get GState.base_set GState.shown_get GState.shown_set GState.prog_preds_get GState.prog_preds_set GState.prog_rules_get GState.prog_rules_set GState.prog_strata_get GState.prog_strata_set Store.length_enc Store.ok_enc Store.all_get Store.all_set Store.arity_get Store.arity_set Store.rows_get Store.rows_set Env.length_enc Env.ok_enc Env.all_get Env.all_set Env.val_get Env.val_set Env.set_get Env.set_set
attribute [local go_sem] size_put size_ext blk_put free_put blk_alloc free_alloc blk_drew free_drew blk_ext free_ext lookOr_some putOr_some segAt_some cellAt_some storeIn_some put_put put_alloc_new length_arr ok_arr_u8 ok_arr_u32 ok_arr_u64 ok_arr_i64 ok_arr_sl cellsV_agg cellsV_int cellsV_bool cellsV_string cellsV_pointer cellsV_slice cellsV_sl ok_int ok_bool ok_string ok_pointer ok_slice ok_sl toList_arr seg_arr set_arr nth_splice nth_splice0 seg_splice seg_splice0 splice_splice splice_splice0 length_splice_if
attribute [local go_sem ↓] execOp_box
attribute [local go_sem] box_run nth_arr_u8 put_arr_u8 blk_drewN free_drewN put_drewN blk_raw free_raw
/-- One predicate's new tuples moved over. -/
def prS (S : List (List Tup)) (q : Nat) (F A : List Tup) : List (List Tup) := ((S.set (3 * q + 2) []).set (3 * q + 1) A).set (3 * q) (F ++ A)
def prom1 (S : List (List Tup)) (q : Nat) : List (List Tup) := prS S q (rowsAt S (3 * q)) (rowsAt S (3 * q + 2))
def promL (S : List (List Tup)) (qs : List Nat) : List (List Tup) := qs.foldl prom1 S
theorem prS_len (S : List (List Tup)) (q : Nat) (F A : List Tup) : (prS S q F A).length = S.length := by
  unfold prS; simp
theorem promL_len : ∀ (qs : List Nat) (S : List (List Tup)), (promL S qs).length = S.length
  | [], S => rfl
  | q :: qs, S => by
    show (promL (prom1 S q) qs).length = _
    rw [promL_len qs]; exact prS_len ..
theorem prS_0 {S : List (List Tup)} {q : Nat} {F : List Tup} (hF : S[3 * q]? = some F) : prS S q F [] = (S.set (3 * q + 2) []).set (3 * q + 1) [] := by
  unfold prS
  rw [List.append_nil]
  exact set_same (by rw [List.getElem?_set_ne (by omega), List.getElem?_set_ne (by omega)]; exact hF)
theorem prS_step (S : List (List Tup)) (q : Nat) (F A B : List Tup) : ((prS S q F A).set (3 * q) (F ++ B)).set (3 * q + 1) B = prS S q F B := by
  unfold prS
  rw [List.set_set, List.set_comm _ _ (by omega : 3 * q ≠ 3 * q + 1), List.set_set]
theorem prS_f {S : List (List Tup)} {q : Nat} {F A : List Tup} (h : 3 * q + 2 < S.length) : (prS S q F A)[3 * q]? = some (F ++ A) := by
  unfold prS
  rw [List.getElem?_set_self (by simp; omega)]
theorem prS_d {S : List (List Tup)} {q : Nat} {F A : List Tup} (h : 3 * q + 2 < S.length) : (prS S q F A)[3 * q + 1]? = some A := by
  unfold prS
  rw [List.getElem?_set_ne (by omega), List.getElem?_set_self (by simp; omega)]
theorem prS_n {S : List (List Tup)} {q : Nat} {F A : List Tup} (h : 3 * q + 2 < S.length) : (prS S q F A)[3 * q + 2]? = some [] := by
  unfold prS
  rw [List.getElem?_set_ne (by omega), List.getElem?_set_ne (by omega), List.getElem?_set_self (by omega)]
theorem prS_o {S : List (List Tup)} {q r : Nat} {F A : List Tup} (h0 : r ≠ 3 * q) (h1 : r ≠ 3 * q + 1) (h2 : r ≠ 3 * q + 2) : (prS S q F A)[r]? = S[r]? := by
  unfold prS
  rw [List.getElem?_set_ne (by omega), List.getElem?_set_ne (by omega), List.getElem?_set_ne (by omega)]
theorem promL_o {r : Nat} : ∀ (qs : List Nat) (S : List (List Tup)), (∀ q ∈ qs, r ≠ 3 * q ∧ r ≠ 3 * q + 1 ∧ r ≠ 3 * q + 2) → (promL S qs)[r]? = S[r]?
  | [], S, _ => rfl
  | q :: qs, S, h => by
    show (promL (prom1 S q) qs)[r]? = _
    obtain ⟨h0, h1, h2⟩ := h q (List.mem_cons_self ..)
    rw [promL_o qs _ (fun x hx => h x (List.mem_cons_of_mem _ hx))]
    exact prS_o h0 h1 h2
theorem promL_snoc (S : List (List Tup)) (qs : List Nat) (q : Nat) : promL S (qs ++ [q]) = prom1 (promL S qs) q := by
  unfold promL
  rw [List.foldl_append]; rfl
/-- What the move needs of a predicate. -/
def Pro (S : List (List Tup)) (q : Nat) : Prop := (rowsAt S (3 * q + 2)).Nodup ∧ (∀ t ∈ rowsAt S (3 * q + 2), t ∉ rowsAt S (3 * q)) ∧ (rowsAt S (3 * q)).length + (rowsAt S (3 * q + 2)).length ≤ 512
def anyN (S : List (List Tup)) (qs : List Nat) : Bool := qs.any fun q => !(rowsAt S (3 * q + 2)).isEmpty
theorem rowsAt_congr {S S' : List (List Tup)} {r : Nat} (h : S'[r]? = S[r]?) : rowsAt S' r = rowsAt S r := by
  unfold rowsAt
  rw [List.getD_eq_getElem?_getD, List.getD_eq_getElem?_getD, h]
def p1I (B : Nat) (O : Own) (W : World) (g be : Nat) (p : Pg) (x : Engine) (S sav : List (List Tup)) (y : Level) (s bl o : Nat) (f : Nat → Value) (V : World) : Prop := f 0 = .pointer (some ⟨be, 0, none⟩) ∧ f 1 = .pointer (some ⟨bl, o, none⟩) ∧ ∃ i : Nat, i ≤ (headsOf p s).length ∧ f 6 = .bool (anyN S ((headsOf p s).take i)) ∧ f 7 = .int .i64 (i : Int) ∧ Hid (∃ O', Fr (isE g) O W O' V ∧ EAt B O' V g be p x (promL S ((headsOf p s).take i)) sav)
def p2I (B : Nat) (O : Own) (W : World) (g be : Nat) (p : Pg) (x : Engine) (S sav : List (List Tup)) (bl o i q : Nat) (gr : Bool) (F N : List Tup) (a : Option Addr) (c : Nat) (f : Nat → Value) (V : World) : Prop := f 0 = .pointer (some ⟨be, 0, none⟩) ∧ f 1 = .pointer (some ⟨bl, o, none⟩) ∧ f 6 = .bool gr ∧ f 7 = .int .i64 (i : Int) ∧ f 8 = .int .i64 (q : Int) ∧ f 9 = .slice a N.length c ∧ ∃ k : Nat, k ≤ N.length ∧ f 11 = .int .i64 (k : Int) ∧ Hid (∃ O', Fr (isE g) O W O' V ∧ EAt B O' V g be p x (prS S q F (N.take k)) sav ∧ Rw tpl 4 (core O' V) a N.length N)
theorem heads_lt {p : Pg} {s q : Nat} (h : q ∈ headsOf p s) : q < p.P.length := by
  unfold headsOf at h
  exact List.mem_range.1 (List.mem_filter.1 h).1
theorem heads_nodup (p : Pg) (s : Nat) : (headsOf p s).Nodup := by
  unfold headsOf
  exact List.nodup_range.filter _
set_option maxRecDepth 100000 in
theorem frame91 (f : Nat → Value) : frameN 91 f = #[f 0, f 1, f 2, f 3, f 4, f 5, f 6, f 7, f 8, f 9, f 10, f 11, f 12, f 13, f 14, f 15, f 16, f 17, f 18, f 19, f 20, f 21, f 22, f 23, f 24, f 25, f 26, f 27, f 28, f 29, f 30, f 31, f 32, f 33, f 34, f 35, f 36, f 37, f 38, f 39, f 40, f 41, f 42, f 43, f 44, f 45, f 46, f 47, f 48, f 49, f 50, f 51, f 52, f 53, f 54, f 55, f 56, f 57, f 58, f 59, f 60, f 61, f 62, f 63, f 64, f 65, f 66, f 67, f 68, f 69, f 70, f 71, f 72, f 73, f 74, f 75, f 76, f 77, f 78, f 79, f 80, f 81, f 82, f 83, f 84, f 85, f 86, f 87, f 88, f 89, f 90] := by kernel_rfl
set_option maxRecDepth 40000 in
set_option maxHeartbeats 8000000 in
theorem promote_any (B : Nat) (O : Own) (W : World) (g be : Nat) (p : Pg) (x : Engine) (S sav : List (List Tup)) (hE : EAt B O W g be p x S sav) (hok : PgOk p) (hl : S.length = 3 * p.P.length) (y : Level) (s bl o : Nat) (Cl : List Value) (hbl : blk (core O W) bl = some Cl) (hol : o + 2 ≤ Cl.length) (hsg : seg Cl o 2 = y.enc) (hy : LevelC (core O W) y p s) (hpr : ∀ q ∈ headsOf p s, Pro S q) :
    Calls Try.prog 61 #[.pointer (some ⟨be, 0, none⟩), .pointer (some ⟨bl, o, none⟩)] W fun e W' => e = .returned (.tuple #[.bool (anyN S (headsOf p s)), .int .i64 0]) ∧ EOut B O W g be p x (promL S (headsOf p s)) sav W' := by
  obtain ⟨Q, hQ⟩ : ∃ Q, Q = (fun e W' => e = .returned (.tuple #[.bool (anyN S (headsOf p s)), .int .i64 0]) ∧ EOut B O W g be p x (promL S (headsOf p s)) sav W' : Ending → World → Prop) := ⟨_, rfl⟩
  rw [← hQ]
  have HQ := hid_of hQ
  have h64 := hok.nP
  obtain ⟨bst, hcell, hfre, hxst, _⟩ := eat_st hE
  obtain ⟨hn, _⟩ := hy
  have hnl := hn.1
  have hh8 : (headsOf p s).length ≤ 64 := by
    have h1 : (headsOf p s).length ≤ (List.range p.P.length).length := by unfold headsOf; exact List.length_filter_le _ _
    rw [List.length_range] at h1; omega
  have hc0 : nth Cl o = some (.slice y.heads.a y.heads.len y.heads.cap) := nth_in (j := 0) hsg (Level.heads_get y) (by omega)
  rw [← hnl] at hc0
  obtain ⟨ha, hha⟩ : ∃ ha, ha = y.heads.a := ⟨_, rfl⟩
  obtain ⟨hc, hhc⟩ : ∃ hc, hc = y.heads.cap := ⟨_, rfl⟩
  rw [← hha, ← hhc] at hc0
  rw [← hnl, ← hha] at hn
  obtain ⟨X, hX⟩ : ∃ X, X = x.enc := ⟨_, rfl⟩
  obtain ⟨xl, _, _, _, x3, _, _, _, _, _, _, _, _, _⟩ := eng_cells hX
  rw [hxst] at x3
  have HN := hid_of hn
  have HBL := hid_of hbl
  have HX := hid_of hX
  have HXS := hid_of hxst
  have HPR := hid_of hpr
  have HL := hid_of hl
  have HI0 : Hid (∃ O', Fr (isE g) O W O' W ∧ EAt B O' W g be p x (promL S ((headsOf p s).take 0)) sav) := ⟨O, Fr.refl _ _ _, hE⟩
  clear hE hok hn hbl hX hxst hpr hl hcell hfre hsg hha hhc hnl hQ
  go_enter Try.func61, Try.ntmps61
  go_upto_region 3 with fail
  refine wp_loop_f 91 (p1I B O W g be p x S sav y s bl o) (fun f _ => (headsOf p s).length - (intOf (f 7)).toNat) rfl ⟨rfl, rfl, 0, by omega, rfl, rfl, HI0⟩ ?_
  clear HI0
  intro f V hrel
  obtain ⟨f0, f1, i, hi, f6, f7, HI⟩ := hrel
  have H7 := hid_of f7
  rw [frame91, f0, f1, f6, f7]
  clear f0 f1 f6 f7
  obtain ⟨O1, hFr, hEA⟩ := HI.out
  have hblV : blk V bl = some Cl := by
    have := core_fr hFr (isE_no g)
    exact (core_blk ((this.blk (blk_lt HBL.out)).trans HBL.out)).1
  by_cases hin : i < (headsOf p s).length
  · have hin' : (i : Int) < ((headsOf p s).length : Int) := by omega
    obtain ⟨q, bh, Ch, hq, rfl, hCh0, hch, hsq⟩ := (HN.out.grow (core_fr hFr (isE_no g))).at hin
    have hCh := (core_blk hCh0).1
    rw [Nat.mul_one] at hsq hch
    have hqn : nth Ch i = some (.int .i64 (q : Int)) := nth_in (j := 0) hsq rfl (by omega)
    have hqm : q ∈ headsOf p s := List.mem_of_getElem? hq
    have hqP := heads_lt hqm
    obtain ⟨N, hN⟩ : ∃ N, N = rowsAt S (3 * q + 2) := ⟨_, rfl⟩
    obtain ⟨F, hF⟩ : ∃ F, F = rowsAt S (3 * q) := ⟨_, rfl⟩
    obtain ⟨hp1, hp2, hp3⟩ := HPR.out q hqm
    rw [← hN] at hp1 hp2 hp3
    rw [← hF] at hp2 hp3
    obtain ⟨Si, hSi⟩ : ∃ Si, Si = promL S ((headsOf p s).take i) := ⟨_, rfl⟩
    rw [← hSi] at hEA
    have hlS := HL.out
    have hSil : Si.length = S.length := by rw [hSi, promL_len]
    have hnd : ∀ z ∈ (headsOf p s).take i, z ≠ q := fun z hz e => by
      subst e
      obtain ⟨j, hj⟩ := List.mem_iff_getElem?.1 hz
      rw [List.getElem?_take] at hj
      by_cases hji : j < i
      · rw [if_pos hji] at hj
        have h1 := (List.getElem?_inj (by omega) (heads_nodup p s)).1 (hj.trans hq.symm)
        omega
      · rw [if_neg hji] at hj; cases hj
    have hoth : ∀ r, 3 * q ≤ r → r ≤ 3 * q + 2 → Si[r]? = S[r]? := fun r h1 h2 => by
      rw [hSi]
      refine promL_o _ _ (fun z hz => ?_)
      have := hnd z hz
      omega
    have hSN : Si[3 * q + 2]? = some N := by
      rw [hoth _ (by omega) (by omega), hN]; unfold rowsAt
      rw [List.getD_eq_getElem?_getD, List.getElem?_eq_getElem (by omega)]; rfl
    have hSF : Si[3 * q]? = some F := by
      rw [hoth _ (by omega) (by omega), hF]; unfold rowsAt
      rw [List.getD_eq_getElem?_getD, List.getElem?_eq_getElem (by omega)]; rfl
    have hstep : promL S ((headsOf p s).take (i + 1)) = prS Si q F N := by
      rw [take_at hq, promL_snoc, ← hSi]
      unfold prom1
      rw [rowsAt_some hSN, rowsAt_some hSF]
    have hany : anyN S ((headsOf p s).take (i + 1)) = (anyN S ((headsOf p s).take i) || !N.isEmpty) := by
      rw [take_at hq]
      unfold anyN
      rw [List.any_append, List.any_cons, List.any_nil, Bool.or_false, ← hN]
    have HSTEP := hid_of hstep
    have HANY := hid_of hany
    obtain ⟨gr, hgr⟩ : ∃ gr, gr = anyN S ((headsOf p s).take i) := ⟨_, rfl⟩
    rw [← hgr] at HANY ⊢
    obtain ⟨hcell, hfre, hsat, hown, _⟩ := eat_bst hEA HXS.out
    rw [← HX.out] at hcell
    have HSN := hid_of hSN
    have HSF := hid_of hSF
    have HEA := hid_of hEA
    have HFR := hid_of hFr
    have HLEN : Hid (3 * q + 2 < Si.length) := by show _ < _; omega
    have hnx := next_any V.drew q (by omega)
    have hls := list_any B O1 V.drew g bst Si (hsat.ext (extd _)) (3 * q + 2) N hSN (by omega)
    have i0 : (0 : Int) ≤ (i : Int) := by omega
    have i2 : ((i : Int)).toNat = i := by omega
    have hil : i < Ch.length := by omega
    clear HI hFr hEA hgr hstep hany hoth hnd hlS hSil hSi hF hN hSN hSF hqm hq hsq hCh0 hsat hown
    go_upto_region 6 with fail
    refine wp_region_held_drew (S := fun W' => blk W' be = some X) (by kernel_rfl) hcell (fun hHeld => ?_)
    refine wpAnyH_take (i := 0) (oi := ⟨_, _, _, _, _, _⟩) (v := ?_) rfl (by kernel_rfl) (by kernel_rfl) (by kernel_rfl) (fun _ _ _ h => h) (Or.inl ⟨by rfl, ?_⟩) (by assumption) ?_
    rotate_left 1
    · intro W' hSw
      go_simp
      try with_reducible rfl
    try simp only [Act.put, List.setIfInBounds_toArray, List.set_cons_zero, List.set_cons_succ]
    refine wpAnyH_take (i := 1) (oi := ⟨_, _, _, _, _, _⟩) (v := ?_) rfl (by kernel_rfl) (by kernel_rfl) (by kernel_rfl) (fun _ _ _ h => h) (Or.inl ⟨by rfl, ?_⟩) (by assumption) ?_
    rotate_left 1
    · intro W' hSw
      go_simp
      try with_reducible rfl
    try simp only [Act.put, List.setIfInBounds_toArray, List.set_cons_zero, List.set_cons_succ]
    refine wpAnyH_take (i := 2) (oi := ⟨_, _, _, _, _, _⟩) (v := ?_) rfl (by kernel_rfl) (by kernel_rfl) (by kernel_rfl) (fun _ _ _ h => h) (Or.inl ⟨by rfl, ?_⟩) (by assumption) ?_
    rotate_left 1
    · intro W' hSw
      go_simp
      try with_reducible rfl
    try simp only [Act.put, List.setIfInBounds_toArray, List.set_cons_zero, List.set_cons_succ]
    refine wpAnyH_take (i := 3) (oi := ⟨_, _, _, _, _, _⟩) (v := ?_) rfl (by kernel_rfl) (by kernel_rfl) (by kernel_rfl) (fun _ _ _ h => h) (Or.inl ⟨by rfl, ?_⟩) (by assumption) ?_
    rotate_left 1
    · intro W' hSw
      go_simp
      try with_reducible rfl
    try simp only [Act.put, List.setIfInBounds_toArray, List.set_cons_zero, List.set_cons_succ]
    refine wpAnyH_take (i := 4) (oi := ⟨_, _, _, _, _, _⟩) (v := ?_) rfl (by kernel_rfl) (by kernel_rfl) (by kernel_rfl) (fun _ _ _ h => h) (Or.inl ⟨by rfl, ?_⟩) (by assumption) ?_
    rotate_left 1
    · intro W' hSw
      go_simp
      try with_reducible rfl
    try simp only [Act.put, List.setIfInBounds_toArray, List.set_cons_zero, List.set_cons_succ]
    refine wpAnyH_ready (rs := [5]) (by kernel_rfl) (by simp) ?_
    refine AllReadyH.cons (o := ⟨_, _, _, _, _, _⟩) rfl (fun K' hK => ?_) AllReadyH.nil
    go_simp
    refine hnx.mono ?_
    rintro en V1 ⟨rfl, rfl⟩
    dsimp only
    refine hK.out _ _ hcell (fun hHeld => ?_)
    clear hK K'
    try simp only [Act.put, List.setIfInBounds_toArray, List.set_cons_zero, List.set_cons_succ]
    refine wpAnyH_ready (rs := [6]) (by kernel_rfl) (by simp) ?_
    refine AllReadyH.cons (o := ⟨_, _, _, _, _, _⟩) rfl (fun K' hK => ?_) AllReadyH.nil
    go_simp
    refine hls.mono ?_
    rintro en V1 ⟨a, c, rfl, ho1⟩
    dsimp only
    refine hK.out _ _ ((ho1.2.1.blk (blk_lt hcell)).trans hcell) (fun hHeld => ?_)
    clear hK K'
    try simp only [Act.put, List.setIfInBounds_toArray, List.set_cons_zero, List.set_cons_succ]
    refine wpAnyH_take (i := 7) (oi := ⟨_, _, _, _, _, _⟩) (v := ?_) rfl (by kernel_rfl) (by kernel_rfl) (by kernel_rfl) (fun _ _ _ h => h) (Or.inl ⟨by rfl, ?_⟩) (by assumption) ?_
    rotate_left 1
    · intro W' hSw
      go_simp
      try with_reducible rfl
    try simp only [Act.put, List.setIfInBounds_toArray, List.set_cons_zero, List.set_cons_succ]
    refine wpAnyH_take (i := 8) (oi := ⟨_, _, _, _, _, _⟩) (v := ?_) rfl (by kernel_rfl) (by kernel_rfl) (by kernel_rfl) (fun _ _ _ h => h) (Or.inl ⟨by rfl, ?_⟩) (by assumption) ?_
    rotate_left 1
    · intro W' hSw
      go_simp
      try with_reducible rfl
    try simp only [Act.put, List.setIfInBounds_toArray, List.set_cons_zero, List.set_cons_succ]
    refine wpAnyH_take (i := 9) (oi := ⟨_, _, _, _, _, _⟩) (v := ?_) rfl (by kernel_rfl) (by kernel_rfl) (by kernel_rfl) (fun _ _ _ h => h) (Or.inl ⟨by rfl, ?_⟩) (by assumption) ?_
    rotate_left 1
    · intro W' hSw
      go_simp
      try with_reducible rfl
    try simp only [Act.put, List.setIfInBounds_toArray, List.set_cons_zero, List.set_cons_succ]
    refine wpAnyH_take (i := 10) (oi := ⟨_, _, _, _, _, _⟩) (v := ?_) rfl (by kernel_rfl) (by kernel_rfl) (by kernel_rfl) (fun _ _ _ h => h) (Or.inl ⟨by rfl, ?_⟩) (by assumption) ?_
    rotate_left 1
    · intro W' hSw
      go_simp
      try with_reducible rfl
    try simp only [Act.put, List.setIfInBounds_toArray, List.set_cons_zero, List.set_cons_succ]
    refine wpAnyH_take (i := 11) (oi := ⟨_, _, _, _, _, _⟩) (v := ?_) rfl (by kernel_rfl) (by kernel_rfl) (by kernel_rfl) (fun _ _ _ h => h) (Or.inl ⟨by rfl, ?_⟩) (by assumption) ?_
    rotate_left 1
    · intro W' hSw
      go_simp
      try with_reducible rfl
    try simp only [Act.put, List.setIfInBounds_toArray, List.set_cons_zero, List.set_cons_succ]
    refine wpAnyH_done (by kernel_rfl) ?_ _
    clear hHeld hnx hls hcell hfre hblV hCh hqn hch hil i0 i2
    obtain ⟨O2, hO2⟩ : ∃ O2, O2 = lab O1 V.drew.heap.size .no := ⟨_, rfl⟩
    have hE2 : EAt B O2 V1 g be p x Si sav := by rw [hO2]; exact (HEA.out.ext (extd V)).new ho1.2.1 _
    have hF2 : Fr (isE g) O1 V.drew O2 V1 := by rw [hO2]; exact fr_lab (Fr.refl _ _ _) ho1.2.1
    have HF2 : Hid (Fr (isE g) O W O2 V1) := (HFR.out.drew).trans hF2
    have HR2 : Hid (Rw tpl 4 (core O2 V1) a N.length N) := by
      show Rw _ _ _ _ _ _
      rw [hO2]; exact outs_core ho1
    have HE2 := hid_of hE2
    clear ho1 hO2 hF2 hE2 HEA HFR
    have hnx := next_any V1.drew q (by omega)
    obtain ⟨hcell, hfre, hsat, hown, hput⟩ := eat_bst (HE2.out.ext (extd V1)) HXS.out
    rw [← HX.out] at hcell
    have hcl := clear_any B O2 V1.drew g bst Si hsat (3 * q + 2) N HSN.out
    have HPUT := hid_of hput
    have HCL := hid_of hcl
    clear hput hsat hown hcl hfre
    go_upto_region 7 with fail
    refine wp_region_held_drew (S := fun W' => blk W' be = some X) (by kernel_rfl) hcell (fun hHeld => ?_)
    refine wpAnyH_take (i := 0) (oi := ⟨_, _, _, _, _, _⟩) (v := ?_) rfl (by kernel_rfl) (by kernel_rfl) (by kernel_rfl) (fun _ _ _ h => h) (Or.inl ⟨by rfl, ?_⟩) (by assumption) ?_
    rotate_left 1
    · intro W' hSw
      go_simp
      try with_reducible rfl
    try simp only [Act.put, List.setIfInBounds_toArray, List.set_cons_zero, List.set_cons_succ]
    refine wpAnyH_take (i := 1) (oi := ⟨_, _, _, _, _, _⟩) (v := ?_) rfl (by kernel_rfl) (by kernel_rfl) (by kernel_rfl) (fun _ _ _ h => h) (Or.inl ⟨by rfl, ?_⟩) (by assumption) ?_
    rotate_left 1
    · intro W' hSw
      go_simp
      try with_reducible rfl
    try simp only [Act.put, List.setIfInBounds_toArray, List.set_cons_zero, List.set_cons_succ]
    refine wpAnyH_take (i := 2) (oi := ⟨_, _, _, _, _, _⟩) (v := ?_) rfl (by kernel_rfl) (by kernel_rfl) (by kernel_rfl) (fun _ _ _ h => h) (Or.inl ⟨by rfl, ?_⟩) (by assumption) ?_
    rotate_left 1
    · intro W' hSw
      go_simp
      try with_reducible rfl
    try simp only [Act.put, List.setIfInBounds_toArray, List.set_cons_zero, List.set_cons_succ]
    refine wpAnyH_take (i := 3) (oi := ⟨_, _, _, _, _, _⟩) (v := ?_) rfl (by kernel_rfl) (by kernel_rfl) (by kernel_rfl) (fun _ _ _ h => h) (Or.inl ⟨by rfl, ?_⟩) (by assumption) ?_
    rotate_left 1
    · intro W' hSw
      go_simp
      try with_reducible rfl
    try simp only [Act.put, List.setIfInBounds_toArray, List.set_cons_zero, List.set_cons_succ]
    refine wpAnyH_take (i := 4) (oi := ⟨_, _, _, _, _, _⟩) (v := ?_) rfl (by kernel_rfl) (by kernel_rfl) (by kernel_rfl) (fun _ _ _ h => h) (Or.inl ⟨by rfl, ?_⟩) (by assumption) ?_
    rotate_left 1
    · intro W' hSw
      go_simp
      try with_reducible rfl
    try simp only [Act.put, List.setIfInBounds_toArray, List.set_cons_zero, List.set_cons_succ]
    refine wpAnyH_ready (rs := [5]) (by kernel_rfl) (by simp) ?_
    refine AllReadyH.cons (o := ⟨_, _, _, _, _, _⟩) rfl (fun K' hK => ?_) AllReadyH.nil
    go_simp
    refine hnx.mono ?_
    rintro en V9 ⟨rfl, rfl⟩
    dsimp only
    refine hK.out _ _ hcell (fun hHeld => ?_)
    clear hK K'
    try simp only [Act.put, List.setIfInBounds_toArray, List.set_cons_zero, List.set_cons_succ]
    refine wpAnyH_ready (rs := [6]) (by kernel_rfl) (by simp) ?_
    refine AllReadyH.cons (o := ⟨_, _, _, _, _, _⟩) rfl (fun K' hK => ?_) AllReadyH.nil
    go_simp
    refine HCL.out.mono ?_
    rintro en V2 ⟨rfl, O3, hf3, hs3⟩
    dsimp only
    refine hK.out _ _ (by have h9 := (eat_bst (HPUT.out _ O3 V2 hf3 hs3) HXS.out).1; rw [← HX.out] at h9; exact h9) (fun hHeld => ?_)
    clear hK K'
    try simp only [Act.put, List.setIfInBounds_toArray, List.set_cons_zero, List.set_cons_succ]
    refine wpAnyH_done (by kernel_rfl) ?_ _
    have HE3 : Hid (EAt B O3 V2 g be p x (Si.set (3 * q + 2) []) sav) := HPUT.out _ O3 V2 hf3 hs3
    have hff3 : Fr (isE g) O2 V1 O3 V2 := (Fr.of_extends (extd V1)).trans (hf3.mono (fun l h => .inl h))
    have HF3 : Hid (Fr (isE g) O W O3 V2) := HF2.out.trans hff3
    have HR3 : Hid (Rw tpl 4 (core O3 V2) a N.length N) := HR2.out.grow (core_fr hff3 (isE_no g))
    clear hff3 hf3 hs3 HF2 HR2 HE2 HPUT HCL hnx hHeld hcell
    have hdx := delta_any V2.drew q (by omega)
    obtain ⟨hcell, hfre, hsat, hown, hput⟩ := eat_bst (HE3.out.ext (extd V2)) HXS.out
    rw [← HX.out] at hcell
    obtain ⟨Dq, hDq⟩ : ∃ Dq, (Si.set (3 * q + 2) [])[3 * q + 1]? = some Dq := ⟨_, List.getElem?_eq_getElem (by rw [List.length_set]; have := HLEN.out; omega)⟩
    have hcl := clear_any B O3 V2.drew g bst _ hsat (3 * q + 1) Dq hDq
    have HPUT := hid_of hput
    have HCL := hid_of hcl
    clear hput hsat hown hcl hfre hDq
    go_upto_region 8 with fail
    refine wp_region_held_drew (S := fun W' => blk W' be = some X) (by kernel_rfl) hcell (fun hHeld => ?_)
    refine wpAnyH_take (i := 0) (oi := ⟨_, _, _, _, _, _⟩) (v := ?_) rfl (by kernel_rfl) (by kernel_rfl) (by kernel_rfl) (fun _ _ _ h => h) (Or.inl ⟨by rfl, ?_⟩) (by assumption) ?_
    rotate_left 1
    · intro W' hSw
      go_simp
      try with_reducible rfl
    try simp only [Act.put, List.setIfInBounds_toArray, List.set_cons_zero, List.set_cons_succ]
    refine wpAnyH_take (i := 1) (oi := ⟨_, _, _, _, _, _⟩) (v := ?_) rfl (by kernel_rfl) (by kernel_rfl) (by kernel_rfl) (fun _ _ _ h => h) (Or.inl ⟨by rfl, ?_⟩) (by assumption) ?_
    rotate_left 1
    · intro W' hSw
      go_simp
      try with_reducible rfl
    try simp only [Act.put, List.setIfInBounds_toArray, List.set_cons_zero, List.set_cons_succ]
    refine wpAnyH_take (i := 2) (oi := ⟨_, _, _, _, _, _⟩) (v := ?_) rfl (by kernel_rfl) (by kernel_rfl) (by kernel_rfl) (fun _ _ _ h => h) (Or.inl ⟨by rfl, ?_⟩) (by assumption) ?_
    rotate_left 1
    · intro W' hSw
      go_simp
      try with_reducible rfl
    try simp only [Act.put, List.setIfInBounds_toArray, List.set_cons_zero, List.set_cons_succ]
    refine wpAnyH_take (i := 3) (oi := ⟨_, _, _, _, _, _⟩) (v := ?_) rfl (by kernel_rfl) (by kernel_rfl) (by kernel_rfl) (fun _ _ _ h => h) (Or.inl ⟨by rfl, ?_⟩) (by assumption) ?_
    rotate_left 1
    · intro W' hSw
      go_simp
      try with_reducible rfl
    try simp only [Act.put, List.setIfInBounds_toArray, List.set_cons_zero, List.set_cons_succ]
    refine wpAnyH_take (i := 4) (oi := ⟨_, _, _, _, _, _⟩) (v := ?_) rfl (by kernel_rfl) (by kernel_rfl) (by kernel_rfl) (fun _ _ _ h => h) (Or.inl ⟨by rfl, ?_⟩) (by assumption) ?_
    rotate_left 1
    · intro W' hSw
      go_simp
      try with_reducible rfl
    try simp only [Act.put, List.setIfInBounds_toArray, List.set_cons_zero, List.set_cons_succ]
    refine wpAnyH_ready (rs := [5]) (by kernel_rfl) (by simp) ?_
    refine AllReadyH.cons (o := ⟨_, _, _, _, _, _⟩) rfl (fun K' hK => ?_) AllReadyH.nil
    go_simp
    refine hdx.mono ?_
    rintro en V9 ⟨rfl, rfl⟩
    dsimp only
    refine hK.out _ _ hcell (fun hHeld => ?_)
    clear hK K'
    try simp only [Act.put, List.setIfInBounds_toArray, List.set_cons_zero, List.set_cons_succ]
    refine wpAnyH_ready (rs := [6]) (by kernel_rfl) (by simp) ?_
    refine AllReadyH.cons (o := ⟨_, _, _, _, _, _⟩) rfl (fun K' hK => ?_) AllReadyH.nil
    go_simp
    refine HCL.out.mono ?_
    rintro en V3 ⟨rfl, O4, hf3, hs3⟩
    dsimp only
    refine hK.out _ _ (by have h9 := (eat_bst (HPUT.out _ O4 V3 hf3 hs3) HXS.out).1; rw [← HX.out] at h9; exact h9) (fun hHeld => ?_)
    clear hK K'
    try simp only [Act.put, List.setIfInBounds_toArray, List.set_cons_zero, List.set_cons_succ]
    refine wpAnyH_done (by kernel_rfl) ?_ _
    have HE4 : Hid (EAt B O4 V3 g be p x (prS Si q F []) sav) := by
      show EAt _ _ _ _ _ _ _ _ _
      rw [prS_0 HSF.out]
      exact HPUT.out _ O4 V3 hf3 hs3
    have hff3 : Fr (isE g) O3 V2 O4 V3 := (Fr.of_extends (extd V2)).trans (hf3.mono (fun l h => .inl h))
    have HF4 : Hid (Fr (isE g) O W O4 V3) := HF3.out.trans hff3
    have HR4 : Hid (Rw tpl 4 (core O4 V3) a N.length N) := HR3.out.grow (core_fr hff3 (isE_no g))
    clear hff3 hf3 hs3 HF3 HR3 HE3 HPUT HCL hdx hHeld hcell HSN HSF
    have hN512 : N.length ≤ 512 := by omega
    go_upto_region 10 with fail
    have HI2 : Hid (∃ O', Fr (isE g) O W O' V3 ∧ EAt B O' V3 g be p x (prS Si q F (N.take 0)) sav ∧ Rw tpl 4 (core O' V3) a N.length N) := ⟨O4, HF4.out, HE4.out, HR4.out⟩
    refine wp_loop_f 91 (p2I B O W g be p x Si sav bl o i q gr F N a c) (fun f _ => N.length - (intOf (f 11)).toNat) rfl ⟨rfl, rfl, rfl, rfl, rfl, rfl, 0, by omega, rfl, HI2⟩ ?_
    clear HI2 HF4 HE4 HR4
    intro f' V4 hrel
    obtain ⟨f0, f1, f6, f7, f8, f9, k, hk, f11, HI⟩ := hrel
    have H11 := hid_of f11
    rw [frame91, f0, f1, f6, f7, f8, f9, f11]
    clear f0 f1 f6 f7 f8 f9 f11
    obtain ⟨O5, hFr, hEA, hRw⟩ := HI.out
    by_cases hkn : k < N.length
    · have hkn' : (k : Int) < (N.length : Int) := by omega
      obtain ⟨t, ht⟩ : ∃ t, N[k]? = some t := ⟨_, List.getElem?_eq_getElem hkn⟩
      obtain ⟨bn, Cn, ha, hCn0, hcn, _, un⟩ := tup_at hRw ht
      subst ha
      have k0 : (0 : Int) ≤ (k : Int) := by omega
      have k2 : ((k : Int)).toNat = k := by omega
      have k5 : k * 4 < Cn.length := by omega
      have hlt := HLEN.out
      have htk : N.take (k + 1) = N.take k ++ [t] := take_at ht
      have htn : t ∈ N := List.mem_of_getElem? ht
      have htk0 : t ∉ N.take k := fun hm => by
        obtain ⟨j, hj⟩ := List.mem_iff_getElem?.1 hm
        rw [List.getElem?_take] at hj
        by_cases hjk : j < k
        · rw [if_pos hjk] at hj
          have h1 := (List.getElem?_inj (by omega) hp1).1 (hj.trans ht.symm)
          omega
        · rw [if_neg hjk] at hj; cases hj
      have hin1 : insL (F ++ N.take k) t = F ++ N.take (k + 1) ∧ insC (F ++ N.take k) t = 0 := by
        have hm : t ∉ F ++ N.take k := fun h => (List.mem_append.1 h).elim (hp2 t htn) htk0
        have hn : ¬ (F ++ N.take k).length = 512 := by rw [List.length_append, List.length_take]; omega
        refine ⟨?_, ?_⟩
        · unfold insL; rw [if_neg hm, if_neg hn, htk, List.append_assoc]
        · unfold insC; rw [if_neg hm, if_neg hn]
      have hin2 : insL (N.take k) t = N.take (k + 1) := by
        have hn : ¬ (N.take k).length = 512 := by rw [List.length_take]; omega
        unfold insL; rw [if_neg htk0, if_neg hn, htk]
      obtain ⟨hcell, hfre, hsat, hown, hput⟩ := eat_bst (hEA.ext (extd V4)) HXS.out
      rw [← HX.out] at hcell
      have hfx := full_any V4.drew q (by omega)
      have hins := insert_any B O5 V4.drew g bst _ hsat (3 * q) _ (prS_f hlt) (by rw [List.length_append, List.length_take]; omega) t
      rw [hin1.1, hin1.2] at hins
      have HPUT := hid_of hput
      have HINS := hid_of hins
      have HCN := hid_of hCn0
      have HIN2 := hid_of hin2
      have hCn := (core_blk hCn0).1
      have HFR := hid_of hFr
      have HRW := hid_of hRw
      have HTI := hid_of ht
      clear HI hFr hEA hRw hput hins hsat hown hfre hin1 hin2 htk0 htn htk ht hlt hCn0
      go_upto_region 12 with fail
      refine wp_region_held_drew (S := fun W' => blk W' be = some X ∧ blk W' bn = some Cn) (by kernel_rfl) ⟨hcell, hCn⟩ (fun hHeld => ?_)
      refine wpAnyH_take (i := 0) (oi := ⟨_, _, _, _, _, _⟩) (v := ?_) rfl (by kernel_rfl) (by kernel_rfl) (by kernel_rfl) (fun _ _ _ h => h) (Or.inl ⟨by rfl, ?_⟩) (by assumption) ?_
      rotate_left 1
      · intro W' hSw
        obtain ⟨hS1, hS2⟩ := hSw
        go_simp
        try with_reducible rfl
      try simp only [Act.put, List.setIfInBounds_toArray, List.set_cons_zero, List.set_cons_succ]
      refine wpAnyH_take (i := 1) (oi := ⟨_, _, _, _, _, _⟩) (v := ?_) rfl (by kernel_rfl) (by kernel_rfl) (by kernel_rfl) (fun _ _ _ h => h) (Or.inl ⟨by rfl, ?_⟩) (by assumption) ?_
      rotate_left 1
      · intro W' hSw
        obtain ⟨hS1, hS2⟩ := hSw
        go_simp
        try with_reducible rfl
      try simp only [Act.put, List.setIfInBounds_toArray, List.set_cons_zero, List.set_cons_succ]
      refine wpAnyH_take (i := 2) (oi := ⟨_, _, _, _, _, _⟩) (v := ?_) rfl (by kernel_rfl) (by kernel_rfl) (by kernel_rfl) (fun _ _ _ h => h) (Or.inl ⟨by rfl, ?_⟩) (by assumption) ?_
      rotate_left 1
      · intro W' hSw
        obtain ⟨hS1, hS2⟩ := hSw
        go_simp
        try with_reducible rfl
      try simp only [Act.put, List.setIfInBounds_toArray, List.set_cons_zero, List.set_cons_succ]
      refine wpAnyH_take (i := 3) (oi := ⟨_, _, _, _, _, _⟩) (v := ?_) rfl (by kernel_rfl) (by kernel_rfl) (by kernel_rfl) (fun _ _ _ h => h) (Or.inl ⟨by rfl, ?_⟩) (by assumption) ?_
      rotate_left 1
      · intro W' hSw
        obtain ⟨hS1, hS2⟩ := hSw
        go_simp
        try with_reducible rfl
      try simp only [Act.put, List.setIfInBounds_toArray, List.set_cons_zero, List.set_cons_succ]
      refine wpAnyH_take (i := 4) (oi := ⟨_, _, _, _, _, _⟩) (v := ?_) rfl (by kernel_rfl) (by kernel_rfl) (by kernel_rfl) (fun _ _ _ h => h) (Or.inl ⟨by rfl, ?_⟩) (by assumption) ?_
      rotate_left 1
      · intro W' hSw
        obtain ⟨hS1, hS2⟩ := hSw
        go_simp
        try with_reducible rfl
      try simp only [Act.put, List.setIfInBounds_toArray, List.set_cons_zero, List.set_cons_succ]
      refine wpAnyH_take (i := 6) (oi := ⟨_, _, _, _, _, _⟩) (v := ?_) rfl (by kernel_rfl) (by kernel_rfl) (by kernel_rfl) (fun _ _ _ h => h) (Or.inl ⟨by rfl, ?_⟩) (by assumption) ?_
      rotate_left 1
      · intro W' hSw
        obtain ⟨hS1, hS2⟩ := hSw
        go_simp
        try with_reducible rfl
      try simp only [Act.put, List.setIfInBounds_toArray, List.set_cons_zero, List.set_cons_succ]
      refine wpAnyH_take (i := 7) (oi := ⟨_, _, _, _, _, _⟩) (v := ?_) rfl (by kernel_rfl) (by kernel_rfl) (by kernel_rfl) (fun _ _ _ h => h) (Or.inl ⟨by rfl, ?_⟩) (by assumption) ?_
      rotate_left 1
      · intro W' hSw
        obtain ⟨hS1, hS2⟩ := hSw
        go_simp
        try with_reducible rfl
      try simp only [Act.put, List.setIfInBounds_toArray, List.set_cons_zero, List.set_cons_succ]
      refine wpAnyH_take (i := 8) (oi := ⟨_, _, _, _, _, _⟩) (v := ?_) rfl (by kernel_rfl) (by kernel_rfl) (by kernel_rfl) (fun _ _ _ h => h) (Or.inl ⟨by rfl, ?_⟩) (by assumption) ?_
      rotate_left 1
      · intro W' hSw
        obtain ⟨hS1, hS2⟩ := hSw
        go_simp
        try with_reducible rfl
      try simp only [Act.put, List.setIfInBounds_toArray, List.set_cons_zero, List.set_cons_succ]
      refine wpAnyH_take (i := 9) (oi := ⟨_, _, _, _, _, _⟩) (v := ?_) rfl (by kernel_rfl) (by kernel_rfl) (by kernel_rfl) (fun _ _ _ h => h) (Or.inl ⟨by rfl, ?_⟩) (by assumption) ?_
      rotate_left 1
      · intro W' hSw
        obtain ⟨hS1, hS2⟩ := hSw
        go_simp
        try with_reducible rfl
      try simp only [Act.put, List.setIfInBounds_toArray, List.set_cons_zero, List.set_cons_succ]
      refine wpAnyH_ready (rs := [5]) (by kernel_rfl) (by simp) ?_
      refine AllReadyH.cons (o := ⟨_, _, _, _, _, _⟩) rfl (fun K' hK => ?_) AllReadyH.nil
      go_simp
      refine hfx.mono ?_
      rintro en V5 ⟨rfl, rfl⟩
      dsimp only
      refine hK.out _ _ ⟨hcell, hCn⟩ (fun hHeld => ?_)
      clear hK K'
      try simp only [Act.put, List.setIfInBounds_toArray, List.set_cons_zero, List.set_cons_succ]
      refine wpAnyH_ready (rs := [10]) (by kernel_rfl) (by simp) ?_
      refine AllReadyH.cons (o := ⟨_, _, _, _, _, _⟩) rfl (fun K' hK => ?_) AllReadyH.nil
      go_simp
      refine HINS.out.mono ?_
      rintro en V6 ⟨rfl, O6, hf6, hs6⟩
      dsimp only
      have HE6 : Hid (EAt B O6 V6 g be p x ((prS Si q F (N.take k)).set (3 * q) (F ++ N.take (k + 1))) sav) := HPUT.out _ O6 V6 hf6 hs6
      have hff6 : Fr (isE g) O5 V4 O6 V6 := (Fr.of_extends (extd V4)).trans (hf6.mono (fun l h => .inl h))
      have HF6 : Hid (Fr (isE g) O W O6 V6) := HFR.out.trans hff6
      have HR6 : Hid (Rw tpl 4 (core O6 V6) (some ⟨bn, 0, none⟩) N.length N) := HRW.out.grow (core_fr hff6 (isE_no g))
      have hcell6 : blk V6 be = some X := by rw [HX.out]; exact (eat_bst HE6.out HXS.out).1
      have hCn6 : blk V6 bn = some Cn := (core_blk (((core_fr hff6 (isE_no g)).blk (blk_lt HCN.out)).trans HCN.out)).1
      clear hff6 hf6 hs6 HFR HRW HPUT HINS hcell hCn hfx HCN
      refine hK.out _ _ ⟨hcell6, hCn6⟩ (fun hHeld => ?_)
      clear hK K'
      try simp only [Act.put, List.setIfInBounds_toArray, List.set_cons_zero, List.set_cons_succ]
      refine wpAnyH_take (i := 11) (oi := ⟨_, _, _, _, _, _⟩) (v := ?_) rfl (by kernel_rfl) (by kernel_rfl) (by kernel_rfl) (fun _ _ _ h => h) (Or.inl ⟨by rfl, ?_⟩) (by assumption) ?_
      rotate_left 1
      · intro W' hSw
        obtain ⟨hS1, hS2⟩ := hSw
        go_simp
        try with_reducible rfl
      try simp only [Act.put, List.setIfInBounds_toArray, List.set_cons_zero, List.set_cons_succ]
      refine wpAnyH_done (by kernel_rfl) ?_ _
      clear hHeld
      have hpp : (prS Si q F (N.take k)).length = Si.length := prS_len ..
      obtain ⟨hcell, hfre, hsat, hown, hput⟩ := eat_bst (HE6.out.ext (extd V6)) HXS.out
      rw [← HX.out] at hcell
      have hdx := delta_any V6.drew q (by omega)
      have hin3 := HIN2.out
      have hlt := HLEN.out
      have hins := insert_any B O6 V6.drew g bst _ hsat (3 * q + 1) (N.take k) (by rw [List.getElem?_set_ne (by omega)]; exact prS_d hlt) (by rw [List.length_take]; omega) t
      rw [hin3, prS_step] at hins
      have HPUT := hid_of hput
      have HINS := hid_of hins
      clear hput hins hsat hown hfre hin3 hpp hlt
      go_upto_region 15 with fail
      refine wp_region_held_drew (S := fun W' => blk W' be = some X ∧ blk W' bn = some Cn) (by kernel_rfl) ⟨hcell6, hCn6⟩ (fun hHeld => ?_)
      refine wpAnyH_take (i := 0) (oi := ⟨_, _, _, _, _, _⟩) (v := ?_) rfl (by kernel_rfl) (by kernel_rfl) (by kernel_rfl) (fun _ _ _ h => h) (Or.inl ⟨by rfl, ?_⟩) (by assumption) ?_
      rotate_left 1
      · intro W' hSw
        obtain ⟨hS1, hS2⟩ := hSw
        go_simp
        try with_reducible rfl
      try simp only [Act.put, List.setIfInBounds_toArray, List.set_cons_zero, List.set_cons_succ]
      refine wpAnyH_take (i := 1) (oi := ⟨_, _, _, _, _, _⟩) (v := ?_) rfl (by kernel_rfl) (by kernel_rfl) (by kernel_rfl) (fun _ _ _ h => h) (Or.inl ⟨by rfl, ?_⟩) (by assumption) ?_
      rotate_left 1
      · intro W' hSw
        obtain ⟨hS1, hS2⟩ := hSw
        go_simp
        try with_reducible rfl
      try simp only [Act.put, List.setIfInBounds_toArray, List.set_cons_zero, List.set_cons_succ]
      refine wpAnyH_take (i := 2) (oi := ⟨_, _, _, _, _, _⟩) (v := ?_) rfl (by kernel_rfl) (by kernel_rfl) (by kernel_rfl) (fun _ _ _ h => h) (Or.inl ⟨by rfl, ?_⟩) (by assumption) ?_
      rotate_left 1
      · intro W' hSw
        obtain ⟨hS1, hS2⟩ := hSw
        go_simp
        try with_reducible rfl
      try simp only [Act.put, List.setIfInBounds_toArray, List.set_cons_zero, List.set_cons_succ]
      refine wpAnyH_take (i := 3) (oi := ⟨_, _, _, _, _, _⟩) (v := ?_) rfl (by kernel_rfl) (by kernel_rfl) (by kernel_rfl) (fun _ _ _ h => h) (Or.inl ⟨by rfl, ?_⟩) (by assumption) ?_
      rotate_left 1
      · intro W' hSw
        obtain ⟨hS1, hS2⟩ := hSw
        go_simp
        try with_reducible rfl
      try simp only [Act.put, List.setIfInBounds_toArray, List.set_cons_zero, List.set_cons_succ]
      refine wpAnyH_take (i := 4) (oi := ⟨_, _, _, _, _, _⟩) (v := ?_) rfl (by kernel_rfl) (by kernel_rfl) (by kernel_rfl) (fun _ _ _ h => h) (Or.inl ⟨by rfl, ?_⟩) (by assumption) ?_
      rotate_left 1
      · intro W' hSw
        obtain ⟨hS1, hS2⟩ := hSw
        go_simp
        try with_reducible rfl
      try simp only [Act.put, List.setIfInBounds_toArray, List.set_cons_zero, List.set_cons_succ]
      refine wpAnyH_take (i := 6) (oi := ⟨_, _, _, _, _, _⟩) (v := ?_) rfl (by kernel_rfl) (by kernel_rfl) (by kernel_rfl) (fun _ _ _ h => h) (Or.inl ⟨by rfl, ?_⟩) (by assumption) ?_
      rotate_left 1
      · intro W' hSw
        obtain ⟨hS1, hS2⟩ := hSw
        go_simp
        try with_reducible rfl
      try simp only [Act.put, List.setIfInBounds_toArray, List.set_cons_zero, List.set_cons_succ]
      refine wpAnyH_take (i := 7) (oi := ⟨_, _, _, _, _, _⟩) (v := ?_) rfl (by kernel_rfl) (by kernel_rfl) (by kernel_rfl) (fun _ _ _ h => h) (Or.inl ⟨by rfl, ?_⟩) (by assumption) ?_
      rotate_left 1
      · intro W' hSw
        obtain ⟨hS1, hS2⟩ := hSw
        go_simp
        try with_reducible rfl
      try simp only [Act.put, List.setIfInBounds_toArray, List.set_cons_zero, List.set_cons_succ]
      refine wpAnyH_take (i := 8) (oi := ⟨_, _, _, _, _, _⟩) (v := ?_) rfl (by kernel_rfl) (by kernel_rfl) (by kernel_rfl) (fun _ _ _ h => h) (Or.inl ⟨by rfl, ?_⟩) (by assumption) ?_
      rotate_left 1
      · intro W' hSw
        obtain ⟨hS1, hS2⟩ := hSw
        go_simp
        try with_reducible rfl
      try simp only [Act.put, List.setIfInBounds_toArray, List.set_cons_zero, List.set_cons_succ]
      refine wpAnyH_take (i := 9) (oi := ⟨_, _, _, _, _, _⟩) (v := ?_) rfl (by kernel_rfl) (by kernel_rfl) (by kernel_rfl) (fun _ _ _ h => h) (Or.inl ⟨by rfl, ?_⟩) (by assumption) ?_
      rotate_left 1
      · intro W' hSw
        obtain ⟨hS1, hS2⟩ := hSw
        go_simp
        try with_reducible rfl
      try simp only [Act.put, List.setIfInBounds_toArray, List.set_cons_zero, List.set_cons_succ]
      refine wpAnyH_ready (rs := [5]) (by kernel_rfl) (by simp) ?_
      refine AllReadyH.cons (o := ⟨_, _, _, _, _, _⟩) rfl (fun K' hK => ?_) AllReadyH.nil
      go_simp
      refine hdx.mono ?_
      rintro en V5 ⟨rfl, rfl⟩
      dsimp only
      refine hK.out _ _ ⟨hcell6, hCn6⟩ (fun hHeld => ?_)
      clear hK K'
      try simp only [Act.put, List.setIfInBounds_toArray, List.set_cons_zero, List.set_cons_succ]
      refine wpAnyH_ready (rs := [10]) (by kernel_rfl) (by simp) ?_
      refine AllReadyH.cons (o := ⟨_, _, _, _, _, _⟩) rfl (fun K' hK => ?_) AllReadyH.nil
      go_simp
      refine HINS.out.mono ?_
      rintro en V7 ⟨rfl, O7, hf7, hs7⟩
      dsimp only
      have hcell7 : blk V7 be = some X := by rw [HX.out]; exact (eat_bst (HPUT.out _ O7 V7 hf7 hs7) HXS.out).1
      have hCn7 : blk V7 bn = some Cn := by
        have hff7 : Fr (isE g) O6 V6 O7 V7 := (Fr.of_extends (extd V6)).trans (hf7.mono (fun l h => .inl h))
        obtain ⟨b', C', e1, e2, _⟩ := tup_at HR6.out HTI.out
        injection e1 with e1
        injection e1 with e1
        subst e1
        have e3 := (core_blk e2).1
        rw [hCn6] at e3
        injection e3 with e3
        subst e3
        exact (core_blk (((core_fr hff7 (isE_no g)).blk (blk_lt e2)).trans e2)).1
      refine hK.out _ _ ⟨hcell7, hCn7⟩ (fun hHeld => ?_)
      clear hK K'
      try simp only [Act.put, List.setIfInBounds_toArray, List.set_cons_zero, List.set_cons_succ]
      refine wpAnyH_done (by kernel_rfl) ?_ _
      have HE7 : Hid (EAt B O7 V7 g be p x (prS Si q F (N.take (k + 1))) sav) := HPUT.out _ O7 V7 hf7 hs7
      have hff7 : Fr (isE g) O6 V6 O7 V7 := (Fr.of_extends (extd V6)).trans (hf7.mono (fun l h => .inl h))
      have HI' : Hid (∃ O', Fr (isE g) O W O' V7 ∧ EAt B O' V7 g be p x (prS Si q F (N.take (k + 1))) sav ∧ Rw tpl 4 (core O' V7) (some ⟨bn, 0, none⟩) N.length N) := ⟨O7, HF6.out.trans hff7, HE7.out, HR6.out.grow (core_fr hff7 (isE_no g))⟩
      clear hff7 hf7 hs7 HE7 HF6 HR6 HE6 HPUT HINS
      go_wp2_with fail
      refine ⟨rfl, rfl, ⟨rfl, rfl, rfl, rfl, rfl, rfl, k + 1, by omega, ?_, HI'⟩, ?_⟩
      · show Value.int .i64 _ = _
        go_num
      · show N.length - (intOf (Value.int .i64 _)).toNat < N.length - (intOf (f' 11)).toNat
        rw [H11.out]
        simp [intOf]; omega
    · obtain rfl : k = N.length := by omega
      have hkn' : ¬ ((N.length : Int) < (N.length : Int)) := by omega
      have HI' : Hid (∃ O', Fr (isE g) O W O' V4 ∧ EAt B O' V4 g be p x (promL S ((headsOf p s).take (i + 1))) sav) := by
        rw [List.take_of_length_le (Nat.le_refl _)] at hEA
        rw [HSTEP.out]
        exact ⟨O5, hFr, hEA⟩
      clear HI hFr hEA hRw hkn
      cases gr with
      | true =>
        go_wp2_with fail
        refine ⟨rfl, rfl, ⟨rfl, rfl, i + 1, by omega, ?_, ?_, HI'⟩, ?_⟩
        · rw [HANY.out]; rfl
        · show Value.int .i64 _ = _
          go_num
        · show (headsOf p s).length - (intOf (Value.int .i64 _)).toNat < (headsOf p s).length - (intOf (f 7)).toNat
          rw [H7.out]
          simp [intOf]; omega
      | false =>
        go_wp2_with fail
        refine ⟨rfl, rfl, ⟨rfl, rfl, i + 1, by omega, ?_, ?_, HI'⟩, ?_⟩
        · rw [HANY.out]
          show Value.bool _ = Value.bool _
          congr 1
          cases N with
          | nil => rfl
          | cons t N => simp; try omega
        · show Value.int .i64 _ = _
          go_num
        · show (headsOf p s).length - (intOf (Value.int .i64 _)).toNat < (headsOf p s).length - (intOf (f 7)).toNat
          rw [H7.out]
          simp [intOf]; omega
  · obtain rfl : i = (headsOf p s).length := by omega
    have hin' : ¬ (((headsOf p s).length : Int) < ((headsOf p s).length : Int)) := by omega
    rw [List.take_of_length_le (Nat.le_refl _)] at hEA ⊢
    have HP : Hid (Q (.returned (.tuple #[.bool (anyN S (headsOf p s)), .int .i64 0])) V) := by
      show Q _ _
      rw [HQ.out]
      exact ⟨rfl, O1, hFr, hEA⟩
    clear HI hFr hEA
    go_wp2_with fail
    try go_ret2
    exact HP.out
end Go.Proofs.Qxb6500788a
