
import Derived.Test.Qxb6500787aGreatUj
import Derived.StillTailTactics
import Derived.Deep.QuietTactic
import Derived.BigQuiet
import Derived.Deep.RegionHeld
import Derived.Deep.CutRange
import Derived.Laws.ResultCell
import Derived.Laws.Rows
import Derived.DeepKeys
import Derived.DataBytes
import Derived.Laws.StructEq
import Derived.Laws.AppendOwn
import Derived.Laws.MakeOwn
import Derived.Lib.AppendStr
set_option linter.unusedSimpArgs false
set_option linter.unusedVariables false
namespace Go.Proofs.Qxb6500787aGreat
open Go.RowKit Go.Blk
attribute [local go_sem ↓] execOp_load execOp_store execOp_alloc
attribute [local go_sem] Tryz.ld26 Tryz.st26 Tryz.ld27 Tryz.st27 Tryz.ld28 Tryz.st28 Tryz.ld3 Tryz.st3 Tryz.ld29 Tryz.st29 Tryz.ld44 Tryz.st44 Tryz.ld4 Tryz.st4 Tryz.ld50 Tryz.st50 Tryz.ld32 Tryz.st32 Tryz.ld49 Tryz.st49 Tryz.ld68 Tryz.st68 Tryz.ld9 Tryz.st9 Tryz.ld40 Tryz.st40 Tryz.ld138 Tryz.st138 Tryz.ld139 Tryz.st139 Tryz.ld146 Tryz.st146 Tryz.ld183 Tryz.st183 Tryz.ld184 Tryz.st184 Tryz.ld192 Tryz.st192 Tryz.ld195 Tryz.st195 Tryz.ld217 Tryz.st217 Tryz.ld159 Tryz.st159 Tryz.ld142 Tryz.st142 Tryz.ld2 Tryz.st2 Tryz.ld5 Tryz.st5 Tryz.ld12 Tryz.st12 Tryz.ld21 Tryz.st21 Tryz.ld22 Tryz.st22 Tryz.ld24 Tryz.st24 Tryz.ld58 Tryz.st58 Tryz.ld97 Tryz.st97 Tryz.ld101 Tryz.st101 Tryz.ld116 Tryz.st116 Tryz.ld121 Tryz.st121 Tryz.ld135 Tryz.st135 Tryz.ld136 Tryz.st136 Tryz.ld143 Tryz.st143 Tryz.ld148 Tryz.st148 Tryz.ld154 Tryz.st154 Tryz.ld173 Tryz.st173 Tryz.ld187 Tryz.st187 Tryz.ld222 Tryz.st222 Tryz.ld241 Tryz.st241 Tryz.ld248 Tryz.st248 Tryz.ld268 Tryz.st268 Tryz.ld272 Tryz.st272 Tryz.ld153 Tryz.st153 Tryz.ld255 Tryz.st255 Tryz.ld256 Tryz.st256 Tryz.ld129 Tryz.st129 Tryz.ld152 Tryz.st152 Tryz.ld31 Tryz.st31 Tryz.ld46 Tryz.st46 Tryz.ld52 Tryz.st52 Tryz.ld54 Tryz.st54 Tryz.ld60 Tryz.st60 Tryz.ld70 Tryz.st70 Tryz.ld74 Tryz.st74 Tryz.ld93 Tryz.st93 Tryz.ld141 Tryz.st141 Tryz.ld151 Tryz.st151 Tryz.ld170 Tryz.st170 Tryz.ld186 Tryz.st186 Tryz.ld189 Tryz.st189 Tryz.ld194 Tryz.st194 Tryz.ld197 Tryz.st197 Tryz.ld219 Tryz.st219 Tryz.ld224 Tryz.st224 Tryz.ld230 Tryz.st230 Tryz.ld235 Tryz.st235 Tryz.ld243 Tryz.st243 Tryz.ld247 Tryz.st247 Tryz.ld252 Tryz.st252 Tryz.ld258 Tryz.st258 Tryz.al153 Tryz.al255 Tryz.al256 Tryz.al129 Tryz.al152 Tryz.al31 Tryz.al46 Tryz.al52 Tryz.al54 Tryz.al60 Tryz.al70 Tryz.al74 Tryz.al93 Tryz.al141 Tryz.al151 Tryz.al170 Tryz.al186 Tryz.al189 Tryz.al194 Tryz.al197 Tryz.al219 Tryz.al224 Tryz.al230 Tryz.al235 Tryz.al243 Tryz.al247 Tryz.al252 Tryz.al258
attribute [local go_sem] Request.length_enc Request.ok_enc Request.all_get Request.all_set Request.kind_get Request.kind_set Request.blob_get Request.blob_set Request.items_get Request.items_set Request.pred_get Request.pred_set Request.slots_get Request.slots_set Trace.length_enc Trace.ok_enc Trace.all_get Trace.all_set Trace.op_get Trace.op_set Trace.calls_get Trace.calls_set Item.length_enc Item.ok_enc Item.all_get Item.all_set Item.del_get Item.del_set Item.pred_get Item.pred_set Item.args_get Item.args_set Reply.length_enc Reply.ok_enc Reply.all_get Reply.all_set Reply.code_get Reply.code_set Reply.kind_get Reply.kind_set Reply.index_get Reply.index_set Reply.yes_get Reply.yes_set Reply.preds_get Reply.preds_set Reply.rules_get Reply.rules_set Reply.arity_get Reply.arity_set Reply.rows_get Reply.rows_set Reply.fact_get Reply.fact_set Reply.fact_del_get Reply.fact_del_set Reply.fact_pred_get Reply.fact_pred_set Reply.fact_args_get Reply.fact_args_set GEntry.length_enc GEntry.ok_enc GEntry.all_get GEntry.all_set GEntry.seq_get GEntry.seq_set GEntry.kind_get GEntry.kind_set GEntry.code_get GEntry.code_set GOp.length_enc GOp.ok_enc GOp.all_get GOp.all_set GOp.kind_get GOp.kind_set GOp.raw_get GOp.raw_set Reader.length_enc Reader.ok_enc Reader.all_get Reader.all_set Reader.buf_get Reader.buf_set Reader.at__get Reader.at__set Slot.length_enc Slot.ok_enc Slot.all_get Slot.all_set Slot.bound_get Slot.bound_set Slot.name_get Slot.name_set Session.length_enc Session.ok_enc Session.all_get Session.all_set Session.svc_get Session.svc_set Session.buf_get Session.buf_set Session.closed_get Session.closed_set GProgram.length_enc GProgram.ok_enc GProgram.all_get GProgram.all_set GProgram.pool_get GProgram.pool_set GProgram.preds_get GProgram.preds_set GProgram.rules_get GProgram.rules_set GProgram.strata_get GProgram.strata_set PredInfo.length_enc PredInfo.ok_enc PredInfo.all_get PredInfo.all_set PredInfo.arity_get PredInfo.arity_set PredInfo.base_get PredInfo.base_set PredInfo.stratum_get PredInfo.stratum_set Change.length_enc Change.ok_enc Change.all_get Change.all_set Change.del_get Change.del_set Change.pred_get Change.pred_set Change.t_get Change.t_set Store.length_enc Store.ok_enc Store.all_get Store.all_set Store.names_get Store.names_set Store.arity_get Store.arity_set Store.rows_get Store.rows_set Src.length_enc Src.ok_enc Src.all_get Src.all_set Src.b_get Src.b_set Src.at__get Src.at__set Atom.length_enc Atom.ok_enc Atom.all_get Atom.all_set Atom.pred_get Atom.pred_set Atom.args_get Atom.args_set GRule.length_enc GRule.ok_enc GRule.all_get GRule.all_set GRule.head_get GRule.head_set GRule.body_get GRule.body_set GRule.head_pred_get GRule.head_pred_set GRule.head_args_get GRule.head_args_set Cert.length_enc Cert.ok_enc Cert.all_get Cert.all_set Cert.names_get Cert.names_set Cert.nodes_get Cert.nodes_set Fact.length_enc Fact.ok_enc Fact.all_get Fact.all_set Fact.pred_get Fact.pred_set Fact.t_get Fact.t_set Literal.length_enc Literal.ok_enc Literal.all_get Literal.all_set Literal.neg_get Literal.neg_set Literal.atom_get Literal.atom_set Literal.atom_pred_get Literal.atom_pred_set Literal.atom_args_get Literal.atom_args_set Engine.length_enc Engine.ok_enc Engine.all_get Engine.all_set Engine.prog_get Engine.prog_set Engine.st_get Engine.st_set SrcCertm.length_enc SrcCertm.ok_enc SrcCertm.all_get SrcCertm.all_set SrcCertm.b_get SrcCertm.b_set SrcCertm.at__get SrcCertm.at__set GNode.length_enc GNode.ok_enc GNode.all_get GNode.all_set GNode.rule_get GNode.rule_set GNode.pred_get GNode.pred_set GNode.vals_get GNode.vals_set GNode.refs_get GNode.refs_set Term.length_enc Term.ok_enc Term.all_get Term.all_set Term.var_get Term.var_set Term.n_get Term.n_set Env.length_enc Env.ok_enc Env.all_get Env.all_set Env.val_get Env.val_set Env.set_get Env.set_set
attribute [local go_sem] size_put size_ext blk_put free_put blk_alloc free_alloc blk_drew free_drew blk_ext free_ext lookOr_some putOr_some segAt_some cellAt_some storeIn_some put_put put_alloc_new length_arr ok_arr_u8 ok_arr_u32 ok_arr_u64 ok_arr_i64 ok_arr_sl cellsV_agg cellsV_int cellsV_bool cellsV_string cellsV_pointer cellsV_slice cellsV_sl ok_int ok_bool ok_string ok_pointer ok_slice ok_sl toList_arr seg_arr set_arr nth_splice nth_splice0 seg_splice seg_splice0 splice_splice splice_splice0 length_splice_if
attribute [local go_sem ↓] execOp_box
attribute [local go_sem] box_run nth_arr_u8 put_arr_u8 blk_drewN free_drewN put_drewN blk_raw free_raw
/-- What the verifier finds before it numbers the strata. -/
def verC (p : PP) : Int := if limB p = false then 24 else if p.rules.all (rlB p) = false then 25 else if p.rules.all (fun r => !(pI p r.head.pred).base) = false then 26 else if p.rules.all resB = false then 27 else 0
def VerR (p : PP) (code : Int) (p' : PP) : Prop := (verC p ≠ 0 ∧ code = verC p) ∨ (verC p = 0 ∧ ∃ res, StTo p.preds.length p.rules p.preds res ∧ ((res = none ∧ code = 28) ∨ ∃ ps, res = some ps ∧ ps.length = p.preds.length ∧ IB 63 ps ∧ code = 0 ∧ p' = ⟨p.pool, ps, p.rules, maxS ps⟩))
def VerPost (B : Nat) (O : Own) (W : World) (bp : Nat) (p : PP) (e : Ending) (V : World) : Prop := ∃ code p' O', e = .returned (.int .i64 code) ∧ VerR p code p' ∧ Fr isP O W O' V ∧ (code = 0 → ∃ Ce, PgA B O' V bp Ce p')
theorem atB_pred {p : PP} {a : PA} (h : atB p a = true) : a.pred < p.preds.length := by
  unfold atB at h
  rw [Bool.and_eq_true] at h
  exact of_decide_eq_true h.1
theorem limB_lens {p : PP} (h : limB p = true) : p.pool.length ≤ 256 ∧ p.preds.length ≤ 64 ∧ p.rules.length ≤ 128 ∧ (∀ x ∈ p.preds, x.arity ≤ 4) ∧ ∀ r ∈ p.rules, r.body.length ≤ 8 := by
  unfold limB at h
  simp only [Bool.and_eq_true, decide_eq_true_eq, List.all_eq_true] at h
  exact ⟨h.1, h.2.1, h.2.2.1, h.2.2.2.1, h.2.2.2.2⟩
theorem rlB_ok {p : PP} {r : PR} (h : rlB p r = true) : atB p r.head = true ∧ ∀ l ∈ r.body, atB p l.atom = true := by
  unfold rlB at h
  simp only [Bool.and_eq_true, List.all_eq_true] at h
  exact h
def veI (B : Nat) (O : Own) (W : World) (bp : Nat) (Ce : List Value) (p : PP) (nr : Nat) (s : Nat) (P : PR → Bool) (f : Nat → Value) (V : World) : Prop := f 0 = .pointer (some ⟨bp, 0, none⟩) ∧ ∃ i : Nat, i ≤ nr ∧ f s = .int .i64 (i : Nat) ∧ Hid (∃ O', Fr isP O W O' V ∧ PgA B O' V bp Ce p ∧ ∀ j, j < i → ∀ r, p.rules[j]? = some r → P r = true)
theorem PgA.grow {B : Nat} {O : Own} {V V' : World} {bp : Nat} {Ce : List Value} {p : PP} (h : PgA B O V bp Ce p) (hx : V.Extends V') : PgA B (lab O V.heap.size .no) V' bp Ce p := h.fr (Fr.grow (L := fun _ => False) hx) (fun e => e) (fun e => e) (fun e => e)
set_option maxRecDepth 100000 in
theorem frame74k (f : Nat → Value) : frameN 74 f = #[f 0, f 1, f 2, f 3, f 4, f 5, f 6, f 7, f 8, f 9, f 10, f 11, f 12, f 13, f 14, f 15, f 16, f 17, f 18, f 19, f 20, f 21, f 22, f 23, f 24, f 25, f 26, f 27, f 28, f 29, f 30, f 31, f 32, f 33, f 34, f 35, f 36, f 37, f 38, f 39, f 40, f 41, f 42, f 43, f 44, f 45, f 46, f 47, f 48, f 49, f 50, f 51, f 52, f 53, f 54, f 55, f 56, f 57, f 58, f 59, f 60, f 61, f 62, f 63, f 64, f 65, f 66, f 67, f 68, f 69, f 70, f 71, f 72, f 73] := by kernel_rfl
set_option maxRecDepth 40000 in
set_option maxHeartbeats 8000000 in
theorem verify_any {B : Nat} {O : Own} {W : World} {bp : Nat} {Ce : List Value} {p : PP} (h : PgA B O W bp Ce p) (hL : ∀ r ∈ p.rules, Lens r) (h0 : ∀ y ∈ p.preds, y.stratum = 0) : Calls Tryz.prog 24 #[.pointer (some ⟨bp, 0, none⟩)] W (VerPost B O W bp p) := by
  obtain ⟨Q, hQ⟩ : ∃ Q, Q = VerPost B O W bp p := ⟨_, rfl⟩
  rw [← hQ]
  have HQ := hid_of hQ
  have HA := hid_of h
  have HL := hid_of hL
  have H0 := hid_of h0
  obtain ⟨nr, hnr⟩ : ∃ nr, nr = p.rules.length := ⟨_, rfl⟩
  have HNR := hid_of hnr
  have hlim := limits_any h.progC
  have HBAD : Hid (∀ V O' cd, Fr isP O W O' V → verC p = cd → cd ≠ 0 → Q (.returned (.int .i64 cd)) V) := by
    intro V O' cd h1 h2 h3
    rw [HQ.out]
    exact ⟨cd, p, O', rfl, .inl ⟨by rw [h2]; exact h3, h2.symm⟩, h1, fun e => absurd e h3⟩
  obtain ⟨lb, hlb⟩ : ∃ lb, lb = limB p := ⟨_, rfl⟩
  rw [← hlb] at hlim
  have HLB := hid_of hlb
  have l1 : 1 < Ce.length := by rw [h.pk.len]; omega
  have l2 : 2 < Ce.length := by rw [h.pk.len]; omega
  clear hQ h hL h0 hnr hlb
  go_enter Tryz.func24, Tryz.ntmps24
  go_wp2_with fail
  refine hlim.mono ?_
  rintro e V1 ⟨rfl, e9⟩
  replace e9 := e9.symm
  subst e9
  clear hlim
  dsimp only
  cases hlb : lb with
  | false =>
    have HP := hid_of (HBAD.out W O 24 (Fr.refl _ _ _) (by unfold verC; rw [if_pos (by rw [← HLB.out]; exact hlb)]) (by decide))
    clear hlb HLB
    go_wp2_with fail
    try go_ret
    exact HP.out
  | true =>
  have hlt : limB p = true := by rw [← HLB.out]; exact hlb
  have HLT := hid_of (limB_lens hlt)
  have HV1 : Hid (verC p = if p.rules.all (rlB p) = false then 25 else if p.rules.all (fun r => !(pI p r.head.pred).base) = false then 26 else if p.rules.all resB = false then 27 else 0) := by
    show _ = _
    unfold verC
    rw [if_neg (by rw [hlt]; decide)]
  have hr128 : nr ≤ 128 := by rw [HNR.out]; exact HLT.out.2.2.1
  clear hlb hlt HLB
  have HI0 : Hid (∃ O', Fr isP O W O' W ∧ PgA B O' W bp Ce p ∧ ∀ j, j < 0 → ∀ r, p.rules[j]? = some r → rlB p r = true) := ⟨O, Fr.refl _ _ _, HA.out, fun j h => absurd h (Nat.not_lt_zero _)⟩
  go_upto_region 4 with fail
  refine wp_loop_f 74 (veI B O W bp Ce p nr 3 (rlB p)) (fun f _ => nr - (intOf (f 3)).toNat) rfl ⟨rfl, 0, by omega, rfl, HI0⟩ ?_
  clear HI0
  intro F V hrel
  obtain ⟨f0, i, hi, f3, HI⟩ := hrel
  have H3 := hid_of f3
  rw [frame74k, f0, f3]
  clear f0 f3
  obtain ⟨O2, hF, hA, hall⟩ := HI.out
  have hbp := hA.cell
  by_cases hin : i < nr
  · have hin' : (i : Int) < (nr : Int) := by omega
    have i0 : (0 : Int) ≤ (i : Int) := by omega
    have i2 : ((i : Int)).toNat = i := by omega
    obtain ⟨r, hr⟩ : ∃ r, p.rules[i]? = some r := ⟨_, List.getElem?_eq_getElem (by rw [← HNR.out]; exact hin)⟩
    obtain ⟨bR, CR, xr, rc, r1, r2, r3, r4, r5, r6, r7⟩ := hA.ruleAt hr
    have r8 : nth Ce 2 = some (.slice (some ⟨bR, 0, none⟩) nr rc) := by rw [HNR.out]; exact r1
    have hcall := atomsOK_any hA.progC xr r r6 (HL.out r (List.mem_of_getElem? hr))
    have rm : i * 3 + 3 ≤ CR.length := by omega
    have xo : okCells 3 xr.enc = true := GRule.ok_enc xr
    obtain ⟨ob, hob⟩ : ∃ ob, ob = rlB p r := ⟨_, rfl⟩
    rw [← hob] at hcall
    have HOB := hid_of hob
    have HR := hid_of hr
    have HF := hid_of hF
    have HAv := hid_of hA
    have HALL := hid_of hall
    clear HI hF hA hall hr r1 r3 r4 r5 r6 hob
    go_wp2_with fail
    refine hcall.mono ?_
    rintro e V2 ⟨rfl, hx2⟩
    dsimp only
    have hF2 := HF.out.trans (Fr.grow (L := isP) (O := O2) hx2)
    have hA2 := HAv.out.grow hx2
    clear hcall hx2
    cases ob with
    | true =>
      have HI' : Hid (∃ O', Fr isP O W O' V2 ∧ PgA B O' V2 bp Ce p ∧ ∀ j, j < i + 1 → ∀ r, p.rules[j]? = some r → rlB p r = true) := ⟨_, hF2, hA2, up1 HALL.out (fun y hy => by rw [HR.out] at hy; rw [← Option.some.inj hy]; exact HOB.out.symm)⟩
      clear hF2 hA2 HF HAv hbp r2 r7
      go_wp2_with fail
      refine ⟨rfl, rfl, ⟨rfl, i + 1, by omega, ?_, HI'⟩, ?_⟩
      · show Value.int .i64 _ = _
        go_num
      · show nr - (intOf (Value.int .i64 _)).toNat < nr - (intOf (F 3)).toNat
        rw [H3.out]
        simp [intOf]; omega
    | false =>
      have HP := hid_of (HBAD.out V2 _ 25 hF2 (by rw [HV1.out, if_pos (all_not HR.out HOB.out.symm)]) (by decide))
      clear hF2 hA2 HF HAv hbp r2 r7
      go_wp2_with fail
      try go_ret
      exact HP.out
  have hin' : ¬ (i : Int) < (nr : Int) := by omega
  have c2 : ∃ a c, nth Ce 2 = some (.slice a nr c) := by obtain ⟨a, c, _, g, _⟩ := hA.pk.rules; exact ⟨a, c, by rw [HNR.out]; exact g⟩
  obtain ⟨ra0, rc0, c2⟩ := c2
  have hal1 : p.rules.all (rlB p) = true := all_yes (fun j x hx => hall j (by have := (List.getElem?_eq_some_iff.1 hx).1; rw [← HNR.out] at this; omega) x hx)
  have HRL : Hid (∀ r ∈ p.rules, rlB p r = true) := fun r hr => List.all_eq_true.1 hal1 r hr
  have HV2 : Hid (verC p = if p.rules.all (fun r => !(pI p r.head.pred).base) = false then 26 else if p.rules.all resB = false then 27 else 0) := by
    show _ = _
    rw [HV1.out, if_neg (by rw [hal1]; decide)]
  have HI0 : Hid (∃ O', Fr isP O W O' V ∧ PgA B O' V bp Ce p ∧ ∀ j, j < 0 → ∀ r, p.rules[j]? = some r → (!(pI p r.head.pred).base) = true) := ⟨O2, hF, hA, fun j h => absurd h (Nat.not_lt_zero _)⟩
  clear HI hF hA hall hal1 HV1 H3
  go_upto_region 9 with fail
  clear hbp c2
  refine wp_loop_f 74 (veI B O W bp Ce p nr 4 (fun r => !(pI p r.head.pred).base)) (fun f _ => nr - (intOf (f 4)).toNat) rfl ⟨rfl, 0, by omega, rfl, HI0⟩ ?_
  clear HI0
  intro F V hrel
  obtain ⟨f0, i, hi, f4, HI⟩ := hrel
  have H4 := hid_of f4
  rw [frame74k, f0, f4]
  clear f0 f4
  obtain ⟨O2, hF, hA, hall⟩ := HI.out
  have hbp := hA.cell
  by_cases hin : i < nr
  · have hin' : (i : Int) < (nr : Int) := by omega
    have i0 : (0 : Int) ≤ (i : Int) := by omega
    have i2 : ((i : Int)).toNat = i := by omega
    obtain ⟨r, hr⟩ : ∃ r, p.rules[i]? = some r := ⟨_, List.getElem?_eq_getElem (by rw [← HNR.out]; exact hin)⟩
    obtain ⟨bR, CR, xr, rc, r1, r2, r3, r4, r5, r6, r7⟩ := hA.ruleAt hr
    have r8 : nth Ce 2 = some (.slice (some ⟨bR, 0, none⟩) nr rc) := by rw [HNR.out]; exact r1
    have hhp := atB_pred (rlB_ok (HRL.out r (List.mem_of_getElem? hr))).1
    obtain ⟨q, hq⟩ : ∃ q, q = r.head.pred := ⟨_, rfl⟩
    rw [← hq] at r4 hhp
    obtain ⟨g, C, c, g1, g2, g3, _, g5⟩ := hA.predAt (pI_at (p := p) hhp)
    obtain ⟨nd, hnd⟩ : ∃ nd, nd = p.preds.length := ⟨_, rfl⟩
    rw [← hnd] at g1 hhp
    have q0 : (0 : Int) ≤ (q : Int) := by omega
    have q1 : (q : Int) < (nd : Int) := by omega
    have q2 : ((q : Int)).toNat = q := by omega
    have rm : i * 3 < CR.length := by omega
    have gm : q * 3 + 1 < C.length := by omega
    obtain ⟨ob, hob⟩ : ∃ ob, ob = (pI p q).base := ⟨_, rfl⟩
    rw [← hob] at g5
    have HOB : Hid ((!(pI p r.head.pred).base) = !ob) := by rw [hob, hq]; exact hid_of rfl
    have HR := hid_of hr
    have HF := hid_of hF
    have HAv := hid_of hA
    have HALL := hid_of hall
    clear HI hF hA hall hr r1 r3 r5 r6 r7 hob hq hnd g3
    cases ob with
    | false =>
      have HI' : Hid (∀ k, ∃ O', Fr isP O W O' (V.drewN k) ∧ PgA B O' (V.drewN k) bp Ce p ∧ ∀ j, j < i + 1 → ∀ r, p.rules[j]? = some r → (!(pI p r.head.pred).base) = true) := fun k => ⟨_, HF.out.drewN k, HAv.out.drewN k, up1 HALL.out (fun y hy => by rw [HR.out] at hy; rw [← Option.some.inj hy, HOB.out]; rfl)⟩
      clear HF HAv HALL HOB
      go_upto_region 11 with fail
      go_quiet (fail)
      go_wp2_with fail
      refine ⟨rfl, rfl, ⟨rfl, i + 1, by omega, ?_, HI'.out _⟩, ?_⟩
      · show Value.int .i64 _ = _
        go_num
      · show nr - (intOf (Value.int .i64 _)).toNat < nr - (intOf (F 4)).toNat
        rw [H4.out]
        simp [intOf]; omega
    | true =>
      have HP : Hid (∀ k, Q (.returned (.int .i64 26)) (V.drewN k)) := fun k => HBAD.out (V.drewN k) _ 26 (HF.out.drewN k) (by rw [HV2.out, if_pos (all_not HR.out (by rw [HOB.out]; rfl))]) (by decide)
      clear HF HAv HALL HOB
      go_upto_region 11 with fail
      go_quiet (fail)
      go_wp2_with fail
      try go_ret
      exact HP.out _
  have hin' : ¬ (i : Int) < (nr : Int) := by omega
  have c2 : ∃ a c, nth Ce 2 = some (.slice a nr c) := by obtain ⟨a, c, _, g, _⟩ := hA.pk.rules; exact ⟨a, c, by rw [HNR.out]; exact g⟩
  obtain ⟨ra0, rc0, c2⟩ := c2
  have hal1 : p.rules.all (fun r => !(pI p r.head.pred).base) = true := all_yes (fun j x hx => hall j (by have := (List.getElem?_eq_some_iff.1 hx).1; rw [← HNR.out] at this; omega) x hx)
  have HV3 : Hid (verC p = if p.rules.all resB = false then 27 else 0) := by
    show _ = _
    rw [HV2.out, if_neg (by rw [hal1]; decide)]
  have HI0 : Hid (∃ O', Fr isP O W O' V ∧ PgA B O' V bp Ce p ∧ ∀ j, j < 0 → ∀ r, p.rules[j]? = some r → resB r = true) := ⟨O2, hF, hA, fun j h => absurd h (Nat.not_lt_zero _)⟩
  clear HI hF hA hall hal1 HV2 H4
  go_upto_region 14 with fail
  clear hbp c2
  refine wp_loop_f 74 (veI B O W bp Ce p nr 5 resB) (fun f _ => nr - (intOf (f 5)).toNat) rfl ⟨rfl, 0, by omega, rfl, HI0⟩ ?_
  clear HI0
  intro F V hrel
  obtain ⟨f0, i, hi, f5, HI⟩ := hrel
  have H5 := hid_of f5
  rw [frame74k, f0, f5]
  clear f0 f5
  obtain ⟨O2, hF, hA, hall⟩ := HI.out
  have hbp := hA.cell
  by_cases hin : i < nr
  · have hin' : (i : Int) < (nr : Int) := by omega
    have i0 : (0 : Int) ≤ (i : Int) := by omega
    have i2 : ((i : Int)).toNat = i := by omega
    obtain ⟨r, hr⟩ : ∃ r, p.rules[i]? = some r := ⟨_, List.getElem?_eq_getElem (by rw [← HNR.out]; exact hin)⟩
    obtain ⟨bR, CR, xr, rc, r1, r2, r3, r4, r5, r6, r7⟩ := hA.ruleAt hr
    have r8 : nth Ce 2 = some (.slice (some ⟨bR, 0, none⟩) nr rc) := by rw [HNR.out]; exact r1
    have hcall := restricted_any V xr r r6 (HL.out r (List.mem_of_getElem? hr))
    have rm : i * 3 + 3 ≤ CR.length := by omega
    have xo : okCells 3 xr.enc = true := GRule.ok_enc xr
    obtain ⟨ob, hob⟩ : ∃ ob, ob = resB r := ⟨_, rfl⟩
    rw [← hob] at hcall
    have HOB := hid_of hob
    have HR := hid_of hr
    have HF := hid_of hF
    have HAv := hid_of hA
    have HALL := hid_of hall
    clear HI hF hA hall hr r1 r3 r4 r5 r6 hob
    go_wp2_with fail
    refine hcall.mono ?_
    rintro e V2 ⟨rfl, hx2⟩
    dsimp only
    have hF2 := HF.out.trans (Fr.grow (L := isP) (O := O2) hx2)
    have hA2 := HAv.out.grow hx2
    clear hcall hx2
    cases ob with
    | true =>
      have HI' : Hid (∃ O', Fr isP O W O' V2 ∧ PgA B O' V2 bp Ce p ∧ ∀ j, j < i + 1 → ∀ r, p.rules[j]? = some r → resB r = true) := ⟨_, hF2, hA2, up1 HALL.out (fun y hy => by rw [HR.out] at hy; rw [← Option.some.inj hy]; exact HOB.out.symm)⟩
      clear hF2 hA2 HF HAv hbp r2 r7
      go_wp2_with fail
      refine ⟨rfl, rfl, ⟨rfl, i + 1, by omega, ?_, HI'⟩, ?_⟩
      · show Value.int .i64 _ = _
        go_num
      · show nr - (intOf (Value.int .i64 _)).toNat < nr - (intOf (F 5)).toNat
        rw [H5.out]
        simp [intOf]; omega
    | false =>
      have HP := hid_of (HBAD.out V2 _ 27 hF2 (by rw [HV3.out, if_pos (all_not HR.out HOB.out.symm)]) (by decide))
      clear hF2 hA2 HF HAv hbp r2 r7
      go_wp2_with fail
      try go_ret
      exact HP.out
  have hin' : ¬ (i : Int) < (nr : Int) := by omega
  have c2 : ∃ a c, nth Ce 2 = some (.slice a nr c) := by obtain ⟨a, c, _, g, _⟩ := hA.pk.rules; exact ⟨a, c, by rw [HNR.out]; exact g⟩
  obtain ⟨ra0, rc0, c2⟩ := c2
  have hal1 : p.rules.all resB = true := all_yes (fun j x hx => hall j (by have := (List.getElem?_eq_some_iff.1 hx).1; rw [← HNR.out] at this; omega) x hx)
  have HV4 : Hid (verC p = 0) := by
    show _ = _
    rw [HV3.out, if_neg (by rw [hal1]; decide)]
  have hsane : Sane p := ⟨HLT.out.2.1, HLT.out.2.2.1, fun r hr => ⟨atB_pred (rlB_ok (HRL.out r hr)).1, HLT.out.2.2.2.2 r hr, fun l hl => atB_pred ((rlB_ok (HRL.out r hr)).2 l hl)⟩, H0.out⟩
  have hcall := stratify_any hA hsane
  have HF := hid_of hF
  clear HI hF hA hall hal1 HV3 H5 hsane
  go_wp2_with fail
  refine hcall.mono ?_
  rintro e V2 ⟨res, hst, hF2, hres⟩
  have hF3 := HF.out.trans hF2
  rcases hres with ⟨rfl, rfl⟩ | ⟨ps, rfl, hpl, hib, rfl, Cf, hAf⟩
  · have HP : Hid (Q (.returned (.int .i64 28)) V2) := by
      show Q _ _
      rw [HQ.out]
      exact ⟨28, p, O2, rfl, .inr ⟨HV4.out, none, hst, .inl ⟨rfl, rfl⟩⟩, hF3, fun e => absurd e (by decide)⟩
    clear hcall hst hF2 hF3 HF hbp c2
    dsimp only
    go_wp2_with fail
    try go_ret
    exact HP.out
  · have HP : Hid (Q (.returned (.int .i64 0)) V2) := by
      show Q _ _
      rw [HQ.out]
      exact ⟨0, _, O2, rfl, .inr ⟨HV4.out, some ps, hst, .inr ⟨ps, rfl, hpl, hib, rfl, rfl⟩⟩, hF3, fun _ => ⟨Cf, hAf⟩⟩
    clear hcall hst hF2 hF3 HF hbp c2 hAf hpl hib
    dsimp only
    go_wp2_with fail
    try go_ret
    exact HP.out
end Go.Proofs.Qxb6500787aGreat
