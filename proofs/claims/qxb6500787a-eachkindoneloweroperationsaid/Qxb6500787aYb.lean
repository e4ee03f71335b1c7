import Derived.Test.Qxb6500787aYa
import Derived.StillTailTactics
import Derived.Deep.QuietTactic
import Derived.BigQuiet
import Derived.Deep.RegionHeld
import Derived.Deep.CutRange
import Derived.Laws.ResultCell
import Derived.Laws.Rows
import Derived.DeepKeys
import Derived.DataBytes
import Derived.Laws.StructEq
import Derived.Laws.AppendOwn
import Derived.Laws.MakeOwn
import Derived.Lib.AppendStr
set_option linter.unusedSimpArgs false
set_option linter.unusedVariables false
namespace Go.Proofs.Qxb6500787a
open Go.RowKit Go.Blk
attribute [local go_sem ↓] execOp_load execOp_store execOp_alloc
attribute [local go_sem] Try.ld26 Try.st26 Try.ld27 Try.st27 Try.ld28 Try.st28 Try.ld3 Try.st3 Try.ld29 Try.st29 Try.ld44 Try.st44 Try.ld4 Try.st4 Try.ld50 Try.st50 Try.ld32 Try.st32 Try.ld49 Try.st49 Try.ld68 Try.st68 Try.ld9 Try.st9 Try.ld40 Try.st40 Try.ld138 Try.st138 Try.ld139 Try.st139 Try.ld146 Try.st146 Try.ld183 Try.st183 Try.ld184 Try.st184 Try.ld192 Try.st192 Try.ld195 Try.st195 Try.ld217 Try.st217 Try.ld159 Try.st159 Try.ld142 Try.st142 Try.ld2 Try.st2 Try.ld5 Try.st5 Try.ld12 Try.st12 Try.ld21 Try.st21 Try.ld22 Try.st22 Try.ld24 Try.st24 Try.ld58 Try.st58 Try.ld63 Try.st63 Try.ld97 Try.st97 Try.ld101 Try.st101 Try.ld116 Try.st116 Try.ld121 Try.st121 Try.ld135 Try.st135 Try.ld136 Try.st136 Try.ld143 Try.st143 Try.ld148 Try.st148 Try.ld154 Try.st154 Try.ld173 Try.st173 Try.ld187 Try.st187 Try.ld222 Try.st222 Try.ld241 Try.st241 Try.ld248 Try.st248 Try.ld268 Try.st268 Try.ld272 Try.st272 Try.ld153 Try.st153 Try.ld255 Try.st255 Try.ld256 Try.st256 Try.ld129 Try.st129 Try.ld152 Try.st152 Try.ld31 Try.st31 Try.ld46 Try.st46 Try.ld52 Try.st52 Try.ld54 Try.st54 Try.ld60 Try.st60 Try.ld70 Try.st70 Try.ld74 Try.st74 Try.ld93 Try.st93 Try.ld119 Try.st119 Try.ld141 Try.st141 Try.ld151 Try.st151 Try.ld170 Try.st170 Try.ld186 Try.st186 Try.ld189 Try.st189 Try.ld194 Try.st194 Try.ld197 Try.st197 Try.ld219 Try.st219 Try.ld224 Try.st224 Try.ld230 Try.st230 Try.ld235 Try.st235 Try.ld243 Try.st243 Try.ld247 Try.st247 Try.ld252 Try.st252 Try.ld258 Try.st258 Try.al153 Try.al255 Try.al256 Try.al129 Try.al152 Try.al31 Try.al46 Try.al52 Try.al54 Try.al60 Try.al70 Try.al74 Try.al93 Try.al119 Try.al141 Try.al151 Try.al170 Try.al186 Try.al189 Try.al194 Try.al197 Try.al219 Try.al224 Try.al230 Try.al235 Try.al243 Try.al247 Try.al252 Try.al258
attribute [local go_sem] Request.length_enc Request.ok_enc Request.all_get Request.all_set Request.kind_get Request.kind_set Request.blob_get Request.blob_set Request.items_get Request.items_set Request.pred_get Request.pred_set Request.slots_get Request.slots_set Trace.length_enc Trace.ok_enc Trace.all_get Trace.all_set Trace.op_get Trace.op_set Trace.calls_get Trace.calls_set Item.length_enc Item.ok_enc Item.all_get Item.all_set Item.del_get Item.del_set Item.pred_get Item.pred_set Item.args_get Item.args_set Reply.length_enc Reply.ok_enc Reply.all_get Reply.all_set Reply.code_get Reply.code_set Reply.kind_get Reply.kind_set Reply.index_get Reply.index_set Reply.yes_get Reply.yes_set Reply.preds_get Reply.preds_set Reply.rules_get Reply.rules_set Reply.arity_get Reply.arity_set Reply.rows_get Reply.rows_set Reply.fact_get Reply.fact_set Reply.fact_del_get Reply.fact_del_set Reply.fact_pred_get Reply.fact_pred_set Reply.fact_args_get Reply.fact_args_set GEntry.length_enc GEntry.ok_enc GEntry.all_get GEntry.all_set GEntry.seq_get GEntry.seq_set GEntry.kind_get GEntry.kind_set GEntry.code_get GEntry.code_set GOp.length_enc GOp.ok_enc GOp.all_get GOp.all_set GOp.kind_get GOp.kind_set GOp.raw_get GOp.raw_set Reader.length_enc Reader.ok_enc Reader.all_get Reader.all_set Reader.buf_get Reader.buf_set Reader.at__get Reader.at__set Slot.length_enc Slot.ok_enc Slot.all_get Slot.all_set Slot.bound_get Slot.bound_set Slot.name_get Slot.name_set Session.length_enc Session.ok_enc Session.all_get Session.all_set Session.svc_get Session.svc_set Session.buf_get Session.buf_set Session.closed_get Session.closed_set GProgram.length_enc GProgram.ok_enc GProgram.all_get GProgram.all_set GProgram.pool_get GProgram.pool_set GProgram.preds_get GProgram.preds_set GProgram.rules_get GProgram.rules_set GProgram.strata_get GProgram.strata_set PredInfo.length_enc PredInfo.ok_enc PredInfo.all_get PredInfo.all_set PredInfo.arity_get PredInfo.arity_set PredInfo.base_get PredInfo.base_set PredInfo.stratum_get PredInfo.stratum_set Change.length_enc Change.ok_enc Change.all_get Change.all_set Change.del_get Change.del_set Change.pred_get Change.pred_set Change.t_get Change.t_set Store.length_enc Store.ok_enc Store.all_get Store.all_set Store.names_get Store.names_set Store.arity_get Store.arity_set Store.rows_get Store.rows_set Src.length_enc Src.ok_enc Src.all_get Src.all_set Src.b_get Src.b_set Src.at__get Src.at__set Atom.length_enc Atom.ok_enc Atom.all_get Atom.all_set Atom.pred_get Atom.pred_set Atom.args_get Atom.args_set GRule.length_enc GRule.ok_enc GRule.all_get GRule.all_set GRule.head_get GRule.head_set GRule.body_get GRule.body_set GRule.head_pred_get GRule.head_pred_set GRule.head_args_get GRule.head_args_set Cert.length_enc Cert.ok_enc Cert.all_get Cert.all_set Cert.names_get Cert.names_set Cert.nodes_get Cert.nodes_set Fact.length_enc Fact.ok_enc Fact.all_get Fact.all_set Fact.pred_get Fact.pred_set Fact.t_get Fact.t_set Literal.length_enc Literal.ok_enc Literal.all_get Literal.all_set Literal.neg_get Literal.neg_set Literal.atom_get Literal.atom_set Literal.atom_pred_get Literal.atom_pred_set Literal.atom_args_get Literal.atom_args_set Engine.length_enc Engine.ok_enc Engine.all_get Engine.all_set Engine.prog_get Engine.prog_set Engine.st_get Engine.st_set SrcCertm.length_enc SrcCertm.ok_enc SrcCertm.all_get SrcCertm.all_set SrcCertm.b_get SrcCertm.b_set SrcCertm.at__get SrcCertm.at__set GNode.length_enc GNode.ok_enc GNode.all_get GNode.all_set GNode.rule_get GNode.rule_set GNode.pred_get GNode.pred_set GNode.vals_get GNode.vals_set GNode.refs_get GNode.refs_set Term.length_enc Term.ok_enc Term.all_get Term.all_set Term.var_get Term.var_set Term.n_get Term.n_set Env.length_enc Env.ok_enc Env.all_get Env.all_set Env.val_get Env.val_set Env.set_get Env.set_set
attribute [local go_sem] size_put size_ext blk_put free_put blk_alloc free_alloc blk_drew free_drew blk_ext free_ext lookOr_some putOr_some segAt_some cellAt_some storeIn_some put_put put_alloc_new length_arr ok_arr_u8 ok_arr_u32 ok_arr_u64 ok_arr_i64 ok_arr_sl cellsV_agg cellsV_int cellsV_bool cellsV_string cellsV_pointer cellsV_slice cellsV_sl ok_int ok_bool ok_string ok_pointer ok_slice ok_sl toList_arr seg_arr set_arr nth_splice nth_splice0 seg_splice seg_splice0 splice_splice splice_splice0 length_splice_if
attribute [local go_sem ↓] execOp_box
attribute [local go_sem] box_run nth_arr_u8 put_arr_u8 blk_drewN free_drewN put_drewN blk_raw free_raw
theorem dsR.some {s s' : Sv} {q : Rq} {r : PRep} (h : dsR s q r s') {t : InsS} (ht : s.inst = some t) : s'.inst.isSome = true := by
  rcases h with ⟨hk, rep, hP, rfl⟩ | ⟨hk, hn, rfl, rfl⟩ | ⟨t', ht', h⟩
  · rcases hP with ⟨-, -, rfl⟩ | ⟨h0, vc, p', hv, ⟨-, -, rfl⟩ | ⟨rfl, P, hF, ⟨-, -, rfl⟩ | ⟨-, -, rfl⟩⟩⟩
    · show s.inst.isSome = true; rw [ht]; rfl
    · show s.inst.isSome = true; rw [ht]; rfl
    · show s.inst.isSome = true; rw [ht]; rfl
    · rfl
  · rw [ht]; rfl
  · rcases h with ⟨hk, rep, hP, rfl⟩ | ⟨hk, rep, hP, rfl⟩ | ⟨hk, rep, hP, rfl⟩ | ⟨hk, rep, hP, rfl⟩ | ⟨hk, rfl, e⟩ | ⟨hk, rfl, e⟩
    · rcases hP with ⟨-, -, rfl⟩ | ⟨-, mc, t1, co, hm, ⟨-, -, rfl⟩ | ⟨-, ⟨-, -, rfl⟩ | ⟨-, code, ix, R', hB, ⟨-, -, rfl⟩ | ⟨-, -, rfl⟩⟩⟩⟩
      · rw [ht]; rfl
      all_goals rfl
    · rcases hP with ⟨-, -, rfl⟩ | ⟨-, code, ix, R', hB, ⟨-, -, rfl⟩ | ⟨-, -, rfl⟩⟩
      · rw [ht]; rfl
      all_goals rfl
    · rcases hP with ⟨c, i, hk, -, rfl⟩ | ⟨-, mc, t1, co, hm, ⟨-, -, rfl⟩ | ⟨-, ⟨-, -, rfl⟩ | ⟨-, code, ix, R', hB, ⟨-, -, rfl⟩ | ⟨-, -, rfl⟩⟩⟩⟩
      · rw [ht]; rfl
      all_goals rfl
    · have e : s' = (qyF s t' (itP q) (itA q)).2 := congrArg Prod.snd hP
      rw [e]; unfold qyF
      by_cases h9 : crF t'.p (itP q) (itA q).length ≠ 0
      · rw [if_pos h9, ht]; rfl
      · rw [if_neg h9]; show s.inst.isSome = true; rw [ht]; rfl
    · rw [e]
      by_cases h9 : crF t'.p q.pred.toNat q.slots.length ≠ 0
      · rw [if_pos h9, ht]; rfl
      · rw [if_neg h9]; rfl
    · rw [e]; rfl
/-- Law 5, plainly. -/
structure NpL (s s' : Sv) (raw : List UInt8) (q : PRep) : Prop where
  early : s.inst.isSome = false → (decF raw).1 = 0 → (decF raw).2.kind ≠ 1 → q = prZ 10 (decF raw).2.kind (-1) ∧ s'.inst.isSome = false
  late : (decF raw).1 ≠ 0 ∨ (decF raw).2.kind = 1 ∨ s.inst.isSome = true → q.code ≠ 10
  bad : (decF raw).1 ≠ 0 → s'.inst.isSome = s.inst.isSome
  ld : (decF raw).1 = 0 → (decF raw).2.kind = 1 → s'.inst.isSome = (s.inst.isSome || decide (q.code = 0))
  on : s.inst.isSome = true → s'.inst.isSome = true
theorem npl_of {s s' : Sv} {m : Int} (hI : SvI m s) {raw : List UInt8} (hr : raw.length ≤ 65536) {q : PRep} (h : svR s raw q s') : NpL s s' raw q := by
  obtain ⟨s1, h, rfl⟩ := h
  have hin : (s1.fil q.kind q.code).inst = s1.inst := rfl
  have hk := h
  rcases h with ⟨h0, rfl, rfl⟩ | ⟨h0, h⟩
  · refine ⟨fun _ e => absurd e h0, fun _ => (decF_cd raw).2.2, fun _ => rfl, fun e => absurd e h0, fun e => e⟩
  · have hw := decF_wf hr h0
    have hIc : ∀ t, s.clr.inst = some t → InG t := fun t ht => hI.ins t ht
    have hkk := dsR.k (s := s.clr) hw hIc h
    refine ⟨fun e1 _ e2 => ?_, fun e => ?_, fun e => absurd h0 e, fun _ e => ?_, fun e => ?_⟩
    · have hn : s.inst = none := by cases hx : s.inst with
        | none => rfl
        | some t => rw [hx] at e1; cases e1
      rcases h with ⟨e, -⟩ | ⟨-, -, h2, h3⟩ | ⟨t, ht, -⟩
      · exact absurd e e2
      · refine ⟨h2, ?_⟩
        rw [hin, h3]
        show s.inst.isSome = false
        rw [hn]; rfl
      · have ht' : s.inst = some t := ht
        rw [hn] at ht'; cases ht'
    · rcases hkk with ⟨h1, h2, -, -⟩ | h1
      · rcases e with e | e | e
        · exact absurd h0 e
        · exact absurd e h2
        · have h1' : s.inst = none := h1
          rw [h1'] at e; cases e
      · exact h1.code.2.2
    · rcases h with ⟨-, rep, hP, rfl⟩ | ⟨e2, -⟩ | ⟨t, ht, h⟩
      · rw [hin]
        rcases hP with ⟨h1, rfl, rfl⟩ | ⟨h1, vc, p', hv, ⟨h2, rfl, rfl⟩ | ⟨rfl, P, hF, ⟨-, rfl, rfl⟩ | ⟨-, rfl, rfl⟩⟩⟩
        · show s.inst.isSome = (s.inst.isSome || decide ((decP (decF raw).2.blob).1 = 0))
          rw [decide_eq_false h1, Bool.or_false]
        · show s.inst.isSome = (s.inst.isSome || decide (vc = 0))
          rw [decide_eq_false h2, Bool.or_false]
        · show s.inst.isSome = (s.inst.isSome || decide ((16 : Int) = 0))
          rw [decide_eq_false (by decide), Bool.or_false]
        · show true = (s.inst.isSome || decide ((0 : Int) = 0))
          rw [decide_eq_true rfl, Bool.or_true]
      · exact absurd e e2
      · rcases h with ⟨hk', -⟩ | ⟨hk', -⟩ | ⟨hk', -⟩ | ⟨hk', -⟩ | ⟨hk', -⟩ | ⟨hk', -⟩ <;> (rw [e] at hk'; cases hk')
    · cases hx : s.inst with
      | none => rw [hx] at e; cases e
      | some t => exact dsR.some (s := s.clr) (s' := s1) h hx
theorem bI_w8 {v : Int} {k : Nat} (h : v = (k : Int)) (hk : k ≤ 255) : w8 (bI v) = (k : Int) := by
  unfold bI w8
  rw [h, Int.toNat_natCast, UInt8.toNat_ofNat', Nat.mod_eq_of_lt (by omega)]
/-- The first two bytes of a reply. -/
theorem rep_two {W : World} {a : Option Addr} {n : Nat} {q : PRep} (h : Bs W a n (encR' q)) {kd cd : Nat} (hk : q.kind = (kd : Int)) (hc : q.code = (cd : Int)) (hk8 : kd ≤ 255) (hc43 : cd ≤ 255) : ∃ b o C, a = some ⟨b, o, none⟩ ∧ blk W b = some C ∧ o + 2 ≤ C.length ∧ nth C o = some (.int .u8 (cd : Int)) ∧ nth C (o + 1) = some (.int .u8 (kd : Int)) ∧ 2 ≤ n := by
  have hl : (encR' q).length = n := h.1
  have h2 : 2 ≤ n := by rw [← hl]; unfold encR'; rw [List.length_append]; simp
  obtain ⟨b, o, C, x, e1, e2, e3, e4, e5⟩ := h.get (i := 0) (by omega)
  obtain ⟨b', o', C', x', e1', e2', e3', e4', e5'⟩ := h.get (i := 1) (by omega)
  have eq := Option.some.inj (e1.symm.trans e1')
  have eb : b = b' := congrArg Addr.block eq
  have eo : o = o' := congrArg Addr.off eq
  subst eb eo
  have ec : C = C' := Option.some.inj (e2.symm.trans e2')
  subst ec
  have x0 : x = bI q.code := (Option.some.inj e4).symm
  have x1 : x' = bI q.kind := (Option.some.inj e4').symm
  refine ⟨b, o, C, e1, e2, by omega, ?_, ?_, h2⟩
  · rw [Nat.add_zero] at e5
    rw [e5, x0, bI_w8 hc hc43]
  · rw [e5', x1, bI_w8 hk hk8]
def n5I (Ob : Own) (Wb : World) (bs : Nat) (A : Option Addr) (N Cp : Nat) (f : Nat → Value) (V : World) : Prop := f 3 = .pointer (some ⟨bs, 0, none⟩) ∧ f 4 = .slice A N Cp ∧ ∃ (i : Nat) (ld : Bool), i ≤ N ∧ f 5 = .bool ld ∧ f 6 = .int .i64 (i : Nat) ∧ Hid (∃ s O g, LS Ob Wb bs (1000 + 10 * (i : Int)) s O g V ∧ s.inst.isSome = ld)
attribute [local go_sem] rq_all rq_ok rq_put
set_option maxRecDepth 100000 in
theorem frame88n (f : Nat → Value) : frameN 88 f = #[f 0, f 1, f 2, f 3, f 4, f 5, f 6, f 7, f 8, f 9, f 10, f 11, f 12, f 13, f 14, f 15, f 16, f 17, f 18, f 19, f 20, f 21, f 22, f 23, f 24, f 25, f 26, f 27, f 28, f 29, f 30, f 31, f 32, f 33, f 34, f 35, f 36, f 37, f 38, f 39, f 40, f 41, f 42, f 43, f 44, f 45, f 46, f 47, f 48, f 49, f 50, f 51, f 52, f 53, f 54, f 55, f 56, f 57, f 58, f 59, f 60, f 61, f 62, f 63, f 64, f 65, f 66, f 67, f 68, f 69, f 70, f 71, f 72, f 73, f 74, f 75, f 76, f 77, f 78, f 79, f 80, f 81, f 82, f 83, f 84, f 85, f 86, f 87] := by kernel_rfl
set_option maxRecDepth 40000 in
set_option maxHeartbeats 1000000 in
theorem nopol_walk (w : World) (a : Option Addr) (len cap : Nat) (g : Nat → GOp) (dt : Nat → List UInt8) (hS : ScriptAt w a len cap g dt) : Calls Try.prog 5 #[.slice a len cap] w fun e w' => e = .returned (.bool true) ∧ w.Extends w' := by
  have HS : Hid (ScriptAt w a len cap g dt) := hS
  have hS0 := hS
  clear hS
  go_enter Try.func5, Try.ntmps5
  go_wp2_with fail
  refine (small_any w a len cap g dt hS0).mono ?_
  rintro e w1 ⟨⟨r, rfl, hr⟩, rfl⟩
  clear hS0
  dsimp only
  cases r
  · go_wp2_with fail
    go_ret
    exact ⟨rfl, ext_Ext (Ext.refl _)⟩
  obtain ⟨hlen, hsz⟩ := hr rfl
  have HSZ : Hid (∀ i, i < len → (g i).raw.len ≤ 65536) := hsz
  clear hr hsz
  go_wp2_with fail
  refine (new_any w1).mono ?_
  rintro e w2 ⟨rfl, e2⟩
  dsimp only
  have HS2 : Hid (ScriptAt w2 a len cap g dt) := by
    show ScriptAt _ _ _ _ _ _
    rw [e2]
    exact HS.out.mono (extends_alloc (ext_Ext (Ext.refl _)) _)
  have HE2 := hid_of e2
  clear e2
  go_wp2_with fail
  refine (sends_any w2 a len cap g dt HS2.out hlen).mono ?_
  rintro e W1 ⟨A, N, Cp, L, rfl, hat⟩
  dsimp only
  rw [HE2.out] at hat
  have hbeg := beg_of HS.out hlen HSZ.out hat
  obtain ⟨bs, ebs⟩ : ∃ bs, bs = w1.heap.size := ⟨_, rfl⟩
  rw [← ebs] at hbeg ⊢
  obtain ⟨Ob, hOb⟩ : ∃ Ob, Ob = lab (lab (fun _ => Lab.no) bs (.a 0 0)) (bs + 1) .no := ⟨_, rfl⟩
  rw [← hOb] at hbeg
  have HBEG := hid_of hbeg
  have hN : N ≤ 65536 := hbeg.nn
  clear hat hbeg ebs hOb HS2 HE2 HSZ
  go_upto_region 7 with fail
  refine wp_loop_f 88 (n5I Ob W1 bs A N Cp) (fun f _ => N - (intOf (f 6)).toNat) rfl ⟨rfl, rfl, 0, false, by omega, rfl, rfl, ⟨Sv.zero, Ob, 0, HBEG.out.ls, rfl⟩⟩ ?_
  intro F V hrel
  obtain ⟨f3, f4, i, ld, hi, f5, f6, HJ⟩ := hrel
  have H6 := hid_of f6
  rw [frame88n, f3, f4, f5, f6]
  clear f3 f4 f5 f6
  obtain ⟨s, O, g0, hLS, hld⟩ := HJ.out
  have HLS := hid_of hLS
  have HLD := hid_of hld
  clear HJ hld
  by_cases hin : i < N
  rotate_left 1
  · have hin' : ¬ (i : Int) < (N : Int) := by omega
    have HX := hid_of (kp_ext hLS.kp HBEG.out.ex HBEG.out.old)
    clear hLS
    go_wp2_with fail
    go_ret
    exact ⟨rfl, HX.out⟩
  have hin' : (i : Int) < (N : Int) := by omega
  have i0 : (0 : Int) ≤ (i : Int) := by omega
  have i2 : ((i : Int)).toNat = i := by omega
  obtain ⟨x, raw, br, CR, rfl, hbr, hobr, hcl, hnr, hrl, hdx⟩ := HBEG.out.at hin
  obtain ⟨hbrV, hobV⟩ := hLS.blk hbr hobr
  have HBR : Hid (blk W1 br = some CR ∧ Ob br = .no) := ⟨hbr, hobr⟩
  have HDX := hid_of hdx
  have HRL := hid_of hrl
  have hdec := dec_both 14 (.inr rfl) V x raw ((hdx.sub hLS.sub).sub (Sub.core _ _))
  obtain ⟨xa, xn, xc⟩ := x
  dsimp only at hnr hdec
  clear hLS hbr hobr hdx hrl hobV
  go_wp2_with fail
  refine hdec.mono ?_
  rintro e V2 ⟨k, ba, bn, bc, qa, qn, qc, p, sa, sn, sc, rfl, hRq, hx2⟩
  have hkq : k = (decF raw).2.kind := hRq.1
  dsimp only
  obtain ⟨dc, hdc⟩ : ∃ dc, dc = (decF raw).1 := ⟨_, rfl⟩
  rw [← hdc]
  have HDC := hid_of hdc
  have HKQ := hid_of hkq
  obtain ⟨RQ, hRQ⟩ : ∃ RQ, RQ = reqE k ba bn bc qa qn qc p sa sn sc := ⟨_, rfl⟩
  have q0 : nth RQ 0 = some (.int .i64 k) := by rw [hRQ]; rfl
  have ql : 0 < RQ.length := by rw [hRQ]; show 0 < 5; omega
  clear hdec hRq hdc hkq
  go_upto_region 10 with fail
  refine wp_world (fun V' => V2.Extends V' ∧ blk V' V2.heap.size = some (reqE k ba bn bc qa qn qc p sa sn sc)) ⟨extends_alloc (ext_Ext (Ext.refl _)) _, by rw [blk_alloc, if_pos rfl]⟩ ?_
  rintro V3 ⟨hx3, hb7⟩
  obtain ⟨b7, e7⟩ : ∃ b7, b7 = V2.heap.size := ⟨_, rfl⟩
  rw [← e7, ← hRQ] at hb7
  rw [← e7]
  have hL3 := HLS.out.grow (hx2.trans hx3)
  have ho7 : lab O V.heap.size .no b7 = .no := lab_ge (by rw [e7]; exact hx2.size)
  have hbr3 := hL3.blk HBR.out.1 HBR.out.2
  have hsv := hL3.serve (by omega) ⟨xa, xn, xc⟩ raw (HDX.out.sub hL3.sub) HRL.out
  have HB7 : Hid (blk V3 b7 = some RQ ∧ lab O V.heap.size .no b7 = .no) := ⟨hb7, ho7⟩
  have HL3 := hid_of hL3
  have hbr3' := hbr3.1
  have HIV := hid_of hL3.inv
  clear hx2 hx3 e7 hL3 ho7 hRQ hbrV hb7 hbr3
  go_wp2_with fail
  refine hsv.mono ?_
  rintro e V4 ⟨ra, rn, rc, q, s', O', g', rfl, hsr, hRB, hK, hL4, hBs, hrc1, hrc2⟩
  dsimp only
  have hkc := svR.k (s' := s') HIV.out.ins HRL.out hsr.choose_spec.1
  obtain ⟨kd, hkd⟩ : ∃ kd : Nat, q.kind = (kd : Int) := ⟨q.kind.toNat, by have := hkc.1; omega⟩
  obtain ⟨cd, hcd⟩ : ∃ cd : Nat, q.code = (cd : Int) := ⟨q.code.toNat, by have := hkc.2.1; omega⟩
  obtain ⟨rb, ro, RC, rfl, w2, w3, w4, w5, w6⟩ := rep_two (hBs.sub (Sub.core _ _)) hkd hcd (by have := hkc.1; omega) (by have := hkc.2.1; omega)
  have hwc : wrap64 (cd : Int) = (cd : Int) := by
    have h1 := hkc.2.1
    rw [hcd] at h1
    unfold wrap64; omega
  have hwk : wrap64 (kd : Int) = (kd : Int) := by
    have h1 := hkc.1
    rw [hkd] at h1
    unfold wrap64; omega
  have hnp := npl_of HIV.out HRL.out hsr
  obtain ⟨m1, m2⟩ := hK.keep b7 (blk_lt HB7.out.1) (by rw [HB7.out.2]; exact kept_no)
  have hb7 : blk V4 b7 = some RQ := (blk_of_heap m2).trans HB7.out.1
  obtain ⟨ld', hld'e⟩ : ∃ ld', ld' = s'.inst.isSome := ⟨_, rfl⟩
  have HLC : Hid (∀ n, Calls Try.prog 20 #[.pointer (some ⟨bs, 0, none⟩)] (V4.drewN n) fun e V => e = .returned (.bool ld') ∧ V = V4.drewN n) := fun n => by
    rw [hld'e]
    exact loaded_any (hL4.drewN n).sv
  have HJ' : Hid (∀ n, ∃ s O g, LS Ob W1 bs (1000 + 10 * ((i + 1 : Nat) : Int)) s O g (V4.drewN n) ∧ s.inst.isSome = ld') := fun n => ⟨s', O', g', by
    have e9 : (1000 + 10 * ((i + 1 : Nat) : Int)) = 1000 + 10 * (i : Int) + 10 := by omega
    rw [e9]; exact hL4.drewN n, hld'e.symm⟩
  have HN := hid_of hnp
  have HLD' := hid_of hld'e
  have HKD : Hid (q.kind = (kd : Int) ∧ q.code = (cd : Int)) := ⟨hkd, hcd⟩
  have HLN : Hid ((encR' q).length = rn) := hBs.1
  have hro : ro < RC.length := by omega
  have hro1 : ro + 1 < RC.length := by omega
  have hrn0 : (0 : Int) < (rn : Int) := by omega
  have hrn1 : (1 : Int) < (rn : Int) := by omega
  clear hsv hsr hRB hK hL4 hBs hkc hkd hcd hnp m1 m2 hld'e w6 hbr3' hrc1 hrc2 HB7 HL3
  by_cases hd0 : dc = 0
  rotate_left 1
  · have hdb : (dc == 0) = false := by simp [hd0]
    have hc10 : ((cd : Int) == 10) = false := by
      have h9 := HN.out.late (.inl (by rw [← HDC.out]; exact hd0))
      rw [HKD.out.2] at h9
      simp; omega
    have hc10p : ¬ (cd : Int) = 10 := by
      intro h9
      rw [h9] at hc10
      cases hc10
    have hc10n : ¬ cd = 10 := by omega
    have hl2 : ld' = ld := by rw [HLD'.out, HN.out.bad (by rw [← HDC.out]; exact hd0), HLD.out]
    subst hl2
    cases ld'
    · skip
      go_upto_region 14 with fail
      go_quiet (fail)
      go_wp2_with fail
      refine (HLC.out _).mono ?_
      rintro e V9 ⟨rfl, e9⟩
      subst e9
      dsimp only
      go_wp2_with fail
      refine ⟨rfl, rfl, ⟨rfl, rfl, i + 1, _, by omega, rfl, ?_, HJ'.out _⟩, ?_⟩
      · show Value.int .i64 _ = _
        go_num
      · show N - (intOf (Value.int .i64 _)).toNat < N - (intOf (F 6)).toNat
        rw [H6.out]
        simp [intOf]; omega
    · skip
      go_upto_region 14 with fail
      go_quiet (fail)
      go_wp2_with fail
      refine (HLC.out _).mono ?_
      rintro e V9 ⟨rfl, e9⟩
      subst e9
      dsimp only
      go_wp2_with fail
      refine ⟨rfl, rfl, ⟨rfl, rfl, i + 1, _, by omega, rfl, ?_, HJ'.out _⟩, ?_⟩
      · show Value.int .i64 _ = _
        go_num
      · show N - (intOf (Value.int .i64 _)).toNat < N - (intOf (F 6)).toNat
        rw [H6.out]
        simp [intOf]; omega
  subst hd0
  by_cases hk1 : k = 1
  · subst hk1
    have hc10 : ((cd : Int) == 10) = false := by
      have h9 := HN.out.late (.inr (.inl HKQ.out.symm))
      rw [HKD.out.2] at h9
      simp; omega
    have hc10p : ¬ (cd : Int) = 10 := by
      intro h9
      rw [h9] at hc10
      cases hc10
    have hc10n : ¬ cd = 10 := by omega
    have hl2 : ld' = (ld || decide ((cd : Int) = 0)) := by rw [HLD'.out, HN.out.ld HDC.out.symm HKQ.out.symm, HLD.out, HKD.out.2]
    by_cases hcz : cd = 0
    · subst hcz
      have hl3 : ld' = true := by rw [hl2]; simp
      subst hl3
      clear hl2
      cases ld
      · skip
        go_upto_region 14 with fail
        go_quiet (fail)
        go_wp2_with fail
        refine (HLC.out _).mono ?_
        rintro e V9 ⟨rfl, e9⟩
        subst e9
        dsimp only
        go_wp2_with fail
        refine ⟨rfl, rfl, ⟨rfl, rfl, i + 1, _, by omega, rfl, ?_, HJ'.out _⟩, ?_⟩
        · show Value.int .i64 _ = _
          go_num
        · show N - (intOf (Value.int .i64 _)).toNat < N - (intOf (F 6)).toNat
          rw [H6.out]
          simp [intOf]; omega
      · skip
        go_upto_region 14 with fail
        go_quiet (fail)
        go_wp2_with fail
        refine (HLC.out _).mono ?_
        rintro e V9 ⟨rfl, e9⟩
        subst e9
        dsimp only
        go_wp2_with fail
        refine ⟨rfl, rfl, ⟨rfl, rfl, i + 1, _, by omega, rfl, ?_, HJ'.out _⟩, ?_⟩
        · show Value.int .i64 _ = _
          go_num
        · show N - (intOf (Value.int .i64 _)).toNat < N - (intOf (F 6)).toNat
          rw [H6.out]
          simp [intOf]; omega
    · have hczb : ((cd : Int) == 0) = false := by simp; omega
      have hl3 : ld' = ld := by rw [hl2]; simp; omega
      subst hl3
      clear hl2
      cases ld'
      · skip
        go_upto_region 14 with fail
        go_quiet (fail)
        go_wp2_with fail
        refine (HLC.out _).mono ?_
        rintro e V9 ⟨rfl, e9⟩
        subst e9
        dsimp only
        go_wp2_with fail
        refine ⟨rfl, rfl, ⟨rfl, rfl, i + 1, _, by omega, rfl, ?_, HJ'.out _⟩, ?_⟩
        · show Value.int .i64 _ = _
          go_num
        · show N - (intOf (Value.int .i64 _)).toNat < N - (intOf (F 6)).toNat
          rw [H6.out]
          simp [intOf]; omega
      · skip
        go_upto_region 14 with fail
        go_quiet (fail)
        go_wp2_with fail
        refine (HLC.out _).mono ?_
        rintro e V9 ⟨rfl, e9⟩
        subst e9
        dsimp only
        go_wp2_with fail
        refine ⟨rfl, rfl, ⟨rfl, rfl, i + 1, _, by omega, rfl, ?_, HJ'.out _⟩, ?_⟩
        · show Value.int .i64 _ = _
          go_num
        · show N - (intOf (Value.int .i64 _)).toNat < N - (intOf (F 6)).toNat
          rw [H6.out]
          simp [intOf]; omega
  have hk1b : (k == 1) = false := by simp [hk1]
  have hk1n : (k != 1) = true := by simp [hk1]
  cases ld with
  | true =>
    have hc10 : ((cd : Int) == 10) = false := by
      have h9 := HN.out.late (.inr (.inr HLD.out))
      rw [HKD.out.2] at h9
      simp; omega
    have hc10p : ¬ (cd : Int) = 10 := by
      intro h9
      rw [h9] at hc10
      cases hc10
    have hc10n : ¬ cd = 10 := by omega
    have hl3 : ld' = true := by rw [HLD'.out]; exact HN.out.on HLD.out
    subst hl3
    go_upto_region 14 with fail
    go_quiet (fail)
    go_wp2_with fail
    refine (HLC.out _).mono ?_
    rintro e V9 ⟨rfl, e9⟩
    subst e9
    dsimp only
    go_wp2_with fail
    refine ⟨rfl, rfl, ⟨rfl, rfl, i + 1, _, by omega, rfl, ?_, HJ'.out _⟩, ?_⟩
    · show Value.int .i64 _ = _
      go_num
    · show N - (intOf (Value.int .i64 _)).toNat < N - (intOf (F 6)).toNat
      rw [H6.out]
      simp [intOf]; omega
  | false =>
    obtain ⟨he, hlx⟩ := HN.out.early HLD.out HDC.out.symm (by rw [← HKQ.out]; exact hk1)
    have hl3 : ld' = false := by rw [HLD'.out]; exact hlx
    subst hl3
    have hc : cd = 10 := by
      have h9 := HKD.out.2
      rw [he] at h9
      have h9' : (10 : Int) = (cd : Int) := h9
      omega
    subst hc
    have hkk : (kd : Int) = k := by
      have h9 := HKD.out.1
      rw [he] at h9
      have h9' : (decF raw).2.kind = (kd : Int) := h9
      rw [HKQ.out]; exact h9'.symm
    have hrn : rn = 2 := by
      have h9 := HLN.out
      rw [← h9, he]
      unfold encR' encBd
      rw [if_pos (by show (10 : Int) ≠ 0; decide), if_neg (by rintro ⟨-, h⟩; have h' : (0 : Int) ≤ -1 := h; omega)]
      rfl
    subst hrn
    rw [hkk] at w5 hwk
    clear he hlx hkk hwc
    go_upto_region 14 with fail
    go_quiet (fail)
    go_wp2_with fail
    refine (HLC.out _).mono ?_
    rintro e V9 ⟨rfl, e9⟩
    subst e9
    dsimp only
    go_wp2_with fail
    refine ⟨rfl, rfl, ⟨rfl, rfl, i + 1, _, by omega, rfl, ?_, HJ'.out _⟩, ?_⟩
    · show Value.int .i64 _ = _
      go_num
    · show N - (intOf (Value.int .i64 _)).toNat < N - (intOf (F 6)).toNat
      rw [H6.out]
      simp [intOf]; omega
end Go.Proofs.Qxb6500787a
