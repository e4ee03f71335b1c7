import Derived.Test.Qxb6500787aGreatMm

import Derived.StillTailTactics
import Derived.Deep.QuietTactic
import Derived.BigQuiet
import Derived.Deep.RegionHeld
import Derived.Deep.CutRange
import Derived.Laws.ResultCell
import Derived.Laws.Rows
import Derived.DeepKeys
import Derived.DataBytes
import Derived.Laws.StructEq
import Derived.Laws.AppendOwn
import Derived.Laws.MakeOwn
import Derived.Lib.AppendStr
set_option linter.unusedSimpArgs false
set_option linter.unusedVariables false
namespace Go.Proofs.Qxb6500787aGreat
open Go.RowKit Go.Blk
attribute [local go_sem ↓] execOp_load execOp_store execOp_alloc
attribute [local go_sem] Tryz.ld26 Tryz.st26 Tryz.ld27 Tryz.st27 Tryz.ld28 Tryz.st28 Tryz.ld3 Tryz.st3 Tryz.ld29 Tryz.st29 Tryz.ld44 Tryz.st44 Tryz.ld4 Tryz.st4 Tryz.ld50 Tryz.st50 Tryz.ld32 Tryz.st32 Tryz.ld49 Tryz.st49 Tryz.ld68 Tryz.st68 Tryz.ld9 Tryz.st9 Tryz.ld40 Tryz.st40 Tryz.ld138 Tryz.st138 Tryz.ld139 Tryz.st139 Tryz.ld146 Tryz.st146 Tryz.ld183 Tryz.st183 Tryz.ld184 Tryz.st184 Tryz.ld192 Tryz.st192 Tryz.ld195 Tryz.st195 Tryz.ld217 Tryz.st217 Tryz.ld159 Tryz.st159 Tryz.ld142 Tryz.st142 Tryz.ld2 Tryz.st2 Tryz.ld5 Tryz.st5 Tryz.ld12 Tryz.st12 Tryz.ld21 Tryz.st21 Tryz.ld22 Tryz.st22 Tryz.ld24 Tryz.st24 Tryz.ld58 Tryz.st58 Tryz.ld97 Tryz.st97 Tryz.ld101 Tryz.st101 Tryz.ld116 Tryz.st116 Tryz.ld121 Tryz.st121 Tryz.ld135 Tryz.st135 Tryz.ld136 Tryz.st136 Tryz.ld143 Tryz.st143 Tryz.ld148 Tryz.st148 Tryz.ld154 Tryz.st154 Tryz.ld173 Tryz.st173 Tryz.ld187 Tryz.st187 Tryz.ld222 Tryz.st222 Tryz.ld241 Tryz.st241 Tryz.ld248 Tryz.st248 Tryz.ld268 Tryz.st268 Tryz.ld272 Tryz.st272 Tryz.ld153 Tryz.st153 Tryz.ld255 Tryz.st255 Tryz.ld256 Tryz.st256 Tryz.ld129 Tryz.st129 Tryz.ld152 Tryz.st152 Tryz.ld31 Tryz.st31 Tryz.ld46 Tryz.st46 Tryz.ld52 Tryz.st52 Tryz.ld54 Tryz.st54 Tryz.ld60 Tryz.st60 Tryz.ld70 Tryz.st70 Tryz.ld74 Tryz.st74 Tryz.ld93 Tryz.st93 Tryz.ld141 Tryz.st141 Tryz.ld151 Tryz.st151 Tryz.ld170 Tryz.st170 Tryz.ld186 Tryz.st186 Tryz.ld189 Tryz.st189 Tryz.ld194 Tryz.st194 Tryz.ld197 Tryz.st197 Tryz.ld219 Tryz.st219 Tryz.ld224 Tryz.st224 Tryz.ld230 Tryz.st230 Tryz.ld235 Tryz.st235 Tryz.ld243 Tryz.st243 Tryz.ld247 Tryz.st247 Tryz.ld252 Tryz.st252 Tryz.ld258 Tryz.st258 Tryz.al153 Tryz.al255 Tryz.al256 Tryz.al129 Tryz.al152 Tryz.al31 Tryz.al46 Tryz.al52 Tryz.al54 Tryz.al60 Tryz.al70 Tryz.al74 Tryz.al93 Tryz.al141 Tryz.al151 Tryz.al170 Tryz.al186 Tryz.al189 Tryz.al194 Tryz.al197 Tryz.al219 Tryz.al224 Tryz.al230 Tryz.al235 Tryz.al243 Tryz.al247 Tryz.al252 Tryz.al258
attribute [local go_sem] Request.length_enc Request.ok_enc Request.all_get Request.all_set Request.kind_get Request.kind_set Request.blob_get Request.blob_set Request.items_get Request.items_set Request.pred_get Request.pred_set Request.slots_get Request.slots_set Trace.length_enc Trace.ok_enc Trace.all_get Trace.all_set Trace.op_get Trace.op_set Trace.calls_get Trace.calls_set Item.length_enc Item.ok_enc Item.all_get Item.all_set Item.del_get Item.del_set Item.pred_get Item.pred_set Item.args_get Item.args_set Reply.length_enc Reply.ok_enc Reply.all_get Reply.all_set Reply.code_get Reply.code_set Reply.kind_get Reply.kind_set Reply.index_get Reply.index_set Reply.yes_get Reply.yes_set Reply.preds_get Reply.preds_set Reply.rules_get Reply.rules_set Reply.arity_get Reply.arity_set Reply.rows_get Reply.rows_set Reply.fact_get Reply.fact_set Reply.fact_del_get Reply.fact_del_set Reply.fact_pred_get Reply.fact_pred_set Reply.fact_args_get Reply.fact_args_set GEntry.length_enc GEntry.ok_enc GEntry.all_get GEntry.all_set GEntry.seq_get GEntry.seq_set GEntry.kind_get GEntry.kind_set GEntry.code_get GEntry.code_set GOp.length_enc GOp.ok_enc GOp.all_get GOp.all_set GOp.kind_get GOp.kind_set GOp.raw_get GOp.raw_set Reader.length_enc Reader.ok_enc Reader.all_get Reader.all_set Reader.buf_get Reader.buf_set Reader.at__get Reader.at__set Slot.length_enc Slot.ok_enc Slot.all_get Slot.all_set Slot.bound_get Slot.bound_set Slot.name_get Slot.name_set Session.length_enc Session.ok_enc Session.all_get Session.all_set Session.svc_get Session.svc_set Session.buf_get Session.buf_set Session.closed_get Session.closed_set GProgram.length_enc GProgram.ok_enc GProgram.all_get GProgram.all_set GProgram.pool_get GProgram.pool_set GProgram.preds_get GProgram.preds_set GProgram.rules_get GProgram.rules_set GProgram.strata_get GProgram.strata_set PredInfo.length_enc PredInfo.ok_enc PredInfo.all_get PredInfo.all_set PredInfo.arity_get PredInfo.arity_set PredInfo.base_get PredInfo.base_set PredInfo.stratum_get PredInfo.stratum_set Change.length_enc Change.ok_enc Change.all_get Change.all_set Change.del_get Change.del_set Change.pred_get Change.pred_set Change.t_get Change.t_set Store.length_enc Store.ok_enc Store.all_get Store.all_set Store.names_get Store.names_set Store.arity_get Store.arity_set Store.rows_get Store.rows_set Src.length_enc Src.ok_enc Src.all_get Src.all_set Src.b_get Src.b_set Src.at__get Src.at__set Atom.length_enc Atom.ok_enc Atom.all_get Atom.all_set Atom.pred_get Atom.pred_set Atom.args_get Atom.args_set GRule.length_enc GRule.ok_enc GRule.all_get GRule.all_set GRule.head_get GRule.head_set GRule.body_get GRule.body_set GRule.head_pred_get GRule.head_pred_set GRule.head_args_get GRule.head_args_set Cert.length_enc Cert.ok_enc Cert.all_get Cert.all_set Cert.names_get Cert.names_set Cert.nodes_get Cert.nodes_set Fact.length_enc Fact.ok_enc Fact.all_get Fact.all_set Fact.pred_get Fact.pred_set Fact.t_get Fact.t_set Literal.length_enc Literal.ok_enc Literal.all_get Literal.all_set Literal.neg_get Literal.neg_set Literal.atom_get Literal.atom_set Literal.atom_pred_get Literal.atom_pred_set Literal.atom_args_get Literal.atom_args_set Engine.length_enc Engine.ok_enc Engine.all_get Engine.all_set Engine.prog_get Engine.prog_set Engine.st_get Engine.st_set SrcCertm.length_enc SrcCertm.ok_enc SrcCertm.all_get SrcCertm.all_set SrcCertm.b_get SrcCertm.b_set SrcCertm.at__get SrcCertm.at__set GNode.length_enc GNode.ok_enc GNode.all_get GNode.all_set GNode.rule_get GNode.rule_set GNode.pred_get GNode.pred_set GNode.vals_get GNode.vals_set GNode.refs_get GNode.refs_set Term.length_enc Term.ok_enc Term.all_get Term.all_set Term.var_get Term.var_set Term.n_get Term.n_set Env.length_enc Env.ok_enc Env.all_get Env.all_set Env.val_get Env.val_set Env.set_get Env.set_set
attribute [local go_sem] size_put size_ext blk_put free_put blk_alloc free_alloc blk_drew free_drew blk_ext free_ext lookOr_some putOr_some segAt_some cellAt_some storeIn_some put_put put_alloc_new length_arr ok_arr_u8 ok_arr_u32 ok_arr_u64 ok_arr_i64 ok_arr_sl cellsV_agg cellsV_int cellsV_bool cellsV_string cellsV_pointer cellsV_slice cellsV_sl ok_int ok_bool ok_string ok_pointer ok_slice ok_sl toList_arr seg_arr set_arr nth_splice nth_splice0 seg_splice seg_splice0 splice_splice splice_splice0 length_splice_if
attribute [local go_sem ↓] execOp_box
attribute [local go_sem] box_run nth_arr_u8 put_arr_u8 blk_drewN free_drewN put_drewN blk_raw free_raw
def zFtI (W : World) (bp b3 n : Nat) (XE : List Value) (p : PP) (a : PA) (f : Nat → Value) (V : World) : Prop := f 0 = .pointer (some ⟨bp, 0, none⟩) ∧ f 3 = .pointer (some ⟨b3, 0, none⟩) ∧ Hid (W.Extends V ∧ blk V b3 = some XE) ∧ ∃ i : Nat, i ≤ n ∧ f 5 = .int .i64 (i : Nat) ∧ Hid (∀ j, j < i → ∀ x, a.args[j]? = some x → termB p x = true)
set_option maxRecDepth 100000 in
theorem zframe72f (f : Nat → Value) : frameN 72 f = #[f 0, f 1, f 2, f 3, f 4, f 5, f 6, f 7, f 8, f 9, f 10, f 11, f 12, f 13, f 14, f 15, f 16, f 17, f 18, f 19, f 20, f 21, f 22, f 23, f 24, f 25, f 26, f 27, f 28, f 29, f 30, f 31, f 32, f 33, f 34, f 35, f 36, f 37, f 38, f 39, f 40, f 41, f 42, f 43, f 44, f 45, f 46, f 47, f 48, f 49, f 50, f 51, f 52, f 53, f 54, f 55, f 56, f 57, f 58, f 59, f 60, f 61, f 62, f 63, f 64, f 65, f 66, f 67, f 68, f 69, f 70, f 71] := by kernel_rfl
set_option maxRecDepth 40000 in
set_option maxHeartbeats 4000000 in
theorem fitsTable_any {W : World} {bp : Nat} {p : PP} (hp : ProgC W bp p) (x : Atom) (a : PA) (hA : AtomC W x a) (h1000 : a.args.length ≤ 1000) : Calls Tryz.prog 70 #[.pointer (some ⟨bp, 0, none⟩), .agg x.enc.toArray] W fun e V => e = .returned (.bool (atB p a)) ∧ W.Extends V := by
  obtain ⟨Q, hQ⟩ : ∃ Q : Ending → World → Prop, Q = fun e V => e = .returned (.bool (atB p a)) ∧ W.Extends V := ⟨_, rfl⟩
  rw [← hQ]
  have HQ := hid_of hQ
  have HPC := hid_of hp
  have HA := hid_of hA
  obtain ⟨Ce, pa, pc, da, dc, ra, rc, z1, z2, z3, z4, z5, z6, z7, z8, z9⟩ := hp.cells
  have HZ8 := hid_of z8
  have HZ1 := hid_of z1
  obtain ⟨np, hnp⟩ : ∃ np, np = p.pool.length := ⟨_, rfl⟩
  obtain ⟨nd, hnd⟩ : ∃ nd, nd = p.preds.length := ⟨_, rfl⟩
  rw [← hnp] at z3
  rw [← hnd] at z4
  have HNP := hid_of hnp
  have HND := hid_of hnd
  have l0 : 0 < Ce.length := by omega
  have l1 : 1 < Ce.length := by omega
  obtain ⟨q, hq⟩ : ∃ q, q = a.pred := ⟨_, rfl⟩
  obtain ⟨n, hn⟩ : ∃ n, n = a.args.length := ⟨_, rfl⟩
  have x0 : nth x.enc 0 = some (.int .i64 (q : Int)) := by rw [Atom.pred_get, hA.1, hq]
  have x1 : nth x.enc 1 = some (.slice x.args.a n x.args.cap) := by
    rw [Atom.args_get, hn, hA.2.1]; rfl
  have xl : x.enc.length = 2 := Atom.length_enc x
  obtain ⟨XE, hXE⟩ : ∃ XE, XE = x.enc := ⟨_, rfl⟩
  rw [← hXE] at x0 x1 xl ⊢
  have xl0 : 0 < XE.length := by omega
  have xl1 : 1 < XE.length := by omega
  have hqB : a.pred = q := hq.symm
  have HQB := hid_of hqB
  have HN := hid_of hn
  have hn1000 : n ≤ 1000 := by omega
  have HRET : Hid (∀ V b, W.Extends V → atB p a = b → Q (.returned (.bool b)) V) := fun V b h1 h2 => by
    rw [HQ.out]
    exact ⟨by rw [h2], h1⟩
  clear hQ hp hA z1 z2 z5 z6 z7 z8 z9 hnp hnd hq hn hXE xl hqB HQ h1000
  go_enter Tryz.func70, Tryz.ntmps70
  go_upto_region 1 with fail
  refine wp_world (fun V => W.Extends V ∧ blk V W.heap.size = some XE) ⟨extends_alloc (ext_Ext (Ext.refl _)) _, by rw [blk_alloc, if_pos rfl]⟩ ?_
  rintro V1 ⟨hx1, hb3⟩
  obtain ⟨b3, eb3⟩ : ∃ b3, b3 = W.heap.size := ⟨_, rfl⟩
  rw [← eb3] at hb3 ⊢
  clear eb3
  have hbp : blk V1 bp = some Ce := (hx1.blk (blk_lt HZ1.out)).trans HZ1.out
  have HX1 := hid_of hx1
  by_cases hqn : q < nd
  rotate_left 1
  · have hqn' : (nd : Int) ≤ (q : Int) := by omega
    have HP : Hid (∀ j, Q (.returned (.bool false)) (V1.drewN j)) := fun j => HRET.out _ _ (extends_drewN HX1.out j) (by unfold atB; rw [decide_eq_false (by rw [HQB.out, ← HND.out]; exact hqn)]; rfl)
    clear hx1
    go_quiet (fail)
    go_wp2_with fail
    try go_ret
    exact HP.out _
  have hqn' : ¬ (nd : Int) ≤ (q : Int) := by omega
  have q0 : (0 : Int) ≤ (q : Int) := by omega
  have q1 : (q : Int) < (nd : Int) := by omega
  have q2 : ((q : Int)).toNat = q := by omega
  obtain ⟨bd, Cd, d1, d2, d3, d4, d5, d6, d7⟩ := pred_at (HZ8.out.grow hx1) (pI_at (p := p) (q := q) (by rw [← HND.out]; exact hqn))
  subst d1
  have m0 : q * 3 < Cd.length := by omega
  obtain ⟨ar, har⟩ : ∃ ar, ar = (pI p q).arity := ⟨_, rfl⟩
  rw [← har] at d4
  have HAB : Hid (atB p a = (decide ((n : Int) = ar) && a.args.all (termB p))) := by
    show _ = _
    unfold atB
    rw [HQB.out, decide_eq_true (by rw [← HND.out]; exact hqn), ← HN.out, har]; rfl
  clear d3 d5 d6 d7 har
  by_cases han : (n : Int) = ar
  rotate_left 1
  · have hne : ((n : Int) != ar) = true := by simp [han]
    have HP : Hid (∀ j, Q (.returned (.bool false)) (V1.drewN j)) := fun j => HRET.out _ _ (extends_drewN HX1.out j) (by rw [HAB.out, decide_eq_false han]; rfl)
    clear hx1 han
    go_quiet (fail)
    go_wp2_with fail
    try go_ret
    exact HP.out _
  have hne : ((n : Int) != ar) = false := by simp [han]
  have HAB2 : Hid (atB p a = a.args.all (termB p)) := by
    show _ = _
    rw [HAB.out, decide_eq_true han]; rfl
  clear hx1 han
  go_quiet (fail)
  go_upto_region 4 with fail
  refine wp_world (fun V => W.Extends V ∧ blk V b3 = some XE) ⟨extends_drewN HX1.out _, hb3⟩ ?_
  intro V2 HV2
  have HV2' := hid_of HV2
  clear HV2 hb3 hbp d2 HX1
  refine wp_loop_f 72 (zFtI W bp b3 n XE p a) (fun f _ => n - (intOf (f 5)).toNat) rfl ⟨rfl, rfl, HV2', 0, by omega, rfl, fun j h => absurd h (Nat.not_lt_zero _)⟩ ?_
  clear HV2'
  intro F V hrel
  obtain ⟨f0, f3, HV, i, hi, f5, HI⟩ := hrel
  have H5 := hid_of f5
  rw [zframe72f, f0, f3, f5]
  clear f0 f3 f5
  obtain ⟨hx, hb3⟩ := HV.out
  have HX := hid_of hx
  have HB3 := hid_of hb3
  have hbp : blk V bp = some Ce := (hx.blk (blk_lt HZ1.out)).trans HZ1.out
  by_cases hin : i < n
  rotate_left 1
  · have hin' : ¬ (i : Int) < (n : Int) := by omega
    have HP := hid_of (HRET.out V true hx (by rw [HAB2.out]; exact all_yes (fun k x hx => HI.out k (by have := (List.getElem?_eq_some_iff.1 hx).1; rw [← HN.out] at this; omega) x hx)))
    clear HI HV hx
    go_wp2_with fail
    try go_ret
    exact HP.out
  have hin' : (i : Int) < (n : Int) := by omega
  have i0 : (0 : Int) ≤ (i : Int) := by omega
  have i2 : ((i : Int)).toNat = i := by omega
  obtain ⟨ba, Ca, t1, t2, t3, t4, t5⟩ := term_at (HA.out.ext hx) (c := i) (by rw [← HN.out]; exact hin)
  have htx := tA_at (a := a) (c := i) (by rw [← HN.out]; exact hin)
  rw [t1] at x1
  obtain ⟨tv, htv⟩ : ∃ tv, tv = (tA a i).var := ⟨_, rfl⟩
  obtain ⟨tn, htn⟩ : ∃ tn, tn = (tA a i).n := ⟨_, rfl⟩
  rw [← htv] at t4
  rw [← htn] at t5
  have m0 : i * 2 < Ca.length := by omega
  have HTB : Hid (termB p (tA a i) = if tv then decide (tn < 32) else decide (tn < (np : Int))) := by
    show _ = _
    unfold termB
    rw [← htv, ← htn, ← HNP.out]
  have HTX := hid_of htx
  have HUP : Hid (termB p (tA a i) = true → ∀ j, j < i + 1 → ∀ x, a.args[j]? = some x → termB p x = true) := fun h => up1 HI.out (fun y hy => by rw [HTX.out] at hy; rw [← Option.some.inj hy]; exact h)
  have HNO : Hid (termB p (tA a i) = false → ∀ V', W.Extends V' → Q (.returned (.bool false)) V') := fun h V' h' => HRET.out V' false h' (by rw [HAB2.out]; exact all_not HTX.out h)
  clear htx htv htn HI HV hx t1
  cases tv with
  | true =>
    by_cases h32 : tn < 32
    · have h32' : ¬ (32 : Int) ≤ tn := by omega
      have h32g : ¬ tn ≥ 32 := by omega
      have HI' := hid_of (HUP.out (by rw [HTB.out, if_pos rfl, decide_eq_true h32]))
      clear HUP HNO HTB
      go_upto_region 8 with fail
      go_quiet (fail)
      go_wp2_with fail
      refine ⟨rfl, rfl, ⟨rfl, rfl, ⟨extends_drewN HX.out _, HB3.out⟩, i + 1, by omega, ?_, HI'⟩, ?_⟩
      · show Value.int .i64 _ = _
        go_num
      · show n - (intOf (Value.int .i64 _)).toNat < n - (intOf (F 5)).toNat
        rw [H5.out]
        simp [intOf]; omega
    · have h32' : (32 : Int) ≤ tn := by omega
      have h32g : tn ≥ 32 := by omega
      have HP := hid_of (HNO.out (by rw [HTB.out, if_pos rfl, decide_eq_false h32]) V HX.out)
      clear HUP HNO HTB
      go_wp2_with fail
      try go_ret
      exact HP.out
  | false =>
    by_cases h32 : tn < (np : Int)
    · have h32' : ¬ (np : Int) ≤ tn := by omega
      have h32g : ¬ tn ≥ (np : Int) := by omega
      have HI' := hid_of (HUP.out (by rw [HTB.out, if_neg (by decide), decide_eq_true h32]))
      clear HUP HNO HTB
      go_upto_region 8 with fail
      go_quiet (fail)
      go_wp2_with fail
      refine ⟨rfl, rfl, ⟨rfl, rfl, ⟨extends_drewN HX.out _, HB3.out⟩, i + 1, by omega, ?_, HI'⟩, ?_⟩
      · show Value.int .i64 _ = _
        go_num
      · show n - (intOf (Value.int .i64 _)).toNat < n - (intOf (F 5)).toNat
        rw [H5.out]
        simp [intOf]; omega
    · have h32' : (np : Int) ≤ tn := by omega
      have h32g : tn ≥ (np : Int) := by omega
      have HP : Hid (∀ j, Q (.returned (.bool false)) (V.drewN j)) := fun j => HNO.out (by rw [HTB.out, if_neg (by decide), decide_eq_false h32]) _ (extends_drewN HX.out j)
      clear HUP HNO HTB
      go_upto_region 8 with fail
      go_quiet (fail)
      go_wp2_with fail
      try go_ret
      exact HP.out _
end Go.Proofs.Qxb6500787aGreat
