import Derived.Test.Qxb6500787aGreatMo

import Derived.StillTailTactics
import Derived.Deep.QuietTactic
import Derived.BigQuiet
import Derived.Deep.RegionHeld
import Derived.Deep.CutRange
import Derived.Laws.ResultCell
import Derived.Laws.Rows
import Derived.DeepKeys
import Derived.DataBytes
import Derived.Laws.StructEq
import Derived.Laws.AppendOwn
import Derived.Laws.MakeOwn
import Derived.Lib.AppendStr
set_option linter.unusedSimpArgs false
set_option linter.unusedVariables false
namespace Go.Proofs.Qxb6500787aGreat
open Go.RowKit Go.Blk
attribute [local go_sem ↓] execOp_load execOp_store execOp_alloc
attribute [local go_sem] Tryz.ld26 Tryz.st26 Tryz.ld27 Tryz.st27 Tryz.ld28 Tryz.st28 Tryz.ld3 Tryz.st3 Tryz.ld29 Tryz.st29 Tryz.ld44 Tryz.st44 Tryz.ld4 Tryz.st4 Tryz.ld50 Tryz.st50 Tryz.ld32 Tryz.st32 Tryz.ld49 Tryz.st49 Tryz.ld68 Tryz.st68 Tryz.ld9 Tryz.st9 Tryz.ld40 Tryz.st40 Tryz.ld138 Tryz.st138 Tryz.ld139 Tryz.st139 Tryz.ld146 Tryz.st146 Tryz.ld183 Tryz.st183 Tryz.ld184 Tryz.st184 Tryz.ld192 Tryz.st192 Tryz.ld195 Tryz.st195 Tryz.ld217 Tryz.st217 Tryz.ld159 Tryz.st159 Tryz.ld142 Tryz.st142 Tryz.ld2 Tryz.st2 Tryz.ld5 Tryz.st5 Tryz.ld12 Tryz.st12 Tryz.ld21 Tryz.st21 Tryz.ld22 Tryz.st22 Tryz.ld24 Tryz.st24 Tryz.ld58 Tryz.st58 Tryz.ld97 Tryz.st97 Tryz.ld101 Tryz.st101 Tryz.ld116 Tryz.st116 Tryz.ld121 Tryz.st121 Tryz.ld135 Tryz.st135 Tryz.ld136 Tryz.st136 Tryz.ld143 Tryz.st143 Tryz.ld148 Tryz.st148 Tryz.ld154 Tryz.st154 Tryz.ld173 Tryz.st173 Tryz.ld187 Tryz.st187 Tryz.ld222 Tryz.st222 Tryz.ld241 Tryz.st241 Tryz.ld248 Tryz.st248 Tryz.ld268 Tryz.st268 Tryz.ld272 Tryz.st272 Tryz.ld153 Tryz.st153 Tryz.ld255 Tryz.st255 Tryz.ld256 Tryz.st256 Tryz.ld129 Tryz.st129 Tryz.ld152 Tryz.st152 Tryz.ld31 Tryz.st31 Tryz.ld46 Tryz.st46 Tryz.ld52 Tryz.st52 Tryz.ld54 Tryz.st54 Tryz.ld60 Tryz.st60 Tryz.ld70 Tryz.st70 Tryz.ld74 Tryz.st74 Tryz.ld93 Tryz.st93 Tryz.ld141 Tryz.st141 Tryz.ld151 Tryz.st151 Tryz.ld170 Tryz.st170 Tryz.ld186 Tryz.st186 Tryz.ld189 Tryz.st189 Tryz.ld194 Tryz.st194 Tryz.ld197 Tryz.st197 Tryz.ld219 Tryz.st219 Tryz.ld224 Tryz.st224 Tryz.ld230 Tryz.st230 Tryz.ld235 Tryz.st235 Tryz.ld243 Tryz.st243 Tryz.ld247 Tryz.st247 Tryz.ld252 Tryz.st252 Tryz.ld258 Tryz.st258 Tryz.al153 Tryz.al255 Tryz.al256 Tryz.al129 Tryz.al152 Tryz.al31 Tryz.al46 Tryz.al52 Tryz.al54 Tryz.al60 Tryz.al70 Tryz.al74 Tryz.al93 Tryz.al141 Tryz.al151 Tryz.al170 Tryz.al186 Tryz.al189 Tryz.al194 Tryz.al197 Tryz.al219 Tryz.al224 Tryz.al230 Tryz.al235 Tryz.al243 Tryz.al247 Tryz.al252 Tryz.al258
attribute [local go_sem] Request.length_enc Request.ok_enc Request.all_get Request.all_set Request.kind_get Request.kind_set Request.blob_get Request.blob_set Request.items_get Request.items_set Request.pred_get Request.pred_set Request.slots_get Request.slots_set Trace.length_enc Trace.ok_enc Trace.all_get Trace.all_set Trace.op_get Trace.op_set Trace.calls_get Trace.calls_set Item.length_enc Item.ok_enc Item.all_get Item.all_set Item.del_get Item.del_set Item.pred_get Item.pred_set Item.args_get Item.args_set Reply.length_enc Reply.ok_enc Reply.all_get Reply.all_set Reply.code_get Reply.code_set Reply.kind_get Reply.kind_set Reply.index_get Reply.index_set Reply.yes_get Reply.yes_set Reply.preds_get Reply.preds_set Reply.rules_get Reply.rules_set Reply.arity_get Reply.arity_set Reply.rows_get Reply.rows_set Reply.fact_get Reply.fact_set Reply.fact_del_get Reply.fact_del_set Reply.fact_pred_get Reply.fact_pred_set Reply.fact_args_get Reply.fact_args_set GEntry.length_enc GEntry.ok_enc GEntry.all_get GEntry.all_set GEntry.seq_get GEntry.seq_set GEntry.kind_get GEntry.kind_set GEntry.code_get GEntry.code_set GOp.length_enc GOp.ok_enc GOp.all_get GOp.all_set GOp.kind_get GOp.kind_set GOp.raw_get GOp.raw_set Reader.length_enc Reader.ok_enc Reader.all_get Reader.all_set Reader.buf_get Reader.buf_set Reader.at__get Reader.at__set Slot.length_enc Slot.ok_enc Slot.all_get Slot.all_set Slot.bound_get Slot.bound_set Slot.name_get Slot.name_set Session.length_enc Session.ok_enc Session.all_get Session.all_set Session.svc_get Session.svc_set Session.buf_get Session.buf_set Session.closed_get Session.closed_set GProgram.length_enc GProgram.ok_enc GProgram.all_get GProgram.all_set GProgram.pool_get GProgram.pool_set GProgram.preds_get GProgram.preds_set GProgram.rules_get GProgram.rules_set GProgram.strata_get GProgram.strata_set PredInfo.length_enc PredInfo.ok_enc PredInfo.all_get PredInfo.all_set PredInfo.arity_get PredInfo.arity_set PredInfo.base_get PredInfo.base_set PredInfo.stratum_get PredInfo.stratum_set Change.length_enc Change.ok_enc Change.all_get Change.all_set Change.del_get Change.del_set Change.pred_get Change.pred_set Change.t_get Change.t_set Store.length_enc Store.ok_enc Store.all_get Store.all_set Store.names_get Store.names_set Store.arity_get Store.arity_set Store.rows_get Store.rows_set Src.length_enc Src.ok_enc Src.all_get Src.all_set Src.b_get Src.b_set Src.at__get Src.at__set Atom.length_enc Atom.ok_enc Atom.all_get Atom.all_set Atom.pred_get Atom.pred_set Atom.args_get Atom.args_set GRule.length_enc GRule.ok_enc GRule.all_get GRule.all_set GRule.head_get GRule.head_set GRule.body_get GRule.body_set GRule.head_pred_get GRule.head_pred_set GRule.head_args_get GRule.head_args_set Cert.length_enc Cert.ok_enc Cert.all_get Cert.all_set Cert.names_get Cert.names_set Cert.nodes_get Cert.nodes_set Fact.length_enc Fact.ok_enc Fact.all_get Fact.all_set Fact.pred_get Fact.pred_set Fact.t_get Fact.t_set Literal.length_enc Literal.ok_enc Literal.all_get Literal.all_set Literal.neg_get Literal.neg_set Literal.atom_get Literal.atom_set Literal.atom_pred_get Literal.atom_pred_set Literal.atom_args_get Literal.atom_args_set Engine.length_enc Engine.ok_enc Engine.all_get Engine.all_set Engine.prog_get Engine.prog_set Engine.st_get Engine.st_set SrcCertm.length_enc SrcCertm.ok_enc SrcCertm.all_get SrcCertm.all_set SrcCertm.b_get SrcCertm.b_set SrcCertm.at__get SrcCertm.at__set GNode.length_enc GNode.ok_enc GNode.all_get GNode.all_set GNode.rule_get GNode.rule_set GNode.pred_get GNode.pred_set GNode.vals_get GNode.vals_set GNode.refs_get GNode.refs_set Term.length_enc Term.ok_enc Term.all_get Term.all_set Term.var_get Term.var_set Term.n_get Term.n_set Env.length_enc Env.ok_enc Env.all_get Env.all_set Env.val_get Env.val_set Env.set_get Env.set_set
attribute [local go_sem] size_put size_ext blk_put free_put blk_alloc free_alloc blk_drew free_drew blk_ext free_ext lookOr_some putOr_some segAt_some cellAt_some storeIn_some put_put put_alloc_new length_arr ok_arr_u8 ok_arr_u32 ok_arr_u64 ok_arr_i64 ok_arr_sl cellsV_agg cellsV_int cellsV_bool cellsV_string cellsV_pointer cellsV_slice cellsV_sl ok_int ok_bool ok_string ok_pointer ok_slice ok_sl toList_arr seg_arr set_arr nth_splice nth_splice0 seg_splice seg_splice0 splice_splice splice_splice0 length_splice_if
attribute [local go_sem ↓] execOp_box
attribute [local go_sem] box_run nth_arr_u8 put_arr_u8 blk_drewN free_drewN put_drewN blk_raw free_raw
/-- A term in a positive literal. -/
def plT (t : Term) (l : PL) : Bool := !l.neg && l.atom.args.any fun u => decide (u = t)
def posT (r : PR) (t : Term) : Bool := r.body.any (plT t)
def bndB (r : PR) (a : PA) : Bool := a.args.all fun t => !t.var || posT r t
theorem posT_pos {r : PR} {t : Term} (ht : t.var = true) : posT r t = posB r t.n := by
  unfold posT posB
  congr 1
  funext l
  unfold plT
  congr 1
  congr 1
  funext u
  rw [Bool.eq_iff_iff]
  simp only [decide_eq_true_eq, Bool.and_eq_true, beq_iff_eq]
  constructor
  · rintro rfl; exact ⟨ht, rfl⟩
  · rintro ⟨h1, h2⟩
    cases u; cases t; simp_all
theorem bndB_cov (r : PR) (a : PA) : bndB r a = covB r a := by
  unfold bndB covB
  congr 1
  funext t
  cases h : t.var
  · rfl
  · rw [posT_pos h]
def zB1 (W : World) (b2 b3 : Nat) (N : Nat) (XE YE : List Value) (r : PR) (a : PA) (f : Nat → Value) (V : World) : Prop := f 2 = .pointer (some ⟨b2, 0, none⟩) ∧ f 3 = .pointer (some ⟨b3, 0, none⟩) ∧ ∃ c : Nat, c ≤ N ∧ f 5 = .int .i64 (c : Nat) ∧ Hid (W.Extends V ∧ blk V b2 = some XE ∧ blk V b3 = some YE ∧ ∀ j x, j < c → a.args[j]? = some x → (!x.var || posT r x) = true)
def zB2 (W : World) (b2 b3 c : Nat) (N : Nat) (XE YE : List Value) (r : PR) (t : Term) (f : Nat → Value) (V : World) : Prop := f 2 = .pointer (some ⟨b2, 0, none⟩) ∧ f 3 = .pointer (some ⟨b3, 0, none⟩) ∧ f 5 = .int .i64 (c : Nat) ∧ ∃ (i : Nat) (fd : Bool), i ≤ N ∧ f 7 = .int .i64 (i : Nat) ∧ f 6 = .bool fd ∧ Hid (W.Extends V ∧ blk V b2 = some XE ∧ blk V b3 = some YE ∧ fd = (r.body.take i).any (plT t))
def zB3 (W : World) (b2 b3 c i : Nat) (N : Nat) (XE YE : List Value) (t : Term) (fd0 : Bool) (l : PL) (f : Nat → Value) (V : World) : Prop := f 2 = .pointer (some ⟨b2, 0, none⟩) ∧ f 3 = .pointer (some ⟨b3, 0, none⟩) ∧ f 5 = .int .i64 (c : Nat) ∧ f 7 = .int .i64 (i : Nat) ∧ ∃ (k : Nat) (fd : Bool), k ≤ N ∧ f 8 = .int .i64 (k : Nat) ∧ f 6 = .bool fd ∧ Hid (W.Extends V ∧ blk V b2 = some XE ∧ blk V b3 = some YE ∧ fd = (fd0 || (!l.neg && (l.atom.args.take k).any fun u => decide (u = t))))
attribute [local go_sem ↓] execOp_eql226
set_option maxRecDepth 100000 in
theorem zframe69b (f : Nat → Value) : frameN 69 f = #[f 0, f 1, f 2, f 3, f 4, f 5, f 6, f 7, f 8, f 9, f 10, f 11, f 12, f 13, f 14, f 15, f 16, f 17, f 18, f 19, f 20, f 21, f 22, f 23, f 24, f 25, f 26, f 27, f 28, f 29, f 30, f 31, f 32, f 33, f 34, f 35, f 36, f 37, f 38, f 39, f 40, f 41, f 42, f 43, f 44, f 45, f 46, f 47, f 48, f 49, f 50, f 51, f 52, f 53, f 54, f 55, f 56, f 57, f 58, f 59, f 60, f 61, f 62, f 63, f 64, f 65, f 66, f 67, f 68] := by kernel_rfl
set_option maxRecDepth 40000 in
set_option maxHeartbeats 4000000 in
theorem bound_any (W : World) (x : GRule) (r : PR) (hR : RuleC W x r) (hL : Lens r) (y : Atom) (a : PA) (hA : AtomC W y a) (h1000 : a.args.length ≤ 1000) : Calls Tryz.prog 71 #[.agg x.enc.toArray, .agg y.enc.toArray] W fun e V => e = .returned (.bool (bndB r a)) ∧ W.Extends V := by
  obtain ⟨Q, hQ⟩ : ∃ Q : Ending → World → Prop, Q = fun e V => e = .returned (.bool (bndB r a)) ∧ W.Extends V := ⟨_, rfl⟩
  rw [← hQ]
  have HQ := hid_of hQ
  have HR := hid_of hR
  have HA := hid_of hA
  have HL := hid_of hL
  obtain ⟨xh, xa, xn, xc⟩ := x
  have hxn : r.body.length = xn := by
    obtain ⟨-, Ls, h1, h2, -⟩ := hR
    rw [← h2]; exact h1.1
  have HXN := hid_of hxn
  have hxb : xn ≤ 1000 := by have := hL.2.1; omega
  have xl := GRule.length_enc ⟨xh, ⟨xa, xn, xc⟩⟩
  have xg : nth (GRule.enc ⟨xh, ⟨xa, xn, xc⟩⟩) 2 = some (.slice xa xn xc) := GRule.body_get _
  obtain ⟨XE, hXE⟩ : ∃ XE, XE = GRule.enc ⟨xh, ⟨xa, xn, xc⟩⟩ := ⟨_, rfl⟩
  rw [← hXE] at xl xg ⊢
  have xl1 : 2 < XE.length := by omega
  obtain ⟨yp, ya, yn, yc⟩ := y
  have hyn : a.args.length = yn := hA.2.1
  have HYN := hid_of hyn
  have hyb : yn ≤ 1000 := by omega
  have yl := Atom.length_enc ⟨yp, ⟨ya, yn, yc⟩⟩
  have yg : nth (Atom.enc ⟨yp, ⟨ya, yn, yc⟩⟩) 1 = some (.slice ya yn yc) := rfl
  obtain ⟨YE, hYE⟩ : ∃ YE, YE = Atom.enc ⟨yp, ⟨ya, yn, yc⟩⟩ := ⟨_, rfl⟩
  rw [← hYE] at yl yg ⊢
  have yl1 : 1 < YE.length := by omega
  clear hQ hR hA hL hxn hyn hXE hYE h1000 xl yl
  go_enter Tryz.func71, Tryz.ntmps71
  go_upto_region 2 with fail
  refine wp_world (fun V => W.Extends V ∧ blk V W.heap.size = some XE ∧ blk V (W.heap.size + 1) = some YE) ⟨extends_alloc (extends_alloc (ext_Ext (Ext.refl _)) _) _, ?_, ?_⟩ ?_
  · rw [blk_alloc, if_neg (by rw [World.size_alloc]; omega), blk_alloc, if_pos rfl]
  · rw [blk_alloc, if_pos (by rw [World.size_alloc])]
  rintro V0 ⟨hx0, hb20, hb30⟩
  obtain ⟨b2, eb2⟩ : ∃ b2, b2 = W.heap.size := ⟨_, rfl⟩
  obtain ⟨b3, eb3⟩ : ∃ b3, b3 = W.heap.size + 1 := ⟨_, rfl⟩
  rw [← eb2] at hb20
  rw [← eb3] at hb30
  rw [← eb3, ← eb2]
  refine wp_loop_f 69 (zB1 W b2 b3 yn XE YE r a) (fun f _ => yn - (intOf (f 5)).toNat) rfl ⟨rfl, rfl, 0, by omega, rfl, ⟨hx0, hb20, hb30, fun j x hj => by omega⟩⟩ ?_
  clear hx0 hb20 hb30 eb2 eb3
  intro F V hrel
  obtain ⟨f2, f3, c, hc, f5, HI⟩ := hrel
  have H5 := hid_of f5
  rw [zframe69b, f2, f3, f5]
  clear f2 f3 f5
  obtain ⟨hx, hb2, hb3, hall⟩ := HI.out
  have HX := hid_of hx
  have HB2 := hid_of hb2
  have HB3 := hid_of hb3
  have HALL := hid_of hall
  clear HI hall
  by_cases hcn : c < yn
  rotate_left 1
  · have hcn' : ¬ (c : Int) < (yn : Int) := by omega
    have HP : Hid (Q (.returned (.bool true)) V) := by
      show Q _ _
      rw [HQ.out]
      refine ⟨?_, HX.out⟩
      have e : bndB r a = true := by
        unfold bndB
        exact all_yes (fun k x hx => HALL.out k x (by have := (List.getElem?_eq_some_iff.1 hx).1; have := HYN.out; omega) hx)
      rw [e]
    clear HALL hx
    go_wp2_with fail
    try go_ret
    exact HP.out
  have hcn' : (c : Int) < (yn : Int) := by omega
  have c0 : (0 : Int) ≤ (c : Int) := by omega
  have c2 : ((c : Int)).toNat = c := by omega
  have hca : c < a.args.length := by have := HYN.out; omega
  have htx := tA_at hca
  obtain ⟨bt, CT, eya, t1, t2, t3, t4⟩ := term_at HA.out hca
  dsimp only at eya
  obtain ⟨bt', CT', eya', t1', t2', t3'⟩ := HA.out.2.2 c _ htx
  dsimp only at eya'
  have ebt : bt' = bt := by rw [eya] at eya'; exact (congrArg Addr.block (Option.some.inj eya')).symm
  rw [ebt, t1] at t1'
  cases t1'
  subst eya
  have HT1 := hid_of t1
  have t5 : c * 2 < CT.length := by omega
  have t6 : c * 2 + 2 ≤ CT.length := by omega
  have hbt : blk V bt = some CT := (hx.blk (blk_lt t1)).trans t1
  obtain ⟨tt, ett⟩ : ∃ tt, tt = tA a c := ⟨_, rfl⟩
  rw [← ett] at t3 t3' htx
  have HTX := hid_of htx
  have HNX : Hid ((!tt.var || posT r tt) = true → ∀ j x, j < c + 1 → a.args[j]? = some x → (!x.var || posT r x) = true) := fun h j z hj hz => by
    by_cases e : j = c
    · rw [e, HTX.out] at hz
      rw [← Option.some.inj hz]; exact h
    · exact HALL.out j z (by omega) hz
  have HNO : Hid ((!tt.var || posT r tt) = false → bndB r a = false) := fun h => all_not HTX.out h
  obtain ⟨tv, etv⟩ : ∃ tv, tv = tt.var := ⟨_, rfl⟩
  rw [← etv] at t3
  have ETV := hid_of etv
  clear t1 t2 t4 t2' eya' htx ett etv hca hx HALL ebt
  cases tv with
  | false =>
    have HJ : Hid (W.Extends V ∧ blk V b2 = some XE ∧ blk V b3 = some YE ∧ ∀ j x, j < c + 1 → a.args[j]? = some x → (!x.var || posT r x) = true) := ⟨HX.out, HB2.out, HB3.out, HNX.out (by rw [← ETV.out]; rfl)⟩
    clear HNX HNO
    go_wp2_with fail
    refine ⟨rfl, rfl, ⟨rfl, rfl, c + 1, by omega, ?_, HJ⟩, ?_⟩
    · show Value.int .i64 _ = _
      go_num
    · show yn - (intOf (Value.int .i64 _)).toNat < yn - (intOf (F 5)).toNat
      rw [H5.out]
      simp [intOf]; omega
  | true =>
    have HB4 : Hid (W.Extends V ∧ blk V b2 = some XE ∧ blk V b3 = some YE ∧ false = (r.body.take 0).any (plT tt)) := ⟨HX.out, HB2.out, HB3.out, rfl⟩
    go_upto_region 7 with fail
    refine wp_loop_f 69 (zB2 W b2 b3 c xn XE YE r tt) (fun f _ => xn - (intOf (f 7)).toNat) rfl ⟨rfl, rfl, rfl, 0, false, by omega, rfl, rfl, HB4⟩ ?_
    clear HB4 hb2 hb3 hbt HX HB2 HB3
    intro F2 V2 hrel
    obtain ⟨f2, f3, f5, i, fd, hi, f7, f6, HI⟩ := hrel
    have H7 := hid_of f7
    rw [zframe69b, f2, f3, f5, f6, f7]
    clear f2 f3 f5 f6 f7
    obtain ⟨hx, hb2, hb3, hfd⟩ := HI.out
    have HX := hid_of hx
    have HB2 := hid_of hb2
    have HB3 := hid_of hb3
    have HFD := hid_of hfd
    clear HI hfd
    by_cases hin : i < xn
    rotate_left 1
    · have hin' : ¬ (i : Int) < (xn : Int) := by omega
      have HFP : Hid ((!tt.var || posT r tt) = fd) := by
        show _ = _
        rw [← ETV.out, HFD.out, List.take_of_length_le (by have := HXN.out; omega)]
        rfl
      cases fd with
      | true =>
        have HJ : Hid (W.Extends V2 ∧ blk V2 b2 = some XE ∧ blk V2 b3 = some YE ∧ ∀ j x, j < c + 1 → a.args[j]? = some x → (!x.var || posT r x) = true) := ⟨HX.out, HB2.out, HB3.out, HNX.out HFP.out⟩
        clear HNX HNO HFP HFD hx
        go_wp2_with fail
        refine ⟨rfl, rfl, ⟨rfl, rfl, c + 1, by omega, ?_, HJ⟩, ?_⟩
        · show Value.int .i64 _ = _
          go_num
        · show yn - (intOf (Value.int .i64 _)).toNat < yn - (intOf (F 5)).toNat
          rw [H5.out]
          simp [intOf]; omega
      | false =>
        have HP : Hid (Q (.returned (.bool false)) V2) := by
          show Q _ _
          rw [HQ.out]
          exact ⟨by rw [HNO.out HFP.out], HX.out⟩
        clear HNX HNO HFP HFD hx
        go_wp2_with fail
        try go_ret
        exact HP.out
    have hin' : (i : Int) < (xn : Int) := by omega
    have i0 : (0 : Int) ≤ (i : Int) := by omega
    have i2 : ((i : Int)).toNat = i := by omega
    obtain ⟨z, hz⟩ : ∃ z, r.body[i]? = some z := ⟨_, List.getElem?_eq_getElem (by rw [HXN.out]; exact hin)⟩
    obtain ⟨bl, CL, l, exa, g1, g2, g3, g4, g5, g6⟩ := lit_at HR.out hz
    dsimp only at exa
    subst exa
    obtain ⟨lp, la, ln, lc⟩ := l
    have hln : z.atom.args.length = ln := g6.2.1
    have g7 : nth CL (i * 3 + 2) = some (.slice la ln lc) := nth_in (j := 1) g5 (show nth (Atom.enc ⟨lp, ⟨la, ln, lc⟩⟩) 1 = some (.slice la ln lc) from rfl) (by omega)
    have hlb : ln ≤ 1000 := by have := HL.out.2.2 z (List.mem_of_getElem? hz); omega
    have HLN := hid_of hln
    have HG6 := hid_of g6
    have HG1 := hid_of g1
    have HZ := hid_of hz
    have d1 : i * 3 < CL.length := by omega
    have d2 : i * 3 + 2 < CL.length := by omega
    have hbl : blk V2 bl = some CL := (hx.blk (blk_lt g1)).trans g1
    obtain ⟨zn, ezn⟩ : ∃ zn, zn = z.neg := ⟨_, rfl⟩
    rw [← ezn] at g3
    have EZN := hid_of ezn
    have HB5 : Hid (W.Extends V2 ∧ blk V2 b2 = some XE ∧ blk V2 b3 = some YE ∧ fd = (fd || (!z.neg && (z.atom.args.take 0).any fun u => decide (u = tt)))) := ⟨HX.out, HB2.out, HB3.out, by simp⟩
    clear hz g1 g4 g5 g6 hln ezn g2 hx
    go_upto_region 10 with fail
    refine wp_loop_f 69 (zB3 W b2 b3 c i ln XE YE tt fd z) (fun f _ => ln - (intOf (f 8)).toNat) rfl ⟨rfl, rfl, rfl, rfl, 0, fd, by omega, rfl, rfl, HB5⟩ ?_
    clear HB5 hb2 hb3 hbl HX HB2 HB3
    intro F3 V3 hrel
    obtain ⟨f2, f3, f5, f7, k, fe, hk, f8, f6, HI⟩ := hrel
    have H8 := hid_of f8
    rw [zframe69b, f2, f3, f5, f6, f7, f8]
    clear f2 f3 f5 f6 f7 f8
    obtain ⟨hx, hb2, hb3, hfe⟩ := HI.out
    have HX := hid_of hx
    have HB2 := hid_of hb2
    have HB3 := hid_of hb3
    have HFE := hid_of hfe
    have hbl : blk V3 bl = some CL := (hx.blk (blk_lt HG1.out)).trans HG1.out
    have hbt : blk V3 bt = some CT := (hx.blk (blk_lt HT1.out)).trans HT1.out
    clear HI hfe
    by_cases hkn : k < ln
    rotate_left 1
    · have hkn' : ¬ (k : Int) < (ln : Int) := by omega
      have HJ : Hid (W.Extends V3 ∧ blk V3 b2 = some XE ∧ blk V3 b3 = some YE ∧ fe = (r.body.take (i + 1)).any (plT tt)) := by
        refine ⟨HX.out, HB2.out, HB3.out, ?_⟩
        rw [any_take HZ.out, ← HFD.out, HFE.out, List.take_of_length_le (by have := HLN.out; omega)]
        rfl
      clear HFE hx
      go_wp2_with fail
      refine ⟨rfl, rfl, ⟨rfl, rfl, rfl, i + 1, fe, by omega, ?_, rfl, HJ⟩, ?_⟩
      · show Value.int .i64 _ = _
        go_num
      · show xn - (intOf (Value.int .i64 _)).toNat < xn - (intOf (F2 7)).toNat
        rw [H7.out]
        simp [intOf]; omega
    have hkn' : (k : Int) < (ln : Int) := by omega
    have k0 : (0 : Int) ≤ (k : Int) := by omega
    have k2 : ((k : Int)).toNat = k := by omega
    have hka : k < z.atom.args.length := by have := HLN.out; omega
    have hux := tA_at hka
    obtain ⟨bu, CU, ela, u1, u2, u3⟩ := HG6.out.2.2 k _ hux
    dsimp only at ela
    subst ela
    dsimp only at u2
    have hkm : (k + 1) * 2 ≤ ln * 2 := Nat.mul_le_mul_right _ hkn
    have u5 : k * 2 + 2 ≤ CU.length := by omega
    have hbu : blk V3 bu = some CU := (hx.blk (blk_lt u1)).trans u1
    obtain ⟨uu, euu⟩ : ∃ uu, uu = tA z.atom k := ⟨_, rfl⟩
    rw [← euu] at u3 hux
    have HTK : Hid (∀ s' : Bool, s' = (fe || (!zn && decide (uu = tt))) → s' = (fd || (!z.neg && (z.atom.args.take (k + 1)).any fun u => decide (u = tt)))) := fun s' h9 => by
      rw [h9, HFE.out, ← EZN.out, any_take hux]
      cases fd <;> cases zn <;> simp
    have HDR : Hid (∀ q, W.Extends (V3.drewN q) ∧ blk (V3.drewN q) b2 = some XE ∧ blk (V3.drewN q) b3 = some YE) := fun q => ⟨extends_drewN HX.out q, HB2.out, HB3.out⟩
    clear hux u1 u2 hka hkm euu HFE hx
    cases zn with
    | true =>
      have HJ := hid_of (HTK.out fe (by simp))
      clear HTK
      go_upto_region 12 with fail
      go_quiet (fail)
      go_wp2_with fail
      refine ⟨rfl, rfl, ⟨rfl, rfl, rfl, rfl, k + 1, fe, by omega, ?_, rfl, (HDR.out _).1, (HDR.out _).2.1, (HDR.out _).2.2, HJ.out⟩, ?_⟩
      · show Value.int .i64 _ = _
        go_num
      · show ln - (intOf (Value.int .i64 _)).toNat < ln - (intOf (F3 8)).toNat
        rw [H8.out]
        simp [intOf]; omega
    | false =>
      by_cases hut : uu = tt
      · have hd : decide (uu = tt) = true := decide_eq_true hut
        have HJ := hid_of (HTK.out true (by rw [hd]; simp))
        obtain ⟨dd, edd⟩ : ∃ dd, dd = decide (uu = tt) := ⟨_, rfl⟩
        have hq1 : ∀ w x y, (cmpEq 226 x y (.agg uu.enc.toArray) (.agg tt.enc.toArray)).run Tryz.prog w = .ok (.value (.bool true)) w := fun w x y => by rw [eql226, hd]
        clear HTK hut edd hd
        go_upto_region 12 with fail
        go_quiet (fail)
        go_wp2_with fail
        refine ⟨rfl, rfl, ⟨rfl, rfl, rfl, rfl, k + 1, true, by omega, ?_, rfl, (HDR.out _).1, (HDR.out _).2.1, (HDR.out _).2.2, HJ.out⟩, ?_⟩
        · show Value.int .i64 _ = _
          go_num
        · show ln - (intOf (Value.int .i64 _)).toNat < ln - (intOf (F3 8)).toNat
          rw [H8.out]
          simp [intOf]; omega
      · have hd : decide (uu = tt) = false := decide_eq_false hut
        have HJ := hid_of (HTK.out fe (by rw [hd]; simp))
        have hq1 : ∀ w x y, (cmpEq 226 x y (.agg uu.enc.toArray) (.agg tt.enc.toArray)).run Tryz.prog w = .ok (.value (.bool false)) w := fun w x y => by rw [eql226, hd]
        clear HTK hd
        go_upto_region 12 with fail
        go_quiet (fail)
        go_wp2_with fail
        refine ⟨rfl, rfl, ⟨rfl, rfl, rfl, rfl, k + 1, fe, by omega, ?_, rfl, (HDR.out _).1, (HDR.out _).2.1, (HDR.out _).2.2, HJ.out⟩, ?_⟩
        · show Value.int .i64 _ = _
          go_num
        · show ln - (intOf (Value.int .i64 _)).toNat < ln - (intOf (F3 8)).toNat
          rw [H8.out]
          simp [intOf]; omega
end Go.Proofs.Qxb6500787aGreat
