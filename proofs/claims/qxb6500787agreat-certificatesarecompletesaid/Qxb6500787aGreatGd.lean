import Derived.Test.Qxb6500787aGreatGb
import Derived.Test.Qxb6500787aGreatGc
import Derived.Test.Qxb6500787aGreatPa

import Derived.StillTailTactics
import Derived.Deep.QuietTactic
import Derived.BigQuiet
import Derived.Deep.RegionHeld
import Derived.Deep.CutRange
import Derived.Laws.ResultCell
import Derived.Laws.Rows
import Derived.DeepKeys
import Derived.DataBytes
import Derived.Laws.StructEq
import Derived.Laws.AppendOwn
import Derived.Laws.MakeOwn
import Derived.Lib.AppendStr
set_option linter.unusedSimpArgs false
set_option linter.unusedVariables false
namespace Go.Proofs.Qxb6500787aGreat
open Go.RowKit Go.Blk
attribute [local go_sem ↓] execOp_load execOp_store execOp_alloc
attribute [local go_sem] Tryz.ld26 Tryz.st26 Tryz.ld27 Tryz.st27 Tryz.ld28 Tryz.st28 Tryz.ld3 Tryz.st3 Tryz.ld29 Tryz.st29 Tryz.ld44 Tryz.st44 Tryz.ld4 Tryz.st4 Tryz.ld50 Tryz.st50 Tryz.ld32 Tryz.st32 Tryz.ld49 Tryz.st49 Tryz.ld68 Tryz.st68 Tryz.ld9 Tryz.st9 Tryz.ld40 Tryz.st40 Tryz.ld138 Tryz.st138 Tryz.ld139 Tryz.st139 Tryz.ld146 Tryz.st146 Tryz.ld183 Tryz.st183 Tryz.ld184 Tryz.st184 Tryz.ld192 Tryz.st192 Tryz.ld195 Tryz.st195 Tryz.ld217 Tryz.st217 Tryz.ld159 Tryz.st159 Tryz.ld142 Tryz.st142 Tryz.ld2 Tryz.st2 Tryz.ld5 Tryz.st5 Tryz.ld12 Tryz.st12 Tryz.ld21 Tryz.st21 Tryz.ld22 Tryz.st22 Tryz.ld24 Tryz.st24 Tryz.ld58 Tryz.st58 Tryz.ld97 Tryz.st97 Tryz.ld101 Tryz.st101 Tryz.ld116 Tryz.st116 Tryz.ld121 Tryz.st121 Tryz.ld135 Tryz.st135 Tryz.ld136 Tryz.st136 Tryz.ld143 Tryz.st143 Tryz.ld148 Tryz.st148 Tryz.ld154 Tryz.st154 Tryz.ld173 Tryz.st173 Tryz.ld187 Tryz.st187 Tryz.ld222 Tryz.st222 Tryz.ld241 Tryz.st241 Tryz.ld248 Tryz.st248 Tryz.ld268 Tryz.st268 Tryz.ld272 Tryz.st272 Tryz.ld153 Tryz.st153 Tryz.ld255 Tryz.st255 Tryz.ld256 Tryz.st256 Tryz.ld129 Tryz.st129 Tryz.ld152 Tryz.st152 Tryz.ld31 Tryz.st31 Tryz.ld46 Tryz.st46 Tryz.ld52 Tryz.st52 Tryz.ld54 Tryz.st54 Tryz.ld60 Tryz.st60 Tryz.ld70 Tryz.st70 Tryz.ld74 Tryz.st74 Tryz.ld93 Tryz.st93 Tryz.ld141 Tryz.st141 Tryz.ld151 Tryz.st151 Tryz.ld170 Tryz.st170 Tryz.ld186 Tryz.st186 Tryz.ld189 Tryz.st189 Tryz.ld194 Tryz.st194 Tryz.ld197 Tryz.st197 Tryz.ld219 Tryz.st219 Tryz.ld224 Tryz.st224 Tryz.ld230 Tryz.st230 Tryz.ld235 Tryz.st235 Tryz.ld243 Tryz.st243 Tryz.ld247 Tryz.st247 Tryz.ld252 Tryz.st252 Tryz.ld258 Tryz.st258 Tryz.al153 Tryz.al255 Tryz.al256 Tryz.al129 Tryz.al152 Tryz.al31 Tryz.al46 Tryz.al52 Tryz.al54 Tryz.al60 Tryz.al70 Tryz.al74 Tryz.al93 Tryz.al141 Tryz.al151 Tryz.al170 Tryz.al186 Tryz.al189 Tryz.al194 Tryz.al197 Tryz.al219 Tryz.al224 Tryz.al230 Tryz.al235 Tryz.al243 Tryz.al247 Tryz.al252 Tryz.al258
attribute [local go_sem] Request.length_enc Request.ok_enc Request.all_get Request.all_set Request.kind_get Request.kind_set Request.blob_get Request.blob_set Request.items_get Request.items_set Request.pred_get Request.pred_set Request.slots_get Request.slots_set Trace.length_enc Trace.ok_enc Trace.all_get Trace.all_set Trace.op_get Trace.op_set Trace.calls_get Trace.calls_set Item.length_enc Item.ok_enc Item.all_get Item.all_set Item.del_get Item.del_set Item.pred_get Item.pred_set Item.args_get Item.args_set Reply.length_enc Reply.ok_enc Reply.all_get Reply.all_set Reply.code_get Reply.code_set Reply.kind_get Reply.kind_set Reply.index_get Reply.index_set Reply.yes_get Reply.yes_set Reply.preds_get Reply.preds_set Reply.rules_get Reply.rules_set Reply.arity_get Reply.arity_set Reply.rows_get Reply.rows_set Reply.fact_get Reply.fact_set Reply.fact_del_get Reply.fact_del_set Reply.fact_pred_get Reply.fact_pred_set Reply.fact_args_get Reply.fact_args_set GEntry.length_enc GEntry.ok_enc GEntry.all_get GEntry.all_set GEntry.seq_get GEntry.seq_set GEntry.kind_get GEntry.kind_set GEntry.code_get GEntry.code_set GOp.length_enc GOp.ok_enc GOp.all_get GOp.all_set GOp.kind_get GOp.kind_set GOp.raw_get GOp.raw_set Reader.length_enc Reader.ok_enc Reader.all_get Reader.all_set Reader.buf_get Reader.buf_set Reader.at__get Reader.at__set Slot.length_enc Slot.ok_enc Slot.all_get Slot.all_set Slot.bound_get Slot.bound_set Slot.name_get Slot.name_set Session.length_enc Session.ok_enc Session.all_get Session.all_set Session.svc_get Session.svc_set Session.buf_get Session.buf_set Session.closed_get Session.closed_set GProgram.length_enc GProgram.ok_enc GProgram.all_get GProgram.all_set GProgram.pool_get GProgram.pool_set GProgram.preds_get GProgram.preds_set GProgram.rules_get GProgram.rules_set GProgram.strata_get GProgram.strata_set PredInfo.length_enc PredInfo.ok_enc PredInfo.all_get PredInfo.all_set PredInfo.arity_get PredInfo.arity_set PredInfo.base_get PredInfo.base_set PredInfo.stratum_get PredInfo.stratum_set Change.length_enc Change.ok_enc Change.all_get Change.all_set Change.del_get Change.del_set Change.pred_get Change.pred_set Change.t_get Change.t_set Store.length_enc Store.ok_enc Store.all_get Store.all_set Store.names_get Store.names_set Store.arity_get Store.arity_set Store.rows_get Store.rows_set Src.length_enc Src.ok_enc Src.all_get Src.all_set Src.b_get Src.b_set Src.at__get Src.at__set Atom.length_enc Atom.ok_enc Atom.all_get Atom.all_set Atom.pred_get Atom.pred_set Atom.args_get Atom.args_set GRule.length_enc GRule.ok_enc GRule.all_get GRule.all_set GRule.head_get GRule.head_set GRule.body_get GRule.body_set GRule.head_pred_get GRule.head_pred_set GRule.head_args_get GRule.head_args_set Cert.length_enc Cert.ok_enc Cert.all_get Cert.all_set Cert.names_get Cert.names_set Cert.nodes_get Cert.nodes_set Fact.length_enc Fact.ok_enc Fact.all_get Fact.all_set Fact.pred_get Fact.pred_set Fact.t_get Fact.t_set Literal.length_enc Literal.ok_enc Literal.all_get Literal.all_set Literal.neg_get Literal.neg_set Literal.atom_get Literal.atom_set Literal.atom_pred_get Literal.atom_pred_set Literal.atom_args_get Literal.atom_args_set Engine.length_enc Engine.ok_enc Engine.all_get Engine.all_set Engine.prog_get Engine.prog_set Engine.st_get Engine.st_set SrcCertm.length_enc SrcCertm.ok_enc SrcCertm.all_get SrcCertm.all_set SrcCertm.b_get SrcCertm.b_set SrcCertm.at__get SrcCertm.at__set GNode.length_enc GNode.ok_enc GNode.all_get GNode.all_set GNode.rule_get GNode.rule_set GNode.pred_get GNode.pred_set GNode.vals_get GNode.vals_set GNode.refs_get GNode.refs_set Term.length_enc Term.ok_enc Term.all_get Term.all_set Term.var_get Term.var_set Term.n_get Term.n_set Env.length_enc Env.ok_enc Env.all_get Env.all_set Env.val_get Env.val_set Env.set_get Env.set_set
attribute [local go_sem] size_put size_ext blk_put free_put blk_alloc free_alloc blk_drew free_drew blk_ext free_ext lookOr_some putOr_some segAt_some cellAt_some storeIn_some put_put put_alloc_new length_arr ok_arr_u8 ok_arr_u32 ok_arr_u64 ok_arr_i64 ok_arr_sl cellsV_agg cellsV_int cellsV_bool cellsV_string cellsV_pointer cellsV_slice cellsV_sl ok_int ok_bool ok_string ok_pointer ok_slice ok_sl toList_arr seg_arr set_arr nth_splice nth_splice0 seg_splice seg_splice0 splice_splice splice_splice0 length_splice_if
attribute [local go_sem ↓] execOp_box
attribute [local go_sem] box_run nth_arr_u8 put_arr_u8 blk_drewN free_drewN put_drewN blk_raw free_raw
def enc2 (x : Int) : List UInt8 := [UInt8.ofNat (x.toNat / 256), UInt8.ofNat (x.toNat % 256)]
theorem encRf_eq (v : List Int) : encRf v = UInt8.ofNat v.length :: v.flatMap enc2 := rfl
theorem enc2_len : ∀ (v : List Int), (v.flatMap enc2).length = 2 * v.length
  | [] => rfl
  | x :: v => by rw [List.flatMap_cons, List.length_append, enc2_len v, List.length_cons]; show 2 + _ = _; omega
theorem zint_at {W : World} {a : Option Addr} {n : Nat} {v : List Int} (h : Rw encZ 1 W a n v) {i : Nat} {x : Int} (hx : v[i]? = some x) : ∃ (b : Nat) (C : List Value), a = some ⟨b, 0, none⟩ ∧ blk W b = some C ∧ i < C.length ∧ nth C i = some (.int .i64 x) := by
  obtain ⟨b, C, e, g1, g2, g3⟩ := h.2 i x hx
  have hi : i < n := by have := (List.getElem?_eq_some_iff.1 hx).1; have := h.1; omega
  refine ⟨b, C, e, g1, by omega, ?_⟩
  have h8 := nth_in (j := 0) g3 (show nth (encZ x) 0 = some (.int .i64 x) from rfl) (by omega)
  rw [Nat.mul_one, Nat.add_zero] at h8
  exact h8
def zRf (w0 : World) (zs : List UInt8) (v : List Int) (ra : Option Addr) (rn rc : Nat) (f : Nat → Value) (V : World) : Prop := f 1 = .slice ra rn rc ∧ ∃ (i : Nat) (a : Option Addr) (n c : Nat), i ≤ rn ∧ f 5 = .int .i64 (i : Nat) ∧ f 0 = .slice a n c ∧ Hid (Ob w0 V a n c (zs ++ (v.take i).flatMap enc2))
set_option maxRecDepth 100000 in
theorem zframe34r (f : Nat → Value) : frameN 34 f = #[f 0, f 1, f 2, f 3, f 4, f 5, f 6, f 7, f 8, f 9, f 10, f 11, f 12, f 13, f 14, f 15, f 16, f 17, f 18, f 19, f 20, f 21, f 22, f 23, f 24, f 25, f 26, f 27, f 28, f 29, f 30, f 31, f 32, f 33] := by kernel_rfl
attribute [local go_sem ↓] execOp_bslice
attribute [local go_sem] bslice27a bslice27b
set_option maxRecDepth 20000 in
set_option maxHeartbeats 1000000 in
theorem putRefs_any (w0 W : World) (a : Option Addr) (n c : Nat) (zs : List UInt8) (h : Ob w0 W a n c zs) (hl : zs.length ≤ 300000) (ra : Option Addr) (rn rc : Nat) (v : List Int) (hrn : rn ≤ 255) (hR : Rw encZ 1 w0 ra rn v) (hV : ∀ x ∈ v, 0 ≤ x ∧ x ≤ 65535) : Calls Tryz.prog 124 #[.slice a n c, .slice ra rn rc] W fun e V => ∃ a n c, e = .returned (.slice a n c) ∧ Ob w0 V a n c (zs ++ encRf v) := by
  obtain ⟨Q, hQ⟩ : ∃ Q : Ending → World → Prop, Q = fun e V => ∃ a n c, e = .returned (.slice a n c) ∧ Ob w0 V a n c (zs ++ encRf v) := ⟨_, rfl⟩
  rw [← hQ]
  have HQ := hid_of hQ
  have HR := hid_of hR
  have HV := hid_of hV
  have hvl : v.length = rn := hR.1
  have HVL := hid_of hvl
  have hu : bv [UInt8.ofNat rn] = [.int .u8 (rn : Int)] := by
    show List.map u8v _ = _
    rw [List.map_cons, List.map_nil, u8_ofk _ hrn]
  obtain ⟨a1, c1, W1, hr1, ho1, hn1⟩ := ob_app h (by omega) [UInt8.ofNat rn] (by simp) (by simp) #[.int .u8 (rn : Int)] (by rw [hu]) 1 rfl
  have w1 : IntKind.u8.wrap (rn : Int) = (rn : Int) := by rw [IntKind.wrap_u8]; omega
  have HO1 : Hid (Ob w0 W1 a1 (n + 1) c1 ((zs ++ [UInt8.ofNat rn]) ++ (v.take 0).flatMap enc2)) := by
    show Ob _ _ _ _ _ _
    simpa using ho1
  have hzl : (zs ++ [UInt8.ofNat rn]).length ≤ 300001 := by rw [List.length_append, List.length_singleton]; omega
  have HZ : Hid (zs ++ encRf v = (zs ++ [UInt8.ofNat rn]) ++ v.flatMap enc2) := by
    show _ = _
    rw [encRf_eq, hvl, List.append_assoc]; rfl
  clear hQ h hR hV hvl hu ho1 hn1
  obtain ⟨ys, eys⟩ : ∃ ys, ys = zs ++ [UInt8.ofNat rn] := ⟨_, rfl⟩
  rw [← eys] at HO1 HZ hzl
  clear eys
  go_enter Tryz.func124, Tryz.ntmps124
  go_upto_region 3 with (at_builtin; refine wpList_append_run rfl _ _ 31 rfl _ _ _ _ rfl rfl hr1 ?_)
  refine wp_loop_f 34 (zRf w0 ys v ra rn rc) (fun f _ => rn - (intOf (f 5)).toNat) rfl ⟨rfl, 0, a1, n + 1, c1, by omega, rfl, rfl, HO1⟩ ?_
  clear HO1 hr1
  intro F V hrel
  obtain ⟨f1, i, a2, n2, c2, hi, f5, f0, HI⟩ := hrel
  have H5 := hid_of f5
  rw [zframe34r, f0, f1, f5]
  clear f0 f1 f5
  by_cases hin : i < rn
  rotate_left 1
  · obtain rfl : i = rn := by omega
    have hin' : ¬ (i : Int) < (i : Int) := by omega
    have HP : Hid (Q (.returned (.slice a2 n2 c2)) V) := by
      show Q _ _
      rw [HQ.out]
      have h9 := HI.out
      rw [List.take_of_length_le (by rw [HVL.out]; omega), ← HZ.out] at h9
      exact ⟨a2, n2, c2, rfl, h9⟩
    clear HI
    go_wp2_with fail
    try go_ret
    exact HP.out
  have hin' : (i : Int) < (rn : Int) := by omega
  have p0 : (0 : Int) ≤ (i : Int) := by omega
  have p2 : ((i : Int)).toNat = i := by omega
  obtain ⟨x, hx⟩ : ∃ x, v[i]? = some x := ⟨_, List.getElem?_eq_getElem (by rw [HVL.out]; exact hin)⟩
  obtain ⟨hx0, hx1⟩ := HV.out x (List.mem_of_getElem? hx)
  obtain ⟨xn, exn⟩ : ∃ xn : Nat, x = (xn : Int) := ⟨x.toNat, by omega⟩
  subst exn
  obtain ⟨b1, C1, rfl, g1, g2, g3⟩ := zint_at HR.out hx
  have hb1 : blk V b1 = some C1 := (HI.out.2.1.blk (blk_lt g1)).trans g1
  obtain ⟨q1, eq1⟩ : ∃ q1 : Nat, q1 = xn / 256 := ⟨_, rfl⟩
  obtain ⟨q2, eq2⟩ : ∃ q2 : Nat, q2 = xn % 256 := ⟨_, rfl⟩
  have hd1 : Int.tdiv (xn : Int) 256 = (q1 : Int) := by rw [eq1]; rfl
  have hd2 : Int.tmod (xn : Int) 256 = (q2 : Int) := by rw [eq2]; rfl
  have b1' : q1 ≤ 255 := by omega
  have b2' : q2 ≤ 255 := by omega
  have u1 : IntKind.u8.wrap (q1 : Int) = (q1 : Int) := by rw [IntKind.wrap_u8]; omega
  have u2 : IntKind.u8.wrap (q2 : Int) = (q2 : Int) := by rw [IntKind.wrap_u8]; omega
  have w1' : IntKind.i64.wrap (q1 : Int) = (q1 : Int) := by rw [IntKind.wrap_i64]; omega
  have w2' : IntKind.i64.wrap (q2 : Int) = (q2 : Int) := by rw [IntKind.wrap_i64]; omega
  have htl : (ys ++ (v.take i).flatMap enc2).length ≤ 1000000 := by
    rw [List.length_append, enc2_len, List.length_take]; omega
  have hu : bv [UInt8.ofNat q1, UInt8.ofNat q2] = [.int .u8 (q1 : Int), .int .u8 (q2 : Int)] := by
    show List.map u8v _ = _
    rw [List.map_cons, List.map_cons, List.map_nil, u8_ofk _ b1', u8_ofk _ b2']
  have hOd : Ob w0 V.drew a2 n2 c2 (ys ++ (v.take i).flatMap enc2) := HI.out.ext (extends_drew (ext_Ext (Ext.refl _)))
  obtain ⟨a3, c3, W3, hr2, ho3, hn3⟩ := ob_app hOd htl [UInt8.ofNat q1, UInt8.ofNat q2] (by simp) (by simp) #[.int .u8 (q1 : Int), .int .u8 (q2 : Int)] (by rw [hu]) 2 rfl
  have HJ : Hid (Ob w0 W3 a3 (n2 + 2) c3 (ys ++ (v.take (i + 1)).flatMap enc2)) := by
    show Ob _ _ _ _ _ _
    rw [take_at hx, List.flatMap_append, List.flatMap_cons, List.flatMap_nil, List.append_nil, ← List.append_assoc]
    have e9 : enc2 (xn : Int) = [UInt8.ofNat q1, UInt8.ofNat q2] := by unfold enc2; rw [Int.toNat_natCast, eq1, eq2]
    rw [e9]
    exact ho3
  have hSa : ∀ A, blk (V.drew.alloc (.cells A 5)) b1 = some C1 := fun A => by
    have hx9 : V.drew.Extends (V.drew.alloc (.cells A 5)) := extends_alloc (ext_Ext (Ext.refl _)) _
    exact (hx9.blk (blk_lt hb1)).trans hb1
  have hSe : blk W3 b1 = some C1 := (ho3.2.1.blk (blk_lt g1)).trans g1
  clear hu ho3 hn3 HI hx g1 htl hOd eq1 eq2 hx0 hx1
  go_upto_region 5 with fail
  repeat go_step
  refine wp_region_held_drew (S := fun W' => blk W' b1 = some C1) (by kernel_rfl) hb1 (fun hHeld => ?_)
  refine wpAnyH_take (i := 0) (oi := ⟨_, _, _, _, _, _⟩) (v := ?_) rfl (by kernel_rfl) (by kernel_rfl) (by kernel_rfl) (fun _ _ _ h => h) (Or.inl ⟨by rfl, ?_⟩) (by assumption) ?_
  rotate_left 1
  · intro W' hSw
    go_simp
    try with_reducible rfl
  try simp only [Act.put, List.setIfInBounds_toArray, List.set_cons_zero, List.set_cons_succ]
  refine wpAnyH_take (i := 1) (oi := ⟨_, _, _, _, _, _⟩) (v := ?_) rfl (by kernel_rfl) (by kernel_rfl) (by kernel_rfl) (fun _ _ _ h => h) (Or.inl ⟨by rfl, ?_⟩) (by assumption) ?_
  rotate_left 1
  · intro W' hSw
    go_simp
    try with_reducible rfl
  try simp only [Act.put, List.setIfInBounds_toArray, List.set_cons_zero, List.set_cons_succ]
  refine wpAnyH_take (i := 2) (oi := ⟨_, _, _, _, _, _⟩) (v := ?_) rfl (by kernel_rfl) (by kernel_rfl) (by kernel_rfl) (fun _ _ _ h => h) (Or.inl ⟨by rfl, ?_⟩) (by assumption) ?_
  rotate_left 1
  · intro W' hSw
    go_simp
    try with_reducible rfl
  try simp only [Act.put, List.setIfInBounds_toArray, List.set_cons_zero, List.set_cons_succ]
  refine wpAnyH_take (i := 3) (oi := ⟨_, _, _, _, _, _⟩) (v := ?_) rfl (by kernel_rfl) (by kernel_rfl) (by kernel_rfl) (fun _ _ _ h => h) (Or.inl ⟨by rfl, ?_⟩) (by assumption) ?_
  rotate_left 1
  · intro W' hSw
    go_simp
    try with_reducible rfl
  try simp only [Act.put, List.setIfInBounds_toArray, List.set_cons_zero, List.set_cons_succ]
  refine wpAnyH_take (i := 4) (oi := ⟨_, _, _, _, _, _⟩) (v := ?_) rfl (by kernel_rfl) (by kernel_rfl) (by kernel_rfl) (fun _ _ _ h => h) (Or.inl ⟨by rfl, ?_⟩) (by assumption) ?_
  rotate_left 1
  · intro W' hSw
    go_simp
    try with_reducible rfl
  try simp only [Act.put, List.setIfInBounds_toArray, List.set_cons_zero, List.set_cons_succ]
  refine wpAnyH_take (i := 5) (oi := ⟨_, _, _, _, _, _⟩) (v := ?_) rfl (by kernel_rfl) (by kernel_rfl) (by kernel_rfl) (fun _ _ _ h => h) (Or.inl ⟨by rfl, ?_⟩) (by assumption) ?_
  rotate_left 1
  · intro W' hSw
    go_simp
    try with_reducible rfl
  try simp only [Act.put, List.setIfInBounds_toArray, List.set_cons_zero, List.set_cons_succ]
  refine wpAnyH_take (i := 6) (oi := ⟨_, _, _, _, _, _⟩) (v := ?_) rfl (by kernel_rfl) (by kernel_rfl) (by kernel_rfl) (fun _ _ _ h => h) (Or.inl ⟨by rfl, ?_⟩) (by assumption) ?_
  rotate_left 1
  · intro W' hSw
    go_simp
    try with_reducible rfl
  try simp only [Act.put, List.setIfInBounds_toArray, List.set_cons_zero, List.set_cons_succ]
  refine wpAnyH_take (i := 7) (oi := ⟨_, _, _, _, _, _⟩) (v := ?_) rfl (by kernel_rfl) (by kernel_rfl) (by kernel_rfl) (fun _ _ _ h => h) (Or.inl ⟨by rfl, ?_⟩) (by assumption) ?_
  rotate_left 1
  · intro W' hSw
    go_simp
    try with_reducible rfl
  try simp only [Act.put, List.setIfInBounds_toArray, List.set_cons_zero, List.set_cons_succ]
  refine wpAnyH_take (i := 8) (oi := ⟨_, _, _, _, _, _⟩) (v := ?_) rfl (by kernel_rfl) (by kernel_rfl) (by kernel_rfl) (fun _ _ _ h => h) (Or.inl ⟨by rfl, ?_⟩) (by assumption) ?_
  rotate_left 1
  · intro W' hSw
    go_simp
    try with_reducible rfl
  try simp only [Act.put, List.setIfInBounds_toArray, List.set_cons_zero, List.set_cons_succ]
  refine wpAnyH_take (i := 9) (oi := ⟨_, _, _, _, _, _⟩) (v := ?_) rfl (by kernel_rfl) (by kernel_rfl) (by kernel_rfl) (fun _ _ _ h => h) (Or.inl ⟨by rfl, ?_⟩) (by assumption) ?_
  rotate_left 1
  · intro W' hSw
    go_simp
    try with_reducible rfl
  try simp only [Act.put, List.setIfInBounds_toArray, List.set_cons_zero, List.set_cons_succ]
  refine wpAnyH_take (i := 10) (oi := ⟨_, _, _, _, _, _⟩) (v := ?_) rfl (by kernel_rfl) (by kernel_rfl) (by kernel_rfl) (fun _ _ _ h => h) (Or.inl ⟨by rfl, ?_⟩) (by assumption) ?_
  rotate_left 1
  · intro W' hSw
    go_simp
    try with_reducible rfl
  try simp only [Act.put, List.setIfInBounds_toArray, List.set_cons_zero, List.set_cons_succ]
  refine wpAnyH_take (i := 11) (oi := ⟨_, _, _, _, _, _⟩) (v := ?_) rfl (by kernel_rfl) (by kernel_rfl) (by kernel_rfl) (fun _ _ _ h => h) (Or.inl ⟨by rfl, ?_⟩) (by assumption) ?_
  rotate_left 1
  · intro W' hSw
    go_simp
    try with_reducible rfl
  try simp only [Act.put, List.setIfInBounds_toArray, List.set_cons_zero, List.set_cons_succ]
  refine wpAnyH_take (i := 12) (oi := ⟨_, _, _, _, _, _⟩) (v := ?_) rfl (by kernel_rfl) (by kernel_rfl) (by kernel_rfl) (fun _ _ _ h => h) (Or.inl ⟨by rfl, ?_⟩) (by assumption) ?_
  rotate_left 1
  · intro W' hSw
    go_simp
    try with_reducible rfl
  try simp only [Act.put, List.setIfInBounds_toArray, List.set_cons_zero, List.set_cons_succ]
  refine wpAnyH_ready (rs := [13]) (by kernel_rfl) (by simp) ?_
  refine AllReadyH.cons (o := ⟨_, _, _, _, _, _⟩) rfl (fun K' hK => ?_) AllReadyH.nil
  go_simp
  refine hK.out _ _ (hSa _) (fun hHeld => ?_)
  clear hK K'
  try simp only [Act.put, List.setIfInBounds_toArray, List.set_cons_zero, List.set_cons_succ]
  refine wpAnyH_ready (rs := [14]) (by kernel_rfl) (by simp) ?_
  refine AllReadyH.cons (o := ⟨_, _, _, _, _, _⟩) rfl (fun K' hK => ?_) AllReadyH.nil
  refine wp_append_run _ _ 31 rfl _ _ _ _ rfl rfl hr2 ?_
  refine hK.out _ _ hSe (fun hHeld => ?_)
  clear hK K'
  try simp only [Act.put, List.setIfInBounds_toArray, List.set_cons_zero, List.set_cons_succ]
  refine wpAnyH_take (i := 15) (oi := ⟨_, _, _, _, _, _⟩) (v := ?_) rfl (by kernel_rfl) (by kernel_rfl) (by kernel_rfl) (fun _ _ _ h => h) (Or.inl ⟨by rfl, ?_⟩) (by assumption) ?_
  rotate_left 1
  · intro W' hSw
    go_simp
    try with_reducible rfl
  try simp only [Act.put, List.setIfInBounds_toArray, List.set_cons_zero, List.set_cons_succ]
  refine wpAnyH_done (by kernel_rfl) ?_ _
  clear hHeld hSa hSe
  go_wp2_with fail
  refine ⟨rfl, rfl, ⟨rfl, i + 1, a3, n2 + 2, c3, by omega, ?_, rfl, HJ⟩, ?_⟩
  · show Value.int .i64 _ = _
    go_num
  · show rn - (intOf (Value.int .i64 _)).toNat < rn - (intOf (F 5)).toNat
    rw [H5.out]
    simp [intOf]; omega
end Go.Proofs.Qxb6500787aGreat
