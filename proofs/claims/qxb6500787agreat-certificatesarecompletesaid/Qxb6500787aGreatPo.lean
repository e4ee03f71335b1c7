import Derived.Test.Qxb6500787aGreatPn
import Derived.Test.Qxb6500787aGreatXf
import Derived.Test.Qxb6500787aGreatPf

import Derived.StillTailTactics
import Derived.Deep.QuietTactic
import Derived.BigQuiet
import Derived.Deep.RegionHeld
import Derived.Deep.CutRange
import Derived.Laws.ResultCell
import Derived.Laws.Rows
import Derived.DeepKeys
import Derived.DataBytes
import Derived.Laws.StructEq
import Derived.Laws.AppendOwn
import Derived.Laws.MakeOwn
import Derived.Lib.AppendStr
set_option linter.unusedSimpArgs false
set_option linter.unusedVariables false
namespace Go.Proofs.Qxb6500787aGreat
open Go.RowKit Go.Blk
attribute [local go_sem ↓] execOp_load execOp_store execOp_alloc
attribute [local go_sem] Tryz.ld26 Tryz.st26 Tryz.ld27 Tryz.st27 Tryz.ld28 Tryz.st28 Tryz.ld3 Tryz.st3 Tryz.ld29 Tryz.st29 Tryz.ld44 Tryz.st44 Tryz.ld4 Tryz.st4 Tryz.ld50 Tryz.st50 Tryz.ld32 Tryz.st32 Tryz.ld49 Tryz.st49 Tryz.ld68 Tryz.st68 Tryz.ld9 Tryz.st9 Tryz.ld40 Tryz.st40 Tryz.ld138 Tryz.st138 Tryz.ld139 Tryz.st139 Tryz.ld146 Tryz.st146 Tryz.ld183 Tryz.st183 Tryz.ld184 Tryz.st184 Tryz.ld192 Tryz.st192 Tryz.ld195 Tryz.st195 Tryz.ld217 Tryz.st217 Tryz.ld159 Tryz.st159 Tryz.ld142 Tryz.st142 Tryz.ld2 Tryz.st2 Tryz.ld5 Tryz.st5 Tryz.ld12 Tryz.st12 Tryz.ld21 Tryz.st21 Tryz.ld22 Tryz.st22 Tryz.ld24 Tryz.st24 Tryz.ld58 Tryz.st58 Tryz.ld97 Tryz.st97 Tryz.ld101 Tryz.st101 Tryz.ld116 Tryz.st116 Tryz.ld121 Tryz.st121 Tryz.ld135 Tryz.st135 Tryz.ld136 Tryz.st136 Tryz.ld143 Tryz.st143 Tryz.ld148 Tryz.st148 Tryz.ld154 Tryz.st154 Tryz.ld173 Tryz.st173 Tryz.ld187 Tryz.st187 Tryz.ld222 Tryz.st222 Tryz.ld241 Tryz.st241 Tryz.ld248 Tryz.st248 Tryz.ld268 Tryz.st268 Tryz.ld272 Tryz.st272 Tryz.ld153 Tryz.st153 Tryz.ld255 Tryz.st255 Tryz.ld256 Tryz.st256 Tryz.ld129 Tryz.st129 Tryz.ld152 Tryz.st152 Tryz.ld31 Tryz.st31 Tryz.ld46 Tryz.st46 Tryz.ld52 Tryz.st52 Tryz.ld54 Tryz.st54 Tryz.ld60 Tryz.st60 Tryz.ld70 Tryz.st70 Tryz.ld74 Tryz.st74 Tryz.ld93 Tryz.st93 Tryz.ld141 Tryz.st141 Tryz.ld151 Tryz.st151 Tryz.ld170 Tryz.st170 Tryz.ld186 Tryz.st186 Tryz.ld189 Tryz.st189 Tryz.ld194 Tryz.st194 Tryz.ld197 Tryz.st197 Tryz.ld219 Tryz.st219 Tryz.ld224 Tryz.st224 Tryz.ld230 Tryz.st230 Tryz.ld235 Tryz.st235 Tryz.ld243 Tryz.st243 Tryz.ld247 Tryz.st247 Tryz.ld252 Tryz.st252 Tryz.ld258 Tryz.st258 Tryz.al153 Tryz.al255 Tryz.al256 Tryz.al129 Tryz.al152 Tryz.al31 Tryz.al46 Tryz.al52 Tryz.al54 Tryz.al60 Tryz.al70 Tryz.al74 Tryz.al93 Tryz.al141 Tryz.al151 Tryz.al170 Tryz.al186 Tryz.al189 Tryz.al194 Tryz.al197 Tryz.al219 Tryz.al224 Tryz.al230 Tryz.al235 Tryz.al243 Tryz.al247 Tryz.al252 Tryz.al258
attribute [local go_sem] Request.length_enc Request.ok_enc Request.all_get Request.all_set Request.kind_get Request.kind_set Request.blob_get Request.blob_set Request.items_get Request.items_set Request.pred_get Request.pred_set Request.slots_get Request.slots_set Trace.length_enc Trace.ok_enc Trace.all_get Trace.all_set Trace.op_get Trace.op_set Trace.calls_get Trace.calls_set Item.length_enc Item.ok_enc Item.all_get Item.all_set Item.del_get Item.del_set Item.pred_get Item.pred_set Item.args_get Item.args_set Reply.length_enc Reply.ok_enc Reply.all_get Reply.all_set Reply.code_get Reply.code_set Reply.kind_get Reply.kind_set Reply.index_get Reply.index_set Reply.yes_get Reply.yes_set Reply.preds_get Reply.preds_set Reply.rules_get Reply.rules_set Reply.arity_get Reply.arity_set Reply.rows_get Reply.rows_set Reply.fact_get Reply.fact_set Reply.fact_del_get Reply.fact_del_set Reply.fact_pred_get Reply.fact_pred_set Reply.fact_args_get Reply.fact_args_set GEntry.length_enc GEntry.ok_enc GEntry.all_get GEntry.all_set GEntry.seq_get GEntry.seq_set GEntry.kind_get GEntry.kind_set GEntry.code_get GEntry.code_set GOp.length_enc GOp.ok_enc GOp.all_get GOp.all_set GOp.kind_get GOp.kind_set GOp.raw_get GOp.raw_set Reader.length_enc Reader.ok_enc Reader.all_get Reader.all_set Reader.buf_get Reader.buf_set Reader.at__get Reader.at__set Slot.length_enc Slot.ok_enc Slot.all_get Slot.all_set Slot.bound_get Slot.bound_set Slot.name_get Slot.name_set Session.length_enc Session.ok_enc Session.all_get Session.all_set Session.svc_get Session.svc_set Session.buf_get Session.buf_set Session.closed_get Session.closed_set GProgram.length_enc GProgram.ok_enc GProgram.all_get GProgram.all_set GProgram.pool_get GProgram.pool_set GProgram.preds_get GProgram.preds_set GProgram.rules_get GProgram.rules_set GProgram.strata_get GProgram.strata_set PredInfo.length_enc PredInfo.ok_enc PredInfo.all_get PredInfo.all_set PredInfo.arity_get PredInfo.arity_set PredInfo.base_get PredInfo.base_set PredInfo.stratum_get PredInfo.stratum_set Change.length_enc Change.ok_enc Change.all_get Change.all_set Change.del_get Change.del_set Change.pred_get Change.pred_set Change.t_get Change.t_set Store.length_enc Store.ok_enc Store.all_get Store.all_set Store.names_get Store.names_set Store.arity_get Store.arity_set Store.rows_get Store.rows_set Src.length_enc Src.ok_enc Src.all_get Src.all_set Src.b_get Src.b_set Src.at__get Src.at__set Atom.length_enc Atom.ok_enc Atom.all_get Atom.all_set Atom.pred_get Atom.pred_set Atom.args_get Atom.args_set GRule.length_enc GRule.ok_enc GRule.all_get GRule.all_set GRule.head_get GRule.head_set GRule.body_get GRule.body_set GRule.head_pred_get GRule.head_pred_set GRule.head_args_get GRule.head_args_set Cert.length_enc Cert.ok_enc Cert.all_get Cert.all_set Cert.names_get Cert.names_set Cert.nodes_get Cert.nodes_set Fact.length_enc Fact.ok_enc Fact.all_get Fact.all_set Fact.pred_get Fact.pred_set Fact.t_get Fact.t_set Literal.length_enc Literal.ok_enc Literal.all_get Literal.all_set Literal.neg_get Literal.neg_set Literal.atom_get Literal.atom_set Literal.atom_pred_get Literal.atom_pred_set Literal.atom_args_get Literal.atom_args_set Engine.length_enc Engine.ok_enc Engine.all_get Engine.all_set Engine.prog_get Engine.prog_set Engine.st_get Engine.st_set SrcCertm.length_enc SrcCertm.ok_enc SrcCertm.all_get SrcCertm.all_set SrcCertm.b_get SrcCertm.b_set SrcCertm.at__get SrcCertm.at__set GNode.length_enc GNode.ok_enc GNode.all_get GNode.all_set GNode.rule_get GNode.rule_set GNode.pred_get GNode.pred_set GNode.vals_get GNode.vals_set GNode.refs_get GNode.refs_set Term.length_enc Term.ok_enc Term.all_get Term.all_set Term.var_get Term.var_set Term.n_get Term.n_set Env.length_enc Env.ok_enc Env.all_get Env.all_set Env.val_get Env.val_set Env.set_get Env.set_set
attribute [local go_sem] size_put size_ext blk_put free_put blk_alloc free_alloc blk_drew free_drew blk_ext free_ext lookOr_some putOr_some segAt_some cellAt_some storeIn_some put_put put_alloc_new length_arr ok_arr_u8 ok_arr_u32 ok_arr_u64 ok_arr_i64 ok_arr_sl cellsV_agg cellsV_int cellsV_bool cellsV_string cellsV_pointer cellsV_slice cellsV_sl ok_int ok_bool ok_string ok_pointer ok_slice ok_sl toList_arr seg_arr set_arr nth_splice nth_splice0 seg_splice seg_splice0 splice_splice splice_splice0 length_splice_if
attribute [local go_sem ↓] execOp_box
attribute [local go_sem] box_run nth_arr_u8 put_arr_u8 blk_drewN free_drewN put_drewN blk_raw free_raw

/-- A certificate answered by the model. -/
def GrM (m : MS) (xs out : List UInt8) : Prop := ∃ F1 T1, PfTo m.p (constF m.p.pool m.F) 0 m.F [] F1 T1 ∧ F1.length = m.F.length ∧ (((chkF m.p (stoF m.p.pool F1).1 (stoF m.p.pool F1).2 xs).1 ≠ 0 ∧ out = [UInt8.ofNat (chkF m.p (stoF m.p.pool F1).1 (stoF m.p.pool F1).2 xs).1.toNat, UInt8.ofNat 7]) ∨ ((chkF m.p (stoF m.p.pool F1).1 (stoF m.p.pool F1).2 xs).1 = 0 ∧ out = [0, 7, UInt8.ofNat (chkF m.p (stoF m.p.pool F1).1 (stoF m.p.pool F1).2 xs).2.pred.toNat, UInt8.ofNat (arP m.p (chkF m.p (stoF m.p.pool F1).1 (stoF m.p.pool F1).2 xs).2.pred.toNat)] ++ (nmsT (stoF m.p.pool F1).1 (chkF m.p (stoF m.p.pool F1).1 (stoF m.p.pool F1).2 xs).2.t (arP m.p (chkF m.p (stoF m.p.pool F1).1 (stoF m.p.pool F1).2 xs).2.pred.toNat)).flatMap encN))
theorem Nb.blk {W W' : World} (h : Nb W W') {k : Nat} {A : Array Value} {t : TypeId} {fz : Nat × Nat} (hk : W.heap[k]? = some (.cells A t fz)) (ht : t ≠ 5) {C : List Value} (hb : blk W k = some C) : blk W' k = some C := by
  have h9 := h k A t fz hk ht
  rw [← hb]
  exact blk_of_heap h9
def zG1 (W1 : World) (bm bst b9 pn ar : Nat) (H : List UInt8) (L : List (List UInt8)) (f : Nat → Value) (V : World) : Prop := f 0 = .pointer (some ⟨bm, 0, none⟩) ∧ f 7 = .pointer (some ⟨bst, 0, none⟩) ∧ f 8 = .int .i64 (pn : Int) ∧ f 9 = .pointer (some ⟨b9, 0, none⟩) ∧ ∃ (j : Nat) (a : Option Addr) (n c : Nat), j ≤ ar ∧ f 12 = .int .i64 (j : Nat) ∧ f 11 = .slice a n c ∧ Hid (Ob W1 V a n c (H ++ (L.take j).flatMap encN))
set_option maxRecDepth 100000 in
theorem zframe78 (f : Nat → Value) : frameN 78 f = #[f 0, f 1, f 2, f 3, f 4, f 5, f 6, f 7, f 8, f 9, f 10, f 11, f 12, f 13, f 14, f 15, f 16, f 17, f 18, f 19, f 20, f 21, f 22, f 23, f 24, f 25, f 26, f 27, f 28, f 29, f 30, f 31, f 32, f 33, f 34, f 35, f 36, f 37, f 38, f 39, f 40, f 41, f 42, f 43, f 44, f 45, f 46, f 47, f 48, f 49, f 50, f 51, f 52, f 53, f 54, f 55, f 56, f 57, f 58, f 59, f 60, f 61, f 62, f 63, f 64, f 65, f 66, f 67, f 68, f 69, f 70, f 71, f 72, f 73, f 74, f 75, f 76, f 77] := by kernel_rfl
theorem CkS.ok {p : PP} {N : List (List UInt8)} {R : List (List Tup)} (h : CkS p N R) (hl : R.length = p.preds.length) (hb : ∀ q, (rowsAt R q).length ≤ 512) : CkOk p R where
  nD := h.pg.pok.nD
  nR := h.pg.pok.nR
  ar := h.pg.pok.ar
  rl := h.pg.pok.rl
  rn := hl
  rb := fun L hL => by
    obtain ⟨q, hq⟩ := List.mem_iff_getElem?.1 hL
    have := hb q
    unfold rowsAt at this
    rw [List.getD_eq_getElem?_getD, hq] at this
    exact Nat.le_trans this (by decide)
attribute [local go_sem ↓] execOp_bslice execOp_box
attribute [local go_sem] bslice27d bslice78 box_run Tryz.zl75 Tryz.zs75 Tryz.zl52 Tryz.zs52
set_option maxRecDepth 40000 in
set_option maxHeartbeats 1000000 in
theorem grant_any (W : World) (bm : Nat) (m : MS) (Ce : List Value) (fa : Option Addr) (fc : Nat) (h : MAt W bm m Ce fa fc) (hl : m.ld = true) (hI : MsI m) (ba : Option Addr) (bn bc : Nat) (hbn : bn ≤ 65536) (hnc : bn ≤ bc) (hbc : bc ≤ 9223372036854775807) (xs : List UInt8) (hX : Bs W ba bn xs) : Calls Tryz.prog 60 #[.pointer (some ⟨bm, 0, none⟩), .slice ba bn bc] W (MvPost W (GrM m xs)) := by
  obtain ⟨Q, hQ⟩ : ∃ Q, Q = MvPost W (GrM m xs) := ⟨_, rfl⟩
  rw [← hQ]
  have HQ := hid_of hQ
  obtain ⟨da, dc, c3, hPr⟩ := h.preds hl
  have k3 : 3 < Ce.length := by rw [h.len]; omega
  have k6 : 6 < Ce.length := by rw [h.len]; omega
  have c6 := h.fs
  have hbm := h.cell
  have HM := hid_of h
  have HI := hid_of hI
  have HXS := hid_of hX
  obtain ⟨N0, eN⟩ : ∃ N0, N0 = m.p.preds.length := ⟨_, rfl⟩
  have hN64 : N0 ≤ 64 := by rw [eN]; exact hI.pg.g.pok.nD
  rw [← eN] at c3 hPr
  have HN := hid_of eN
  obtain ⟨fn, efn⟩ : ∃ fn, fn = m.F.length := ⟨_, rfl⟩
  have hfn : fn = N0 := by rw [efn, eN]; exact hI.len
  rw [← efn] at c6
  subst hfn
  have HFN := hid_of efn
  have HPR := hid_of hPr
  have HL := hid_of hl
  clear hQ h hI eN efn hPr hl hX
  have hpf := perfectN_any W.drew bm 2 m.p fa fn fc m.F (by
    have h9 := (HM.out.ext (extends_drewN (ext_Ext (Ext.refl W)) 1)).pfe HL.out HI.out
    rw [← HFN.out] at h9
    exact h9)
  go_enter Tryz.func60, Tryz.ntmps60
  go_upto_region 1 with fail
  repeat go_step
  refine wp_region_held_drew (S := fun W' => blk W' bm = some Ce) (by kernel_rfl) hbm (fun hHeld => ?_)
  refine wpAnyH_take (i := 0) (oi := ⟨_, _, _, _, _, _⟩) (v := ?_) rfl (by kernel_rfl) (by kernel_rfl) (by kernel_rfl) (fun _ _ _ h => h) (Or.inl ⟨by rfl, ?_⟩) (by assumption) ?_
  rotate_left 1
  · intro W' hSw
    go_simp
    try with_reducible rfl
  try simp only [Act.put, List.setIfInBounds_toArray, List.set_cons_zero, List.set_cons_succ]
  refine wpAnyH_take (i := 1) (oi := ⟨_, _, _, _, _, _⟩) (v := ?_) rfl (by kernel_rfl) (by kernel_rfl) (by kernel_rfl) (fun _ _ _ h => h) (Or.inl ⟨by rfl, ?_⟩) (by assumption) ?_
  rotate_left 1
  · intro W' hSw
    go_simp
    try with_reducible rfl
  try simp only [Act.put, List.setIfInBounds_toArray, List.set_cons_zero, List.set_cons_succ]
  refine wpAnyH_take (i := 2) (oi := ⟨_, _, _, _, _, _⟩) (v := ?_) rfl (by kernel_rfl) (by kernel_rfl) (by kernel_rfl) (fun _ _ _ h => h) (Or.inl ⟨by rfl, ?_⟩) (by assumption) ?_
  rotate_left 1
  · intro W' hSw
    go_simp
    try with_reducible rfl
  try simp only [Act.put, List.setIfInBounds_toArray, List.set_cons_zero, List.set_cons_succ]
  refine wpAnyH_take (i := 3) (oi := ⟨_, _, _, _, _, _⟩) (v := ?_) rfl (by kernel_rfl) (by kernel_rfl) (by kernel_rfl) (fun _ _ _ h => h) (Or.inl ⟨by rfl, ?_⟩) (by assumption) ?_
  rotate_left 1
  · intro W' hSw
    go_simp
    try with_reducible rfl
  try simp only [Act.put, List.setIfInBounds_toArray, List.set_cons_zero, List.set_cons_succ]
  refine wpAnyH_take (i := 4) (oi := ⟨_, _, _, _, _, _⟩) (v := ?_) rfl (by kernel_rfl) (by kernel_rfl) (by kernel_rfl) (fun _ _ _ h => h) (Or.inl ⟨by rfl, ?_⟩) (by assumption) ?_
  rotate_left 1
  · intro W' hSw
    go_simp
    try with_reducible rfl
  try simp only [Act.put, List.setIfInBounds_toArray, List.set_cons_zero, List.set_cons_succ]
  refine wpAnyH_take (i := 5) (oi := ⟨_, _, _, _, _, _⟩) (v := ?_) rfl (by kernel_rfl) (by kernel_rfl) (by kernel_rfl) (fun _ _ _ h => h) (Or.inl ⟨by rfl, ?_⟩) (by assumption) ?_
  rotate_left 1
  · intro W' hSw
    go_simp
    try with_reducible rfl
  try simp only [Act.put, List.setIfInBounds_toArray, List.set_cons_zero, List.set_cons_succ]
  refine wpAnyH_take (i := 6) (oi := ⟨_, _, _, _, _, _⟩) (v := ?_) rfl (by kernel_rfl) (by kernel_rfl) (by kernel_rfl) (fun _ _ _ h => h) (Or.inl ⟨by rfl, ?_⟩) (by assumption) ?_
  rotate_left 1
  · intro W' hSw
    go_simp
    try with_reducible rfl
  try simp only [Act.put, List.setIfInBounds_toArray, List.set_cons_zero, List.set_cons_succ]
  refine wpAnyH_ready (rs := [7]) (by kernel_rfl) (by simp) ?_
  refine AllReadyH.cons (o := ⟨_, _, _, _, _, _⟩) rfl (fun K' hK => ?_) AllReadyH.nil
  go_simp
  refine hpf.mono ?_
  rintro e V4 ⟨bo, ta, tn, tc, F1, T1, rfl, hPf, hFl, hx4, hFA, -, -, hLL, hR4⟩
  dsimp only
  have hbm4 : blk V4 bm = some Ce := (hx4.blk (blk_lt hbm)).trans hbm
  refine hK.out _ _ hbm4 (fun hHeld => ?_)
  clear hK K'
  try simp only [Act.put, List.setIfInBounds_toArray, List.set_cons_zero, List.set_cons_succ]
  refine wpAnyH_take (i := 8) (oi := ⟨_, _, _, _, _, _⟩) (v := ?_) rfl (by kernel_rfl) (by kernel_rfl) (by kernel_rfl) (fun _ _ _ h => h) (Or.inl ⟨by rfl, ?_⟩) (by assumption) ?_
  rotate_left 1
  · intro W' hSw
    go_simp
    try with_reducible rfl
  try simp only [Act.put, List.setIfInBounds_toArray, List.set_cons_zero, List.set_cons_succ]
  refine wpAnyH_take (i := 9) (oi := ⟨_, _, _, _, _, _⟩) (v := ?_) rfl (by kernel_rfl) (by kernel_rfl) (by kernel_rfl) (fun _ _ _ h => h) (Or.inl ⟨by rfl, ?_⟩) (by assumption) ?_
  rotate_left 1
  · intro W' hSw
    go_simp
    try with_reducible rfl
  try simp only [Act.put, List.setIfInBounds_toArray, List.set_cons_zero, List.set_cons_succ]
  refine wpAnyH_take (i := 10) (oi := ⟨_, _, _, _, _, _⟩) (v := ?_) rfl (by kernel_rfl) (by kernel_rfl) (by kernel_rfl) (fun _ _ _ h => h) (Or.inl ⟨by rfl, ?_⟩) (by assumption) ?_
  rotate_left 1
  · intro W' hSw
    go_simp
    try with_reducible rfl
  try simp only [Act.put, List.setIfInBounds_toArray, List.set_cons_zero, List.set_cons_succ]
  refine wpAnyH_take (i := 11) (oi := ⟨_, _, _, _, _, _⟩) (v := ?_) rfl (by kernel_rfl) (by kernel_rfl) (by kernel_rfl) (fun _ _ _ h => h) (Or.inl ⟨by rfl, ?_⟩) (by assumption) ?_
  rotate_left 1
  · intro W' hSw
    go_simp
    try with_reducible rfl
  try simp only [Act.put, List.setIfInBounds_toArray, List.set_cons_zero, List.set_cons_succ]
  refine wpAnyH_take (i := 12) (oi := ⟨_, _, _, _, _, _⟩) (v := ?_) rfl (by kernel_rfl) (by kernel_rfl) (by kernel_rfl) (fun _ _ _ h => h) (Or.inl ⟨by rfl, ?_⟩) (by assumption) ?_
  rotate_left 1
  · intro W' hSw
    go_simp
    try with_reducible rfl
  try simp only [Act.put, List.setIfInBounds_toArray, List.set_cons_zero, List.set_cons_succ]
  refine wpAnyH_done (by kernel_rfl) ?_ _
  clear hHeld hpf
  rw [← HFN.out]
  obtain ⟨q1, q2, q3, q4⟩ := HI.out.perf hPf
  obtain ⟨s1, s2, s3, s4, s5, s6⟩ := HI.out.sto hPf
  have hsb : ∀ q, (rowsAt (stoF m.p.pool F1).2 q).length ≤ 512 := fun q => by
    have h9 := congrArg List.length (s5 q)
    rw [List.length_map] at h9
    rw [h9]; exact q4 q
  have hX4 : W.Extends V4 := (extends_drewN (ext_Ext (Ext.refl W)) 1).trans hx4
  have hpo4 : ProgT V4 bm m.p := (HM.out.ext hX4).po HL.out
  rw [← HFN.out] at hFA
  have hsto := storeOf_any V4 bm m.p hpo4 HI.out.pg.g.pok (some ⟨bo, 0, none⟩) fn fn F1 hFA HN.out (fun L hL => by
    obtain ⟨q, hq⟩ := List.mem_iff_getElem?.1 hL
    have := q4 q
    rw [List.getD_eq_getElem?_getD, hq] at this
    exact this) hR4
  obtain ⟨N, eN⟩ : ∃ N, N = (stoF m.p.pool F1).1 := ⟨_, rfl⟩
  obtain ⟨R, eR⟩ : ∃ R, R = (stoF m.p.pool F1).2 := ⟨_, rfl⟩
  have hsto' : Calls Tryz.prog 109 #[.pointer (some ⟨bm, 2, none⟩), .slice (some ⟨bo, 0, none⟩) fn fn] V4 (StoPost V4 (N, R)) := by rw [eN, eR]; exact hsto
  have HCK : Hid (N.length ≤ 256 ∧ CkS m.p N R ∧ CkOk m.p R) := by rw [eN, eR]; exact ⟨s2, s6, s6.ok s4 hsb⟩
  have HX4 := hid_of hX4
  have HPF : Hid (PfTo m.p (constF m.p.pool m.F) 0 m.F [] F1 T1 ∧ F1.length = m.F.length) := ⟨hPf, hFl⟩
  have HNM : Hid (∀ x ∈ N, x.length ≤ 64) := fun x hx => by
    rcases constF_mem.1 (s3 x (by rw [← eN]; exact hx)) with h9 | ⟨Ls, h1, r, h2, h3⟩
    · exact HI.out.pg.g.pool.2 x h9
    · obtain ⟨q', hq'⟩ := List.mem_iff_getElem?.1 h1
      exact (HI.out.row q' r (by unfold memN; rw [List.getD_eq_getElem?_getD, hq']; exact h2)).2.2 x h3
  have HEN := hid_of eN
  have HER := hid_of eR
  clear hPf hFl hx4 hFA hLL hR4 q1 q2 q3 q4 s1 s2 s3 s4 s5 s6 hsb hX4 hpo4 hsto eN eR
  go_upto_region 2 with fail
  repeat go_step
  refine hsto'.mono ?_
  rintro e V5 ⟨bst, O5, A5, rfl, hS5⟩
  dsimp only
  obtain ⟨O6, hSt⟩ := hS5.sto
  have hX5 : W.Extends V5 := HX4.out.trans hS5.ext
  have HX5 := hid_of hX5
  have hbm5 : blk V5 bm = some Ce := (hS5.ext.blk (blk_lt hbm4)).trans hbm4
  have hck := checkT_any hSt HCK.out.1 ((HM.out.ext hX5).po HL.out) HCK.out.2.2 ba bn bc hbn hnc hbc xs (HXS.out.grow hX5)
  have HST := hid_of hSt
  obtain ⟨cf, ecf⟩ : ∃ cf, cf = chkF m.p N R xs := ⟨_, rfl⟩
  rw [← ecf] at hck
  have HCF := hid_of ecf
  have hcd : Cd cf.1 := by rw [ecf]; exact chkF_cd _ _ _ _
  have HFK : Hid (cf.1 = 0 → FOkG m.p N cf.2) := fun e => by rw [ecf] at e ⊢; exact chkF_okG HCK.out.2.1 e
  obtain ⟨cd, ⟨pv, tt⟩⟩ := cf
  dsimp only at hck hcd HFK
  obtain ⟨kd, ekd⟩ : ∃ kd : Nat, cd = (kd : Int) := ⟨cd.toNat, by have := hcd.1; omega⟩
  subst ekd
  have hkd : kd < 43 := by have := hcd.2.1; omega
  have HB5 := hid_of hbm5
  clear hsto' hS5 hX5 hSt ecf hcd hbm hbm4
  go_upto_region 3 with fail
  repeat go_step
  refine hck.mono ?_
  rintro e V6 ⟨rfl, hx6⟩
  dsimp only
  have hbm6 : blk V6 bm = some Ce := (hx6.blk (blk_lt HB5.out)).trans HB5.out
  go_upto_region 4 with fail
  refine wp_world (fun V => V6.Extends V ∧ blk V V6.heap.size = some (arr i64v tt)) ⟨extends_alloc (ext_Ext (Ext.refl _)) _, by rw [blk_alloc, if_pos rfl]⟩ ?_
  rintro V7 ⟨hx7, hb9⟩
  obtain ⟨b9, e9⟩ : ∃ b9, b9 = V6.heap.size := ⟨_, rfl⟩
  rw [← e9] at hb9 ⊢
  have hbm7 : blk V7 bm = some Ce := (hx7.blk (blk_lt hbm6)).trans hbm6
  have HX7 : Hid (W.Extends V7) := HX5.out.trans (hx6.trans hx7)
  have HST7 : Hid (Sto V4.heap.size O6 V7 0 bst N A5 R) := HST.out.ext (hx6.trans hx7)
  clear hck hx6 hx7 e9 hbm6 HB5 HST
  by_cases hk0 : kd = 0
  rotate_left 1
  · have hr1 : ¬ (kd : Int) = 0 := by omega
    have hr2 : ((kd : Int) == 0) = false := by simp; omega
    have hr3 : ((kd : Int) != 0) = true := by simp; omega
    have hrf := refusal_any V7 kd 7 (by omega) (by decide)
    have HNX : Hid (∀ a n c V, Ob V7 V a n c [UInt8.ofNat kd, UInt8.ofNat 7] → Q (.returned (.slice a n c)) V) := fun a n c V ho => by
      rw [HQ.out]
      refine ⟨_, a, n, c, rfl, ⟨row_base ho.1 HX7.out.size, HX7.out.trans ho.2.1, ho.2.2⟩, F1, T1, HPF.out.1, HPF.out.2, .inl ?_⟩
      rw [← HEN.out, ← HER.out, ← HCF.out]
      exact ⟨hr1, by rw [Int.toNat_natCast]⟩
    go_wp2_with fail
    refine hrf.mono ?_
    rintro e V8 ⟨a2, n2, c2, rfl, ho2⟩
    dsimp only
    have HP := hid_of (HNX.out a2 n2 c2 V8 ho2)
    clear hrf ho2 HNX
    go_wp2_with fail
    try go_ret
    exact HP.out
  subst hk0
  obtain ⟨f1, f2, f3⟩ := HFK.out rfl
  dsimp only at f1 f2 f3
  obtain ⟨pn, epn⟩ : ∃ pn : Nat, pv = (pn : Int) := ⟨pv.toNat, by omega⟩
  subst epn
  rw [Int.toNat_natCast] at f2 f3
  have hp : pn < fn := by rw [HN.out]; exact f2
  have hp1 : (pn : Int) < (fn : Int) := by omega
  have p0 : (0 : Int) ≤ (pn : Int) := by omega
  have p2 : ((pn : Int)).toNat = pn := by omega
  obtain ⟨bd, Cd', rfl, g1, g2, g3⟩ := HPR.out.2 pn _ (pI_at (by rw [← HN.out]; exact hp))
  obtain ⟨har, har4⟩ := pI_ar HI.out.pg.g.pok (q := pn) (by rw [← HN.out]; exact hp)
  obtain ⟨ar, ear⟩ : ∃ ar, ar = arP m.p pn := ⟨_, rfl⟩
  rw [← ear] at har har4
  have m0 : nth Cd' (pn * 3) = some (.int .i64 (ar : Int)) := by
    have h9 := nth_in (j := 0) g3 (show nth (PredInfo.enc (pI m.p pn)) 0 = some (.int .i64 (pI m.p pn).arity) from rfl) (by omega)
    rw [har] at h9
    exact h9
  have l9 : (pn + 1) * 3 ≤ fn * 3 := Nat.mul_le_mul_right _ hp
  have l0 : pn * 3 < Cd'.length := by omega
  have hbd : blk V7 bd = some Cd' := (HX7.out.blk (blk_lt g1)).trans g1
  have HAR := hid_of ear
  have HTD : Hid (∀ c, c < ar → InT N.length (tg tt c)) := by rw [ear]; exact f3.1
  obtain ⟨L, eL⟩ : ∃ L, L = nmsT N tt ar := ⟨_, rfl⟩
  have HL2 := hid_of eL
  have u0 : IntKind.u8.wrap (pn : Int) = (pn : Int) := by rw [IntKind.wrap_u8]; omega
  have u1 : IntKind.u8.wrap (ar : Int) = (ar : Int) := by rw [IntKind.wrap_u8]; omega
  have ho8 := ob_new (ext_Ext (Ext.refl V7)) [0, 7, UInt8.ofNat pn, UInt8.ofNat ar] (by simp) #[.int .u8 0, .int .u8 7, .int .u8 (pn : Int), .int .u8 (ar : Int)] (by
    show _ = (List.map u8v _).toArray
    rw [List.map_cons, List.map_cons, List.map_cons, List.map_cons, List.map_nil, u8_ofk pn (by omega), u8_ofk ar (by omega)]; rfl) 4 rfl
  have HFIN : Hid (∀ a n c V, Ob V7 V a n c ([0, 7, UInt8.ofNat pn, UInt8.ofNat ar] ++ L.flatMap encN) → Q (.returned (.slice a n c)) V) := fun a n c V ho => by
    rw [HQ.out]
    refine ⟨_, a, n, c, rfl, ⟨row_base ho.1 HX7.out.size, HX7.out.trans ho.2.1, ho.2.2⟩, F1, T1, HPF.out.1, HPF.out.2, .inr ?_⟩
    rw [← HEN.out, ← HER.out, ← HCF.out]
    refine ⟨rfl, ?_⟩
    dsimp only
    rw [Int.toNat_natCast, ← HAR.out, HL2.out]
  have HO8 : Hid (Ob V7 (V7.alloc (.cells #[.int .u8 0, .int .u8 7, .int .u8 (pn : Int), .int .u8 (ar : Int)] 5)) (some ⟨V7.heap.size, 0, none⟩) 4 4 ([0, 7, UInt8.ofNat pn, UInt8.ofNat ar] ++ (L.take 0).flatMap encN)) := by
    show Ob _ _ _ _ _ _
    simpa using ho8
  have HBM := hid_of hbm7
  have HBD := hid_of hbd
  have HB9 := hid_of hb9
  clear f1 f2 f3 g1 g2 g3 har ear l9 eL ho8 HX4 HX5
  go_upto_region 8 with fail
  refine wp_loop_f 78 (zG1 V7 bm bst b9 pn ar [0, 7, UInt8.ofNat pn, UInt8.ofNat ar] L) (fun f _ => ar - (intOf (f 12)).toNat) rfl ⟨rfl, rfl, rfl, rfl, 0, some ⟨V7.heap.size, 0, none⟩, 4, 4, by omega, rfl, rfl, HO8⟩ ?_
  clear HO8 hbm7 hbd hb9
  intro G1 V8 hrel
  obtain ⟨f0, f7, f8, f9, j, a8, n8, c8, hj, f12, f11, HO8⟩ := hrel
  have H12 := hid_of f12
  rw [zframe78, f0, f7, f8, f9, f11, f12]
  clear f0 f7 f8 f9 f11 f12
  have hbm8 : blk V8 bm = some Ce := (HO8.out.2.1.blk (blk_lt HBM.out)).trans HBM.out
  have hbd8 : blk V8 bd = some Cd' := (HO8.out.2.1.blk (blk_lt HBD.out)).trans HBD.out
  have hb98 : blk V8 b9 = some (arr i64v tt) := (HO8.out.2.1.blk (blk_lt HB9.out)).trans HB9.out
  by_cases hjn : j < ar
  rotate_left 1
  · have hjn' : ¬ (j : Int) < (ar : Int) := by omega
    have HP := hid_of (HFIN.out a8 n8 c8 V8 (by
      have h9 := HO8.out
      rw [List.take_of_length_le (by rw [HL2.out, nmsT_len]; omega)] at h9
      exact h9))
    clear HO8
    go_wp2_with fail
    try go_ret
    exact HP.out
  have hjn' : (j : Int) < (ar : Int) := by omega
  have j0 : (0 : Int) ≤ (j : Int) := by omega
  have jj2 : ((j : Int)).toNat = j := by omega
  have j4 : j < 4 := by omega
  have j4' : (j : Int) < 4 := by omega
  obtain ⟨y0, y1⟩ := HTD.out j hjn
  have hnt := nth_t tt j j4
  obtain ⟨y, hy⟩ : ∃ y : Nat, tg tt j = (y : Int) := ⟨(tg tt j).toNat, by omega⟩
  rw [hy, Int.toNat_natCast] at y1
  have hyN : N[y]? = some N[y] := List.getElem?_eq_getElem y1
  obtain ⟨x, ex⟩ : ∃ x, x = N[y] := ⟨_, rfl⟩
  rw [← ex] at hyN
  rw [hy] at hnt
  have hsn := sname_any (HST7.out.ext HO8.out.2.1) hyN
  have hLx : L[j]? = some x := by
    rw [HL2.out, nmsT_at _ _ hjn, hy, Int.toNat_natCast, List.getD_eq_getElem?_getD, hyN]; rfl
  have hx64 : x.length ≤ 64 := HNM.out x (List.mem_of_getElem? hyN)
  obtain ⟨cl, ecl⟩ : ∃ cl : Array Value, cl = #[.string ⟨x.toArray⟩] := ⟨_, rfl⟩
  have hxa : V8.Extends (V8.alloc (.cells #[.string ⟨x.toArray⟩] 9)) := extends_alloc (ext_Ext (Ext.refl _)) _
  have hpu := putRow_any V7 (V8.alloc (.cells #[.string ⟨x.toArray⟩] 9)) a8 n8 c8 _ (HO8.out.ext hxa) (by
    have h9 : ∀ (K : List (List UInt8)), (∀ z ∈ K, z.length ≤ 64) → (K.flatMap encN).length ≤ K.length * 65 := by
      intro K
      induction K with
      | nil => intro _; simp
      | cons z K ih =>
        intro hz
        rw [List.flatMap_cons, List.length_append, List.length_cons]
        have h1 := ih (fun w hw => hz w (List.mem_cons_of_mem _ hw))
        have h2 := hz z List.mem_cons_self
        have h3 : (encN z).length = z.length + 1 := rfl
        omega
    have h8 := h9 (L.take j) (fun z hz => by
      obtain ⟨i, hi⟩ := List.getElem?_of_mem (List.mem_of_mem_take hz)
      have hi' : i < ar := by have := (List.getElem?_eq_some_iff.1 hi).1; rw [HL2.out, nmsT_len] at this; exact this
      rw [HL2.out, nmsT_at _ _ hi'] at hi
      have h5 := (HTD.out i hi').2
      have h6 := Option.some.inj hi
      rw [List.getD_eq_getElem?_getD, List.getElem?_eq_getElem h5] at h6
      rw [← h6]
      exact HNM.out _ (List.getElem_mem h5))
    have h7 : (L.take j).length ≤ 4 := by rw [List.length_take]; omega
    rw [List.length_append]
    show 4 + _ ≤ _
    omega) (some ⟨V8.heap.size, 0, none⟩) 1 1 [x] (by decide) (fun W' _ hN => ⟨rfl, fun i z hz => by
      have hi0 : i = 0 := by have := (List.getElem?_eq_some_iff.1 hz).1; simp at this; exact this
      subst hi0
      have hzx : z = x := by simpa using hz.symm
      subst hzx
      refine ⟨V8.heap.size, [.string ⟨z.toArray⟩], rfl, hN.blk (A := #[.string ⟨z.toArray⟩]) (t := 9) (fz := (0, 0)) ?_ (by decide) (by rw [blk_alloc, if_pos rfl]), by simp, rfl⟩
      exact heap_alloc_new _ _⟩) (fun z hz => by rw [List.mem_singleton.1 hz]; exact hx64)
  have HNX : Hid (∀ a n c V, Ob V7 V a n c ([0, 7, UInt8.ofNat pn, UInt8.ofNat ar] ++ (L.take j).flatMap encN ++ [x].flatMap encN) → Ob V7 V a n c ([0, 7, UInt8.ofNat pn, UInt8.ofNat ar] ++ (L.take (j + 1)).flatMap encN)) := fun a n c V ho => by
    rw [take_at hLx, List.flatMap_append, ← List.append_assoc]
    exact ho
  have hl4 : (arr i64v tt).length = 4 := length_arr _ _
  have hjl : j < (arr i64v tt).length := by omega
  clear HO8 hLx hyN ex y0 y1 hy hxa hx64 ecl
  go_wp2_with fail
  refine hsn.mono ?_
  rintro e V9 ⟨rfl, rfl⟩
  dsimp only
  go_wp2_with fail
  refine hpu.mono ?_
  rintro e V10 ⟨a9, n9, c9, rfl, ho9, -⟩
  dsimp only
  have HJ := hid_of (HNX.out a9 n9 c9 V10 ho9)
  clear hpu ho9 HNX hsn
  go_wp2_with fail
  refine ⟨rfl, rfl, ⟨rfl, rfl, rfl, rfl, j + 1, a9, n9, c9, by omega, ?_, rfl, HJ⟩, ?_⟩
  · show Value.int .i64 _ = _
    go_num
  · show ar - (intOf (Value.int .i64 _)).toNat < ar - (intOf (G1 12)).toNat
    rw [H12.out]
    simp [intOf]; omega
end Go.Proofs.Qxb6500787aGreat
