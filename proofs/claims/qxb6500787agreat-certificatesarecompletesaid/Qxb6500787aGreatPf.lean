import Derived.Test.Qxb6500787aGreatPe

import Derived.StillTailTactics
import Derived.Deep.QuietTactic
import Derived.BigQuiet
import Derived.Deep.RegionHeld
import Derived.Deep.CutRange
import Derived.Laws.ResultCell
import Derived.Laws.Rows
import Derived.DeepKeys
import Derived.DataBytes
import Derived.Laws.StructEq
import Derived.Laws.AppendOwn
import Derived.Laws.MakeOwn
import Derived.Lib.AppendStr
set_option linter.unusedSimpArgs false
set_option linter.unusedVariables false
namespace Go.Proofs.Qxb6500787aGreat
open Go.RowKit Go.Blk
attribute [local go_sem ↓] execOp_load execOp_store execOp_alloc
attribute [local go_sem] Tryz.ld26 Tryz.st26 Tryz.ld27 Tryz.st27 Tryz.ld28 Tryz.st28 Tryz.ld3 Tryz.st3 Tryz.ld29 Tryz.st29 Tryz.ld44 Tryz.st44 Tryz.ld4 Tryz.st4 Tryz.ld50 Tryz.st50 Tryz.ld32 Tryz.st32 Tryz.ld49 Tryz.st49 Tryz.ld68 Tryz.st68 Tryz.ld9 Tryz.st9 Tryz.ld40 Tryz.st40 Tryz.ld138 Tryz.st138 Tryz.ld139 Tryz.st139 Tryz.ld146 Tryz.st146 Tryz.ld183 Tryz.st183 Tryz.ld184 Tryz.st184 Tryz.ld192 Tryz.st192 Tryz.ld195 Tryz.st195 Tryz.ld217 Tryz.st217 Tryz.ld159 Tryz.st159 Tryz.ld142 Tryz.st142 Tryz.ld2 Tryz.st2 Tryz.ld5 Tryz.st5 Tryz.ld12 Tryz.st12 Tryz.ld21 Tryz.st21 Tryz.ld22 Tryz.st22 Tryz.ld24 Tryz.st24 Tryz.ld58 Tryz.st58 Tryz.ld97 Tryz.st97 Tryz.ld101 Tryz.st101 Tryz.ld116 Tryz.st116 Tryz.ld121 Tryz.st121 Tryz.ld135 Tryz.st135 Tryz.ld136 Tryz.st136 Tryz.ld143 Tryz.st143 Tryz.ld148 Tryz.st148 Tryz.ld154 Tryz.st154 Tryz.ld173 Tryz.st173 Tryz.ld187 Tryz.st187 Tryz.ld222 Tryz.st222 Tryz.ld241 Tryz.st241 Tryz.ld248 Tryz.st248 Tryz.ld268 Tryz.st268 Tryz.ld272 Tryz.st272 Tryz.ld153 Tryz.st153 Tryz.ld255 Tryz.st255 Tryz.ld256 Tryz.st256 Tryz.ld129 Tryz.st129 Tryz.ld152 Tryz.st152 Tryz.ld31 Tryz.st31 Tryz.ld46 Tryz.st46 Tryz.ld52 Tryz.st52 Tryz.ld54 Tryz.st54 Tryz.ld60 Tryz.st60 Tryz.ld70 Tryz.st70 Tryz.ld74 Tryz.st74 Tryz.ld93 Tryz.st93 Tryz.ld141 Tryz.st141 Tryz.ld151 Tryz.st151 Tryz.ld170 Tryz.st170 Tryz.ld186 Tryz.st186 Tryz.ld189 Tryz.st189 Tryz.ld194 Tryz.st194 Tryz.ld197 Tryz.st197 Tryz.ld219 Tryz.st219 Tryz.ld224 Tryz.st224 Tryz.ld230 Tryz.st230 Tryz.ld235 Tryz.st235 Tryz.ld243 Tryz.st243 Tryz.ld247 Tryz.st247 Tryz.ld252 Tryz.st252 Tryz.ld258 Tryz.st258 Tryz.al153 Tryz.al255 Tryz.al256 Tryz.al129 Tryz.al152 Tryz.al31 Tryz.al46 Tryz.al52 Tryz.al54 Tryz.al60 Tryz.al70 Tryz.al74 Tryz.al93 Tryz.al141 Tryz.al151 Tryz.al170 Tryz.al186 Tryz.al189 Tryz.al194 Tryz.al197 Tryz.al219 Tryz.al224 Tryz.al230 Tryz.al235 Tryz.al243 Tryz.al247 Tryz.al252 Tryz.al258
attribute [local go_sem] Request.length_enc Request.ok_enc Request.all_get Request.all_set Request.kind_get Request.kind_set Request.blob_get Request.blob_set Request.items_get Request.items_set Request.pred_get Request.pred_set Request.slots_get Request.slots_set Trace.length_enc Trace.ok_enc Trace.all_get Trace.all_set Trace.op_get Trace.op_set Trace.calls_get Trace.calls_set Item.length_enc Item.ok_enc Item.all_get Item.all_set Item.del_get Item.del_set Item.pred_get Item.pred_set Item.args_get Item.args_set Reply.length_enc Reply.ok_enc Reply.all_get Reply.all_set Reply.code_get Reply.code_set Reply.kind_get Reply.kind_set Reply.index_get Reply.index_set Reply.yes_get Reply.yes_set Reply.preds_get Reply.preds_set Reply.rules_get Reply.rules_set Reply.arity_get Reply.arity_set Reply.rows_get Reply.rows_set Reply.fact_get Reply.fact_set Reply.fact_del_get Reply.fact_del_set Reply.fact_pred_get Reply.fact_pred_set Reply.fact_args_get Reply.fact_args_set GEntry.length_enc GEntry.ok_enc GEntry.all_get GEntry.all_set GEntry.seq_get GEntry.seq_set GEntry.kind_get GEntry.kind_set GEntry.code_get GEntry.code_set GOp.length_enc GOp.ok_enc GOp.all_get GOp.all_set GOp.kind_get GOp.kind_set GOp.raw_get GOp.raw_set Reader.length_enc Reader.ok_enc Reader.all_get Reader.all_set Reader.buf_get Reader.buf_set Reader.at__get Reader.at__set Slot.length_enc Slot.ok_enc Slot.all_get Slot.all_set Slot.bound_get Slot.bound_set Slot.name_get Slot.name_set Session.length_enc Session.ok_enc Session.all_get Session.all_set Session.svc_get Session.svc_set Session.buf_get Session.buf_set Session.closed_get Session.closed_set GProgram.length_enc GProgram.ok_enc GProgram.all_get GProgram.all_set GProgram.pool_get GProgram.pool_set GProgram.preds_get GProgram.preds_set GProgram.rules_get GProgram.rules_set GProgram.strata_get GProgram.strata_set PredInfo.length_enc PredInfo.ok_enc PredInfo.all_get PredInfo.all_set PredInfo.arity_get PredInfo.arity_set PredInfo.base_get PredInfo.base_set PredInfo.stratum_get PredInfo.stratum_set Change.length_enc Change.ok_enc Change.all_get Change.all_set Change.del_get Change.del_set Change.pred_get Change.pred_set Change.t_get Change.t_set Store.length_enc Store.ok_enc Store.all_get Store.all_set Store.names_get Store.names_set Store.arity_get Store.arity_set Store.rows_get Store.rows_set Src.length_enc Src.ok_enc Src.all_get Src.all_set Src.b_get Src.b_set Src.at__get Src.at__set Atom.length_enc Atom.ok_enc Atom.all_get Atom.all_set Atom.pred_get Atom.pred_set Atom.args_get Atom.args_set GRule.length_enc GRule.ok_enc GRule.all_get GRule.all_set GRule.head_get GRule.head_set GRule.body_get GRule.body_set GRule.head_pred_get GRule.head_pred_set GRule.head_args_get GRule.head_args_set Cert.length_enc Cert.ok_enc Cert.all_get Cert.all_set Cert.names_get Cert.names_set Cert.nodes_get Cert.nodes_set Fact.length_enc Fact.ok_enc Fact.all_get Fact.all_set Fact.pred_get Fact.pred_set Fact.t_get Fact.t_set Literal.length_enc Literal.ok_enc Literal.all_get Literal.all_set Literal.neg_get Literal.neg_set Literal.atom_get Literal.atom_set Literal.atom_pred_get Literal.atom_pred_set Literal.atom_args_get Literal.atom_args_set Engine.length_enc Engine.ok_enc Engine.all_get Engine.all_set Engine.prog_get Engine.prog_set Engine.st_get Engine.st_set SrcCertm.length_enc SrcCertm.ok_enc SrcCertm.all_get SrcCertm.all_set SrcCertm.b_get SrcCertm.b_set SrcCertm.at__get SrcCertm.at__set GNode.length_enc GNode.ok_enc GNode.all_get GNode.all_set GNode.rule_get GNode.rule_set GNode.pred_get GNode.pred_set GNode.vals_get GNode.vals_set GNode.refs_get GNode.refs_set Term.length_enc Term.ok_enc Term.all_get Term.all_set Term.var_get Term.var_set Term.n_get Term.n_set Env.length_enc Env.ok_enc Env.all_get Env.all_set Env.val_get Env.val_set Env.set_get Env.set_set
attribute [local go_sem] size_put size_ext blk_put free_put blk_alloc free_alloc blk_drew free_drew blk_ext free_ext lookOr_some putOr_some segAt_some cellAt_some storeIn_some put_put put_alloc_new length_arr ok_arr_u8 ok_arr_u32 ok_arr_u64 ok_arr_i64 ok_arr_sl cellsV_agg cellsV_int cellsV_bool cellsV_string cellsV_pointer cellsV_slice cellsV_sl ok_int ok_bool ok_string ok_pointer ok_slice ok_sl toList_arr seg_arr set_arr nth_splice nth_splice0 seg_splice seg_splice0 splice_splice splice_splice0 length_splice_if
attribute [local go_sem ↓] execOp_box
attribute [local go_sem] box_run nth_arr_u8 put_arr_u8 blk_drewN free_drewN put_drewN blk_raw free_raw
/-- A row has the named constants in the bound columns. -/
def fitB (L : List Slt) (r : NRow) : Bool := (List.range L.length).all fun c => !(L.getD c (false, [])).1 || decide ((L.getD c (false, [])).2 = r.getD c [])
def fitN (L : List Slt) (r : NRow) (k : Nat) : Bool := (List.range k).all fun c => !(L.getD c (false, [])).1 || decide ((L.getD c (false, [])).2 = r.getD c [])
theorem fitN_succ (L : List Slt) (r : NRow) (k : Nat) : fitN L r (k + 1) = (fitN L r k && (!(L.getD k (false, [])).1 || decide ((L.getD k (false, [])).2 = r.getD k []))) := by
  unfold fitN
  rw [List.range_succ, List.all_append]
  simp
def zsR (R : List NRow) : List NRow := (zisF (R.map fun r => ((⟨none, 0, 0⟩ : Sl), r))).map (·.2)
theorem zinsT_map (f : RD → RD) (hf : ∀ x, (f x).2 = x.2) (x : RD) : ∀ L, (zinsT x L).map f = zinsT (f x) (L.map f)
  | [] => rfl
  | y :: L => by
    show (if rlF x.2 y.2 = true then y :: zinsT x L else x :: y :: L).map f = if rlF (f x).2 (f y).2 = true then f y :: zinsT (f x) (L.map f) else f x :: f y :: L.map f
    rw [hf x, hf y]
    split
    · rw [List.map_cons, zinsT_map f hf x L]
    · rfl
theorem zisF_map (f : RD → RD) (hf : ∀ x, (f x).2 = x.2) (L : List RD) : (zisF L).map f = zisF (L.map f) := by
  have key : ∀ (L A : List RD), (L.foldl zinsP A).map f = (L.map f).foldl zinsP (A.map f) := by
    intro L
    induction L with
    | nil => exact fun A => rfl
    | cons x L ih =>
      intro A
      rw [List.foldl_cons, ih, List.map_cons, List.foldl_cons]
      congr 1
      unfold zinsP
      rw [List.map_reverse, zinsT_map f hf, List.map_reverse]
  exact key L []
theorem zisF_snd (L : List RD) : (zisF L).map (·.2) = zsR (L.map (·.2)) := by
  unfold zsR
  have e1 : ((L.map (·.2)).map fun r => ((⟨none, 0, 0⟩ : Sl), r)) = L.map fun x : RD => ((⟨none, 0, 0⟩ : Sl), x.2) := by rw [List.map_map]; rfl
  rw [e1, ← zisF_map (fun x : RD => ((⟨none, 0, 0⟩ : Sl), x.2)) (fun _ => rfl), List.map_map]
  rfl
/-- A pattern answered by the model. -/
def PtM (m : MS) (pr : Nat) (L : List Slt) (xs : List UInt8) : Prop := (m.p.preds.length ≤ pr ∧ xs = [UInt8.ofNat 11, UInt8.ofNat 6]) ∨ (pr < m.p.preds.length ∧ ((L.length ≠ arP m.p pr ∧ xs = [UInt8.ofNat 13, UInt8.ofNat 6]) ∨ (L.length = arP m.p pr ∧ ∃ F1 T1, PfTo m.p (constF m.p.pool m.F) 0 m.F [] F1 T1 ∧ F1.length = m.F.length ∧ xs = [0, 6, UInt8.ofNat L.length, UInt8.ofNat (((F1.getD pr []).filter (fitB L)).length / 256), UInt8.ofNat (((F1.getD pr []).filter (fitB L)).length % 256)] ++ (zsR ((F1.getD pr []).filter (fitB L))).flatMap encRow)))
theorem bslice27e (w : World) (a b c d e : Int) : (bsliceOp 31 5 #[(0, .int .u8 a), (1, .int .u8 b), (2, .int .u8 c), (3, .int .u8 d), (4, .int .u8 e)]).run Tryz.prog w = .ok (.value (.slice (some ⟨w.heap.size, 0, none⟩) 5 5)) (w.alloc (.cells #[.int .u8 a, .int .u8 b, .int .u8 c, .int .u8 d, .int .u8 e] 5)) := by kernel_rfl
def zPt1 (W4 : World) (bm bo fn pr : Nat) (sla : Option Addr) (sln slc : Nat) (L : List Slt) (LR : List RD) (sn : Nat) (f : Nat → Value) (V : World) : Prop := f 1 = .int .i64 (pr : Nat) ∧ f 2 = .slice sla sln slc ∧ f 7 = .slice (some ⟨bo, 0, none⟩) fn fn ∧ ∃ (i : Nat) (a : Option Addr) (n c : Nat), i ≤ sn ∧ f 10 = .int .i64 (i : Nat) ∧ f 9 = .slice a n c ∧ Hid (OutG encR 1 78 W4 V a n c (((LR.take i).filter fun x => fitB L x.2).map (·.1)))
def zPt2 (bo fn pr i : Nat) (sla : Option Addr) (sln slc : Nat) (L : List Slt) (r : NRow) (v9 : Value) (V0 : World) (f : Nat → Value) (V : World) : Prop := f 1 = .int .i64 (pr : Nat) ∧ f 2 = .slice sla sln slc ∧ f 7 = .slice (some ⟨bo, 0, none⟩) fn fn ∧ f 9 = v9 ∧ f 10 = .int .i64 (i : Nat) ∧ ∃ k : Nat, k ≤ sln ∧ f 12 = .int .i64 (k : Nat) ∧ f 11 = .bool (fitN L r k) ∧ Hid (∃ j, V = V0.drewN j)
def zPt3 (w0 : World) (sa : Option Addr) (sn sc : Nat) (hd : List UInt8) (R : List NRow) (f : Nat → Value) (V : World) : Prop := f 9 = .slice sa sn sc ∧ ∃ (i : Nat) (a : Option Addr) (n c : Nat), i ≤ sn ∧ f 14 = .int .i64 (i : Nat) ∧ f 13 = .slice a n c ∧ Hid (Ob w0 V a n c (hd ++ (R.take i).flatMap encRow))
set_option maxRecDepth 100000 in
theorem zframe124 (f : Nat → Value) : frameN 124 f = #[f 0, f 1, f 2, f 3, f 4, f 5, f 6, f 7, f 8, f 9, f 10, f 11, f 12, f 13, f 14, f 15, f 16, f 17, f 18, f 19, f 20, f 21, f 22, f 23, f 24, f 25, f 26, f 27, f 28, f 29, f 30, f 31, f 32, f 33, f 34, f 35, f 36, f 37, f 38, f 39, f 40, f 41, f 42, f 43, f 44, f 45, f 46, f 47, f 48, f 49, f 50, f 51, f 52, f 53, f 54, f 55, f 56, f 57, f 58, f 59, f 60, f 61, f 62, f 63, f 64, f 65, f 66, f 67, f 68, f 69, f 70, f 71, f 72, f 73, f 74, f 75, f 76, f 77, f 78, f 79, f 80, f 81, f 82, f 83, f 84, f 85, f 86, f 87, f 88, f 89, f 90, f 91, f 92, f 93, f 94, f 95, f 96, f 97, f 98, f 99, f 100, f 101, f 102, f 103, f 104, f 105, f 106, f 107, f 108, f 109, f 110, f 111, f 112, f 113, f 114, f 115, f 116, f 117, f 118, f 119, f 120, f 121, f 122, f 123] := by kernel_rfl
attribute [local go_sem ↓] execOp_bslice execOp_box execOp_convert
attribute [local go_sem] bslice75 bslice27e box_run Tryz.zl75 Tryz.zs75 Tryz.zl52 Tryz.zs52
set_option maxRecDepth 40000 in
set_option maxHeartbeats 1000000 in
theorem pattern_any (W : World) (bm : Nat) (m : MS) (Ce : List Value) (fa : Option Addr) (fc : Nat) (h : MAt W bm m Ce fa fc) (hl : m.ld = true) (hI : MsI m) (pr : Nat) (hpr : pr ≤ 255) (sla : Option Addr) (sln slc : Nat) (L : List Slt) (hr : Rw encL 2 W sla sln L) (hr4 : sln ≤ 4) : Calls Tryz.prog 59 #[.pointer (some ⟨bm, 0, none⟩), .int .i64 (pr : Int), .slice sla sln slc] W (MvPost W (PtM m pr L)) := by
  obtain ⟨Q, hQ⟩ : ∃ Q, Q = MvPost W (PtM m pr L) := ⟨_, rfl⟩
  rw [← hQ]
  have HQ := hid_of hQ
  obtain ⟨da, dc, c3, hPr⟩ := h.preds hl
  have k3 : 3 < Ce.length := by rw [h.len]; omega
  have k6 : 6 < Ce.length := by rw [h.len]; omega
  have c6 := h.fs
  have hrl : L.length = sln := hr.1
  have HRL := hid_of hrl
  have HM := hid_of h
  have HI := hid_of hI
  have HR := hid_of hr
  obtain ⟨N, eN⟩ : ∃ N, N = m.p.preds.length := ⟨_, rfl⟩
  have hN64 : N ≤ 64 := by rw [eN]; exact hI.pg.g.pok.nD
  rw [← eN] at c3 hPr
  have HN := hid_of eN
  obtain ⟨fn, efn⟩ : ∃ fn, fn = m.F.length := ⟨_, rfl⟩
  have hfn : fn = N := by rw [efn, eN]; exact hI.len
  rw [← efn] at c6
  subst hfn
  have HFN := hid_of efn
  have HPR := hid_of hPr
  have HL := hid_of hl
  have hbm := h.cell
  clear hQ h hI hr hrl eN efn hPr hl
  go_enter Tryz.func59, Tryz.ntmps59
  by_cases hp : pr < fn
  rotate_left 1
  · have hp1 : ¬ (pr : Int) < (fn : Int) := by omega
    have hp2 : (fn : Int) ≤ (pr : Int) := by omega
    have hp3 : fn ≤ pr := by omega
    go_wp2_with fail
    refine (refusal_any _ 11 6 (by decide) (by decide)).mono ?_
    rintro e V2 ⟨a2, n2', c2, rfl, ho2⟩
    dsimp only
    have HP : Hid (Q (.returned (.slice a2 n2' c2)) V2) := by
      show Q _ _
      rw [HQ.out]
      exact ⟨_, a2, n2', c2, rfl, ho2, .inl ⟨by rw [← HN.out]; exact hp3, rfl⟩⟩
    clear ho2
    go_wp2_with fail
    try go_ret
    exact HP.out
  have hp1 : (pr : Int) < (fn : Int) := by omega
  have hp2 : ¬ (fn : Int) ≤ (pr : Int) := by omega
  have hp3 : ¬ fn ≤ pr := by omega
  have p0 : (0 : Int) ≤ (pr : Int) := by omega
  have p2 : ((pr : Int)).toNat = pr := by omega
  obtain ⟨bd, Cd, rfl, g1, g2, g3⟩ := HPR.out.2 pr _ (pI_at (by rw [← HN.out]; exact hp))
  obtain ⟨har, har4⟩ := pI_ar HI.out.pg.g.pok (q := pr) (by rw [← HN.out]; exact hp)
  obtain ⟨ar, ear⟩ : ∃ ar, ar = arP m.p pr := ⟨_, rfl⟩
  rw [← ear] at har har4
  have m0 : nth Cd (pr * 3) = some (.int .i64 (ar : Int)) := by
    have h9 := nth_in (j := 0) g3 (show nth (PredInfo.enc (pI m.p pr)) 0 = some (.int .i64 (pI m.p pr).arity) from rfl) (by omega)
    rw [har] at h9
    exact h9
  have l9 : (pr + 1) * 3 ≤ fn * 3 := Nat.mul_le_mul_right _ hp
  have l0 : pr * 3 < Cd.length := by omega
  have HAR := hid_of ear
  clear g2 g3 har ear l9
  by_cases hra : sln = ar
  rotate_left 1
  · have hr1 : ¬ (sln : Int) = (ar : Int) := by omega
    have hr2 : ((sln : Int) == (ar : Int)) = false := by simp; omega
    have hr3 : ((sln : Int) != (ar : Int)) = true := by simp; omega
    go_wp2_with fail
    refine (refusal_any _ 13 6 (by decide) (by decide)).mono ?_
    rintro e V3 ⟨a2, n2', c2, rfl, ho2⟩
    dsimp only
    have HP : Hid (Q (.returned (.slice a2 n2' c2)) V3) := by
      show Q _ _
      rw [HQ.out]
      exact ⟨_, a2, n2', c2, rfl, ho2, .inr ⟨by rw [← HN.out]; exact hp, .inl ⟨by rw [HRL.out, ← HAR.out]; exact hra, rfl⟩⟩⟩
    clear ho2
    go_wp2_with fail
    try go_ret
    exact HP.out
  subst hra
  have hpf := perfectN_any W.drew bm 2 m.p fa fn fc m.F (by
    have h9 := (HM.out.ext (extends_drewN (ext_Ext (Ext.refl W)) 1)).pfe HL.out HI.out
    rw [← HFN.out] at h9
    exact h9)
  go_upto_region 5 with fail
  repeat go_step
  refine wp_region_held_drew (S := fun W' => blk W' bm = some Ce) (by kernel_rfl) hbm (fun hHeld => ?_)
  refine wpAnyH_take (i := 0) (oi := ⟨_, _, _, _, _, _⟩) (v := ?_) rfl (by kernel_rfl) (by kernel_rfl) (by kernel_rfl) (fun _ _ _ h => h) (Or.inl ⟨by rfl, ?_⟩) (by assumption) ?_
  rotate_left 1
  · intro W' hSw
    go_simp
    try with_reducible rfl
  try simp only [Act.put, List.setIfInBounds_toArray, List.set_cons_zero, List.set_cons_succ]
  refine wpAnyH_take (i := 1) (oi := ⟨_, _, _, _, _, _⟩) (v := ?_) rfl (by kernel_rfl) (by kernel_rfl) (by kernel_rfl) (fun _ _ _ h => h) (Or.inl ⟨by rfl, ?_⟩) (by assumption) ?_
  rotate_left 1
  · intro W' hSw
    go_simp
    try with_reducible rfl
  try simp only [Act.put, List.setIfInBounds_toArray, List.set_cons_zero, List.set_cons_succ]
  refine wpAnyH_take (i := 2) (oi := ⟨_, _, _, _, _, _⟩) (v := ?_) rfl (by kernel_rfl) (by kernel_rfl) (by kernel_rfl) (fun _ _ _ h => h) (Or.inl ⟨by rfl, ?_⟩) (by assumption) ?_
  rotate_left 1
  · intro W' hSw
    go_simp
    try with_reducible rfl
  try simp only [Act.put, List.setIfInBounds_toArray, List.set_cons_zero, List.set_cons_succ]
  refine wpAnyH_take (i := 3) (oi := ⟨_, _, _, _, _, _⟩) (v := ?_) rfl (by kernel_rfl) (by kernel_rfl) (by kernel_rfl) (fun _ _ _ h => h) (Or.inl ⟨by rfl, ?_⟩) (by assumption) ?_
  rotate_left 1
  · intro W' hSw
    go_simp
    try with_reducible rfl
  try simp only [Act.put, List.setIfInBounds_toArray, List.set_cons_zero, List.set_cons_succ]
  refine wpAnyH_take (i := 4) (oi := ⟨_, _, _, _, _, _⟩) (v := ?_) rfl (by kernel_rfl) (by kernel_rfl) (by kernel_rfl) (fun _ _ _ h => h) (Or.inl ⟨by rfl, ?_⟩) (by assumption) ?_
  rotate_left 1
  · intro W' hSw
    go_simp
    try with_reducible rfl
  try simp only [Act.put, List.setIfInBounds_toArray, List.set_cons_zero, List.set_cons_succ]
  refine wpAnyH_take (i := 5) (oi := ⟨_, _, _, _, _, _⟩) (v := ?_) rfl (by kernel_rfl) (by kernel_rfl) (by kernel_rfl) (fun _ _ _ h => h) (Or.inl ⟨by rfl, ?_⟩) (by assumption) ?_
  rotate_left 1
  · intro W' hSw
    go_simp
    try with_reducible rfl
  try simp only [Act.put, List.setIfInBounds_toArray, List.set_cons_zero, List.set_cons_succ]
  refine wpAnyH_take (i := 6) (oi := ⟨_, _, _, _, _, _⟩) (v := ?_) rfl (by kernel_rfl) (by kernel_rfl) (by kernel_rfl) (fun _ _ _ h => h) (Or.inl ⟨by rfl, ?_⟩) (by assumption) ?_
  rotate_left 1
  · intro W' hSw
    go_simp
    try with_reducible rfl
  try simp only [Act.put, List.setIfInBounds_toArray, List.set_cons_zero, List.set_cons_succ]
  refine wpAnyH_ready (rs := [7]) (by kernel_rfl) (by simp) ?_
  refine AllReadyH.cons (o := ⟨_, _, _, _, _, _⟩) rfl (fun K' hK => ?_) AllReadyH.nil
  go_simp
  refine hpf.mono ?_
  rintro e V4 ⟨bo, ta, tn, tc, F1, T1, rfl, hPf, hFl, hx4, hFA, -, -, hLL, hR4⟩
  dsimp only
  have hbm4 : blk V4 bm = some Ce := (hx4.blk (blk_lt hbm)).trans hbm
  refine hK.out _ _ hbm4 (fun hHeld => ?_)
  clear hK K'
  try simp only [Act.put, List.setIfInBounds_toArray, List.set_cons_zero, List.set_cons_succ]
  refine wpAnyH_take (i := 8) (oi := ⟨_, _, _, _, _, _⟩) (v := ?_) rfl (by kernel_rfl) (by kernel_rfl) (by kernel_rfl) (fun _ _ _ h => h) (Or.inl ⟨by rfl, ?_⟩) (by assumption) ?_
  rotate_left 1
  · intro W' hSw
    go_simp
    try with_reducible rfl
  try simp only [Act.put, List.setIfInBounds_toArray, List.set_cons_zero, List.set_cons_succ]
  refine wpAnyH_take (i := 9) (oi := ⟨_, _, _, _, _, _⟩) (v := ?_) rfl (by kernel_rfl) (by kernel_rfl) (by kernel_rfl) (fun _ _ _ h => h) (Or.inl ⟨by rfl, ?_⟩) (by assumption) ?_
  rotate_left 1
  · intro W' hSw
    go_simp
    try with_reducible rfl
  try simp only [Act.put, List.setIfInBounds_toArray, List.set_cons_zero, List.set_cons_succ]
  refine wpAnyH_take (i := 10) (oi := ⟨_, _, _, _, _, _⟩) (v := ?_) rfl (by kernel_rfl) (by kernel_rfl) (by kernel_rfl) (fun _ _ _ h => h) (Or.inl ⟨by rfl, ?_⟩) (by assumption) ?_
  rotate_left 1
  · intro W' hSw
    go_simp
    try with_reducible rfl
  try simp only [Act.put, List.setIfInBounds_toArray, List.set_cons_zero, List.set_cons_succ]
  refine wpAnyH_take (i := 11) (oi := ⟨_, _, _, _, _, _⟩) (v := ?_) rfl (by kernel_rfl) (by kernel_rfl) (by kernel_rfl) (fun _ _ _ h => h) (Or.inl ⟨by rfl, ?_⟩) (by assumption) ?_
  rotate_left 1
  · intro W' hSw
    go_simp
    try with_reducible rfl
  try simp only [Act.put, List.setIfInBounds_toArray, List.set_cons_zero, List.set_cons_succ]
  refine wpAnyH_take (i := 12) (oi := ⟨_, _, _, _, _, _⟩) (v := ?_) rfl (by kernel_rfl) (by kernel_rfl) (by kernel_rfl) (fun _ _ _ h => h) (Or.inl ⟨by rfl, ?_⟩) (by assumption) ?_
  rotate_left 1
  · intro W' hSw
    go_simp
    try with_reducible rfl
  try simp only [Act.put, List.setIfInBounds_toArray, List.set_cons_zero, List.set_cons_succ]
  refine wpAnyH_done (by kernel_rfl) ?_ _
  clear hHeld hpf
  have hF1q : F1[pr]? = some (F1.getD pr []) := by rw [List.getD_eq_getElem?_getD, List.getElem?_eq_getElem (by rw [hFl, ← HFN.out]; exact hp)]; rfl
  obtain ⟨bq, Cq, sq, eqq, y1, y2, y3, y4⟩ := hFA.at hF1q
  have ebq : bq = bo := by cases eqq; rfl
  subst ebq
  obtain ⟨sa, sn, sc⟩ := sq
  dsimp only at y3 y4
  obtain ⟨Ls, eLs⟩ : ∃ Ls, Ls = F1.getD pr [] := ⟨_, rfl⟩
  rw [← eLs] at y4
  obtain ⟨K0, w1, w2, w3⟩ := y4
  obtain ⟨-, -, hpr1, hpr2⟩ := HI.out.perf hPf
  have hsb : sn ≤ 512 := by rw [← w2, eLs]; exact hpr2 pr
  have HLS : Hid (∀ x ∈ Ls, x.length = sln ∧ ∀ y ∈ x, y.length ≤ 64) := fun x hx => by
    have h9 := hpr1 pr x (by unfold memN; rw [← eLs]; exact hx)
    rw [← HAR.out] at h9
    exact h9
  obtain ⟨LR, eLR⟩ : ∃ LR : List RD, LR = List.zip K0 Ls := ⟨_, rfl⟩
  have hK0 : K0.length = sn := w1.1
  have hLRl : LR.length = sn := by rw [eLR, List.length_zip]; omega
  have HLR : Hid (∀ (i : Nat) (x : RD), LR[i]? = some x → K0[i]? = some x.1 ∧ Ls[i]? = some x.2 ∧ x.1.len = sln ∧ Rw encS 1 V4 x.1.a x.1.len x.2) := fun i x hx => by
    rw [eLR, List.getElem?_zip_eq_some] at hx
    have h9 := w3 i x.1 x.2 hx.1 hx.2
    exact ⟨hx.1, hx.2, by rw [← h9.1]; exact (HLS.out x.2 (List.mem_of_getElem? hx.2)).1, h9⟩
  have HSND : Hid (∀ k, (LR.take k).map (·.2) = Ls.take k) := fun k => by
    rw [eLR, List.map_take, List.map_snd_zip (by omega)]
  have HW1 := hid_of w1
  have HPF : Hid (PfTo m.p (constF m.p.pool m.F) 0 m.F [] F1 T1 ∧ F1.length = m.F.length ∧ Ls = F1.getD pr []) := ⟨hPf, hFl, eLs⟩
  have HX4 : Hid (W.Extends V4) := (extends_drewN (ext_Ext (Ext.refl W)) 1).trans hx4
  have HY1 := hid_of y1
  have HLRL := hid_of hLRl
  rw [← HFN.out]
  clear hPf hFl hx4 hFA hLL hR4 eqq eLs eLR hF1q hbm w1 w2 w3 hpr1 hpr2 hLRl hK0
  go_upto_region 8 with fail
  refine wp_loop_f 124 (zPt1 V4 bm bq fn pr sla sln slc L LR sn) (fun f _ => sn - (intOf (f 10)).toNat) rfl ⟨rfl, rfl, rfl, 0, none, 0, 0, by omega, rfl, rfl, OutG.nil (ext_Ext (Ext.refl _))⟩ ?_
  clear y1
  intro G V5 hrel
  obtain ⟨f1, f2, f7, i, a5, n5, c5, hi, f10, f9, HO⟩ := hrel
  have H10 := hid_of f10
  rw [zframe124, f1, f2, f7, f9, f10]
  clear f1 f2 f7 f9 f10
  have y1 : blk V5 bq = some Cq := (HO.out.2.1.blk (blk_lt HY1.out)).trans HY1.out
  by_cases hii : i < sn
  rotate_left 1
  · have hii' : ¬ (i : Int) < (sn : Int) := by omega
    obtain ⟨L0, eL0⟩ : ∃ L0, L0 = LR.filter fun x => fitB L x.2 := ⟨_, rfl⟩
    have hO5 : OutG encR 1 78 V4 V5 a5 n5 c5 (L0.map (·.1)) := by
      have h9 := HO.out
      rw [List.take_of_length_le (by have := HLRL.out; omega)] at h9
      rw [eL0]; exact h9
    have hn5 : n5 = L0.length := by have h9 := hO5.2.2; rw [List.length_map] at h9; exact h9
    have hnb : n5 ≤ 512 := by
      have h9 : (LR.filter fun x => fitB L x.2).length ≤ LR.length := List.length_filter_le _ _
      rw [← eL0] at h9
      have := HLRL.out
      omega
    have hso := sorted_any V5 a5 n5 c5 sln L0 (by omega) (hO5.rw el75) (fun x hx => by
      rw [eL0] at hx
      obtain ⟨j, hj⟩ := List.mem_iff_getElem?.1 (List.mem_filter.1 hx).1
      have h9 := HLR.out j x hj
      exact ⟨h9.2.2.1, h9.2.2.2.sub (Sub.ext hO5.2.1)⟩) (by omega)
    have HX5 : Hid (W.Extends V5) := HX4.out.trans hO5.2.1
    have HN5 := hid_of hn5
    have HL0S : Hid (L0.map (·.2) = (F1.getD pr []).filter (fitB L)) := by
      show _ = _
      rw [eL0, ← HPF.out.2.2]
      have e9 : Ls = LR.map (·.2) := by
        have h9 := HSND.out LR.length
        rw [List.take_length, List.take_of_length_le] at h9
        · exact h9.symm
        · have h8 := HSND.out (LR.length + Ls.length)
          rw [List.take_of_length_le (by omega), List.take_of_length_le (by omega)] at h8
          rw [← h8, List.length_map]; exact Nat.le_refl _
      rw [e9, List.filter_map]
      rfl
    clear HO hO5 hn5 eL0 hi hii
    go_wp2_with fail
    refine hso.mono ?_
    rintro e V6 ⟨sa6, sc6, O6, rfl, hS6⟩
    dsimp only
    obtain ⟨sn6, esn6⟩ : ∃ sn6, sn6 = L0.length := ⟨_, rfl⟩
    rw [← esn6] at hS6 ⊢
    have hsn6 : sn6 ≤ 512 := by rw [esn6, ← HN5.out]; exact hnb
    obtain ⟨R, eR⟩ : ∃ R, R = (zisF L0).map (·.2) := ⟨_, rfl⟩
    have hRr := hS6.rows
    rw [← eR] at hRr
    have HRows := hid_of hRr
    have hRl : R.length = sn6 := hRr.choose_spec.2.1
    have HRX : Hid (∀ x ∈ R, x.length = sln ∧ ∀ y ∈ x, y.length ≤ 64) := fun x hx => by
      rw [eR] at hx
      obtain ⟨z, hz, rfl⟩ := List.mem_map.1 hx
      have hz2 : z ∈ L0 := by
        have key : ∀ (M A : List RD), z ∈ M.foldl zinsP A → z ∈ A ∨ z ∈ M := by
          intro M
          induction M with
          | nil => exact fun A h => .inl h
          | cons y M ih =>
            intro A h
            rcases ih _ h with h | h
            · rcases (zinsP_mem A y z).1 h with h | h
              · exact .inr (by rw [h]; exact List.mem_cons_self)
              · exact .inl h
            · exact .inr (List.mem_cons_of_mem _ h)
        rcases key L0 [] hz with h | h
        · cases h
        · exact h
      have h9 : z.2 ∈ L0.map (·.2) := List.mem_map.2 ⟨z, hz2, rfl⟩
      rw [HL0S.out] at h9
      exact HLS.out z.2 (by rw [HPF.out.2.2]; exact (List.mem_filter.1 h9).1)
    have HRL2 := hid_of hRl
    have HX6 : Hid (W.Extends V6) := HX5.out.trans hS6.ext
    have u0 : IntKind.u8.wrap (sln : Int) = (sln : Int) := by rw [IntKind.wrap_u8]; omega
    have u1 : IntKind.u8.wrap (((sn6 / 256 : Nat)) : Int) = ((sn6 / 256 : Nat) : Int) := by rw [IntKind.wrap_u8]; omega
    have u2 : IntKind.u8.wrap (((sn6 % 256 : Nat)) : Int) = ((sn6 % 256 : Nat) : Int) := by rw [IntKind.wrap_u8]; omega
    obtain ⟨q1, eq1⟩ : ∃ q1 : Nat, q1 = sn6 / 256 := ⟨_, rfl⟩
    obtain ⟨q2, eq2⟩ : ∃ q2 : Nat, q2 = sn6 % 256 := ⟨_, rfl⟩
    have hd1 : Int.tdiv (sn6 : Int) 256 = (q1 : Int) := by rw [eq1]; rfl
    have hd2 : Int.tmod (sn6 : Int) 256 = (q2 : Int) := by rw [eq2]; rfl
    have b1 : q1 ≤ 255 := by omega
    have b2 : q2 ≤ 255 := by omega
    rw [← eq1] at u1
    rw [← eq2] at u2
    have w1' : IntKind.i64.wrap (q1 : Int) = (q1 : Int) := by rw [IntKind.wrap_i64]; omega
    have w2' : IntKind.i64.wrap (q2 : Int) = (q2 : Int) := by rw [IntKind.wrap_i64]; omega
    have ho7 := ob_new (ext_Ext (Ext.refl V6)) [0, 6, UInt8.ofNat sln, UInt8.ofNat q1, UInt8.ofNat q2] (by simp) #[.int .u8 0, .int .u8 6, .int .u8 (sln : Int), .int .u8 (q1 : Int), .int .u8 (q2 : Int)] (by
      show _ = (List.map u8v _).toArray
      rw [List.map_cons, List.map_cons, List.map_cons, List.map_cons, List.map_cons, List.map_nil, u8_ofk sln (by omega), u8_ofk q1 b1, u8_ofk q2 b2]; rfl) 5 rfl
    have HFIN : Hid (∀ a n c V, Ob V6 V a n c ([0, 6, UInt8.ofNat sln, UInt8.ofNat q1, UInt8.ofNat q2] ++ R.flatMap encRow) → Q (.returned (.slice a n c)) V) := fun a n c V ho => by
      rw [HQ.out]
      have hx := HX6.out
      refine ⟨_, a, n, c, rfl, ⟨row_base ho.1 hx.size, hx.trans ho.2.1, ho.2.2⟩, .inr ⟨by rw [← HN.out]; exact hp, .inr ⟨by rw [HRL.out, ← HAR.out], F1, T1, HPF.out.1, HPF.out.2.1, ?_⟩⟩⟩
      rw [HRL.out, eq1, eq2, esn6, eR, zisF_snd, HL0S.out]
      rw [← HL0S.out, List.length_map]
    have HO7 : Hid (Ob V6 (V6.alloc (.cells #[.int .u8 0, .int .u8 6, .int .u8 (sln : Int), .int .u8 (q1 : Int), .int .u8 (q2 : Int)] 5)) (some ⟨V6.heap.size, 0, none⟩) 5 5 ([0, 6, UInt8.ofNat sln, UInt8.ofNat q1, UInt8.ofNat q2] ++ (R.take 0).flatMap encRow)) := by
      show Ob _ _ _ _ _ _
      simpa using ho7
    clear hS6 hso eR hRr hRl esn6 eq1 eq2
    go_upto_region 21 with fail
    refine wp_loop_f 124 (zPt3 V6 sa6 sn6 sc6 [0, 6, UInt8.ofNat sln, UInt8.ofNat q1, UInt8.ofNat q2] R) (fun f _ => sn6 - (intOf (f 14)).toNat) rfl ⟨rfl, 0, some ⟨V6.heap.size, 0, none⟩, 5, 5, by omega, rfl, rfl, HO7⟩ ?_
    clear ho7
    intro G3 V8 hrel
    obtain ⟨f9, j, a8, n8, c8, hj, f14, f13, HO8⟩ := hrel
    have H14 := hid_of f14
    rw [zframe124, f9, f13, f14]
    clear f9 f13 f14
    by_cases hjn : j < sn6
    rotate_left 1
    · have hjn' : ¬ (j : Int) < (sn6 : Int) := by omega
      have HP := hid_of (HFIN.out a8 n8 c8 V8 (by
        have h9 := HO8.out
        rw [List.take_of_length_le (by have := HRL2.out; omega)] at h9
        exact h9))
      clear HO8
      go_wp2_with fail
      try go_ret
      exact HP.out
    have hjn' : (j : Int) < (sn6 : Int) := by omega
    have j0 : (0 : Int) ≤ (j : Int) := by omega
    have jj2 : ((j : Int)).toNat = j := by omega
    obtain ⟨x, hx⟩ : ∃ x, R[j]? = some x := ⟨_, List.getElem?_eq_getElem (by have := HRL2.out; omega)⟩
    obtain ⟨bk, Ck, ss, rfl, z1, z2, z3, z4⟩ := HRows.out.at hx
    have hbk : blk V8 bk = some Ck := (HO8.out.2.1.blk (blk_lt z1)).trans z1
    obtain ⟨hx1, hx2⟩ := HRX.out x (List.mem_of_getElem? hx)
    have hxs : x.length = ss.len := z4.1
    have hzl : ([0, 6, UInt8.ofNat sln, UInt8.ofNat q1, UInt8.ofNat q2] ++ (R.take j).flatMap encRow).length ≤ 300000 := by
      have h9 := rows_len (R := R.take j) (fun r hr => by
        have h8 := HRX.out r (List.mem_of_mem_take hr)
        exact ⟨by omega, h8.2⟩)
      have h7 : (R.take j).length ≤ 512 := by rw [List.length_take]; omega
      rw [List.length_append]
      show 5 + _ ≤ _
      omega
    have hpu := putRow_any V6 V8 a8 n8 c8 _ HO8.out hzl ss.a ss.len ss.cap x (by omega) (fun W' hW _ => z4.sub (Sub.ext hW)) hx2
    have HNX : Hid (∀ a n c V, Ob V6 V a n c ([0, 6, UInt8.ofNat sln, UInt8.ofNat q1, UInt8.ofNat q2] ++ (R.take j).flatMap encRow ++ x.flatMap encN) → Ob V6 V a n c ([0, 6, UInt8.ofNat sln, UInt8.ofNat q1, UInt8.ofNat q2] ++ (R.take (j + 1)).flatMap encRow)) := fun a n c V ho => by
      rw [take_at hx, List.flatMap_append, List.flatMap_cons, List.flatMap_nil, List.append_nil, ← List.append_assoc]
      exact ho
    clear HO8 hx z1 z4 hx1 hx2 hxs hzl
    go_wp2_with fail
    refine hpu.mono ?_
    rintro e V9 ⟨a9, n9, c9, rfl, ho9, -⟩
    dsimp only
    have HJ := hid_of (HNX.out a9 n9 c9 V9 ho9)
    clear hpu ho9 HNX
    go_wp2_with fail
    refine ⟨rfl, rfl, ⟨rfl, j + 1, a9, n9, c9, by omega, ?_, rfl, HJ⟩, ?_⟩
    · show Value.int .i64 _ = _
      go_num
    · show sn6 - (intOf (Value.int .i64 _)).toNat < sn6 - (intOf (G3 14)).toNat
      rw [H14.out]
      simp [intOf]; omega
  have hii' : (i : Int) < (sn : Int) := by omega
  have i0 : (0 : Int) ≤ (i : Int) := by omega
  have i2 : ((i : Int)).toNat = i := by omega
  obtain ⟨x, hx⟩ : ∃ x, LR[i]? = some x := ⟨_, List.getElem?_eq_getElem (by have := HLRL.out; omega)⟩
  obtain ⟨hx1, hx2, hx3, hx4⟩ := HLR.out i x hx
  obtain ⟨bk, Ck, rfl, z1, z2, z3⟩ := HW1.out.2 i x.1 hx1
  have z4 : nth Ck i = some (.slice x.1.a x.1.len x.1.cap) := by
    have h8 := nth_in (j := 0) z3 (show nth (encR x.1) 0 = some (Sl.val x.1) from rfl) (by omega)
    rw [Nat.mul_one, Nat.add_zero] at h8
    exact h8
  have z5 : i < Ck.length := by omega
  have hbk : blk V5 bk = some Ck := (HO.out.2.1.blk (blk_lt z1)).trans z1
  have hxl : x.2.length = sln := (HLS.out x.2 (List.mem_of_getElem? hx2)).1
  have HXX := hid_of hx
  have HX4' : Hid (Rw encS 1 V5 x.1.a x.1.len x.2) := hx4.sub (Sub.ext HO.out.2.1)
  have HXL := hid_of hxl
  have HSL : Hid (Rw encL 2 V5 sla sln L) := HR.out.sub (Sub.ext (HX4.out.trans HO.out.2.1))
  obtain ⟨xs, exs⟩ : ∃ xs : Sl, xs = x.1 := ⟨_, rfl⟩
  obtain ⟨r, er⟩ : ∃ r, r = x.2 := ⟨_, rfl⟩
  have hx3' : xs.len = sln := by rw [exs]; exact hx3
  rw [← exs] at z4 HX4'
  rw [← er] at HX4' HXL
  have HER := hid_of er
  have HEX := hid_of exs
  obtain ⟨xsa, xsn, xsc⟩ := xs
  dsimp only at z4 HX4' hx3'
  subst hx3'
  clear hx hx1 hx2 hx3 hx4 z1 z2 z3 hxl exs er
  go_upto_region 12 with fail
  refine wp_loop_f 124 (zPt2 bq fn pr i sla xsn slc L r (.slice a5 n5 c5) V5) (fun f _ => xsn - (intOf (f 12)).toNat) rfl ⟨rfl, rfl, rfl, rfl, rfl, 0, by omega, rfl, rfl, ⟨0, rfl⟩⟩ ?_
  intro G2 V6 hrel
  obtain ⟨f1, f2, f7, f9, f10, k, hk, f12, f11, HV6⟩ := hrel
  have H12 := hid_of f12
  rw [zframe124, f1, f2, f7, f9, f10, f11, f12]
  clear f1 f2 f7 f9 f10 f11 f12
  have y16 : blk V6 bq = some Cq := by obtain ⟨j, hj⟩ := HV6.out; rw [hj]; exact y1
  have hbk6 : blk V6 bk = some Ck := by obtain ⟨j, hj⟩ := HV6.out; rw [hj]; exact hbk
  by_cases hkn : k < xsn
  rotate_left 1
  · have hkn' : ¬ (k : Int) < (xsn : Int) := by omega
    obtain ⟨ft, eft⟩ : ∃ ft, ft = fitN L r k := ⟨_, rfl⟩
    rw [← eft]
    have hft : ft = fitB L r := by
      rw [eft, show k = L.length by have := HRL.out; omega]
      rfl
    have HO6 : Hid (OutG encR 1 78 V4 V6 a5 n5 c5 (((LR.take i).filter fun x => fitB L x.2).map (·.1))) := by
      obtain ⟨j, hj⟩ := HV6.out
      show OutG _ _ _ _ _ _ _ _ _
      rw [hj]
      exact HO.out.ext (extends_drewN (ext_Ext (Ext.refl _)) j)
    have HFT := hid_of hft
    clear HO eft hft HV6
    cases ft with
    | false =>
      have HJ : Hid (OutG encR 1 78 V4 V6 a5 n5 c5 (((LR.take (i + 1)).filter fun x => fitB L x.2).map (·.1))) := by
        show OutG _ _ _ _ _ _ _ _ _
        rw [take_at HXX.out, List.filter_append]
        have e9 : ([x].filter fun x => fitB L x.2) = [] := by
          rw [List.filter_cons_of_neg (by rw [← HER.out, ← HFT.out]; decide)]; rfl
        rw [e9, List.append_nil]
        exact HO6.out
      clear HO6
      go_wp2_with fail
      refine ⟨rfl, rfl, ⟨rfl, rfl, rfl, i + 1, a5, n5, c5, by omega, ?_, rfl, HJ⟩, ?_⟩
      · show Value.int .i64 _ = _
        go_num
      · show sn - (intOf (Value.int .i64 _)).toNat < sn - (intOf (G 10)).toNat
        rw [H10.out]
        simp [intOf]; omega
    | true =>
      have hn5 : n5 ≤ 512 := by
        have h9 := HO6.out.2.2
        rw [List.length_map] at h9
        have h8 : ((LR.take i).filter fun x => fitB L x.2).length ≤ (LR.take i).length := List.length_filter_le _ _
        rw [List.length_take] at h8
        omega
      obtain ⟨a7, c7, V7, hrun, hO7, -⟩ := HO6.out.app el75 ⟨xsa, xsn, xsc⟩ (by have h9 := HO6.out.2.2; omega) #[.slice xsa xsn xsc] rfl 1
      have HJ : Hid (OutG encR 1 78 V4 V7 a7 (n5 + 1) c7 (((LR.take (i + 1)).filter fun x => fitB L x.2).map (·.1))) := by
        show OutG _ _ _ _ _ _ _ _ _
        rw [take_at HXX.out, List.filter_append]
        have e9 : ([x].filter fun x => fitB L x.2) = [x] := by
          rw [List.filter_cons_of_pos (by rw [← HER.out, ← HFT.out])]; rfl
        rw [e9, List.map_append, List.map_cons, List.map_nil, ← HEX.out]
        exact hO7
      clear HO6 hO7
      go_wp2_with (at_builtin; refine wpList_append_run rfl _ _ 75 rfl _ _ _ _ rfl rfl hrun ?_)
      refine ⟨rfl, rfl, ⟨rfl, rfl, rfl, i + 1, a7, n5 + 1, c7, by omega, ?_, rfl, HJ⟩, ?_⟩
      · show Value.int .i64 _ = _
        go_num
      · show sn - (intOf (Value.int .i64 _)).toNat < sn - (intOf (G 10)).toNat
        rw [H10.out]
        simp [intOf]; omega
  have hkn' : (k : Int) < (xsn : Int) := by omega
  have j0 : (0 : Int) ≤ (k : Int) := by omega
  have jj2 : ((k : Int)).toNat = k := by omega
  obtain ⟨sl, hsl⟩ : ∃ x, L[k]? = some x := ⟨_, List.getElem?_eq_getElem (by have := HRL.out; omega)⟩
  obtain ⟨bl, Cl, rfl, v1, v2, v3⟩ := HSL.out.2 k sl hsl
  obtain ⟨y, hy⟩ : ∃ y, r[k]? = some y := ⟨_, List.getElem?_eq_getElem (by rw [HXL.out]; exact hkn)⟩
  obtain ⟨b9, C9, rfl, u1, u2, u3⟩ := str_at HX4'.out hy
  have m10 : nth Cl (k * 2) = some (.bool sl.1) := nth_in (j := 0) v3 rfl (by omega)
  have m11 : nth Cl (k * 2 + 1) = some (.string ⟨sl.2.toArray⟩) := nth_in (j := 1) v3 rfl (by omega)
  have l10 : (k + 1) * 2 ≤ xsn * 2 := Nat.mul_le_mul_right _ hkn
  have l11 : k * 2 < Cl.length := by omega
  have l12 : k * 2 + 1 < Cl.length := by omega
  have v16 : blk V6 bl = some Cl := by obtain ⟨j, hj⟩ := HV6.out; rw [hj]; exact v1
  have u16 : blk V6 b9 = some C9 := by obtain ⟨j, hj⟩ := HV6.out; rw [hj]; exact u1
  have hfs : fitN L r (k + 1) = (fitN L r k && (!sl.1 || decide (sl.2 = y))) := by
    rw [fitN_succ, List.getD_eq_getElem?_getD, hsl, List.getD_eq_getElem?_getD, hy]; rfl
  obtain ⟨fk, efk⟩ : ∃ fk, fk = fitN L r k := ⟨_, rfl⟩
  rw [← efk] at hfs ⊢
  obtain ⟨sb, snm⟩ := sl
  dsimp only at m10 m11 hfs
  have HFS := hid_of hfs
  have HVN : Hid (∃ j, V6.drew = V5.drewN j) := by
    obtain ⟨j, hj⟩ := HV6.out
    exact ⟨j + 1, by rw [hj]; rfl⟩
  clear hsl v1 v2 v3 hy u1 hfs efk l10 HV6
  have hS4 : blk V6 bl = some Cl ∧ blk V6 bq = some Cq ∧ blk V6 bk = some Ck ∧ blk V6 b9 = some C9 := ⟨v16, y16, hbk6, u16⟩
  cases sb with
  | false =>
    have hf1 : fk = fitN L r (k + 1) := by rw [HFS.out]; simp
    have HF1 := hid_of hf1
    clear hf1
    go_upto_region 14 with fail
    repeat go_step
    refine wp_region_held_drew (S := fun W' => blk W' bl = some Cl ∧ blk W' bq = some Cq ∧ blk W' bk = some Ck ∧ blk W' b9 = some C9) (by kernel_rfl) hS4 (fun hHeld => ?_)
    refine wpAnyH_take (i := 0) (oi := ⟨_, _, _, _, _, _⟩) (v := ?_) rfl (by kernel_rfl) (by kernel_rfl) (by kernel_rfl) (fun _ _ _ h => h) (Or.inl ⟨by rfl, ?_⟩) (by assumption) ?_
    rotate_left 1
    · intro W' hSw
      obtain ⟨hS1, hS2, hS3, hS4⟩ := hSw
      go_simp
      try with_reducible rfl
    try simp only [Act.put, List.setIfInBounds_toArray, List.set_cons_zero, List.set_cons_succ]
    refine wpAnyH_take (i := 1) (oi := ⟨_, _, _, _, _, _⟩) (v := ?_) rfl (by kernel_rfl) (by kernel_rfl) (by kernel_rfl) (fun _ _ _ h => h) (Or.inl ⟨by rfl, ?_⟩) (by assumption) ?_
    rotate_left 1
    · intro W' hSw
      obtain ⟨hS1, hS2, hS3, hS4⟩ := hSw
      go_simp
      try with_reducible rfl
    try simp only [Act.put, List.setIfInBounds_toArray, List.set_cons_zero, List.set_cons_succ]
    refine wpAnyH_take (i := 2) (oi := ⟨_, _, _, _, _, _⟩) (v := ?_) rfl (by kernel_rfl) (by kernel_rfl) (by kernel_rfl) (fun _ _ _ h => h) (Or.inl ⟨by rfl, ?_⟩) (by assumption) ?_
    rotate_left 1
    · intro W' hSw
      obtain ⟨hS1, hS2, hS3, hS4⟩ := hSw
      go_simp
      try with_reducible rfl
    try simp only [Act.put, List.setIfInBounds_toArray, List.set_cons_zero, List.set_cons_succ]
    refine wpAnyH_take (i := 3) (oi := ⟨_, _, _, _, _, _⟩) (v := ?_) rfl (by kernel_rfl) (by kernel_rfl) (by kernel_rfl) (fun _ _ _ h => h) (Or.inl ⟨by rfl, ?_⟩) (by assumption) ?_
    rotate_left 1
    · intro W' hSw
      obtain ⟨hS1, hS2, hS3, hS4⟩ := hSw
      go_simp
      try with_reducible rfl
    try simp only [Act.put, List.setIfInBounds_toArray, List.set_cons_zero, List.set_cons_succ]
    refine wpAnyH_take (i := 4) (oi := ⟨_, _, _, _, _, _⟩) (v := ?_) rfl (by kernel_rfl) (by kernel_rfl) (by kernel_rfl) (fun _ _ _ h => h) (Or.inl ⟨by rfl, ?_⟩) (by assumption) ?_
    rotate_left 1
    · intro W' hSw
      obtain ⟨hS1, hS2, hS3, hS4⟩ := hSw
      go_simp
      try with_reducible rfl
    try simp only [Act.put, List.setIfInBounds_toArray, List.set_cons_zero, List.set_cons_succ]
    refine wpAnyH_take (i := 5) (oi := ⟨_, _, _, _, _, _⟩) (v := ?_) rfl (by kernel_rfl) (by kernel_rfl) (by kernel_rfl) (fun _ _ _ h => h) (Or.inl ⟨by rfl, ?_⟩) (by assumption) ?_
    rotate_left 1
    · intro W' hSw
      obtain ⟨hS1, hS2, hS3, hS4⟩ := hSw
      go_simp
      try with_reducible rfl
    try simp only [Act.put, List.setIfInBounds_toArray, List.set_cons_zero, List.set_cons_succ]
    refine wpAnyH_take (i := 6) (oi := ⟨_, _, _, _, _, _⟩) (v := undef) rfl (by kernel_rfl) (by kernel_rfl) (by kernel_rfl) (fun _ _ _ h => h) (Or.inr ⟨by rfl, rfl⟩) (by assumption) ?_
    try simp only [Act.put, List.setIfInBounds_toArray, List.set_cons_zero, List.set_cons_succ]
    refine wpAnyH_take (i := 7) (oi := ⟨_, _, _, _, _, _⟩) (v := undef) rfl (by kernel_rfl) (by kernel_rfl) (by kernel_rfl) (fun _ _ _ h => h) (Or.inr ⟨by rfl, rfl⟩) (by assumption) ?_
    try simp only [Act.put, List.setIfInBounds_toArray, List.set_cons_zero, List.set_cons_succ]
    refine wpAnyH_take (i := 8) (oi := ⟨_, _, _, _, _, _⟩) (v := undef) rfl (by kernel_rfl) (by kernel_rfl) (by kernel_rfl) (fun _ _ _ h => h) (Or.inr ⟨by rfl, rfl⟩) (by assumption) ?_
    try simp only [Act.put, List.setIfInBounds_toArray, List.set_cons_zero, List.set_cons_succ]
    refine wpAnyH_take (i := 9) (oi := ⟨_, _, _, _, _, _⟩) (v := undef) rfl (by kernel_rfl) (by kernel_rfl) (by kernel_rfl) (fun _ _ _ h => h) (Or.inr ⟨by rfl, rfl⟩) (by assumption) ?_
    try simp only [Act.put, List.setIfInBounds_toArray, List.set_cons_zero, List.set_cons_succ]
    refine wpAnyH_take (i := 10) (oi := ⟨_, _, _, _, _, _⟩) (v := undef) rfl (by kernel_rfl) (by kernel_rfl) (by kernel_rfl) (fun _ _ _ h => h) (Or.inr ⟨by rfl, rfl⟩) (by assumption) ?_
    try simp only [Act.put, List.setIfInBounds_toArray, List.set_cons_zero, List.set_cons_succ]
    refine wpAnyH_take (i := 11) (oi := ⟨_, _, _, _, _, _⟩) (v := undef) rfl (by kernel_rfl) (by kernel_rfl) (by kernel_rfl) (fun _ _ _ h => h) (Or.inr ⟨by rfl, rfl⟩) (by assumption) ?_
    try simp only [Act.put, List.setIfInBounds_toArray, List.set_cons_zero, List.set_cons_succ]
    refine wpAnyH_take (i := 12) (oi := ⟨_, _, _, _, _, _⟩) (v := undef) rfl (by kernel_rfl) (by kernel_rfl) (by kernel_rfl) (fun _ _ _ h => h) (Or.inr ⟨by rfl, rfl⟩) (by assumption) ?_
    try simp only [Act.put, List.setIfInBounds_toArray, List.set_cons_zero, List.set_cons_succ]
    refine wpAnyH_take (i := 13) (oi := ⟨_, _, _, _, _, _⟩) (v := undef) rfl (by kernel_rfl) (by kernel_rfl) (by kernel_rfl) (fun _ _ _ h => h) (Or.inr ⟨by rfl, rfl⟩) (by assumption) ?_
    try simp only [Act.put, List.setIfInBounds_toArray, List.set_cons_zero, List.set_cons_succ]
    refine wpAnyH_take (i := 14) (oi := ⟨_, _, _, _, _, _⟩) (v := undef) rfl (by kernel_rfl) (by kernel_rfl) (by kernel_rfl) (fun _ _ _ h => h) (Or.inr ⟨by rfl, rfl⟩) (by assumption) ?_
    try simp only [Act.put, List.setIfInBounds_toArray, List.set_cons_zero, List.set_cons_succ]
    refine wpAnyH_take (i := 15) (oi := ⟨_, _, _, _, _, _⟩) (v := undef) rfl (by kernel_rfl) (by kernel_rfl) (by kernel_rfl) (fun _ _ _ h => h) (Or.inr ⟨by rfl, rfl⟩) (by assumption) ?_
    try simp only [Act.put, List.setIfInBounds_toArray, List.set_cons_zero, List.set_cons_succ]
    refine wpAnyH_take (i := 16) (oi := ⟨_, _, _, _, _, _⟩) (v := undef) rfl (by kernel_rfl) (by kernel_rfl) (by kernel_rfl) (fun _ _ _ h => h) (Or.inr ⟨by rfl, rfl⟩) (by assumption) ?_
    try simp only [Act.put, List.setIfInBounds_toArray, List.set_cons_zero, List.set_cons_succ]
    refine wpAnyH_take (i := 17) (oi := ⟨_, _, _, _, _, _⟩) (v := undef) rfl (by kernel_rfl) (by kernel_rfl) (by kernel_rfl) (fun _ _ _ h => h) (Or.inr ⟨by rfl, rfl⟩) (by assumption) ?_
    try simp only [Act.put, List.setIfInBounds_toArray, List.set_cons_zero, List.set_cons_succ]
    refine wpAnyH_take (i := 18) (oi := ⟨_, _, _, _, _, _⟩) (v := undef) rfl (by kernel_rfl) (by kernel_rfl) (by kernel_rfl) (fun _ _ _ h => h) (Or.inr ⟨by rfl, rfl⟩) (by assumption) ?_
    try simp only [Act.put, List.setIfInBounds_toArray, List.set_cons_zero, List.set_cons_succ]
    refine wpAnyH_take (i := 19) (oi := ⟨_, _, _, _, _, _⟩) (v := undef) rfl (by kernel_rfl) (by kernel_rfl) (by kernel_rfl) (fun _ _ _ h => h) (Or.inr ⟨by rfl, rfl⟩) (by assumption) ?_
    try simp only [Act.put, List.setIfInBounds_toArray, List.set_cons_zero, List.set_cons_succ]
    refine wpAnyH_take (i := 20) (oi := ⟨_, _, _, _, _, _⟩) (v := undef) rfl (by kernel_rfl) (by kernel_rfl) (by kernel_rfl) (fun _ _ _ h => h) (Or.inr ⟨by rfl, rfl⟩) (by assumption) ?_
    try simp only [Act.put, List.setIfInBounds_toArray, List.set_cons_zero, List.set_cons_succ]
    refine wpAnyH_take (i := 21) (oi := ⟨_, _, _, _, _, _⟩) (v := undef) rfl (by kernel_rfl) (by kernel_rfl) (by kernel_rfl) (fun _ _ _ h => h) (Or.inr ⟨by rfl, rfl⟩) (by assumption) ?_
    try simp only [Act.put, List.setIfInBounds_toArray, List.set_cons_zero, List.set_cons_succ]
    refine wpAnyH_take (i := 22) (oi := ⟨_, _, _, _, _, _⟩) (v := ?_) rfl (by kernel_rfl) (by kernel_rfl) (by kernel_rfl) (fun _ _ _ h => h) (Or.inl ⟨by rfl, ?_⟩) (by assumption) ?_
    rotate_left 1
    · intro W' hSw
      obtain ⟨hS1, hS2, hS3, hS4⟩ := hSw
      go_simp
      try with_reducible rfl
    try simp only [Act.put, List.setIfInBounds_toArray, List.set_cons_zero, List.set_cons_succ]
    refine wpAnyH_done (by kernel_rfl) ?_ _
    clear hHeld
    go_wp2_with fail
    refine ⟨rfl, rfl, ⟨rfl, rfl, rfl, rfl, rfl, k + 1, by omega, ?_, by rw [← HF1.out]; rfl, HVN.out⟩, ?_⟩
    · show Value.int .i64 _ = _
      go_num
    · show xsn - (intOf (Value.int .i64 _)).toNat < xsn - (intOf (G2 12)).toNat
      rw [H12.out]
      simp [intOf]; omega
  | true =>
    by_cases hny : snm = y
    · subst hny
      have hf1 : fk = fitN L r (k + 1) := by rw [HFS.out]; simp
      have HF1 := hid_of hf1
      obtain ⟨sz, hsz⟩ : ∃ sz : ByteArray, sz = ⟨snm.toArray⟩ := ⟨_, rfl⟩
      rw [← hsz] at m11 u3
      clear hf1 hsz
      go_upto_region 14 with fail
      repeat go_step
      refine wp_region_held_drew (S := fun W' => blk W' bl = some Cl ∧ blk W' bq = some Cq ∧ blk W' bk = some Ck ∧ blk W' b9 = some C9) (by kernel_rfl) hS4 (fun hHeld => ?_)
      refine wpAnyH_take (i := 0) (oi := ⟨_, _, _, _, _, _⟩) (v := ?_) rfl (by kernel_rfl) (by kernel_rfl) (by kernel_rfl) (fun _ _ _ h => h) (Or.inl ⟨by rfl, ?_⟩) (by assumption) ?_
      rotate_left 1
      · intro W' hSw
        obtain ⟨hS1, hS2, hS3, hS4⟩ := hSw
        go_simp
        try with_reducible rfl
      try simp only [Act.put, List.setIfInBounds_toArray, List.set_cons_zero, List.set_cons_succ]
      refine wpAnyH_take (i := 1) (oi := ⟨_, _, _, _, _, _⟩) (v := ?_) rfl (by kernel_rfl) (by kernel_rfl) (by kernel_rfl) (fun _ _ _ h => h) (Or.inl ⟨by rfl, ?_⟩) (by assumption) ?_
      rotate_left 1
      · intro W' hSw
        obtain ⟨hS1, hS2, hS3, hS4⟩ := hSw
        go_simp
        try with_reducible rfl
      try simp only [Act.put, List.setIfInBounds_toArray, List.set_cons_zero, List.set_cons_succ]
      refine wpAnyH_take (i := 2) (oi := ⟨_, _, _, _, _, _⟩) (v := ?_) rfl (by kernel_rfl) (by kernel_rfl) (by kernel_rfl) (fun _ _ _ h => h) (Or.inl ⟨by rfl, ?_⟩) (by assumption) ?_
      rotate_left 1
      · intro W' hSw
        obtain ⟨hS1, hS2, hS3, hS4⟩ := hSw
        go_simp
        try with_reducible rfl
      try simp only [Act.put, List.setIfInBounds_toArray, List.set_cons_zero, List.set_cons_succ]
      refine wpAnyH_take (i := 3) (oi := ⟨_, _, _, _, _, _⟩) (v := ?_) rfl (by kernel_rfl) (by kernel_rfl) (by kernel_rfl) (fun _ _ _ h => h) (Or.inl ⟨by rfl, ?_⟩) (by assumption) ?_
      rotate_left 1
      · intro W' hSw
        obtain ⟨hS1, hS2, hS3, hS4⟩ := hSw
        go_simp
        try with_reducible rfl
      try simp only [Act.put, List.setIfInBounds_toArray, List.set_cons_zero, List.set_cons_succ]
      refine wpAnyH_take (i := 4) (oi := ⟨_, _, _, _, _, _⟩) (v := ?_) rfl (by kernel_rfl) (by kernel_rfl) (by kernel_rfl) (fun _ _ _ h => h) (Or.inl ⟨by rfl, ?_⟩) (by assumption) ?_
      rotate_left 1
      · intro W' hSw
        obtain ⟨hS1, hS2, hS3, hS4⟩ := hSw
        go_simp
        try with_reducible rfl
      try simp only [Act.put, List.setIfInBounds_toArray, List.set_cons_zero, List.set_cons_succ]
      refine wpAnyH_take (i := 5) (oi := ⟨_, _, _, _, _, _⟩) (v := ?_) rfl (by kernel_rfl) (by kernel_rfl) (by kernel_rfl) (fun _ _ _ h => h) (Or.inl ⟨by rfl, ?_⟩) (by assumption) ?_
      rotate_left 1
      · intro W' hSw
        obtain ⟨hS1, hS2, hS3, hS4⟩ := hSw
        go_simp
        try with_reducible rfl
      try simp only [Act.put, List.setIfInBounds_toArray, List.set_cons_zero, List.set_cons_succ]
      refine wpAnyH_take (i := 6) (oi := ⟨_, _, _, _, _, _⟩) (v := ?_) rfl (by kernel_rfl) (by kernel_rfl) (by kernel_rfl) (fun _ _ _ h => h) (Or.inl ⟨by rfl, ?_⟩) (by assumption) ?_
      rotate_left 1
      · intro W' hSw
        obtain ⟨hS1, hS2, hS3, hS4⟩ := hSw
        go_simp
        try with_reducible rfl
      try simp only [Act.put, List.setIfInBounds_toArray, List.set_cons_zero, List.set_cons_succ]
      refine wpAnyH_take (i := 7) (oi := ⟨_, _, _, _, _, _⟩) (v := ?_) rfl (by kernel_rfl) (by kernel_rfl) (by kernel_rfl) (fun _ _ _ h => h) (Or.inl ⟨by rfl, ?_⟩) (by assumption) ?_
      rotate_left 1
      · intro W' hSw
        obtain ⟨hS1, hS2, hS3, hS4⟩ := hSw
        go_simp
        try with_reducible rfl
      try simp only [Act.put, List.setIfInBounds_toArray, List.set_cons_zero, List.set_cons_succ]
      refine wpAnyH_take (i := 8) (oi := ⟨_, _, _, _, _, _⟩) (v := ?_) rfl (by kernel_rfl) (by kernel_rfl) (by kernel_rfl) (fun _ _ _ h => h) (Or.inl ⟨by rfl, ?_⟩) (by assumption) ?_
      rotate_left 1
      · intro W' hSw
        obtain ⟨hS1, hS2, hS3, hS4⟩ := hSw
        go_simp
        try with_reducible rfl
      try simp only [Act.put, List.setIfInBounds_toArray, List.set_cons_zero, List.set_cons_succ]
      refine wpAnyH_take (i := 9) (oi := ⟨_, _, _, _, _, _⟩) (v := ?_) rfl (by kernel_rfl) (by kernel_rfl) (by kernel_rfl) (fun _ _ _ h => h) (Or.inl ⟨by rfl, ?_⟩) (by assumption) ?_
      rotate_left 1
      · intro W' hSw
        obtain ⟨hS1, hS2, hS3, hS4⟩ := hSw
        go_simp
        try with_reducible rfl
      try simp only [Act.put, List.setIfInBounds_toArray, List.set_cons_zero, List.set_cons_succ]
      refine wpAnyH_take (i := 10) (oi := ⟨_, _, _, _, _, _⟩) (v := ?_) rfl (by kernel_rfl) (by kernel_rfl) (by kernel_rfl) (fun _ _ _ h => h) (Or.inl ⟨by rfl, ?_⟩) (by assumption) ?_
      rotate_left 1
      · intro W' hSw
        obtain ⟨hS1, hS2, hS3, hS4⟩ := hSw
        go_simp
        try with_reducible rfl
      try simp only [Act.put, List.setIfInBounds_toArray, List.set_cons_zero, List.set_cons_succ]
      refine wpAnyH_take (i := 11) (oi := ⟨_, _, _, _, _, _⟩) (v := ?_) rfl (by kernel_rfl) (by kernel_rfl) (by kernel_rfl) (fun _ _ _ h => h) (Or.inl ⟨by rfl, ?_⟩) (by assumption) ?_
      rotate_left 1
      · intro W' hSw
        obtain ⟨hS1, hS2, hS3, hS4⟩ := hSw
        go_simp
        try with_reducible rfl
      try simp only [Act.put, List.setIfInBounds_toArray, List.set_cons_zero, List.set_cons_succ]
      refine wpAnyH_take (i := 12) (oi := ⟨_, _, _, _, _, _⟩) (v := ?_) rfl (by kernel_rfl) (by kernel_rfl) (by kernel_rfl) (fun _ _ _ h => h) (Or.inl ⟨by rfl, ?_⟩) (by assumption) ?_
      rotate_left 1
      · intro W' hSw
        obtain ⟨hS1, hS2, hS3, hS4⟩ := hSw
        go_simp
        try with_reducible rfl
      try simp only [Act.put, List.setIfInBounds_toArray, List.set_cons_zero, List.set_cons_succ]
      refine wpAnyH_take (i := 13) (oi := ⟨_, _, _, _, _, _⟩) (v := ?_) rfl (by kernel_rfl) (by kernel_rfl) (by kernel_rfl) (fun _ _ _ h => h) (Or.inl ⟨by rfl, ?_⟩) (by assumption) ?_
      rotate_left 1
      · intro W' hSw
        obtain ⟨hS1, hS2, hS3, hS4⟩ := hSw
        go_simp
        try with_reducible rfl
      try simp only [Act.put, List.setIfInBounds_toArray, List.set_cons_zero, List.set_cons_succ]
      refine wpAnyH_take (i := 14) (oi := ⟨_, _, _, _, _, _⟩) (v := ?_) rfl (by kernel_rfl) (by kernel_rfl) (by kernel_rfl) (fun _ _ _ h => h) (Or.inl ⟨by rfl, ?_⟩) (by assumption) ?_
      rotate_left 1
      · intro W' hSw
        obtain ⟨hS1, hS2, hS3, hS4⟩ := hSw
        go_simp
        try with_reducible rfl
      try simp only [Act.put, List.setIfInBounds_toArray, List.set_cons_zero, List.set_cons_succ]
      refine wpAnyH_take (i := 15) (oi := ⟨_, _, _, _, _, _⟩) (v := ?_) rfl (by kernel_rfl) (by kernel_rfl) (by kernel_rfl) (fun _ _ _ h => h) (Or.inl ⟨by rfl, ?_⟩) (by assumption) ?_
      rotate_left 1
      · intro W' hSw
        obtain ⟨hS1, hS2, hS3, hS4⟩ := hSw
        go_simp
        try with_reducible rfl
      try simp only [Act.put, List.setIfInBounds_toArray, List.set_cons_zero, List.set_cons_succ]
      refine wpAnyH_take (i := 16) (oi := ⟨_, _, _, _, _, _⟩) (v := ?_) rfl (by kernel_rfl) (by kernel_rfl) (by kernel_rfl) (fun _ _ _ h => h) (Or.inl ⟨by rfl, ?_⟩) (by assumption) ?_
      rotate_left 1
      · intro W' hSw
        obtain ⟨hS1, hS2, hS3, hS4⟩ := hSw
        go_simp
        try with_reducible rfl
      try simp only [Act.put, List.setIfInBounds_toArray, List.set_cons_zero, List.set_cons_succ]
      refine wpAnyH_take (i := 17) (oi := ⟨_, _, _, _, _, _⟩) (v := ?_) rfl (by kernel_rfl) (by kernel_rfl) (by kernel_rfl) (fun _ _ _ h => h) (Or.inl ⟨by rfl, ?_⟩) (by assumption) ?_
      rotate_left 1
      · intro W' hSw
        obtain ⟨hS1, hS2, hS3, hS4⟩ := hSw
        go_simp
        try with_reducible rfl
      try simp only [Act.put, List.setIfInBounds_toArray, List.set_cons_zero, List.set_cons_succ]
      refine wpAnyH_take (i := 18) (oi := ⟨_, _, _, _, _, _⟩) (v := ?_) rfl (by kernel_rfl) (by kernel_rfl) (by kernel_rfl) (fun _ _ _ h => h) (Or.inl ⟨by rfl, ?_⟩) (by assumption) ?_
      rotate_left 1
      · intro W' hSw
        obtain ⟨hS1, hS2, hS3, hS4⟩ := hSw
        go_simp
        try with_reducible rfl
      try simp only [Act.put, List.setIfInBounds_toArray, List.set_cons_zero, List.set_cons_succ]
      refine wpAnyH_take (i := 19) (oi := ⟨_, _, _, _, _, _⟩) (v := ?_) rfl (by kernel_rfl) (by kernel_rfl) (by kernel_rfl) (fun _ _ _ h => h) (Or.inl ⟨by rfl, ?_⟩) (by assumption) ?_
      rotate_left 1
      · intro W' hSw
        obtain ⟨hS1, hS2, hS3, hS4⟩ := hSw
        go_simp
        try with_reducible rfl
      try simp only [Act.put, List.setIfInBounds_toArray, List.set_cons_zero, List.set_cons_succ]
      refine wpAnyH_take (i := 20) (oi := ⟨_, _, _, _, _, _⟩) (v := ?_) rfl (by kernel_rfl) (by kernel_rfl) (by kernel_rfl) (fun _ _ _ h => h) (Or.inl ⟨by rfl, ?_⟩) (by assumption) ?_
      rotate_left 1
      · intro W' hSw
        obtain ⟨hS1, hS2, hS3, hS4⟩ := hSw
        go_simp
        try with_reducible rfl
      try simp only [Act.put, List.setIfInBounds_toArray, List.set_cons_zero, List.set_cons_succ]
      refine wpAnyH_take (i := 21) (oi := ⟨_, _, _, _, _, _⟩) (v := ?_) rfl (by kernel_rfl) (by kernel_rfl) (by kernel_rfl) (fun _ _ _ h => h) (Or.inl ⟨by rfl, ?_⟩) (by assumption) ?_
      rotate_left 1
      · intro W' hSw
        obtain ⟨hS1, hS2, hS3, hS4⟩ := hSw
        go_simp
        try with_reducible rfl
      try simp only [Act.put, List.setIfInBounds_toArray, List.set_cons_zero, List.set_cons_succ]
      refine wpAnyH_take (i := 22) (oi := ⟨_, _, _, _, _, _⟩) (v := ?_) rfl (by kernel_rfl) (by kernel_rfl) (by kernel_rfl) (fun _ _ _ h => h) (Or.inl ⟨by rfl, ?_⟩) (by assumption) ?_
      rotate_left 1
      · intro W' hSw
        obtain ⟨hS1, hS2, hS3, hS4⟩ := hSw
        go_simp
        try with_reducible rfl
      try simp only [Act.put, List.setIfInBounds_toArray, List.set_cons_zero, List.set_cons_succ]
      refine wpAnyH_done (by kernel_rfl) ?_ _
      clear hHeld
      go_wp2_with fail
      refine ⟨rfl, rfl, ⟨rfl, rfl, rfl, rfl, rfl, k + 1, by omega, ?_, by rw [← HF1.out]; rfl, HVN.out⟩, ?_⟩
      · show Value.int .i64 _ = _
        go_num
      · show xsn - (intOf (Value.int .i64 _)).toNat < xsn - (intOf (G2 12)).toNat
        rw [H12.out]
        simp [intOf]; omega
    · have hf1 : fitN L r (k + 1) = false := by rw [HFS.out, decide_eq_false hny]; simp
      have HF1 := hid_of hf1
      have hbe := str_beq hny
      have hne := str_ne hny
      clear hf1
      go_upto_region 14 with fail
      repeat go_step
      refine wp_region_held_drew (S := fun W' => blk W' bl = some Cl ∧ blk W' bq = some Cq ∧ blk W' bk = some Ck ∧ blk W' b9 = some C9) (by kernel_rfl) hS4 (fun hHeld => ?_)
      refine wpAnyH_take (i := 0) (oi := ⟨_, _, _, _, _, _⟩) (v := ?_) rfl (by kernel_rfl) (by kernel_rfl) (by kernel_rfl) (fun _ _ _ h => h) (Or.inl ⟨by rfl, ?_⟩) (by assumption) ?_
      rotate_left 1
      · intro W' hSw
        obtain ⟨hS1, hS2, hS3, hS4⟩ := hSw
        go_simp
        try with_reducible rfl
      try simp only [Act.put, List.setIfInBounds_toArray, List.set_cons_zero, List.set_cons_succ]
      refine wpAnyH_take (i := 1) (oi := ⟨_, _, _, _, _, _⟩) (v := ?_) rfl (by kernel_rfl) (by kernel_rfl) (by kernel_rfl) (fun _ _ _ h => h) (Or.inl ⟨by rfl, ?_⟩) (by assumption) ?_
      rotate_left 1
      · intro W' hSw
        obtain ⟨hS1, hS2, hS3, hS4⟩ := hSw
        go_simp
        try with_reducible rfl
      try simp only [Act.put, List.setIfInBounds_toArray, List.set_cons_zero, List.set_cons_succ]
      refine wpAnyH_take (i := 2) (oi := ⟨_, _, _, _, _, _⟩) (v := ?_) rfl (by kernel_rfl) (by kernel_rfl) (by kernel_rfl) (fun _ _ _ h => h) (Or.inl ⟨by rfl, ?_⟩) (by assumption) ?_
      rotate_left 1
      · intro W' hSw
        obtain ⟨hS1, hS2, hS3, hS4⟩ := hSw
        go_simp
        try with_reducible rfl
      try simp only [Act.put, List.setIfInBounds_toArray, List.set_cons_zero, List.set_cons_succ]
      refine wpAnyH_take (i := 3) (oi := ⟨_, _, _, _, _, _⟩) (v := ?_) rfl (by kernel_rfl) (by kernel_rfl) (by kernel_rfl) (fun _ _ _ h => h) (Or.inl ⟨by rfl, ?_⟩) (by assumption) ?_
      rotate_left 1
      · intro W' hSw
        obtain ⟨hS1, hS2, hS3, hS4⟩ := hSw
        go_simp
        try with_reducible rfl
      try simp only [Act.put, List.setIfInBounds_toArray, List.set_cons_zero, List.set_cons_succ]
      refine wpAnyH_take (i := 4) (oi := ⟨_, _, _, _, _, _⟩) (v := ?_) rfl (by kernel_rfl) (by kernel_rfl) (by kernel_rfl) (fun _ _ _ h => h) (Or.inl ⟨by rfl, ?_⟩) (by assumption) ?_
      rotate_left 1
      · intro W' hSw
        obtain ⟨hS1, hS2, hS3, hS4⟩ := hSw
        go_simp
        try with_reducible rfl
      try simp only [Act.put, List.setIfInBounds_toArray, List.set_cons_zero, List.set_cons_succ]
      refine wpAnyH_take (i := 5) (oi := ⟨_, _, _, _, _, _⟩) (v := ?_) rfl (by kernel_rfl) (by kernel_rfl) (by kernel_rfl) (fun _ _ _ h => h) (Or.inl ⟨by rfl, ?_⟩) (by assumption) ?_
      rotate_left 1
      · intro W' hSw
        obtain ⟨hS1, hS2, hS3, hS4⟩ := hSw
        go_simp
        try with_reducible rfl
      try simp only [Act.put, List.setIfInBounds_toArray, List.set_cons_zero, List.set_cons_succ]
      refine wpAnyH_take (i := 6) (oi := ⟨_, _, _, _, _, _⟩) (v := ?_) rfl (by kernel_rfl) (by kernel_rfl) (by kernel_rfl) (fun _ _ _ h => h) (Or.inl ⟨by rfl, ?_⟩) (by assumption) ?_
      rotate_left 1
      · intro W' hSw
        obtain ⟨hS1, hS2, hS3, hS4⟩ := hSw
        go_simp
        try with_reducible rfl
      try simp only [Act.put, List.setIfInBounds_toArray, List.set_cons_zero, List.set_cons_succ]
      refine wpAnyH_take (i := 7) (oi := ⟨_, _, _, _, _, _⟩) (v := ?_) rfl (by kernel_rfl) (by kernel_rfl) (by kernel_rfl) (fun _ _ _ h => h) (Or.inl ⟨by rfl, ?_⟩) (by assumption) ?_
      rotate_left 1
      · intro W' hSw
        obtain ⟨hS1, hS2, hS3, hS4⟩ := hSw
        go_simp
        try with_reducible rfl
      try simp only [Act.put, List.setIfInBounds_toArray, List.set_cons_zero, List.set_cons_succ]
      refine wpAnyH_take (i := 8) (oi := ⟨_, _, _, _, _, _⟩) (v := ?_) rfl (by kernel_rfl) (by kernel_rfl) (by kernel_rfl) (fun _ _ _ h => h) (Or.inl ⟨by rfl, ?_⟩) (by assumption) ?_
      rotate_left 1
      · intro W' hSw
        obtain ⟨hS1, hS2, hS3, hS4⟩ := hSw
        go_simp
        try with_reducible rfl
      try simp only [Act.put, List.setIfInBounds_toArray, List.set_cons_zero, List.set_cons_succ]
      refine wpAnyH_take (i := 9) (oi := ⟨_, _, _, _, _, _⟩) (v := ?_) rfl (by kernel_rfl) (by kernel_rfl) (by kernel_rfl) (fun _ _ _ h => h) (Or.inl ⟨by rfl, ?_⟩) (by assumption) ?_
      rotate_left 1
      · intro W' hSw
        obtain ⟨hS1, hS2, hS3, hS4⟩ := hSw
        go_simp
        try with_reducible rfl
      try simp only [Act.put, List.setIfInBounds_toArray, List.set_cons_zero, List.set_cons_succ]
      refine wpAnyH_take (i := 10) (oi := ⟨_, _, _, _, _, _⟩) (v := ?_) rfl (by kernel_rfl) (by kernel_rfl) (by kernel_rfl) (fun _ _ _ h => h) (Or.inl ⟨by rfl, ?_⟩) (by assumption) ?_
      rotate_left 1
      · intro W' hSw
        obtain ⟨hS1, hS2, hS3, hS4⟩ := hSw
        go_simp
        try with_reducible rfl
      try simp only [Act.put, List.setIfInBounds_toArray, List.set_cons_zero, List.set_cons_succ]
      refine wpAnyH_take (i := 11) (oi := ⟨_, _, _, _, _, _⟩) (v := ?_) rfl (by kernel_rfl) (by kernel_rfl) (by kernel_rfl) (fun _ _ _ h => h) (Or.inl ⟨by rfl, ?_⟩) (by assumption) ?_
      rotate_left 1
      · intro W' hSw
        obtain ⟨hS1, hS2, hS3, hS4⟩ := hSw
        go_simp
        try with_reducible rfl
      try simp only [Act.put, List.setIfInBounds_toArray, List.set_cons_zero, List.set_cons_succ]
      refine wpAnyH_take (i := 12) (oi := ⟨_, _, _, _, _, _⟩) (v := ?_) rfl (by kernel_rfl) (by kernel_rfl) (by kernel_rfl) (fun _ _ _ h => h) (Or.inl ⟨by rfl, ?_⟩) (by assumption) ?_
      rotate_left 1
      · intro W' hSw
        obtain ⟨hS1, hS2, hS3, hS4⟩ := hSw
        go_simp
        try with_reducible rfl
      try simp only [Act.put, List.setIfInBounds_toArray, List.set_cons_zero, List.set_cons_succ]
      refine wpAnyH_take (i := 13) (oi := ⟨_, _, _, _, _, _⟩) (v := ?_) rfl (by kernel_rfl) (by kernel_rfl) (by kernel_rfl) (fun _ _ _ h => h) (Or.inl ⟨by rfl, ?_⟩) (by assumption) ?_
      rotate_left 1
      · intro W' hSw
        obtain ⟨hS1, hS2, hS3, hS4⟩ := hSw
        go_simp
        try with_reducible rfl
      try simp only [Act.put, List.setIfInBounds_toArray, List.set_cons_zero, List.set_cons_succ]
      refine wpAnyH_take (i := 14) (oi := ⟨_, _, _, _, _, _⟩) (v := ?_) rfl (by kernel_rfl) (by kernel_rfl) (by kernel_rfl) (fun _ _ _ h => h) (Or.inl ⟨by rfl, ?_⟩) (by assumption) ?_
      rotate_left 1
      · intro W' hSw
        obtain ⟨hS1, hS2, hS3, hS4⟩ := hSw
        go_simp
        try with_reducible rfl
      try simp only [Act.put, List.setIfInBounds_toArray, List.set_cons_zero, List.set_cons_succ]
      refine wpAnyH_take (i := 15) (oi := ⟨_, _, _, _, _, _⟩) (v := ?_) rfl (by kernel_rfl) (by kernel_rfl) (by kernel_rfl) (fun _ _ _ h => h) (Or.inl ⟨by rfl, ?_⟩) (by assumption) ?_
      rotate_left 1
      · intro W' hSw
        obtain ⟨hS1, hS2, hS3, hS4⟩ := hSw
        go_simp
        try with_reducible rfl
      try simp only [Act.put, List.setIfInBounds_toArray, List.set_cons_zero, List.set_cons_succ]
      refine wpAnyH_take (i := 16) (oi := ⟨_, _, _, _, _, _⟩) (v := ?_) rfl (by kernel_rfl) (by kernel_rfl) (by kernel_rfl) (fun _ _ _ h => h) (Or.inl ⟨by rfl, ?_⟩) (by assumption) ?_
      rotate_left 1
      · intro W' hSw
        obtain ⟨hS1, hS2, hS3, hS4⟩ := hSw
        go_simp
        try with_reducible rfl
      try simp only [Act.put, List.setIfInBounds_toArray, List.set_cons_zero, List.set_cons_succ]
      refine wpAnyH_take (i := 17) (oi := ⟨_, _, _, _, _, _⟩) (v := ?_) rfl (by kernel_rfl) (by kernel_rfl) (by kernel_rfl) (fun _ _ _ h => h) (Or.inl ⟨by rfl, ?_⟩) (by assumption) ?_
      rotate_left 1
      · intro W' hSw
        obtain ⟨hS1, hS2, hS3, hS4⟩ := hSw
        go_simp
        try with_reducible rfl
      try simp only [Act.put, List.setIfInBounds_toArray, List.set_cons_zero, List.set_cons_succ]
      refine wpAnyH_take (i := 18) (oi := ⟨_, _, _, _, _, _⟩) (v := ?_) rfl (by kernel_rfl) (by kernel_rfl) (by kernel_rfl) (fun _ _ _ h => h) (Or.inl ⟨by rfl, ?_⟩) (by assumption) ?_
      rotate_left 1
      · intro W' hSw
        obtain ⟨hS1, hS2, hS3, hS4⟩ := hSw
        go_simp
        try with_reducible rfl
      try simp only [Act.put, List.setIfInBounds_toArray, List.set_cons_zero, List.set_cons_succ]
      refine wpAnyH_take (i := 19) (oi := ⟨_, _, _, _, _, _⟩) (v := ?_) rfl (by kernel_rfl) (by kernel_rfl) (by kernel_rfl) (fun _ _ _ h => h) (Or.inl ⟨by rfl, ?_⟩) (by assumption) ?_
      rotate_left 1
      · intro W' hSw
        obtain ⟨hS1, hS2, hS3, hS4⟩ := hSw
        go_simp
        try with_reducible rfl
      try simp only [Act.put, List.setIfInBounds_toArray, List.set_cons_zero, List.set_cons_succ]
      refine wpAnyH_take (i := 20) (oi := ⟨_, _, _, _, _, _⟩) (v := ?_) rfl (by kernel_rfl) (by kernel_rfl) (by kernel_rfl) (fun _ _ _ h => h) (Or.inl ⟨by rfl, ?_⟩) (by assumption) ?_
      rotate_left 1
      · intro W' hSw
        obtain ⟨hS1, hS2, hS3, hS4⟩ := hSw
        go_simp
        try with_reducible rfl
      try simp only [Act.put, List.setIfInBounds_toArray, List.set_cons_zero, List.set_cons_succ]
      refine wpAnyH_take (i := 21) (oi := ⟨_, _, _, _, _, _⟩) (v := ?_) rfl (by kernel_rfl) (by kernel_rfl) (by kernel_rfl) (fun _ _ _ h => h) (Or.inl ⟨by rfl, ?_⟩) (by assumption) ?_
      rotate_left 1
      · intro W' hSw
        obtain ⟨hS1, hS2, hS3, hS4⟩ := hSw
        go_simp
        try with_reducible rfl
      try simp only [Act.put, List.setIfInBounds_toArray, List.set_cons_zero, List.set_cons_succ]
      refine wpAnyH_take (i := 22) (oi := ⟨_, _, _, _, _, _⟩) (v := ?_) rfl (by kernel_rfl) (by kernel_rfl) (by kernel_rfl) (fun _ _ _ h => h) (Or.inl ⟨by rfl, ?_⟩) (by assumption) ?_
      rotate_left 1
      · intro W' hSw
        obtain ⟨hS1, hS2, hS3, hS4⟩ := hSw
        go_simp
        try with_reducible rfl
      try simp only [Act.put, List.setIfInBounds_toArray, List.set_cons_zero, List.set_cons_succ]
      refine wpAnyH_done (by kernel_rfl) ?_ _
      clear hHeld
      go_wp2_with fail
      refine ⟨rfl, rfl, ⟨rfl, rfl, rfl, rfl, rfl, k + 1, by omega, ?_, by rw [HF1.out]; rfl, HVN.out⟩, ?_⟩
      · show Value.int .i64 _ = _
        go_num
      · show xsn - (intOf (Value.int .i64 _)).toNat < xsn - (intOf (G2 12)).toNat
        rw [H12.out]
        simp [intOf]; omega
end Go.Proofs.Qxb6500787aGreat
