import Derived.Test.Qxb6500787aGreatPq

import Derived.StillTailTactics
import Derived.Deep.QuietTactic
import Derived.BigQuiet
import Derived.Deep.RegionHeld
import Derived.Deep.CutRange
import Derived.Laws.ResultCell
import Derived.Laws.Rows
import Derived.DeepKeys
import Derived.DataBytes
import Derived.Laws.StructEq
import Derived.Laws.AppendOwn
import Derived.Laws.MakeOwn
import Derived.Lib.AppendStr
set_option linter.unusedSimpArgs false
set_option linter.unusedVariables false
namespace Go.Proofs.Qxb6500787aGreat
open Go.RowKit Go.Blk
attribute [local go_sem ↓] execOp_load execOp_store execOp_alloc
attribute [local go_sem] Tryz.ld26 Tryz.st26 Tryz.ld27 Tryz.st27 Tryz.ld28 Tryz.st28 Tryz.ld3 Tryz.st3 Tryz.ld29 Tryz.st29 Tryz.ld44 Tryz.st44 Tryz.ld4 Tryz.st4 Tryz.ld50 Tryz.st50 Tryz.ld32 Tryz.st32 Tryz.ld49 Tryz.st49 Tryz.ld68 Tryz.st68 Tryz.ld9 Tryz.st9 Tryz.ld40 Tryz.st40 Tryz.ld138 Tryz.st138 Tryz.ld139 Tryz.st139 Tryz.ld146 Tryz.st146 Tryz.ld183 Tryz.st183 Tryz.ld184 Tryz.st184 Tryz.ld192 Tryz.st192 Tryz.ld195 Tryz.st195 Tryz.ld217 Tryz.st217 Tryz.ld159 Tryz.st159 Tryz.ld142 Tryz.st142 Tryz.ld2 Tryz.st2 Tryz.ld5 Tryz.st5 Tryz.ld12 Tryz.st12 Tryz.ld21 Tryz.st21 Tryz.ld22 Tryz.st22 Tryz.ld24 Tryz.st24 Tryz.ld58 Tryz.st58 Tryz.ld97 Tryz.st97 Tryz.ld101 Tryz.st101 Tryz.ld116 Tryz.st116 Tryz.ld121 Tryz.st121 Tryz.ld135 Tryz.st135 Tryz.ld136 Tryz.st136 Tryz.ld143 Tryz.st143 Tryz.ld148 Tryz.st148 Tryz.ld154 Tryz.st154 Tryz.ld173 Tryz.st173 Tryz.ld187 Tryz.st187 Tryz.ld222 Tryz.st222 Tryz.ld241 Tryz.st241 Tryz.ld248 Tryz.st248 Tryz.ld268 Tryz.st268 Tryz.ld272 Tryz.st272 Tryz.ld153 Tryz.st153 Tryz.ld255 Tryz.st255 Tryz.ld256 Tryz.st256 Tryz.ld129 Tryz.st129 Tryz.ld152 Tryz.st152 Tryz.ld31 Tryz.st31 Tryz.ld46 Tryz.st46 Tryz.ld52 Tryz.st52 Tryz.ld54 Tryz.st54 Tryz.ld60 Tryz.st60 Tryz.ld70 Tryz.st70 Tryz.ld74 Tryz.st74 Tryz.ld93 Tryz.st93 Tryz.ld141 Tryz.st141 Tryz.ld151 Tryz.st151 Tryz.ld170 Tryz.st170 Tryz.ld186 Tryz.st186 Tryz.ld189 Tryz.st189 Tryz.ld194 Tryz.st194 Tryz.ld197 Tryz.st197 Tryz.ld219 Tryz.st219 Tryz.ld224 Tryz.st224 Tryz.ld230 Tryz.st230 Tryz.ld235 Tryz.st235 Tryz.ld243 Tryz.st243 Tryz.ld247 Tryz.st247 Tryz.ld252 Tryz.st252 Tryz.ld258 Tryz.st258 Tryz.al153 Tryz.al255 Tryz.al256 Tryz.al129 Tryz.al152 Tryz.al31 Tryz.al46 Tryz.al52 Tryz.al54 Tryz.al60 Tryz.al70 Tryz.al74 Tryz.al93 Tryz.al141 Tryz.al151 Tryz.al170 Tryz.al186 Tryz.al189 Tryz.al194 Tryz.al197 Tryz.al219 Tryz.al224 Tryz.al230 Tryz.al235 Tryz.al243 Tryz.al247 Tryz.al252 Tryz.al258
attribute [local go_sem] Request.length_enc Request.ok_enc Request.all_get Request.all_set Request.kind_get Request.kind_set Request.blob_get Request.blob_set Request.items_get Request.items_set Request.pred_get Request.pred_set Request.slots_get Request.slots_set Trace.length_enc Trace.ok_enc Trace.all_get Trace.all_set Trace.op_get Trace.op_set Trace.calls_get Trace.calls_set Item.length_enc Item.ok_enc Item.all_get Item.all_set Item.del_get Item.del_set Item.pred_get Item.pred_set Item.args_get Item.args_set Reply.length_enc Reply.ok_enc Reply.all_get Reply.all_set Reply.code_get Reply.code_set Reply.kind_get Reply.kind_set Reply.index_get Reply.index_set Reply.yes_get Reply.yes_set Reply.preds_get Reply.preds_set Reply.rules_get Reply.rules_set Reply.arity_get Reply.arity_set Reply.rows_get Reply.rows_set Reply.fact_get Reply.fact_set Reply.fact_del_get Reply.fact_del_set Reply.fact_pred_get Reply.fact_pred_set Reply.fact_args_get Reply.fact_args_set GEntry.length_enc GEntry.ok_enc GEntry.all_get GEntry.all_set GEntry.seq_get GEntry.seq_set GEntry.kind_get GEntry.kind_set GEntry.code_get GEntry.code_set GOp.length_enc GOp.ok_enc GOp.all_get GOp.all_set GOp.kind_get GOp.kind_set GOp.raw_get GOp.raw_set Reader.length_enc Reader.ok_enc Reader.all_get Reader.all_set Reader.buf_get Reader.buf_set Reader.at__get Reader.at__set Slot.length_enc Slot.ok_enc Slot.all_get Slot.all_set Slot.bound_get Slot.bound_set Slot.name_get Slot.name_set Session.length_enc Session.ok_enc Session.all_get Session.all_set Session.svc_get Session.svc_set Session.buf_get Session.buf_set Session.closed_get Session.closed_set GProgram.length_enc GProgram.ok_enc GProgram.all_get GProgram.all_set GProgram.pool_get GProgram.pool_set GProgram.preds_get GProgram.preds_set GProgram.rules_get GProgram.rules_set GProgram.strata_get GProgram.strata_set PredInfo.length_enc PredInfo.ok_enc PredInfo.all_get PredInfo.all_set PredInfo.arity_get PredInfo.arity_set PredInfo.base_get PredInfo.base_set PredInfo.stratum_get PredInfo.stratum_set Change.length_enc Change.ok_enc Change.all_get Change.all_set Change.del_get Change.del_set Change.pred_get Change.pred_set Change.t_get Change.t_set Store.length_enc Store.ok_enc Store.all_get Store.all_set Store.names_get Store.names_set Store.arity_get Store.arity_set Store.rows_get Store.rows_set Src.length_enc Src.ok_enc Src.all_get Src.all_set Src.b_get Src.b_set Src.at__get Src.at__set Atom.length_enc Atom.ok_enc Atom.all_get Atom.all_set Atom.pred_get Atom.pred_set Atom.args_get Atom.args_set GRule.length_enc GRule.ok_enc GRule.all_get GRule.all_set GRule.head_get GRule.head_set GRule.body_get GRule.body_set GRule.head_pred_get GRule.head_pred_set GRule.head_args_get GRule.head_args_set Cert.length_enc Cert.ok_enc Cert.all_get Cert.all_set Cert.names_get Cert.names_set Cert.nodes_get Cert.nodes_set Fact.length_enc Fact.ok_enc Fact.all_get Fact.all_set Fact.pred_get Fact.pred_set Fact.t_get Fact.t_set Literal.length_enc Literal.ok_enc Literal.all_get Literal.all_set Literal.neg_get Literal.neg_set Literal.atom_get Literal.atom_set Literal.atom_pred_get Literal.atom_pred_set Literal.atom_args_get Literal.atom_args_set Engine.length_enc Engine.ok_enc Engine.all_get Engine.all_set Engine.prog_get Engine.prog_set Engine.st_get Engine.st_set SrcCertm.length_enc SrcCertm.ok_enc SrcCertm.all_get SrcCertm.all_set SrcCertm.b_get SrcCertm.b_set SrcCertm.at__get SrcCertm.at__set GNode.length_enc GNode.ok_enc GNode.all_get GNode.all_set GNode.rule_get GNode.rule_set GNode.pred_get GNode.pred_set GNode.vals_get GNode.vals_set GNode.refs_get GNode.refs_set Term.length_enc Term.ok_enc Term.all_get Term.all_set Term.var_get Term.var_set Term.n_get Term.n_set Env.length_enc Env.ok_enc Env.all_get Env.all_set Env.val_get Env.val_set Env.set_get Env.set_set
attribute [local go_sem] size_put size_ext blk_put free_put blk_alloc free_alloc blk_drew free_drew blk_ext free_ext lookOr_some putOr_some segAt_some cellAt_some storeIn_some put_put put_alloc_new length_arr ok_arr_u8 ok_arr_u32 ok_arr_u64 ok_arr_i64 ok_arr_sl cellsV_agg cellsV_int cellsV_bool cellsV_string cellsV_pointer cellsV_slice cellsV_sl ok_int ok_bool ok_string ok_pointer ok_slice ok_sl toList_arr seg_arr set_arr nth_splice nth_splice0 seg_splice seg_splice0 splice_splice splice_splice0 length_splice_if
attribute [local go_sem ↓] execOp_box
attribute [local go_sem] box_run nth_arr_u8 put_arr_u8 blk_drewN free_drewN put_drewN blk_raw free_raw
/-- The facts after the items, or the first item that cannot be applied. -/
def aftF : List (List NRow) → Nat → List It → Int × Int × List (List NRow)
  | F, _, [] => (0, -1, F)
  | F, i, it :: L => if it.1 = false then (if it.2.2 ∈ F.getD it.2.1.toNat [] then (14, (i : Int), []) else aftF (addRN F it.2.1.toNat it.2.2) (i + 1) L)
    else (if it.2.2 ∈ F.getD it.2.1.toNat [] then aftF (F.set it.2.1.toNat ((F.getD it.2.1.toNat []).filter fun x => decide (x ≠ it.2.2))) (i + 1) L else (15, (i : Int), []))
def AfPost (O0 : Own) (W : World) (n : Nat) (q : Int × Int × List (List NRow)) (e : Ending) (V : World) : Prop := ∃ a m c, e = .returned (.tuple #[.slice a m c, .int .i64 q.1, .int .i64 q.2.1]) ∧ W.Extends V ∧ (q.1 = 0 → ∃ bo O, a = some ⟨bo, 0, none⟩ ∧ m = n ∧ c = n ∧ q.2.2.length = n ∧ RelP O0 W bo q.2.2 O V)
def zA1 (O0 : Own) (W : World) (bo n : Nat) (v1 : Value) (N : Nat) (L : List It) (res : Int × Int × List (List NRow)) (B : Nat) (f : Nat → Value) (V : World) : Prop := f 1 = v1 ∧ f 7 = .slice (some ⟨bo, 0, none⟩) n n ∧ ∃ i : Nat, i ≤ N ∧ f 8 = .int .i64 (i : Nat) ∧ Hid (∃ O F, F.length = n ∧ RelP O0 W bo F O V ∧ aftF F i (L.drop i) = res ∧ (∀ L ∈ F, L.length ≤ B + i) ∧ Rows4 F)
def zA2 (W1 : World) (bo n : Nat) (v1 v8 v9 v10 : Value) (N : Nat) (O1 : Own) (Ls : List NRow) (r : NRow) (f : Nat → Value) (V : World) : Prop := f 1 = v1 ∧ f 7 = .slice (some ⟨bo, 0, none⟩) n n ∧ f 8 = v8 ∧ f 9 = v9 ∧ f 10 = v10 ∧ ∃ (k : Nat) (a : Option Addr) (m c : Nat), k ≤ N ∧ f 12 = .int .i64 (k : Nat) ∧ f 11 = .slice a m c ∧ Hid (∃ K : List Sl, OutG encR 1 78 W1 V a m c K ∧ K.length = ((Ls.take k).filter fun x => decide (x ≠ r)).length ∧ ∀ (i : Nat) (s : Sl) (x : NRow), K[i]? = some s → ((Ls.take k).filter fun x => decide (x ≠ r))[i]? = some x → Rw encS 1 (core O1 W1) s.a s.len x)
set_option maxRecDepth 100000 in
theorem zframe96a (f : Nat → Value) : frameN 96 f = #[f 0, f 1, f 2, f 3, f 4, f 5, f 6, f 7, f 8, f 9, f 10, f 11, f 12, f 13, f 14, f 15, f 16, f 17, f 18, f 19, f 20, f 21, f 22, f 23, f 24, f 25, f 26, f 27, f 28, f 29, f 30, f 31, f 32, f 33, f 34, f 35, f 36, f 37, f 38, f 39, f 40, f 41, f 42, f 43, f 44, f 45, f 46, f 47, f 48, f 49, f 50, f 51, f 52, f 53, f 54, f 55, f 56, f 57, f 58, f 59, f 60, f 61, f 62, f 63, f 64, f 65, f 66, f 67, f 68, f 69, f 70, f 71, f 72, f 73, f 74, f 75, f 76, f 77, f 78, f 79, f 80, f 81, f 82, f 83, f 84, f 85, f 86, f 87, f 88, f 89, f 90, f 91, f 92, f 93, f 94, f 95] := by kernel_rfl
theorem set_bd {F : List (List NRow)} {q B : Nat} {M : List NRow} (h : ∀ L ∈ F, L.length ≤ B) (hM : M.length ≤ B) : ∀ L ∈ F.set q M, L.length ≤ B := fun L hL => by
  rcases List.mem_or_eq_of_mem_set hL with h1 | h1
  · exact h L h1
  · rw [h1]; exact hM
theorem filt_snoc {L : List NRow} {k : Nat} {x r : NRow} (hx : L[k]? = some x) : ((L.take (k + 1)).filter fun y => decide (y ≠ r)) = ((L.take k).filter fun y => decide (y ≠ r)) ++ if x = r then [] else [x] := by
  rw [take_at hx, List.filter_append]
  congr 1
  by_cases e : x = r
  · rw [if_pos e, e]; simp
  · rw [if_neg e]; simp [e]
attribute [local go_sem ↓] execOp_bslice
attribute [local go_sem] bslice75 Tryz.zl75 Tryz.zs75 Tryz.zl52 Tryz.zs52
set_option maxRecDepth 40000 in
set_option maxHeartbeats 1000000 in
theorem after_any (O0 : Own) (h8 : ∀ k j, O0 k ≠ .a 8 j) (W : World) (fa : Option Addr) (fn fc : Nat) (F0 : List (List NRow)) (hF : FactsAt (core O0 W) fa fn F0) (hfn : fn ≤ 64) (hll : ∀ L ∈ F0, L.length ≤ 1000) (hr4 : Rows4 F0) (ia : Option Addr) (iN ic : Nat) (L : List It) (hI : ItsC (core O0 W) ia iN L) (hin : iN ≤ 1000) (h4 : ∀ it ∈ L, it.2.2.length ≤ 4 ∧ 0 ≤ it.2.1 ∧ it.2.1 < (fn : Int)) : Calls Tryz.prog 38 #[.slice fa fn fc, .slice ia iN ic] W (AfPost O0 W fn (aftF F0 0 L)) := by
  obtain ⟨res, eres⟩ : ∃ res, res = aftF F0 0 L := ⟨_, rfl⟩
  rw [← eres]
  obtain ⟨Q, hQ⟩ : ∃ Q, Q = AfPost O0 W fn res := ⟨_, rfl⟩
  rw [← hQ]
  have HQ := hid_of hQ
  have HRES := hid_of eres
  have hcp := copyOfP_any O0 h8 W fa fn fc F0 hF (by omega) (fun L hL => Nat.le_trans (hll L hL) (by decide))
  have hFn : F0.length = fn := hF.choose_spec.2.1
  rw [hFn.symm] at hfn
  obtain ⟨KD, hKD, hKL, hKI⟩ := hI
  have HKD := hid_of hKD
  have HKI := hid_of hKI
  have HLN : Hid (L.length = iN) := hKL.symm.trans hKD.1
  have H4 := hid_of h4
  have HLL := hid_of hll
  have HR4 := hid_of hr4
  have HFN := hid_of hFn
  clear hQ hF eres hKD hKI hKL h4 hll hr4
  go_enter Tryz.func38, Tryz.ntmps38
  go_wp2_with fail
  refine hcp.mono ?_
  rintro e V0 ⟨bo, Oc, rfl, hR0⟩
  dsimp only
  rw [hFn]
  have HB0 : Hid (∃ O F, F.length = fn ∧ RelP O0 W bo F O V0 ∧ aftF F 0 (L.drop 0) = res ∧ (∀ L ∈ F, L.length ≤ 1000 + 0) ∧ Rows4 F) := ⟨Oc, F0, HFN.out, hR0, HRES.out.symm, HLL.out, HR4.out⟩
  rw [hFn] at hfn
  clear hcp hR0 hFn
  go_wp2_with fail
  refine wp_loop_f 96 (zA1 O0 W bo fn (.slice ia iN ic) iN L res 1000) (fun f _ => iN - (intOf (f 8)).toNat) rfl ⟨rfl, rfl, 0, by omega, rfl, HB0⟩ ?_
  clear HB0
  intro F1 V1 hrel
  obtain ⟨f1, f7, i, hi, f8, HI⟩ := hrel
  have H8 := hid_of f8
  rw [zframe96a, f1, f7, f8]
  clear f1 f7 f8
  obtain ⟨O1, F, hFl, hR, hres, hLb, hF4⟩ := HI.out
  have HFL := hid_of hFl
  have HR := hid_of hR
  have HRS := hid_of hres
  have HLB := hid_of hLb
  have HF4 := hid_of hF4
  clear HI hFl hR hres hLb hF4
  by_cases hii : i < iN
  rotate_left 1
  · have hii' : ¬ (i : Int) < (iN : Int) := by omega
    have HP : Hid (Q (.returned (.tuple #[.slice (some ⟨bo, 0, none⟩) fn fn, .int .i64 0, .int .i64 (-1)])) V1) := by
      show Q _ _
      rw [HQ.out]
      have e1 : res = (0, -1, F) := by
        rw [← HRS.out, List.drop_eq_nil_of_le (by have := HLN.out; omega)]
        rfl
      rw [e1]
      exact ⟨_, _, _, rfl, HR.out.ext, fun _ => ⟨bo, O1, rfl, rfl, rfl, HFL.out, HR.out⟩⟩
    clear HR HRS
    go_wp2_with fail
    try go_ret3
    exact HP.out
  have hii' : (i : Int) < (iN : Int) := by omega
  have i0 : (0 : Int) ≤ (i : Int) := by omega
  have i2 : ((i : Int)).toNat = i := by omega
  obtain ⟨it, hit⟩ : ∃ x, L[i]? = some x := ⟨_, List.getElem?_eq_getElem (by have := HLN.out; omega)⟩
  obtain ⟨d, hd⟩ : ∃ x, KD[i]? = some x := ⟨_, List.getElem?_eq_getElem (by have := HKD.out.1; omega)⟩
  obtain ⟨bi, Ci, rfl, g1c, g2, g3⟩ := HKD.out.2 i d hd
  obtain ⟨g1, g1o⟩ := core_blk g1c
  obtain ⟨hd1, hd2, hd3⟩ := HKI.out i d it hd hit
  obtain ⟨dd, dp, da, dn, dc⟩ := d
  dsimp only at hd1 hd2 hd3
  obtain ⟨h4a, h4b, h4c⟩ := H4.out it (List.mem_of_getElem? hit)
  obtain ⟨q, hq⟩ : ∃ q : Nat, it.2.1 = (q : Int) := ⟨it.2.1.toNat, by omega⟩
  have hqn : q < fn := by omega
  rw [hq] at hd2
  subst hd2
  have m0 : nth Ci (i * 3) = some (.bool dd) := nth_in (j := 0) g3 rfl (by omega)
  have m1 : nth Ci (i * 3 + 1) = some (.int .i64 (q : Int)) := nth_in (j := 1) g3 rfl (by omega)
  have m2 : nth Ci (i * 3 + 2) = some (.slice da dn dc) := nth_in (j := 2) g3 rfl (by omega)
  have l9 : (i + 1) * 3 ≤ iN * 3 := Nat.mul_le_mul_right _ hii
  have l0 : i * 3 < Ci.length := by omega
  have l1 : i * 3 + 1 < Ci.length := by omega
  have l2 : i * 3 + 2 < Ci.length := by omega
  have hbi : blk V1 bi = some Ci := (HR.out.ext.blk (blk_lt g1)).trans g1
  obtain ⟨r, er⟩ : ∃ r, r = it.2.2 := ⟨_, rfl⟩
  rw [← er] at hd3 h4a
  have HD3 := hid_of hd3
  obtain ⟨Ls, hLs⟩ : ∃ Ls, Ls = F.getD q [] := ⟨_, rfl⟩
  have hFq : F[q]? = some Ls := by rw [hLs, List.getD_eq_getElem?_getD, List.getElem?_eq_getElem (by rw [HFL.out]; exact hqn)]; rfl
  have hstep : aftF F i (L.drop i) = if dd = false then (if r ∈ Ls then (14, (i : Int), []) else aftF (addRN F q r) (i + 1) (L.drop (i + 1))) else (if r ∈ Ls then aftF (F.set q (Ls.filter fun x => decide (x ≠ r))) (i + 1) (L.drop (i + 1)) else (15, (i : Int), [])) := by
    rw [dropA_at hit]
    show (if it.1 = false then _ else _) = _
    rw [hq, Int.toNat_natCast, ← hd1, ← er, ← hLs]
  have HST : Hid (res = _) := HRS.out.symm.trans hstep
  obtain ⟨bq, Cq, sq, eqq, k1, k2, k3, k4⟩ := (HR.out.facts).at hFq
  have ebq : bq = bo := by cases eqq; rfl
  subst ebq
  obtain ⟨sa, sn, sc⟩ := sq
  dsimp only at k3 k4
  have hsn : Ls.length = sn := k4.choose_spec.2.1
  have hsb : sn ≤ 100000 := by have := HLB.out Ls (List.mem_of_getElem? hFq); omega
  have hr4 : ∀ x ∈ Ls, x.length ≤ 1000000000000 := fun x hx => Nat.le_trans (HF4.out Ls (List.mem_of_getElem? hFq) x hx) (by decide)
  have hdV : ∀ V, W.Extends V → Rw encS 1 V da dn r := fun V hV => (HD3.out.sub (Sub.core _ _)).sub (Sub.ext hV)
  have hmem : ∀ k, Calls Tryz.prog 32 #[.slice sa sn sc, .slice da dn dc] (V1.drewN k) fun e W' => e = .returned (.bool (decide (r ∈ Ls))) ∧ ∃ j, W' = (V1.drewN k).drewN j := fun k => member_names (V1.drewN k) sa da sn dn sc dc (by omega) Ls r (k4.sub (sub_drewN _ _)) hr4 (hdV _ (extends_drewN HR.out.ext k))
  have HSN := hid_of hsn
  have HK4 := hid_of k4
  have HHF : Hid (F[q]? = some Ls ∧ Ls = F.getD q []) := ⟨hFq, hLs⟩
  have q0 : (0 : Int) ≤ (q : Int) := by omega
  have q2 : ((q : Int)).toNat = q := by omega
  have q3 : (q : Int) < (fn : Int) := by omega
  obtain ⟨mb, emb⟩ : ∃ mb, mb = decide (r ∈ Ls) := ⟨_, rfl⟩
  rw [← emb] at hmem
  have HMB := hid_of emb
  have HG1 := hid_of g1
  have HI4 : Hid (r.length ≤ 4) := h4a
  have HMEM := hid_of hmem
  clear g1 g1c g1o g2 g3 hd hit hd1 hd3 hq er hLs hFq hstep k4 hsn hr4 hdV emb eqq h4a h4b h4c l9 hmem
  go_upto_region 5 with fail
  go_quiet (fail)
  cases dd with
  | false =>
    go_wp2_with fail
    refine (HMEM.out _).mono ?_
    rintro e V2 ⟨rfl, j2, e2⟩
    dsimp only
    obtain ⟨k2', hk2⟩ : ∃ k, V2 = V1.drewN k := ⟨_, by rw [e2, World.drewN_drewN]⟩
    have HR2 : Hid (RelP O0 W bq F O1 V2) := by
      show RelP _ _ _ _ _ _
      rw [hk2]; exact HR.out.drewN k2'
    have k1V : blk V2 bq = some Cq := by rw [hk2]; exact k1
    clear e2 hk2 HMEM hbi k1
    cases mb with
    | true =>
      have HP : Hid (Q (.returned (.tuple #[.slice none 0 0, .int .i64 14, .int .i64 (i : Int)])) V2) := by
        show Q _ _
        rw [HQ.out]
        have e1 : res = (14, (i : Int), []) := by
          rw [HST.out, if_pos trivial, if_pos (of_decide_eq_true HMB.out.symm)]
        rw [e1]
        exact ⟨_, _, _, rfl, HR2.out.ext, fun e => absurd e (show ¬ (14 : Int) = 0 by decide)⟩
      clear HR HR2
      go_wp2_with fail
      try go_ret3
      exact HP.out
    | false =>
      have hnm : ¬ r ∈ Ls := of_decide_eq_false HMB.out.symm
      obtain ⟨C2, a3, c3, a4, c4, V3, O3, n1, n2, n3, n4, hrun, n5, n6, n7, hR3⟩ := HR2.out.app HHF.out.1 ⟨da, dn, dc⟩ r (HD3.out.sub HR2.out.base) (by have := HSN.out; omega)
      rw [HSN.out] at n4 hrun hR3
      have eC : C2 = Cq := Option.some.inj (n1.symm.trans k1V)
      subst eC
      have e9 := Option.some.inj (n4.symm.trans k3)
      have ea : a3 = sa ∧ c3 = sc := by cases e9; exact ⟨rfl, rfl⟩
      rw [ea.1, ea.2] at hrun
      have HJ : Hid (∃ O F, F.length = fn ∧ RelP O0 W bq F O (put V3 bq (splice C2 q [.slice a4 (sn + 1) c4])) ∧ aftF F (i + 1) (L.drop (i + 1)) = res ∧ (∀ L ∈ F, L.length ≤ 1000 + (i + 1)) ∧ Rows4 F) := by
        refine ⟨O3, addRN F q r, (addRN_len F q r).trans HFL.out, hR3, ?_, fun M hM => ?_, HF4.out.add HI4.out⟩
        · rw [HST.out, if_pos trivial, if_neg hnm]
        · rcases addRN_mem hM with h9 | h9
          · have := HLB.out M h9; omega
          · rw [h9, List.length_append, List.length_singleton, ← HHF.out.2]
            have := HLB.out Ls (List.mem_of_getElem? HHF.out.1)
            omega
      have hC2 : q < C2.length := n2
      dsimp only at hrun
      clear HR HR2 n7 hR3 hnm n3 n4 e9 ea n1
      go_wp2_with (at_builtin; refine wpList_append_run rfl _ _ 75 rfl _ _ _ _ rfl rfl hrun ?_)
      refine ⟨rfl, rfl, ⟨rfl, rfl, i + 1, by omega, ?_, HJ⟩, ?_⟩
      · show Value.int .i64 _ = _
        go_num
      · show iN - (intOf (Value.int .i64 _)).toNat < iN - (intOf (F1 8)).toNat
        rw [H8.out]
        simp [intOf]; omega
  | true =>
    go_wp2_with fail
    refine (HMEM.out _).mono ?_
    rintro e V2 ⟨rfl, j2, e2⟩
    dsimp only
    obtain ⟨k2', hk2⟩ : ∃ k, V2 = V1.drewN k := ⟨_, by rw [e2, World.drewN_drewN]⟩
    have HR2 : Hid (RelP O0 W bq F O1 V2) := by
      show RelP _ _ _ _ _ _
      rw [hk2]; exact HR.out.drewN k2'
    have k1V : blk V2 bq = some Cq := by rw [hk2]; exact k1
    have HK42 : Hid (RowsAt V2 sa sn Ls) := by
      show RowsAt _ _ _ _
      rw [hk2]; exact HK4.out.sub (sub_drewN _ _)
    clear e2 hk2 HMEM hbi k1 HK4
    cases mb with
    | false =>
      have HP : Hid (Q (.returned (.tuple #[.slice none 0 0, .int .i64 15, .int .i64 (i : Int)])) V2) := by
        show Q _ _
        rw [HQ.out]
        have e1 : res = (15, (i : Int), []) := by
          rw [HST.out, if_neg (by decide), if_neg (of_decide_eq_false HMB.out.symm)]
        rw [e1]
        exact ⟨_, _, _, rfl, HR2.out.ext, fun e => absurd e (show ¬ (15 : Int) = 0 by decide)⟩
      clear HR HR2
      go_wp2_with fail
      try go_ret3
      exact HP.out
    | true =>
      obtain ⟨C0, w1, w2, w3⟩ := HR2.out.rows
      have eC : C0 = Cq := Option.some.inj (w1.symm.trans k1V)
      subst eC
      obtain ⟨a5, c5, K0, x1, x2, x3, x4⟩ := w3 q Ls HHF.out.1
      have e9 := Option.some.inj (x1.symm.trans k3)
      have ea : a5 = sa := by cases e9; rfl
      have HX2 : Hid (Rw encR 1 V2 sa sn K0) := by
        have h9 := (x2.rw encR_len).1
        rw [ea, HSN.out] at h9
        exact h9
      have HX4 : Hid (∀ (i : Nat) (s : Sl) (x : NRow), K0[i]? = some s → Ls[i]? = some x → Rw encS 1 (core O1 V2) s.a s.len x) := x4
      have HK0 : Hid (K0.length = sn) := HX2.out.1
      have HC0 : Hid (blk V2 bq = some C0) := k1V
      have HB2 : Hid (∃ K : List Sl, OutG encR 1 78 V2 V2 none 0 0 K ∧ K.length = ((Ls.take 0).filter fun x => decide (x ≠ r)).length ∧ ∀ (i : Nat) (s : Sl) (x : NRow), K[i]? = some s → ((Ls.take 0).filter fun x => decide (x ≠ r))[i]? = some x → Rw encS 1 (core O1 V2) s.a s.len x) := ⟨[], OutG.nil (ext_Ext (Ext.refl _)), rfl, fun i s x h => by cases h⟩
      clear w1 w2 w3 x1 x2 x3 x4 e9 ea HK42
      go_upto_region 14 with fail
      refine wp_loop_f 96 (zA2 V2 bq fn (.slice (some ⟨bi, 0, none⟩) iN ic) (.int .i64 (i : Int)) (.int .i64 (q : Int)) (.slice da dn dc) sn O1 Ls r) (fun f _ => sn - (intOf (f 12)).toNat) rfl ⟨rfl, rfl, rfl, rfl, rfl, 0, none, 0, 0, by omega, rfl, rfl, HB2⟩ ?_
      clear HB2 k1V
      intro F2 V3 hrel
      obtain ⟨f1, f7, f8, f9, f10, k, a6, m6, c6, hk, f12, f11, HI⟩ := hrel
      have H12 := hid_of f12
      rw [zframe96a, f1, f7, f8, f9, f10, f11, f12]
      clear f1 f7 f8 f9 f10 f11 f12
      obtain ⟨K, hO, hKl, hKr⟩ := HI.out
      have HO := hid_of hO
      have HKL := hid_of hKl
      have HKR := hid_of hKr
      have hbq3 : blk V3 bq = some C0 := (hO.2.1.blk (blk_lt HC0.out)).trans HC0.out
      have hm6 : m6 ≤ sn := by
        have h1 : m6 = K.length := hO.2.2
        have h2 : ((Ls.take k).filter fun x => decide (x ≠ r)).length ≤ (Ls.take k).length := List.length_filter_le _ _
        rw [← hKl] at h2
        have h4 := HSN.out
        have h5 : (Ls.take k).length ≤ Ls.length := by rw [List.length_take]; omega
        omega
      clear HI hO hKl hKr
      by_cases hkn : k < sn
      rotate_left 1
      · have hkn' : ¬ (k : Int) < (sn : Int) := by omega
        have hfe : ((Ls.take k).filter fun x => decide (x ≠ r)) = Ls.filter fun x => decide (x ≠ r) := by rw [List.take_of_length_le (by have := HSN.out; omega)]
        obtain ⟨C7, O7, y1, y2, y3, y4⟩ := HR2.out.set (q := q) (by rw [HFL.out]; exact hqn) HO.out (L := Ls.filter fun x => decide (x ≠ r)) (by rw [HKL.out, hfe]) (fun i s x h1 h2 => HKR.out i s x h1 (by rw [hfe]; exact h2))
        have eC7 : C7 = C0 := Option.some.inj (y1.symm.trans hbq3)
        subst eC7
        have hC7 : q < C7.length := by rw [y2, HFL.out]; exact hqn
        have HJ : Hid (∃ O F, F.length = fn ∧ RelP O0 W bq F O (put V3 bq (splice C7 q [.slice a6 m6 c6])) ∧ aftF F (i + 1) (L.drop (i + 1)) = res ∧ (∀ L ∈ F, L.length ≤ 1000 + (i + 1)) ∧ Rows4 F) := by
          refine ⟨O7, F.set q (Ls.filter fun x => decide (x ≠ r)), by rw [List.length_set]; exact HFL.out, y4, ?_, set_bd (fun M hM => by have := HLB.out M hM; omega) ?_, fun M hM x hx => ?_⟩
          · rw [HST.out, if_neg (by decide), if_pos (of_decide_eq_true HMB.out.symm)]
          · have h1 : (Ls.filter fun x => decide (x ≠ r)).length ≤ Ls.length := List.length_filter_le _ _
            refine Nat.le_trans h1 ?_
            have h2 := HLB.out Ls (List.mem_of_getElem? HHF.out.1)
            omega
          · rcases List.mem_or_eq_of_mem_set hM with h1 | h1
            · exact HF4.out M h1 x hx
            · rw [h1] at hx
              exact HF4.out Ls (List.mem_of_getElem? HHF.out.1) x (List.mem_filter.1 hx).1
        clear HR HR2 y1 y4 HO HKL HKR hfe y2
        go_wp2_with fail
        refine ⟨rfl, rfl, ⟨rfl, rfl, i + 1, by omega, ?_, HJ⟩, ?_⟩
        · show Value.int .i64 _ = _
          go_num
        · show iN - (intOf (Value.int .i64 _)).toNat < iN - (intOf (F1 8)).toNat
          rw [H8.out]
          simp [intOf]; omega
      have hkn' : (k : Int) < (sn : Int) := by omega
      have j0 : (0 : Int) ≤ (k : Int) := by omega
      have jj2 : ((k : Int)).toNat = k := by omega
      obtain ⟨x, hx⟩ : ∃ x, Ls[k]? = some x := ⟨_, List.getElem?_eq_getElem (by have := HSN.out; omega)⟩
      obtain ⟨ss, hss⟩ : ∃ x, K0[k]? = some x := ⟨_, List.getElem?_eq_getElem (by have := HK0.out; omega)⟩
      obtain ⟨bg, Cg, rfl, z1, z2, z3⟩ := HX2.out.2 k ss hss
      have z4 : nth Cg k = some (.slice ss.a ss.len ss.cap) := by
        have h8 := nth_in (j := 0) z3 (show nth (encR ss) 0 = some (Sl.val ss) from rfl) (by omega)
        rw [Nat.mul_one, Nat.add_zero] at h8
        exact h8
      have z5 : k < Cg.length := by omega
      have hbg : blk V3 bg = some Cg := (HO.out.2.1.blk (blk_lt z1)).trans z1
      have hxr := HX4.out k ss x hss hx
      have hx4 : x.length ≤ 4 := HF4.out Ls (List.mem_of_getElem? HHF.out.1) x (List.mem_of_getElem? hx)
      have hsl : x.length = ss.len := hxr.1
      have hsm := same_any V3 ss.a da ss.len dn ss.cap dc (by omega) x r ((hxr.sub (Sub.core _ _)).sub (Sub.ext HO.out.2.1)) ((HD3.out.sub (Sub.core _ _)).sub (Sub.ext (HR2.out.ext.trans HO.out.2.1)))
      obtain ⟨eb, eeb⟩ : ∃ eb, eb = decide (x = r) := ⟨_, rfl⟩
      rw [← eeb] at hsm
      have HEB := hid_of eeb
      have HXR := hid_of hxr
      have HXX := hid_of hx
      clear z1 z2 z3 hss hxr hsl hx4 eeb hx
      go_wp2_with fail
      refine hsm.mono ?_
      rintro e V4 ⟨rfl, j4, e4⟩
      dsimp only
      have HO4 : Hid (OutG encR 1 78 V2 V4 a6 m6 c6 K) := by
        show OutG _ _ _ _ _ _ _ _ _
        rw [e4]; exact HO.out.ext (extends_drewN (ext_Ext (Ext.refl _)) j4)
      have hbg4 : blk V4 bg = some Cg := by rw [e4]; exact hbg
      have hbq4 : blk V4 bq = some C0 := by rw [e4]; exact hbq3
      clear e4 hsm hbg hbq3
      cases eb with
      | true =>
        have hxe : x = r := of_decide_eq_true HEB.out.symm
        have HJ : Hid (∃ K : List Sl, OutG encR 1 78 V2 V4 a6 m6 c6 K ∧ K.length = ((Ls.take (k + 1)).filter fun x => decide (x ≠ r)).length ∧ ∀ (i : Nat) (s : Sl) (x : NRow), K[i]? = some s → ((Ls.take (k + 1)).filter fun x => decide (x ≠ r))[i]? = some x → Rw encS 1 (core O1 V2) s.a s.len x) := by
          refine ⟨K, HO4.out, ?_, ?_⟩
          · rw [filt_snoc HXX.out, if_pos hxe, List.append_nil]; exact HKL.out
          · rw [filt_snoc HXX.out, if_pos hxe, List.append_nil]; exact HKR.out
        clear HO HO4 hxe
        go_wp2_with fail
        refine ⟨rfl, rfl, ⟨rfl, rfl, rfl, rfl, rfl, k + 1, a6, m6, c6, by omega, ?_, rfl, HJ⟩, ?_⟩
        · show Value.int .i64 _ = _
          go_num
        · show sn - (intOf (Value.int .i64 _)).toNat < sn - (intOf (F2 12)).toNat
          rw [H12.out]
          simp [intOf]; omega
      | false =>
        have hxe : ¬ x = r := of_decide_eq_false HEB.out.symm
        obtain ⟨a8, c8, V5, hrun, hO5, -⟩ := HO4.out.app el75 ss (by have h1 : m6 = K.length := HO4.out.2.2; omega) #[.slice ss.a ss.len ss.cap] rfl 1
        have HJ : Hid (∃ K : List Sl, OutG encR 1 78 V2 V5 a8 (m6 + 1) c8 K ∧ K.length = ((Ls.take (k + 1)).filter fun x => decide (x ≠ r)).length ∧ ∀ (i : Nat) (s : Sl) (x : NRow), K[i]? = some s → ((Ls.take (k + 1)).filter fun x => decide (x ≠ r))[i]? = some x → Rw encS 1 (core O1 V2) s.a s.len x) := by
          refine ⟨K ++ [ss], hO5, ?_, fun i s y h1 h2 => ?_⟩
          · rw [filt_snoc HXX.out, if_neg hxe, List.length_append, List.length_append, HKL.out]; rfl
          · rw [filt_snoc HXX.out, if_neg hxe] at h2
            by_cases hi9 : i < K.length
            · rw [List.getElem?_append_left hi9] at h1
              rw [List.getElem?_append_left (by rw [← HKL.out]; exact hi9)] at h2
              exact HKR.out i s y h1 h2
            · rw [List.getElem?_append_right (by omega)] at h1
              rw [List.getElem?_append_right (by rw [← HKL.out]; omega), ← HKL.out] at h2
              have e0 : i - K.length = 0 := by
                by_cases e3 : i - K.length = 0
                · exact e3
                · rw [List.getElem?_eq_none (by rw [List.length_singleton]; omega)] at h1; cases h1
              rw [e0] at h1 h2
              cases h1
              cases h2
              exact HXR.out
        clear HO HO4 hxe hO5
        go_wp2_with (at_builtin; refine wpList_append_run rfl _ _ 75 rfl _ _ _ _ rfl rfl hrun ?_)
        refine ⟨rfl, rfl, ⟨rfl, rfl, rfl, rfl, rfl, k + 1, a8, m6 + 1, c8, by omega, ?_, rfl, HJ⟩, ?_⟩
        · show Value.int .i64 _ = _
          go_num
        · show sn - (intOf (Value.int .i64 _)).toNat < sn - (intOf (F2 12)).toNat
          rw [H12.out]
          simp [intOf]; omega
end Go.Proofs.Qxb6500787aGreat
