import Derived.Test.Qxb6500787aGreatPa

import Derived.StillTailTactics
import Derived.Deep.QuietTactic
import Derived.BigQuiet
import Derived.Deep.RegionHeld
import Derived.Deep.CutRange
import Derived.Laws.ResultCell
import Derived.Laws.Rows
import Derived.DeepKeys
import Derived.DataBytes
import Derived.Laws.StructEq
import Derived.Laws.AppendOwn
import Derived.Laws.MakeOwn
import Derived.Lib.AppendStr
set_option linter.unusedSimpArgs false
set_option linter.unusedVariables false
namespace Go.Proofs.Qxb6500787aGreat
open Go.RowKit Go.Blk
attribute [local go_sem ↓] execOp_load execOp_store execOp_alloc
attribute [local go_sem] Tryz.ld26 Tryz.st26 Tryz.ld27 Tryz.st27 Tryz.ld28 Tryz.st28 Tryz.ld3 Tryz.st3 Tryz.ld29 Tryz.st29 Tryz.ld44 Tryz.st44 Tryz.ld4 Tryz.st4 Tryz.ld50 Tryz.st50 Tryz.ld32 Tryz.st32 Tryz.ld49 Tryz.st49 Tryz.ld68 Tryz.st68 Tryz.ld9 Tryz.st9 Tryz.ld40 Tryz.st40 Tryz.ld138 Tryz.st138 Tryz.ld139 Tryz.st139 Tryz.ld146 Tryz.st146 Tryz.ld183 Tryz.st183 Tryz.ld184 Tryz.st184 Tryz.ld192 Tryz.st192 Tryz.ld195 Tryz.st195 Tryz.ld217 Tryz.st217 Tryz.ld159 Tryz.st159 Tryz.ld142 Tryz.st142 Tryz.ld2 Tryz.st2 Tryz.ld5 Tryz.st5 Tryz.ld12 Tryz.st12 Tryz.ld21 Tryz.st21 Tryz.ld22 Tryz.st22 Tryz.ld24 Tryz.st24 Tryz.ld58 Tryz.st58 Tryz.ld97 Tryz.st97 Tryz.ld101 Tryz.st101 Tryz.ld116 Tryz.st116 Tryz.ld121 Tryz.st121 Tryz.ld135 Tryz.st135 Tryz.ld136 Tryz.st136 Tryz.ld143 Tryz.st143 Tryz.ld148 Tryz.st148 Tryz.ld154 Tryz.st154 Tryz.ld173 Tryz.st173 Tryz.ld187 Tryz.st187 Tryz.ld222 Tryz.st222 Tryz.ld241 Tryz.st241 Tryz.ld248 Tryz.st248 Tryz.ld268 Tryz.st268 Tryz.ld272 Tryz.st272 Tryz.ld153 Tryz.st153 Tryz.ld255 Tryz.st255 Tryz.ld256 Tryz.st256 Tryz.ld129 Tryz.st129 Tryz.ld152 Tryz.st152 Tryz.ld31 Tryz.st31 Tryz.ld46 Tryz.st46 Tryz.ld52 Tryz.st52 Tryz.ld54 Tryz.st54 Tryz.ld60 Tryz.st60 Tryz.ld70 Tryz.st70 Tryz.ld74 Tryz.st74 Tryz.ld93 Tryz.st93 Tryz.ld141 Tryz.st141 Tryz.ld151 Tryz.st151 Tryz.ld170 Tryz.st170 Tryz.ld186 Tryz.st186 Tryz.ld189 Tryz.st189 Tryz.ld194 Tryz.st194 Tryz.ld197 Tryz.st197 Tryz.ld219 Tryz.st219 Tryz.ld224 Tryz.st224 Tryz.ld230 Tryz.st230 Tryz.ld235 Tryz.st235 Tryz.ld243 Tryz.st243 Tryz.ld247 Tryz.st247 Tryz.ld252 Tryz.st252 Tryz.ld258 Tryz.st258 Tryz.al153 Tryz.al255 Tryz.al256 Tryz.al129 Tryz.al152 Tryz.al31 Tryz.al46 Tryz.al52 Tryz.al54 Tryz.al60 Tryz.al70 Tryz.al74 Tryz.al93 Tryz.al141 Tryz.al151 Tryz.al170 Tryz.al186 Tryz.al189 Tryz.al194 Tryz.al197 Tryz.al219 Tryz.al224 Tryz.al230 Tryz.al235 Tryz.al243 Tryz.al247 Tryz.al252 Tryz.al258
attribute [local go_sem] Request.length_enc Request.ok_enc Request.all_get Request.all_set Request.kind_get Request.kind_set Request.blob_get Request.blob_set Request.items_get Request.items_set Request.pred_get Request.pred_set Request.slots_get Request.slots_set Trace.length_enc Trace.ok_enc Trace.all_get Trace.all_set Trace.op_get Trace.op_set Trace.calls_get Trace.calls_set Item.length_enc Item.ok_enc Item.all_get Item.all_set Item.del_get Item.del_set Item.pred_get Item.pred_set Item.args_get Item.args_set Reply.length_enc Reply.ok_enc Reply.all_get Reply.all_set Reply.code_get Reply.code_set Reply.kind_get Reply.kind_set Reply.index_get Reply.index_set Reply.yes_get Reply.yes_set Reply.preds_get Reply.preds_set Reply.rules_get Reply.rules_set Reply.arity_get Reply.arity_set Reply.rows_get Reply.rows_set Reply.fact_get Reply.fact_set Reply.fact_del_get Reply.fact_del_set Reply.fact_pred_get Reply.fact_pred_set Reply.fact_args_get Reply.fact_args_set GEntry.length_enc GEntry.ok_enc GEntry.all_get GEntry.all_set GEntry.seq_get GEntry.seq_set GEntry.kind_get GEntry.kind_set GEntry.code_get GEntry.code_set GOp.length_enc GOp.ok_enc GOp.all_get GOp.all_set GOp.kind_get GOp.kind_set GOp.raw_get GOp.raw_set Reader.length_enc Reader.ok_enc Reader.all_get Reader.all_set Reader.buf_get Reader.buf_set Reader.at__get Reader.at__set Slot.length_enc Slot.ok_enc Slot.all_get Slot.all_set Slot.bound_get Slot.bound_set Slot.name_get Slot.name_set Session.length_enc Session.ok_enc Session.all_get Session.all_set Session.svc_get Session.svc_set Session.buf_get Session.buf_set Session.closed_get Session.closed_set GProgram.length_enc GProgram.ok_enc GProgram.all_get GProgram.all_set GProgram.pool_get GProgram.pool_set GProgram.preds_get GProgram.preds_set GProgram.rules_get GProgram.rules_set GProgram.strata_get GProgram.strata_set PredInfo.length_enc PredInfo.ok_enc PredInfo.all_get PredInfo.all_set PredInfo.arity_get PredInfo.arity_set PredInfo.base_get PredInfo.base_set PredInfo.stratum_get PredInfo.stratum_set Change.length_enc Change.ok_enc Change.all_get Change.all_set Change.del_get Change.del_set Change.pred_get Change.pred_set Change.t_get Change.t_set Store.length_enc Store.ok_enc Store.all_get Store.all_set Store.names_get Store.names_set Store.arity_get Store.arity_set Store.rows_get Store.rows_set Src.length_enc Src.ok_enc Src.all_get Src.all_set Src.b_get Src.b_set Src.at__get Src.at__set Atom.length_enc Atom.ok_enc Atom.all_get Atom.all_set Atom.pred_get Atom.pred_set Atom.args_get Atom.args_set GRule.length_enc GRule.ok_enc GRule.all_get GRule.all_set GRule.head_get GRule.head_set GRule.body_get GRule.body_set GRule.head_pred_get GRule.head_pred_set GRule.head_args_get GRule.head_args_set Cert.length_enc Cert.ok_enc Cert.all_get Cert.all_set Cert.names_get Cert.names_set Cert.nodes_get Cert.nodes_set Fact.length_enc Fact.ok_enc Fact.all_get Fact.all_set Fact.pred_get Fact.pred_set Fact.t_get Fact.t_set Literal.length_enc Literal.ok_enc Literal.all_get Literal.all_set Literal.neg_get Literal.neg_set Literal.atom_get Literal.atom_set Literal.atom_pred_get Literal.atom_pred_set Literal.atom_args_get Literal.atom_args_set Engine.length_enc Engine.ok_enc Engine.all_get Engine.all_set Engine.prog_get Engine.prog_set Engine.st_get Engine.st_set SrcCertm.length_enc SrcCertm.ok_enc SrcCertm.all_get SrcCertm.all_set SrcCertm.b_get SrcCertm.b_set SrcCertm.at__get SrcCertm.at__set GNode.length_enc GNode.ok_enc GNode.all_get GNode.all_set GNode.rule_get GNode.rule_set GNode.pred_get GNode.pred_set GNode.vals_get GNode.vals_set GNode.refs_get GNode.refs_set Term.length_enc Term.ok_enc Term.all_get Term.all_set Term.var_get Term.var_set Term.n_get Term.n_set Env.length_enc Env.ok_enc Env.all_get Env.all_set Env.val_get Env.val_set Env.set_get Env.set_set
attribute [local go_sem] size_put size_ext blk_put free_put blk_alloc free_alloc blk_drew free_drew blk_ext free_ext lookOr_some putOr_some segAt_some cellAt_some storeIn_some put_put put_alloc_new length_arr ok_arr_u8 ok_arr_u32 ok_arr_u64 ok_arr_i64 ok_arr_sl cellsV_agg cellsV_int cellsV_bool cellsV_string cellsV_pointer cellsV_slice cellsV_sl ok_int ok_bool ok_string ok_pointer ok_slice ok_sl toList_arr seg_arr set_arr nth_splice nth_splice0 seg_splice seg_splice0 splice_splice splice_splice0 length_splice_if
attribute [local go_sem ↓] execOp_box
attribute [local go_sem] box_run nth_arr_u8 put_arr_u8 blk_drewN free_drewN put_drewN blk_raw free_raw
/-- The names that the items want. -/
def wanI (ns : List (List UInt8)) (it : It) : List (List UInt8) := if it.1 then ns else it.2.2.foldl addN ns
def wanF (pool : List (List UInt8)) (F : List (List NRow)) (L : List It) : List (List UInt8) := L.foldl wanI (constF pool F)
def zW1 (W : World) (v2 : Value) (N : Nat) (n0 : List (List UInt8)) (L : List It) (f : Nat → Value) (V : World) : Prop := f 2 = v2 ∧ ∃ (i : Nat) (a : Option Addr) (n c : Nat), i ≤ N ∧ f 8 = .int .i64 (i : Nat) ∧ f 7 = .slice a n c ∧ Hid (∃ K, K = (L.take i).foldl wanI n0 ∧ K.length ≤ 30000000 + i * 4 ∧ OutG encS 1 9 W V a n c K)
def zW2 (W : World) (v2 : Value) (i N : Nat) (n1 : List (List UInt8)) (r : NRow) (f : Nat → Value) (V : World) : Prop := f 2 = v2 ∧ f 8 = .int .i64 (i : Nat) ∧ ∃ (k : Nat) (a : Option Addr) (n c : Nat), k ≤ N ∧ f 9 = .int .i64 (k : Nat) ∧ f 7 = .slice a n c ∧ Hid (∃ K, K = (r.take k).foldl addN n1 ∧ K.length ≤ 30000000 + i * 4 + k ∧ OutG encS 1 9 W V a n c K)
set_option maxRecDepth 100000 in
theorem zframe48w (f : Nat → Value) : frameN 48 f = #[f 0, f 1, f 2, f 3, f 4, f 5, f 6, f 7, f 8, f 9, f 10, f 11, f 12, f 13, f 14, f 15, f 16, f 17, f 18, f 19, f 20, f 21, f 22, f 23, f 24, f 25, f 26, f 27, f 28, f 29, f 30, f 31, f 32, f 33, f 34, f 35, f 36, f 37, f 38, f 39, f 40, f 41, f 42, f 43, f 44, f 45, f 46, f 47] := by kernel_rfl
theorem constF_len {pool : List (List UInt8)} {F : List (List NRow)} (hp : pool.length ≤ 1000000) (hF : F.length ≤ 64) (hL : ∀ L ∈ F, L.length ≤ 100000 ∧ ∀ r ∈ L, r.length ≤ 4) : (constF pool F).length ≤ 1000000 + 64 * 400000 := by
  have a1 : ∀ (K L : List (List UInt8)), (K.foldl addN L).length ≤ L.length + K.length := by
    intro K
    induction K with
    | nil => exact fun L => Nat.le_refl _
    | cons x K ih =>
      intro L
      have h1 := ih (addN L x)
      have h2 := (addN_len L x).1
      rw [List.foldl_cons, List.length_cons]
      omega
  have a2 : ∀ (Ls : List NRow) (L : List (List UInt8)), (∀ r ∈ Ls, r.length ≤ 4) → (Ls.foldl cnR L).length ≤ L.length + 4 * Ls.length := by
    intro Ls
    induction Ls with
    | nil => exact fun L _ => Nat.le_refl _
    | cons r Ls ih =>
      intro L h
      have h1 := ih (cnR L r) (fun y hy => h y (List.mem_cons_of_mem _ hy))
      have h2 := a1 r L
      have h3 := h r List.mem_cons_self
      rw [List.foldl_cons, List.length_cons]
      unfold cnR at h1 ⊢
      omega
  have a3 : ∀ (F : List (List NRow)) (L : List (List UInt8)), (∀ Ls ∈ F, Ls.length ≤ 100000 ∧ ∀ r ∈ Ls, r.length ≤ 4) → (F.foldl cnL L).length ≤ L.length + 400000 * F.length := by
    intro F
    induction F with
    | nil => exact fun L _ => Nat.le_refl _
    | cons Ls F ih =>
      intro L h
      have h1 := ih (cnL L Ls) (fun y hy => h y (List.mem_cons_of_mem _ hy))
      have h2 := a2 Ls L (h Ls List.mem_cons_self).2
      have h3 := (h Ls List.mem_cons_self).1
      rw [List.foldl_cons, List.length_cons]
      unfold cnL at h1 ⊢
      omega
  have h1 := a3 F (pool.foldl addN []) hL
  have h2 := a1 pool []
  unfold constF
  simp only [List.length_nil] at h2
  omega
set_option maxRecDepth 20000 in
set_option maxHeartbeats 1000000 in
theorem wanted_any (W : World) (b ob : Nat) (p : PP) (hp : ProgO W b ob p) (fa : Option Addr) (fn fc : Nat) (F : List (List NRow)) (hF : FactsAt W fa fn F) (hpl : p.pool.length ≤ 1000000) (hfn : F.length ≤ 64) (hLL : ∀ L ∈ F, L.length ≤ 100000 ∧ ∀ r ∈ L, r.length ≤ 4) (ia : Option Addr) (iN ic : Nat) (L : List It) (hI : ItsC W ia iN L) (hin : iN ≤ 1000) (h4 : ∀ it ∈ L, it.2.2.length ≤ 4) : Calls Tryz.prog 39 #[.pointer (some ⟨b, ob, none⟩), .slice fa fn fc, .slice ia iN ic] W (CnPost W (wanF p.pool F L)) := by
  obtain ⟨Q, hQ⟩ : ∃ Q, Q = CnPost W (wanF p.pool F L) := ⟨_, rfl⟩
  rw [← hQ]
  have HQ := hid_of hQ
  have hcn := constants_any W b ob p hp fa fn fc F hF hpl (Nat.le_trans hfn (by decide)) hLL
  have hcl := constF_len hpl hfn hLL
  obtain ⟨n0, en0⟩ : ∃ n0, n0 = constF p.pool F := ⟨_, rfl⟩
  rw [← en0] at hcn hcl
  have HN0 := hid_of en0
  obtain ⟨KD, hKD, hKL, hKI⟩ := hI
  have HKD := hid_of hKD
  have HKI := hid_of hKI
  have HLN : Hid (L.length = iN) := hKL.symm.trans hKD.1
  have H4 := hid_of h4
  clear hQ hp hF en0 hKD hKI hKL h4
  go_enter Tryz.func39, Tryz.ntmps39
  go_wp2_with fail
  refine hcn.mono ?_
  rintro e V0 ⟨a0, c0, rfl, hO0⟩
  dsimp only
  have HB0 : Hid (∃ K, K = (L.take 0).foldl wanI n0 ∧ K.length ≤ 30000000 + 0 * 4 ∧ OutG encS 1 9 W V0 a0 n0.length c0 K) := ⟨n0, rfl, by omega, hO0⟩
  clear hcn hO0
  go_wp2_with fail
  refine wp_loop_f 48 (zW1 W (.slice ia iN ic) iN n0 L) (fun f _ => iN - (intOf (f 8)).toNat) rfl ⟨rfl, 0, a0, n0.length, c0, by omega, rfl, rfl, HB0⟩ ?_
  clear HB0 hcl
  intro F1 V1 hrel
  obtain ⟨f2, i, a, n, c, hi, f8, f7, HI⟩ := hrel
  have H8 := hid_of f8
  rw [zframe48w, f2, f7, f8]
  clear f2 f7 f8
  obtain ⟨K, hK, hKn, hO⟩ := HI.out
  have HK := hid_of hK
  have HO := hid_of hO
  clear HI hK hO
  by_cases hii : i < iN
  rotate_left 1
  · have hii' : ¬ (i : Int) < (iN : Int) := by omega
    have HP : Hid (Q (.returned (.slice a n c)) V1) := by
      show Q _ _
      rw [HQ.out]
      have e1 : K = wanF p.pool F L := by
        rw [HK.out, List.take_of_length_le (by have := HLN.out; omega), HN0.out]
        rfl
      have e2 : n = K.length := HO.out.2.2
      rw [← e1]
      unfold CnPost
      rw [← e2]
      exact ⟨a, c, rfl, HO.out⟩
    clear HK HO hKn
    go_wp2_with fail
    try go_ret
    exact HP.out
  have hii' : (i : Int) < (iN : Int) := by omega
  have i0 : (0 : Int) ≤ (i : Int) := by omega
  have i2 : ((i : Int)).toNat = i := by omega
  obtain ⟨it, hit⟩ : ∃ x, L[i]? = some x := ⟨_, List.getElem?_eq_getElem (by have := HLN.out; omega)⟩
  obtain ⟨d, hd⟩ : ∃ x, KD[i]? = some x := ⟨_, List.getElem?_eq_getElem (by have := HKD.out.1; omega)⟩
  obtain ⟨bi, Ci, rfl, g1, g2, g3⟩ := HKD.out.2 i d hd
  obtain ⟨hd1, hd2, hd3⟩ := HKI.out i d it hd hit
  obtain ⟨dd, dp, da, dn, dc⟩ := d
  dsimp only at hd1 hd2 hd3
  have m0 : nth Ci (i * 3) = some (.bool dd) := nth_in (j := 0) g3 rfl (by omega)
  have m2 : nth Ci (i * 3 + 2) = some (.slice da dn dc) := nth_in (j := 2) g3 rfl (by omega)
  have l0 : i * 3 < Ci.length := by
    have : (i + 1) * 3 ≤ iN * 3 := Nat.mul_le_mul_right _ hii
    omega
  have l2 : i * 3 + 2 < Ci.length := by
    have : (i + 1) * 3 ≤ iN * 3 := Nat.mul_le_mul_right _ hii
    omega
  have HG1 := hid_of g1
  have HD3 := hid_of hd3
  have hdn : it.2.2.length = dn := hd3.1
  have hdb : dn ≤ 4 := by have := H4.out it (List.mem_of_getElem? hit); omega
  have HDN := hid_of hdn
  have HIT := hid_of hit
  have HD1 := hid_of hd1
  have hbi : blk V1 bi = some Ci := (HO.out.2.1.blk (blk_lt g1)).trans g1
  clear g1 g2 g3 hd hit hd1 hd2 hd3 hdn
  cases dd with
  | true =>
    have HJ : Hid (∃ K', K' = (L.take (i + 1)).foldl wanI n0 ∧ K'.length ≤ 30000000 + (i + 1) * 4 ∧ OutG encS 1 9 W V1 a n c K') := by
      refine ⟨K, ?_, by omega, HO.out⟩
      rw [foldl_take _ _ HIT.out, ← HK.out]
      unfold wanI
      rw [← HD1.out, if_pos rfl]
    have HB1 : Hid (∃ K', K' = ((([] : NRow)).take 0).foldl addN K ∧ K'.length ≤ 30000000 + i * 4 + 0 ∧ OutG encS 1 9 W V1 a n c K') := ⟨K, rfl, by omega, HO.out⟩
    clear HK HO hKn
    go_upto_region 6 with fail
    refine wp_loop_f 48 (fun f V => f 2 = .slice (some ⟨bi, 0, none⟩) iN ic ∧ f 8 = .int .i64 (i : Nat) ∧ f 9 = .int .i64 (0 : Nat) ∧ f 7 = .slice a n c ∧ Hid (V = V1)) (fun f _ => 0) rfl ⟨rfl, rfl, rfl, rfl, rfl⟩ ?_
    intro F2 V2 hrel
    obtain ⟨f2, f8, f9, f7, HV⟩ := hrel
    rw [zframe48w, f2, f7, f8, f9]
    have hbi2 : blk V2 bi = some Ci := by rw [HV.out]; exact hbi
    have HJ2 : Hid (∃ K', K' = (L.take (i + 1)).foldl wanI n0 ∧ K'.length ≤ 30000000 + (i + 1) * 4 ∧ OutG encS 1 9 W V2 a n c K') := by
      have h9 := HJ.out
      rw [← HV.out] at h9
      exact h9
    clear f2 f8 f9 f7 HV hbi HJ HB1
    by_cases hz : 0 < dn
    · have hz1 : (0 : Int) < (dn : Int) := by omega
      go_wp2_with fail
      refine ⟨rfl, rfl, ⟨rfl, i + 1, a, n, c, by omega, ?_, rfl, HJ2⟩, ?_⟩
      · show Value.int .i64 _ = _
        go_num
      · show iN - (intOf (Value.int .i64 _)).toNat < iN - (intOf (F1 8)).toNat
        rw [H8.out]
        simp [intOf]; omega
    · have hz0 : dn = 0 := by omega
      subst hz0
      go_wp2_with fail
      refine ⟨rfl, rfl, ⟨rfl, i + 1, a, n, c, by omega, ?_, rfl, HJ2⟩, ?_⟩
      · show Value.int .i64 _ = _
        go_num
      · show iN - (intOf (Value.int .i64 _)).toNat < iN - (intOf (F1 8)).toNat
        rw [H8.out]
        simp [intOf]; omega
  | false =>
    have HB1 : Hid (∃ K', K' = (it.2.2.take 0).foldl addN K ∧ K'.length ≤ 30000000 + i * 4 + 0 ∧ OutG encS 1 9 W V1 a n c K') := ⟨K, rfl, by omega, HO.out⟩
    clear HO hKn
    go_upto_region 6 with fail
    refine wp_loop_f 48 (zW2 W (.slice (some ⟨bi, 0, none⟩) iN ic) i dn K it.2.2) (fun f _ => dn - (intOf (f 9)).toNat) rfl ⟨rfl, rfl, 0, a, n, c, by omega, rfl, rfl, HB1⟩ ?_
    clear HB1 hbi
    intro F2 V2 hrel
    obtain ⟨f2, f8, k, a, n, c, hk, f9, f7, HI⟩ := hrel
    have H9 := hid_of f9
    rw [zframe48w, f2, f7, f8, f9]
    clear f2 f7 f8 f9
    obtain ⟨K2, hK2, hKn2, hO2⟩ := HI.out
    have HK2 := hid_of hK2
    have HO2 := hid_of hO2
    have hbi : blk V2 bi = some Ci := (hO2.2.1.blk (blk_lt HG1.out)).trans HG1.out
    clear HI hK2 hO2
    by_cases hkn : k < dn
    rotate_left 1
    · have hkn' : ¬ (k : Int) < (dn : Int) := by omega
      have HJ : Hid (∃ K', K' = (L.take (i + 1)).foldl wanI n0 ∧ K'.length ≤ 30000000 + (i + 1) * 4 ∧ OutG encS 1 9 W V2 a n c K') := by
        refine ⟨K2, ?_, by omega, HO2.out⟩
        rw [foldl_take _ _ HIT.out, ← HK.out, HK2.out, List.take_of_length_le (by have := HDN.out; omega)]
        unfold wanI
        rw [← HD1.out]
        rfl
      clear HK2 HO2 hKn2
      go_wp2_with fail
      refine ⟨rfl, rfl, ⟨rfl, i + 1, a, n, c, by omega, ?_, rfl, HJ⟩, ?_⟩
      · show Value.int .i64 _ = _
        go_num
      · show iN - (intOf (Value.int .i64 _)).toNat < iN - (intOf (F1 8)).toNat
        rw [H8.out]
        simp [intOf]; omega
    have hkn' : (k : Int) < (dn : Int) := by omega
    have j0 : (0 : Int) ≤ (k : Int) := by omega
    have j2 : ((k : Int)).toNat = k := by omega
    obtain ⟨x, hx⟩ : ∃ x, it.2.2[k]? = some x := ⟨_, List.getElem?_eq_getElem (by have := HDN.out; omega)⟩
    obtain ⟨b9, C9, rfl, g9, g10, g11⟩ := str_at HD3.out hx
    have hC9 : blk V2 b9 = some C9 := (HO2.out.2.1.blk (blk_lt g9)).trans g9
    have had := addName_any HO2.out (by omega) x
    have HI' : Hid (∀ a c V', OutG encS 1 9 W V' a (addN K2 x).length c (addN K2 x) → ∃ K', K' = (it.2.2.take (k + 1)).foldl addN K ∧ K'.length ≤ 30000000 + i * 4 + (k + 1) ∧ OutG encS 1 9 W V' a (addN K2 x).length c K') := fun a c V' h9 => ⟨addN K2 x, by rw [foldl_take _ _ hx, ← HK2.out], by have := (addN_len K2 x).1; omega, h9⟩
    clear hx g9 hKn2
    go_wp2_with fail
    refine had.mono ?_
    rintro e V' ⟨a', c', rfl, hO', -⟩
    dsimp only
    have HJ := hid_of (HI'.out a' c' V' hO')
    clear had hO' HI'
    go_wp2_with fail
    refine ⟨rfl, rfl, ⟨rfl, rfl, k + 1, a', (addN K2 x).length, c', by omega, ?_, rfl, HJ⟩, ?_⟩
    · show Value.int .i64 _ = _
      go_num
    · show dn - (intOf (Value.int .i64 _)).toNat < dn - (intOf (F2 9)).toNat
      rw [H9.out]
      simp [intOf]; omega
end Go.Proofs.Qxb6500787aGreat
