import Derived.Test.Qxb6500787aGreatPh

import Derived.StillTailTactics
import Derived.Deep.QuietTactic
import Derived.BigQuiet
import Derived.Deep.RegionHeld
import Derived.Deep.CutRange
import Derived.Laws.ResultCell
import Derived.Laws.Rows
import Derived.DeepKeys
import Derived.DataBytes
import Derived.Laws.StructEq
import Derived.Laws.AppendOwn
import Derived.Laws.MakeOwn
import Derived.Lib.AppendStr
set_option linter.unusedSimpArgs false
set_option linter.unusedVariables false
namespace Go.Proofs.Qxb6500787aGreat
open Go.RowKit Go.Blk
attribute [local go_sem ↓] execOp_load execOp_store execOp_alloc
attribute [local go_sem] Tryz.ld26 Tryz.st26 Tryz.ld27 Tryz.st27 Tryz.ld28 Tryz.st28 Tryz.ld3 Tryz.st3 Tryz.ld29 Tryz.st29 Tryz.ld44 Tryz.st44 Tryz.ld4 Tryz.st4 Tryz.ld50 Tryz.st50 Tryz.ld32 Tryz.st32 Tryz.ld49 Tryz.st49 Tryz.ld68 Tryz.st68 Tryz.ld9 Tryz.st9 Tryz.ld40 Tryz.st40 Tryz.ld138 Tryz.st138 Tryz.ld139 Tryz.st139 Tryz.ld146 Tryz.st146 Tryz.ld183 Tryz.st183 Tryz.ld184 Tryz.st184 Tryz.ld192 Tryz.st192 Tryz.ld195 Tryz.st195 Tryz.ld217 Tryz.st217 Tryz.ld159 Tryz.st159 Tryz.ld142 Tryz.st142 Tryz.ld2 Tryz.st2 Tryz.ld5 Tryz.st5 Tryz.ld12 Tryz.st12 Tryz.ld21 Tryz.st21 Tryz.ld22 Tryz.st22 Tryz.ld24 Tryz.st24 Tryz.ld58 Tryz.st58 Tryz.ld97 Tryz.st97 Tryz.ld101 Tryz.st101 Tryz.ld116 Tryz.st116 Tryz.ld121 Tryz.st121 Tryz.ld135 Tryz.st135 Tryz.ld136 Tryz.st136 Tryz.ld143 Tryz.st143 Tryz.ld148 Tryz.st148 Tryz.ld154 Tryz.st154 Tryz.ld173 Tryz.st173 Tryz.ld187 Tryz.st187 Tryz.ld222 Tryz.st222 Tryz.ld241 Tryz.st241 Tryz.ld248 Tryz.st248 Tryz.ld268 Tryz.st268 Tryz.ld272 Tryz.st272 Tryz.ld153 Tryz.st153 Tryz.ld255 Tryz.st255 Tryz.ld256 Tryz.st256 Tryz.ld129 Tryz.st129 Tryz.ld152 Tryz.st152 Tryz.ld31 Tryz.st31 Tryz.ld46 Tryz.st46 Tryz.ld52 Tryz.st52 Tryz.ld54 Tryz.st54 Tryz.ld60 Tryz.st60 Tryz.ld70 Tryz.st70 Tryz.ld74 Tryz.st74 Tryz.ld93 Tryz.st93 Tryz.ld141 Tryz.st141 Tryz.ld151 Tryz.st151 Tryz.ld170 Tryz.st170 Tryz.ld186 Tryz.st186 Tryz.ld189 Tryz.st189 Tryz.ld194 Tryz.st194 Tryz.ld197 Tryz.st197 Tryz.ld219 Tryz.st219 Tryz.ld224 Tryz.st224 Tryz.ld230 Tryz.st230 Tryz.ld235 Tryz.st235 Tryz.ld243 Tryz.st243 Tryz.ld247 Tryz.st247 Tryz.ld252 Tryz.st252 Tryz.ld258 Tryz.st258 Tryz.al153 Tryz.al255 Tryz.al256 Tryz.al129 Tryz.al152 Tryz.al31 Tryz.al46 Tryz.al52 Tryz.al54 Tryz.al60 Tryz.al70 Tryz.al74 Tryz.al93 Tryz.al141 Tryz.al151 Tryz.al170 Tryz.al186 Tryz.al189 Tryz.al194 Tryz.al197 Tryz.al219 Tryz.al224 Tryz.al230 Tryz.al235 Tryz.al243 Tryz.al247 Tryz.al252 Tryz.al258
attribute [local go_sem] Request.length_enc Request.ok_enc Request.all_get Request.all_set Request.kind_get Request.kind_set Request.blob_get Request.blob_set Request.items_get Request.items_set Request.pred_get Request.pred_set Request.slots_get Request.slots_set Trace.length_enc Trace.ok_enc Trace.all_get Trace.all_set Trace.op_get Trace.op_set Trace.calls_get Trace.calls_set Item.length_enc Item.ok_enc Item.all_get Item.all_set Item.del_get Item.del_set Item.pred_get Item.pred_set Item.args_get Item.args_set Reply.length_enc Reply.ok_enc Reply.all_get Reply.all_set Reply.code_get Reply.code_set Reply.kind_get Reply.kind_set Reply.index_get Reply.index_set Reply.yes_get Reply.yes_set Reply.preds_get Reply.preds_set Reply.rules_get Reply.rules_set Reply.arity_get Reply.arity_set Reply.rows_get Reply.rows_set Reply.fact_get Reply.fact_set Reply.fact_del_get Reply.fact_del_set Reply.fact_pred_get Reply.fact_pred_set Reply.fact_args_get Reply.fact_args_set GEntry.length_enc GEntry.ok_enc GEntry.all_get GEntry.all_set GEntry.seq_get GEntry.seq_set GEntry.kind_get GEntry.kind_set GEntry.code_get GEntry.code_set GOp.length_enc GOp.ok_enc GOp.all_get GOp.all_set GOp.kind_get GOp.kind_set GOp.raw_get GOp.raw_set Reader.length_enc Reader.ok_enc Reader.all_get Reader.all_set Reader.buf_get Reader.buf_set Reader.at__get Reader.at__set Slot.length_enc Slot.ok_enc Slot.all_get Slot.all_set Slot.bound_get Slot.bound_set Slot.name_get Slot.name_set Session.length_enc Session.ok_enc Session.all_get Session.all_set Session.svc_get Session.svc_set Session.buf_get Session.buf_set Session.closed_get Session.closed_set GProgram.length_enc GProgram.ok_enc GProgram.all_get GProgram.all_set GProgram.pool_get GProgram.pool_set GProgram.preds_get GProgram.preds_set GProgram.rules_get GProgram.rules_set GProgram.strata_get GProgram.strata_set PredInfo.length_enc PredInfo.ok_enc PredInfo.all_get PredInfo.all_set PredInfo.arity_get PredInfo.arity_set PredInfo.base_get PredInfo.base_set PredInfo.stratum_get PredInfo.stratum_set Change.length_enc Change.ok_enc Change.all_get Change.all_set Change.del_get Change.del_set Change.pred_get Change.pred_set Change.t_get Change.t_set Store.length_enc Store.ok_enc Store.all_get Store.all_set Store.names_get Store.names_set Store.arity_get Store.arity_set Store.rows_get Store.rows_set Src.length_enc Src.ok_enc Src.all_get Src.all_set Src.b_get Src.b_set Src.at__get Src.at__set Atom.length_enc Atom.ok_enc Atom.all_get Atom.all_set Atom.pred_get Atom.pred_set Atom.args_get Atom.args_set GRule.length_enc GRule.ok_enc GRule.all_get GRule.all_set GRule.head_get GRule.head_set GRule.body_get GRule.body_set GRule.head_pred_get GRule.head_pred_set GRule.head_args_get GRule.head_args_set Cert.length_enc Cert.ok_enc Cert.all_get Cert.all_set Cert.names_get Cert.names_set Cert.nodes_get Cert.nodes_set Fact.length_enc Fact.ok_enc Fact.all_get Fact.all_set Fact.pred_get Fact.pred_set Fact.t_get Fact.t_set Literal.length_enc Literal.ok_enc Literal.all_get Literal.all_set Literal.neg_get Literal.neg_set Literal.atom_get Literal.atom_set Literal.atom_pred_get Literal.atom_pred_set Literal.atom_args_get Literal.atom_args_set Engine.length_enc Engine.ok_enc Engine.all_get Engine.all_set Engine.prog_get Engine.prog_set Engine.st_get Engine.st_set SrcCertm.length_enc SrcCertm.ok_enc SrcCertm.all_get SrcCertm.all_set SrcCertm.b_get SrcCertm.b_set SrcCertm.at__get SrcCertm.at__set GNode.length_enc GNode.ok_enc GNode.all_get GNode.all_set GNode.rule_get GNode.rule_set GNode.pred_get GNode.pred_set GNode.vals_get GNode.vals_set GNode.refs_get GNode.refs_set Term.length_enc Term.ok_enc Term.all_get Term.all_set Term.var_get Term.var_set Term.n_get Term.n_set Env.length_enc Env.ok_enc Env.all_get Env.all_set Env.val_get Env.val_set Env.set_get Env.set_set
attribute [local go_sem] size_put size_ext blk_put free_put blk_alloc free_alloc blk_drew free_drew blk_ext free_ext lookOr_some putOr_some segAt_some cellAt_some storeIn_some put_put put_alloc_new length_arr ok_arr_u8 ok_arr_u32 ok_arr_u64 ok_arr_i64 ok_arr_sl cellsV_agg cellsV_int cellsV_bool cellsV_string cellsV_pointer cellsV_slice cellsV_sl ok_int ok_bool ok_string ok_pointer ok_slice ok_sl toList_arr seg_arr set_arr nth_splice nth_splice0 seg_splice seg_splice0 splice_splice splice_splice0 length_splice_if
attribute [local go_sem ↓] execOp_box
attribute [local go_sem] box_run nth_arr_u8 put_arr_u8 blk_drewN free_drewN put_drewN blk_raw free_raw
def zU1 (W : World) (bm kd : Nat) (v2 : Value) (N : Nat) (p : PP) (L : List It) (f : Nat → Value) (V : World) : Prop := f 0 = .pointer (some ⟨bm, 0, none⟩) ∧ f 1 = .int .i64 (kd : Int) ∧ f 2 = v2 ∧ ∃ i : Nat, i ≤ N ∧ f 7 = .int .i64 (i : Nat) ∧ Hid ((∃ j, V = W.drewN j) ∧ ckL p L 0 = ckL p (L.drop i) i)
set_option maxRecDepth 100000 in
theorem zframe121 (f : Nat → Value) : frameN 121 f = #[f 0, f 1, f 2, f 3, f 4, f 5, f 6, f 7, f 8, f 9, f 10, f 11, f 12, f 13, f 14, f 15, f 16, f 17, f 18, f 19, f 20, f 21, f 22, f 23, f 24, f 25, f 26, f 27, f 28, f 29, f 30, f 31, f 32, f 33, f 34, f 35, f 36, f 37, f 38, f 39, f 40, f 41, f 42, f 43, f 44, f 45, f 46, f 47, f 48, f 49, f 50, f 51, f 52, f 53, f 54, f 55, f 56, f 57, f 58, f 59, f 60, f 61, f 62, f 63, f 64, f 65, f 66, f 67, f 68, f 69, f 70, f 71, f 72, f 73, f 74, f 75, f 76, f 77, f 78, f 79, f 80, f 81, f 82, f 83, f 84, f 85, f 86, f 87, f 88, f 89, f 90, f 91, f 92, f 93, f 94, f 95, f 96, f 97, f 98, f 99, f 100, f 101, f 102, f 103, f 104, f 105, f 106, f 107, f 108, f 109, f 110, f 111, f 112, f 113, f 114, f 115, f 116, f 117, f 118, f 119, f 120] := by kernel_rfl
theorem ckL_cons {p : PP} {it : It} {L : List It} {i : Nat} : ckL p (it :: L) i = if cuF p it.2.1.toNat it.2.2.length ≠ 0 then some (cuF p it.2.1.toNat it.2.2.length, i) else ckL p L (i + 1) := rfl
theorem aftF_code : ∀ (L : List It) (F : List (List NRow)) (i : Nat), (aftF F i L).1 ≠ 0 → ∃ c j : Nat, (aftF F i L).1 = (c : Int) ∧ (aftF F i L).2.1 = (j : Int) ∧ c ≤ 255 ∧ j < i + L.length
  | [], F, i, h => absurd rfl h
  | it :: L, F, i, h => by
    unfold aftF at h ⊢
    split at h
    · rename_i hd
      rw [if_pos hd]
      split at h
      · rename_i hm
        rw [if_pos hm]
        exact ⟨14, i, rfl, rfl, by decide, by rw [List.length_cons]; omega⟩
      · rename_i hm
        rw [if_neg hm]
        obtain ⟨c, j, h1, h2, h3, h4⟩ := aftF_code L _ (i + 1) h
        exact ⟨c, j, h1, h2, h3, by rw [List.length_cons]; omega⟩
    · rename_i hd
      rw [if_neg hd]
      split at h
      · rename_i hm
        rw [if_pos hm]
        obtain ⟨c, j, h1, h2, h3, h4⟩ := aftF_code L _ (i + 1) h
        exact ⟨c, j, h1, h2, h3, by rw [List.length_cons]; omega⟩
      · rename_i hm
        rw [if_neg hm]
        exact ⟨15, i, rfl, rfl, by decide, by rw [List.length_cons]; omega⟩
theorem PgR.cells {W : World} {C C' : List Value} {p : PP} (h : PgR W C p) (hc : ∀ k, k < 4 → nth C' k = nth C k) : PgR W C' p := by
  obtain ⟨sp, sd, sr, h0, h1, h2, h3, h4⟩ := h
  exact ⟨sp, sd, sr, (hc 0 (by omega)).trans h0, (hc 1 (by omega)).trans h1, (hc 2 (by omega)).trans h2, (hc 3 (by omega)).trans h3, h4⟩
theorem lab_8 {O : Own} (h8 : ∀ k j, O k ≠ .a 8 j) (n : Nat) : ∀ k j, lab O n .no k ≠ .a 8 j := fun k j => by
  by_cases hk : k < n
  · rw [lab_lt hk]; exact h8 k j
  · rw [lab_ge (by omega)]; exact fun e => by cases e
/-- The new facts are put into the state. -/
theorem up_put {O : Own} {W V4 V5 V : World} {bm : Nat} {m : MS} {Ce : List Value} {fa : Option Addr} {fc : Nat} (h : MAo O W bm m Ce fa fc) (hl : m.ld = true) (h4 : W.Extends V4) (h5 : V4.Extends V5) {bo fn : Nat} {F' : List (List NRow)} (hF : FactsAt (core (lab (lab O W.heap.size .no) V4.heap.size .no) V5) (some ⟨bo, 0, none⟩) fn F') (hfn : F'.length = fn) (hx : (put V5 bm (splice Ce 6 [.slice (some ⟨bo, 0, none⟩) fn fn])).Extends V) : OnG W bm V (splice Ce 6 [.slice (some ⟨bo, 0, none⟩) fn fn]) ∧ MAo (lab O W.heap.size .no) V bm ⟨true, m.p, F'⟩ (splice Ce 6 [.slice (some ⟨bo, 0, none⟩) fn fn]) (some ⟨bo, 0, none⟩) fn := by
  have hb := blk_lt h.cell
  have hon : OnG W bm V (splice Ce 6 [.slice (some ⟨bo, 0, none⟩) fn fn]) := (h.on (h4.trans h5)).put.ext hx
  have hn : ∀ k, nth (splice Ce 6 [.slice (some ⟨bo, 0, none⟩) fn fn]) k = if k = 6 then some (.slice (some ⟨bo, 0, none⟩) fn fn) else nth Ce k := fun k => splice_nth (by rw [h.len]; omega) k
  have hsub : Sub (core O W) (core (lab O W.heap.size .no) V) := Sub.cores fun b C hb9 ho => by
    have hne : b ≠ bm := fun e => by rw [e, h.own] at ho; cases ho
    exact ⟨(blk_of_heap (hon.heap b (blk_lt hb9) hne)).trans hb9, by rw [lab_lt (blk_lt hb9)]; exact ho⟩
  have hsub2 : Sub (core (lab (lab O W.heap.size .no) V4.heap.size .no) V5) (core (lab O W.heap.size .no) V) := Sub.cores fun b C hb9 ho => by
    have hl9 : lab O W.heap.size .no b = .no := by
      by_cases hk : b < V4.heap.size
      · rw [lab_lt hk] at ho; exact ho
      · exact lab_ge (Nat.le_trans h4.size (by omega))
    have hne : b ≠ bm := fun e => by rw [e, lab_lt hb, h.own] at hl9; cases hl9
    refine ⟨?_, hl9⟩
    refine (hx.blk (by rw [size_put]; exact blk_lt hb9)).trans ?_
    rw [blk_put, if_neg hne]; exact hb9
  refine ⟨hon, hon.blk, hon.free, by rw [lab_lt hb]; exact h.own, by rw [length_splice1 (by rw [h.len]; omega)]; exact h.len, ?_, fun _ => ?_, ?_, fun _ => ?_⟩
  · rw [hn, if_neg (by omega), h.ld, hl]
  · exact ((h.pg hl).sub hsub).cells (fun k hk => by rw [nth_drop, nth_drop, hn, if_neg (by omega)])
  · rw [hn, if_pos rfl]
    show _ = some (Value.slice (some ⟨bo, 0, none⟩) F'.length fn)
    rw [hfn]
  · show FactsAt _ _ F'.length F'
    rw [hfn]
    exact hF.sub hsub2
attribute [local go_sem] Tryz.zl75 Tryz.zs75 Tryz.zl52 Tryz.zs52
set_option maxRecDepth 40000 in
set_option maxHeartbeats 1000000 in
theorem update_any (O : Own) (h8 : ∀ k j, O k ≠ .a 8 j) (W : World) (bm : Nat) (m : MS) (Ce : List Value) (fa : Option Addr) (fc : Nat) (h : MAo O W bm m Ce fa fc) (hl : m.ld = true) (hI : MsI m) (kd : Nat) (hkd : kd ≤ 255) (ia : Option Addr) (iN ic : Nat) (L : List It) (hIt : ItsC (core O W) ia iN L) (hin : iN ≤ 255) (h4 : ∀ it ∈ L, it.2.2.length ≤ 4 ∧ 0 ≤ it.2.1 ∧ it.2.1 ≤ 255) : Calls Tryz.prog 57 #[.pointer (some ⟨bm, 0, none⟩), .int .i64 (kd : Int), .slice ia iN ic] W (UpPost O W bm (UpR m kd L)) := by
  obtain ⟨Q, hQ⟩ : ∃ Q, Q = UpPost O W bm (UpR m kd L) := ⟨_, rfl⟩
  rw [← hQ]
  have HQ := hid_of hQ
  obtain ⟨da, dc, c3, hPr⟩ := h.at.preds hl
  have k3 : 3 < Ce.length := by rw [h.len]; omega
  have k6 : 6 < Ce.length := by rw [h.len]; omega
  have c6 := h.fs
  have HM := hid_of h
  have HI := hid_of hI
  have HIT := hid_of hIt
  obtain ⟨KD, hKD, hKL, hKI⟩ := hIt
  have HKD : Hid (Rw encD 3 W ia iN KD) := hKD.sub (Sub.core _ _)
  have HKI := hid_of hKI
  have HLN : Hid (L.length = iN) := hKL.symm.trans hKD.1
  obtain ⟨N, eN⟩ : ∃ N, N = m.p.preds.length := ⟨_, rfl⟩
  have hN64 : N ≤ 64 := by rw [eN]; exact hI.pg.g.pok.nD
  rw [← eN] at c3 hPr
  have HN := hid_of eN
  obtain ⟨fn, efn⟩ : ∃ fn, fn = m.F.length := ⟨_, rfl⟩
  have hfn : fn = N := by rw [efn, eN]; exact hI.len
  rw [← efn] at c6
  subst hfn
  have HFN := hid_of efn
  have HPR := hid_of hPr
  have HL := hid_of hl
  have H4 := hid_of h4
  have H8 := hid_of h8
  clear hQ h hI eN efn hPr hl h4 hKD hKI hKL h8
  go_enter Tryz.func57, Tryz.ntmps57
  go_wp2_with fail
  refine wp_loop_f 121 (zU1 W bm kd (.slice ia iN ic) iN m.p L) (fun f _ => iN - (intOf (f 7)).toNat) rfl ⟨rfl, rfl, rfl, 0, by omega, rfl, ⟨⟨0, rfl⟩, rfl⟩⟩ ?_
  intro G V hrel
  obtain ⟨f0, f1, f2, i, hi, f7, HJ⟩ := hrel
  have H7 := hid_of f7
  rw [zframe121, f0, f1, f2, f7]
  clear f0 f1 f2 f7
  obtain ⟨⟨jV, hjV⟩, hck⟩ := HJ.out
  have HCK0 := hid_of hck
  have HXV : Hid (W.Extends V) := by
    show World.Extends _ _
    rw [hjV]; exact extends_drewN (ext_Ext (Ext.refl _)) jV
  have hbm : blk V bm = some Ce := (HXV.out.blk (blk_lt HM.out.cell)).trans HM.out.cell
  have HVJ : Hid (∀ q, ∃ j, V.drewN q = W.drewN j) := fun q => ⟨_, by rw [hjV, World.drewN_drewN]⟩
  clear HJ hck hjV
  by_cases hii : i < iN
  · have hii' : (i : Int) < (iN : Int) := by omega
    have i0 : (0 : Int) ≤ (i : Int) := by omega
    have i2 : ((i : Int)).toNat = i := by omega
    obtain ⟨it, hit⟩ : ∃ x, L[i]? = some x := ⟨_, List.getElem?_eq_getElem (by have := HLN.out; omega)⟩
    obtain ⟨d, hd⟩ : ∃ x, KD[i]? = some x := ⟨_, List.getElem?_eq_getElem (by have := HKD.out.1; omega)⟩
    obtain ⟨bi, Ci, rfl, g1, g2, g3⟩ := HKD.out.2 i d hd
    obtain ⟨hd1, hd2, hd3⟩ := HKI.out i d it hd hit
    obtain ⟨dd, dp, dA, dn, dC⟩ := d
    dsimp only at hd1 hd2 hd3
    obtain ⟨h4a, h4b, h4c⟩ := H4.out it (List.mem_of_getElem? hit)
    obtain ⟨q, hq⟩ : ∃ q : Nat, it.2.1 = (q : Int) := ⟨it.2.1.toNat, by omega⟩
    rw [hq] at hd2
    subst hd2
    have hdn : it.2.2.length = dn := hd3.1
    have m1 : nth Ci (i * 3 + 1) = some (.int .i64 (q : Int)) := nth_in (j := 1) g3 rfl (by omega)
    have m2 : nth Ci (i * 3 + 2) = some (.slice dA dn dC) := nth_in (j := 2) g3 rfl (by omega)
    have l9 : (i + 1) * 3 ≤ iN * 3 := Nat.mul_le_mul_right _ hii
    have l0 : i * 3 < Ci.length := by omega
    have l1 : i * 3 + 1 < Ci.length := by omega
    have l2 : i * 3 + 2 < Ci.length := by omega
    have hbi : blk V bi = some Ci := (HXV.out.blk (blk_lt g1)).trans g1
    have HCK : Hid (ckL m.p L 0 = if cuF m.p q dn ≠ 0 then some (cuF m.p q dn, i) else ckL m.p (L.drop (i + 1)) (i + 1)) := by
      show _ = _
      rw [HCK0.out, dropA_at hit, ckL_cons, hq, Int.toNat_natCast, hdn]
    have q0 : (0 : Int) ≤ (q : Int) := by omega
    have q2 : ((q : Int)).toNat = q := by omega
    clear g1 g2 g3 hd hit hd1 hd3 hq hdn h4a h4b h4c l9 HCK0
    by_cases hqn : q < fn
    rotate_left 1
    · have hp1 : ¬ (q : Int) < (fn : Int) := by omega
      have hp2 : (fn : Int) ≤ (q : Int) := by omega
      have hp3 : fn ≤ q := by omega
      have hcu : cuF m.p q dn = 11 := by unfold cuF; rw [if_pos (by rw [← HN.out]; exact hp3)]
      have HCU := hid_of hcu
      clear hcu
      go_upto_region 4 with fail
      go_quiet (fail)
      go_wp2_with fail
      refine (zrefusalAt_any _ 11 kd i (by decide) hkd (by omega)).mono ?_
      rintro e V9 ⟨a9, n9, c9, rfl, ho9⟩
      dsimp only
      have HP : Hid (Q (.returned (.slice a9 n9 c9)) V9) := by
        show Q _ _
        rw [HQ.out]
        have hxw := extends_drewN HXV.out nq
        refine up_of HM.out ⟨row_base ho9.1 hxw.size, hxw.trans ho9.2.1, ho9.2.2⟩ (.inl ⟨11, i, ?_, rfl, rfl⟩)
        rw [HCK.out, HCU.out, if_pos (by decide)]
      clear ho9
      go_wp2_with fail
      try go_ret
      exact HP.out
    have hp1 : (q : Int) < (fn : Int) := by omega
    have hp2 : ¬ (fn : Int) ≤ (q : Int) := by omega
    have hp3 : ¬ fn ≤ q := by omega
    obtain ⟨bd, Cd, rfl, y1, y2, y3⟩ := HPR.out.2 q _ (pI_at (by rw [← HN.out]; exact hqn))
    obtain ⟨har, har4⟩ := pI_ar HI.out.pg.g.pok (q := q) (by rw [← HN.out]; exact hqn)
    obtain ⟨ar, ear⟩ : ∃ ar, ar = arP m.p q := ⟨_, rfl⟩
    rw [← ear] at har har4
    obtain ⟨bb, ebb⟩ : ∃ bb, bb = (pI m.p q).base := ⟨_, rfl⟩
    have n0 : nth Cd (q * 3) = some (.int .i64 (ar : Int)) := by
      have h9 := nth_in (j := 0) y3 (show nth (PredInfo.enc (pI m.p q)) 0 = some (.int .i64 (pI m.p q).arity) from rfl) (by omega)
      rw [har] at h9
      exact h9
    have n1 : nth Cd (q * 3 + 1) = some (.bool bb) := by
      rw [ebb]
      exact nth_in (j := 1) y3 (show nth (PredInfo.enc (pI m.p q)) 1 = some (.bool (pI m.p q).base) from rfl) (by omega)
    have l9 : (q + 1) * 3 ≤ fn * 3 := Nat.mul_le_mul_right _ hqn
    have l3 : q * 3 < Cd.length := by omega
    have l4 : q * 3 + 1 < Cd.length := by omega
    have hbd : blk V bd = some Cd := (HXV.out.blk (blk_lt y1)).trans y1
    have HCU : Hid (cuF m.p q dn = if bb = false then 12 else if (dn : Int) ≠ (ar : Int) then 13 else 0) := by
      show _ = _
      unfold cuF
      rw [if_neg (by rw [← HN.out]; exact hp3), har, ebb]
    clear y1 y2 y3 har ear ebb l9
    go_upto_region 4 with fail
    go_quiet (fail)
    obtain ⟨V2, hV2⟩ : ∃ Z, Z = V.drewN nq := ⟨_, rfl⟩
    rw [← hV2]
    have hbm_ : blk V2 bm = some Ce := by rw [hV2]; exact hbm
    clear hbm
    have hbm := hbm_
    clear hbm_
    have hbi_ : blk V2 bi = some Ci := by rw [hV2]; exact hbi
    clear hbi
    have hbi := hbi_
    clear hbi_
    have hbd_ : blk V2 bd = some Cd := by rw [hV2]; exact hbd
    clear hbd
    have hbd := hbd_
    clear hbd_
    have HXV2 : Hid (W.Extends V2) := by show World.Extends _ _; rw [hV2]; exact extends_drewN HXV.out _
    have HVJ2 : Hid (∀ q, ∃ j, V2.drewN q = W.drewN j) := fun q => by obtain ⟨j, hj⟩ := HVJ.out (nq + q); exact ⟨j, by rw [hV2, World.drewN_drewN]; exact hj⟩
    clear hV2 HXV HVJ
    have HXV := HXV2
    have HVJ := HVJ2
    clear nq
    go_upto_region 6 with fail
    cases bb with
    | false =>
      go_quiet (fail)
      go_wp2_with fail
      refine (zrefusalAt_any _ 12 kd i (by decide) hkd (by omega)).mono ?_
      rintro e V9 ⟨a9, n9, c9, rfl, ho9⟩
      dsimp only
      have HP : Hid (Q (.returned (.slice a9 n9 c9)) V9) := by
        show Q _ _
        rw [HQ.out]
        have hxw := extends_drewN HXV.out nq
        refine up_of HM.out ⟨row_base ho9.1 hxw.size, hxw.trans ho9.2.1, ho9.2.2⟩ (.inl ⟨12, i, ?_, rfl, rfl⟩)
        rw [HCK.out, HCU.out]; rfl
      clear ho9
      go_wp2_with fail
      try go_ret
      exact HP.out
    | true =>
      go_quiet (fail)
      obtain ⟨V3, hV3⟩ : ∃ Z, Z = V2.drewN nq := ⟨_, rfl⟩
      rw [← hV3]
      have hbm_ : blk V3 bm = some Ce := by rw [hV3]; exact hbm
      clear hbm
      have hbm := hbm_
      clear hbm_
      have hbi_ : blk V3 bi = some Ci := by rw [hV3]; exact hbi
      clear hbi
      have hbi := hbi_
      clear hbi_
      have hbd_ : blk V3 bd = some Cd := by rw [hV3]; exact hbd
      clear hbd
      have hbd := hbd_
      clear hbd_
      have HXV3 : Hid (W.Extends V3) := by show World.Extends _ _; rw [hV3]; exact extends_drewN HXV.out _
      have HVJ3 : Hid (∀ q, ∃ j, V3.drewN q = W.drewN j) := fun q => by obtain ⟨j, hj⟩ := HVJ.out (nq + q); exact ⟨j, by rw [hV3, World.drewN_drewN]; exact hj⟩
      clear hV3 HXV HVJ
      have HXV := HXV3
      have HVJ := HVJ3
      clear nq
      go_upto_region 8 with fail
      by_cases hra : dn = ar
      rotate_left 1
      · have hr1 : ¬ (dn : Int) = (ar : Int) := by omega
        have hr2 : ((dn : Int) == (ar : Int)) = false := by simp; omega
        have hr3 : ((dn : Int) != (ar : Int)) = true := by simp; omega
        have HCU2 : Hid (cuF m.p q dn = 13) := by show _ = _; rw [HCU.out, if_neg (by decide), if_pos hr1]
        go_quiet (fail)
        go_wp2_with fail
        refine (zrefusalAt_any _ 13 kd i (by decide) hkd (by omega)).mono ?_
        rintro e V9 ⟨a9, n9, c9, rfl, ho9⟩
        dsimp only
        have HP : Hid (Q (.returned (.slice a9 n9 c9)) V9) := by
          show Q _ _
          rw [HQ.out]
          have hxw := extends_drewN HXV.out nq
          refine up_of HM.out ⟨row_base ho9.1 hxw.size, hxw.trans ho9.2.1, ho9.2.2⟩ (.inl ⟨13, i, ?_, rfl, rfl⟩)
          rw [HCK.out, HCU2.out, if_pos (by decide)]
        clear ho9
        go_wp2_with fail
        try go_ret
        exact HP.out
      subst hra
      have HCU2 : Hid (cuF m.p q dn = 0) := by show _ = _; rw [HCU.out, if_neg (by decide), if_neg (fun e => e rfl)]
      go_quiet (fail)
      have HJ : Hid ((∃ j, V3.drewN nq = W.drewN j) ∧ ckL m.p L 0 = ckL m.p (L.drop (i + 1)) (i + 1)) := ⟨HVJ.out nq, by rw [HCK.out, HCU2.out, if_neg (fun e => e rfl)]⟩
      clear HVJ HCK HCU HCU2
      go_wp2_with fail
      refine ⟨rfl, rfl, ⟨rfl, rfl, rfl, i + 1, by omega, ?_, HJ.out⟩, ?_⟩
      · show Value.int .i64 _ = _
        go_num
      · show iN - (intOf (Value.int .i64 _)).toNat < iN - (intOf (G 7)).toNat
        rw [H7.out]
        simp [intOf]; omega
  have hii' : ¬ (i : Int) < (iN : Int) := by omega
  have HCN : Hid (ckL m.p L 0 = none) := by
    show _ = _
    rw [HCK0.out, List.drop_eq_nil_of_le (by have := HLN.out; omega)]; rfl
  clear HVJ HCK0 hi
  have hwan := wanted_any V.drew bm 2 m.p ((HM.out.at.po HL.out).sub (Sub.ext (extends_drewN HXV.out 1))) fa fn fc m.F (by rw [HFN.out]; exact (HM.out.at.fc HL.out).sub (Sub.ext (extends_drewN HXV.out 1))) (Nat.le_trans HI.out.pg.g.pok.nP (by decide)) (by rw [← HFN.out]; exact hN64) (fun M hM => ⟨Nat.le_trans (HI.out.cap M hM) (by decide), HI.out.r4 M hM⟩) ia iN ic L ((HIT.out.sub (Sub.core _ _)).sub (Sub.ext (extends_drewN HXV.out 1))) (by omega) (fun it hit => (H4.out it hit).1)
  obtain ⟨wl, ewl⟩ : ∃ wl, wl = (wanF m.p.pool m.F L).length := ⟨_, rfl⟩
  unfold CnPost at hwan
  rw [← ewl] at hwan
  have HWL := hid_of ewl
  clear ewl
  go_upto_region 10 with fail
  repeat go_step
  refine wp_region_held_drew (S := fun W' => blk W' bm = some Ce) (by kernel_rfl) hbm (fun hHeld => ?_)
  refine wpAnyH_take (i := 0) (oi := ⟨_, _, _, _, _, _⟩) (v := ?_) rfl (by kernel_rfl) (by kernel_rfl) (by kernel_rfl) (fun _ _ _ h => h) (Or.inl ⟨by rfl, ?_⟩) (by assumption) ?_
  rotate_left 1
  · intro W' hSw
    go_simp
    try with_reducible rfl
  try simp only [Act.put, List.setIfInBounds_toArray, List.set_cons_zero, List.set_cons_succ]
  refine wpAnyH_take (i := 1) (oi := ⟨_, _, _, _, _, _⟩) (v := ?_) rfl (by kernel_rfl) (by kernel_rfl) (by kernel_rfl) (fun _ _ _ h => h) (Or.inl ⟨by rfl, ?_⟩) (by assumption) ?_
  rotate_left 1
  · intro W' hSw
    go_simp
    try with_reducible rfl
  try simp only [Act.put, List.setIfInBounds_toArray, List.set_cons_zero, List.set_cons_succ]
  refine wpAnyH_take (i := 2) (oi := ⟨_, _, _, _, _, _⟩) (v := ?_) rfl (by kernel_rfl) (by kernel_rfl) (by kernel_rfl) (fun _ _ _ h => h) (Or.inl ⟨by rfl, ?_⟩) (by assumption) ?_
  rotate_left 1
  · intro W' hSw
    go_simp
    try with_reducible rfl
  try simp only [Act.put, List.setIfInBounds_toArray, List.set_cons_zero, List.set_cons_succ]
  refine wpAnyH_take (i := 3) (oi := ⟨_, _, _, _, _, _⟩) (v := ?_) rfl (by kernel_rfl) (by kernel_rfl) (by kernel_rfl) (fun _ _ _ h => h) (Or.inl ⟨by rfl, ?_⟩) (by assumption) ?_
  rotate_left 1
  · intro W' hSw
    go_simp
    try with_reducible rfl
  try simp only [Act.put, List.setIfInBounds_toArray, List.set_cons_zero, List.set_cons_succ]
  refine wpAnyH_take (i := 4) (oi := ⟨_, _, _, _, _, _⟩) (v := ?_) rfl (by kernel_rfl) (by kernel_rfl) (by kernel_rfl) (fun _ _ _ h => h) (Or.inl ⟨by rfl, ?_⟩) (by assumption) ?_
  rotate_left 1
  · intro W' hSw
    go_simp
    try with_reducible rfl
  try simp only [Act.put, List.setIfInBounds_toArray, List.set_cons_zero, List.set_cons_succ]
  refine wpAnyH_take (i := 5) (oi := ⟨_, _, _, _, _, _⟩) (v := ?_) rfl (by kernel_rfl) (by kernel_rfl) (by kernel_rfl) (fun _ _ _ h => h) (Or.inl ⟨by rfl, ?_⟩) (by assumption) ?_
  rotate_left 1
  · intro W' hSw
    go_simp
    try with_reducible rfl
  try simp only [Act.put, List.setIfInBounds_toArray, List.set_cons_zero, List.set_cons_succ]
  refine wpAnyH_take (i := 6) (oi := ⟨_, _, _, _, _, _⟩) (v := ?_) rfl (by kernel_rfl) (by kernel_rfl) (by kernel_rfl) (fun _ _ _ h => h) (Or.inl ⟨by rfl, ?_⟩) (by assumption) ?_
  rotate_left 1
  · intro W' hSw
    go_simp
    try with_reducible rfl
  try simp only [Act.put, List.setIfInBounds_toArray, List.set_cons_zero, List.set_cons_succ]
  refine wpAnyH_take (i := 7) (oi := ⟨_, _, _, _, _, _⟩) (v := ?_) rfl (by kernel_rfl) (by kernel_rfl) (by kernel_rfl) (fun _ _ _ h => h) (Or.inl ⟨by rfl, ?_⟩) (by assumption) ?_
  rotate_left 1
  · intro W' hSw
    go_simp
    try with_reducible rfl
  try simp only [Act.put, List.setIfInBounds_toArray, List.set_cons_zero, List.set_cons_succ]
  refine wpAnyH_ready (rs := [8]) (by kernel_rfl) (by simp) ?_
  refine AllReadyH.cons (o := ⟨_, _, _, _, _, _⟩) rfl (fun K' hK => ?_) AllReadyH.nil
  go_simp
  refine hwan.mono ?_
  rintro e V4 ⟨wa, wc, rfl, hO4⟩
  dsimp only
  have hbm4 : blk V4 bm = some Ce := (hO4.2.1.blk (blk_lt hbm)).trans hbm
  have HX4 : Hid (W.Extends V4) := (extends_drewN HXV.out 1).trans hO4.2.1
  clear hO4
  refine hK.out _ _ hbm4 (fun hHeld => ?_)
  clear hK K'
  try simp only [Act.put, List.setIfInBounds_toArray, List.set_cons_zero, List.set_cons_succ]
  refine wpAnyH_take (i := 9) (oi := ⟨_, _, _, _, _, _⟩) (v := ?_) rfl (by kernel_rfl) (by kernel_rfl) (by kernel_rfl) (fun _ _ _ h => h) (Or.inl ⟨by rfl, ?_⟩) (by assumption) ?_
  rotate_left 1
  · intro W' hSw
    go_simp
    try with_reducible rfl
  try simp only [Act.put, List.setIfInBounds_toArray, List.set_cons_zero, List.set_cons_succ]
  refine wpAnyH_take (i := 10) (oi := ⟨_, _, _, _, _, _⟩) (v := ?_) rfl (by kernel_rfl) (by kernel_rfl) (by kernel_rfl) (fun _ _ _ h => h) (Or.inl ⟨by rfl, ?_⟩) (by assumption) ?_
  rotate_left 1
  · intro W' hSw
    go_simp
    try with_reducible rfl
  try simp only [Act.put, List.setIfInBounds_toArray, List.set_cons_zero, List.set_cons_succ]
  refine wpAnyH_done (by kernel_rfl) ?_ _
  clear hHeld hwan
  by_cases hw : 256 < wl
  · have hw1 : (256 : Int) < (wl : Int) := by omega
    have hrf := refusal_any V4 16 kd (by decide) hkd
    go_wp2_with fail
    refine hrf.mono ?_
    rintro e V9 ⟨a9, n9, c9, rfl, ho9⟩
    dsimp only
    have HP : Hid (Q (.returned (.slice a9 n9 c9)) V9) := by
      show Q _ _
      rw [HQ.out]
      refine up_of HM.out ⟨row_base ho9.1 HX4.out.size, HX4.out.trans ho9.2.1, ho9.2.2⟩ (.inr ⟨HCN.out, .inl ⟨by rw [← HWL.out]; exact hw, rfl, rfl⟩⟩)
    clear ho9 hrf
    go_wp2_with fail
    try go_ret
    exact HP.out
  have hw1 : ¬ (256 : Int) < (wl : Int) := by omega
  have hcheck := ckL_none HCN.out
  have haf := after_any (lab O W.heap.size .no) (lab_8 H8.out _) V4 fa fn fc m.F (by rw [HFN.out]; exact (HM.out.fc HL.out).sub (core_grow HX4.out)) hN64 (fun M hM => Nat.le_trans (HI.out.cap M hM) (by decide)) HI.out.r4 ia iN ic L (HIT.out.sub (core_grow HX4.out)) (by omega) (fun it hit => by
    have h9 := hcheck it hit
    have h1 := H4.out it hit
    refine ⟨h1.1, h1.2.1, ?_⟩
    unfold cuF at h9
    by_cases hc : m.p.preds.length ≤ it.2.1.toNat
    · rw [if_pos hc] at h9; cases h9
    · have := HN.out
      omega)
  obtain ⟨cd, ecd⟩ : ∃ cd, cd = (aftF m.F 0 L).1 := ⟨_, rfl⟩
  obtain ⟨ix, eix⟩ : ∃ ix, ix = (aftF m.F 0 L).2.1 := ⟨_, rfl⟩
  obtain ⟨F', eF'⟩ : ∃ F', F' = (aftF m.F 0 L).2.2 := ⟨_, rfl⟩
  unfold AfPost at haf
  rw [← ecd, ← eix, ← eF'] at haf
  have HCD := hid_of ecd
  have HIX := hid_of eix
  have HF' := hid_of eF'
  have hbm4 : blk V4 bm = some Ce := (HX4.out.blk (blk_lt HM.out.cell)).trans HM.out.cell
  clear hcheck ecd eix eF'
  go_wp2_with fail
  refine haf.mono ?_
  rintro e V5 ⟨a5, m5, c5, rfl, hx5, hz5⟩
  dsimp only
  have HX5 : Hid (W.Extends V5) := HX4.out.trans hx5
  have HX45 := hid_of hx5
  have HZ5 := hid_of hz5
  clear haf hx5 hz5 hbm4
  by_cases hc0 : cd = 0
  rotate_left 1
  · obtain ⟨cn, jn, e1, e2, e3, e4⟩ := aftF_code L m.F 0 (by rw [← HCD.out]; exact hc0)
    rw [← HCD.out] at e1
    rw [← HIX.out] at e2
    have hj255 : jn ≤ 255 := by have := HLN.out; omega
    have HCN2 : Hid (cd = (cn : Int) ∧ ix = (jn : Int)) := ⟨e1, e2⟩
    have hb1 : (cd == 0) = false := by simp [hc0]
    have hb2 : (cd != 0) = true := by simp [hc0]
    have hrf := zrefusalAt_any V5 cn kd jn e3 hkd hj255
    rw [← e1, ← e2] at hrf
    clear e1 e2 e3 e4
    go_wp2_with fail
    refine hrf.mono ?_
    rintro e V9 ⟨a9, n9, c9, rfl, ho9⟩
    dsimp only
    have HP : Hid (Q (.returned (.slice a9 n9 c9)) V9) := by
      show Q _ _
      rw [HQ.out]
      refine up_of HM.out ⟨row_base ho9.1 HX5.out.size, HX5.out.trans ho9.2.1, ho9.2.2⟩ (.inr ⟨HCN.out, .inr ⟨by rw [← HWL.out]; omega, .inl ⟨by rw [← HCD.out]; exact hc0, ?_, rfl⟩⟩⟩)
      rw [← HCD.out, ← HIX.out, HCN2.out.1, HCN2.out.2, Int.toNat_natCast, Int.toNat_natCast]
    clear ho9 hrf
    go_wp2_with fail
    try go_ret
    exact HP.out
  have hz := HZ5.out hc0
  obtain ⟨bo, O5, ea5, em5, ec5, hF'l, hR5⟩ := hz
  rw [ea5, em5, ec5]
  have hC0 : (aftF m.F 0 L).1 = 0 := by rw [← HCD.out]; exact hc0
  obtain ⟨z1, z2, z3⟩ := aftF_bd L m.F 0 512 HI.out.cap HI.out.r4 (fun it hit => (H4.out it hit).1) hC0
  rw [← HF'.out] at z1 z2 z3
  have hE : PfE V5 bm 2 m.p (some ⟨bo, 0, none⟩) fn F' := ⟨(HM.out.at.po HL.out).sub (Sub.ext HX5.out), by have h9 := hR5.facts; rw [hF'l] at h9; exact h9, by rw [hF'l]; exact HN.out, by rw [hF'l]; exact hN64, Nat.le_trans HI.out.pg.g.pok.nR (by decide), by have := HI.out.pg.g.pok.st.2; omega, fun r hr => by rw [hF'l, HN.out]; exact HI.out.pg.g.fit hr, Nat.le_trans HI.out.pg.g.pok.nP (by decide), fun M hM => by have := z2 M hM; have := HLN.out; omega, z3, by
    have h9 := after_con (pool := m.p.pool) hC0
    rw [← HF'.out, ← HWL.out] at h9
    omega⟩
  have hpf := perfectN_any V5 bm 2 m.p (some ⟨bo, 0, none⟩) fn fn F' hE
  have HR5c := hid_of (relP_const hR5)
  have HFL := hid_of hF'l
  have HC0 := hid_of hC0
  have hbm5 : blk V5 bm = some Ce := (HX5.out.blk (blk_lt HM.out.cell)).trans HM.out.cell
  clear hR5 hE z1 z2 z3 hC0 HZ5 hF'l HCD ea5 em5 ec5
  subst hc0
  go_wp2_with fail
  refine hpf.mono ?_
  rintro e V6 ⟨bp, ta, tn, tc, F1, T1, rfl, hPf, hF1l, hx6, hFA, -, -, -, -⟩
  dsimp only
  rw [HFL.out] at hFA ⊢
  have hov := overN_any V6 (some ⟨bp, 0, none⟩) fn fn (by omega) F1 hFA
  obtain ⟨ov, eov⟩ : ∃ ov, ov = overN F1 := ⟨_, rfl⟩
  rw [← eov] at hov
  have HOV := hid_of eov
  have HX6 : Hid (W.Extends V6) := HX5.out.trans hx6
  have HX56 := hid_of hx6
  have HPF := hid_of hPf
  clear hpf hPf hF1l hx6 hFA eov hbm5
  go_wp2_with fail
  refine hov.mono ?_
  rintro e V7 ⟨rfl, e7⟩
  subst e7
  dsimp only
  clear hov
  cases ov with
  | true =>
    have hrf := refusal_any V7 16 kd (by decide) hkd
    go_wp2_with fail
    refine hrf.mono ?_
    rintro e V9 ⟨a9, n9, c9, rfl, ho9⟩
    dsimp only
    have HP : Hid (Q (.returned (.slice a9 n9 c9)) V9) := by
      show Q _ _
      rw [HQ.out]
      refine up_of HM.out ⟨row_base ho9.1 HX6.out.size, HX6.out.trans ho9.2.1, ho9.2.2⟩ (.inr ⟨HCN.out, .inr ⟨by rw [← HWL.out]; omega, .inr ⟨HC0.out, F1, T1, by rw [← HF'.out]; exact HPF.out, .inl ⟨HOV.out.symm, rfl, rfl⟩⟩⟩⟩)
    clear ho9 hrf
    go_wp2_with fail
    try go_ret
    exact HP.out
  | false =>
    have hbm7 : blk V7 bm = some Ce := (HX6.out.blk (blk_lt HM.out.cell)).trans HM.out.cell
    have hfm7 : free V7 bm = true := (free_of_heap (HX6.out.block bm (blk_lt HM.out.cell))).trans HM.out.fre
    have hrf := refusal_any (put V7 bm (splice Ce 6 [.slice (some ⟨bo, 0, none⟩) fn fn])) 0 kd (by decide) hkd
    have k7 : 6 + 1 ≤ Ce.length := by omega
    go_wp2_with fail
    refine hrf.mono ?_
    rintro e V9 ⟨a9, n9, c9, rfl, ho9⟩
    dsimp only
    have HP : Hid (Q (.returned (.slice a9 n9 c9)) V9) := by
      show Q _ _
      rw [HQ.out]
      have hup := up_put (V4 := V4) (V5 := V7) (V := V9) HM.out HL.out HX4.out (HX45.out.trans HX56.out) (bo := bo) (fn := fn) (F' := F') (by
        have h9 := HR5c.out
        rw [HFL.out] at h9
        refine h9.sub (Sub.cores fun b C hb ho => ⟨(HX56.out.blk (blk_lt hb)).trans hb, ho⟩)) HFL.out ho9.2.1
      refine ⟨_, a9, n9, c9, _, _, _, _, rfl, hup.1, hup.2, row_base ho9.1 (by rw [size_put]; exact HX6.out.size), ho9.2.2, .inr ⟨HCN.out, .inr ⟨by rw [← HWL.out]; omega, .inr ⟨HC0.out, F1, T1, by rw [← HF'.out]; exact HPF.out, .inr ⟨HOV.out.symm, rfl, ?_⟩⟩⟩⟩⟩
      rw [← HF'.out]
    clear ho9 hrf
    go_wp2_with fail
    try go_ret
    exact HP.out
end Go.Proofs.Qxb6500787aGreat
