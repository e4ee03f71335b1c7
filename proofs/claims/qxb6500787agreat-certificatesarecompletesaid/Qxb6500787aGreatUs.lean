
import Derived.Test.Qxb6500787aGreatUr
import Derived.StillTailTactics
import Derived.Deep.QuietTactic
import Derived.BigQuiet
import Derived.Deep.RegionHeld
import Derived.Deep.CutRange
import Derived.Laws.ResultCell
import Derived.Laws.Rows
import Derived.DeepKeys
import Derived.DataBytes
import Derived.Laws.StructEq
import Derived.Laws.AppendOwn
import Derived.Laws.MakeOwn
import Derived.Lib.AppendStr
set_option linter.unusedSimpArgs false
set_option linter.unusedVariables false
namespace Go.Proofs.Qxb6500787aGreat
open Go.RowKit Go.Blk
attribute [local go_sem ↓] execOp_load execOp_store execOp_alloc
attribute [local go_sem] Tryz.ld26 Tryz.st26 Tryz.ld27 Tryz.st27 Tryz.ld28 Tryz.st28 Tryz.ld3 Tryz.st3 Tryz.ld29 Tryz.st29 Tryz.ld44 Tryz.st44 Tryz.ld4 Tryz.st4 Tryz.ld50 Tryz.st50 Tryz.ld32 Tryz.st32 Tryz.ld49 Tryz.st49 Tryz.ld68 Tryz.st68 Tryz.ld9 Tryz.st9 Tryz.ld40 Tryz.st40 Tryz.ld138 Tryz.st138 Tryz.ld139 Tryz.st139 Tryz.ld146 Tryz.st146 Tryz.ld183 Tryz.st183 Tryz.ld184 Tryz.st184 Tryz.ld192 Tryz.st192 Tryz.ld195 Tryz.st195 Tryz.ld217 Tryz.st217 Tryz.ld159 Tryz.st159 Tryz.ld142 Tryz.st142 Tryz.ld2 Tryz.st2 Tryz.ld5 Tryz.st5 Tryz.ld12 Tryz.st12 Tryz.ld21 Tryz.st21 Tryz.ld22 Tryz.st22 Tryz.ld24 Tryz.st24 Tryz.ld58 Tryz.st58 Tryz.ld97 Tryz.st97 Tryz.ld101 Tryz.st101 Tryz.ld116 Tryz.st116 Tryz.ld121 Tryz.st121 Tryz.ld135 Tryz.st135 Tryz.ld136 Tryz.st136 Tryz.ld143 Tryz.st143 Tryz.ld148 Tryz.st148 Tryz.ld154 Tryz.st154 Tryz.ld173 Tryz.st173 Tryz.ld187 Tryz.st187 Tryz.ld222 Tryz.st222 Tryz.ld241 Tryz.st241 Tryz.ld248 Tryz.st248 Tryz.ld268 Tryz.st268 Tryz.ld272 Tryz.st272 Tryz.ld153 Tryz.st153 Tryz.ld255 Tryz.st255 Tryz.ld256 Tryz.st256 Tryz.ld129 Tryz.st129 Tryz.ld152 Tryz.st152 Tryz.ld31 Tryz.st31 Tryz.ld46 Tryz.st46 Tryz.ld52 Tryz.st52 Tryz.ld54 Tryz.st54 Tryz.ld60 Tryz.st60 Tryz.ld70 Tryz.st70 Tryz.ld74 Tryz.st74 Tryz.ld93 Tryz.st93 Tryz.ld141 Tryz.st141 Tryz.ld151 Tryz.st151 Tryz.ld170 Tryz.st170 Tryz.ld186 Tryz.st186 Tryz.ld189 Tryz.st189 Tryz.ld194 Tryz.st194 Tryz.ld197 Tryz.st197 Tryz.ld219 Tryz.st219 Tryz.ld224 Tryz.st224 Tryz.ld230 Tryz.st230 Tryz.ld235 Tryz.st235 Tryz.ld243 Tryz.st243 Tryz.ld247 Tryz.st247 Tryz.ld252 Tryz.st252 Tryz.ld258 Tryz.st258 Tryz.al153 Tryz.al255 Tryz.al256 Tryz.al129 Tryz.al152 Tryz.al31 Tryz.al46 Tryz.al52 Tryz.al54 Tryz.al60 Tryz.al70 Tryz.al74 Tryz.al93 Tryz.al141 Tryz.al151 Tryz.al170 Tryz.al186 Tryz.al189 Tryz.al194 Tryz.al197 Tryz.al219 Tryz.al224 Tryz.al230 Tryz.al235 Tryz.al243 Tryz.al247 Tryz.al252 Tryz.al258
attribute [local go_sem] Request.length_enc Request.ok_enc Request.all_get Request.all_set Request.kind_get Request.kind_set Request.blob_get Request.blob_set Request.items_get Request.items_set Request.pred_get Request.pred_set Request.slots_get Request.slots_set Trace.length_enc Trace.ok_enc Trace.all_get Trace.all_set Trace.op_get Trace.op_set Trace.calls_get Trace.calls_set Item.length_enc Item.ok_enc Item.all_get Item.all_set Item.del_get Item.del_set Item.pred_get Item.pred_set Item.args_get Item.args_set Reply.length_enc Reply.ok_enc Reply.all_get Reply.all_set Reply.code_get Reply.code_set Reply.kind_get Reply.kind_set Reply.index_get Reply.index_set Reply.yes_get Reply.yes_set Reply.preds_get Reply.preds_set Reply.rules_get Reply.rules_set Reply.arity_get Reply.arity_set Reply.rows_get Reply.rows_set Reply.fact_get Reply.fact_set Reply.fact_del_get Reply.fact_del_set Reply.fact_pred_get Reply.fact_pred_set Reply.fact_args_get Reply.fact_args_set GEntry.length_enc GEntry.ok_enc GEntry.all_get GEntry.all_set GEntry.seq_get GEntry.seq_set GEntry.kind_get GEntry.kind_set GEntry.code_get GEntry.code_set GOp.length_enc GOp.ok_enc GOp.all_get GOp.all_set GOp.kind_get GOp.kind_set GOp.raw_get GOp.raw_set Reader.length_enc Reader.ok_enc Reader.all_get Reader.all_set Reader.buf_get Reader.buf_set Reader.at__get Reader.at__set Slot.length_enc Slot.ok_enc Slot.all_get Slot.all_set Slot.bound_get Slot.bound_set Slot.name_get Slot.name_set Session.length_enc Session.ok_enc Session.all_get Session.all_set Session.svc_get Session.svc_set Session.buf_get Session.buf_set Session.closed_get Session.closed_set GProgram.length_enc GProgram.ok_enc GProgram.all_get GProgram.all_set GProgram.pool_get GProgram.pool_set GProgram.preds_get GProgram.preds_set GProgram.rules_get GProgram.rules_set GProgram.strata_get GProgram.strata_set PredInfo.length_enc PredInfo.ok_enc PredInfo.all_get PredInfo.all_set PredInfo.arity_get PredInfo.arity_set PredInfo.base_get PredInfo.base_set PredInfo.stratum_get PredInfo.stratum_set Change.length_enc Change.ok_enc Change.all_get Change.all_set Change.del_get Change.del_set Change.pred_get Change.pred_set Change.t_get Change.t_set Store.length_enc Store.ok_enc Store.all_get Store.all_set Store.names_get Store.names_set Store.arity_get Store.arity_set Store.rows_get Store.rows_set Src.length_enc Src.ok_enc Src.all_get Src.all_set Src.b_get Src.b_set Src.at__get Src.at__set Atom.length_enc Atom.ok_enc Atom.all_get Atom.all_set Atom.pred_get Atom.pred_set Atom.args_get Atom.args_set GRule.length_enc GRule.ok_enc GRule.all_get GRule.all_set GRule.head_get GRule.head_set GRule.body_get GRule.body_set GRule.head_pred_get GRule.head_pred_set GRule.head_args_get GRule.head_args_set Cert.length_enc Cert.ok_enc Cert.all_get Cert.all_set Cert.names_get Cert.names_set Cert.nodes_get Cert.nodes_set Fact.length_enc Fact.ok_enc Fact.all_get Fact.all_set Fact.pred_get Fact.pred_set Fact.t_get Fact.t_set Literal.length_enc Literal.ok_enc Literal.all_get Literal.all_set Literal.neg_get Literal.neg_set Literal.atom_get Literal.atom_set Literal.atom_pred_get Literal.atom_pred_set Literal.atom_args_get Literal.atom_args_set Engine.length_enc Engine.ok_enc Engine.all_get Engine.all_set Engine.prog_get Engine.prog_set Engine.st_get Engine.st_set SrcCertm.length_enc SrcCertm.ok_enc SrcCertm.all_get SrcCertm.all_set SrcCertm.b_get SrcCertm.b_set SrcCertm.at__get SrcCertm.at__set GNode.length_enc GNode.ok_enc GNode.all_get GNode.all_set GNode.rule_get GNode.rule_set GNode.pred_get GNode.pred_set GNode.vals_get GNode.vals_set GNode.refs_get GNode.refs_set Term.length_enc Term.ok_enc Term.all_get Term.all_set Term.var_get Term.var_set Term.n_get Term.n_set Env.length_enc Env.ok_enc Env.all_get Env.all_set Env.val_get Env.val_set Env.set_get Env.set_set
attribute [local go_sem] size_put size_ext blk_put free_put blk_alloc free_alloc blk_drew free_drew blk_ext free_ext lookOr_some putOr_some segAt_some cellAt_some storeIn_some put_put put_alloc_new length_arr ok_arr_u8 ok_arr_u32 ok_arr_u64 ok_arr_i64 ok_arr_sl cellsV_agg cellsV_int cellsV_bool cellsV_string cellsV_pointer cellsV_slice cellsV_sl ok_int ok_bool ok_string ok_pointer ok_slice ok_sl toList_arr seg_arr set_arr nth_splice nth_splice0 seg_splice seg_splice0 splice_splice splice_splice0 length_splice_if
attribute [local go_sem ↓] execOp_box
attribute [local go_sem] box_run nth_arr_u8 put_arr_u8 blk_drewN free_drewN put_drewN blk_raw free_raw
theorem results_tct {fn : Func} {p u v : Tmp} {ty : TypeId} (h : fn.results = #[.tmp u, .cell p ty, .tmp v]) (tmps : Array Value) (P : Program) (w : World) :
    (results fn tmps).run P w =
      ((asAddr (tmps.getD p undef)).run P w).andThen fun a w₁ => ((loadVar ty a).run P w₁).andThen fun x w₂ => .ok (.tuple #[tmps.getD u undef, x, tmps.getD v undef]) w₂ := by
  simp only [results, h]
  simp [Sem.run_bind, Result.andThen]
theorem ret_tct {P : Program} {fn : Func} {R : Ending → World → Prop} {a : Act} {w : World} {p u u2 : Tmp} {ty : TypeId} {g : Nat} {C : List Value} {v v2 : Value} (h : fn.results = #[.tmp u, .cell p ty, .tmp u2]) (hp : a.tmps.getD p undef = .pointer (some ⟨g, 0, none⟩)) (hv : a.tmps.getD u undef = v) (hv2 : a.tmps.getD u2 undef = v2) (hb : blk w g = some C)
    (hr : ((P.underlying ty).map fun d => (match d with | .struct _ | .array _ _ => true | _ => false)) = some true) (hi : (P.info? ty).map (·.size) = some C.length) (hdf : a.defers = []) (hR : R (.returned (.tuple #[v, .agg C.toArray, v2])) w) : bodyPost P fn R .ret a w := by
  obtain ⟨t, fz, ht⟩ := blk_some hb
  obtain ⟨d, hu, hd⟩ : ∃ d, P.underlying ty = some d ∧ (match d with | .struct _ | .array _ _ => true | _ => false) = true := by
    cases hx : P.underlying ty with
    | none => simp [hx] at hr
    | some d => exact ⟨d, rfl, by simpa [hx] using hr⟩
  refine bodyPost_ret ?_ hdf hR
  rw [results_tct h, hp, hv, hv2]
  have hp' := run_loadVar_row (P := P) w g t ty C.toArray fz d ht hu (by cases d <;> simp_all) (by simpa using hi)
  simp [asAddr, hp', Result.andThen]
theorem build153z (w : World) : (buildOp 214 #[]).run Tryz.prog w = .ok (.value (.agg (arr i64v (Vector.replicate 4 (0 : Int))).toArray)) w := by kernel_rfl
def ck1I (V2 : World) (bp bst b7 b9 n : Nat) (p : PP) (N : List (List UInt8)) (R : List (List Tup)) (nms : List (List UInt8)) (nds : List CNode) (tot : Int × List Fact) (f : Nat → Value) (V : World) : Prop := f 0 = .pointer (some ⟨bp, 0, none⟩) ∧ f 1 = .pointer (some ⟨bst, 0, none⟩) ∧ f 7 = .pointer (some ⟨b7, 0, none⟩) ∧ f 9 = .pointer (some ⟨b9, 0, none⟩) ∧ ∃ (i : Nat) (a : Option Addr) (c : Nat), i ≤ n ∧ f 11 = .slice a i c ∧ f 12 = .int .i64 (i : Nat) ∧ Hid (∃ fs, OutG Fact.enc 5 272 V2 V a i c fs ∧ goK p N R nms (nds.drop i) i fs = tot)
attribute [local go_sem ↓] execOp_build execOp_bslice
attribute [local go_sem] build153z bslice222
set_option maxRecDepth 100000 in
theorem frame59k (f : Nat → Value) : frameN 59 f = #[f 0, f 1, f 2, f 3, f 4, f 5, f 6, f 7, f 8, f 9, f 10, f 11, f 12, f 13, f 14, f 15, f 16, f 17, f 18, f 19, f 20, f 21, f 22, f 23, f 24, f 25, f 26, f 27, f 28, f 29, f 30, f 31, f 32, f 33, f 34, f 35, f 36, f 37, f 38, f 39, f 40, f 41, f 42, f 43, f 44, f 45, f 46, f 47, f 48, f 49, f 50, f 51, f 52, f 53, f 54, f 55, f 56, f 57, f 58] := by kernel_rfl
set_option maxRecDepth 40000 in
set_option maxHeartbeats 8000000 in
theorem check_any {B : Nat} {O : Own} {W : World} {g bst : Nat} {N : List (List UInt8)} {A : List Int} {R : List (List Tup)} (hS : Sto B O W g bst N A R) (hN : N.length ≤ 256) {bp : Nat} {p : PP} (hp : ProgC W bp p) (hok : CkOk p R) (a : Option Addr) (n c : Nat) (hn : n ≤ 65536) (hnc : n ≤ c) (hc : c ≤ 9223372036854775807) (xs : List UInt8) (hX : Bs W a n xs) : Calls Tryz.prog 110 #[.pointer (some ⟨bp, 0, none⟩), .pointer (some ⟨bst, 0, none⟩), .slice a n c] W fun e V => e = .returned (.tuple #[.int .i64 (chkF p N R xs).2.pred, .agg (arr i64v (chkF p N R xs).2.t).toArray, .int .i64 (chkF p N R xs).1]) ∧ W.Extends V := by
  obtain ⟨Q, hQ⟩ : ∃ Q : Ending → World → Prop, Q = fun e V => e = .returned (.tuple #[.int .i64 (chkF p N R xs).2.pred, .agg (arr i64v (chkF p N R xs).2.t).toArray, .int .i64 (chkF p N R xs).1]) ∧ W.Extends V := ⟨_, rfl⟩
  rw [← hQ]
  have HQ := hid_of hQ
  have HS := hid_of hS
  have HPC := hid_of hp
  have HOK := hid_of hok
  have HX := hid_of hX
  clear hQ hS hp hok hX
  go_enter Tryz.func110, Tryz.ntmps110
  go_upto_region 1 with fail
  refine wp_world (fun V => W.Extends V ∧ blk V W.heap.size = some (arr i64v (Vector.replicate 4 (0 : Int))) ∧ free V W.heap.size = true) ⟨extends_alloc (ext_Ext (Ext.refl _)) _, by rw [blk_alloc, if_pos rfl], by rw [free_alloc, if_pos rfl]⟩ ?_
  rintro V1 ⟨hx1, hb7, hf7⟩
  obtain ⟨b7, e7⟩ : ∃ b7, b7 = W.heap.size := ⟨_, rfl⟩
  rw [← e7] at hb7 hf7 ⊢
  have hw7 : W.heap.size ≤ b7 := by omega
  clear e7
  have HX1 := hid_of hx1
  have HB7 : Hid (∀ V, V1.Extends V → blk V b7 = some (arr i64v (Vector.replicate 4 (0 : Int))) ∧ free V b7 = true) := fun V hx => ⟨(hx.blk (blk_lt hb7)).trans hb7, (free_of_heap (hx.block b7 (blk_lt hb7))).trans hf7⟩
  have HRET : Hid (∀ (V : World) (cd : Int) (f : Fact), V1.Extends V → chkF p N R xs = (cd, f) → Q (.returned (.tuple #[.int .i64 f.pred, .agg (arr i64v f.t).toArray, .int .i64 cd])) (put V b7 (arr i64v f.t))) := by
    intro V cd f h1 h2
    rw [HQ.out, h2]
    exact ⟨rfl, extends_put (HX1.out.trans h1) hw7 _⟩
  have HZ : Hid (∀ (V : World) (cd : Int), V1.Extends V → chkF p N R xs = (cd, Fact.zero) → Q (.returned (.tuple #[.int .i64 0, .agg (arr i64v (Vector.replicate 4 (0 : Int))).toArray, .int .i64 cd])) (put V b7 (arr i64v (Vector.replicate 4 (0 : Int))))) := fun V cd h1 h2 => HRET.out V cd Fact.zero h1 h2
  have hcall := cdec_any V1 a n c hn hnc hc xs (HX.out.grow hx1)
  clear hx1 hb7 hf7
  go_wp2_with fail
  refine hcall.mono ?_
  rintro e V2 ⟨x, rfl, hx2, hC2⟩
  dsimp only
  obtain ⟨cd, hcd⟩ : ∃ cd, cd = (decC xs).1 := ⟨_, rfl⟩
  rw [← hcd] at hC2 ⊢
  have HCD := hid_of hcd
  have HX2 := hid_of hx2
  have HC2 := hid_of hC2
  have xl : x.enc.length = 2 := Cert.length_enc x
  have xo : okCells 2 x.enc = true := Cert.ok_enc x
  have xa : seg x.enc 0 2 = x.enc := Cert.all_get x
  have xn := Cert.nodes_get x
  have xl2 : 0 + 2 ≤ x.enc.length := by omega
  have xl1 : 1 < x.enc.length := by omega
  clear hcall hcd hx2 hC2 xl
  go_upto_region 2 with fail
  refine wp_world (fun V' => V2.Extends V' ∧ blk V' V2.heap.size = some x.enc) ⟨?_, ?_⟩ ?_
  · first | exact extends_alloc (ext_Ext (Ext.refl _)) _ | exact extends_put (extends_alloc (ext_Ext (Ext.refl _)) _) (Nat.le_refl _) _
  · first | (rw [blk_alloc, if_pos rfl]) | (rw [blk_put, if_pos rfl, blk_alloc, if_pos rfl]; rfl)
  rintro V3 ⟨hx3, hb9⟩
  obtain ⟨b9, e9⟩ : ∃ b9, b9 = V2.heap.size := ⟨_, rfl⟩
  rw [← e9] at hb9 ⊢
  clear e9
  have HX3 : Hid (V1.Extends V3) := HX2.out.trans hx3
  have HB9 := hid_of hb9
  obtain ⟨hb7, hf7⟩ := HB7.out V3 HX3.out
  by_cases hc0 : cd = 0
  rotate_left 1
  · have HP := hid_of (HZ.out V3 cd HX3.out (by unfold chkF; rw [if_pos (by rw [← HCD.out]; exact hc0), ← HCD.out]))
    have hcb : (cd != 0) = true := by simp [hc0]
    clear hc0 hx3
    go_wp2_with fail
    refine ret_tct (C := arr i64v (Vector.replicate 4 (0 : Int))) rfl rfl rfl rfl ?_ (by kernel_rfl) (by rw [length_arr]; kernel_rfl) rfl HP.out
    first | (rw [blk_put, if_pos rfl, hb7]; rfl) | (simp only [blk_put, if_true, hb7, Option.map_some]; try rfl)
  have hC3 := ((HC2.out hc0).sub (newc_sub _ _)).sub (Sub.ext hx3)
  have hdz : (decC xs).1 = 0 := by rw [← HCD.out]; exact hc0
  subst hc0
  obtain ⟨qq, hqq⟩ : ∃ qq, qq = (decC xs).2 := ⟨_, rfl⟩
  rw [← hqq] at hC3
  have hdk := decC_ok (xs := xs) (q := qq) (by rw [hqq, ← hdz])
  have HDK := hid_of hdk
  have HC3 := hid_of hC3
  obtain ⟨tot, htot⟩ : ∃ tot, tot = goK p N R qq.1 qq.2 0 [] := ⟨_, rfl⟩
  have HCH : Hid (chkF p N R xs = if tot.1 ≠ 0 then (tot.1, Fact.zero) else (0, lastF tot.2)) := by
    show _ = _
    unfold chkF
    rw [if_neg (fun e => e hdz), htot, hqq]
  obtain ⟨nl, hnl⟩ : ∃ nl, nl = qq.2.length := ⟨_, rfl⟩
  have HNL := hid_of hnl
  have hnl1 : 1 ≤ nl := by rw [hnl]; exact hdk.2.1
  have hnl2 : nl ≤ 256 := by rw [hnl]; exact hdk.2.2.1
  have xn' : nth x.enc 1 = some (.slice x.nodes.a nl x.nodes.cap) := by
    obtain ⟨Gs, g1, g2⟩ := hC3.2
    rw [xn, hnl, ← g2.1, g1.1]; rfl
  have HI0 : Hid (∃ fs, OutG Fact.enc 5 272 V3 V3 none 0 0 fs ∧ goK p N R qq.1 (qq.2.drop 0) 0 fs = tot) := ⟨[], OutG.nil (ext_Ext (Ext.refl _)), htot.symm⟩
  clear hx3 hC3 hdz hqq hdk htot hnl xn HC2 HCD
  go_upto_region 6 with fail
  refine wp_loop_f 59 (ck1I V3 bp bst b7 b9 nl p N R qq.1 qq.2 tot) (fun f _ => nl - (intOf (f 12)).toNat) rfl ⟨rfl, rfl, rfl, rfl, 0, none, 0, by omega, rfl, rfl, HI0⟩ ?_
  clear HI0 hb9 hb7 hf7
  intro F V hrel
  obtain ⟨f0, f1, f7, f9, i, da, dc, hi, f11, f12, HI⟩ := hrel
  have H12 := hid_of f12
  rw [frame59k, f0, f1, f7, f9, f11, f12]
  clear f0 f1 f7 f9 f11 f12
  obtain ⟨fs, hO, hgo⟩ := HI.out
  have HO := hid_of hO
  have hx13 := HX3.out.trans hO.2.1
  have HX13 := hid_of hx13
  obtain ⟨hb7, hf7⟩ := HB7.out V hx13
  have hb9 : blk V b9 = some x.enc := (hO.2.1.blk (blk_lt HB9.out)).trans HB9.out
  by_cases hin : i < nl
  · have hin' : (i : Int) < (nl : Int) := by omega
    obtain ⟨d, hd⟩ : ∃ d, qq.2[i]? = some d := ⟨_, List.getElem?_eq_getElem (by rw [← HNL.out]; exact hin)⟩
    have hxW := HX1.out.trans hx13
    have hcall := node_any (HS.out.ext hxW) hN (HPC.out.ext hxW) HOK.out x qq (HC3.out.sub (Sub.ext hO.2.1)) (by have := HDK.out.1; omega) HDK.out.2.2.1 i d hd (HDK.out.2.2.2 d (List.mem_of_getElem? hd)) da i dc fs (hO.rw el222) rfl
    have hdr : qq.2.drop i = d :: qq.2.drop (i + 1) := by
      obtain ⟨hlt, he⟩ := List.getElem?_eq_some_iff.1 hd
      rw [← he]; exact List.drop_eq_getElem_cons hlt
    rw [hdr] at hgo
    obtain ⟨nf, hnf⟩ : ∃ nf, nf = ndF p N R qq.1 i d fs := ⟨_, rfl⟩
    have HGO : Hid ((if nf.1 ≠ 0 then (nf.1, []) else goK p N R qq.1 (qq.2.drop (i + 1)) (i + 1) (fs ++ [nf.2])) = tot) := by rw [hnf]; exact hid_of hgo
    rw [← hnf] at hcall
    clear HI hO hgo hd hdr hnf hx13 hxW hb7 hf7
    go_wp2_with fail
    refine hcall.mono ?_
    rintro e V4 ⟨rfl, hx4⟩
    dsimp only
    obtain ⟨ce, hce⟩ : ∃ ce, ce = nf.1 := ⟨_, rfl⟩
    obtain ⟨nt, hnt⟩ : ∃ nt, nt = nf.2 := ⟨_, rfl⟩
    rw [← hce, ← hnt] at HGO ⊢
    have wo : okCells 5 nt.enc = true := Fact.ok_enc _
    have wa : seg nt.enc 0 5 = nt.enc := Fact.all_get _
    have wl : nt.enc.length = 5 := Fact.length_enc _
    have wl5 : 0 + 5 ≤ nt.enc.length := by omega
    have HX4 := hid_of hx4
    clear hcall hce hnt hx4 hb9 wl
    go_upto_region 9 with fail
    refine wp_world (fun V' => V.Extends V' ∧ blk V' V4.heap.size = some nt.enc) ⟨?_, ?_⟩ ?_
    · first | exact extends_alloc HX4.out _ | exact extends_put (extends_alloc HX4.out _) HX4.out.size _
    · first | (rw [blk_alloc, if_pos rfl]) | (rw [blk_put, if_pos rfl, blk_alloc, if_pos rfl]; rfl)
    rintro V5 ⟨hx5, hb13⟩
    obtain ⟨b13, e13⟩ : ∃ b13, b13 = V4.heap.size := ⟨_, rfl⟩
    rw [← e13] at hb13 ⊢
    clear e13
    obtain ⟨hb7, hf7⟩ := HB7.out V5 (HX13.out.trans hx5)
    by_cases hc0 : ce = 0
    rotate_left 1
    · have HP := hid_of (HZ.out V5 ce (HX13.out.trans hx5) (by
        have h9 := HGO.out
        rw [if_pos hc0] at h9
        rw [HCH.out, ← h9]
        exact if_pos hc0))
      have hcb : (ce != 0) = true := by simp [hc0]
      clear hc0 hx5
      go_wp2_with fail
      refine ret_tct (C := arr i64v (Vector.replicate 4 (0 : Int))) rfl rfl rfl rfl ?_ (by kernel_rfl) (by rw [length_arr]; kernel_rfl) rfl HP.out
      first | (rw [blk_put, if_pos rfl, hb7]; rfl) | (simp only [blk_put, if_true, hb7, Option.map_some]; try rfl)
    subst hc0
    obtain ⟨a', c', V9, hrun, ho', -⟩ := (HO.out.ext hx5).app el222 nt (by have := HO.out.2.2; omega) nt.enc.toArray rfl 1
    have HI' : Hid (∃ fs, OutG Fact.enc 5 272 V3 V9 a' (i + 1) c' fs ∧ goK p N R qq.1 (qq.2.drop (i + 1)) (i + 1) fs = tot) := ⟨_, ho', by
      have h9 := HGO.out
      rw [if_neg (fun e => e rfl)] at h9
      exact h9⟩
    clear ho' hx5 HGO hb7 hf7 HO HX4
    go_wp2_with (at_builtin; refine wpList_append_run rfl _ _ 270 rfl _ _ _ _ rfl rfl hrun ?_)
    refine ⟨rfl, rfl, ⟨rfl, rfl, rfl, rfl, i + 1, _, _, by omega, rfl, ?_, HI'⟩, ?_⟩
    · show Value.int .i64 _ = _
      go_num
    · show nl - (intOf (Value.int .i64 _)).toNat < nl - (intOf (F 12)).toNat
      rw [H12.out]
      simp [intOf]; omega
  have hin' : ¬ (i : Int) < (nl : Int) := by omega
  obtain rfl : i = nl := by omega
  have e1 : tot = (0, fs) := by
    rw [← hgo, List.drop_of_length_le (by rw [← HNL.out]; omega)]; rfl
  have hfl : fs.length = i := hO.2.2.symm
  obtain ⟨lf, hlf⟩ : ∃ lf, fs[i - 1]? = some lf := ⟨_, List.getElem?_eq_getElem (by omega)⟩
  have HCH2 : Hid (chkF p N R xs = (0, lf)) := by
    show _ = _
    have e2 : lastF fs = lf := by unfold lastF; rw [hfl, List.getD_eq_getElem?_getD, hlf]; rfl
    rw [HCH.out, e1, ← e2]; rfl
  obtain ⟨bB, CB, w1, w2, w3, w4⟩ := (hO.rw el222).2 (i - 1) lf hlf
  have wle : (i - 1) * 5 + 5 ≤ CB.length := by
    have h5 : (i - 1 + 1) * 5 ≤ i * 5 := Nat.mul_le_mul_right _ (by omega)
    omega
  have iw : IntKind.i64.wrap ((i : Int) - 1) = ((i - 1 : Nat) : Int) := by rw [IntKind.wrap_i64]; omega
  obtain ⟨j, hj⟩ : ∃ j, j = i - 1 := ⟨_, rfl⟩
  rw [← hj] at w4 wle iw
  have j0 : (0 : Int) ≤ (j : Int) := by omega
  have j1 : (j : Int) < (i : Int) := by omega
  have j2 : ((j : Int)).toNat = j := by omega
  have ij : (i : Int) - 1 = (j : Int) := by omega
  have lo : okCells 5 lf.enc = true := Fact.ok_enc _
  have lp : nth lf.enc 0 = some (.int .i64 lf.pred) := Fact.pred_get _
  have lt : seg lf.enc 1 4 = arr i64v lf.t := Fact.t_get _
  have ll : lf.enc.length = 5 := Fact.length_enc _
  have ll0 : 0 < lf.enc.length := by omega
  have ll1 : 1 + 4 ≤ lf.enc.length := by omega
  have HP : Hid (∀ V', V1.Extends V' → Q (.returned (.tuple #[.int .i64 lf.pred, .agg (arr i64v lf.t).toArray, .int .i64 0])) (put V' b7 (arr i64v lf.t))) := fun V' h => HRET.out V' 0 lf h HCH2.out
  subst w1
  have n7 : ¬ b7 = V.heap.size := by have := blk_lt hb7; omega
  have n7' : ¬ V.heap.size = b7 := by omega
  clear HI hO hgo e1 hfl hlf w3 ll hj HCH2 HCH H12
  go_upto_region 13 with fail
  refine wp_world (fun V' => V.Extends V' ∧ blk V' V.heap.size = some lf.enc) ⟨?_, ?_⟩ ?_
  · first | exact extends_alloc (ext_Ext (Ext.refl _)) _ | exact extends_put (extends_alloc (ext_Ext (Ext.refl _)) _) (Nat.le_refl _) _
  · first | (rw [blk_alloc, if_pos rfl]) | (rw [blk_put, if_pos rfl, blk_alloc, if_pos rfl]; rfl)
  rintro V6 ⟨hx6, hb15⟩
  obtain ⟨b15, e15⟩ : ∃ b15, b15 = V.heap.size := ⟨_, rfl⟩
  rw [← e15] at hb15 n7 n7' ⊢
  obtain ⟨kb7, kf7⟩ := HB7.out V6 (HX13.out.trans hx6)
  have hSd : blk V6.drew b15 = some lf.enc := hb15
  have hSp : ∀ C, blk (put V6.drew b7 C) b15 = some lf.enc := fun C => by rw [blk_put, if_neg n7']; exact hb15
  have kb7d : blk V6.drew b7 = some (arr i64v (Vector.replicate 4 (0 : Int))) := kb7
  have kf7d : free V6.drew b7 = true := kf7
  have HX6 := hid_of (HX13.out.trans hx6)
  clear e15 hx6 hb7 hf7 hb9 kb7 kf7
  refine wp_region_held_drew (S := fun W' => blk W' b15 = some lf.enc) (by kernel_rfl) hSd (fun hHeld => ?_)
  refine wpAnyH_take (i := 0) (oi := ⟨_, _, _, _, _, _⟩) (v := ?_) rfl (by kernel_rfl) (by kernel_rfl) (by kernel_rfl) (fun _ _ _ h => h) (Or.inl ⟨by rfl, ?_⟩) (by assumption) ?_
  rotate_left 1
  · intro W' hSw
    go_simp
    try with_reducible rfl
  try simp only [Act.put, List.setIfInBounds_toArray, List.set_cons_zero, List.set_cons_succ]
  refine wpAnyH_take (i := 1) (oi := ⟨_, _, _, _, _, _⟩) (v := ?_) rfl (by kernel_rfl) (by kernel_rfl) (by kernel_rfl) (fun _ _ _ h => h) (Or.inl ⟨by rfl, ?_⟩) (by assumption) ?_
  rotate_left 1
  · intro W' hSw
    go_simp
    try with_reducible rfl
  try simp only [Act.put, List.setIfInBounds_toArray, List.set_cons_zero, List.set_cons_succ]
  refine wpAnyH_take (i := 2) (oi := ⟨_, _, _, _, _, _⟩) (v := ?_) rfl (by kernel_rfl) (by kernel_rfl) (by kernel_rfl) (fun _ _ _ h => h) (Or.inl ⟨by rfl, ?_⟩) (by assumption) ?_
  rotate_left 1
  · intro W' hSw
    go_simp
    try with_reducible rfl
  try simp only [Act.put, List.setIfInBounds_toArray, List.set_cons_zero, List.set_cons_succ]
  refine wpAnyH_take (i := 3) (oi := ⟨_, _, _, _, _, _⟩) (v := ?_) rfl (by kernel_rfl) (by kernel_rfl) (by kernel_rfl) (fun _ _ _ h => h) (Or.inl ⟨by rfl, ?_⟩) (by assumption) ?_
  rotate_left 1
  · intro W' hSw
    go_simp
    try with_reducible rfl
  try simp only [Act.put, List.setIfInBounds_toArray, List.set_cons_zero, List.set_cons_succ]
  refine wpAnyH_take (i := 4) (oi := ⟨_, _, _, _, _, _⟩) (v := ?_) rfl (by kernel_rfl) (by kernel_rfl) (by kernel_rfl) (fun _ _ _ h => h) (Or.inl ⟨by rfl, ?_⟩) (by assumption) ?_
  rotate_left 1
  · intro W' hSw
    go_simp
    try with_reducible rfl
  try simp only [Act.put, List.setIfInBounds_toArray, List.set_cons_zero, List.set_cons_succ]
  refine wpAnyH_ready (rs := [5]) (by kernel_rfl) (by simp) ?_
  refine AllReadyH.cons (o := ⟨_, _, _, _, _, _⟩) rfl (fun K' hK => ?_) AllReadyH.nil
  go_simp
  refine hK.out _ _ (hSp _) (fun hHeld => ?_)
  clear hK K'
  try simp only [Act.put, List.setIfInBounds_toArray, List.set_cons_zero, List.set_cons_succ]
  refine wpAnyH_take (i := 6) (oi := ⟨_, _, _, _, _, _⟩) (v := ?_) rfl (by kernel_rfl) (by kernel_rfl) (by kernel_rfl) (fun _ _ _ h => h) (Or.inl ⟨by rfl, ?_⟩) (by assumption) ?_
  rotate_left 1
  · intro W' hSw
    go_simp
    try with_reducible rfl
  try simp only [Act.put, List.setIfInBounds_toArray, List.set_cons_zero, List.set_cons_succ]
  refine wpAnyH_done (by kernel_rfl) ?_ _
  have hb7 := kb7d
  have HP2 := hid_of (HP.out V6.drew (extends_drew HX6.out))
  clear HP
  go_wp2_with fail
  refine ret_tct (C := arr i64v lf.t) rfl rfl rfl rfl ?_ (by kernel_rfl) (by rw [length_arr]; kernel_rfl) rfl HP2.out
  first | (rw [blk_put, if_pos rfl, hb7]; rfl) | (simp only [blk_put, if_true, hb7, Option.map_some]; try rfl)
end Go.Proofs.Qxb6500787aGreat
