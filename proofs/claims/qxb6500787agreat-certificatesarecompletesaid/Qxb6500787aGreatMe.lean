import Derived.Test.Qxb6500787aGreatMd

import Derived.StillTailTactics
import Derived.Deep.QuietTactic
import Derived.BigQuiet
import Derived.Deep.RegionHeld
import Derived.Deep.CutRange
import Derived.Laws.ResultCell
import Derived.Laws.Rows
import Derived.DeepKeys
import Derived.DataBytes
import Derived.Laws.StructEq
import Derived.Laws.AppendOwn
import Derived.Laws.MakeOwn
import Derived.Lib.AppendStr
set_option linter.unusedSimpArgs false
set_option linter.unusedVariables false
namespace Go.Proofs.Qxb6500787aGreat
open Go.RowKit Go.Blk
attribute [local go_sem ↓] execOp_load execOp_store execOp_alloc
attribute [local go_sem] Tryz.ld26 Tryz.st26 Tryz.ld27 Tryz.st27 Tryz.ld28 Tryz.st28 Tryz.ld3 Tryz.st3 Tryz.ld29 Tryz.st29 Tryz.ld44 Tryz.st44 Tryz.ld4 Tryz.st4 Tryz.ld50 Tryz.st50 Tryz.ld32 Tryz.st32 Tryz.ld49 Tryz.st49 Tryz.ld68 Tryz.st68 Tryz.ld9 Tryz.st9 Tryz.ld40 Tryz.st40 Tryz.ld138 Tryz.st138 Tryz.ld139 Tryz.st139 Tryz.ld146 Tryz.st146 Tryz.ld183 Tryz.st183 Tryz.ld184 Tryz.st184 Tryz.ld192 Tryz.st192 Tryz.ld195 Tryz.st195 Tryz.ld217 Tryz.st217 Tryz.ld159 Tryz.st159 Tryz.ld142 Tryz.st142 Tryz.ld2 Tryz.st2 Tryz.ld5 Tryz.st5 Tryz.ld12 Tryz.st12 Tryz.ld21 Tryz.st21 Tryz.ld22 Tryz.st22 Tryz.ld24 Tryz.st24 Tryz.ld58 Tryz.st58 Tryz.ld97 Tryz.st97 Tryz.ld101 Tryz.st101 Tryz.ld116 Tryz.st116 Tryz.ld121 Tryz.st121 Tryz.ld135 Tryz.st135 Tryz.ld136 Tryz.st136 Tryz.ld143 Tryz.st143 Tryz.ld148 Tryz.st148 Tryz.ld154 Tryz.st154 Tryz.ld173 Tryz.st173 Tryz.ld187 Tryz.st187 Tryz.ld222 Tryz.st222 Tryz.ld241 Tryz.st241 Tryz.ld248 Tryz.st248 Tryz.ld268 Tryz.st268 Tryz.ld272 Tryz.st272 Tryz.ld153 Tryz.st153 Tryz.ld255 Tryz.st255 Tryz.ld256 Tryz.st256 Tryz.ld129 Tryz.st129 Tryz.ld152 Tryz.st152 Tryz.ld31 Tryz.st31 Tryz.ld46 Tryz.st46 Tryz.ld52 Tryz.st52 Tryz.ld54 Tryz.st54 Tryz.ld60 Tryz.st60 Tryz.ld70 Tryz.st70 Tryz.ld74 Tryz.st74 Tryz.ld93 Tryz.st93 Tryz.ld141 Tryz.st141 Tryz.ld151 Tryz.st151 Tryz.ld170 Tryz.st170 Tryz.ld186 Tryz.st186 Tryz.ld189 Tryz.st189 Tryz.ld194 Tryz.st194 Tryz.ld197 Tryz.st197 Tryz.ld219 Tryz.st219 Tryz.ld224 Tryz.st224 Tryz.ld230 Tryz.st230 Tryz.ld235 Tryz.st235 Tryz.ld243 Tryz.st243 Tryz.ld247 Tryz.st247 Tryz.ld252 Tryz.st252 Tryz.ld258 Tryz.st258 Tryz.al153 Tryz.al255 Tryz.al256 Tryz.al129 Tryz.al152 Tryz.al31 Tryz.al46 Tryz.al52 Tryz.al54 Tryz.al60 Tryz.al70 Tryz.al74 Tryz.al93 Tryz.al141 Tryz.al151 Tryz.al170 Tryz.al186 Tryz.al189 Tryz.al194 Tryz.al197 Tryz.al219 Tryz.al224 Tryz.al230 Tryz.al235 Tryz.al243 Tryz.al247 Tryz.al252 Tryz.al258
attribute [local go_sem] Request.length_enc Request.ok_enc Request.all_get Request.all_set Request.kind_get Request.kind_set Request.blob_get Request.blob_set Request.items_get Request.items_set Request.pred_get Request.pred_set Request.slots_get Request.slots_set Trace.length_enc Trace.ok_enc Trace.all_get Trace.all_set Trace.op_get Trace.op_set Trace.calls_get Trace.calls_set Item.length_enc Item.ok_enc Item.all_get Item.all_set Item.del_get Item.del_set Item.pred_get Item.pred_set Item.args_get Item.args_set Reply.length_enc Reply.ok_enc Reply.all_get Reply.all_set Reply.code_get Reply.code_set Reply.kind_get Reply.kind_set Reply.index_get Reply.index_set Reply.yes_get Reply.yes_set Reply.preds_get Reply.preds_set Reply.rules_get Reply.rules_set Reply.arity_get Reply.arity_set Reply.rows_get Reply.rows_set Reply.fact_get Reply.fact_set Reply.fact_del_get Reply.fact_del_set Reply.fact_pred_get Reply.fact_pred_set Reply.fact_args_get Reply.fact_args_set GEntry.length_enc GEntry.ok_enc GEntry.all_get GEntry.all_set GEntry.seq_get GEntry.seq_set GEntry.kind_get GEntry.kind_set GEntry.code_get GEntry.code_set GOp.length_enc GOp.ok_enc GOp.all_get GOp.all_set GOp.kind_get GOp.kind_set GOp.raw_get GOp.raw_set Reader.length_enc Reader.ok_enc Reader.all_get Reader.all_set Reader.buf_get Reader.buf_set Reader.at__get Reader.at__set Slot.length_enc Slot.ok_enc Slot.all_get Slot.all_set Slot.bound_get Slot.bound_set Slot.name_get Slot.name_set Session.length_enc Session.ok_enc Session.all_get Session.all_set Session.svc_get Session.svc_set Session.buf_get Session.buf_set Session.closed_get Session.closed_set GProgram.length_enc GProgram.ok_enc GProgram.all_get GProgram.all_set GProgram.pool_get GProgram.pool_set GProgram.preds_get GProgram.preds_set GProgram.rules_get GProgram.rules_set GProgram.strata_get GProgram.strata_set PredInfo.length_enc PredInfo.ok_enc PredInfo.all_get PredInfo.all_set PredInfo.arity_get PredInfo.arity_set PredInfo.base_get PredInfo.base_set PredInfo.stratum_get PredInfo.stratum_set Change.length_enc Change.ok_enc Change.all_get Change.all_set Change.del_get Change.del_set Change.pred_get Change.pred_set Change.t_get Change.t_set Store.length_enc Store.ok_enc Store.all_get Store.all_set Store.names_get Store.names_set Store.arity_get Store.arity_set Store.rows_get Store.rows_set Src.length_enc Src.ok_enc Src.all_get Src.all_set Src.b_get Src.b_set Src.at__get Src.at__set Atom.length_enc Atom.ok_enc Atom.all_get Atom.all_set Atom.pred_get Atom.pred_set Atom.args_get Atom.args_set GRule.length_enc GRule.ok_enc GRule.all_get GRule.all_set GRule.head_get GRule.head_set GRule.body_get GRule.body_set GRule.head_pred_get GRule.head_pred_set GRule.head_args_get GRule.head_args_set Cert.length_enc Cert.ok_enc Cert.all_get Cert.all_set Cert.names_get Cert.names_set Cert.nodes_get Cert.nodes_set Fact.length_enc Fact.ok_enc Fact.all_get Fact.all_set Fact.pred_get Fact.pred_set Fact.t_get Fact.t_set Literal.length_enc Literal.ok_enc Literal.all_get Literal.all_set Literal.neg_get Literal.neg_set Literal.atom_get Literal.atom_set Literal.atom_pred_get Literal.atom_pred_set Literal.atom_args_get Literal.atom_args_set Engine.length_enc Engine.ok_enc Engine.all_get Engine.all_set Engine.prog_get Engine.prog_set Engine.st_get Engine.st_set SrcCertm.length_enc SrcCertm.ok_enc SrcCertm.all_get SrcCertm.all_set SrcCertm.b_get SrcCertm.b_set SrcCertm.at__get SrcCertm.at__set GNode.length_enc GNode.ok_enc GNode.all_get GNode.all_set GNode.rule_get GNode.rule_set GNode.pred_get GNode.pred_set GNode.vals_get GNode.vals_set GNode.refs_get GNode.refs_set Term.length_enc Term.ok_enc Term.all_get Term.all_set Term.var_get Term.var_set Term.n_get Term.n_set Env.length_enc Env.ok_enc Env.all_get Env.all_set Env.val_get Env.val_set Env.set_get Env.set_set
attribute [local go_sem] size_put size_ext blk_put free_put blk_alloc free_alloc blk_drew free_drew blk_ext free_ext lookOr_some putOr_some segAt_some cellAt_some storeIn_some put_put put_alloc_new length_arr ok_arr_u8 ok_arr_u32 ok_arr_u64 ok_arr_i64 ok_arr_sl cellsV_agg cellsV_int cellsV_bool cellsV_string cellsV_pointer cellsV_slice cellsV_sl ok_int ok_bool ok_string ok_pointer ok_slice ok_sl toList_arr seg_arr set_arr nth_splice nth_splice0 seg_splice seg_splice0 splice_splice splice_splice0 length_splice_if
attribute [local go_sem ↓] execOp_box
attribute [local go_sem] box_run nth_arr_u8 put_arr_u8 blk_drewN free_drewN put_drewN blk_raw free_raw
attribute [local go_sem] Tryz.zl75 Tryz.zs75 Tryz.zl52 Tryz.zs52 Tryz.zl53 Tryz.zs53
theorem el276 : ElT Atom.enc 2 32 276 144 := by
  have info : ∃ i z, Tryz.prog.info? 144 = some i ∧ i.zero = some z ∧ i.size = 2 ∧ i.bytes = 32 ∧ z.cells.size = 2 := by
    have hq : (Tryz.prog.info? 144).map (fun i => (i.zero, i.size, i.bytes)) = some (some (.agg (Atom.zero.enc).toArray), 2, 32) := by kernel_rfl
    cases hx : Tryz.prog.info? 144 with
    | none => rw [hx] at hq; simp at hq
    | some i =>
      rw [hx] at hq
      simp only [Option.map_some, Option.some.injEq, Prod.mk.injEq] at hq
      exact ⟨i, _, rfl, hq.1, hq.2.1, hq.2.2, by rfl⟩
  exact ⟨Tryz.underlying276, info, Atom.length_enc, Atom.one_enc, by omega, by omega⟩
theorem bslice276_lit (w : World) (k : Int) (a : Option Addr) (n c : Nat) : (bsliceOp 276 1 #[(0, .agg #[.int .i64 k, .slice a n c])]).run Tryz.prog w = .ok (.value (.slice (some ⟨w.heap.size, 0, none⟩) 1 1)) (w.alloc (.cells #[.int .i64 k, .slice a n c] 144)) := by kernel_rfl
theorem bslice276 (w : World) (x : Atom) : (bsliceOp 276 1 #[(0, .agg x.enc.toArray)]).run Tryz.prog w = .ok (.value (.slice (some ⟨w.heap.size, 0, none⟩) 1 1)) (w.alloc (.cells x.enc.toArray 144)) := bslice276_lit w x.pred x.args.a x.args.len x.args.cap
theorem bslice180 (w : World) (v : Int) : (bsliceOp 180 1 #[(0, .int .i64 v)]).run Tryz.prog w = .ok (.value (.slice (some ⟨w.heap.size, 0, none⟩) 1 1)) (w.alloc (.cells #[.int .i64 v] 3)) := by kernel_rfl
/-- The variables, each once. -/
def vaA (vs : List Int) (t : Term) : List Int := if t.var = true ∧ t.n ∉ vs then vs ++ [t.n] else vs
def vaL (vs : List Int) (a : PA) : List Int := a.args.foldl vaA vs
def atomsOf (r : PR) : List PA := r.head :: r.body.map (·.atom)
def varsF (r : PR) : List Int := (atomsOf r).foldl vaL []
theorem vaA_len (vs : List Int) (t : Term) : (vaA vs t).length ≤ vs.length + 1 := by
  unfold vaA
  split
  · rw [List.length_append, List.length_singleton]; omega
  · omega
theorem atomsOf_len (r : PR) : (atomsOf r).length = r.body.length + 1 := by simp [atomsOf]
def VaPost (W : World) (vs : List Int) (e : Ending) (V : World) : Prop := ∃ a c, e = .returned (.slice a vs.length c) ∧ OutG encZ 1 3 W V a vs.length c vs
def AtsC (W : World) (As : List Atom) (Ps : List PA) : Prop := ∀ (j : Nat) (x : Atom) (y : PA), As[j]? = some x → Ps[j]? = some y → AtomC W x y
def zV1 (W1 : World) (b1 : Nat) (N : Nat) (r : PR) (f : Nat → Value) (V : World) : Prop := f 1 = .pointer (some ⟨b1, 0, none⟩) ∧ ∃ (i : Nat) (a : Option Addr) (n c : Nat), i ≤ N ∧ f 4 = .int .i64 (i : Nat) ∧ f 3 = .slice a n c ∧ Hid (∃ As, As.length = i + 1 ∧ OutG Atom.enc 2 144 W1 V a n c As ∧ AtsC W1 As (atomsOf r))
def zV2 (V1 : World) (v3 : Value) (N : Nat) (r : PR) (f : Nat → Value) (V : World) : Prop := f 3 = v3 ∧ ∃ (i : Nat) (a : Option Addr) (n c : Nat), i ≤ N ∧ f 6 = .int .i64 (i : Nat) ∧ f 5 = .slice a n c ∧ Hid (∃ vs, vs = ((atomsOf r).take i).foldl vaL [] ∧ vs.length ≤ i * 1000 ∧ OutG encZ 1 3 V1 V a n c vs)
def zV3 (V1 : World) (v3 : Value) (i N : Nat) (vs0 : List Int) (y : PA) (f : Nat → Value) (V : World) : Prop := f 3 = v3 ∧ f 6 = .int .i64 (i : Nat) ∧ ∃ (k : Nat) (a : Option Addr) (n c : Nat), k ≤ N ∧ f 7 = .int .i64 (k : Nat) ∧ f 5 = .slice a n c ∧ Hid (∃ vs, vs = (y.args.take k).foldl vaA vs0 ∧ vs.length ≤ i * 1000 + k ∧ OutG encZ 1 3 V1 V a n c vs)
def zV4 (V2 : World) (v3 v5 : Value) (i k N : Nat) (vs : List Int) (t : Term) (f : Nat → Value) (V : World) : Prop := f 3 = v3 ∧ f 5 = v5 ∧ f 6 = .int .i64 (i : Nat) ∧ f 7 = .int .i64 (k : Nat) ∧ ∃ (m : Nat) (s : Bool), m ≤ N ∧ f 9 = .int .i64 (m : Nat) ∧ f 8 = .bool s ∧ Hid ((∃ q, V = V2.drewN q) ∧ s = (!t.var || decide (t.n ∈ vs.take m)))
attribute [local go_sem ↓] execOp_slice execOp_convert execOp_build execOp_bslice
attribute [local go_sem] bslice276 bslice180
set_option maxRecDepth 100000 in
theorem zframe90v (f : Nat → Value) : frameN 90 f = #[f 0, f 1, f 2, f 3, f 4, f 5, f 6, f 7, f 8, f 9, f 10, f 11, f 12, f 13, f 14, f 15, f 16, f 17, f 18, f 19, f 20, f 21, f 22, f 23, f 24, f 25, f 26, f 27, f 28, f 29, f 30, f 31, f 32, f 33, f 34, f 35, f 36, f 37, f 38, f 39, f 40, f 41, f 42, f 43, f 44, f 45, f 46, f 47, f 48, f 49, f 50, f 51, f 52, f 53, f 54, f 55, f 56, f 57, f 58, f 59, f 60, f 61, f 62, f 63, f 64, f 65, f 66, f 67, f 68, f 69, f 70, f 71, f 72, f 73, f 74, f 75, f 76, f 77, f 78, f 79, f 80, f 81, f 82, f 83, f 84, f 85, f 86, f 87, f 88, f 89] := by kernel_rfl
theorem int_at {W : World} {a : Option Addr} {n : Nat} {N : List Int} (h : Rw encZ 1 W a n N) {i : Nat} {x : Int} (hx : N[i]? = some x) : ∃ b C, a = some ⟨b, 0, none⟩ ∧ blk W b = some C ∧ i < C.length ∧ nth C i = some (.int .i64 x) := by
  obtain ⟨b, C, e1, e2, e3, -, e5⟩ := rw_cell h hx (show encZ x = [.int .i64 x] from rfl)
  exact ⟨b, C, e1, e2, e3, e5⟩
set_option maxRecDepth 40000 in
set_option maxHeartbeats 4000000 in
theorem varsOf_any (W : World) (x : GRule) (r : PR) (hR : RuleC W x r) (hbl : r.body.length ≤ 1000) (hfit : ∀ a ∈ atomsOf r, a.args.length ≤ 1000) : Calls Tryz.prog 119 #[.agg x.enc.toArray] W (VaPost W (varsF r)) := by
  obtain ⟨Q, hQ⟩ : ∃ Q, Q = VaPost W (varsF r) := ⟨_, rfl⟩
  rw [← hQ]
  have HQ := hid_of hQ
  have HFIT := hid_of hfit
  obtain ⟨xh, xa, xn, xc⟩ := x
  have hxn : r.body.length = xn := by
    obtain ⟨-, Ls, h1, h2, -⟩ := hR
    rw [← h2]; exact h1.1
  have HXN := hid_of hxn
  have hxb : xn ≤ 1000 := by omega
  have xl := GRule.length_enc ⟨xh, ⟨xa, xn, xc⟩⟩
  have xo := GRule.ok_enc ⟨xh, ⟨xa, xn, xc⟩⟩
  have xg : nth (GRule.enc ⟨xh, ⟨xa, xn, xc⟩⟩) 2 = some (.slice xa xn xc) := GRule.body_get _
  have xg2 : seg (GRule.enc ⟨xh, ⟨xa, xn, xc⟩⟩) 0 2 = Atom.enc xh := GRule.head_get _
  obtain ⟨XE, hXE⟩ : ∃ XE, XE = GRule.enc ⟨xh, ⟨xa, xn, xc⟩⟩ := ⟨_, rfl⟩
  rw [← hXE] at xl xo xg xg2 ⊢
  have xl1 : 2 < XE.length := by omega
  have xl2 : 0 + 2 ≤ XE.length := by omega
  have hx1 : W.Extends (W.alloc (.cells XE.toArray 147)) := extends_alloc (ext_Ext (Ext.refl _)) _
  have HR : Hid (RuleC (W.alloc (.cells XE.toArray 147)) ⟨xh, ⟨xa, xn, xc⟩⟩ r) := hR.ext hx1
  have HX1 := hid_of hx1
  have hb1 : blk (W.alloc (.cells XE.toArray 147)) W.heap.size = some XE := by rw [blk_alloc, if_pos rfl]
  clear hQ hR hfit hbl hxn hXE hx1
  go_enter Tryz.func119, Tryz.ntmps119
  go_upto_region 1 with fail
  obtain ⟨b1, eb1⟩ : ∃ b1, b1 = W.heap.size := ⟨_, rfl⟩
  rw [← eb1] at hb1 ⊢
  obtain ⟨W1, eW1⟩ : ∃ W1, W1 = W.alloc (.cells XE.toArray 147) := ⟨_, rfl⟩
  rw [← eW1] at HR HX1 hb1 ⊢
  have hO0 : OutG Atom.enc 2 144 W1 (W1.alloc (.cells xh.enc.toArray 144)) (some ⟨W1.heap.size, 0, none⟩) 1 1 [xh] := ⟨⟨rfl, .inr ⟨W1.heap.size, 1, _, rfl, Nat.le_refl _, heap_alloc_new _ _, Nat.le_refl _, by decide, by simp [Atom.length_enc], by rw [List.take_of_length_le (by simp [Atom.length_enc])]; simp⟩⟩, extends_alloc (ext_Ext (Ext.refl _)) _, rfl⟩
  have HO0 : Hid (∃ As, As.length = 0 + 1 ∧ OutG Atom.enc 2 144 W1 (W1.alloc (.cells xh.enc.toArray 144)) (some ⟨W1.heap.size, 0, none⟩) 1 1 As ∧ AtsC W1 As (atomsOf r)) := ⟨[xh], rfl, hO0, fun j x y h1 h2 => by
    cases j with
    | zero =>
      cases h1
      have : r.head = y := Option.some.inj h2
      rw [← this]; exact HR.out.1
    | succ j => cases h1⟩
  clear eb1 eW1 hO0
  obtain ⟨HE, eHE⟩ : ∃ HE, HE = xh.enc := ⟨_, rfl⟩
  have hbs : ∀ w, (bsliceOp 276 1 #[(0, .agg HE.toArray)]).run Tryz.prog w = .ok (.value (.slice (some ⟨w.heap.size, 0, none⟩) 1 1)) (w.alloc (.cells HE.toArray 144)) := fun w => by rw [eHE]; exact bslice276 w xh
  rw [← eHE] at HO0 xg2
  clear eHE
  go_upto_region 3 with fail
  refine wp_loop_f 90 (zV1 W1 b1 xn r) (fun f _ => xn - (intOf (f 4)).toNat) rfl ⟨rfl, 0, _, 1, 1, by omega, rfl, rfl, HO0⟩ ?_
  clear HO0
  intro F V hrel
  obtain ⟨f1, i, a, n, c, hi, f4, f3, HI⟩ := hrel
  have H4 := hid_of f4
  rw [zframe90v, f1, f3, f4]
  clear f1 f3 f4
  obtain ⟨As, hAl, hO, hAs⟩ := HI.out
  have HO := hid_of hO
  have HAS := hid_of hAs
  have HAL := hid_of hAl
  have hbV : blk V b1 = some XE := (hO.2.1.blk (blk_lt hb1)).trans hb1
  clear HI hO hAs hAl
  by_cases hin : i < xn
  · have hin' : (i : Int) < (xn : Int) := by omega
    have i0 : (0 : Int) ≤ (i : Int) := by omega
    have i2 : ((i : Int)).toNat = i := by omega
    obtain ⟨z, hz⟩ : ∃ z, r.body[i]? = some z := ⟨_, List.getElem?_eq_getElem (by rw [HXN.out]; exact hin)⟩
    obtain ⟨bl, CL, l, hxa, g1, g2, g3, g4, g5, g6⟩ := lit_at HR.out hz
    dsimp only at hxa
    subst hxa
    have hbl : blk V bl = some CL := (HO.out.2.1.blk (blk_lt g1)).trans g1
    have d3 : i * 3 + 1 + 2 ≤ CL.length := by omega
    obtain ⟨a', c', V', hrun, hO', -⟩ := HO.out.app el276 l (by have := HAL.out; omega) l.enc.toArray rfl 1
    have HJ : Hid (∃ As, As.length = (i + 1) + 1 ∧ OutG Atom.enc 2 144 W1 V' a' (n + 1) c' As ∧ AtsC W1 As (atomsOf r)) := by
      refine ⟨As ++ [l], by rw [List.length_append, HAL.out]; rfl, hO', fun j x y h1 h2 => ?_⟩
      by_cases hj : j < As.length
      · rw [List.getElem?_append_left hj] at h1
        exact HAS.out j x y h1 h2
      · rw [List.getElem?_append_right (by omega)] at h1
        have e0 : j - As.length = 0 := by
          by_cases e3 : j - As.length = 0
          · exact e3
          · rw [List.getElem?_eq_none (by rw [List.length_singleton]; omega)] at h1; cases h1
        rw [e0] at h1
        have ex : x = l := (Option.some.inj h1).symm
        have ej : j = i + 1 := by have := HAL.out; omega
        rw [ej] at h2
        have h3 : (r.body.map (·.atom))[i]? = some y := h2
        rw [List.getElem?_map, hz] at h3
        have ey : y = z.atom := (Option.some.inj h3).symm
        rw [ex, ey]; exact g6
    obtain ⟨LE, eLE⟩ : ∃ LE, LE = l.enc := ⟨_, rfl⟩
    have hbl2 : ∀ w, (bsliceOp 276 1 #[(0, .agg LE.toArray)]).run Tryz.prog w = .ok (.value (.slice (some ⟨w.heap.size, 0, none⟩) 1 1)) (w.alloc (.cells LE.toArray 144)) := fun w => by rw [eLE]; exact bslice276 w l
    rw [← eLE] at g5 hrun
    clear hz g1 g6 hO' eLE hbs
    go_wp2_with (at_builtin; refine wpList_append_run rfl _ _ 276 rfl _ _ _ _ rfl rfl hrun ?_)
    refine ⟨rfl, rfl, ⟨rfl, i + 1, a', n + 1, c', by omega, ?_, rfl, HJ⟩, ?_⟩
    · show Value.int .i64 _ = _
      go_num
    · show xn - (intOf (Value.int .i64 _)).toNat < xn - (intOf (F 4)).toNat
      rw [H4.out]
      simp [intOf]; omega
  have hin' : ¬ (i : Int) < (xn : Int) := by omega
  have hn1 : n = xn + 1 := by have h1 := HO.out.2.2; have h2 := HAL.out; omega
  have HRW : Hid (Rw Atom.enc 2 V a n As) := HO.out.rw el276
  have HXV : Hid (W.Extends V) := HX1.out.trans HO.out.2.1
  have HASV : Hid (AtsC V As (atomsOf r)) := fun j x y h1 h2 => (HAS.out j x y h1 h2).ext HO.out.2.1
  have hAn : (atomsOf r).length = n := by rw [atomsOf_len, HXN.out, hn1]
  have HAN := hid_of hAn
  have HALN : Hid (As.length = n) := HRW.out.1
  have hnb : n ≤ 1001 := by omega
  clear HR HX1 HO HAS HAL hb1 hAn hbs hn1
  go_upto_region 8 with fail
  refine wp_loop_f 90 (zV2 V (.slice a n c) n r) (fun f _ => n - (intOf (f 6)).toNat) rfl ⟨rfl, 0, none, 0, 0, by omega, rfl, rfl, ⟨[], rfl, Nat.zero_le _, OutG.nil (ext_Ext (Ext.refl _))⟩⟩ ?_
  clear hin' hin H4 hi hbV
  intro F2 V2 hrel
  obtain ⟨f3, i2, va, vn, vc, hi2, f6, f5, HI⟩ := hrel
  have H6 := hid_of f6
  rw [zframe90v, f3, f5, f6]
  clear f3 f5 f6
  obtain ⟨vs, hvs, hvl, hOv⟩ := HI.out
  have HVS := hid_of hvs
  have HOV := hid_of hOv
  clear HI hvs hOv
  by_cases hin : i2 < n
  rotate_left 1
  · have hin' : ¬ (i2 : Int) < (n : Int) := by omega
    have HP : Hid (Q (.returned (.slice va vn vc)) V2) := by
      show Q _ _
      rw [HQ.out]
      have e1 : vs = varsF r := by
        rw [HVS.out, List.take_of_length_le (by have := HAN.out; omega)]
        rfl
      have e2 : vn = vs.length := HOV.out.2.2
      rw [← e1]
      unfold VaPost
      rw [← e2]
      exact ⟨va, vc, rfl, HOV.out.base HXV.out⟩
    clear HVS HOV
    go_wp2_with fail
    try go_ret
    exact HP.out
  have hin' : (i2 : Int) < (n : Int) := by omega
  have j0 : (0 : Int) ≤ (i2 : Int) := by omega
  have j2 : ((i2 : Int)).toNat = i2 := by omega
  obtain ⟨y, hy⟩ : ∃ y, (atomsOf r)[i2]? = some y := ⟨_, List.getElem?_eq_getElem (by have := HAN.out; omega)⟩
  obtain ⟨ax, hax⟩ : ∃ ax, As[i2]? = some ax := ⟨_, List.getElem?_eq_getElem (by have := HALN.out; omega)⟩
  have hac := HASV.out i2 ax y hax hy
  have HAC := hid_of hac
  obtain ⟨ba, CA, rfl, m1, m2, m3⟩ := HRW.out.2 i2 ax hax
  obtain ⟨xp, ta, tn, tc⟩ := ax
  have hmm : (i2 + 1) * 2 ≤ n * 2 := Nat.mul_le_mul_right _ hin
  have m4 : nth CA (i2 * 2 + 1) = some (.slice ta tn tc) := nth_in (j := 1) m3 (show nth (Atom.enc ⟨xp, ⟨ta, tn, tc⟩⟩) 1 = some (.slice ta tn tc) from rfl) (by omega)
  have m5 : i2 * 2 + 1 < CA.length := by omega
  have htn : y.args.length = tn := hac.2.1
  have HTN := hid_of htn
  have htb : tn ≤ 1000 := by have := HFIT.out y (List.mem_of_getElem? hy); omega
  have HM1 := hid_of m1
  have HY := hid_of hy
  have hbA : blk V2 ba = some CA := (HOV.out.2.1.blk (blk_lt m1)).trans m1
  have HB3 : Hid (∃ vs', vs' = (y.args.take 0).foldl vaA vs ∧ vs'.length ≤ i2 * 1000 + 0 ∧ OutG encZ 1 3 V V2 va vn vc vs') := ⟨vs, rfl, by omega, HOV.out⟩
  clear hy hax hac m1 m3 htn hmm m2 HOV hvl
  go_upto_region 11 with fail
  refine wp_loop_f 90 (zV3 V (.slice (some ⟨ba, 0, none⟩) n c) i2 tn vs y) (fun f _ => tn - (intOf (f 7)).toNat) rfl ⟨rfl, rfl, 0, va, vn, vc, by omega, rfl, rfl, HB3⟩ ?_
  clear HB3 hbA
  intro F3 V3 hrel
  obtain ⟨f3, f6, k, wa, wn, wc, hk, f7, f5, HI⟩ := hrel
  have H7 := hid_of f7
  rw [zframe90v, f3, f5, f6, f7]
  clear f3 f5 f6 f7
  obtain ⟨ws, hws, hwl, hOw⟩ := HI.out
  have HWS := hid_of hws
  have HOW := hid_of hOw
  have hbA : blk V3 ba = some CA := (hOw.2.1.blk (blk_lt HM1.out)).trans HM1.out
  have hwn : wn = ws.length := hOw.2.2
  have HWN := hid_of hwn
  clear HI hws hOw hwn
  by_cases hkn : k < tn
  rotate_left 1
  · have hkn' : ¬ (k : Int) < (tn : Int) := by omega
    have HJ : Hid (∃ vs', vs' = ((atomsOf r).take (i2 + 1)).foldl vaL [] ∧ vs'.length ≤ (i2 + 1) * 1000 ∧ OutG encZ 1 3 V V3 wa wn wc vs') := by
      refine ⟨ws, ?_, by omega, HOW.out⟩
      rw [foldl_take _ _ HY.out, ← HVS.out, HWS.out, List.take_of_length_le (by have := HTN.out; omega)]
      rfl
    clear HWS HOW hwl
    go_wp2_with fail
    refine ⟨rfl, rfl, ⟨rfl, i2 + 1, wa, wn, wc, by omega, ?_, rfl, HJ⟩, ?_⟩
    · show Value.int .i64 _ = _
      go_num
    · show n - (intOf (Value.int .i64 _)).toNat < n - (intOf (F2 6)).toNat
      rw [H6.out]
      simp [intOf]; omega
  have hkn' : (k : Int) < (tn : Int) := by omega
  have k0 : (0 : Int) ≤ (k : Int) := by omega
  have k2 : ((k : Int)).toNat = k := by omega
  have hky : k < y.args.length := by have := HTN.out; omega
  obtain ⟨bt, CT, hta, t1, t2, t3, t4⟩ := term_at HAC.out hky
  dsimp only at hta
  subst hta
  have hbT : blk V3 bt = some CT := (HOW.out.2.1.blk (blk_lt t1)).trans t1
  have t5 : k * 2 < CT.length := by omega
  have HTT := hid_of (tA_at hky)
  obtain ⟨tt, ett⟩ : ∃ tt, tt = tA y k := ⟨_, rfl⟩
  rw [← ett] at t3 t4 HTT
  obtain ⟨tv, etv⟩ : ∃ tv, tv = tt.var := ⟨_, rfl⟩
  obtain ⟨tm, etm⟩ : ∃ tm, tm = tt.n := ⟨_, rfl⟩
  rw [← etv] at t3
  rw [← etm] at t4
  have HB4 : Hid ((∃ q, V3 = V3.drewN q) ∧ (!tv) = (!tt.var || decide (tt.n ∈ ws.take 0))) := ⟨⟨0, rfl⟩, by rw [etv]; cases tt.var <;> simp⟩
  have ETM := hid_of etm
  have hwb : wn ≤ 2000000 := by have := HWN.out; omega
  clear t1 hky ett etv etm
  go_upto_region 15 with fail
  refine wp_loop_f 90 (zV4 V3 (.slice (some ⟨ba, 0, none⟩) n c) (.slice wa wn wc) i2 k wn ws tt) (fun f _ => wn - (intOf (f 9)).toNat) rfl ⟨rfl, rfl, rfl, rfl, 0, !tv, by omega, rfl, rfl, HB4⟩ ?_
  clear HB4
  intro F4 V4 hrel
  obtain ⟨f3, f5, f6, f7, m, s, hm, f9, f8, HI⟩ := hrel
  have H9 := hid_of f9
  rw [zframe90v, f3, f5, f6, f7, f8, f9]
  clear f3 f5 f6 f7 f8 f9
  obtain ⟨hq4, hs4⟩ := HI.out
  have HQ4 := hid_of hq4
  have HS4 := hid_of hs4
  have hbA4 : blk V4 ba = some CA := by obtain ⟨q, e⟩ := hq4; rw [e]; exact hbA
  have hbT4 : blk V4 bt = some CT := by obtain ⟨q, e⟩ := hq4; rw [e]; exact hbT
  clear HI hq4 hs4
  by_cases hmn : m < wn
  · have hmn' : (m : Int) < (wn : Int) := by omega
    have q0 : (0 : Int) ≤ (m : Int) := by omega
    have q2 : ((m : Int)).toNat = m := by omega
    obtain ⟨v, hv⟩ : ∃ v, ws[m]? = some v := ⟨_, List.getElem?_eq_getElem (by have := HWN.out; omega)⟩
    obtain ⟨bw, CW, rfl, u1, u2, u3⟩ := int_at (HOW.out.rw el183) hv
    have hbW4 : blk V4 bw = some CW := by obtain ⟨q, e⟩ := HQ4.out; rw [e]; exact u1
    have HTK : Hid (∀ s' : Bool, s' = (s || decide (v = tm)) → s' = (!tt.var || decide (tt.n ∈ ws.take (m + 1)))) := fun s' h9 => by
      rw [h9, HS4.out, ETM.out, List.take_add_one, hv, Bool.or_assoc]
      congr 1
      rw [Bool.eq_iff_iff]
      simp only [Bool.or_eq_true, decide_eq_true_eq, List.mem_append, Option.toList_some, List.mem_singleton]
      constructor
      · rintro (h | h)
        · exact .inl h
        · exact .inr h.symm
      · rintro (h | h)
        · exact .inl h
        · exact .inr h.symm
    have HDR : Hid (∀ q, ∃ q', V4.drewN q = V3.drewN q') := fun q => by
      obtain ⟨q1, e⟩ := HQ4.out
      exact ⟨_, by rw [e, World.drewN_drewN]⟩
    clear hv u1 HS4 HQ4
    by_cases hvt : v = tm
    · have nb : (v == tm) = true := by simp [hvt]
      have HJ := hid_of (HTK.out true (by rw [decide_eq_true hvt, Bool.or_true]))
      clear HTK hvt
      go_upto_region 17 with fail
      go_quiet (fail)
      go_wp2_with fail
      refine ⟨rfl, rfl, ⟨rfl, rfl, rfl, rfl, m + 1, true, by omega, ?_, rfl, HDR.out _, HJ.out⟩, ?_⟩
      · show Value.int .i64 _ = _
        go_num
      · show wn - (intOf (Value.int .i64 _)).toNat < wn - (intOf (F4 9)).toNat
        rw [H9.out]
        simp [intOf]; omega
    · have nb : (v == tm) = false := by simp [hvt]
      have HJ := hid_of (HTK.out s (by rw [decide_eq_false hvt, Bool.or_false]))
      clear HTK
      go_upto_region 17 with fail
      go_quiet (fail)
      go_wp2_with fail
      refine ⟨rfl, rfl, ⟨rfl, rfl, rfl, rfl, m + 1, s, by omega, ?_, rfl, HDR.out _, HJ.out⟩, ?_⟩
      · show Value.int .i64 _ = _
        go_num
      · show wn - (intOf (Value.int .i64 _)).toNat < wn - (intOf (F4 9)).toNat
        rw [H9.out]
        simp [intOf]; omega
  have hmn' : ¬ (m : Int) < (wn : Int) := by omega
  have HS5 : Hid (s = (!tt.var || decide (tt.n ∈ ws))) := by
    show _ = _
    rw [HS4.out, List.take_of_length_le (by have := HWN.out; omega)]
  have hOw4 : OutG encZ 1 3 V V4 wa wn wc ws := by
    obtain ⟨q, e⟩ := HQ4.out
    rw [e]; exact HOW.out.ext (extends_drewN (ext_Ext (Ext.refl _)) q)
  have HVA : Hid (vaA ws tt = if s = false then ws ++ [tm] else ws) := by
    show _ = _
    unfold vaA
    rw [HS5.out, ETM.out]
    by_cases h1 : tt.var = true <;> by_cases h2 : tt.n ∈ ws <;> simp [h1, h2]
  have HLE := hid_of (vaA_len ws tt)
  have HNX : Hid (∀ a n c V', OutG encZ 1 3 V V' a n c (vaA ws tt) → ∃ vs', vs' = (y.args.take (k + 1)).foldl vaA vs ∧ vs'.length ≤ i2 * 1000 + (k + 1) ∧ OutG encZ 1 3 V V' a n c vs') := fun a n c V' h9 => ⟨_, by rw [foldl_take _ _ HTT.out, ← HWS.out], by have := HLE.out; omega, h9⟩
  cases s with
  | true =>
    have HJ := hid_of (HNX.out wa wn wc V4 (by rw [HVA.out, if_neg (by decide)]; exact hOw4))
    clear HNX HVA HS5 HS4 hOw4 HQ4
    go_wp2_with fail
    refine ⟨rfl, rfl, ⟨rfl, rfl, k + 1, wa, wn, wc, by omega, ?_, rfl, HJ⟩, ?_⟩
    · show Value.int .i64 _ = _
      go_num
    · show tn - (intOf (Value.int .i64 _)).toNat < tn - (intOf (F3 7)).toNat
      rw [H7.out]
      simp [intOf]; omega
  | false =>
    obtain ⟨a', c', V', hrun, hO', -⟩ := hOw4.app el183 tm (by have := HWN.out; omega) #[.int .i64 tm] rfl 1
    have HJ := hid_of (HNX.out a' (wn + 1) c' V' (by rw [HVA.out, if_pos rfl]; exact hO'))
    clear HNX HVA HS5 HS4 hOw4 HQ4 hO'
    go_wp2_with (at_builtin; refine wpList_append_run rfl _ _ 180 rfl _ _ _ _ rfl rfl hrun ?_)
    refine ⟨rfl, rfl, ⟨rfl, rfl, k + 1, a', wn + 1, c', by omega, ?_, rfl, HJ⟩, ?_⟩
    · show Value.int .i64 _ = _
      go_num
    · show tn - (intOf (Value.int .i64 _)).toNat < tn - (intOf (F3 7)).toNat
      rw [H7.out]
      simp [intOf]; omega
end Go.Proofs.Qxb6500787aGreat
