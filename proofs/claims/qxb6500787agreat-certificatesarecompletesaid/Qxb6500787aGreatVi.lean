
import Derived.Test.Qxb6500787aGreatVh
import Derived.StillTailTactics
import Derived.Deep.QuietTactic
import Derived.BigQuiet
import Derived.Deep.RegionHeld
import Derived.Deep.CutRange
import Derived.Laws.ResultCell
import Derived.Laws.Rows
import Derived.DeepKeys
import Derived.DataBytes
import Derived.Laws.StructEq
import Derived.Laws.AppendOwn
import Derived.Laws.MakeOwn
import Derived.Lib.AppendStr
set_option linter.unusedSimpArgs false
set_option linter.unusedVariables false
namespace Go.Proofs.Qxb6500787aGreat
open Go.RowKit Go.Blk
attribute [local go_sem ↓] execOp_load execOp_store execOp_alloc
attribute [local go_sem] Tryz.ld26 Tryz.st26 Tryz.ld27 Tryz.st27 Tryz.ld28 Tryz.st28 Tryz.ld3 Tryz.st3 Tryz.ld29 Tryz.st29 Tryz.ld44 Tryz.st44 Tryz.ld4 Tryz.st4 Tryz.ld50 Tryz.st50 Tryz.ld32 Tryz.st32 Tryz.ld49 Tryz.st49 Tryz.ld68 Tryz.st68 Tryz.ld9 Tryz.st9 Tryz.ld40 Tryz.st40 Tryz.ld138 Tryz.st138 Tryz.ld139 Tryz.st139 Tryz.ld146 Tryz.st146 Tryz.ld183 Tryz.st183 Tryz.ld184 Tryz.st184 Tryz.ld192 Tryz.st192 Tryz.ld195 Tryz.st195 Tryz.ld217 Tryz.st217 Tryz.ld159 Tryz.st159 Tryz.ld142 Tryz.st142 Tryz.ld2 Tryz.st2 Tryz.ld5 Tryz.st5 Tryz.ld12 Tryz.st12 Tryz.ld21 Tryz.st21 Tryz.ld22 Tryz.st22 Tryz.ld24 Tryz.st24 Tryz.ld58 Tryz.st58 Tryz.ld97 Tryz.st97 Tryz.ld101 Tryz.st101 Tryz.ld116 Tryz.st116 Tryz.ld121 Tryz.st121 Tryz.ld135 Tryz.st135 Tryz.ld136 Tryz.st136 Tryz.ld143 Tryz.st143 Tryz.ld148 Tryz.st148 Tryz.ld154 Tryz.st154 Tryz.ld173 Tryz.st173 Tryz.ld187 Tryz.st187 Tryz.ld222 Tryz.st222 Tryz.ld241 Tryz.st241 Tryz.ld248 Tryz.st248 Tryz.ld268 Tryz.st268 Tryz.ld272 Tryz.st272 Tryz.ld153 Tryz.st153 Tryz.ld255 Tryz.st255 Tryz.ld256 Tryz.st256 Tryz.ld129 Tryz.st129 Tryz.ld152 Tryz.st152 Tryz.ld31 Tryz.st31 Tryz.ld46 Tryz.st46 Tryz.ld52 Tryz.st52 Tryz.ld54 Tryz.st54 Tryz.ld60 Tryz.st60 Tryz.ld70 Tryz.st70 Tryz.ld74 Tryz.st74 Tryz.ld93 Tryz.st93 Tryz.ld141 Tryz.st141 Tryz.ld151 Tryz.st151 Tryz.ld170 Tryz.st170 Tryz.ld186 Tryz.st186 Tryz.ld189 Tryz.st189 Tryz.ld194 Tryz.st194 Tryz.ld197 Tryz.st197 Tryz.ld219 Tryz.st219 Tryz.ld224 Tryz.st224 Tryz.ld230 Tryz.st230 Tryz.ld235 Tryz.st235 Tryz.ld243 Tryz.st243 Tryz.ld247 Tryz.st247 Tryz.ld252 Tryz.st252 Tryz.ld258 Tryz.st258 Tryz.al153 Tryz.al255 Tryz.al256 Tryz.al129 Tryz.al152 Tryz.al31 Tryz.al46 Tryz.al52 Tryz.al54 Tryz.al60 Tryz.al70 Tryz.al74 Tryz.al93 Tryz.al141 Tryz.al151 Tryz.al170 Tryz.al186 Tryz.al189 Tryz.al194 Tryz.al197 Tryz.al219 Tryz.al224 Tryz.al230 Tryz.al235 Tryz.al243 Tryz.al247 Tryz.al252 Tryz.al258
attribute [local go_sem] Request.length_enc Request.ok_enc Request.all_get Request.all_set Request.kind_get Request.kind_set Request.blob_get Request.blob_set Request.items_get Request.items_set Request.pred_get Request.pred_set Request.slots_get Request.slots_set Trace.length_enc Trace.ok_enc Trace.all_get Trace.all_set Trace.op_get Trace.op_set Trace.calls_get Trace.calls_set Item.length_enc Item.ok_enc Item.all_get Item.all_set Item.del_get Item.del_set Item.pred_get Item.pred_set Item.args_get Item.args_set Reply.length_enc Reply.ok_enc Reply.all_get Reply.all_set Reply.code_get Reply.code_set Reply.kind_get Reply.kind_set Reply.index_get Reply.index_set Reply.yes_get Reply.yes_set Reply.preds_get Reply.preds_set Reply.rules_get Reply.rules_set Reply.arity_get Reply.arity_set Reply.rows_get Reply.rows_set Reply.fact_get Reply.fact_set Reply.fact_del_get Reply.fact_del_set Reply.fact_pred_get Reply.fact_pred_set Reply.fact_args_get Reply.fact_args_set GEntry.length_enc GEntry.ok_enc GEntry.all_get GEntry.all_set GEntry.seq_get GEntry.seq_set GEntry.kind_get GEntry.kind_set GEntry.code_get GEntry.code_set GOp.length_enc GOp.ok_enc GOp.all_get GOp.all_set GOp.kind_get GOp.kind_set GOp.raw_get GOp.raw_set Reader.length_enc Reader.ok_enc Reader.all_get Reader.all_set Reader.buf_get Reader.buf_set Reader.at__get Reader.at__set Slot.length_enc Slot.ok_enc Slot.all_get Slot.all_set Slot.bound_get Slot.bound_set Slot.name_get Slot.name_set Session.length_enc Session.ok_enc Session.all_get Session.all_set Session.svc_get Session.svc_set Session.buf_get Session.buf_set Session.closed_get Session.closed_set GProgram.length_enc GProgram.ok_enc GProgram.all_get GProgram.all_set GProgram.pool_get GProgram.pool_set GProgram.preds_get GProgram.preds_set GProgram.rules_get GProgram.rules_set GProgram.strata_get GProgram.strata_set PredInfo.length_enc PredInfo.ok_enc PredInfo.all_get PredInfo.all_set PredInfo.arity_get PredInfo.arity_set PredInfo.base_get PredInfo.base_set PredInfo.stratum_get PredInfo.stratum_set Change.length_enc Change.ok_enc Change.all_get Change.all_set Change.del_get Change.del_set Change.pred_get Change.pred_set Change.t_get Change.t_set Store.length_enc Store.ok_enc Store.all_get Store.all_set Store.names_get Store.names_set Store.arity_get Store.arity_set Store.rows_get Store.rows_set Src.length_enc Src.ok_enc Src.all_get Src.all_set Src.b_get Src.b_set Src.at__get Src.at__set Atom.length_enc Atom.ok_enc Atom.all_get Atom.all_set Atom.pred_get Atom.pred_set Atom.args_get Atom.args_set GRule.length_enc GRule.ok_enc GRule.all_get GRule.all_set GRule.head_get GRule.head_set GRule.body_get GRule.body_set GRule.head_pred_get GRule.head_pred_set GRule.head_args_get GRule.head_args_set Cert.length_enc Cert.ok_enc Cert.all_get Cert.all_set Cert.names_get Cert.names_set Cert.nodes_get Cert.nodes_set Fact.length_enc Fact.ok_enc Fact.all_get Fact.all_set Fact.pred_get Fact.pred_set Fact.t_get Fact.t_set Literal.length_enc Literal.ok_enc Literal.all_get Literal.all_set Literal.neg_get Literal.neg_set Literal.atom_get Literal.atom_set Literal.atom_pred_get Literal.atom_pred_set Literal.atom_args_get Literal.atom_args_set Engine.length_enc Engine.ok_enc Engine.all_get Engine.all_set Engine.prog_get Engine.prog_set Engine.st_get Engine.st_set SrcCertm.length_enc SrcCertm.ok_enc SrcCertm.all_get SrcCertm.all_set SrcCertm.b_get SrcCertm.b_set SrcCertm.at__get SrcCertm.at__set GNode.length_enc GNode.ok_enc GNode.all_get GNode.all_set GNode.rule_get GNode.rule_set GNode.pred_get GNode.pred_set GNode.vals_get GNode.vals_set GNode.refs_get GNode.refs_set Term.length_enc Term.ok_enc Term.all_get Term.all_set Term.var_get Term.var_set Term.n_get Term.n_set Env.length_enc Env.ok_enc Env.all_get Env.all_set Env.val_get Env.val_set Env.set_get Env.set_set
attribute [local go_sem] size_put size_ext blk_put free_put blk_alloc free_alloc blk_drew free_drew blk_ext free_ext lookOr_some putOr_some segAt_some cellAt_some storeIn_some put_put put_alloc_new length_arr ok_arr_u8 ok_arr_u32 ok_arr_u64 ok_arr_i64 ok_arr_sl cellsV_agg cellsV_int cellsV_bool cellsV_string cellsV_pointer cellsV_slice cellsV_sl ok_int ok_bool ok_string ok_pointer ok_slice ok_sl toList_arr seg_arr set_arr nth_splice nth_splice0 seg_splice seg_splice0 splice_splice splice_splice0 length_splice_if
attribute [local go_sem ↓] execOp_box
attribute [local go_sem] box_run nth_arr_u8 put_arr_u8 blk_drewN free_drewN put_drewN blk_raw free_raw
/-- The numbers in a service's block. -/
structure CeR (C0 C : List Value) (r : Nat → Int) : Prop where
  len : C.length = 253
  num : ∀ k, 197 ≤ k → k < 253 → nth C k = some (.int .i64 (r k))
  old : ∀ k, k < 197 → nth C k = nth C0 k
theorem CeR.inc {C0 C : List Value} {r : Nat → Int} (h : CeR C0 C r) {k : Nat} (h1 : 197 ≤ k) (h2 : k < 253) : CeR C0 (splice C k [.int .i64 (r k + 1)]) (upR r k (r k + 1)) := by
  have hl := h.len
  have hn : ∀ j, nth (splice C k [.int .i64 (r k + 1)]) j = if j = k then some (.int .i64 (r k + 1)) else nth C j := fun j => splice_nth (by omega) j
  refine ⟨by rw [length_splice1 (by omega)]; exact hl, fun j a b => ?_, fun j a => ?_⟩
  · rw [hn]
    unfold upR
    by_cases e : j = k
    · rw [if_pos e, if_pos e]
    · rw [if_neg e, if_neg e]; exact h.num j a b
  · rw [hn, if_neg (by omega)]; exact h.old j a
/-- Only block bs is written; memory may grow. -/
structure OnG (W : World) (bs : Nat) (V : World) (C : List Value) : Prop where
  os : V.os = W.os
  tape : V.tape = W.tape
  output : V.output = W.output
  size : W.heap.size ≤ V.heap.size
  heap : ∀ k, k < W.heap.size → k ≠ bs → V.heap[k]? = W.heap[k]?
  blk : blk V bs = some C
  free : free V bs = true
theorem OnG.ext {W V V' : World} {bs : Nat} {C : List Value} (h : OnG W bs V C) (hx : V.Extends V') : OnG W bs V' C := ⟨hx.os.trans h.os, hx.tape.trans h.tape, hx.output.trans h.output, Nat.le_trans h.size hx.size, fun k hk hn => (hx.block k (Nat.lt_of_lt_of_le hk h.size)).trans (h.heap k hk hn), (hx.blk (blk_lt h.blk)).trans h.blk, (free_of_heap (hx.block bs (blk_lt h.blk))).trans h.free⟩
theorem OnG.put {W V : World} {bs : Nat} {C C' : List Value} (h : OnG W bs V C) : OnG W bs (Blk.put V bs C') C' := ⟨h.os, h.tape, h.output, by rw [size_put]; exact h.size, fun k hk hn => by rw [heap_put, if_neg hn]; exact h.heap k hk hn, by rw [blk_put, if_pos rfl, h.blk]; rfl, by rw [free_put]; exact h.free⟩
theorem OnG.drew {W V : World} {bs : Nat} {C : List Value} (h : OnG W bs V C) : OnG W bs V.drew C := ⟨h.os, h.tape, h.output, h.size, h.heap, h.blk, h.free⟩
theorem OnG.refl {W : World} {bs : Nat} {C : List Value} (h : Blk.blk W bs = some C) (hf : Blk.free W bs = true) : OnG W bs W C := ⟨rfl, rfl, rfl, Nat.le_refl _, fun _ _ _ => rfl, h, hf⟩
/-- The tallies after one reply. -/
def cnt1 (r : Nat → Int) (kind code : Nat) : Nat → Int := upR (upR (upR r 197 (r 197 + 1)) (201 + kind) (upR r 197 (r 197 + 1) (201 + kind) + 1)) (209 + code) (upR (upR r 197 (r 197 + 1)) (201 + kind) (upR r 197 (r 197 + 1) (201 + kind) + 1) (209 + code) + 1)
def cntW (kind code : Nat) : Nat := if code = 0 then 200 else if kind = 0 then 198 else 199
def cntF (r : Nat → Int) (kind code : Nat) : Nat → Int := upR (cnt1 r kind code) (cntW kind code) (cnt1 r kind code (cntW kind code) + 1)
theorem upR_bd {r : Nat → Int} {m : Int} (h : ∀ k, 0 ≤ r k ∧ r k ≤ m) (k : Nat) : ∀ j, 0 ≤ upR r k (r k + 1) j ∧ upR r k (r k + 1) j ≤ m + 1 := fun j => by
  have h1 := h j
  have h2 := h k
  unfold upR
  split <;> omega
set_option maxRecDepth 20000 in
set_option maxHeartbeats 4000000 in
theorem count_any {W : World} {bs : Nat} {CS : List Value} (hb : blk W bs = some CS) (hf : free W bs = true) {r : Nat → Int} (hC : CeR CS CS r) (hbd : ∀ k, 0 ≤ r k ∧ r k ≤ 1000000000) (rep : Reply) (kind code : Nat) (hk : rep.kind = (kind : Int)) (hc : rep.code = (code : Int)) (hk8 : kind < 8) (hc43 : code < 43) : Calls Tryz.prog 52 #[.pointer (some ⟨bs, 197, none⟩), .agg (Reply.enc rep).toArray] W fun e V => e = .returned (.tuple #[]) ∧ ∃ C', OnG W bs V C' ∧ CeR CS C' (cntF r kind code) := by
  obtain ⟨Q, hQ⟩ : ∃ Q : Ending → World → Prop, Q = fun e V => e = .returned (.tuple #[]) ∧ ∃ C', OnG W bs V C' ∧ CeR CS C' (cntF r kind code) := ⟨_, rfl⟩
  rw [← hQ]
  have HQ := hid_of hQ
  have r0 : nth (Reply.enc rep) 0 = some (.int .i64 (code : Int)) := by rw [Reply.code_get, hc]
  have r1 : nth (Reply.enc rep) 1 = some (.int .i64 (kind : Int)) := by rw [Reply.kind_get, hk]
  have rl : (Reply.enc rep).length = 11 := Reply.length_enc rep
  obtain ⟨RE, hRE⟩ : ∃ RE, RE = Reply.enc rep := ⟨_, rfl⟩
  rw [← hRE] at r0 r1 rl ⊢
  have rl0 : 0 < RE.length := by omega
  have rl1 : 1 < RE.length := by omega
  have HC := hid_of hC
  have HBD := hid_of hbd
  have HO0 := hid_of (OnG.refl hb hf)
  have hlt := blk_lt hb
  clear hQ hRE hC hbd hk hc rl
  go_enter Tryz.func52, Tryz.ntmps52
  go_upto_region 1 with fail
  refine wp_world (fun V => OnG W bs V CS ∧ blk V W.heap.size = some RE) ⟨HO0.out.ext (extends_alloc (ext_Ext (Ext.refl _)) _), by rw [blk_alloc, if_pos rfl]⟩ ?_
  rintro V1 ⟨hO1, hb3⟩
  obtain ⟨b3, e3⟩ : ∃ b3, b3 = W.heap.size := ⟨_, rfl⟩
  rw [← e3] at hb3 ⊢
  have n3 : ¬ b3 = bs := by omega
  have h197 := HC.out.num 197 (by omega) (by omega)
  have hcl := HC.out.len
  have l197 : 197 < CS.length := by omega
  have l197' : 197 + 1 ≤ CS.length := by omega
  have hb1 := hO1.blk
  have hf1 := hO1.free
  have hbd1 := HBD.out 197
  obtain ⟨v1, hv1⟩ : ∃ v1, v1 = r 197 := ⟨_, rfl⟩
  have hC2 := HC.out.inc (k := 197) (by omega) (by omega)
  rw [← hv1] at h197 hbd1 hC2
  have HO2 := hid_of (hO1.put (C' := splice CS 197 [.int .i64 (v1 + 1)]))
  have hb32 : blk (put V1 bs (splice CS 197 [.int .i64 (v1 + 1)])) b3 = some RE := by rw [blk_put, if_neg n3]; exact hb3
  obtain ⟨q1, hq1⟩ : ∃ q1, q1 = upR r 197 (v1 + 1) := ⟨_, rfl⟩
  have hbq1 : ∀ k, 0 ≤ q1 k ∧ q1 k ≤ 1000000001 := by rw [hq1, hv1]; exact upR_bd HBD.out 197
  rw [← hq1] at hC2
  have HQ1 : Hid (q1 = upR r 197 (r 197 + 1)) := by rw [hq1, hv1]; exact hid_of rfl
  have HC2 := hid_of hC2
  have HBQ1 := hid_of hbq1
  clear e3 hO1 hcl hC2 hbq1 hq1 hv1 HO0
  go_upto_region 2 with fail
  refine wp_world (fun V => OnG W bs V (splice CS 197 [.int .i64 (v1 + 1)]) ∧ blk V b3 = some RE) ⟨HO2.out, hb32⟩ ?_
  rintro V2 ⟨hO2, hb3⟩
  obtain ⟨C2, hC2e⟩ : ∃ C2, C2 = splice CS 197 [.int .i64 (v1 + 1)] := ⟨_, rfl⟩
  rw [← hC2e] at hO2 HC2
  clear HO2 hb32 hb1 hf1 h197 hC2e
  have hb2 := hO2.blk
  have hf2 := hO2.free
  have hn2 := HC2.out.num (201 + kind) (by omega) (by omega)
  have hl2 := HC2.out.len
  have m2 : 201 + kind < C2.length := by omega
  have m2' : 201 + kind + 1 ≤ C2.length := by omega
  have hbv2 := HBQ1.out (201 + kind)
  obtain ⟨v2, hv2⟩ : ∃ v2, v2 = q1 (201 + kind) := ⟨_, rfl⟩
  rw [← hv2] at hn2 hbv2
  have kk0 : (0 : Int) ≤ (kind : Int) := by omega
  have kk8 : (kind : Int) < 8 := by omega
  have kkt : ((kind : Int)).toNat = kind := by omega
  have hw2 : IntKind.i64.wrap (v2 + 1) = v2 + 1 := by rw [IntKind.wrap_i64]; omega
  have hC3 := HC2.out.inc (k := 201 + kind) (by omega) (by omega)
  rw [← hv2] at hC3
  have HO3 := hid_of (hO2.drew.put (C' := splice C2 (201 + kind) [.int .i64 (v2 + 1)]))
  have hb33 : blk (put V2.drew bs (splice C2 (201 + kind) [.int .i64 (v2 + 1)])) b3 = some RE := by rw [blk_put, if_neg n3]; exact hb3
  obtain ⟨q2, hq2⟩ : ∃ q2, q2 = upR q1 (201 + kind) (v2 + 1) := ⟨_, rfl⟩
  have HBQ2 : Hid (∀ k, 0 ≤ q2 k ∧ q2 k ≤ 1000000002) := by
    have h9 := upR_bd HBQ1.out (201 + kind)
    rw [← hv2, ← hq2] at h9
    exact h9
  rw [← hq2] at hC3
  have HQ2 : Hid (q2 = upR q1 (201 + kind) (q1 (201 + kind) + 1)) := by rw [hq2, hv2]; exact hid_of rfl
  have HC3 := hid_of hC3
  clear hO2 hl2 hC3 hq2 hv2
  go_still_tail 11, Tryz.mixed
  go_upto_region 3 with fail
  refine wp_world (fun V => OnG W bs V (splice C2 (201 + kind) [.int .i64 (v2 + 1)]) ∧ blk V b3 = some RE) ⟨HO3.out, hb33⟩ ?_
  rintro V3 ⟨hO3, hb3'⟩
  obtain ⟨C3, hC3e⟩ : ∃ C3, C3 = splice C2 (201 + kind) [.int .i64 (v2 + 1)] := ⟨_, rfl⟩
  rw [← hC3e] at hO3 HC3
  clear HO3 hb33 hb2 hf2 hn2 hC3e hb3 m2 m2' hw2 hbv2
  have hb3 := hb3'
  have hb2 := hO3.blk
  have hf2 := hO3.free
  have hn3 := HC3.out.num (209 + code) (by omega) (by omega)
  have hl3 := HC3.out.len
  have m3 : 209 + code < C3.length := by omega
  have m3' : 209 + code + 1 ≤ C3.length := by omega
  have hbv3 := HBQ2.out (209 + code)
  obtain ⟨v3, hv3⟩ : ∃ v3, v3 = q2 (209 + code) := ⟨_, rfl⟩
  rw [← hv3] at hn3 hbv3
  have cc0 : (0 : Int) ≤ (code : Int) := by omega
  have cc43 : (code : Int) < 43 := by omega
  have cct : ((code : Int)).toNat = code := by omega
  have hw3 : IntKind.i64.wrap (v3 + 1) = v3 + 1 := by rw [IntKind.wrap_i64]; omega
  have hC4 := HC3.out.inc (k := 209 + code) (by omega) (by omega)
  rw [← hv3] at hC4
  have HO4 := hid_of (hO3.drew.put (C' := splice C3 (209 + code) [.int .i64 (v3 + 1)]))
  have hb34 : blk (put V3.drew bs (splice C3 (209 + code) [.int .i64 (v3 + 1)])) b3 = some RE := by rw [blk_put, if_neg n3]; exact hb3
  obtain ⟨q3, hq3⟩ : ∃ q3, q3 = upR q2 (209 + code) (v3 + 1) := ⟨_, rfl⟩
  have HBQ3 : Hid (∀ k, 0 ≤ q3 k ∧ q3 k ≤ 1000000003) := by
    have h9 := upR_bd HBQ2.out (209 + code)
    rw [← hv3, ← hq3] at h9
    exact h9
  rw [← hq3] at hC4
  have HQ3 : Hid (q3 = cnt1 r kind code) := by
    show _ = _
    unfold cnt1
    rw [hq3, hv3, HQ2.out, HQ1.out]
  have HC4 := hid_of hC4
  clear hO3 hl3 hC4 hq3 hv3 hb3'
  go_still_tail 11, Tryz.mixed
  go_upto_region 5 with fail
  refine wp_world (fun V => OnG W bs V (splice C3 (209 + code) [.int .i64 (v3 + 1)]) ∧ blk V b3 = some RE) ⟨HO4.out, hb34⟩ ?_
  rintro V4 ⟨hO4, hb3'⟩
  obtain ⟨C4, hC4e⟩ : ∃ C4, C4 = splice C3 (209 + code) [.int .i64 (v3 + 1)] := ⟨_, rfl⟩
  rw [← hC4e] at hO4 HC4
  clear HO4 hb34 hb2 hf2 hn3 hC4e hb3 m3 m3' hw3 hbv3
  have hb3 := hb3'
  have hb2 := hO4.blk
  have hf2 := hO4.free
  have hl4 := HC4.out.len
  have HFIN : Hid (∀ w v, w = cntW kind code → v = q3 w → 198 ≤ w → w ≤ 200 → Q (.returned (.tuple #[])) (put V4 bs (splice C4 w [.int .i64 (v + 1)]))) := by
    intro w v hw hv h1 h2
    rw [HQ.out]
    refine ⟨rfl, _, hO4.put, ?_⟩
    have h9 := HC4.out.inc (k := w) (by omega) (by omega)
    rw [hv]
    unfold cntF
    rw [← hw, ← HQ3.out]
    exact h9
  clear hO4 hb3' hb hf
  by_cases hc0 : code = 0
  · have hc0' : ((code : Int) == 0) = true := by simp [hc0]
    have hnw := HC4.out.num 200 (by omega) (by omega)
    have hbw := HBQ3.out 200
    have HP := hid_of (HFIN.out 200 (q3 200) (by unfold cntW; rw [if_pos hc0]) rfl (by omega) (by omega))
    obtain ⟨v4, hv4⟩ : ∃ v4, v4 = q3 200 := ⟨_, rfl⟩
    rw [← hv4] at hnw hbw HP
    have lw : 200 < C4.length := by omega
    have lw' : 200 + 1 ≤ C4.length := by omega
    clear hc0 HFIN hl4 hv4
    go_wp2_with fail
    go_end0
    exact HP.out
  · have hc0' : ((code : Int) == 0) = false := by simp [hc0]
    by_cases hk0 : kind = 0
    · have hk0' : ((kind : Int) == 0) = true := by simp [hk0]
      have hnw := HC4.out.num 198 (by omega) (by omega)
      have hbw := HBQ3.out 198
      have HP := hid_of (HFIN.out 198 (q3 198) (by unfold cntW; rw [if_neg hc0, if_pos hk0]) rfl (by omega) (by omega))
      obtain ⟨v4, hv4⟩ : ∃ v4, v4 = q3 198 := ⟨_, rfl⟩
      rw [← hv4] at hnw hbw HP
      have lw : 198 < C4.length := by omega
      have lw' : 198 + 1 ≤ C4.length := by omega
      clear hc0 hk0 HFIN hl4 hv4
      go_wp2_with fail
      go_end0
      exact HP.out
    · have hk0' : ((kind : Int) == 0) = false := by simp [hk0]
      have hnw := HC4.out.num 199 (by omega) (by omega)
      have hbw := HBQ3.out 199
      have HP := hid_of (HFIN.out 199 (q3 199) (by unfold cntW; rw [if_neg hc0, if_neg hk0]) rfl (by omega) (by omega))
      obtain ⟨v4, hv4⟩ : ∃ v4, v4 = q3 199 := ⟨_, rfl⟩
      rw [← hv4] at hnw hbw HP
      have lw : 199 < C4.length := by omega
      have lw' : 199 + 1 ≤ C4.length := by omega
      clear hc0 hk0 HFIN hl4 hv4
      go_wp2_with fail
      go_end0
      exact HP.out
end Go.Proofs.Qxb6500787aGreat
