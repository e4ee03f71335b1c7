
import Derived.Test.Qxb6500787aGreatTs
import Derived.StillTailTactics
import Derived.Deep.QuietTactic
import Derived.BigQuiet
import Derived.Deep.RegionHeld
import Derived.Deep.CutRange
import Derived.Laws.ResultCell
import Derived.Laws.Rows
import Derived.DeepKeys
import Derived.DataBytes
import Derived.Laws.StructEq
import Derived.Laws.AppendOwn
import Derived.Laws.MakeOwn
import Derived.Lib.AppendStr
set_option linter.unusedSimpArgs false
set_option linter.unusedVariables false
namespace Go.Proofs.Qxb6500787aGreat
open Go.RowKit Go.Blk
attribute [local go_sem ↓] execOp_load execOp_store execOp_alloc
attribute [local go_sem] Tryz.ld26 Tryz.st26 Tryz.ld27 Tryz.st27 Tryz.ld28 Tryz.st28 Tryz.ld3 Tryz.st3 Tryz.ld29 Tryz.st29 Tryz.ld44 Tryz.st44 Tryz.ld4 Tryz.st4 Tryz.ld50 Tryz.st50 Tryz.ld32 Tryz.st32 Tryz.ld49 Tryz.st49 Tryz.ld68 Tryz.st68 Tryz.ld9 Tryz.st9 Tryz.ld40 Tryz.st40 Tryz.ld138 Tryz.st138 Tryz.ld139 Tryz.st139 Tryz.ld146 Tryz.st146 Tryz.ld183 Tryz.st183 Tryz.ld184 Tryz.st184 Tryz.ld192 Tryz.st192 Tryz.ld195 Tryz.st195 Tryz.ld217 Tryz.st217 Tryz.ld159 Tryz.st159 Tryz.ld142 Tryz.st142 Tryz.ld2 Tryz.st2 Tryz.ld5 Tryz.st5 Tryz.ld12 Tryz.st12 Tryz.ld21 Tryz.st21 Tryz.ld22 Tryz.st22 Tryz.ld24 Tryz.st24 Tryz.ld58 Tryz.st58 Tryz.ld97 Tryz.st97 Tryz.ld101 Tryz.st101 Tryz.ld116 Tryz.st116 Tryz.ld121 Tryz.st121 Tryz.ld135 Tryz.st135 Tryz.ld136 Tryz.st136 Tryz.ld143 Tryz.st143 Tryz.ld148 Tryz.st148 Tryz.ld154 Tryz.st154 Tryz.ld173 Tryz.st173 Tryz.ld187 Tryz.st187 Tryz.ld222 Tryz.st222 Tryz.ld241 Tryz.st241 Tryz.ld248 Tryz.st248 Tryz.ld268 Tryz.st268 Tryz.ld272 Tryz.st272 Tryz.ld153 Tryz.st153 Tryz.ld255 Tryz.st255 Tryz.ld256 Tryz.st256 Tryz.ld129 Tryz.st129 Tryz.ld152 Tryz.st152 Tryz.ld31 Tryz.st31 Tryz.ld46 Tryz.st46 Tryz.ld52 Tryz.st52 Tryz.ld54 Tryz.st54 Tryz.ld60 Tryz.st60 Tryz.ld70 Tryz.st70 Tryz.ld74 Tryz.st74 Tryz.ld93 Tryz.st93 Tryz.ld141 Tryz.st141 Tryz.ld151 Tryz.st151 Tryz.ld170 Tryz.st170 Tryz.ld186 Tryz.st186 Tryz.ld189 Tryz.st189 Tryz.ld194 Tryz.st194 Tryz.ld197 Tryz.st197 Tryz.ld219 Tryz.st219 Tryz.ld224 Tryz.st224 Tryz.ld230 Tryz.st230 Tryz.ld235 Tryz.st235 Tryz.ld243 Tryz.st243 Tryz.ld247 Tryz.st247 Tryz.ld252 Tryz.st252 Tryz.ld258 Tryz.st258 Tryz.al153 Tryz.al255 Tryz.al256 Tryz.al129 Tryz.al152 Tryz.al31 Tryz.al46 Tryz.al52 Tryz.al54 Tryz.al60 Tryz.al70 Tryz.al74 Tryz.al93 Tryz.al141 Tryz.al151 Tryz.al170 Tryz.al186 Tryz.al189 Tryz.al194 Tryz.al197 Tryz.al219 Tryz.al224 Tryz.al230 Tryz.al235 Tryz.al243 Tryz.al247 Tryz.al252 Tryz.al258
attribute [local go_sem] Request.length_enc Request.ok_enc Request.all_get Request.all_set Request.kind_get Request.kind_set Request.blob_get Request.blob_set Request.items_get Request.items_set Request.pred_get Request.pred_set Request.slots_get Request.slots_set Trace.length_enc Trace.ok_enc Trace.all_get Trace.all_set Trace.op_get Trace.op_set Trace.calls_get Trace.calls_set Item.length_enc Item.ok_enc Item.all_get Item.all_set Item.del_get Item.del_set Item.pred_get Item.pred_set Item.args_get Item.args_set Reply.length_enc Reply.ok_enc Reply.all_get Reply.all_set Reply.code_get Reply.code_set Reply.kind_get Reply.kind_set Reply.index_get Reply.index_set Reply.yes_get Reply.yes_set Reply.preds_get Reply.preds_set Reply.rules_get Reply.rules_set Reply.arity_get Reply.arity_set Reply.rows_get Reply.rows_set Reply.fact_get Reply.fact_set Reply.fact_del_get Reply.fact_del_set Reply.fact_pred_get Reply.fact_pred_set Reply.fact_args_get Reply.fact_args_set GEntry.length_enc GEntry.ok_enc GEntry.all_get GEntry.all_set GEntry.seq_get GEntry.seq_set GEntry.kind_get GEntry.kind_set GEntry.code_get GEntry.code_set GOp.length_enc GOp.ok_enc GOp.all_get GOp.all_set GOp.kind_get GOp.kind_set GOp.raw_get GOp.raw_set Reader.length_enc Reader.ok_enc Reader.all_get Reader.all_set Reader.buf_get Reader.buf_set Reader.at__get Reader.at__set Slot.length_enc Slot.ok_enc Slot.all_get Slot.all_set Slot.bound_get Slot.bound_set Slot.name_get Slot.name_set Session.length_enc Session.ok_enc Session.all_get Session.all_set Session.svc_get Session.svc_set Session.buf_get Session.buf_set Session.closed_get Session.closed_set GProgram.length_enc GProgram.ok_enc GProgram.all_get GProgram.all_set GProgram.pool_get GProgram.pool_set GProgram.preds_get GProgram.preds_set GProgram.rules_get GProgram.rules_set GProgram.strata_get GProgram.strata_set PredInfo.length_enc PredInfo.ok_enc PredInfo.all_get PredInfo.all_set PredInfo.arity_get PredInfo.arity_set PredInfo.base_get PredInfo.base_set PredInfo.stratum_get PredInfo.stratum_set Change.length_enc Change.ok_enc Change.all_get Change.all_set Change.del_get Change.del_set Change.pred_get Change.pred_set Change.t_get Change.t_set Store.length_enc Store.ok_enc Store.all_get Store.all_set Store.names_get Store.names_set Store.arity_get Store.arity_set Store.rows_get Store.rows_set Src.length_enc Src.ok_enc Src.all_get Src.all_set Src.b_get Src.b_set Src.at__get Src.at__set Atom.length_enc Atom.ok_enc Atom.all_get Atom.all_set Atom.pred_get Atom.pred_set Atom.args_get Atom.args_set GRule.length_enc GRule.ok_enc GRule.all_get GRule.all_set GRule.head_get GRule.head_set GRule.body_get GRule.body_set GRule.head_pred_get GRule.head_pred_set GRule.head_args_get GRule.head_args_set Cert.length_enc Cert.ok_enc Cert.all_get Cert.all_set Cert.names_get Cert.names_set Cert.nodes_get Cert.nodes_set Fact.length_enc Fact.ok_enc Fact.all_get Fact.all_set Fact.pred_get Fact.pred_set Fact.t_get Fact.t_set Literal.length_enc Literal.ok_enc Literal.all_get Literal.all_set Literal.neg_get Literal.neg_set Literal.atom_get Literal.atom_set Literal.atom_pred_get Literal.atom_pred_set Literal.atom_args_get Literal.atom_args_set Engine.length_enc Engine.ok_enc Engine.all_get Engine.all_set Engine.prog_get Engine.prog_set Engine.st_get Engine.st_set SrcCertm.length_enc SrcCertm.ok_enc SrcCertm.all_get SrcCertm.all_set SrcCertm.b_get SrcCertm.b_set SrcCertm.at__get SrcCertm.at__set GNode.length_enc GNode.ok_enc GNode.all_get GNode.all_set GNode.rule_get GNode.rule_set GNode.pred_get GNode.pred_set GNode.vals_get GNode.vals_set GNode.refs_get GNode.refs_set Term.length_enc Term.ok_enc Term.all_get Term.all_set Term.var_get Term.var_set Term.n_get Term.n_set Env.length_enc Env.ok_enc Env.all_get Env.all_set Env.val_get Env.val_set Env.set_get Env.set_set
attribute [local go_sem] size_put size_ext blk_put free_put blk_alloc free_alloc blk_drew free_drew blk_ext free_ext lookOr_some putOr_some segAt_some cellAt_some storeIn_some put_put put_alloc_new length_arr ok_arr_u8 ok_arr_u32 ok_arr_u64 ok_arr_i64 ok_arr_sl cellsV_agg cellsV_int cellsV_bool cellsV_string cellsV_pointer cellsV_slice cellsV_sl ok_int ok_bool ok_string ok_pointer ok_slice ok_sl toList_arr seg_arr set_arr nth_splice nth_splice0 seg_splice seg_splice0 splice_splice splice_splice0 length_splice_if
attribute [local go_sem ↓] execOp_box
attribute [local go_sem] box_run nth_arr_u8 put_arr_u8 blk_drewN free_drewN put_drewN blk_raw free_raw
/-- Items in memory. -/
def ItC (W : World) (d : Dsc) (it : It) : Prop := d.1 = it.1 ∧ d.2.1 = it.2.1 ∧ Rw encS 1 W d.2.2.1 d.2.2.2.1 it.2.2
def ItsC (W : World) (a : Option Addr) (n : Nat) (L : List It) : Prop := ∃ K : List Dsc, Rw encD 3 W a n K ∧ K.length = L.length ∧ ∀ (i : Nat) (d : Dsc) (it : It), K[i]? = some d → L[i]? = some it → ItC W d it
theorem ItsC.sub {W W' : World} {a : Option Addr} {n : Nat} {L : List It} (h : ItsC W a n L) (hs : Sub W W') : ItsC W' a n L := by
  obtain ⟨K, h1, h2, h3⟩ := h
  exact ⟨K, h1.sub hs, h2, fun i d it hd hi => ⟨(h3 i d it hd hi).1, (h3 i d it hd hi).2.1, (h3 i d it hd hi).2.2.sub hs⟩⟩
theorem ItsC.ext {W W' : World} {a : Option Addr} {n : Nat} {L : List It} (h : ItsC W a n L) (hs : W.Extends W') : ItsC W' a n L := h.sub (Sub.ext hs)
theorem ItsC.len {W : World} {a : Option Addr} {n : Nat} {L : List It} (h : ItsC W a n L) : L.length = n := by
  obtain ⟨K, h1, h2, _⟩ := h
  rw [← h2]; exact h1.1
theorem its_at {W : World} {a : Option Addr} {n : Nat} {L : List It} (h : ItsC W a n L) {i : Nat} {it : It} (hi : L[i]? = some it) : ∃ b C aa ac, a = some ⟨b, 0, none⟩ ∧ blk W b = some C ∧ i * 3 + 3 ≤ C.length ∧ seg C (i * 3) 3 = itemE it.1 it.2.1 aa it.2.2.length ac ∧ nth C (i * 3) = some (.bool it.1) ∧ nth C (i * 3 + 1) = some (.int .i64 it.2.1) ∧ nth C (i * 3 + 2) = some (.slice aa it.2.2.length ac) ∧ Rw encS 1 W aa it.2.2.length it.2.2 := by
  obtain ⟨K, h1, h2, h3⟩ := h
  obtain ⟨d, hd⟩ : ∃ d, K[i]? = some d := ⟨_, List.getElem?_eq_getElem (by rw [h2]; exact (List.getElem?_eq_some_iff.1 hi).1)⟩
  obtain ⟨g1, g2, g3⟩ := h3 i d it hd hi
  obtain ⟨b, C, k1, k2, k3, k4⟩ := h1.2 i d hd
  have hl := h1.1
  have hi' : i < K.length := (List.getElem?_eq_some_iff.1 hd).1
  have h5 : (i + 1) * 3 ≤ n * 3 := Nat.mul_le_mul_right _ (by omega)
  have e1 : encD d = itemE it.1 it.2.1 d.2.2.1 it.2.2.length d.2.2.2.2 := by
    unfold encD
    rw [g1, g2, g3.1]
  rw [e1] at k4
  refine ⟨b, C, d.2.2.1, d.2.2.2.2, k1, k2, by omega, k4, nth_in (j := 0) k4 rfl (by omega), nth_in (j := 1) k4 rfl (by omega), nth_in (j := 2) k4 rfl (by omega), ?_⟩
  rw [g3.1]; exact g3
/-- One constant of an insertion: is it in use, or counted already? -/
def demA (N : List (List UInt8)) (U : Nat → Int) (X : List (List UInt8) × Nat) (nm : List UInt8) : List (List UInt8) × Nat :=
  if (lookF N nm ≠ -1 ∧ 0 < U (lookF N nm).toNat) ∨ nm ∈ X.1 then X else (X.1 ++ [nm], X.2 + if lookF N nm = -1 then 1 else 0)
def demI (N : List (List UInt8)) (U : Nat → Int) (X : List (List UInt8) × Nat) (it : It) : List (List UInt8) × Nat := if it.1 then X else it.2.2.foldl (demA N U) X
def demF (N : List (List UInt8)) (U : Nat → Int) (L : List It) : List (List UInt8) × Nat := L.foldl (demI N U) ([], 0)
def deI (W : World) (bi : Nat) (ia : Option Addr) (iN ic : Nat) (N : List (List UInt8)) (U : Nat → Int) (L : List It) (f : Nat → Value) (V : World) : Prop := f 0 = .pointer (some ⟨bi, 0, none⟩) ∧ f 1 = .slice ia iN ic ∧ ∃ (i k : Nat) (a : Option Addr) (n c : Nat), i ≤ iN ∧ f 6 = .slice a n c ∧ f 7 = .int .i64 (k : Nat) ∧ f 8 = .int .i64 (i : Nat) ∧ Hid (∃ fs, OutG encS 1 9 W V a n c fs ∧ (L.take i).foldl (demI N U) ([], 0) = (fs, k) ∧ fs.length ≤ 4 * i ∧ k ≤ 4 * i)
def deJ (W : World) (bi : Nat) (ia : Option Addr) (iN ic i : Nat) (N : List (List UInt8)) (U : Nat → Int) (args : List (List UInt8)) (X0 : List (List UInt8) × Nat) (f : Nat → Value) (V : World) : Prop := f 0 = .pointer (some ⟨bi, 0, none⟩) ∧ f 1 = .slice ia iN ic ∧ f 8 = .int .i64 (i : Nat) ∧ ∃ (j k : Nat) (a : Option Addr) (n c : Nat), j ≤ args.length ∧ f 6 = .slice a n c ∧ f 7 = .int .i64 (k : Nat) ∧ f 9 = .int .i64 (j : Nat) ∧ Hid (∃ fs, OutG encS 1 9 W V a n c fs ∧ (args.take j).foldl (demA N U) X0 = (fs, k) ∧ fs.length ≤ 4 * i + j ∧ k ≤ 4 * i + j)
attribute [local go_sem ↓] execOp_bslice
attribute [local go_sem] bslice50
set_option maxRecDepth 100000 in
theorem frame74d (f : Nat → Value) : frameN 74 f = #[f 0, f 1, f 2, f 3, f 4, f 5, f 6, f 7, f 8, f 9, f 10, f 11, f 12, f 13, f 14, f 15, f 16, f 17, f 18, f 19, f 20, f 21, f 22, f 23, f 24, f 25, f 26, f 27, f 28, f 29, f 30, f 31, f 32, f 33, f 34, f 35, f 36, f 37, f 38, f 39, f 40, f 41, f 42, f 43, f 44, f 45, f 46, f 47, f 48, f 49, f 50, f 51, f 52, f 53, f 54, f 55, f 56, f 57, f 58, f 59, f 60, f 61, f 62, f 63, f 64, f 65, f 66, f 67, f 68, f 69, f 70, f 71, f 72, f 73] := by kernel_rfl
set_option maxRecDepth 40000 in
set_option maxHeartbeats 4000000 in
theorem demand_any {B : Nat} {O : Own} {W : World} {g bi : Nat} {s : InsS} (h : InsAt B O W g bi s) (hN : s.N.length ≤ 256) (ia : Option Addr) (iN ic : Nat) (L : List It) (hL : ItsC W ia iN L) (hn : iN ≤ 100000) (h4 : ∀ it ∈ L, it.2.2.length ≤ 4) : Calls Tryz.prog 156 #[.pointer (some ⟨bi, 0, none⟩), .slice ia iN ic] W fun e V => e = .returned (.tuple #[.int .i64 ((demF s.N s.U L).1.length : Int), .int .i64 ((demF s.N s.U L).2 : Int)]) ∧ W.Extends V := by
  obtain ⟨Q, hQ⟩ : ∃ Q : Ending → World → Prop, Q = fun e V => e = .returned (.tuple #[.int .i64 ((demF s.N s.U L).1.length : Int), .int .i64 ((demF s.N s.U L).2 : Int)]) ∧ W.Extends V := ⟨_, rfl⟩
  rw [← hQ]
  have HQ := hid_of hQ
  obtain ⟨CI, bst, be, A, hm⟩ := h
  have HM := hid_of hm
  have HL := hid_of hL
  have HLL := hid_of hL.len
  have H4 := hid_of h4
  have ci4 := hm.ic.c4
  have cl : 4 < CI.length := by rw [hm.ic.len]; omega
  have HCL : Hid (CI.length = 263) := hm.ic.len
  have HI0 : Hid (∃ fs, OutG encS 1 9 W W none 0 0 fs ∧ (L.take 0).foldl (demI s.N s.U) ([], 0) = (fs, 0) ∧ fs.length ≤ 4 * 0 ∧ 0 ≤ 4 * 0) := ⟨[], OutG.nil (ext_Ext (Ext.refl _)), rfl, by simp, by omega⟩
  clear hQ hm hL h4
  go_enter Tryz.func156, Tryz.ntmps156
  go_upto_region 4 with fail
  refine wp_loop_f 74 (deI W bi ia iN ic s.N s.U L) (fun f _ => iN - (intOf (f 8)).toNat) rfl ⟨rfl, rfl, 0, 0, none, 0, 0, by omega, rfl, rfl, rfl, HI0⟩ ?_
  clear HI0
  intro F V hrel
  obtain ⟨f0, f1, i, k, a, n, c, hi, f6, f7, f8, HI⟩ := hrel
  have H8 := hid_of f8
  rw [frame74d, f0, f1, f6, f7, f8]
  clear f0 f1 f6 f7 f8
  obtain ⟨fs, hO, hfd, hfl, hkl⟩ := HI.out
  by_cases hin : i < iN
  rotate_left 1
  · have hin' : ¬ (i : Int) < (iN : Int) := by omega
    have HP : Hid (Q (.returned (.tuple #[.int .i64 (n : Int), .int .i64 (k : Int)])) V) := by
      show Q _ _
      rw [List.take_of_length_le (by rw [HLL.out]; omega)] at hfd
      have e1 : demF s.N s.U L = (fs, k) := hfd
      rw [HQ.out, e1]
      exact ⟨by rw [hO.2.2], hO.2.1⟩
    clear HI hO hfd
    go_wp2_with fail
    try go_ret
    exact HP.out
  have hin' : (i : Int) < (iN : Int) := by omega
  have i0 : (0 : Int) ≤ (i : Int) := by omega
  have i2 : ((i : Int)).toNat = i := by omega
  obtain ⟨it, hit⟩ : ∃ it, L[i]? = some it := ⟨_, List.getElem?_eq_getElem (by rw [HLL.out]; exact hin)⟩
  have hal := H4.out it (List.mem_of_getElem? hit)
  obtain ⟨bI, CD, aa, ac, t1, t2, t3, t4, t5, t6, t7, t8⟩ := its_at (HL.out.ext hO.2.1) hit
  have HIT : Hid (∀ V', W.Extends V' → blk V' bI = some CD ∧ Rw encS 1 V' aa it.2.2.length it.2.2) := by
    intro V' hx
    obtain ⟨bI', CD', aa', ac', u1, u2, u3, u4, u5, u6, u7, u8⟩ := its_at (HL.out.ext hx) hit
    rw [t1] at u1
    have e1 : bI = bI' := congrArg Addr.block (Option.some.inj u1)
    subst e1
    obtain ⟨b9, C9, aa9, ac9, w1, w2, _, _, _, _, w7, w8⟩ := its_at HL.out hit
    rw [t1] at w1
    have e2 : bI = b9 := congrArg Addr.block (Option.some.inj w1)
    subst e2
    have k1 := (hO.2.1.blk (blk_lt w2)).trans w2
    have k2 := (hx.blk (blk_lt w2)).trans w2
    obtain rfl : CD = C9 := Option.some.inj (t2.symm.trans k1)
    obtain ⟨rfl, -, rfl⟩ := Value.slice.inj (Option.some.inj (t7.symm.trans w7))
    exact ⟨k2, w8.ext' hx⟩
  subst t1
  have t9 : i * 3 < CD.length := by omega
  have t10 : i * 3 + 2 < CD.length := by omega
  have hnx : (L.take (i + 1)).foldl (demI s.N s.U) ([], 0) = demI s.N s.U (fs, k) it := by rw [take_at hit, List.foldl_append, hfd]; rfl
  obtain ⟨args, hargs⟩ : ∃ args, args = it.2.2 := ⟨_, rfl⟩
  obtain ⟨dl, hdl⟩ : ∃ dl, dl = it.1 := ⟨_, rfl⟩
  have hdi : demI s.N s.U (fs, k) it = if dl then (fs, k) else args.foldl (demA s.N s.U) (fs, k) := by unfold demI; rw [← hargs, ← hdl]
  rw [hdi] at hnx
  rw [← hdl] at t5
  rw [← hargs] at t7 t8 hal HIT
  have HNX := hid_of hnx
  clear hdi hit hnx t4 t6 hargs hdl
  cases dl with
  | true =>
    have HI' : Hid (∃ fs, OutG encS 1 9 W V a n c fs ∧ (L.take (i + 1)).foldl (demI s.N s.U) ([], 0) = (fs, k) ∧ fs.length ≤ 4 * (i + 1) ∧ k ≤ 4 * (i + 1)) := ⟨fs, hO, HNX.out, by omega, by omega⟩
    clear HI hO hfd HNX t8
    go_wp2_with fail
    refine ⟨rfl, rfl, ⟨rfl, rfl, i + 1, k, a, n, c, by omega, rfl, rfl, ?_, HI'⟩, ?_⟩
    · show Value.int .i64 _ = _
      go_num
    · show iN - (intOf (Value.int .i64 _)).toNat < iN - (intOf (F 8)).toNat
      rw [H8.out]
      simp [intOf]; omega
  | false =>
    have HI0 : Hid (∃ fs', OutG encS 1 9 W V a n c fs' ∧ (args.take 0).foldl (demA s.N s.U) (fs, k) = (fs', k) ∧ fs'.length ≤ 4 * i + 0 ∧ k ≤ 4 * i + 0) := ⟨fs, hO, rfl, by omega, by omega⟩
    obtain ⟨X0, hX0⟩ : ∃ X0, X0 = (fs, k) := ⟨_, rfl⟩
    rw [← hX0] at HI0 HNX
    have HT7 := hid_of t7
    clear HI hO hfd hX0 t8 hfl hkl
    go_upto_region 8 with fail
    clear t2
    refine wp_loop_f 74 (deJ W bi (some ⟨bI, 0, none⟩) iN ic i s.N s.U args X0) (fun f _ => args.length - (intOf (f 9)).toNat) rfl ⟨rfl, rfl, rfl, 0, k, a, n, c, by omega, rfl, rfl, rfl, HI0⟩ ?_
    clear HI0
    intro F2 V2 hrel
    obtain ⟨f0, f1, f8, j, k2, a2, n2, c2, hj, f6, f7, f9, HJ⟩ := hrel
    have H9 := hid_of f9
    rw [frame74d, f0, f1, f6, f7, f8, f9]
    clear f0 f1 f6 f7 f8 f9
    obtain ⟨fs2, hO2, hfd2, hfl2, hkl2⟩ := HJ.out
    obtain ⟨t2, t8⟩ := HIT.out V2 hO2.2.1
    by_cases hjn : j < args.length
    rotate_left 1
    · have hjn' : ¬ (j : Int) < (args.length : Int) := by omega
      have HI' : Hid (∃ fs, OutG encS 1 9 W V2 a2 n2 c2 fs ∧ (L.take (i + 1)).foldl (demI s.N s.U) ([], 0) = (fs, k2) ∧ fs.length ≤ 4 * (i + 1) ∧ k2 ≤ 4 * (i + 1)) := by
        refine ⟨fs2, hO2, ?_, by omega, by omega⟩
        rw [HNX.out]
        rw [List.take_of_length_le (by omega)] at hfd2
        exact hfd2
      clear HJ hO2 hfd2 t8
      go_wp2_with fail
      refine ⟨rfl, rfl, ⟨rfl, rfl, i + 1, k2, a2, n2, c2, by omega, rfl, rfl, ?_, HI'⟩, ?_⟩
      · show Value.int .i64 _ = _
        go_num
      · show iN - (intOf (Value.int .i64 _)).toNat < iN - (intOf (F 8)).toNat
        rw [H8.out]
        simp [intOf]; omega
    have hjn' : (j : Int) < (args.length : Int) := by omega
    have j0 : (0 : Int) ≤ (j : Int) := by omega
    have j2 : ((j : Int)).toNat = j := by omega
    obtain ⟨nm, hnm⟩ : ∃ nm, args[j]? = some nm := ⟨_, List.getElem?_eq_getElem hjn⟩
    obtain ⟨bs, Cs, s1, s2, s3, s4⟩ := str_at t8 hnm
    subst s1
    have hmV := HM.out.ext hO2.2.1
    have hbi := hmV.cell
    have hlk := lookup_any hmV.st (by omega) nm
    have hho := holds_any V2 a2 n2 c2 fs2 (hO2.rw el50) (by have := hO2.2.2; omega) nm
    have hnx2 : (args.take (j + 1)).foldl (demA s.N s.U) X0 = demA s.N s.U (fs2, k2) nm := by rw [take_at hnm, List.foldl_append, hfd2]; rfl
    obtain ⟨yv, hyv⟩ : ∃ yv, yv = lookF s.N nm := ⟨_, rfl⟩
    rw [← hyv] at hlk
    have hda : demA s.N s.U (fs2, k2) nm = if (yv ≠ -1 ∧ 0 < s.U yv.toNat) ∨ nm ∈ fs2 then (fs2, k2) else (fs2 ++ [nm], k2 + if yv = -1 then 1 else 0) := by unfold demA; rw [← hyv]
    rw [hda] at hnx2
    have hyr : yv ≠ -1 → ∃ y : Nat, yv = (y : Int) ∧ y < 256 := fun hne => by
      obtain ⟨y, h1, h2⟩ := lookF_get (by rw [← hyv]; exact hne)
      exact ⟨y, by rw [hyv, h1], by have := (List.getElem?_eq_some_iff.1 h2).1; omega⟩
    have HO2 := hid_of hO2
    have HNX2 := hid_of hnx2
    obtain ⟨mb, hmb⟩ : ∃ mb, mb = decide (nm ∈ fs2) := ⟨_, rfl⟩
    rw [← hmb] at hho
    have HMB := hid_of hmb
    have HUS : Hid (∀ y, y < 256 → nth CI (6 + y) = some (.int .i64 (s.U y))) := HM.out.ic.us
    have HSK : Hid (((yv ≠ -1 ∧ 0 < s.U yv.toNat) ∨ nm ∈ fs2) → ∃ fs', OutG encS 1 9 W V2 a2 n2 c2 fs' ∧ (args.take (j + 1)).foldl (demA s.N s.U) X0 = (fs', k2) ∧ fs'.length ≤ 4 * i + (j + 1) ∧ k2 ≤ 4 * i + (j + 1)) := fun hc => ⟨fs2, HO2.out, by rw [HNX2.out, if_pos hc], by omega, by omega⟩
    obtain ⟨a', c', V', hrun, ho', -⟩ := hO2.app el50 nm (by omega) (encS nm).toArray rfl 1
    have HAP : Hid (¬ ((yv ≠ -1 ∧ 0 < s.U yv.toNat) ∨ nm ∈ fs2) → ∀ k', k' = (k2 + if yv = -1 then 1 else 0) → ∃ fs', OutG encS 1 9 W V' a' (n2 + 1) c' fs' ∧ (args.take (j + 1)).foldl (demA s.N s.U) X0 = (fs', k') ∧ fs'.length ≤ 4 * i + (j + 1) ∧ k' ≤ 4 * i + (j + 1)) := fun hc k' hk' => ⟨fs2 ++ [nm], ho', by rw [HNX2.out, if_neg hc, hk'], by rw [List.length_append, List.length_singleton]; omega, by rw [hk']; split <;> omega⟩
    clear HJ hO2 hfd2 hnm hnx2 hda hmV hyv hmb t8 ho'
    go_wp2_with fail
    refine hlk.mono ?_
    rintro en V6 ⟨rfl, e9⟩
    replace e9 := e9.symm
    subst e9
    clear hlk
    dsimp only
    by_cases hy1 : yv = -1
    · have hyn : (yv != -1) = false := by simp [hy1]
      have hye : (yv == -1) = true := by simp [hy1]
      have HW : Hid (((k2 : Nat) : Int) + 1 = ((k2 + 1 : Nat) : Int)) := by show _ = _; omega
      go_wp2_with fail
      refine hho.mono ?_
      rintro en V6 ⟨rfl, e9⟩
      replace e9 := e9.symm
      subst e9
      clear hho
      dsimp only
      cases hmb : mb
      · have hnm : nm ∉ fs2 := of_decide_eq_false (HMB.out.symm.trans hmb)
        have HJ' := hid_of (HAP.out (fun h => h.elim (fun h => h.1 hy1) hnm) (k2 + 1) (by rw [if_pos hy1]))
        clear HAP HSK HMB hmb HO2 HNX2 hyr
        subst hy1
        go_wp2_with (at_builtin; refine wpList_append_run rfl _ _ 43 rfl _ _ _ _ rfl rfl hrun ?_)
        refine ⟨rfl, rfl, ⟨rfl, rfl, rfl, j + 1, k2 + 1, _, _, _, by omega, rfl, ?_, ?_, HJ'⟩, ?_⟩
        · show Value.int .i64 _ = _
          go_num
        · show Value.int .i64 _ = _
          go_num
        · show args.length - (intOf (Value.int .i64 _)).toNat < args.length - (intOf (F2 9)).toNat
          rw [H9.out]
          simp [intOf]; omega
      · have hnm : nm ∈ fs2 := of_decide_eq_true (HMB.out.symm.trans hmb)
        have HJ' := hid_of (HSK.out (.inr hnm))
        clear HAP HSK HMB hmb HO2 HNX2 hyr hrun
        go_wp2_with fail
        refine ⟨rfl, rfl, ⟨rfl, rfl, rfl, j + 1, k2, _, _, _, by omega, rfl, rfl, ?_, HJ'⟩, ?_⟩
        · show Value.int .i64 _ = _
          go_num
        · show args.length - (intOf (Value.int .i64 _)).toNat < args.length - (intOf (F2 9)).toNat
          rw [H9.out]
          simp [intOf]; omega
    · obtain ⟨y, rfl, hy256⟩ := hyr hy1
      have hyn : ((y : Int) != -1) = true := by simp [hy1]
      have hye : ((y : Int) == -1) = false := by simp [hy1]
      have huy := HUS.out y hy256
      have y0 : (0 : Int) ≤ (y : Int) := by omega
      have y1 : (y : Int) < 256 := by omega
      have y2 : ((y : Int)).toNat = y := by omega
      have y3 : 6 + y < CI.length := by have := HCL.out; omega
      have HTN : Hid (s.U ((y : Int)).toNat = s.U y) := by rw [y2]; exact hid_of rfl
      obtain ⟨uv, huv⟩ : ∃ uv, uv = s.U y := ⟨_, rfl⟩
      rw [← huv] at huy HTN
      by_cases hu : 0 < uv
      · have hu' : (0 : Int) < uv := hu
        have HJ' := hid_of (HSK.out (.inl ⟨hy1, by rw [HTN.out]; exact hu⟩))
        clear HAP HSK HMB HO2 HNX2 hyr hrun huv HUS hho
        go_wp2_with fail
        refine ⟨rfl, rfl, ⟨rfl, rfl, rfl, j + 1, k2, _, _, _, by omega, rfl, rfl, ?_, HJ'⟩, ?_⟩
        · show Value.int .i64 _ = _
          go_num
        · show args.length - (intOf (Value.int .i64 _)).toNat < args.length - (intOf (F2 9)).toNat
          rw [H9.out]
          simp [intOf]; omega
      · have hu' : ¬ (0 : Int) < uv := hu
        have hnc : ¬ ((y : Int) ≠ -1 ∧ 0 < s.U ((y : Int)).toNat) := fun h => hu (by rw [← HTN.out]; exact h.2)
        have HNC := hid_of hnc
        clear hnc huv HUS
        go_wp2_with fail
        refine hho.mono ?_
        rintro en V6 ⟨rfl, e9⟩
        replace e9 := e9.symm
        subst e9
        clear hho
        dsimp only
        cases hmb : mb
        · have hnm : nm ∉ fs2 := of_decide_eq_false (HMB.out.symm.trans hmb)
          have HJ' := hid_of (HAP.out (fun h => h.elim HNC.out hnm) k2 (by rw [if_neg hy1]; rfl))
          clear HAP HSK HMB hmb HO2 HNX2 hyr
          go_wp2_with (at_builtin; refine wpList_append_run rfl _ _ 43 rfl _ _ _ _ rfl rfl hrun ?_)
          refine ⟨rfl, rfl, ⟨rfl, rfl, rfl, j + 1, k2, _, _, _, by omega, rfl, rfl, ?_, HJ'⟩, ?_⟩
          · show Value.int .i64 _ = _
            go_num
          · show args.length - (intOf (Value.int .i64 _)).toNat < args.length - (intOf (F2 9)).toNat
            rw [H9.out]
            simp [intOf]; omega
        · have hnm : nm ∈ fs2 := of_decide_eq_true (HMB.out.symm.trans hmb)
          have HJ' := hid_of (HSK.out (.inr hnm))
          clear HAP HSK HMB hmb HO2 HNX2 hyr hrun
          go_wp2_with fail
          refine ⟨rfl, rfl, ⟨rfl, rfl, rfl, j + 1, k2, _, _, _, by omega, rfl, rfl, ?_, HJ'⟩, ?_⟩
          · show Value.int .i64 _ = _
            go_num
          · show args.length - (intOf (Value.int .i64 _)).toNat < args.length - (intOf (F2 9)).toNat
            rw [H9.out]
            simp [intOf]; omega
end Go.Proofs.Qxb6500787aGreat
