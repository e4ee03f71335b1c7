import Derived.Test.Qxb6500787aGreatNd
import Derived.Test.Qxb6500787aGreatWa
import Derived.Test.Qxb6500787aGreatMm

import Derived.StillTailTactics
import Derived.Deep.QuietTactic
import Derived.BigQuiet
import Derived.Deep.RegionHeld
import Derived.Deep.CutRange
import Derived.Laws.ResultCell
import Derived.Laws.Rows
import Derived.DeepKeys
import Derived.DataBytes
import Derived.Laws.StructEq
import Derived.Laws.AppendOwn
import Derived.Laws.MakeOwn
import Derived.Lib.AppendStr
set_option linter.unusedSimpArgs false
set_option linter.unusedVariables false
namespace Go.Proofs.Qxb6500787aGreat
open Go.RowKit Go.Blk
attribute [local go_sem ↓] execOp_load execOp_store execOp_alloc
attribute [local go_sem] Tryz.ld26 Tryz.st26 Tryz.ld27 Tryz.st27 Tryz.ld28 Tryz.st28 Tryz.ld3 Tryz.st3 Tryz.ld29 Tryz.st29 Tryz.ld44 Tryz.st44 Tryz.ld4 Tryz.st4 Tryz.ld50 Tryz.st50 Tryz.ld32 Tryz.st32 Tryz.ld49 Tryz.st49 Tryz.ld68 Tryz.st68 Tryz.ld9 Tryz.st9 Tryz.ld40 Tryz.st40 Tryz.ld138 Tryz.st138 Tryz.ld139 Tryz.st139 Tryz.ld146 Tryz.st146 Tryz.ld183 Tryz.st183 Tryz.ld184 Tryz.st184 Tryz.ld192 Tryz.st192 Tryz.ld195 Tryz.st195 Tryz.ld217 Tryz.st217 Tryz.ld159 Tryz.st159 Tryz.ld142 Tryz.st142 Tryz.ld2 Tryz.st2 Tryz.ld5 Tryz.st5 Tryz.ld12 Tryz.st12 Tryz.ld21 Tryz.st21 Tryz.ld22 Tryz.st22 Tryz.ld24 Tryz.st24 Tryz.ld58 Tryz.st58 Tryz.ld97 Tryz.st97 Tryz.ld101 Tryz.st101 Tryz.ld116 Tryz.st116 Tryz.ld121 Tryz.st121 Tryz.ld135 Tryz.st135 Tryz.ld136 Tryz.st136 Tryz.ld143 Tryz.st143 Tryz.ld148 Tryz.st148 Tryz.ld154 Tryz.st154 Tryz.ld173 Tryz.st173 Tryz.ld187 Tryz.st187 Tryz.ld222 Tryz.st222 Tryz.ld241 Tryz.st241 Tryz.ld248 Tryz.st248 Tryz.ld268 Tryz.st268 Tryz.ld272 Tryz.st272 Tryz.ld153 Tryz.st153 Tryz.ld255 Tryz.st255 Tryz.ld256 Tryz.st256 Tryz.ld129 Tryz.st129 Tryz.ld152 Tryz.st152 Tryz.ld31 Tryz.st31 Tryz.ld46 Tryz.st46 Tryz.ld52 Tryz.st52 Tryz.ld54 Tryz.st54 Tryz.ld60 Tryz.st60 Tryz.ld70 Tryz.st70 Tryz.ld74 Tryz.st74 Tryz.ld93 Tryz.st93 Tryz.ld141 Tryz.st141 Tryz.ld151 Tryz.st151 Tryz.ld170 Tryz.st170 Tryz.ld186 Tryz.st186 Tryz.ld189 Tryz.st189 Tryz.ld194 Tryz.st194 Tryz.ld197 Tryz.st197 Tryz.ld219 Tryz.st219 Tryz.ld224 Tryz.st224 Tryz.ld230 Tryz.st230 Tryz.ld235 Tryz.st235 Tryz.ld243 Tryz.st243 Tryz.ld247 Tryz.st247 Tryz.ld252 Tryz.st252 Tryz.ld258 Tryz.st258 Tryz.al153 Tryz.al255 Tryz.al256 Tryz.al129 Tryz.al152 Tryz.al31 Tryz.al46 Tryz.al52 Tryz.al54 Tryz.al60 Tryz.al70 Tryz.al74 Tryz.al93 Tryz.al141 Tryz.al151 Tryz.al170 Tryz.al186 Tryz.al189 Tryz.al194 Tryz.al197 Tryz.al219 Tryz.al224 Tryz.al230 Tryz.al235 Tryz.al243 Tryz.al247 Tryz.al252 Tryz.al258
attribute [local go_sem] Request.length_enc Request.ok_enc Request.all_get Request.all_set Request.kind_get Request.kind_set Request.blob_get Request.blob_set Request.items_get Request.items_set Request.pred_get Request.pred_set Request.slots_get Request.slots_set Trace.length_enc Trace.ok_enc Trace.all_get Trace.all_set Trace.op_get Trace.op_set Trace.calls_get Trace.calls_set Item.length_enc Item.ok_enc Item.all_get Item.all_set Item.del_get Item.del_set Item.pred_get Item.pred_set Item.args_get Item.args_set Reply.length_enc Reply.ok_enc Reply.all_get Reply.all_set Reply.code_get Reply.code_set Reply.kind_get Reply.kind_set Reply.index_get Reply.index_set Reply.yes_get Reply.yes_set Reply.preds_get Reply.preds_set Reply.rules_get Reply.rules_set Reply.arity_get Reply.arity_set Reply.rows_get Reply.rows_set Reply.fact_get Reply.fact_set Reply.fact_del_get Reply.fact_del_set Reply.fact_pred_get Reply.fact_pred_set Reply.fact_args_get Reply.fact_args_set GEntry.length_enc GEntry.ok_enc GEntry.all_get GEntry.all_set GEntry.seq_get GEntry.seq_set GEntry.kind_get GEntry.kind_set GEntry.code_get GEntry.code_set GOp.length_enc GOp.ok_enc GOp.all_get GOp.all_set GOp.kind_get GOp.kind_set GOp.raw_get GOp.raw_set Reader.length_enc Reader.ok_enc Reader.all_get Reader.all_set Reader.buf_get Reader.buf_set Reader.at__get Reader.at__set Slot.length_enc Slot.ok_enc Slot.all_get Slot.all_set Slot.bound_get Slot.bound_set Slot.name_get Slot.name_set Session.length_enc Session.ok_enc Session.all_get Session.all_set Session.svc_get Session.svc_set Session.buf_get Session.buf_set Session.closed_get Session.closed_set GProgram.length_enc GProgram.ok_enc GProgram.all_get GProgram.all_set GProgram.pool_get GProgram.pool_set GProgram.preds_get GProgram.preds_set GProgram.rules_get GProgram.rules_set GProgram.strata_get GProgram.strata_set PredInfo.length_enc PredInfo.ok_enc PredInfo.all_get PredInfo.all_set PredInfo.arity_get PredInfo.arity_set PredInfo.base_get PredInfo.base_set PredInfo.stratum_get PredInfo.stratum_set Change.length_enc Change.ok_enc Change.all_get Change.all_set Change.del_get Change.del_set Change.pred_get Change.pred_set Change.t_get Change.t_set Store.length_enc Store.ok_enc Store.all_get Store.all_set Store.names_get Store.names_set Store.arity_get Store.arity_set Store.rows_get Store.rows_set Src.length_enc Src.ok_enc Src.all_get Src.all_set Src.b_get Src.b_set Src.at__get Src.at__set Atom.length_enc Atom.ok_enc Atom.all_get Atom.all_set Atom.pred_get Atom.pred_set Atom.args_get Atom.args_set GRule.length_enc GRule.ok_enc GRule.all_get GRule.all_set GRule.head_get GRule.head_set GRule.body_get GRule.body_set GRule.head_pred_get GRule.head_pred_set GRule.head_args_get GRule.head_args_set Cert.length_enc Cert.ok_enc Cert.all_get Cert.all_set Cert.names_get Cert.names_set Cert.nodes_get Cert.nodes_set Fact.length_enc Fact.ok_enc Fact.all_get Fact.all_set Fact.pred_get Fact.pred_set Fact.t_get Fact.t_set Literal.length_enc Literal.ok_enc Literal.all_get Literal.all_set Literal.neg_get Literal.neg_set Literal.atom_get Literal.atom_set Literal.atom_pred_get Literal.atom_pred_set Literal.atom_args_get Literal.atom_args_set Engine.length_enc Engine.ok_enc Engine.all_get Engine.all_set Engine.prog_get Engine.prog_set Engine.st_get Engine.st_set SrcCertm.length_enc SrcCertm.ok_enc SrcCertm.all_get SrcCertm.all_set SrcCertm.b_get SrcCertm.b_set SrcCertm.at__get SrcCertm.at__set GNode.length_enc GNode.ok_enc GNode.all_get GNode.all_set GNode.rule_get GNode.rule_set GNode.pred_get GNode.pred_set GNode.vals_get GNode.vals_set GNode.refs_get GNode.refs_set Term.length_enc Term.ok_enc Term.all_get Term.all_set Term.var_get Term.var_set Term.n_get Term.n_set Env.length_enc Env.ok_enc Env.all_get Env.all_set Env.val_get Env.val_set Env.set_get Env.set_set
attribute [local go_sem] size_put size_ext blk_put free_put blk_alloc free_alloc blk_drew free_drew blk_ext free_ext lookOr_some putOr_some segAt_some cellAt_some storeIn_some put_put put_alloc_new length_arr ok_arr_u8 ok_arr_u32 ok_arr_u64 ok_arr_i64 ok_arr_sl cellsV_agg cellsV_int cellsV_bool cellsV_string cellsV_pointer cellsV_slice cellsV_sl ok_int ok_bool ok_string ok_pointer ok_slice ok_sl toList_arr seg_arr set_arr nth_splice nth_splice0 seg_splice seg_splice0 splice_splice splice_splice0 length_splice_if
attribute [local go_sem ↓] execOp_box
attribute [local go_sem] box_run nth_arr_u8 put_arr_u8 blk_drewN free_drewN put_drewN blk_raw free_raw
theorem zu8_2 (a b : Nat) (ha : a ≤ 255) (hb : b ≤ 255) : #[Value.int .u8 (a : Int), .int .u8 (b : Int)] = (bv [UInt8.ofNat a, UInt8.ofNat b]).toArray := by rw [u8_of2 _ _ ha hb]
theorem u8_ofk (a : Nat) (ha : a ≤ 255) : u8v (UInt8.ofNat a) = .int .u8 (a : Int) := by
  unfold u8v w8
  rw [UInt8.toNat_ofNat', Nat.mod_eq_of_lt (by omega)]
attribute [local go_sem ↓] execOp_bslice execOp_convert execOp_build
attribute [local go_sem] bslice27a bslice27b bslice27c
set_option maxRecDepth 20000 in
theorem refusal_any (W : World) (cd kd : Nat) (h1 : cd ≤ 255) (h2 : kd ≤ 255) : Calls Tryz.prog 55 #[.int .i64 (cd : Int), .int .i64 (kd : Int)] W (EnPost W [UInt8.ofNat cd, UInt8.ofNat kd]) := by
  have u0 : IntKind.u8.wrap (cd : Int) = (cd : Int) := by rw [IntKind.wrap_u8]; omega
  have u1 : IntKind.u8.wrap (kd : Int) = (kd : Int) := by rw [IntKind.wrap_u8]; omega
  have ho1 := ob_new (ext_Ext (Ext.refl W)) [UInt8.ofNat cd, UInt8.ofNat kd] (by simp) #[.int .u8 (cd : Int), .int .u8 (kd : Int)] (by rw [u8_of2 _ _ h1 h2]) 2 rfl
  have HP : Hid (EnPost W [UInt8.ofNat cd, UInt8.ofNat kd] (.returned (.slice (some ⟨W.heap.size, 0, none⟩) 2 2)) (W.alloc (.cells #[.int .u8 (cd : Int), .int .u8 (kd : Int)] 5))) := ⟨_, _, _, rfl, ho1⟩
  clear ho1
  go_enter Tryz.func55, Tryz.ntmps55
  go_wp2_with fail
  go_ret
  exact HP.out
/-- The reply to an update that is refused because of an item. -/
def rfA (cd kd i : Nat) : List UInt8 := if kd = 4 then [UInt8.ofNat cd, UInt8.ofNat kd, UInt8.ofNat i] else [UInt8.ofNat cd, UInt8.ofNat kd]
set_option maxRecDepth 20000 in
theorem zrefusalAt_any (W : World) (cd kd i : Nat) (h1 : cd ≤ 255) (h2 : kd ≤ 255) (h3 : i ≤ 255) : Calls Tryz.prog 107 #[.int .i64 (cd : Int), .int .i64 (kd : Int), .int .i64 (i : Int)] W (EnPost W (rfA cd kd i)) := by
  have hrf := refusal_any W cd kd h1 h2
  by_cases h4 : kd = 4
  · have u0 : IntKind.u8.wrap (cd : Int) = (cd : Int) := by rw [IntKind.wrap_u8]; omega
    have u1 : IntKind.u8.wrap (kd : Int) = (kd : Int) := by rw [IntKind.wrap_u8]; omega
    have u2 : IntKind.u8.wrap (i : Int) = (i : Int) := by rw [IntKind.wrap_u8]; omega
    have ho1 := ob_new (ext_Ext (Ext.refl W)) [UInt8.ofNat cd, UInt8.ofNat kd, UInt8.ofNat i] (by simp) #[.int .u8 (cd : Int), .int .u8 (kd : Int), .int .u8 (i : Int)] (by show _ = (List.map u8v _).toArray; rw [List.map_cons, List.map_cons, List.map_cons, List.map_nil, u8_ofk _ h1, u8_ofk _ h2, u8_ofk _ h3]) 3 rfl
    have HP : Hid (EnPost W (rfA cd kd i) (.returned (.slice (some ⟨W.heap.size, 0, none⟩) 3 3)) (W.alloc (.cells #[.int .u8 (cd : Int), .int .u8 (kd : Int), .int .u8 (i : Int)] 5))) := ⟨_, _, _, rfl, by unfold rfA; rw [if_pos h4]; exact ho1⟩
    have hk : ((kd : Int) == 4) = true := by simp; omega
    have hk2 : (kd : Int) = 4 := by omega
    clear ho1 hrf
    go_enter Tryz.func107, Tryz.ntmps107
    go_wp2_with fail
    try go_ret
    first | exact HP.out | (subst h4; exact HP.out)
  · have hk : ((kd : Int) == 4) = false := by simp; omega
    have hk2 : ¬ (kd : Int) = 4 := by omega
    have e : rfA cd kd i = [UInt8.ofNat cd, UInt8.ofNat kd] := by unfold rfA; rw [if_neg h4]
    rw [e]
    have HRF := hid_of hrf
    clear hrf e
    go_enter Tryz.func107, Tryz.ntmps107
    go_wp2_with fail
    refine HRF.out.mono ?_
    rintro e V ⟨a, n, c, rfl, ho⟩
    dsimp only
    have HP : Hid (EnPost W [UInt8.ofNat cd, UInt8.ofNat kd] (.returned (.slice a n c)) V) := ⟨_, _, _, rfl, ho⟩
    clear ho
    go_wp2_with fail
    try go_ret
    exact HP.out
def zPr (w0 W0 : World) (zs : List UInt8) (r : NRow) (ra : Option Addr) (rn rc : Nat) (f : Nat → Value) (V : World) : Prop := f 1 = .slice ra rn rc ∧ ∃ (i : Nat) (a : Option Addr) (n c : Nat), i ≤ rn ∧ f 5 = .int .i64 (i : Nat) ∧ f 0 = .slice a n c ∧ Hid (Ob w0 V a n c (zs ++ (r.take i).flatMap encN) ∧ Nb W0 V)
set_option maxRecDepth 100000 in
theorem zframe28p (f : Nat → Value) : frameN 28 f = #[f 0, f 1, f 2, f 3, f 4, f 5, f 6, f 7, f 8, f 9, f 10, f 11, f 12, f 13, f 14, f 15, f 16, f 17, f 18, f 19, f 20, f 21, f 22, f 23, f 24, f 25, f 26, f 27] := by kernel_rfl
theorem flatN_len : ∀ (r : NRow), (∀ x ∈ r, x.length ≤ 64) → (r.flatMap encN).length ≤ 65 * r.length
  | [], _ => by simp
  | x :: r, h => by
    have h1 := h x List.mem_cons_self
    have ih := flatN_len r (fun y hy => h y (List.mem_cons_of_mem _ hy))
    rw [List.flatMap_cons, List.length_append, List.length_cons]
    have h2 : (encN x).length = x.length + 1 := by unfold encN; simp
    omega
set_option maxRecDepth 20000 in
set_option maxHeartbeats 1000000 in
theorem putRow_any (w0 W : World) (a : Option Addr) (n c : Nat) (zs : List UInt8) (h : Ob w0 W a n c zs) (hl : zs.length ≤ 300000) (ra : Option Addr) (rn rc : Nat) (r : NRow) (h4 : rn ≤ 4) (hR : ∀ W', w0.Extends W' → Nb W W' → Rw encS 1 W' ra rn r) (hV : ∀ x ∈ r, x.length ≤ 64) : Calls Tryz.prog 108 #[.slice a n c, .slice ra rn rc] W (PutPost w0 W (zs ++ r.flatMap encN)) := by
  have HO : Hid (Ob w0 W a n c zs) := h
  have HR := hid_of hR
  have HV := hid_of hV
  have hrn : r.length = rn := (hR W h.2.1 (Nb.refl W)).1
  have HRN := hid_of hrn
  obtain ⟨Q, hQ⟩ : ∃ Q, Q = PutPost w0 W (zs ++ r.flatMap encN) := ⟨_, rfl⟩
  rw [← hQ]
  have HQ := hid_of hQ
  clear hQ h hR hV hrn
  go_enter Tryz.func108, Tryz.ntmps108
  go_wp2_with fail
  refine wp_loop_f 28 (zPr w0 W zs r ra rn rc) (fun f _ => rn - (intOf (f 5)).toNat) rfl ⟨rfl, 0, a, n, c, by omega, rfl, rfl, ⟨by simpa using HO.out, Nb.refl W⟩⟩ ?_
  intro F V hrel
  obtain ⟨f1, i, a1, n1, c1, hi, f5, f0, HI⟩ := hrel
  have H5 := hid_of f5
  rw [zframe28p, f0, f1, f5]
  clear f0 f1 f5
  by_cases hin : i < rn
  rotate_left 1
  · obtain rfl : i = rn := by omega
    have hin' : ¬ (i : Int) < (i : Int) := by omega
    have HP : Hid (Q (.returned (.slice a1 n1 c1)) V) := by
      show Q _ _
      rw [HQ.out]
      have h9 := HI.out.1
      rw [List.take_of_length_le (by rw [HRN.out]; omega)] at h9
      exact ⟨a1, n1, c1, rfl, h9, HI.out.2⟩
    clear HI
    go_wp2_with fail
    try go_ret
    exact HP.out
  have hin' : (i : Int) < (rn : Int) := by omega
  have p0 : (0 : Int) ≤ (i : Int) := by omega
  have p2 : ((i : Int)).toNat = i := by omega
  obtain ⟨x, hx⟩ : ∃ x, r[i]? = some x := ⟨_, List.getElem?_eq_getElem (by rw [HRN.out]; exact hin)⟩
  have hx64 := HV.out x (List.mem_of_getElem? hx)
  have htl := flatN_len (r.take i) (fun y hy => HV.out y (List.mem_of_mem_take hy))
  rw [List.length_take] at htl
  obtain ⟨k, hk⟩ : ∃ k, k = x.length := ⟨_, rfl⟩
  have hu : bv [UInt8.ofNat x.length] = [.int .u8 (k : Int)] := by
    show List.map u8v _ = _
    rw [List.map_cons, List.map_nil, u8_ofk _ (by omega), hk]
  obtain ⟨b1, C1, rfl, h1, h2, h3⟩ := str_at (HR.out V HI.out.1.2.1 HI.out.2) hx
  obtain ⟨a2, c2, W2, hr2, ho2, hn2⟩ := ob_app HI.out.1 (by rw [List.length_append]; omega) [UInt8.ofNat x.length] (by simp) (by simp) #[.int .u8 (k : Int)] (by rw [hu]) 1 rfl
  obtain ⟨a3, c3, W3, hr3, ho3, hn3⟩ := ob_str ho2 (by rw [List.length_append, List.length_append, List.length_singleton]; omega) x (by omega)
  obtain ⟨b9, C9, e9, m1, m2, m3⟩ := str_at (HR.out W2 ho2.2.1 (HI.out.2.trans hn2)) hx
  have eb : b9 = b1 := by cases e9; rfl
  subst eb
  have HJ : Hid (Ob w0 W3 a3 (n1 + 1 + k) c3 (zs ++ (r.take (i + 1)).flatMap encN) ∧ Nb W W3) := by
    refine ⟨?_, HI.out.2.trans (hn2.trans hn3)⟩
    rw [take_at hx, List.flatMap_append, List.flatMap_cons, List.flatMap_nil, List.append_nil]
    rw [List.append_assoc, List.append_assoc] at ho3
    rw [hk]
    exact ho3
  obtain ⟨s, hs⟩ : ∃ s : ByteArray, s = ⟨x.toArray⟩ := ⟨_, rfl⟩
  have hss : s.size = k := by rw [hs, hk]; simp [ByteArray.size]
  rw [← hs] at hr3 h3 m3
  rw [← hk] at hr3
  have w1 : IntKind.u8.wrap (k : Int) = (k : Int) := by rw [IntKind.wrap_u8]; omega
  clear hu ho2 ho3 hs hk hn2 hn3 HI hx e9 htl hx64
  go_wp2_with (at_builtin; first | refine wpList_append_run rfl _ _ 31 rfl _ _ _ _ rfl rfl hr2 ?_ | refine wpList_append_run2 rfl _ _ 31 9 rfl _ _ _ _ rfl rfl hr3 ?_)
  refine ⟨rfl, rfl, ⟨rfl, i + 1, a3, _, c3, by omega, ?_, rfl, HJ.out⟩, ?_⟩
  · show Value.int .i64 _ = _
    go_num
  · show rn - (intOf (Value.int .i64 _)).toNat < rn - (intOf (F 5)).toNat
    rw [H5.out]
    simp [intOf]; omega
set_option maxRecDepth 20000 in
set_option maxHeartbeats 2000000 in
theorem zless_any (W : World) (a b : Option Addr) (n ac bc : Nat) (hn : n ≤ 1000000) (A B : List (List UInt8)) (hA : Rw encS 1 W a n A) (hB : Rw encS 1 W b n B) : Calls Tryz.prog 45 #[.slice a n ac, .slice b n bc] W fun e V => e = .returned (.bool (rlF A B)) ∧ ∃ k, V = W.drewN k := by
  have HA := hid_of hA
  have HB := hid_of hB
  obtain ⟨res, hres⟩ : ∃ res, res = rlF A B := ⟨_, rfl⟩
  rw [← hres]
  have HRES := hid_of hres
  clear hA hB hres
  go_enter Tryz.func45, Tryz.ntmps45
  go_wp2_with fail
  refine wp_loop_f 30 (rwlI W a b n ac bc A B) (fun f _ => n - (intOf (f 5)).toNat) rfl ⟨rfl, rfl, 0, by omega, rfl, ⟨0, rfl⟩, rfl⟩ ?_
  intro F V hrel
  obtain ⟨f0, f1, i, hi, f5, HJ⟩ := hrel
  have H5 := hid_of f5
  rw [frame30l, f0, f1, f5]
  clear f0 f1 f5
  by_cases hin : i < n
  · have hin' : (i : Int) < (n : Int) := by omega
    obtain ⟨x, hx⟩ : ∃ x, A[i]? = some x := ⟨_, List.getElem?_eq_getElem (by rw [HA.out.1]; exact hin)⟩
    obtain ⟨y, hy⟩ : ∃ y, B[i]? = some y := ⟨_, List.getElem?_eq_getElem (by rw [HB.out.1]; exact hin)⟩
    obtain ⟨b1, C1, rfl, h1, h2, h3⟩ := str_at HA.out hx
    obtain ⟨b2, C2, rfl, k1, k2, k3⟩ := str_at HB.out hy
    have hstep : rlF (A.drop i) (B.drop i) = if x ≠ y then bLt x y else rlF (A.drop (i + 1)) (B.drop (i + 1)) := by
      rw [dropA_at hx, dropA_at hy]; rfl
    have HST := hid_of hstep
    have p0 : (0 : Int) ≤ (i : Int) := by omega
    have p2 : ((i : Int)).toNat = i := by omega
    have hV1 : blk V b1 = some C1 := by obtain ⟨⟨k, hk⟩, -⟩ := HJ.out; rw [hk]; exact h1
    have hV2 : blk V b2 = some C2 := by obtain ⟨⟨k, hk⟩, -⟩ := HJ.out; rw [hk]; exact k1
    clear h1 k1 hx hy hstep
    by_cases hxy : x = y
    · subst hxy
      have HJ' : Hid ((∃ k, V = W.drewN k) ∧ rlF A B = rlF (A.drop (i + 1)) (B.drop (i + 1))) := ⟨HJ.out.1, by rw [HJ.out.2, HST.out, if_neg (fun e => e rfl)]⟩
      obtain ⟨z, hz⟩ : ∃ z : ByteArray, z = ⟨x.toArray⟩ := ⟨_, rfl⟩
      rw [← hz] at h3 k3
      clear hz HST HJ
      go_upto_region 4 with fail
      go_quiet (fail)
      go_wp2_with fail
      refine ⟨rfl, rfl, ⟨rfl, rfl, i + 1, by omega, ?_, ?_⟩, ?_⟩
      · show Value.int .i64 _ = _
        go_num
      · obtain ⟨⟨k, hk⟩, h9⟩ := HJ'.out
        exact ⟨⟨_, by rw [hk, World.drewN_drewN]⟩, h9⟩
      · show n - (intOf (Value.int .i64 _)).toNat < n - (intOf (F 5)).toNat
        rw [H5.out]
        simp [intOf]; omega
    · have hbe := str_beq hxy
      have HRB : Hid (res = Op.bytesLess x y) := by
        show _ = _
        rw [HRES.out, HJ.out.2, HST.out, if_pos hxy]; rfl
      have hne := str_ne hxy
      clear HST
      go_upto_region 4 with fail
      go_quiet (fail)
      go_upto_region 5 with fail
      go_quiet (fail)
      go_wp2_with fail
      try go_ret
      obtain ⟨⟨k, hk⟩, -⟩ := HJ.out
      refine ⟨?_, ⟨_, by rw [hk, World.drewN_drewN, World.drewN_drewN]⟩⟩
      show Ending.returned (.bool _) = _
      rw [HRB.out]
      try simp only [ByteArray.toList_mk]
  · obtain rfl : i = n := by omega
    have hin' : ¬ ((i : Int) < (i : Int)) := by omega
    have hrb : res = false := by
      rw [HRES.out, HJ.out.2, List.drop_eq_nil_of_le (by rw [HA.out.1]; omega)]
      cases B.drop i <;> rfl
    subst hrb
    go_wp2_with fail
    go_ret
    exact ⟨rfl, HJ.out.1⟩
end Go.Proofs.Qxb6500787aGreat
