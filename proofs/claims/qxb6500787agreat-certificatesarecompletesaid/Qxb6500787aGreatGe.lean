import Derived.Test.Qxb6500787aGreatGd

import Derived.StillTailTactics
import Derived.Deep.QuietTactic
import Derived.BigQuiet
import Derived.Deep.RegionHeld
import Derived.Deep.CutRange
import Derived.Laws.ResultCell
import Derived.Laws.Rows
import Derived.DeepKeys
import Derived.DataBytes
import Derived.Laws.StructEq
import Derived.Laws.AppendOwn
import Derived.Laws.MakeOwn
import Derived.Lib.AppendStr
set_option linter.unusedSimpArgs false
set_option linter.unusedVariables false
namespace Go.Proofs.Qxb6500787aGreat
open Go.RowKit Go.Blk
attribute [local go_sem ↓] execOp_load execOp_store execOp_alloc
attribute [local go_sem] Tryz.ld26 Tryz.st26 Tryz.ld27 Tryz.st27 Tryz.ld28 Tryz.st28 Tryz.ld3 Tryz.st3 Tryz.ld29 Tryz.st29 Tryz.ld44 Tryz.st44 Tryz.ld4 Tryz.st4 Tryz.ld50 Tryz.st50 Tryz.ld32 Tryz.st32 Tryz.ld49 Tryz.st49 Tryz.ld68 Tryz.st68 Tryz.ld9 Tryz.st9 Tryz.ld40 Tryz.st40 Tryz.ld138 Tryz.st138 Tryz.ld139 Tryz.st139 Tryz.ld146 Tryz.st146 Tryz.ld183 Tryz.st183 Tryz.ld184 Tryz.st184 Tryz.ld192 Tryz.st192 Tryz.ld195 Tryz.st195 Tryz.ld217 Tryz.st217 Tryz.ld159 Tryz.st159 Tryz.ld142 Tryz.st142 Tryz.ld2 Tryz.st2 Tryz.ld5 Tryz.st5 Tryz.ld12 Tryz.st12 Tryz.ld21 Tryz.st21 Tryz.ld22 Tryz.st22 Tryz.ld24 Tryz.st24 Tryz.ld58 Tryz.st58 Tryz.ld97 Tryz.st97 Tryz.ld101 Tryz.st101 Tryz.ld116 Tryz.st116 Tryz.ld121 Tryz.st121 Tryz.ld135 Tryz.st135 Tryz.ld136 Tryz.st136 Tryz.ld143 Tryz.st143 Tryz.ld148 Tryz.st148 Tryz.ld154 Tryz.st154 Tryz.ld173 Tryz.st173 Tryz.ld187 Tryz.st187 Tryz.ld222 Tryz.st222 Tryz.ld241 Tryz.st241 Tryz.ld248 Tryz.st248 Tryz.ld268 Tryz.st268 Tryz.ld272 Tryz.st272 Tryz.ld153 Tryz.st153 Tryz.ld255 Tryz.st255 Tryz.ld256 Tryz.st256 Tryz.ld129 Tryz.st129 Tryz.ld152 Tryz.st152 Tryz.ld31 Tryz.st31 Tryz.ld46 Tryz.st46 Tryz.ld52 Tryz.st52 Tryz.ld54 Tryz.st54 Tryz.ld60 Tryz.st60 Tryz.ld70 Tryz.st70 Tryz.ld74 Tryz.st74 Tryz.ld93 Tryz.st93 Tryz.ld141 Tryz.st141 Tryz.ld151 Tryz.st151 Tryz.ld170 Tryz.st170 Tryz.ld186 Tryz.st186 Tryz.ld189 Tryz.st189 Tryz.ld194 Tryz.st194 Tryz.ld197 Tryz.st197 Tryz.ld219 Tryz.st219 Tryz.ld224 Tryz.st224 Tryz.ld230 Tryz.st230 Tryz.ld235 Tryz.st235 Tryz.ld243 Tryz.st243 Tryz.ld247 Tryz.st247 Tryz.ld252 Tryz.st252 Tryz.ld258 Tryz.st258 Tryz.al153 Tryz.al255 Tryz.al256 Tryz.al129 Tryz.al152 Tryz.al31 Tryz.al46 Tryz.al52 Tryz.al54 Tryz.al60 Tryz.al70 Tryz.al74 Tryz.al93 Tryz.al141 Tryz.al151 Tryz.al170 Tryz.al186 Tryz.al189 Tryz.al194 Tryz.al197 Tryz.al219 Tryz.al224 Tryz.al230 Tryz.al235 Tryz.al243 Tryz.al247 Tryz.al252 Tryz.al258
attribute [local go_sem] Request.length_enc Request.ok_enc Request.all_get Request.all_set Request.kind_get Request.kind_set Request.blob_get Request.blob_set Request.items_get Request.items_set Request.pred_get Request.pred_set Request.slots_get Request.slots_set Trace.length_enc Trace.ok_enc Trace.all_get Trace.all_set Trace.op_get Trace.op_set Trace.calls_get Trace.calls_set Item.length_enc Item.ok_enc Item.all_get Item.all_set Item.del_get Item.del_set Item.pred_get Item.pred_set Item.args_get Item.args_set Reply.length_enc Reply.ok_enc Reply.all_get Reply.all_set Reply.code_get Reply.code_set Reply.kind_get Reply.kind_set Reply.index_get Reply.index_set Reply.yes_get Reply.yes_set Reply.preds_get Reply.preds_set Reply.rules_get Reply.rules_set Reply.arity_get Reply.arity_set Reply.rows_get Reply.rows_set Reply.fact_get Reply.fact_set Reply.fact_del_get Reply.fact_del_set Reply.fact_pred_get Reply.fact_pred_set Reply.fact_args_get Reply.fact_args_set GEntry.length_enc GEntry.ok_enc GEntry.all_get GEntry.all_set GEntry.seq_get GEntry.seq_set GEntry.kind_get GEntry.kind_set GEntry.code_get GEntry.code_set GOp.length_enc GOp.ok_enc GOp.all_get GOp.all_set GOp.kind_get GOp.kind_set GOp.raw_get GOp.raw_set Reader.length_enc Reader.ok_enc Reader.all_get Reader.all_set Reader.buf_get Reader.buf_set Reader.at__get Reader.at__set Slot.length_enc Slot.ok_enc Slot.all_get Slot.all_set Slot.bound_get Slot.bound_set Slot.name_get Slot.name_set Session.length_enc Session.ok_enc Session.all_get Session.all_set Session.svc_get Session.svc_set Session.buf_get Session.buf_set Session.closed_get Session.closed_set GProgram.length_enc GProgram.ok_enc GProgram.all_get GProgram.all_set GProgram.pool_get GProgram.pool_set GProgram.preds_get GProgram.preds_set GProgram.rules_get GProgram.rules_set GProgram.strata_get GProgram.strata_set PredInfo.length_enc PredInfo.ok_enc PredInfo.all_get PredInfo.all_set PredInfo.arity_get PredInfo.arity_set PredInfo.base_get PredInfo.base_set PredInfo.stratum_get PredInfo.stratum_set Change.length_enc Change.ok_enc Change.all_get Change.all_set Change.del_get Change.del_set Change.pred_get Change.pred_set Change.t_get Change.t_set Store.length_enc Store.ok_enc Store.all_get Store.all_set Store.names_get Store.names_set Store.arity_get Store.arity_set Store.rows_get Store.rows_set Src.length_enc Src.ok_enc Src.all_get Src.all_set Src.b_get Src.b_set Src.at__get Src.at__set Atom.length_enc Atom.ok_enc Atom.all_get Atom.all_set Atom.pred_get Atom.pred_set Atom.args_get Atom.args_set GRule.length_enc GRule.ok_enc GRule.all_get GRule.all_set GRule.head_get GRule.head_set GRule.body_get GRule.body_set GRule.head_pred_get GRule.head_pred_set GRule.head_args_get GRule.head_args_set Cert.length_enc Cert.ok_enc Cert.all_get Cert.all_set Cert.names_get Cert.names_set Cert.nodes_get Cert.nodes_set Fact.length_enc Fact.ok_enc Fact.all_get Fact.all_set Fact.pred_get Fact.pred_set Fact.t_get Fact.t_set Literal.length_enc Literal.ok_enc Literal.all_get Literal.all_set Literal.neg_get Literal.neg_set Literal.atom_get Literal.atom_set Literal.atom_pred_get Literal.atom_pred_set Literal.atom_args_get Literal.atom_args_set Engine.length_enc Engine.ok_enc Engine.all_get Engine.all_set Engine.prog_get Engine.prog_set Engine.st_get Engine.st_set SrcCertm.length_enc SrcCertm.ok_enc SrcCertm.all_get SrcCertm.all_set SrcCertm.b_get SrcCertm.b_set SrcCertm.at__get SrcCertm.at__set GNode.length_enc GNode.ok_enc GNode.all_get GNode.all_set GNode.rule_get GNode.rule_set GNode.pred_get GNode.pred_set GNode.vals_get GNode.vals_set GNode.refs_get GNode.refs_set Term.length_enc Term.ok_enc Term.all_get Term.all_set Term.var_get Term.var_set Term.n_get Term.n_set Env.length_enc Env.ok_enc Env.all_get Env.all_set Env.val_get Env.val_set Env.set_get Env.set_set
attribute [local go_sem] size_put size_ext blk_put free_put blk_alloc free_alloc blk_drew free_drew blk_ext free_ext lookOr_some putOr_some segAt_some cellAt_some storeIn_some put_put put_alloc_new length_arr ok_arr_u8 ok_arr_u32 ok_arr_u64 ok_arr_i64 ok_arr_sl cellsV_agg cellsV_int cellsV_bool cellsV_string cellsV_pointer cellsV_slice cellsV_sl ok_int ok_bool ok_string ok_pointer ok_slice ok_sl toList_arr seg_arr set_arr nth_splice nth_splice0 seg_splice seg_splice0 splice_splice splice_splice0 length_splice_if
attribute [local go_sem ↓] execOp_box
attribute [local go_sem] box_run nth_arr_u8 put_arr_u8 blk_drewN free_drewN put_drewN blk_raw free_raw
theorem flatNd_len : ∀ (L : List CNode), (∀ d ∈ L, d.vals.length ≤ 255 ∧ d.refs.length ≤ 255) → (L.flatMap encNd).length ≤ 1024 * L.length
  | [], _ => by simp
  | d :: L, h => by
    have h1 := h d List.mem_cons_self
    have ih := flatNd_len L (fun y hy => h y (List.mem_cons_of_mem _ hy))
    have h2 : (encNd d).length ≤ 1024 := by
      have e1 : (encRf d.vals).length = 1 + 2 * d.vals.length := by rw [encRf_eq, List.length_cons, enc2_len]; omega
      have e2 : (encRf d.refs).length = 1 + 2 * d.refs.length := by rw [encRf_eq, List.length_cons, enc2_len]; omega
      unfold encNd
      split
      · simp only [List.length_cons]; omega
      · simp only [List.length_cons, List.length_append]; omega
    rw [List.flatMap_cons, List.length_append, List.length_cons]
    omega
def zE1 (w0 : World) (b1 : Nat) (hd : List UInt8) (K : List (List UInt8)) (kn : Nat) (f : Nat → Value) (V : World) : Prop := f 1 = .pointer (some ⟨b1, 0, none⟩) ∧ ∃ (i : Nat) (a : Option Addr) (n c : Nat), i ≤ kn ∧ f 4 = .int .i64 (i : Nat) ∧ f 3 = .slice a n c ∧ Hid (Ob w0 V a n c (hd ++ (K.take i).flatMap encN))
def zE2 (w0 : World) (b1 : Nat) (hd : List UInt8) (L : List CNode) (ln : Nat) (f : Nat → Value) (V : World) : Prop := f 1 = .pointer (some ⟨b1, 0, none⟩) ∧ ∃ (i : Nat) (a : Option Addr) (n c : Nat), i ≤ ln ∧ f 5 = .int .i64 (i : Nat) ∧ f 3 = .slice a n c ∧ Hid (Ob w0 V a n c (hd ++ (L.take i).flatMap encNd))
set_option maxRecDepth 100000 in
theorem zframe111 (f : Nat → Value) : frameN 111 f = #[f 0, f 1, f 2, f 3, f 4, f 5, f 6, f 7, f 8, f 9, f 10, f 11, f 12, f 13, f 14, f 15, f 16, f 17, f 18, f 19, f 20, f 21, f 22, f 23, f 24, f 25, f 26, f 27, f 28, f 29, f 30, f 31, f 32, f 33, f 34, f 35, f 36, f 37, f 38, f 39, f 40, f 41, f 42, f 43, f 44, f 45, f 46, f 47, f 48, f 49, f 50, f 51, f 52, f 53, f 54, f 55, f 56, f 57, f 58, f 59, f 60, f 61, f 62, f 63, f 64, f 65, f 66, f 67, f 68, f 69, f 70, f 71, f 72, f 73, f 74, f 75, f 76, f 77, f 78, f 79, f 80, f 81, f 82, f 83, f 84, f 85, f 86, f 87, f 88, f 89, f 90, f 91, f 92, f 93, f 94, f 95, f 96, f 97, f 98, f 99, f 100, f 101, f 102, f 103, f 104, f 105, f 106, f 107, f 108, f 109, f 110] := by kernel_rfl
attribute [local go_sem ↓] execOp_bslice
attribute [local go_sem] bslice27a bslice27b
set_option maxRecDepth 20000 in
set_option maxHeartbeats 4000000 in
theorem cencode_any (W : World) (x : Cert) (q : CC) (hC : CertC W x q) (hk : q.1.length ≤ 300) (h64 : ∀ y ∈ q.1, y.length ≤ 64) (hn : q.2.length ≤ 256) (hd : ∀ d ∈ q.2, CNok d) : Calls Tryz.prog 86 #[.agg x.enc.toArray] W fun e V => ∃ a n c, e = .returned (.slice a n c) ∧ Ob W V a n c (encCt q) := by
  obtain ⟨Q, hQ⟩ : ∃ Q : Ending → World → Prop, Q = fun e V => ∃ a n c, e = .returned (.slice a n c) ∧ Ob W V a n c (encCt q) := ⟨_, rfl⟩
  rw [← hQ]
  have HQ := hid_of hQ
  obtain ⟨hN, Gs, hG, hGs⟩ := hC
  obtain ⟨⟨na, kn, nc⟩, ⟨ga, ln, gc⟩⟩ := x
  obtain ⟨K, L⟩ := q
  dsimp only at hN hG hGs hk h64 hn hd HQ
  have hkn : K.length = kn := hN.1
  have hln : L.length = ln := hGs.1.symm.trans hG.1
  obtain ⟨CE, eCE⟩ : ∃ CE, CE = Cert.enc ⟨⟨na, kn, nc⟩, ⟨ga, ln, gc⟩⟩ := ⟨_, rfl⟩
  have ce0 : nth CE 0 = some (.slice na kn nc) := by rw [eCE]; rfl
  have ce1 : nth CE 1 = some (.slice ga ln gc) := by rw [eCE]; rfl
  have cel : CE.length = 2 := by rw [eCE]; rfl
  have cok : okCells 2 CE = true := by rw [eCE]; exact Cert.ok_enc _
  rw [← eCE]
  have HN := hid_of hN
  have HG := hid_of hG
  have HGS := hid_of hGs
  have H64 := hid_of h64
  have HD := hid_of hd
  have HKN := hid_of hkn
  have HLN := hid_of hln
  have hkn3 : kn ≤ 300 := by omega
  have hln2 : ln ≤ 256 := by omega
  clear hQ hN hG hGs hk h64 hn hd hkn hln eCE
  go_enter Tryz.func86, Tryz.ntmps86
  go_upto_region 1 with fail
  refine wp_world (fun W0 => W.Extends W0 ∧ blk W0 W.heap.size = some CE) ⟨extends_alloc (ext_Ext (Ext.refl _)) _, by rw [blk_alloc, if_pos rfl]⟩ ?_
  rintro W0 ⟨hx0, hb1⟩
  obtain ⟨b1, eb1⟩ : ∃ b1, b1 = W.heap.size := ⟨_, rfl⟩
  rw [← eb1] at hb1 ⊢
  have HX0 := hid_of hx0
  have HB1 := hid_of hb1
  obtain ⟨q1, eq1⟩ : ∃ q1 : Nat, q1 = kn / 256 := ⟨_, rfl⟩
  obtain ⟨q2, eq2⟩ : ∃ q2 : Nat, q2 = kn % 256 := ⟨_, rfl⟩
  have hd1 : Int.tdiv (kn : Int) 256 = (q1 : Int) := by rw [eq1]; rfl
  have hd2 : Int.tmod (kn : Int) 256 = (q2 : Int) := by rw [eq2]; rfl
  have b1' : q1 ≤ 255 := by omega
  have b2' : q2 ≤ 255 := by omega
  have u1 : IntKind.u8.wrap (q1 : Int) = (q1 : Int) := by rw [IntKind.wrap_u8]; omega
  have u2 : IntKind.u8.wrap (q2 : Int) = (q2 : Int) := by rw [IntKind.wrap_u8]; omega
  have w1' : IntKind.i64.wrap (q1 : Int) = (q1 : Int) := by rw [IntKind.wrap_i64]; omega
  have w2' : IntKind.i64.wrap (q2 : Int) = (q2 : Int) := by rw [IntKind.wrap_i64]; omega
  have hu : bv [UInt8.ofNat q1, UInt8.ofNat q2] = [.int .u8 (q1 : Int), .int .u8 (q2 : Int)] := by
    show List.map u8v _ = _
    rw [List.map_cons, List.map_cons, List.map_nil, u8_ofk _ b1', u8_ofk _ b2']
  have ho1 := ob_new (ext_Ext (Ext.refl W0)) [UInt8.ofNat q1, UInt8.ofNat q2] (by simp) #[.int .u8 (q1 : Int), .int .u8 (q2 : Int)] (by rw [hu]) 2 rfl
  have HO1 : Hid (Ob W0 (W0.alloc (.cells #[.int .u8 (q1 : Int), .int .u8 (q2 : Int)] 5)) (some ⟨W0.heap.size, 0, none⟩) 2 2 ([UInt8.ofNat q1, UInt8.ofNat q2] ++ (K.take 0).flatMap encN)) := by
    show Ob _ _ _ _ _ _
    simpa using ho1
  have HEQ : Hid (q1 = kn / 256 ∧ q2 = kn % 256) := ⟨eq1, eq2⟩
  clear eb1 hx0 hu ho1 eq1 eq2
  go_upto_region 3 with fail
  refine wp_loop_f 111 (zE1 W0 b1 [UInt8.ofNat q1, UInt8.ofNat q2] K kn) (fun f _ => kn - (intOf (f 4)).toNat) rfl ⟨rfl, 0, some ⟨W0.heap.size, 0, none⟩, 2, 2, by omega, rfl, rfl, HO1⟩ ?_
  clear HO1 hd1 hd2 u1 u2 w1' w2' hb1
  intro F V hrel
  obtain ⟨f1, i, a1, n1, c1, hi, f4, f3, HI⟩ := hrel
  have H4 := hid_of f4
  rw [zframe111, f1, f3, f4]
  clear f1 f3 f4
  have hb1 : blk V b1 = some CE := (HI.out.2.1.blk (blk_lt HB1.out)).trans HB1.out
  have htl := flatN_len (K.take i) (fun y hy => H64.out y (List.mem_of_mem_take hy))
  rw [List.length_take] at htl
  by_cases hin : i < kn
  · have hin' : (i : Int) < (kn : Int) := by omega
    have p0 : (0 : Int) ≤ (i : Int) := by omega
    have p2 : ((i : Int)).toNat = i := by omega
    obtain ⟨x, hx⟩ : ∃ x, K[i]? = some x := ⟨_, List.getElem?_eq_getElem (by rw [HKN.out]; exact hin)⟩
    have hx64 := H64.out x (List.mem_of_getElem? hx)
    obtain ⟨k, hk⟩ : ∃ k, k = x.length := ⟨_, rfl⟩
    have hu : bv [UInt8.ofNat x.length] = [.int .u8 (k : Int)] := by
      show List.map u8v _ = _
      rw [List.map_cons, List.map_nil, u8_ofk _ (by omega), hk]
    obtain ⟨bn, Cn, rfl, g1, g2, g3⟩ := str_at HN.out hx
    have hbn0 : blk W0 bn = some Cn := (HX0.out.blk (blk_lt g1)).trans g1
    have hbn : blk V bn = some Cn := (HI.out.2.1.blk (blk_lt hbn0)).trans hbn0
    obtain ⟨a2, c2, W2, hr2, ho2, hn2⟩ := ob_app HI.out (by rw [List.length_append]; show 2 + _ ≤ _; omega) [UInt8.ofNat x.length] (by simp) (by simp) #[.int .u8 (k : Int)] (by rw [hu]) 1 rfl
    obtain ⟨a3, c3, W3, hr3, ho3, hn3⟩ := ob_str ho2 (by rw [List.length_append, List.length_append, List.length_singleton]; show 2 + _ + 1 ≤ _; omega) x (by omega)
    have hbn2 : blk W2 bn = some Cn := (ho2.2.1.blk (blk_lt hbn0)).trans hbn0
    have hb12 : blk W2 b1 = some CE := (ho2.2.1.blk (blk_lt HB1.out)).trans HB1.out
    have HJ : Hid (Ob W0 W3 a3 (n1 + 1 + k) c3 ([UInt8.ofNat q1, UInt8.ofNat q2] ++ (K.take (i + 1)).flatMap encN)) := by
      show Ob _ _ _ _ _ _
      rw [take_at hx, List.flatMap_append, List.flatMap_cons, List.flatMap_nil, List.append_nil]
      rw [List.append_assoc, List.append_assoc] at ho3
      rw [hk]
      exact ho3
    obtain ⟨s, hs⟩ : ∃ s : ByteArray, s = ⟨x.toArray⟩ := ⟨_, rfl⟩
    have hss : s.size = k := by rw [hs, hk]; simp [ByteArray.size]
    rw [← hs] at hr3 g3
    rw [← hk] at hr3
    have w1 : IntKind.u8.wrap (k : Int) = (k : Int) := by rw [IntKind.wrap_u8]; omega
    clear hu ho2 ho3 hs hk hn2 hn3 HI hx htl hx64 g1 hbn0
    go_wp2_with (at_builtin; first | refine wpList_append_run rfl _ _ 31 rfl _ _ _ _ rfl rfl hr2 ?_ | refine wpList_append_run2 rfl _ _ 31 9 rfl _ _ _ _ rfl rfl hr3 ?_)
    refine ⟨rfl, rfl, ⟨rfl, i + 1, a3, _, c3, by omega, ?_, rfl, HJ⟩, ?_⟩
    · show Value.int .i64 _ = _
      go_num
    · show kn - (intOf (Value.int .i64 _)).toNat < kn - (intOf (F 4)).toNat
      rw [H4.out]
      simp [intOf]; omega
  have hin' : ¬ (i : Int) < (kn : Int) := by omega
  obtain ⟨q3, eq3⟩ : ∃ q3 : Nat, q3 = ln / 256 := ⟨_, rfl⟩
  obtain ⟨q4, eq4⟩ : ∃ q4 : Nat, q4 = ln % 256 := ⟨_, rfl⟩
  have hd1 : Int.tdiv (ln : Int) 256 = (q3 : Int) := by rw [eq3]; rfl
  have hd2 : Int.tmod (ln : Int) 256 = (q4 : Int) := by rw [eq4]; rfl
  have b3' : q3 ≤ 255 := by omega
  have b4' : q4 ≤ 255 := by omega
  have u1 : IntKind.u8.wrap (q3 : Int) = (q3 : Int) := by rw [IntKind.wrap_u8]; omega
  have u2 : IntKind.u8.wrap (q4 : Int) = (q4 : Int) := by rw [IntKind.wrap_u8]; omega
  have w1' : IntKind.i64.wrap (q3 : Int) = (q3 : Int) := by rw [IntKind.wrap_i64]; omega
  have w2' : IntKind.i64.wrap (q4 : Int) = (q4 : Int) := by rw [IntKind.wrap_i64]; omega
  have hu : bv [UInt8.ofNat q3, UInt8.ofNat q4] = [.int .u8 (q3 : Int), .int .u8 (q4 : Int)] := by
    show List.map u8v _ = _
    rw [List.map_cons, List.map_cons, List.map_nil, u8_ofk _ b3', u8_ofk _ b4']
  obtain ⟨a2, c2, W2, hr2, ho2, hn2⟩ := ob_app HI.out (by rw [List.length_append]; show 2 + _ ≤ _; omega) [UInt8.ofNat q3, UInt8.ofNat q4] (by simp) (by simp) #[.int .u8 (q3 : Int), .int .u8 (q4 : Int)] (by rw [hu]) 2 rfl
  obtain ⟨hd, ehd⟩ : ∃ hd, hd = [UInt8.ofNat q1, UInt8.ofNat q2] ++ (K.take i).flatMap encN ++ [UInt8.ofNat q3, UInt8.ofNat q4] := ⟨_, rfl⟩
  rw [← ehd] at ho2
  have hhd : hd.length ≤ 20000 := by
    rw [ehd, List.length_append, List.length_append]
    show 2 + _ + 2 ≤ _
    omega
  have HHD : Hid (∀ zs, hd ++ L.flatMap encNd = zs → encCt (K, L) = zs) := fun zs hz => by
    rw [← hz, ehd, List.take_of_length_le (by rw [HKN.out]; omega), HEQ.out.1, HEQ.out.2, eq3, eq4]
    unfold encCt
    dsimp only
    rw [HKN.out, HLN.out]
    simp only [List.append_assoc, List.cons_append, List.nil_append]
  have HO2 : Hid (Ob W0 W2 a2 (n1 + 2) c2 (hd ++ (L.take 0).flatMap encNd)) := by
    show Ob _ _ _ _ _ _
    simpa using ho2
  have hb12 : blk W2 b1 = some CE := (ho2.2.1.blk (blk_lt HB1.out)).trans HB1.out
  clear hu ho2 hn2 ehd eq3 eq4 HI htl
  go_upto_region 9 with (at_builtin; refine wpList_append_run rfl _ _ 31 rfl _ _ _ _ rfl rfl hr2 ?_)
  refine wp_loop_f 111 (zE2 W0 b1 hd L ln) (fun f _ => ln - (intOf (f 5)).toNat) rfl ⟨rfl, 0, a2, n1 + 2, c2, by omega, rfl, rfl, HO2⟩ ?_
  clear HO2 hd1 hd2 u1 u2 w1' w2' hb1 hb12 hr2 hin hin' H4
  intro G V1 hrel
  obtain ⟨f1, j, a5, n5, c5, hj, f5, f3, HI⟩ := hrel
  have H5 := hid_of f5
  rw [zframe111, f1, f3, f5]
  clear f1 f3 f5
  have hb1 : blk V1 b1 = some CE := (HI.out.2.1.blk (blk_lt HB1.out)).trans HB1.out
  by_cases hjn : j < ln
  rotate_left 1
  · have hjn' : ¬ (j : Int) < (ln : Int) := by omega
    have HP : Hid (Q (.returned (.slice a5 n5 c5)) V1) := by
      show Q _ _
      rw [HQ.out]
      have h9 := HI.out
      rw [List.take_of_length_le (by rw [HLN.out]; omega)] at h9
      rw [HHD.out _ rfl]
      exact ⟨a5, n5, c5, rfl, row_base h9.1 HX0.out.size, HX0.out.trans h9.2.1, h9.2.2⟩
    clear HI
    go_wp2_with fail
    try go_ret
    exact HP.out
  have hjn' : (j : Int) < (ln : Int) := by omega
  have p0 : (0 : Int) ≤ (j : Int) := by omega
  have p2 : ((j : Int)).toNat = j := by omega
  obtain ⟨d, hd9⟩ : ∃ d, L[j]? = some d := ⟨_, List.getElem?_eq_getElem (by rw [HLN.out]; exact hjn)⟩
  obtain ⟨gn, hgn⟩ : ∃ d, Gs[j]? = some d := ⟨_, List.getElem?_eq_getElem (by have := HG.out.1; omega)⟩
  obtain ⟨bg, Cg, rfl, g1, g2, g3⟩ := HG.out.2 j gn hgn
  obtain ⟨e1, e2, e3, e4⟩ := HGS.out.2 j gn d hgn hd9
  obtain ⟨gr, gp, ⟨va, vn, vc⟩, ⟨ra, rn, rc⟩⟩ := gn
  dsimp only at e1 e2 e3 e4
  subst e1 e2
  have m0 : nth Cg (j * 4) = some (.int .i64 d.rule) := nth_in (j := 0) g3 rfl (by omega)
  have m1 : nth Cg (j * 4 + 1) = some (.int .i64 d.pred) := nth_in (j := 1) g3 rfl (by omega)
  have m2 : nth Cg (j * 4 + 2) = some (.slice va vn vc) := nth_in (j := 2) g3 rfl (by omega)
  have m3 : nth Cg (j * 4 + 3) = some (.slice ra rn rc) := nth_in (j := 3) g3 rfl (by omega)
  have l9 : (j + 1) * 4 ≤ ln * 4 := Nat.mul_le_mul_right _ hjn
  have l0 : j * 4 < Cg.length := by omega
  have l1 : j * 4 + 1 < Cg.length := by omega
  have l2 : j * 4 + 2 < Cg.length := by omega
  have l3 : j * 4 + 3 < Cg.length := by omega
  have hg0 : blk W0 bg = some Cg := (HX0.out.blk (blk_lt g1)).trans g1
  have HG0 := hid_of hg0
  have hbg : blk V1 bg = some Cg := (HI.out.2.1.blk (blk_lt hg0)).trans hg0
  have hdk := HD.out d (List.mem_of_getElem? hd9)
  have hfl := flatNd_len (L.take j) (fun y hy => ⟨(HD.out y (List.mem_of_mem_take hy)).vl, (HD.out y (List.mem_of_mem_take hy)).rl⟩)
  rw [List.length_take] at hfl
  have hzl : (hd ++ (L.take j).flatMap encNd).length ≤ 290000 := by rw [List.length_append]; omega
  have hvn : vn ≤ 255 := by rw [← e3.1]; exact hdk.vl
  have hrn : rn ≤ 255 := by rw [← e4.1]; exact hdk.rl
  have HE3 : Hid (Rw encZ 1 W0 va vn d.vals) := e3.sub (Sub.ext HX0.out)
  have HE4 : Hid (Rw encZ 1 W0 ra rn d.refs) := e4.sub (Sub.ext HX0.out)
  have HDK := hid_of hdk
  have HNX : Hid (∀ a n c V, Ob W0 V a n c ((hd ++ (L.take j).flatMap encNd) ++ encNd d) → Ob W0 V a n c (hd ++ (L.take (j + 1)).flatMap encNd)) := fun a n c V h => by
    rw [take_at hd9, List.flatMap_append, List.flatMap_cons, List.flatMap_nil, List.append_nil, ← List.append_assoc]
    exact h
  obtain ⟨zs, ezs⟩ : ∃ zs, zs = hd ++ (L.take j).flatMap encNd := ⟨_, rfl⟩
  rw [← ezs] at HI hzl HNX
  clear g1 g2 g3 e3 e4 hd9 hgn hg0 hdk hfl ezs l9
  have hOd : Ob W0 V1.drew a5 n5 c5 zs := HI.out.ext (extends_drew (ext_Ext (Ext.refl _)))
  have hSa : ∀ A, blk (V1.drew.alloc (.cells A 5)) b1 = some CE ∧ blk (V1.drew.alloc (.cells A 5)) bg = some Cg := fun A => by
    have hx9 : V1.drew.Extends (V1.drew.alloc (.cells A 5)) := extends_alloc (ext_Ext (Ext.refl _)) _
    exact ⟨(hx9.blk (blk_lt hb1)).trans hb1, (hx9.blk (blk_lt hbg)).trans hbg⟩
  rcases HDK.out.kd with ⟨k1, k2, k3, k4⟩ | ⟨k1, k2, k3⟩
  · obtain ⟨pn, epn⟩ : ∃ pn : Nat, d.pred = (pn : Int) := ⟨d.pred.toNat, by omega⟩
    have hpn : pn ≤ 255 := by omega
    rw [k1] at m0
    rw [epn] at m1
    have up : IntKind.u8.wrap (pn : Int) = (pn : Int) := by rw [IntKind.wrap_u8]; omega
    have hu : bv [0, UInt8.ofNat pn] = [.int .u8 0, .int .u8 (pn : Int)] := by
      show List.map u8v _ = _
      rw [List.map_cons, List.map_cons, List.map_nil, u8_ofk _ hpn]; rfl
    obtain ⟨a3, c3, W3, hr2, ho3, hn3⟩ := ob_app hOd (by omega) [0, UInt8.ofNat pn] (by simp) (by simp) #[.int .u8 0, .int .u8 (pn : Int)] (by rw [hu]) 2 rfl
    have hput := putRefs_any W0 W3 a3 (n5 + 2) c3 _ ho3 (by rw [List.length_append]; show _ + 2 ≤ _; omega) va vn vc d.vals hvn HE3.out HDK.out.vs
    have hSe : blk W3 b1 = some CE ∧ blk W3 bg = some Cg := ⟨(ho3.2.1.blk (blk_lt HB1.out)).trans HB1.out, (ho3.2.1.blk (blk_lt HG0.out)).trans HG0.out⟩
    have HEN : Hid (zs ++ [0, UInt8.ofNat pn] ++ encRf d.vals = zs ++ encNd d) := by
      show _ = _
      unfold encNd
      rw [if_pos (by rw [k1]; decide), epn, Int.toNat_natCast, List.append_assoc]; rfl
    have hb1w := HB1.out
    have hbgw := HG0.out
    clear hu ho3 hn3 HI hOd k1 k2 k3 k4 epn
    go_upto_region 12 with fail
    repeat go_step
    refine wp_region_held_drew (S := fun W' => blk W' b1 = some CE ∧ blk W' bg = some Cg) (by kernel_rfl) ⟨hb1, hbg⟩ (fun hHeld => ?_)
    refine wpAnyH_take (i := 0) (oi := ⟨_, _, _, _, _, _⟩) (v := ?_) rfl (by kernel_rfl) (by kernel_rfl) (by kernel_rfl) (fun _ _ _ h => h) (Or.inl ⟨by rfl, ?_⟩) (by assumption) ?_
    rotate_left 1
    · intro W' hSw
      obtain ⟨hS1, hS2⟩ := hSw
      go_simp
      try with_reducible rfl
    try simp only [Act.put, List.setIfInBounds_toArray, List.set_cons_zero, List.set_cons_succ]
    refine wpAnyH_take (i := 1) (oi := ⟨_, _, _, _, _, _⟩) (v := ?_) rfl (by kernel_rfl) (by kernel_rfl) (by kernel_rfl) (fun _ _ _ h => h) (Or.inl ⟨by rfl, ?_⟩) (by assumption) ?_
    rotate_left 1
    · intro W' hSw
      obtain ⟨hS1, hS2⟩ := hSw
      go_simp
      try with_reducible rfl
    try simp only [Act.put, List.setIfInBounds_toArray, List.set_cons_zero, List.set_cons_succ]
    refine wpAnyH_take (i := 2) (oi := ⟨_, _, _, _, _, _⟩) (v := ?_) rfl (by kernel_rfl) (by kernel_rfl) (by kernel_rfl) (fun _ _ _ h => h) (Or.inl ⟨by rfl, ?_⟩) (by assumption) ?_
    rotate_left 1
    · intro W' hSw
      obtain ⟨hS1, hS2⟩ := hSw
      go_simp
      try with_reducible rfl
    try simp only [Act.put, List.setIfInBounds_toArray, List.set_cons_zero, List.set_cons_succ]
    refine wpAnyH_take (i := 3) (oi := ⟨_, _, _, _, _, _⟩) (v := ?_) rfl (by kernel_rfl) (by kernel_rfl) (by kernel_rfl) (fun _ _ _ h => h) (Or.inl ⟨by rfl, ?_⟩) (by assumption) ?_
    rotate_left 1
    · intro W' hSw
      obtain ⟨hS1, hS2⟩ := hSw
      go_simp
      try with_reducible rfl
    try simp only [Act.put, List.setIfInBounds_toArray, List.set_cons_zero, List.set_cons_succ]
    refine wpAnyH_take (i := 4) (oi := ⟨_, _, _, _, _, _⟩) (v := ?_) rfl (by kernel_rfl) (by kernel_rfl) (by kernel_rfl) (fun _ _ _ h => h) (Or.inl ⟨by rfl, ?_⟩) (by assumption) ?_
    rotate_left 1
    · intro W' hSw
      obtain ⟨hS1, hS2⟩ := hSw
      go_simp
      try with_reducible rfl
    try simp only [Act.put, List.setIfInBounds_toArray, List.set_cons_zero, List.set_cons_succ]
    refine wpAnyH_take (i := 5) (oi := ⟨_, _, _, _, _, _⟩) (v := ?_) rfl (by kernel_rfl) (by kernel_rfl) (by kernel_rfl) (fun _ _ _ h => h) (Or.inl ⟨by rfl, ?_⟩) (by assumption) ?_
    rotate_left 1
    · intro W' hSw
      obtain ⟨hS1, hS2⟩ := hSw
      go_simp
      try with_reducible rfl
    try simp only [Act.put, List.setIfInBounds_toArray, List.set_cons_zero, List.set_cons_succ]
    refine wpAnyH_take (i := 6) (oi := ⟨_, _, _, _, _, _⟩) (v := ?_) rfl (by kernel_rfl) (by kernel_rfl) (by kernel_rfl) (fun _ _ _ h => h) (Or.inl ⟨by rfl, ?_⟩) (by assumption) ?_
    rotate_left 1
    · intro W' hSw
      obtain ⟨hS1, hS2⟩ := hSw
      go_simp
      try with_reducible rfl
    try simp only [Act.put, List.setIfInBounds_toArray, List.set_cons_zero, List.set_cons_succ]
    refine wpAnyH_take (i := 7) (oi := ⟨_, _, _, _, _, _⟩) (v := ?_) rfl (by kernel_rfl) (by kernel_rfl) (by kernel_rfl) (fun _ _ _ h => h) (Or.inl ⟨by rfl, ?_⟩) (by assumption) ?_
    rotate_left 1
    · intro W' hSw
      obtain ⟨hS1, hS2⟩ := hSw
      go_simp
      try with_reducible rfl
    try simp only [Act.put, List.setIfInBounds_toArray, List.set_cons_zero, List.set_cons_succ]
    refine wpAnyH_take (i := 10) (oi := ⟨_, _, _, _, _, _⟩) (v := ?_) rfl (by kernel_rfl) (by kernel_rfl) (by kernel_rfl) (fun _ _ _ h => h) (Or.inl ⟨by rfl, ?_⟩) (by assumption) ?_
    rotate_left 1
    · intro W' hSw
      obtain ⟨hS1, hS2⟩ := hSw
      go_simp
      try with_reducible rfl
    try simp only [Act.put, List.setIfInBounds_toArray, List.set_cons_zero, List.set_cons_succ]
    refine wpAnyH_take (i := 11) (oi := ⟨_, _, _, _, _, _⟩) (v := ?_) rfl (by kernel_rfl) (by kernel_rfl) (by kernel_rfl) (fun _ _ _ h => h) (Or.inl ⟨by rfl, ?_⟩) (by assumption) ?_
    rotate_left 1
    · intro W' hSw
      obtain ⟨hS1, hS2⟩ := hSw
      go_simp
      try with_reducible rfl
    try simp only [Act.put, List.setIfInBounds_toArray, List.set_cons_zero, List.set_cons_succ]
    refine wpAnyH_take (i := 12) (oi := ⟨_, _, _, _, _, _⟩) (v := ?_) rfl (by kernel_rfl) (by kernel_rfl) (by kernel_rfl) (fun _ _ _ h => h) (Or.inl ⟨by rfl, ?_⟩) (by assumption) ?_
    rotate_left 1
    · intro W' hSw
      obtain ⟨hS1, hS2⟩ := hSw
      go_simp
      try with_reducible rfl
    try simp only [Act.put, List.setIfInBounds_toArray, List.set_cons_zero, List.set_cons_succ]
    refine wpAnyH_take (i := 13) (oi := ⟨_, _, _, _, _, _⟩) (v := ?_) rfl (by kernel_rfl) (by kernel_rfl) (by kernel_rfl) (fun _ _ _ h => h) (Or.inl ⟨by rfl, ?_⟩) (by assumption) ?_
    rotate_left 1
    · intro W' hSw
      obtain ⟨hS1, hS2⟩ := hSw
      go_simp
      try with_reducible rfl
    try simp only [Act.put, List.setIfInBounds_toArray, List.set_cons_zero, List.set_cons_succ]
    refine wpAnyH_take (i := 14) (oi := ⟨_, _, _, _, _, _⟩) (v := ?_) rfl (by kernel_rfl) (by kernel_rfl) (by kernel_rfl) (fun _ _ _ h => h) (Or.inl ⟨by rfl, ?_⟩) (by assumption) ?_
    rotate_left 1
    · intro W' hSw
      obtain ⟨hS1, hS2⟩ := hSw
      go_simp
      try with_reducible rfl
    try simp only [Act.put, List.setIfInBounds_toArray, List.set_cons_zero, List.set_cons_succ]
    refine wpAnyH_take (i := 15) (oi := ⟨_, _, _, _, _, _⟩) (v := ?_) rfl (by kernel_rfl) (by kernel_rfl) (by kernel_rfl) (fun _ _ _ h => h) (Or.inl ⟨by rfl, ?_⟩) (by assumption) ?_
    rotate_left 1
    · intro W' hSw
      obtain ⟨hS1, hS2⟩ := hSw
      go_simp
      try with_reducible rfl
    try simp only [Act.put, List.setIfInBounds_toArray, List.set_cons_zero, List.set_cons_succ]
    refine wpAnyH_ready (rs := [8]) (by kernel_rfl) (by simp) ?_
    refine AllReadyH.cons (o := ⟨_, _, _, _, _, _⟩) rfl (fun K' hK => ?_) AllReadyH.nil
    go_simp
    refine hK.out _ _ (hSa _) (fun hHeld => ?_)
    clear hK K'
    try simp only [Act.put, List.setIfInBounds_toArray, List.set_cons_zero, List.set_cons_succ]
    refine wpAnyH_ready (rs := [9]) (by kernel_rfl) (by simp) ?_
    refine AllReadyH.cons (o := ⟨_, _, _, _, _, _⟩) rfl (fun K' hK => ?_) AllReadyH.nil
    refine wp_append_run _ _ 31 rfl _ _ _ _ rfl rfl hr2 ?_
    refine hK.out _ _ hSe (fun hHeld => ?_)
    clear hK K'
    try simp only [Act.put, List.setIfInBounds_toArray, List.set_cons_zero, List.set_cons_succ]
    refine wpAnyH_ready (rs := [16]) (by kernel_rfl) (by simp) ?_
    refine AllReadyH.cons (o := ⟨_, _, _, _, _, _⟩) rfl (fun K' hK => ?_) AllReadyH.nil
    go_simp
    refine hput.mono ?_
    rintro e V4 ⟨a4, n4, c4, rfl, ho4⟩
    dsimp only
    have hS4 : blk V4 b1 = some CE ∧ blk V4 bg = some Cg := ⟨(ho4.2.1.blk (blk_lt HB1.out)).trans HB1.out, (ho4.2.1.blk (blk_lt HG0.out)).trans HG0.out⟩
    refine hK.out _ _ hS4 (fun hHeld => ?_)
    clear hK K'
    try simp only [Act.put, List.setIfInBounds_toArray, List.set_cons_zero, List.set_cons_succ]
    refine wpAnyH_take (i := 17) (oi := ⟨_, _, _, _, _, _⟩) (v := ?_) rfl (by kernel_rfl) (by kernel_rfl) (by kernel_rfl) (fun _ _ _ h => h) (Or.inl ⟨by rfl, ?_⟩) (by assumption) ?_
    rotate_left 1
    · intro W' hSw
      obtain ⟨hS1, hS2⟩ := hSw
      go_simp
      try with_reducible rfl
    try simp only [Act.put, List.setIfInBounds_toArray, List.set_cons_zero, List.set_cons_succ]
    refine wpAnyH_done (by kernel_rfl) ?_ _
    have HJ := hid_of (HNX.out a4 n4 c4 V4 (by rw [← HEN.out]; exact ho4))
    clear hHeld hSa hSe hS4 ho4 hput
    go_wp2_with fail
    refine ⟨rfl, rfl, ⟨rfl, j + 1, a4, n4, c4, by omega, ?_, rfl, HJ⟩, ?_⟩
    · show Value.int .i64 _ = _
      go_num
    · show ln - (intOf (Value.int .i64 _)).toNat < ln - (intOf (G 5)).toNat
      rw [H5.out]
      simp [intOf]; omega
  · obtain ⟨pn, epn⟩ : ∃ pn : Nat, d.rule = (pn : Int) := ⟨d.rule.toNat, by omega⟩
    have hpn : pn ≤ 255 := by omega
    rw [epn] at m0
    have up : IntKind.u8.wrap (pn : Int) = (pn : Int) := by rw [IntKind.wrap_u8]; omega
    have hp0 : ¬ (pn : Int) < 0 := by omega
    have hu : bv [1, UInt8.ofNat pn] = [.int .u8 1, .int .u8 (pn : Int)] := by
      show List.map u8v _ = _
      rw [List.map_cons, List.map_cons, List.map_nil, u8_ofk _ hpn]; rfl
    obtain ⟨a3, c3, W3, hr2, ho3, hn3⟩ := ob_app hOd (by omega) [1, UInt8.ofNat pn] (by simp) (by simp) #[.int .u8 1, .int .u8 (pn : Int)] (by rw [hu]) 2 rfl
    have hput := putRefs_any W0 W3 a3 (n5 + 2) c3 _ ho3 (by rw [List.length_append]; show _ + 2 ≤ _; omega) va vn vc d.vals hvn HE3.out HDK.out.vs
    have hSe : blk W3 b1 = some CE ∧ blk W3 bg = some Cg := ⟨(ho3.2.1.blk (blk_lt HB1.out)).trans HB1.out, (ho3.2.1.blk (blk_lt HG0.out)).trans HG0.out⟩
    have HEN : Hid (zs ++ [1, UInt8.ofNat pn] ++ encRf d.vals ++ encRf d.refs = zs ++ encNd d) := by
      show _ = _
      unfold encNd
      rw [if_neg (by rw [epn]; omega), epn, Int.toNat_natCast, List.append_assoc, List.append_assoc]; rfl
    have hvl : (encRf d.vals).length ≤ 511 := by
      rw [encRf_eq, List.length_cons, enc2_len]
      have := HDK.out.vl
      omega
    clear hu ho3 hn3 HI hOd k1 k2 k3 epn
    go_upto_region 13 with fail
    repeat go_step
    refine wp_region_held_drew (S := fun W' => blk W' b1 = some CE ∧ blk W' bg = some Cg) (by kernel_rfl) ⟨hb1, hbg⟩ (fun hHeld => ?_)
    refine wpAnyH_take (i := 0) (oi := ⟨_, _, _, _, _, _⟩) (v := ?_) rfl (by kernel_rfl) (by kernel_rfl) (by kernel_rfl) (fun _ _ _ h => h) (Or.inl ⟨by rfl, ?_⟩) (by assumption) ?_
    rotate_left 1
    · intro W' hSw
      obtain ⟨hS1, hS2⟩ := hSw
      go_simp
      try with_reducible rfl
    try simp only [Act.put, List.setIfInBounds_toArray, List.set_cons_zero, List.set_cons_succ]
    refine wpAnyH_take (i := 1) (oi := ⟨_, _, _, _, _, _⟩) (v := ?_) rfl (by kernel_rfl) (by kernel_rfl) (by kernel_rfl) (fun _ _ _ h => h) (Or.inl ⟨by rfl, ?_⟩) (by assumption) ?_
    rotate_left 1
    · intro W' hSw
      obtain ⟨hS1, hS2⟩ := hSw
      go_simp
      try with_reducible rfl
    try simp only [Act.put, List.setIfInBounds_toArray, List.set_cons_zero, List.set_cons_succ]
    refine wpAnyH_take (i := 2) (oi := ⟨_, _, _, _, _, _⟩) (v := ?_) rfl (by kernel_rfl) (by kernel_rfl) (by kernel_rfl) (fun _ _ _ h => h) (Or.inl ⟨by rfl, ?_⟩) (by assumption) ?_
    rotate_left 1
    · intro W' hSw
      obtain ⟨hS1, hS2⟩ := hSw
      go_simp
      try with_reducible rfl
    try simp only [Act.put, List.setIfInBounds_toArray, List.set_cons_zero, List.set_cons_succ]
    refine wpAnyH_take (i := 3) (oi := ⟨_, _, _, _, _, _⟩) (v := ?_) rfl (by kernel_rfl) (by kernel_rfl) (by kernel_rfl) (fun _ _ _ h => h) (Or.inl ⟨by rfl, ?_⟩) (by assumption) ?_
    rotate_left 1
    · intro W' hSw
      obtain ⟨hS1, hS2⟩ := hSw
      go_simp
      try with_reducible rfl
    try simp only [Act.put, List.setIfInBounds_toArray, List.set_cons_zero, List.set_cons_succ]
    refine wpAnyH_take (i := 4) (oi := ⟨_, _, _, _, _, _⟩) (v := ?_) rfl (by kernel_rfl) (by kernel_rfl) (by kernel_rfl) (fun _ _ _ h => h) (Or.inl ⟨by rfl, ?_⟩) (by assumption) ?_
    rotate_left 1
    · intro W' hSw
      obtain ⟨hS1, hS2⟩ := hSw
      go_simp
      try with_reducible rfl
    try simp only [Act.put, List.setIfInBounds_toArray, List.set_cons_zero, List.set_cons_succ]
    refine wpAnyH_take (i := 5) (oi := ⟨_, _, _, _, _, _⟩) (v := ?_) rfl (by kernel_rfl) (by kernel_rfl) (by kernel_rfl) (fun _ _ _ h => h) (Or.inl ⟨by rfl, ?_⟩) (by assumption) ?_
    rotate_left 1
    · intro W' hSw
      obtain ⟨hS1, hS2⟩ := hSw
      go_simp
      try with_reducible rfl
    try simp only [Act.put, List.setIfInBounds_toArray, List.set_cons_zero, List.set_cons_succ]
    refine wpAnyH_take (i := 6) (oi := ⟨_, _, _, _, _, _⟩) (v := ?_) rfl (by kernel_rfl) (by kernel_rfl) (by kernel_rfl) (fun _ _ _ h => h) (Or.inl ⟨by rfl, ?_⟩) (by assumption) ?_
    rotate_left 1
    · intro W' hSw
      obtain ⟨hS1, hS2⟩ := hSw
      go_simp
      try with_reducible rfl
    try simp only [Act.put, List.setIfInBounds_toArray, List.set_cons_zero, List.set_cons_succ]
    refine wpAnyH_take (i := 7) (oi := ⟨_, _, _, _, _, _⟩) (v := ?_) rfl (by kernel_rfl) (by kernel_rfl) (by kernel_rfl) (fun _ _ _ h => h) (Or.inl ⟨by rfl, ?_⟩) (by assumption) ?_
    rotate_left 1
    · intro W' hSw
      obtain ⟨hS1, hS2⟩ := hSw
      go_simp
      try with_reducible rfl
    try simp only [Act.put, List.setIfInBounds_toArray, List.set_cons_zero, List.set_cons_succ]
    refine wpAnyH_take (i := 10) (oi := ⟨_, _, _, _, _, _⟩) (v := ?_) rfl (by kernel_rfl) (by kernel_rfl) (by kernel_rfl) (fun _ _ _ h => h) (Or.inl ⟨by rfl, ?_⟩) (by assumption) ?_
    rotate_left 1
    · intro W' hSw
      obtain ⟨hS1, hS2⟩ := hSw
      go_simp
      try with_reducible rfl
    try simp only [Act.put, List.setIfInBounds_toArray, List.set_cons_zero, List.set_cons_succ]
    refine wpAnyH_take (i := 11) (oi := ⟨_, _, _, _, _, _⟩) (v := ?_) rfl (by kernel_rfl) (by kernel_rfl) (by kernel_rfl) (fun _ _ _ h => h) (Or.inl ⟨by rfl, ?_⟩) (by assumption) ?_
    rotate_left 1
    · intro W' hSw
      obtain ⟨hS1, hS2⟩ := hSw
      go_simp
      try with_reducible rfl
    try simp only [Act.put, List.setIfInBounds_toArray, List.set_cons_zero, List.set_cons_succ]
    refine wpAnyH_take (i := 12) (oi := ⟨_, _, _, _, _, _⟩) (v := ?_) rfl (by kernel_rfl) (by kernel_rfl) (by kernel_rfl) (fun _ _ _ h => h) (Or.inl ⟨by rfl, ?_⟩) (by assumption) ?_
    rotate_left 1
    · intro W' hSw
      obtain ⟨hS1, hS2⟩ := hSw
      go_simp
      try with_reducible rfl
    try simp only [Act.put, List.setIfInBounds_toArray, List.set_cons_zero, List.set_cons_succ]
    refine wpAnyH_take (i := 13) (oi := ⟨_, _, _, _, _, _⟩) (v := ?_) rfl (by kernel_rfl) (by kernel_rfl) (by kernel_rfl) (fun _ _ _ h => h) (Or.inl ⟨by rfl, ?_⟩) (by assumption) ?_
    rotate_left 1
    · intro W' hSw
      obtain ⟨hS1, hS2⟩ := hSw
      go_simp
      try with_reducible rfl
    try simp only [Act.put, List.setIfInBounds_toArray, List.set_cons_zero, List.set_cons_succ]
    refine wpAnyH_take (i := 14) (oi := ⟨_, _, _, _, _, _⟩) (v := ?_) rfl (by kernel_rfl) (by kernel_rfl) (by kernel_rfl) (fun _ _ _ h => h) (Or.inl ⟨by rfl, ?_⟩) (by assumption) ?_
    rotate_left 1
    · intro W' hSw
      obtain ⟨hS1, hS2⟩ := hSw
      go_simp
      try with_reducible rfl
    try simp only [Act.put, List.setIfInBounds_toArray, List.set_cons_zero, List.set_cons_succ]
    refine wpAnyH_take (i := 15) (oi := ⟨_, _, _, _, _, _⟩) (v := ?_) rfl (by kernel_rfl) (by kernel_rfl) (by kernel_rfl) (fun _ _ _ h => h) (Or.inl ⟨by rfl, ?_⟩) (by assumption) ?_
    rotate_left 1
    · intro W' hSw
      obtain ⟨hS1, hS2⟩ := hSw
      go_simp
      try with_reducible rfl
    try simp only [Act.put, List.setIfInBounds_toArray, List.set_cons_zero, List.set_cons_succ]
    refine wpAnyH_ready (rs := [8]) (by kernel_rfl) (by simp) ?_
    refine AllReadyH.cons (o := ⟨_, _, _, _, _, _⟩) rfl (fun K' hK => ?_) AllReadyH.nil
    go_simp
    refine hK.out _ _ (hSa _) (fun hHeld => ?_)
    clear hK K'
    try simp only [Act.put, List.setIfInBounds_toArray, List.set_cons_zero, List.set_cons_succ]
    refine wpAnyH_ready (rs := [9]) (by kernel_rfl) (by simp) ?_
    refine AllReadyH.cons (o := ⟨_, _, _, _, _, _⟩) rfl (fun K' hK => ?_) AllReadyH.nil
    refine wp_append_run _ _ 31 rfl _ _ _ _ rfl rfl hr2 ?_
    refine hK.out _ _ hSe (fun hHeld => ?_)
    clear hK K'
    try simp only [Act.put, List.setIfInBounds_toArray, List.set_cons_zero, List.set_cons_succ]
    refine wpAnyH_ready (rs := [16]) (by kernel_rfl) (by simp) ?_
    refine AllReadyH.cons (o := ⟨_, _, _, _, _, _⟩) rfl (fun K' hK => ?_) AllReadyH.nil
    go_simp
    refine hput.mono ?_
    rintro e V4 ⟨a4, n4, c4, rfl, ho4⟩
    dsimp only
    have hS4 : blk V4 b1 = some CE ∧ blk V4 bg = some Cg := ⟨(ho4.2.1.blk (blk_lt HB1.out)).trans HB1.out, (ho4.2.1.blk (blk_lt HG0.out)).trans HG0.out⟩
    refine hK.out _ _ hS4 (fun hHeld => ?_)
    clear hK K'
    try simp only [Act.put, List.setIfInBounds_toArray, List.set_cons_zero, List.set_cons_succ]
    refine wpAnyH_take (i := 17) (oi := ⟨_, _, _, _, _, _⟩) (v := ?_) rfl (by kernel_rfl) (by kernel_rfl) (by kernel_rfl) (fun _ _ _ h => h) (Or.inl ⟨by rfl, ?_⟩) (by assumption) ?_
    rotate_left 1
    · intro W' hSw
      obtain ⟨hS1, hS2⟩ := hSw
      go_simp
      try with_reducible rfl
    try simp only [Act.put, List.setIfInBounds_toArray, List.set_cons_zero, List.set_cons_succ]
    refine wpAnyH_done (by kernel_rfl) ?_ _
    have hput2 := putRefs_any W0 V4 a4 n4 c4 _ ho4 (by rw [List.length_append, List.length_append]; show _ + 2 + _ ≤ _; omega) ra rn rc d.refs hrn HE4.out HDK.out.rs
    obtain ⟨hb14, hbg4⟩ := hS4
    clear hHeld hSa hSe ho4 hput hb1 hbg
    go_wp2_with fail
    refine hput2.mono ?_
    rintro e V5 ⟨a6, n6, c6, rfl, ho6⟩
    dsimp only
    have HJ := hid_of (HNX.out a6 n6 c6 V5 (by rw [← HEN.out]; exact ho6))
    clear hput2 ho6
    go_wp2_with fail
    refine ⟨rfl, rfl, ⟨rfl, j + 1, a6, n6, c6, by omega, ?_, rfl, HJ⟩, ?_⟩
    · show Value.int .i64 _ = _
      go_num
    · show ln - (intOf (Value.int .i64 _)).toNat < ln - (intOf (G 5)).toNat
      rw [H5.out]
      simp [intOf]; omega
end Go.Proofs.Qxb6500787aGreat
