
import Derived.Test.Qxb6500787aGreatZd
import Derived.Test.Qxb6500787aGreatYh
import Derived.StillTailTactics
import Derived.Deep.QuietTactic
import Derived.BigQuiet
import Derived.Deep.RegionHeld
import Derived.Deep.CutRange
import Derived.Laws.ResultCell
import Derived.Laws.Rows
import Derived.DeepKeys
import Derived.DataBytes
import Derived.Laws.StructEq
import Derived.Laws.AppendOwn
import Derived.Laws.MakeOwn
import Derived.Lib.AppendStr
set_option linter.unusedSimpArgs false
set_option linter.unusedVariables false
namespace Go.Proofs.Qxb6500787aGreat
open Go.RowKit Go.Blk
attribute [local go_sem ↓] execOp_load execOp_store execOp_alloc
attribute [local go_sem] Tryz.ld26 Tryz.st26 Tryz.ld27 Tryz.st27 Tryz.ld28 Tryz.st28 Tryz.ld3 Tryz.st3 Tryz.ld29 Tryz.st29 Tryz.ld44 Tryz.st44 Tryz.ld4 Tryz.st4 Tryz.ld50 Tryz.st50 Tryz.ld32 Tryz.st32 Tryz.ld49 Tryz.st49 Tryz.ld68 Tryz.st68 Tryz.ld9 Tryz.st9 Tryz.ld40 Tryz.st40 Tryz.ld138 Tryz.st138 Tryz.ld139 Tryz.st139 Tryz.ld146 Tryz.st146 Tryz.ld183 Tryz.st183 Tryz.ld184 Tryz.st184 Tryz.ld192 Tryz.st192 Tryz.ld195 Tryz.st195 Tryz.ld217 Tryz.st217 Tryz.ld159 Tryz.st159 Tryz.ld142 Tryz.st142 Tryz.ld2 Tryz.st2 Tryz.ld5 Tryz.st5 Tryz.ld12 Tryz.st12 Tryz.ld21 Tryz.st21 Tryz.ld22 Tryz.st22 Tryz.ld24 Tryz.st24 Tryz.ld58 Tryz.st58 Tryz.ld97 Tryz.st97 Tryz.ld101 Tryz.st101 Tryz.ld116 Tryz.st116 Tryz.ld121 Tryz.st121 Tryz.ld135 Tryz.st135 Tryz.ld136 Tryz.st136 Tryz.ld143 Tryz.st143 Tryz.ld148 Tryz.st148 Tryz.ld154 Tryz.st154 Tryz.ld173 Tryz.st173 Tryz.ld187 Tryz.st187 Tryz.ld222 Tryz.st222 Tryz.ld241 Tryz.st241 Tryz.ld248 Tryz.st248 Tryz.ld268 Tryz.st268 Tryz.ld272 Tryz.st272 Tryz.ld153 Tryz.st153 Tryz.ld255 Tryz.st255 Tryz.ld256 Tryz.st256 Tryz.ld129 Tryz.st129 Tryz.ld152 Tryz.st152 Tryz.ld31 Tryz.st31 Tryz.ld46 Tryz.st46 Tryz.ld52 Tryz.st52 Tryz.ld54 Tryz.st54 Tryz.ld60 Tryz.st60 Tryz.ld70 Tryz.st70 Tryz.ld74 Tryz.st74 Tryz.ld93 Tryz.st93 Tryz.ld141 Tryz.st141 Tryz.ld151 Tryz.st151 Tryz.ld170 Tryz.st170 Tryz.ld186 Tryz.st186 Tryz.ld189 Tryz.st189 Tryz.ld194 Tryz.st194 Tryz.ld197 Tryz.st197 Tryz.ld219 Tryz.st219 Tryz.ld224 Tryz.st224 Tryz.ld230 Tryz.st230 Tryz.ld235 Tryz.st235 Tryz.ld243 Tryz.st243 Tryz.ld247 Tryz.st247 Tryz.ld252 Tryz.st252 Tryz.ld258 Tryz.st258 Tryz.al153 Tryz.al255 Tryz.al256 Tryz.al129 Tryz.al152 Tryz.al31 Tryz.al46 Tryz.al52 Tryz.al54 Tryz.al60 Tryz.al70 Tryz.al74 Tryz.al93 Tryz.al141 Tryz.al151 Tryz.al170 Tryz.al186 Tryz.al189 Tryz.al194 Tryz.al197 Tryz.al219 Tryz.al224 Tryz.al230 Tryz.al235 Tryz.al243 Tryz.al247 Tryz.al252 Tryz.al258
attribute [local go_sem] Request.length_enc Request.ok_enc Request.all_get Request.all_set Request.kind_get Request.kind_set Request.blob_get Request.blob_set Request.items_get Request.items_set Request.pred_get Request.pred_set Request.slots_get Request.slots_set Trace.length_enc Trace.ok_enc Trace.all_get Trace.all_set Trace.op_get Trace.op_set Trace.calls_get Trace.calls_set Item.length_enc Item.ok_enc Item.all_get Item.all_set Item.del_get Item.del_set Item.pred_get Item.pred_set Item.args_get Item.args_set Reply.length_enc Reply.ok_enc Reply.all_get Reply.all_set Reply.code_get Reply.code_set Reply.kind_get Reply.kind_set Reply.index_get Reply.index_set Reply.yes_get Reply.yes_set Reply.preds_get Reply.preds_set Reply.rules_get Reply.rules_set Reply.arity_get Reply.arity_set Reply.rows_get Reply.rows_set Reply.fact_get Reply.fact_set Reply.fact_del_get Reply.fact_del_set Reply.fact_pred_get Reply.fact_pred_set Reply.fact_args_get Reply.fact_args_set GEntry.length_enc GEntry.ok_enc GEntry.all_get GEntry.all_set GEntry.seq_get GEntry.seq_set GEntry.kind_get GEntry.kind_set GEntry.code_get GEntry.code_set GOp.length_enc GOp.ok_enc GOp.all_get GOp.all_set GOp.kind_get GOp.kind_set GOp.raw_get GOp.raw_set Reader.length_enc Reader.ok_enc Reader.all_get Reader.all_set Reader.buf_get Reader.buf_set Reader.at__get Reader.at__set Slot.length_enc Slot.ok_enc Slot.all_get Slot.all_set Slot.bound_get Slot.bound_set Slot.name_get Slot.name_set Session.length_enc Session.ok_enc Session.all_get Session.all_set Session.svc_get Session.svc_set Session.buf_get Session.buf_set Session.closed_get Session.closed_set GProgram.length_enc GProgram.ok_enc GProgram.all_get GProgram.all_set GProgram.pool_get GProgram.pool_set GProgram.preds_get GProgram.preds_set GProgram.rules_get GProgram.rules_set GProgram.strata_get GProgram.strata_set PredInfo.length_enc PredInfo.ok_enc PredInfo.all_get PredInfo.all_set PredInfo.arity_get PredInfo.arity_set PredInfo.base_get PredInfo.base_set PredInfo.stratum_get PredInfo.stratum_set Change.length_enc Change.ok_enc Change.all_get Change.all_set Change.del_get Change.del_set Change.pred_get Change.pred_set Change.t_get Change.t_set Store.length_enc Store.ok_enc Store.all_get Store.all_set Store.names_get Store.names_set Store.arity_get Store.arity_set Store.rows_get Store.rows_set Src.length_enc Src.ok_enc Src.all_get Src.all_set Src.b_get Src.b_set Src.at__get Src.at__set Atom.length_enc Atom.ok_enc Atom.all_get Atom.all_set Atom.pred_get Atom.pred_set Atom.args_get Atom.args_set GRule.length_enc GRule.ok_enc GRule.all_get GRule.all_set GRule.head_get GRule.head_set GRule.body_get GRule.body_set GRule.head_pred_get GRule.head_pred_set GRule.head_args_get GRule.head_args_set Cert.length_enc Cert.ok_enc Cert.all_get Cert.all_set Cert.names_get Cert.names_set Cert.nodes_get Cert.nodes_set Fact.length_enc Fact.ok_enc Fact.all_get Fact.all_set Fact.pred_get Fact.pred_set Fact.t_get Fact.t_set Literal.length_enc Literal.ok_enc Literal.all_get Literal.all_set Literal.neg_get Literal.neg_set Literal.atom_get Literal.atom_set Literal.atom_pred_get Literal.atom_pred_set Literal.atom_args_get Literal.atom_args_set Engine.length_enc Engine.ok_enc Engine.all_get Engine.all_set Engine.prog_get Engine.prog_set Engine.st_get Engine.st_set SrcCertm.length_enc SrcCertm.ok_enc SrcCertm.all_get SrcCertm.all_set SrcCertm.b_get SrcCertm.b_set SrcCertm.at__get SrcCertm.at__set GNode.length_enc GNode.ok_enc GNode.all_get GNode.all_set GNode.rule_get GNode.rule_set GNode.pred_get GNode.pred_set GNode.vals_get GNode.vals_set GNode.refs_get GNode.refs_set Term.length_enc Term.ok_enc Term.all_get Term.all_set Term.var_get Term.var_set Term.n_get Term.n_set Env.length_enc Env.ok_enc Env.all_get Env.all_set Env.val_get Env.val_set Env.set_get Env.set_set
attribute [local go_sem] size_put size_ext blk_put free_put blk_alloc free_alloc blk_drew free_drew blk_ext free_ext lookOr_some putOr_some segAt_some cellAt_some storeIn_some put_put put_alloc_new length_arr ok_arr_u8 ok_arr_u32 ok_arr_u64 ok_arr_i64 ok_arr_sl cellsV_agg cellsV_int cellsV_bool cellsV_string cellsV_pointer cellsV_slice cellsV_sl ok_int ok_bool ok_string ok_pointer ok_slice ok_sl toList_arr seg_arr set_arr nth_splice nth_splice0 seg_splice seg_splice0 splice_splice splice_splice0 length_splice_if
attribute [local go_sem ↓] execOp_box
attribute [local go_sem] box_run nth_arr_u8 put_arr_u8 blk_drewN free_drewN put_drewN blk_raw free_raw
/-- A reply decoded, plainly. -/
def drF : List UInt8 → Int × PRep
  | x :: y :: ys =>
    if 43 ≤ x.toNat then (7, prZ 0 0 0) else if 8 ≤ y.toNat ∨ (y.toNat = 0 ∧ x.toNat = 0) then (3, prZ 0 0 0)
    else if x.toNat = 0 then (if (bdF y.toNat ys).1 ≠ 0 then ((bdF y.toNat ys).1, prZ 0 0 0) else if (bdF y.toNat ys).2.2 ≠ [] then (6, prZ 0 0 0) else (0, (bdF y.toNat ys).2.1))
    else if y.toNat = 4 ∧ ys ≠ [] then (if ys.drop 1 ≠ [] then (6, prZ 0 0 0) else (0, prZ (x.toNat : Int) (y.toNat : Int) ((ys.getD 0 0).toNat : Int)))
    else if ys ≠ [] then (6, prZ 0 0 0) else (0, prZ (x.toNat : Int) (y.toNat : Int) (-1))
  | _ => (1, prZ 0 0 0)
theorem drF_cons (x y : UInt8) (ys : List UInt8) : drF (x :: y :: ys) = if 43 ≤ x.toNat then (7, prZ 0 0 0) else if 8 ≤ y.toNat ∨ (y.toNat = 0 ∧ x.toNat = 0) then (3, prZ 0 0 0)
    else if x.toNat = 0 then (if (bdF y.toNat ys).1 ≠ 0 then ((bdF y.toNat ys).1, prZ 0 0 0) else if (bdF y.toNat ys).2.2 ≠ [] then (6, prZ 0 0 0) else (0, (bdF y.toNat ys).2.1))
    else if y.toNat = 4 ∧ ys ≠ [] then (if ys.drop 1 ≠ [] then (6, prZ 0 0 0) else (0, prZ (x.toNat : Int) (y.toNat : Int) ((ys.getD 0 0).toNat : Int)))
    else if ys ≠ [] then (6, prZ 0 0 0) else (0, prZ (x.toNat : Int) (y.toNat : Int) (-1)) := rfl
def DrPost (W : World) (q : Int × PRep) (e : Ending) (V : World) : Prop := ∃ rep, e = .returned (.tuple #[.agg (Reply.enc rep).toArray, .int .i64 q.1]) ∧ W.Extends V ∧ (q.1 = 0 → RepC V rep q.2)
theorem build54z (w : World) : (buildOp 69 #[]).run Tryz.prog w = .ok (.value (.agg (Reply.enc (repZ 0 0 0)).toArray)) w := by kernel_rfl
theorem build74d (w : World) (a : Option Addr) (n c : Nat) : (buildOp 171 #[(0, .slice a n c), (1, .int .i64 2)]).run Tryz.prog w = .ok (.value (.agg (rdE a n c 2).toArray)) w := by kernel_rfl
def labD (b2 b4 b5 : Nat) : Own := fun k => if k = b5 then .a 9 1 else if k = b4 then .a 9 2 else if k = b2 then .a 9 3 else .no
theorem dr_new {W V : World} {b2 b4 b5 : Nat} {r : Reply} {a : Option Addr} {n c : Nat} (hx : W.Extends V) (h2 : W.heap.size ≤ b2) (h4 : W.heap.size ≤ b4) (h5 : W.heap.size ≤ b5) (n54 : b5 ≠ b4) (hb : blk V b5 = some (rdE a n c 2)) (hf : free V b5 = true) (hb4 : blk V b4 = some (Reply.enc r)) (hf4 : free V b4 = true) (hn : 2 ≤ n) : DR W (labD b2 b4 b5) b5 b4 a n c 2 r V := by
  refine ⟨⟨hb, hf, hx, h5, hn⟩, if_pos rfl, hb4, hf4, ?_, fun k hk => ?_⟩
  · unfold labD; rw [if_neg (Ne.symm n54), if_pos rfl]
  · unfold labD; rw [if_neg (by omega), if_neg (by omega), if_neg (by omega)]
theorem labD_2 {b2 b4 b5 : Nat} (h1 : b2 ≠ b4) (h2 : b2 ≠ b5) : labD b2 b4 b5 b2 = .a 9 3 := by unfold labD; rw [if_neg h2, if_neg h1, if_pos rfl]
theorem labD_98 (b2 b4 b5 k : Nat) : labD b2 b4 b5 k ≠ .a 9 8 := by
  unfold labD
  split
  · exact fun e => by have := (Lab.a.inj e).2; omega
  · split
    · exact fun e => by have := (Lab.a.inj e).2; omega
    · split
      · exact fun e => by have := (Lab.a.inj e).2; omega
      · exact fun e => by cases e
theorem not_isD3 : ¬ isD (.a 9 3) := by rintro (e | e | e) <;> (have := (Lab.a.inj e).2; omega)
theorem two {xs : List UInt8} (h : 2 ≤ xs.length) : ∃ x y ys, xs = x :: y :: ys := by
  match xs, h with
  | x :: y :: ys, _ => exact ⟨x, y, ys, rfl⟩
attribute [local go_sem ↓] execOp_slice execOp_convert execOp_bslice execOp_make execOp_build
attribute [local go_sem] rd_len rd0 rd1 rd_set1 rd_put rd_ok build54z build74d
set_option maxRecDepth 20000 in
set_option maxHeartbeats 2000000 in
theorem decodeReply_any (W : World) (a : Option Addr) (n c : Nat) (hn : n ≤ 1000000) (hnc : n ≤ c) (hc : c ≤ 9223372036854775807) (xs : List UInt8) (hX : Bs W a n xs) : Calls Tryz.prog 31 #[.slice a n c] W (DrPost W (drF xs)) := by
  have HX := hid_of hX
  have hxl := hX.1
  clear hX
  go_enter Tryz.func31, Tryz.ntmps31
  go_upto_region 1 with fail
  refine wp_world (fun V => W.Extends V ∧ blk V W.heap.size = some Reply.zero.enc ∧ free V W.heap.size = true ∧ V.heap.size = W.heap.size + 1) ⟨extends_alloc (ext_Ext (Ext.refl _)) _, ?_, ?_, ?_⟩ ?_
  · rw [blk_alloc, if_pos rfl]; try rfl
  · rw [free_alloc, if_pos rfl]
  · rw [World.size_alloc]
  rintro W1 ⟨hx1, hb2, hf2, hsz1⟩
  obtain ⟨b2, e2⟩ : ∃ b2, b2 = W.heap.size := ⟨_, rfl⟩
  rw [← e2] at hb2 hf2 ⊢
  have hW2 : W.heap.size ≤ b2 := by omega
  have HX1 := hid_of hx1
  have hb2l : b2 < W1.heap.size := by omega
  have n2 : ¬ b2 = W1.heap.size := by omega
  clear hsz1 e2
  by_cases h2 : n < 2
  · have h2' : (n : Int) < 2 := by omega
    have HP : Hid (DrPost W (drF xs) (.returned (.tuple #[.agg (Reply.enc (repZ 0 0 0)).toArray, .int .i64 1])) (put W1 b2 (Reply.enc (repZ 0 0 0)))) := by
      show DrPost _ _ _ _
      have e : drF xs = (1, prZ 0 0 0) := by match xs, hxl with | [], _ => rfl | [_], _ => rfl | _ :: _ :: ys, h => exact absurd h (by simp; omega)
      rw [e]
      exact ⟨_, rfl, (Side.put (D := fun k => k = b2) (Side.refl _ _) rfl _).extends HX1.out (fun k hk => by have hk' : k = b2 := hk; omega), fun h => absurd h (by decide)⟩
    go_wp2_with fail
    refine ret_cell_tmp (C := Reply.enc (repZ 0 0 0)) rfl rfl rfl ?_ (by kernel_rfl) (by rw [Reply.length_enc]; kernel_rfl) rfl (by exact HP.out)
    first | assumption | (rw [blk_put, if_pos rfl, hb2]; rfl) | (have h9 : blk V6 b2 = some Reply.zero.enc := hb2; show blk (put V6 b2 _) b2 = _; rw [blk_put, if_pos rfl, h9]; rfl) | (have h9 : blk V5 b2 = some Reply.zero.enc := hb2; show blk (put V5 b2 _) b2 = _; rw [blk_put, if_pos rfl, h9]; rfl) | (have h9 : blk V8 b2 = some Reply.zero.enc := hb2; show blk (put V8 b2 _) b2 = _; rw [blk_put, if_pos rfl, h9]; rfl) | (have h9 : blk U5 b2 = some Reply.zero.enc := hb2; show blk (put U5 b2 _) b2 = _; rw [blk_put, if_pos rfl, h9]; rfl)
  have h2' : ¬ (n : Int) < 2 := by omega
  obtain ⟨x, y, ys, rfl⟩ := two (xs := xs) (by omega)
  obtain ⟨b, o, C, rfl, hC, hCl, hby⟩ := (HX.out.grow hx1).byt (by omega)
  have v0 := hby 0 (by omega)
  have v1 := hby 1 (by omega)
  rw [Nat.add_zero] at v0
  obtain ⟨kx, hkx⟩ : ∃ k, k = x.toNat := ⟨_, rfl⟩
  obtain ⟨ky, hky⟩ : ∃ k, k = y.toNat := ⟨_, rfl⟩
  have ex : byt (x :: y :: ys) 0 = kx := hkx.symm
  have ey : byt (x :: y :: ys) 1 = ky := hky.symm
  rw [ex] at v0
  rw [ey] at v1
  have kxl : kx < 256 := by rw [hkx]; exact x.toNat_lt
  have kyl : ky < 256 := by rw [hky]; exact y.toNat_lt
  have HXY : Hid (kx = x.toNat ∧ ky = y.toNat) := ⟨hkx, hky⟩
  have hyl : ys.length + 2 = n := hxl
  have HE : Hid (drF (x :: y :: ys) = if 43 ≤ kx then (7, prZ 0 0 0) else if 8 ≤ ky ∨ (ky = 0 ∧ kx = 0) then (3, prZ 0 0 0)
    else if kx = 0 then (if (bdF ky ys).1 ≠ 0 then ((bdF ky ys).1, prZ 0 0 0) else if (bdF ky ys).2.2 ≠ [] then (6, prZ 0 0 0) else (0, (bdF ky ys).2.1))
    else if ky = 4 ∧ ys ≠ [] then (if ys.drop 1 ≠ [] then (6, prZ 0 0 0) else (0, prZ (kx : Int) (ky : Int) ((ys.getD 0 0).toNat : Int)))
    else if ys ≠ [] then (6, prZ 0 0 0) else (0, prZ (kx : Int) (ky : Int) (-1))) := by
    show _ = _
    rw [drF_cons, ← hkx, ← hky]
  clear ex ey hkx hky hby hxl
  have q0 : (0 : Int) < (n : Int) := by omega
  have q1 : (1 : Int) < (n : Int) := by omega
  have q2 : 0 < n := by omega
  have q3 : 1 < n := by omega
  have w0' : IntKind.i64.wrap (kx : Int) = (kx : Int) := by rw [IntKind.wrap_i64]; omega
  have w1' : IntKind.i64.wrap (ky : Int) = (ky : Int) := by rw [IntKind.wrap_i64]; omega
  have l0 : o < C.length := by omega
  have l1 : o + 1 < C.length := by omega
  have nbb : ¬ b = W1.heap.size := by have := blk_lt hC; omega
  have hb54 : ∀ w, (buildOp 69 #[(0, .int .i64 (kx : Int)), (1, .int .i64 (ky : Int)), (2, .int .i64 (-1))]).run Tryz.prog w = .ok (.value (.agg (Reply.enc (repZ (kx : Int) (ky : Int) (-1))).toArray)) w := fun w => build54_lit w _ _ _
  have hS0 : blk W1.drew b = some C ∧ True := ⟨hC, trivial⟩
  have hSa : ∀ X, blk (W1.drew.alloc X) b = some C := fun X => ((extends_alloc (extd W1) X).blk (blk_lt hC)).trans hC
  go_upto_region 3 with fail
  refine wp_region_held_drew (S := fun W' => blk W' b = some C ∧ True) (by kernel_rfl) hS0 (fun hHeld => ?_)
  refine wpAnyH_take (i := 0) (oi := ⟨_, _, _, _, _, _⟩) (v := ?_) rfl (by kernel_rfl) (by kernel_rfl) (by kernel_rfl) (fun _ _ _ h => h) (Or.inl ⟨by rfl, ?_⟩) (by assumption) ?_
  rotate_left 1
  · intro W' hSw
    obtain ⟨hS1, hS2⟩ := hSw
    go_simp
    try with_reducible rfl
  try simp only [Act.put, List.setIfInBounds_toArray, List.set_cons_zero, List.set_cons_succ]
  refine wpAnyH_take (i := 1) (oi := ⟨_, _, _, _, _, _⟩) (v := ?_) rfl (by kernel_rfl) (by kernel_rfl) (by kernel_rfl) (fun _ _ _ h => h) (Or.inl ⟨by rfl, ?_⟩) (by assumption) ?_
  rotate_left 1
  · intro W' hSw
    obtain ⟨hS1, hS2⟩ := hSw
    go_simp
    try with_reducible rfl
  try simp only [Act.put, List.setIfInBounds_toArray, List.set_cons_zero, List.set_cons_succ]
  refine wpAnyH_take (i := 2) (oi := ⟨_, _, _, _, _, _⟩) (v := ?_) rfl (by kernel_rfl) (by kernel_rfl) (by kernel_rfl) (fun _ _ _ h => h) (Or.inl ⟨by rfl, ?_⟩) (by assumption) ?_
  rotate_left 1
  · intro W' hSw
    obtain ⟨hS1, hS2⟩ := hSw
    go_simp
    try with_reducible rfl
  try simp only [Act.put, List.setIfInBounds_toArray, List.set_cons_zero, List.set_cons_succ]
  refine wpAnyH_take (i := 3) (oi := ⟨_, _, _, _, _, _⟩) (v := ?_) rfl (by kernel_rfl) (by kernel_rfl) (by kernel_rfl) (fun _ _ _ h => h) (Or.inl ⟨by rfl, ?_⟩) (by assumption) ?_
  rotate_left 1
  · intro W' hSw
    obtain ⟨hS1, hS2⟩ := hSw
    go_simp
    try with_reducible rfl
  try simp only [Act.put, List.setIfInBounds_toArray, List.set_cons_zero, List.set_cons_succ]
  refine wpAnyH_take (i := 4) (oi := ⟨_, _, _, _, _, _⟩) (v := ?_) rfl (by kernel_rfl) (by kernel_rfl) (by kernel_rfl) (fun _ _ _ h => h) (Or.inl ⟨by rfl, ?_⟩) (by assumption) ?_
  rotate_left 1
  · intro W' hSw
    obtain ⟨hS1, hS2⟩ := hSw
    go_simp
    try with_reducible rfl
  try simp only [Act.put, List.setIfInBounds_toArray, List.set_cons_zero, List.set_cons_succ]
  refine wpAnyH_take (i := 5) (oi := ⟨_, _, _, _, _, _⟩) (v := ?_) rfl (by kernel_rfl) (by kernel_rfl) (by kernel_rfl) (fun _ _ _ h => h) (Or.inl ⟨by rfl, ?_⟩) (by assumption) ?_
  rotate_left 1
  · intro W' hSw
    obtain ⟨hS1, hS2⟩ := hSw
    go_simp
    try with_reducible rfl
  try simp only [Act.put, List.setIfInBounds_toArray, List.set_cons_zero, List.set_cons_succ]
  refine wpAnyH_take (i := 6) (oi := ⟨_, _, _, _, _, _⟩) (v := ?_) rfl (by kernel_rfl) (by kernel_rfl) (by kernel_rfl) (fun _ _ _ h => h) (Or.inl ⟨by rfl, ?_⟩) (by assumption) ?_
  rotate_left 1
  · intro W' hSw
    obtain ⟨hS1, hS2⟩ := hSw
    go_simp
    try with_reducible rfl
  try simp only [Act.put, List.setIfInBounds_toArray, List.set_cons_zero, List.set_cons_succ]
  refine wpAnyH_take (i := 7) (oi := ⟨_, _, _, _, _, _⟩) (v := ?_) rfl (by kernel_rfl) (by kernel_rfl) (by kernel_rfl) (fun _ _ _ h => h) (Or.inl ⟨by rfl, ?_⟩) (by assumption) ?_
  rotate_left 1
  · intro W' hSw
    obtain ⟨hS1, hS2⟩ := hSw
    go_simp
    try with_reducible rfl
  try simp only [Act.put, List.setIfInBounds_toArray, List.set_cons_zero, List.set_cons_succ]
  refine wpAnyH_take (i := 8) (oi := ⟨_, _, _, _, _, _⟩) (v := ?_) rfl (by kernel_rfl) (by kernel_rfl) (by kernel_rfl) (fun _ _ _ h => h) (Or.inl ⟨by rfl, ?_⟩) (by assumption) ?_
  rotate_left 1
  · intro W' hSw
    obtain ⟨hS1, hS2⟩ := hSw
    go_simp
    try with_reducible rfl
  try simp only [Act.put, List.setIfInBounds_toArray, List.set_cons_zero, List.set_cons_succ]
  refine wpAnyH_ready (rs := [9]) (by kernel_rfl) (by simp) ?_
  refine AllReadyH.cons (o := ⟨_, _, _, _, _, _⟩) rfl (fun K' hK => ?_) AllReadyH.nil
  go_simp
  refine hK.out _ _ ⟨hSa _, trivial⟩ (fun hHeld => ?_)
  clear hK K'
  try simp only [Act.put, List.setIfInBounds_toArray, List.set_cons_zero, List.set_cons_succ]
  refine wpAnyH_ready (rs := [10]) (by kernel_rfl) (by simp) ?_
  refine AllReadyH.cons (o := ⟨_, _, _, _, _, _⟩) rfl (fun K' hK => ?_) AllReadyH.nil
  go_simp
  refine hK.out _ _ ⟨by first | exact hSa _ | (rw [blk_put, if_neg nbb]; exact hSa _), trivial⟩ (fun hHeld => ?_)
  clear hK K'
  try simp only [Act.put, List.setIfInBounds_toArray, List.set_cons_zero, List.set_cons_succ]
  refine wpAnyH_done (by kernel_rfl) ?_ _
  go_upto_region 4 with fail
  refine wp_world (fun V => W.Extends V ∧ blk V b2 = some Reply.zero.enc ∧ free V b2 = true ∧ blk V W1.heap.size = some (Reply.enc (repZ (kx : Int) (ky : Int) (-1))) ∧ free V W1.heap.size = true ∧ W1.heap.size < V.heap.size) ⟨?_, ?_, ?_, ?_, ?_, ?_⟩ ?_
  · exact (Side.put (D := fun k => k = W1.heap.size) (Side.refl _ _) rfl _).extends ((HX1.out.trans (extd W1)).trans (extends_alloc (ext_Ext (Ext.refl _)) _)) (fun k hk => by have hk' : k = W1.heap.size := hk; omega)
  · rw [blk_put, if_neg n2]; exact ((extends_alloc (extd W1) _).blk hb2l).trans hb2
  · rw [free_put]; exact (free_of_heap ((extends_alloc (extd W1) _).block b2 hb2l)).trans hf2
  · rw [blk_put, if_pos rfl]
    have h10 : blk (W1.alloc (.cells Reply.zero.enc.toArray 69)).drew W1.heap.size = some Reply.zero.enc := (blk_alloc _ _ _ _).trans (if_pos rfl)
    rw [h10]; rfl
  · rw [free_put]; exact (free_alloc _ _ _ _).trans (if_pos rfl)
  · rw [size_put]; show W1.heap.size < (W1.alloc _).heap.size; rw [World.size_alloc]; omega
  rintro V4 ⟨hx4, hb24, hf24, hb4, hf4, hl4⟩
  obtain ⟨b4, e4⟩ : ∃ b4, b4 = W1.heap.size := ⟨_, rfl⟩
  rw [← e4] at hb4 hf4 hl4 ⊢
  have n42 : ¬ b4 = b2 := by omega
  have n24 : ¬ b2 = b4 := by omega
  have hW4 : W.heap.size ≤ b4 := by omega
  have HX4 := hid_of hx4
  have l24 := blk_lt hb24
  obtain ⟨RE, hRE⟩ : ∃ RE, RE = Reply.enc (repZ (kx : Int) (ky : Int) (-1)) := ⟨_, rfl⟩
  rw [← hRE] at hb4
  have re0 : nth RE 0 = some (.int .i64 (kx : Int)) := by rw [hRE]; rfl
  have re1 : nth RE 1 = some (.int .i64 (ky : Int)) := by rw [hRE]; rfl
  have rel : RE.length = 11 := by rw [hRE]; exact Reply.length_enc _
  have HRE := hid_of hRE
  clear hb2 hf2 hb2l n2 hC v0 v1 l0 l1 nbb hS0 hSa hb54 w0' w1' hCl q0 q1 q2 q3 e4 hx4 hx1 HX1 hRE
  by_cases hk43 : 43 ≤ kx
  · have g1 : (kx : Int) ≥ 43 := by omega
    have g1' : (43 : Int) ≤ (kx : Int) := by omega
    have HP : Hid (DrPost W (drF (x :: y :: ys)) (.returned (.tuple #[.agg (Reply.enc (repZ 0 0 0)).toArray, .int .i64 7])) (put V4 b2 (Reply.enc (repZ 0 0 0)))) := by
      show DrPost _ _ _ _
      have e : drF (x :: y :: ys) = (7, prZ 0 0 0) := by rw [HE.out, if_pos hk43]
      rw [e]
      exact ⟨_, rfl, (Side.put (D := fun k => k = b2) (Side.refl _ _) rfl _).extends HX4.out (fun k hk => by have hk' : k = b2 := hk; omega), fun h => absurd h (by decide)⟩
    go_wp2_with fail
    refine ret_cell_tmp (C := Reply.enc (repZ 0 0 0)) rfl rfl rfl ?_ (by kernel_rfl) (by rw [Reply.length_enc]; kernel_rfl) rfl (by exact HP.out)
    first | assumption | (rw [blk_put, if_pos rfl, hb24]; rfl) | (have h9 : blk V6 b2 = some Reply.zero.enc := hb24; show blk (put V6 b2 _) b2 = _; rw [blk_put, if_pos rfl, h9]; rfl) | (have h9 : blk V5 b2 = some Reply.zero.enc := hb24; show blk (put V5 b2 _) b2 = _; rw [blk_put, if_pos rfl, h9]; rfl) | (have h9 : blk V8 b2 = some Reply.zero.enc := hb24; show blk (put V8 b2 _) b2 = _; rw [blk_put, if_pos rfl, h9]; rfl) | (have h9 : blk U5 b2 = some Reply.zero.enc := hb24; show blk (put U5 b2 _) b2 = _; rw [blk_put, if_pos rfl, h9]; rfl)
  have g1 : ¬ (kx : Int) ≥ 43 := by omega
  have g1' : ¬ (43 : Int) ≤ (kx : Int) := by omega
  by_cases hk8 : 8 ≤ ky
  · have g2 : (ky : Int) ≥ 8 := by omega
    have g2b : decide ((ky : Int) ≥ 8) = true := decide_eq_true g2
    have g2c : decide ((8 : Int) ≤ (ky : Int)) = true := decide_eq_true g2
    have HP : Hid (DrPost W (drF (x :: y :: ys)) (.returned (.tuple #[.agg (Reply.enc (repZ 0 0 0)).toArray, .int .i64 3])) (put V4 b2 (Reply.enc (repZ 0 0 0)))) := by
      show DrPost _ _ _ _
      have e : drF (x :: y :: ys) = (3, prZ 0 0 0) := by rw [HE.out, if_neg hk43, if_pos (.inl hk8)]
      rw [e]
      exact ⟨_, rfl, (Side.put (D := fun k => k = b2) (Side.refl _ _) rfl _).extends HX4.out (fun k hk => by have hk' : k = b2 := hk; omega), fun h => absurd h (by decide)⟩
    go_wp2_with fail
    refine ret_cell_tmp (C := Reply.enc (repZ 0 0 0)) rfl rfl rfl ?_ (by kernel_rfl) (by rw [Reply.length_enc]; kernel_rfl) rfl (by exact HP.out)
    first | assumption | (rw [blk_put, if_pos rfl, hb24]; rfl) | (have h9 : blk V6 b2 = some Reply.zero.enc := hb24; show blk (put V6 b2 _) b2 = _; rw [blk_put, if_pos rfl, h9]; rfl) | (have h9 : blk V5 b2 = some Reply.zero.enc := hb24; show blk (put V5 b2 _) b2 = _; rw [blk_put, if_pos rfl, h9]; rfl) | (have h9 : blk V8 b2 = some Reply.zero.enc := hb24; show blk (put V8 b2 _) b2 = _; rw [blk_put, if_pos rfl, h9]; rfl) | (have h9 : blk U5 b2 = some Reply.zero.enc := hb24; show blk (put U5 b2 _) b2 = _; rw [blk_put, if_pos rfl, h9]; rfl)
  have g2 : ¬ (ky : Int) ≥ 8 := by omega
  have g2' : ¬ (8 : Int) ≤ (ky : Int) := by omega
  have g2b : decide ((ky : Int) ≥ 8) = false := decide_eq_false g2
  have g2c : decide ((8 : Int) ≤ (ky : Int)) = false := decide_eq_false g2
  by_cases hk00 : ky = 0 ∧ kx = 0
  · obtain ⟨hky0, hkx0⟩ := hk00
    have HE0 := hid_of hky0
    have HE1 := hid_of hkx0
    subst hky0
    subst hkx0
    have HP : Hid (DrPost W (drF (x :: y :: ys)) (.returned (.tuple #[.agg (Reply.enc (repZ 0 0 0)).toArray, .int .i64 3])) (put V4 b2 (Reply.enc (repZ 0 0 0)))) := by
      show DrPost _ _ _ _
      have e : drF (x :: y :: ys) = (3, prZ 0 0 0) := by rw [HE.out, if_neg hk43, if_pos (.inr ⟨rfl, rfl⟩)]
      rw [e]
      exact ⟨_, rfl, (Side.put (D := fun k => k = b2) (Side.refl _ _) rfl _).extends HX4.out (fun k hk => by have hk' : k = b2 := hk; omega), fun h => absurd h (by decide)⟩
    go_wp2_with fail
    refine ret_cell_tmp (C := Reply.enc (repZ 0 0 0)) rfl rfl rfl ?_ (by kernel_rfl) (by rw [Reply.length_enc]; kernel_rfl) rfl (by exact HP.out)
    first | assumption | (rw [blk_put, if_pos rfl, hb24]; rfl) | (have h9 : blk V6 b2 = some Reply.zero.enc := hb24; show blk (put V6 b2 _) b2 = _; rw [blk_put, if_pos rfl, h9]; rfl) | (have h9 : blk V5 b2 = some Reply.zero.enc := hb24; show blk (put V5 b2 _) b2 = _; rw [blk_put, if_pos rfl, h9]; rfl) | (have h9 : blk V8 b2 = some Reply.zero.enc := hb24; show blk (put V8 b2 _) b2 = _; rw [blk_put, if_pos rfl, h9]; rfl) | (have h9 : blk U5 b2 = some Reply.zero.enc := hb24; show blk (put U5 b2 _) b2 = _; rw [blk_put, if_pos rfl, h9]; rfl)
  by_cases hkx : kx = 0
  · have HKX := hid_of hkx
    have g3 : ¬ (ky : Int) = 0 := by omega
    have g3b : ((ky : Int) == 0) = false := by simp; omega
    subst hkx
    have re0 : nth RE 0 = some (.int .i64 0) := re0
    go_upto_region 9 with fail
    refine wp_world (fun V => W.Extends V ∧ blk V b2 = some Reply.zero.enc ∧ free V b2 = true ∧ blk V b4 = some RE ∧ free V b4 = true ∧ blk V V4.heap.size = some (rdE (some ⟨b, o, none⟩) n c 2) ∧ free V V4.heap.size = true) ⟨?_, ?_, ?_, ?_, ?_, ?_, ?_⟩ ?_
    · first | exact HX4.out.trans (extends_alloc (ext_Ext (Ext.refl _)) _) | exact (Side.put (D := fun k => k = V4.heap.size) (Side.refl _ _) rfl _).extends (HX4.out.trans (extends_alloc (ext_Ext (Ext.refl _)) _)) (fun k hk => by have hk' : k = V4.heap.size := hk; have := HX4.out.size; omega)
    · first | exact ((extends_alloc (ext_Ext (Ext.refl _)) _).blk (by omega)).trans hb24 | (rw [blk_put, if_neg (by omega)]; exact ((extends_alloc (ext_Ext (Ext.refl _)) _).blk (by omega)).trans hb24)
    · first | exact (free_of_heap ((extends_alloc (ext_Ext (Ext.refl _)) _).block b2 (by omega))).trans hf24 | (rw [free_put]; exact (free_of_heap ((extends_alloc (ext_Ext (Ext.refl _)) _).block b2 (by omega))).trans hf24)
    · first | exact ((extends_alloc (ext_Ext (Ext.refl _)) _).blk (by omega)).trans hb4 | (rw [blk_put, if_neg (by omega)]; exact ((extends_alloc (ext_Ext (Ext.refl _)) _).blk (by omega)).trans hb4)
    · first | exact (free_of_heap ((extends_alloc (ext_Ext (Ext.refl _)) _).block b4 (by omega))).trans hf4 | (rw [free_put]; exact (free_of_heap ((extends_alloc (ext_Ext (Ext.refl _)) _).block b4 (by omega))).trans hf4)
    · first | (rw [blk_put, if_pos rfl, blk_alloc, if_pos rfl]; rfl) | (rw [blk_alloc, if_pos rfl]; try rfl)
    · first | (rw [free_put, free_alloc, if_pos rfl]) | (rw [free_alloc, if_pos rfl])
    rintro V5 ⟨hx5, hb25, hf25, hb45, hf45, hb5, hf5⟩
    obtain ⟨b5, e5⟩ : ∃ b5, b5 = V4.heap.size := ⟨_, rfl⟩
    rw [← e5] at hb5 hf5 ⊢
    have n52 : ¬ b5 = b2 := by omega
    have n54 : ¬ b5 = b4 := by omega
    have hDR : DR W (labD b2 b4 b5) b5 b4 (some ⟨b, o, none⟩) n c 2 (repZ 0 (ky : Int) (-1)) V5 := dr_new hx5 hW2 hW4 (by have := HX4.out.size; omega) n54 hb5 hf5 (by have h9 := hb45; rw [HRE.out] at h9; exact h9) hf45 (by omega)
    have HDR := hid_of hDR
    have HX5 := hid_of hx5
    clear e5 hDR hx5 hb24 hf24 hb4 hf4 hl4 HX4
    have hbody : Calls Tryz.prog 80 #[.pointer (some ⟨b5, 0, none⟩), .pointer (some ⟨b4, 0, none⟩)] V5 (BdPost W (labD b2 b4 b5) V5 b5 b4 (some ⟨b, o, none⟩) n c (x :: y :: ys) (bdF ky ys).1 (bdF ky ys).2.1 (bdF ky ys).2.2) := body_any ky W V5 (labD b2 b4 b5) b5 b4 (some ⟨b, o, none⟩) n c 2 HDR.out (fun k _ => labD_98 _ _ _ _) hn hnc hc _ HX.out
    have HE2 : Hid (drF (x :: y :: ys) = if (bdF ky ys).1 ≠ 0 then ((bdF ky ys).1, prZ 0 0 0) else if (bdF ky ys).2.2 ≠ [] then (6, prZ 0 0 0) else (0, (bdF ky ys).2.1)) := by
      show _ = _
      rw [HE.out, if_neg hk43, if_neg (by rintro (h | h); exact hk8 h; exact hk00 h), if_pos rfl]
    have n25' : b2 ≠ b5 := fun e => n52 e.symm
    have n24' : b2 ≠ b4 := n24
    clear HE
    go_wp2_with fail
    refine hbody.mono ?_
    rintro e V6 ⟨O', r', p', rfl, hD6, hF6, hR6⟩
    have hb26 := hF6.blk hb25 (by rw [labD_2 n24' n25']; exact not_isD3)
    have hf26 := hF6.free hb25 hf25 (by rw [labD_2 n24' n25']; exact not_isD3)
    have ho26 : O' b2 = .a 9 3 := (hF6.keep b2 (blk_lt hb25)).trans (labD_2 n24' n25')
    have hb46 := hD6.cell
    have HX6 := hid_of hD6.rd.2.2.1
    have hrd6 := hD6.rd.1
    have hp6 := hD6.rd.2.2.2.2
    obtain ⟨cd, hcd⟩ : ∃ cd, cd = (bdF ky ys).1 := ⟨_, rfl⟩
    rw [← hcd] at hR6 HE2 ⊢
    have HR6 := hid_of hR6
    have HO2 := hid_of ho26
    clear hbody hD6 hF6 hR6 ho26 hb25 hf25 hb45 hf45 hb5 hf5 HDR hcd re0 re1
    dsimp only
    by_cases hz : cd = 0
    rotate_left 1
    · have hzb : (cd == 0) = false := by simp [hz]
      have HP : Hid (DrPost W (drF (x :: y :: ys)) (.returned (.tuple #[.agg (Reply.enc (repZ 0 0 0)).toArray, .int .i64 cd])) (put V6 b2 (Reply.enc (repZ 0 0 0)))) := by
        show DrPost _ _ _ _
        have e : drF (x :: y :: ys) = (cd, prZ 0 0 0) := by rw [HE2.out, if_pos hz]
        rw [e]
        exact ⟨_, rfl, (Side.put (D := fun k => k = b2) (Side.refl _ _) rfl _).extends HX6.out (fun k hk => by have hk' : k = b2 := hk; omega), fun h => absurd h hz⟩
      go_wp2_with fail
      refine ret_cell_tmp (C := Reply.enc (repZ 0 0 0)) rfl rfl rfl ?_ (by kernel_rfl) (by rw [Reply.length_enc]; kernel_rfl) rfl (by exact HP.out)
      first | assumption | (rw [blk_put, if_pos rfl, hb26]; rfl) | (have h9 : blk V6 b2 = some Reply.zero.enc := hb26; show blk (put V6 b2 _) b2 = _; rw [blk_put, if_pos rfl, h9]; rfl) | (have h9 : blk V5 b2 = some Reply.zero.enc := hb26; show blk (put V5 b2 _) b2 = _; rw [blk_put, if_pos rfl, h9]; rfl) | (have h9 : blk V8 b2 = some Reply.zero.enc := hb26; show blk (put V8 b2 _) b2 = _; rw [blk_put, if_pos rfl, h9]; rfl) | (have h9 : blk U5 b2 = some Reply.zero.enc := hb26; show blk (put U5 b2 _) b2 = _; rw [blk_put, if_pos rfl, h9]; rfl)
    have HRC := hid_of (HR6.out hz)
    have hlen : (bdF ky ys).2.2.length = n - p' := by rw [← HRC.out.1, List.length_drop]; show ys.length + 2 - p' = _; omega
    have HZ := hid_of hz
    subst hz
    have hleft := left_anyX V6 b5 (some ⟨b, o, none⟩) n c p' hrd6 hp6 hn
    go_wp2_with fail
    refine hleft.mono ?_
    rintro e V7 ⟨rfl, k7, rfl⟩
    dsimp only
    have hb27 : blk (V6.drewN k7) b2 = some Reply.zero.enc := hb26
    have hf27 : free (V6.drewN k7) b2 = true := hf26
    have hb47 : blk (V6.drewN k7) b4 = some (Reply.enc r') := hb46
    have HX7 : Hid (W.Extends (V6.drewN k7)) := extends_drewN HX6.out k7
    obtain ⟨m, hm⟩ : ∃ m, m = n - p' := ⟨_, rfl⟩
    rw [← hm] at hlen ⊢
    clear hm hleft hb26 hf26 hb46 hrd6
    by_cases hm0 : m = 0
    rotate_left 1
    · have hm1 : ¬ (m : Int) = 0 := by omega
      have hm1b : ((m : Int) != 0) = true := by simp; omega
      have HNE : Hid ((bdF ky ys).2.2 ≠ []) := fun e => hm0 (by rw [← hlen, e]; rfl)
      clear hlen
      have HP : Hid (DrPost W (drF (x :: y :: ys)) (.returned (.tuple #[.agg (Reply.enc (repZ 0 0 0)).toArray, .int .i64 6])) (put (V6.drewN k7) b2 (Reply.enc (repZ 0 0 0)))) := by
        show DrPost _ _ _ _
        have e : drF (x :: y :: ys) = (6, prZ 0 0 0) := by rw [HE2.out, if_neg (fun h => h rfl), if_pos HNE.out]
        rw [e]
        exact ⟨_, rfl, (Side.put (D := fun k => k = b2) (Side.refl _ _) rfl _).extends HX7.out (fun k hk => by have hk' : k = b2 := hk; omega), fun h => absurd h (by decide)⟩
      go_wp2_with fail
      refine ret_cell_tmp (C := Reply.enc (repZ 0 0 0)) rfl rfl rfl ?_ (by kernel_rfl) (by rw [Reply.length_enc]; kernel_rfl) rfl (by exact HP.out)
      first | assumption | (rw [blk_put, if_pos rfl, hb27]; rfl) | (have h9 : blk V6 b2 = some Reply.zero.enc := hb27; show blk (put V6 b2 _) b2 = _; rw [blk_put, if_pos rfl, h9]; rfl) | (have h9 : blk V5 b2 = some Reply.zero.enc := hb27; show blk (put V5 b2 _) b2 = _; rw [blk_put, if_pos rfl, h9]; rfl) | (have h9 : blk V8 b2 = some Reply.zero.enc := hb27; show blk (put V8 b2 _) b2 = _; rw [blk_put, if_pos rfl, h9]; rfl) | (have h9 : blk U5 b2 = some Reply.zero.enc := hb27; show blk (put U5 b2 _) b2 = _; rw [blk_put, if_pos rfl, h9]; rfl)
    have HNE : Hid ((bdF ky ys).2.2 = []) := List.eq_nil_of_length_eq_zero (hlen.trans hm0)
    have HP : Hid (DrPost W (drF (x :: y :: ys)) (.returned (.tuple #[.agg (Reply.enc r').toArray, .int .i64 0])) (put (V6.drewN k7) b2 (Reply.enc r'))) := by
      show DrPost _ _ _ _
      have e : drF (x :: y :: ys) = (0, (bdF ky ys).2.1) := by rw [HE2.out, if_neg (fun h => h rfl), if_neg (fun h => h HNE.out)]
      rw [e]
      refine ⟨r', rfl, (Side.put (D := fun k => k = b2) (Side.refl _ _) rfl _).extends HX7.out (fun k hk => by have hk' : k = b2 := hk; omega), fun _ => HRC.out.2.sub fun b' C' hb' => ?_⟩
      obtain ⟨h1, h2⟩ := core_blk hb'
      rw [blk_put, if_neg (fun e => by rw [e, HO2.out] at h2; cases h2)]
      exact h1
    subst hm0
    clear hlen
    go_wp2_with fail
    refine ret_cell_tmp (C := Reply.enc r') rfl rfl rfl ?_ (by kernel_rfl) (by rw [Reply.length_enc]; kernel_rfl) rfl (by exact HP.out)
    first | assumption | (rw [blk_put, if_pos rfl, hb27]; rfl) | (have h9 : blk V6 b2 = some Reply.zero.enc := hb27; show blk (put V6 b2 _) b2 = _; rw [blk_put, if_pos rfl, h9]; rfl) | (have h9 : blk V5 b2 = some Reply.zero.enc := hb27; show blk (put V5 b2 _) b2 = _; rw [blk_put, if_pos rfl, h9]; rfl) | (have h9 : blk V8 b2 = some Reply.zero.enc := hb27; show blk (put V8 b2 _) b2 = _; rw [blk_put, if_pos rfl, h9]; rfl) | (have h9 : blk U5 b2 = some Reply.zero.enc := hb27; show blk (put U5 b2 _) b2 = _; rw [blk_put, if_pos rfl, h9]; rfl)
  · have g4 : ¬ (kx : Int) = 0 := by omega
    have g4b : ((kx : Int) == 0) = false := by simp; omega
    by_cases hky4 : ky = 4
    · subst hky4
      have re1 : nth RE 1 = some (.int .i64 4) := re1
      have HE2 : Hid (drF (x :: y :: ys) = if 4 = 4 ∧ ys ≠ [] then (if ys.drop 1 ≠ [] then (6, prZ 0 0 0) else (0, prZ (kx : Int) ((4 : Nat) : Int) ((ys.getD 0 0).toNat : Int))) else if ys ≠ [] then (6, prZ 0 0 0) else (0, prZ (kx : Int) ((4 : Nat) : Int) (-1))) := by
        show _ = _
        rw [HE.out, if_neg hk43, if_neg (by rintro (h | h); exact hk8 h; exact hkx h.2), if_neg hkx]
      clear HE
      go_upto_region 9 with fail
      refine wp_world (fun V => W.Extends V ∧ blk V b2 = some Reply.zero.enc ∧ free V b2 = true ∧ blk V b4 = some RE ∧ free V b4 = true ∧ blk V V4.heap.size = some (rdE (some ⟨b, o, none⟩) n c 2) ∧ free V V4.heap.size = true) ⟨?_, ?_, ?_, ?_, ?_, ?_, ?_⟩ ?_
      · first | exact HX4.out.trans (extends_alloc (ext_Ext (Ext.refl _)) _) | exact (Side.put (D := fun k => k = V4.heap.size) (Side.refl _ _) rfl _).extends (HX4.out.trans (extends_alloc (ext_Ext (Ext.refl _)) _)) (fun k hk => by have hk' : k = V4.heap.size := hk; have := HX4.out.size; omega)
      · first | exact ((extends_alloc (ext_Ext (Ext.refl _)) _).blk (by omega)).trans hb24 | (rw [blk_put, if_neg (by omega)]; exact ((extends_alloc (ext_Ext (Ext.refl _)) _).blk (by omega)).trans hb24)
      · first | exact (free_of_heap ((extends_alloc (ext_Ext (Ext.refl _)) _).block b2 (by omega))).trans hf24 | (rw [free_put]; exact (free_of_heap ((extends_alloc (ext_Ext (Ext.refl _)) _).block b2 (by omega))).trans hf24)
      · first | exact ((extends_alloc (ext_Ext (Ext.refl _)) _).blk (by omega)).trans hb4 | (rw [blk_put, if_neg (by omega)]; exact ((extends_alloc (ext_Ext (Ext.refl _)) _).blk (by omega)).trans hb4)
      · first | exact (free_of_heap ((extends_alloc (ext_Ext (Ext.refl _)) _).block b4 (by omega))).trans hf4 | (rw [free_put]; exact (free_of_heap ((extends_alloc (ext_Ext (Ext.refl _)) _).block b4 (by omega))).trans hf4)
      · first | (rw [blk_put, if_pos rfl, blk_alloc, if_pos rfl]; rfl) | (rw [blk_alloc, if_pos rfl]; try rfl)
      · first | (rw [free_put, free_alloc, if_pos rfl]) | (rw [free_alloc, if_pos rfl])
      rintro V5 ⟨hx5, hb25, hf25, hb45, hf45, hb5, hf5⟩
      obtain ⟨b5, e5⟩ : ∃ b5, b5 = V4.heap.size := ⟨_, rfl⟩
      rw [← e5] at hb5 hf5 ⊢
      have n52 : ¬ b5 = b2 := by omega
      have n54 : ¬ b5 = b4 := by omega
      have hDR : DR W (labD b2 b4 b5) b5 b4 (some ⟨b, o, none⟩) n c 2 (repZ (kx : Int) ((4 : Nat) : Int) (-1)) V5 := dr_new hx5 hW2 hW4 (by have := HX4.out.size; omega) n54 hb5 hf5 (by have h9 := hb45; rw [HRE.out] at h9; exact h9) hf45 (by omega)
      have HDR := hid_of hDR
      have HX5 := hid_of hx5
      clear e5 hDR hx5 hb24 hf24 hb4 hf4 hl4 HX4
      have hl0 := left_anyX V5 b5 (some ⟨b, o, none⟩) n c 2 HDR.out.rd.1 (by omega) hn
      go_wp2_with fail
      refine hl0.mono ?_
      rintro e V6 ⟨rfl, k0, rfl⟩
      dsimp only
      clear hl0
      obtain ⟨U5, hU5⟩ : ∃ U, U = V5.drewN k0 := ⟨_, rfl⟩
      have hDRU := HDR.out.drewN k0
      rw [← hU5] at hDRU
      have HDR := hid_of hDRU
      have hb25 : blk U5 b2 = some Reply.zero.enc := by rw [hU5]; exact hb25
      have hf25 : free U5 b2 = true := by rw [hU5]; exact hf25
      have hb45 : blk U5 b4 = some RE := by rw [hU5]; exact hb45
      have hf45 : free U5 b4 = true := by rw [hU5]; exact hf45
      have HX5 : Hid (W.Extends U5) := by show World.Extends _ _; rw [hU5]; exact extends_drewN HX5.out k0
      rw [← hU5]
      clear hU5 hDRU
      by_cases hn2 : n = 2
      · have q1 : ¬ ((n - 2 : Nat) : Int) > 0 := by omega
        have q1' : ¬ (0 : Int) < ((n - 2 : Nat) : Int) := by omega
        have q1c : ((n - 2 : Nat) : Int) = 0 := by omega
        have q1b : decide (((n - 2 : Nat) : Int) > 0) = false := decide_eq_false q1
        have q1d : decide ((0 : Int) < ((n - 2 : Nat) : Int)) = false := decide_eq_false q1'
        have HYE : Hid (ys = []) := List.eq_nil_of_length_eq_zero (by omega)
        have hlf := left_anyX U5 b5 (some ⟨b, o, none⟩) n c 2 HDR.out.rd.1 (by omega) hn
        go_wp2_with fail
        refine hlf.mono ?_
        rintro e V6 ⟨rfl, k6, rfl⟩
        dsimp only
        have hb2f : blk (U5.drewN k6) b2 = some Reply.zero.enc := hb25
        have hf2f : free (U5.drewN k6) b2 = true := hf25
        have hb4f : blk (U5.drewN k6) b4 = some RE := hb45
        have HXF : Hid (W.Extends (U5.drewN k6)) := extends_drewN HX5.out k6
        obtain ⟨m, hm⟩ : ∃ m, m = n - 2 := ⟨_, rfl⟩
        rw [← hm]
        have hmy : ys.length = m := by omega
        have HMY := hid_of hmy
        clear hm hmy hlf
        by_cases hm0 : m = 0
        rotate_left 1
        · have hm1 : ¬ (m : Int) = 0 := by omega
          have hm1b : ((m : Int) != 0) = true := by simp; omega
          have HNE : Hid (ys ≠ []) := fun e => hm0 (by rw [← HMY.out, e]; rfl)
          have HP : Hid (DrPost W (drF (x :: y :: ys)) (.returned (.tuple #[.agg (Reply.enc (repZ 0 0 0)).toArray, .int .i64 6])) (put (U5.drewN k6) b2 (Reply.enc (repZ 0 0 0)))) := by
            show DrPost _ _ _ _
            have e : drF (x :: y :: ys) = (6, prZ 0 0 0) := absurd HYE.out HNE.out
            rw [e]
            exact ⟨_, rfl, (Side.put (D := fun k => k = b2) (Side.refl _ _) rfl _).extends HXF.out (fun k hk => by have hk' : k = b2 := hk; omega), fun h => absurd h (by decide)⟩
          go_wp2_with fail
          refine ret_cell_tmp (C := Reply.enc (repZ 0 0 0)) rfl rfl rfl ?_ (by kernel_rfl) (by rw [Reply.length_enc]; kernel_rfl) rfl (by exact HP.out)
          first | assumption | (rw [blk_put, if_pos rfl, hb2f]; rfl) | (have h9 : blk V6 b2 = some Reply.zero.enc := hb2f; show blk (put V6 b2 _) b2 = _; rw [blk_put, if_pos rfl, h9]; rfl) | (have h9 : blk U5 b2 = some Reply.zero.enc := hb2f; show blk (put U5 b2 _) b2 = _; rw [blk_put, if_pos rfl, h9]; rfl) | (have h9 : blk V8 b2 = some Reply.zero.enc := hb2f; show blk (put V8 b2 _) b2 = _; rw [blk_put, if_pos rfl, h9]; rfl) | (have h9 : blk U5 b2 = some Reply.zero.enc := hb2f; show blk (put U5 b2 _) b2 = _; rw [blk_put, if_pos rfl, h9]; rfl)
        have HNE : Hid (ys = []) := List.eq_nil_of_length_eq_zero (HMY.out.trans hm0)
        have HP : Hid (DrPost W (drF (x :: y :: ys)) (.returned (.tuple #[.agg (Reply.enc (repZ (kx : Int) ((4 : Nat) : Int) (-1))).toArray, .int .i64 0])) (put (U5.drewN k6) b2 (Reply.enc (repZ (kx : Int) ((4 : Nat) : Int) (-1))))) := by
          show DrPost _ _ _ _
          have e : drF (x :: y :: ys) = (0, prZ (kx : Int) ((4 : Nat) : Int) (-1)) := by rw [HE2.out, if_neg (fun h => h.2 HNE.out), if_neg (fun h => h HNE.out)]
          rw [e]
          exact ⟨_, rfl, (Side.put (D := fun k => k = b2) (Side.refl _ _) rfl _).extends HXF.out (fun k hk => by have hk' : k = b2 := hk; omega), fun _ => repz_c _ _ _ _⟩
        have hRS := Reply.all_get (repZ (kx : Int) ((4 : Nat) : Int) (-1))
        have hRO := Reply.ok_enc (repZ (kx : Int) ((4 : Nat) : Int) (-1))
        have hRP := Reply.all_set Reply.zero (repZ (kx : Int) ((4 : Nat) : Int) (-1))
        rw [← HRE.out] at hRS hRO hRP HP
        subst hm0
        go_wp2_with fail
        refine ret_cell_tmp (C := RE) rfl rfl rfl ?_ (by kernel_rfl) (by rw [rel]; kernel_rfl) rfl (by exact HP.out)
        first | assumption | (rw [blk_put, if_pos rfl, hb2f]; rfl) | (have h9 : blk U5 b2 = some Reply.zero.enc := hb2f; show blk (put U5 b2 _) b2 = _; rw [blk_put, if_pos rfl, h9]; rfl)
      · have q1 : ((n - 2 : Nat) : Int) > 0 := by omega
        have q1' : (0 : Int) < ((n - 2 : Nat) : Int) := by omega
        obtain ⟨x2, hx2⟩ : ∃ z, (x :: y :: ys)[2]? = some z := ⟨_, List.getElem?_eq_getElem (by show 2 < ys.length + 2; omega)⟩
        obtain ⟨k2, hk2⟩ : ∃ k, k = x2.toNat := ⟨_, rfl⟩
        have hy2 : ys[0]? = some x2 := hx2
        have hyl2 : 0 < ys.length := by omega
        have HE3 : Hid (drF (x :: y :: ys) = if ys.drop 1 ≠ [] then (6, prZ 0 0 0) else (0, prZ (kx : Int) ((4 : Nat) : Int) (k2 : Int))) := by
          show _ = _
          rw [HE2.out, if_pos (by first | exact ⟨rfl, fun e => by rw [e] at hyl2; exact absurd hyl2 (by simp)⟩ | exact ⟨trivial, fun e => by rw [e] at hyl2; exact absurd hyl2 (by simp)⟩), List.getD_eq_getElem?_getD, hy2, hk2]; rfl
        have hu := u8_natX W U5 b5 (some ⟨b, o, none⟩) n c 2 HDR.out.rd hn hnc hc _ HX.out x2 hx2 k2 hk2
        clear hx2 hk2 hy2 HE2
        go_wp2_with fail
        refine hu.mono ?_
        rintro e V7 ⟨rfl, g5, g6⟩
        dsimp only
        have hb27 : blk V7 b2 = some Reply.zero.enc := (g6.blk (blk_lt hb25) (fun e => n52 e.symm)).trans hb25
        have hf27 : free V7 b2 = true := (free_of_heap (g6.block b2 (blk_lt hb25) (fun e => n52 e.symm))).trans hf25
        have hb47 : blk V7 b4 = some RE := (g6.blk (blk_lt hb45) (fun e => n54 e.symm)).trans hb45
        have hf47 : free V7 b4 = true := (free_of_heap (g6.block b4 (blk_lt hb45) (fun e => n54 e.symm))).trans hf45
        have HX7 := hid_of g5.2.2.1
        have hsp : splice RE 2 [.int .i64 (k2 : Int)] = Reply.enc (repZ (kx : Int) ((4 : Nat) : Int) (k2 : Int)) := by rw [HRE.out]; rfl
        obtain ⟨RF, hRF⟩ : ∃ RF, RF = Reply.enc (repZ (kx : Int) ((4 : Nat) : Int) (k2 : Int)) := ⟨_, rfl⟩
        rw [← hRF] at hsp
        have hrd : blk (put V7 b4 RF) b5 = some (rdE (some ⟨b, o, none⟩) n c ((2 + 1 : Nat) : Int)) := by rw [blk_put, if_neg n54]; exact g5.1
        have hlf := left_anyX (put V7 b4 RF) b5 (some ⟨b, o, none⟩) n c (2 + 1) hrd (by omega) hn
        have HXP : Hid (W.Extends (put V7 b4 RF)) := (Side.put (D := fun k => k = b4) (Side.refl _ _) rfl _).extends HX7.out (fun k hk => by have hk' : k = b4 := hk; omega)
        have hb2p : blk (put V7 b4 RF) b2 = some Reply.zero.enc := by rw [blk_put, if_neg n24]; exact hb27
        have hf2p : free (put V7 b4 RF) b2 = true := by rw [free_put]; exact hf27
        have hb4p : blk (put V7 b4 RF) b4 = some RF := by rw [blk_put, if_pos rfl, hb47]; rfl
        obtain ⟨V8, hV8⟩ : ∃ V8, V8 = put V7 b4 RF := ⟨_, rfl⟩
        rw [← hV8] at hrd hlf HXP hb2p hf2p hb4p
        have hpt : put V7 b4 RF = V8 := hV8.symm
        have HRF := hid_of hRF
        clear hu g5 g6 hb25 hf25 hb45 hf45 hb5 hf5 HDR hRF hV8
        go_wp2_with fail
        refine hlf.mono ?_
        rintro e V9 ⟨rfl, k9, rfl⟩
        dsimp only
        have hb2f : blk (V8.drewN k9) b2 = some Reply.zero.enc := hb2p
        have hf2f : free (V8.drewN k9) b2 = true := hf2p
        have hb4f : blk (V8.drewN k9) b4 = some RF := hb4p
        have HXF : Hid (W.Extends (V8.drewN k9)) := extends_drewN HXP.out k9
        obtain ⟨m, hm⟩ : ∃ m, m = n - (2 + 1) := ⟨_, rfl⟩
        rw [← hm]
        have hmy : (ys.drop 1).length = m := by rw [List.length_drop]; omega
        have HMY := hid_of hmy
        clear hm hmy hlf
        by_cases hm0 : m = 0
        rotate_left 1
        · have hm1 : ¬ (m : Int) = 0 := by omega
          have hm1b : ((m : Int) != 0) = true := by simp; omega
          have HNE : Hid (ys.drop 1 ≠ []) := fun e => hm0 (by rw [← HMY.out, e]; rfl)
          have HP : Hid (DrPost W (drF (x :: y :: ys)) (.returned (.tuple #[.agg (Reply.enc (repZ 0 0 0)).toArray, .int .i64 6])) (put (V8.drewN k9) b2 (Reply.enc (repZ 0 0 0)))) := by
            show DrPost _ _ _ _
            have e : drF (x :: y :: ys) = (6, prZ 0 0 0) := by rw [HE3.out, if_pos HNE.out]
            rw [e]
            exact ⟨_, rfl, (Side.put (D := fun k => k = b2) (Side.refl _ _) rfl _).extends HXF.out (fun k hk => by have hk' : k = b2 := hk; omega), fun h => absurd h (by decide)⟩
          go_wp2_with fail
          refine ret_cell_tmp (C := Reply.enc (repZ 0 0 0)) rfl rfl rfl ?_ (by kernel_rfl) (by rw [Reply.length_enc]; kernel_rfl) rfl (by exact HP.out)
          first | assumption | (rw [blk_put, if_pos rfl, hb2f]; rfl) | (have h9 : blk V6 b2 = some Reply.zero.enc := hb2f; show blk (put V6 b2 _) b2 = _; rw [blk_put, if_pos rfl, h9]; rfl) | (have h9 : blk V5 b2 = some Reply.zero.enc := hb2f; show blk (put V5 b2 _) b2 = _; rw [blk_put, if_pos rfl, h9]; rfl) | (have h9 : blk V8 b2 = some Reply.zero.enc := hb2f; show blk (put V8 b2 _) b2 = _; rw [blk_put, if_pos rfl, h9]; rfl) | (have h9 : blk U5 b2 = some Reply.zero.enc := hb2f; show blk (put U5 b2 _) b2 = _; rw [blk_put, if_pos rfl, h9]; rfl)
        have HNE : Hid (ys.drop 1 = []) := List.eq_nil_of_length_eq_zero (HMY.out.trans hm0)
        have HP : Hid (DrPost W (drF (x :: y :: ys)) (.returned (.tuple #[.agg (Reply.enc (repZ (kx : Int) ((4 : Nat) : Int) (k2 : Int))).toArray, .int .i64 0])) (put (V8.drewN k9) b2 (Reply.enc (repZ (kx : Int) ((4 : Nat) : Int) (k2 : Int))))) := by
          show DrPost _ _ _ _
          have e : drF (x :: y :: ys) = (0, prZ (kx : Int) ((4 : Nat) : Int) (k2 : Int)) := by rw [HE3.out, if_neg (fun h => h HNE.out)]
          rw [e]
          exact ⟨_, rfl, (Side.put (D := fun k => k = b2) (Side.refl _ _) rfl _).extends HXF.out (fun k hk => by have hk' : k = b2 := hk; omega), fun _ => repz_c _ _ _ _⟩
        have hRS := Reply.all_get (repZ (kx : Int) ((4 : Nat) : Int) (k2 : Int))
        have hRO := Reply.ok_enc (repZ (kx : Int) ((4 : Nat) : Int) (k2 : Int))
        have hRP := Reply.all_set Reply.zero (repZ (kx : Int) ((4 : Nat) : Int) (k2 : Int))
        have hRL := Reply.length_enc (repZ (kx : Int) ((4 : Nat) : Int) (k2 : Int))
        rw [← HRF.out] at hRS hRO hRP hRL HP
        subst hm0
        go_wp2_with fail
        refine ret_cell_tmp (C := RF) rfl rfl rfl ?_ (by kernel_rfl) (by rw [hRL]; kernel_rfl) rfl (by exact HP.out)
        first | assumption | (rw [blk_put, if_pos rfl, hb2f]; rfl) | (have h9 : blk V8 b2 = some Reply.zero.enc := hb2f; show blk (put V8 b2 _) b2 = _; rw [blk_put, if_pos rfl, h9]; rfl)
    · have k4b : ((ky : Int) == 4) = false := by simp; omega
      have k4c : ¬ (ky : Int) = 4 := by omega
      by_cases hky0 : ky = 0
      · subst hky0
        have re1 : nth RE 1 = some (.int .i64 0) := re1
        have HE2 : Hid (drF (x :: y :: ys) = if 0 = 4 ∧ ys ≠ [] then (if ys.drop 1 ≠ [] then (6, prZ 0 0 0) else (0, prZ (kx : Int) ((0 : Nat) : Int) ((ys.getD 0 0).toNat : Int))) else if ys ≠ [] then (6, prZ 0 0 0) else (0, prZ (kx : Int) ((0 : Nat) : Int) (-1))) := by
          show _ = _
          rw [HE.out, if_neg hk43, if_neg (by rintro (h | h); exact hk8 h; exact hkx h.2), if_neg hkx]
        clear HE
        go_upto_region 9 with fail
        refine wp_world (fun V => W.Extends V ∧ blk V b2 = some Reply.zero.enc ∧ free V b2 = true ∧ blk V b4 = some RE ∧ free V b4 = true ∧ blk V V4.heap.size = some (rdE (some ⟨b, o, none⟩) n c 2) ∧ free V V4.heap.size = true) ⟨?_, ?_, ?_, ?_, ?_, ?_, ?_⟩ ?_
        · first | exact HX4.out.trans (extends_alloc (ext_Ext (Ext.refl _)) _) | exact (Side.put (D := fun k => k = V4.heap.size) (Side.refl _ _) rfl _).extends (HX4.out.trans (extends_alloc (ext_Ext (Ext.refl _)) _)) (fun k hk => by have hk' : k = V4.heap.size := hk; have := HX4.out.size; omega)
        · first | exact ((extends_alloc (ext_Ext (Ext.refl _)) _).blk (by omega)).trans hb24 | (rw [blk_put, if_neg (by omega)]; exact ((extends_alloc (ext_Ext (Ext.refl _)) _).blk (by omega)).trans hb24)
        · first | exact (free_of_heap ((extends_alloc (ext_Ext (Ext.refl _)) _).block b2 (by omega))).trans hf24 | (rw [free_put]; exact (free_of_heap ((extends_alloc (ext_Ext (Ext.refl _)) _).block b2 (by omega))).trans hf24)
        · first | exact ((extends_alloc (ext_Ext (Ext.refl _)) _).blk (by omega)).trans hb4 | (rw [blk_put, if_neg (by omega)]; exact ((extends_alloc (ext_Ext (Ext.refl _)) _).blk (by omega)).trans hb4)
        · first | exact (free_of_heap ((extends_alloc (ext_Ext (Ext.refl _)) _).block b4 (by omega))).trans hf4 | (rw [free_put]; exact (free_of_heap ((extends_alloc (ext_Ext (Ext.refl _)) _).block b4 (by omega))).trans hf4)
        · first | (rw [blk_put, if_pos rfl, blk_alloc, if_pos rfl]; rfl) | (rw [blk_alloc, if_pos rfl]; try rfl)
        · first | (rw [free_put, free_alloc, if_pos rfl]) | (rw [free_alloc, if_pos rfl])
        rintro V5 ⟨hx5, hb25, hf25, hb45, hf45, hb5, hf5⟩
        obtain ⟨b5, e5⟩ : ∃ b5, b5 = V4.heap.size := ⟨_, rfl⟩
        rw [← e5] at hb5 hf5 ⊢
        have n52 : ¬ b5 = b2 := by omega
        have n54 : ¬ b5 = b4 := by omega
        have hDR : DR W (labD b2 b4 b5) b5 b4 (some ⟨b, o, none⟩) n c 2 (repZ (kx : Int) ((0 : Nat) : Int) (-1)) V5 := dr_new hx5 hW2 hW4 (by have := HX4.out.size; omega) n54 hb5 hf5 (by have h9 := hb45; rw [HRE.out] at h9; exact h9) hf45 (by omega)
        have HDR := hid_of hDR
        have HX5 := hid_of hx5
        clear e5 hDR hx5 hb24 hf24 hb4 hf4 hl4 HX4
        have hlf := left_anyX V5 b5 (some ⟨b, o, none⟩) n c 2 HDR.out.rd.1 (by omega) hn
        go_wp2_with fail
        refine hlf.mono ?_
        rintro e V6 ⟨rfl, k6, rfl⟩
        dsimp only
        have hb2f : blk (V5.drewN k6) b2 = some Reply.zero.enc := hb25
        have hf2f : free (V5.drewN k6) b2 = true := hf25
        have hb4f : blk (V5.drewN k6) b4 = some RE := hb45
        have HXF : Hid (W.Extends (V5.drewN k6)) := extends_drewN HX5.out k6
        obtain ⟨m, hm⟩ : ∃ m, m = n - 2 := ⟨_, rfl⟩
        rw [← hm]
        have hmy : ys.length = m := by omega
        have HMY := hid_of hmy
        clear hm hmy hlf
        by_cases hm0 : m = 0
        rotate_left 1
        · have hm1 : ¬ (m : Int) = 0 := by omega
          have hm1b : ((m : Int) != 0) = true := by simp; omega
          have HNE : Hid (ys ≠ []) := fun e => hm0 (by rw [← HMY.out, e]; rfl)
          have HP : Hid (DrPost W (drF (x :: y :: ys)) (.returned (.tuple #[.agg (Reply.enc (repZ 0 0 0)).toArray, .int .i64 6])) (put (V5.drewN k6) b2 (Reply.enc (repZ 0 0 0)))) := by
            show DrPost _ _ _ _
            have e : drF (x :: y :: ys) = (6, prZ 0 0 0) := by rw [HE2.out, if_neg (fun h => hky4 h.1), if_pos HNE.out]
            rw [e]
            exact ⟨_, rfl, (Side.put (D := fun k => k = b2) (Side.refl _ _) rfl _).extends HXF.out (fun k hk => by have hk' : k = b2 := hk; omega), fun h => absurd h (by decide)⟩
          go_wp2_with fail
          refine ret_cell_tmp (C := Reply.enc (repZ 0 0 0)) rfl rfl rfl ?_ (by kernel_rfl) (by rw [Reply.length_enc]; kernel_rfl) rfl (by exact HP.out)
          first | assumption | (rw [blk_put, if_pos rfl, hb2f]; rfl) | (have h9 : blk V6 b2 = some Reply.zero.enc := hb2f; show blk (put V6 b2 _) b2 = _; rw [blk_put, if_pos rfl, h9]; rfl) | (have h9 : blk V5 b2 = some Reply.zero.enc := hb2f; show blk (put V5 b2 _) b2 = _; rw [blk_put, if_pos rfl, h9]; rfl) | (have h9 : blk V8 b2 = some Reply.zero.enc := hb2f; show blk (put V8 b2 _) b2 = _; rw [blk_put, if_pos rfl, h9]; rfl) | (have h9 : blk U5 b2 = some Reply.zero.enc := hb2f; show blk (put U5 b2 _) b2 = _; rw [blk_put, if_pos rfl, h9]; rfl)
        have HNE : Hid (ys = []) := List.eq_nil_of_length_eq_zero (HMY.out.trans hm0)
        have HP : Hid (DrPost W (drF (x :: y :: ys)) (.returned (.tuple #[.agg (Reply.enc (repZ (kx : Int) ((0 : Nat) : Int) (-1))).toArray, .int .i64 0])) (put (V5.drewN k6) b2 (Reply.enc (repZ (kx : Int) ((0 : Nat) : Int) (-1))))) := by
          show DrPost _ _ _ _
          have e : drF (x :: y :: ys) = (0, prZ (kx : Int) ((0 : Nat) : Int) (-1)) := by rw [HE2.out, if_neg (fun h => hky4 h.1), if_neg (fun h => h HNE.out)]
          rw [e]
          exact ⟨_, rfl, (Side.put (D := fun k => k = b2) (Side.refl _ _) rfl _).extends HXF.out (fun k hk => by have hk' : k = b2 := hk; omega), fun _ => repz_c _ _ _ _⟩
        have hRS := Reply.all_get (repZ (kx : Int) ((0 : Nat) : Int) (-1))
        have hRO := Reply.ok_enc (repZ (kx : Int) ((0 : Nat) : Int) (-1))
        have hRP := Reply.all_set Reply.zero (repZ (kx : Int) ((0 : Nat) : Int) (-1))
        rw [← HRE.out] at hRS hRO hRP HP
        subst hm0
        go_wp2_with fail
        refine ret_cell_tmp (C := RE) rfl rfl rfl ?_ (by kernel_rfl) (by rw [rel]; kernel_rfl) rfl (by exact HP.out)
        first | assumption | (rw [blk_put, if_pos rfl, hb2f]; rfl) | (have h9 : blk V5 b2 = some Reply.zero.enc := hb2f; show blk (put V5 b2 _) b2 = _; rw [blk_put, if_pos rfl, h9]; rfl)
      · have g3 : ¬ (ky : Int) = 0 := by omega
        have g3b : ((ky : Int) == 0) = false := by simp; omega
        have HE2 : Hid (drF (x :: y :: ys) = if ky = 4 ∧ ys ≠ [] then (if ys.drop 1 ≠ [] then (6, prZ 0 0 0) else (0, prZ (kx : Int) (ky : Int) ((ys.getD 0 0).toNat : Int))) else if ys ≠ [] then (6, prZ 0 0 0) else (0, prZ (kx : Int) (ky : Int) (-1))) := by
          show _ = _
          rw [HE.out, if_neg hk43, if_neg (by rintro (h | h); exact hk8 h; exact hkx h.2), if_neg hkx]
        clear HE
        go_upto_region 9 with fail
        refine wp_world (fun V => W.Extends V ∧ blk V b2 = some Reply.zero.enc ∧ free V b2 = true ∧ blk V b4 = some RE ∧ free V b4 = true ∧ blk V V4.heap.size = some (rdE (some ⟨b, o, none⟩) n c 2) ∧ free V V4.heap.size = true) ⟨?_, ?_, ?_, ?_, ?_, ?_, ?_⟩ ?_
        · first | exact HX4.out.trans (extends_alloc (ext_Ext (Ext.refl _)) _) | exact (Side.put (D := fun k => k = V4.heap.size) (Side.refl _ _) rfl _).extends (HX4.out.trans (extends_alloc (ext_Ext (Ext.refl _)) _)) (fun k hk => by have hk' : k = V4.heap.size := hk; have := HX4.out.size; omega)
        · first | exact ((extends_alloc (ext_Ext (Ext.refl _)) _).blk (by omega)).trans hb24 | (rw [blk_put, if_neg (by omega)]; exact ((extends_alloc (ext_Ext (Ext.refl _)) _).blk (by omega)).trans hb24)
        · first | exact (free_of_heap ((extends_alloc (ext_Ext (Ext.refl _)) _).block b2 (by omega))).trans hf24 | (rw [free_put]; exact (free_of_heap ((extends_alloc (ext_Ext (Ext.refl _)) _).block b2 (by omega))).trans hf24)
        · first | exact ((extends_alloc (ext_Ext (Ext.refl _)) _).blk (by omega)).trans hb4 | (rw [blk_put, if_neg (by omega)]; exact ((extends_alloc (ext_Ext (Ext.refl _)) _).blk (by omega)).trans hb4)
        · first | exact (free_of_heap ((extends_alloc (ext_Ext (Ext.refl _)) _).block b4 (by omega))).trans hf4 | (rw [free_put]; exact (free_of_heap ((extends_alloc (ext_Ext (Ext.refl _)) _).block b4 (by omega))).trans hf4)
        · first | (rw [blk_put, if_pos rfl, blk_alloc, if_pos rfl]; rfl) | (rw [blk_alloc, if_pos rfl]; try rfl)
        · first | (rw [free_put, free_alloc, if_pos rfl]) | (rw [free_alloc, if_pos rfl])
        rintro V5 ⟨hx5, hb25, hf25, hb45, hf45, hb5, hf5⟩
        obtain ⟨b5, e5⟩ : ∃ b5, b5 = V4.heap.size := ⟨_, rfl⟩
        rw [← e5] at hb5 hf5 ⊢
        have n52 : ¬ b5 = b2 := by omega
        have n54 : ¬ b5 = b4 := by omega
        have hDR : DR W (labD b2 b4 b5) b5 b4 (some ⟨b, o, none⟩) n c 2 (repZ (kx : Int) (ky : Int) (-1)) V5 := dr_new hx5 hW2 hW4 (by have := HX4.out.size; omega) n54 hb5 hf5 (by have h9 := hb45; rw [HRE.out] at h9; exact h9) hf45 (by omega)
        have HDR := hid_of hDR
        have HX5 := hid_of hx5
        clear e5 hDR hx5 hb24 hf24 hb4 hf4 hl4 HX4
        have hlf := left_anyX V5 b5 (some ⟨b, o, none⟩) n c 2 HDR.out.rd.1 (by omega) hn
        go_wp2_with fail
        refine hlf.mono ?_
        rintro e V6 ⟨rfl, k6, rfl⟩
        dsimp only
        have hb2f : blk (V5.drewN k6) b2 = some Reply.zero.enc := hb25
        have hf2f : free (V5.drewN k6) b2 = true := hf25
        have hb4f : blk (V5.drewN k6) b4 = some RE := hb45
        have HXF : Hid (W.Extends (V5.drewN k6)) := extends_drewN HX5.out k6
        obtain ⟨m, hm⟩ : ∃ m, m = n - 2 := ⟨_, rfl⟩
        rw [← hm]
        have hmy : ys.length = m := by omega
        have HMY := hid_of hmy
        clear hm hmy hlf
        by_cases hm0 : m = 0
        rotate_left 1
        · have hm1 : ¬ (m : Int) = 0 := by omega
          have hm1b : ((m : Int) != 0) = true := by simp; omega
          have HNE : Hid (ys ≠ []) := fun e => hm0 (by rw [← HMY.out, e]; rfl)
          have HP : Hid (DrPost W (drF (x :: y :: ys)) (.returned (.tuple #[.agg (Reply.enc (repZ 0 0 0)).toArray, .int .i64 6])) (put (V5.drewN k6) b2 (Reply.enc (repZ 0 0 0)))) := by
            show DrPost _ _ _ _
            have e : drF (x :: y :: ys) = (6, prZ 0 0 0) := by rw [HE2.out, if_neg (fun h => hky4 h.1), if_pos HNE.out]
            rw [e]
            exact ⟨_, rfl, (Side.put (D := fun k => k = b2) (Side.refl _ _) rfl _).extends HXF.out (fun k hk => by have hk' : k = b2 := hk; omega), fun h => absurd h (by decide)⟩
          go_wp2_with fail
          refine ret_cell_tmp (C := Reply.enc (repZ 0 0 0)) rfl rfl rfl ?_ (by kernel_rfl) (by rw [Reply.length_enc]; kernel_rfl) rfl (by exact HP.out)
          first | assumption | (rw [blk_put, if_pos rfl, hb2f]; rfl) | (have h9 : blk V6 b2 = some Reply.zero.enc := hb2f; show blk (put V6 b2 _) b2 = _; rw [blk_put, if_pos rfl, h9]; rfl) | (have h9 : blk V5 b2 = some Reply.zero.enc := hb2f; show blk (put V5 b2 _) b2 = _; rw [blk_put, if_pos rfl, h9]; rfl) | (have h9 : blk V8 b2 = some Reply.zero.enc := hb2f; show blk (put V8 b2 _) b2 = _; rw [blk_put, if_pos rfl, h9]; rfl) | (have h9 : blk U5 b2 = some Reply.zero.enc := hb2f; show blk (put U5 b2 _) b2 = _; rw [blk_put, if_pos rfl, h9]; rfl)
        have HNE : Hid (ys = []) := List.eq_nil_of_length_eq_zero (HMY.out.trans hm0)
        have HP : Hid (DrPost W (drF (x :: y :: ys)) (.returned (.tuple #[.agg (Reply.enc (repZ (kx : Int) (ky : Int) (-1))).toArray, .int .i64 0])) (put (V5.drewN k6) b2 (Reply.enc (repZ (kx : Int) (ky : Int) (-1))))) := by
          show DrPost _ _ _ _
          have e : drF (x :: y :: ys) = (0, prZ (kx : Int) (ky : Int) (-1)) := by rw [HE2.out, if_neg (fun h => hky4 h.1), if_neg (fun h => h HNE.out)]
          rw [e]
          exact ⟨_, rfl, (Side.put (D := fun k => k = b2) (Side.refl _ _) rfl _).extends HXF.out (fun k hk => by have hk' : k = b2 := hk; omega), fun _ => repz_c _ _ _ _⟩
        have hRS := Reply.all_get (repZ (kx : Int) (ky : Int) (-1))
        have hRO := Reply.ok_enc (repZ (kx : Int) (ky : Int) (-1))
        have hRP := Reply.all_set Reply.zero (repZ (kx : Int) (ky : Int) (-1))
        rw [← HRE.out] at hRS hRO hRP HP
        subst hm0
        go_wp2_with fail
        refine ret_cell_tmp (C := RE) rfl rfl rfl ?_ (by kernel_rfl) (by rw [rel]; kernel_rfl) rfl (by exact HP.out)
        first | assumption | (rw [blk_put, if_pos rfl, hb2f]; rfl) | (have h9 : blk V5 b2 = some Reply.zero.enc := hb2f; show blk (put V5 b2 _) b2 = _; rw [blk_put, if_pos rfl, h9]; rfl)
end Go.Proofs.Qxb6500787aGreat
