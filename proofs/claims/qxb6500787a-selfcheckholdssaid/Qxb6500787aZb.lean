import Derived.Test.Qxb6500787aZa
import Derived.Test.Qxb6500787aRh
import Derived.StillTailTactics
import Derived.Deep.QuietTactic
import Derived.BigQuiet
import Derived.Deep.RegionHeld
import Derived.Deep.CutRange
import Derived.Laws.ResultCell
import Derived.Laws.Rows
import Derived.DeepKeys
import Derived.DataBytes
import Derived.Laws.StructEq
import Derived.Laws.AppendOwn
import Derived.Laws.MakeOwn
import Derived.Lib.AppendStr
set_option linter.unusedSimpArgs false
set_option linter.unusedVariables false
namespace Go.Proofs.Qxb6500787a
open Go.RowKit Go.Blk
attribute [local go_sem ↓] execOp_load execOp_store execOp_alloc
attribute [local go_sem] Try.ld26 Try.st26 Try.ld27 Try.st27 Try.ld28 Try.st28 Try.ld3 Try.st3 Try.ld29 Try.st29 Try.ld44 Try.st44 Try.ld4 Try.st4 Try.ld50 Try.st50 Try.ld32 Try.st32 Try.ld49 Try.st49 Try.ld68 Try.st68 Try.ld9 Try.st9 Try.ld40 Try.st40 Try.ld138 Try.st138 Try.ld139 Try.st139 Try.ld146 Try.st146 Try.ld183 Try.st183 Try.ld184 Try.st184 Try.ld192 Try.st192 Try.ld195 Try.st195 Try.ld217 Try.st217 Try.ld159 Try.st159 Try.ld142 Try.st142 Try.ld2 Try.st2 Try.ld5 Try.st5 Try.ld12 Try.st12 Try.ld21 Try.st21 Try.ld22 Try.st22 Try.ld24 Try.st24 Try.ld58 Try.st58 Try.ld63 Try.st63 Try.ld97 Try.st97 Try.ld101 Try.st101 Try.ld116 Try.st116 Try.ld121 Try.st121 Try.ld135 Try.st135 Try.ld136 Try.st136 Try.ld143 Try.st143 Try.ld148 Try.st148 Try.ld154 Try.st154 Try.ld173 Try.st173 Try.ld187 Try.st187 Try.ld222 Try.st222 Try.ld241 Try.st241 Try.ld248 Try.st248 Try.ld268 Try.st268 Try.ld272 Try.st272 Try.ld153 Try.st153 Try.ld255 Try.st255 Try.ld256 Try.st256 Try.ld129 Try.st129 Try.ld152 Try.st152 Try.ld31 Try.st31 Try.ld46 Try.st46 Try.ld52 Try.st52 Try.ld54 Try.st54 Try.ld60 Try.st60 Try.ld70 Try.st70 Try.ld74 Try.st74 Try.ld93 Try.st93 Try.ld119 Try.st119 Try.ld141 Try.st141 Try.ld151 Try.st151 Try.ld170 Try.st170 Try.ld186 Try.st186 Try.ld189 Try.st189 Try.ld194 Try.st194 Try.ld197 Try.st197 Try.ld219 Try.st219 Try.ld224 Try.st224 Try.ld230 Try.st230 Try.ld235 Try.st235 Try.ld243 Try.st243 Try.ld247 Try.st247 Try.ld252 Try.st252 Try.ld258 Try.st258 Try.al153 Try.al255 Try.al256 Try.al129 Try.al152 Try.al31 Try.al46 Try.al52 Try.al54 Try.al60 Try.al70 Try.al74 Try.al93 Try.al119 Try.al141 Try.al151 Try.al170 Try.al186 Try.al189 Try.al194 Try.al197 Try.al219 Try.al224 Try.al230 Try.al235 Try.al243 Try.al247 Try.al252 Try.al258
attribute [local go_sem] Request.length_enc Request.ok_enc Request.all_get Request.all_set Request.kind_get Request.kind_set Request.blob_get Request.blob_set Request.items_get Request.items_set Request.pred_get Request.pred_set Request.slots_get Request.slots_set Trace.length_enc Trace.ok_enc Trace.all_get Trace.all_set Trace.op_get Trace.op_set Trace.calls_get Trace.calls_set Item.length_enc Item.ok_enc Item.all_get Item.all_set Item.del_get Item.del_set Item.pred_get Item.pred_set Item.args_get Item.args_set Reply.length_enc Reply.ok_enc Reply.all_get Reply.all_set Reply.code_get Reply.code_set Reply.kind_get Reply.kind_set Reply.index_get Reply.index_set Reply.yes_get Reply.yes_set Reply.preds_get Reply.preds_set Reply.rules_get Reply.rules_set Reply.arity_get Reply.arity_set Reply.rows_get Reply.rows_set Reply.fact_get Reply.fact_set Reply.fact_del_get Reply.fact_del_set Reply.fact_pred_get Reply.fact_pred_set Reply.fact_args_get Reply.fact_args_set GEntry.length_enc GEntry.ok_enc GEntry.all_get GEntry.all_set GEntry.seq_get GEntry.seq_set GEntry.kind_get GEntry.kind_set GEntry.code_get GEntry.code_set GOp.length_enc GOp.ok_enc GOp.all_get GOp.all_set GOp.kind_get GOp.kind_set GOp.raw_get GOp.raw_set Reader.length_enc Reader.ok_enc Reader.all_get Reader.all_set Reader.buf_get Reader.buf_set Reader.at__get Reader.at__set Slot.length_enc Slot.ok_enc Slot.all_get Slot.all_set Slot.bound_get Slot.bound_set Slot.name_get Slot.name_set Session.length_enc Session.ok_enc Session.all_get Session.all_set Session.svc_get Session.svc_set Session.buf_get Session.buf_set Session.closed_get Session.closed_set GProgram.length_enc GProgram.ok_enc GProgram.all_get GProgram.all_set GProgram.pool_get GProgram.pool_set GProgram.preds_get GProgram.preds_set GProgram.rules_get GProgram.rules_set GProgram.strata_get GProgram.strata_set PredInfo.length_enc PredInfo.ok_enc PredInfo.all_get PredInfo.all_set PredInfo.arity_get PredInfo.arity_set PredInfo.base_get PredInfo.base_set PredInfo.stratum_get PredInfo.stratum_set Change.length_enc Change.ok_enc Change.all_get Change.all_set Change.del_get Change.del_set Change.pred_get Change.pred_set Change.t_get Change.t_set Store.length_enc Store.ok_enc Store.all_get Store.all_set Store.names_get Store.names_set Store.arity_get Store.arity_set Store.rows_get Store.rows_set Src.length_enc Src.ok_enc Src.all_get Src.all_set Src.b_get Src.b_set Src.at__get Src.at__set Atom.length_enc Atom.ok_enc Atom.all_get Atom.all_set Atom.pred_get Atom.pred_set Atom.args_get Atom.args_set GRule.length_enc GRule.ok_enc GRule.all_get GRule.all_set GRule.head_get GRule.head_set GRule.body_get GRule.body_set GRule.head_pred_get GRule.head_pred_set GRule.head_args_get GRule.head_args_set Cert.length_enc Cert.ok_enc Cert.all_get Cert.all_set Cert.names_get Cert.names_set Cert.nodes_get Cert.nodes_set Fact.length_enc Fact.ok_enc Fact.all_get Fact.all_set Fact.pred_get Fact.pred_set Fact.t_get Fact.t_set Literal.length_enc Literal.ok_enc Literal.all_get Literal.all_set Literal.neg_get Literal.neg_set Literal.atom_get Literal.atom_set Literal.atom_pred_get Literal.atom_pred_set Literal.atom_args_get Literal.atom_args_set Engine.length_enc Engine.ok_enc Engine.all_get Engine.all_set Engine.prog_get Engine.prog_set Engine.st_get Engine.st_set SrcCertm.length_enc SrcCertm.ok_enc SrcCertm.all_get SrcCertm.all_set SrcCertm.b_get SrcCertm.b_set SrcCertm.at__get SrcCertm.at__set GNode.length_enc GNode.ok_enc GNode.all_get GNode.all_set GNode.rule_get GNode.rule_set GNode.pred_get GNode.pred_set GNode.vals_get GNode.vals_set GNode.refs_get GNode.refs_set Term.length_enc Term.ok_enc Term.all_get Term.all_set Term.var_get Term.var_set Term.n_get Term.n_set Env.length_enc Env.ok_enc Env.all_get Env.all_set Env.val_get Env.val_set Env.set_get Env.set_set
attribute [local go_sem] size_put size_ext blk_put free_put blk_alloc free_alloc blk_drew free_drew blk_ext free_ext lookOr_some putOr_some segAt_some cellAt_some storeIn_some put_put put_alloc_new length_arr ok_arr_u8 ok_arr_u32 ok_arr_u64 ok_arr_i64 ok_arr_sl cellsV_agg cellsV_int cellsV_bool cellsV_string cellsV_pointer cellsV_slice cellsV_sl ok_int ok_bool ok_string ok_pointer ok_slice ok_sl toList_arr seg_arr set_arr nth_splice nth_splice0 seg_splice seg_splice0 splice_splice splice_splice0 length_splice_if
attribute [local go_sem ↓] execOp_box
attribute [local go_sem] box_run nth_arr_u8 put_arr_u8 blk_drewN free_drewN put_drewN blk_raw free_raw
attribute [local go_sem ↓] execOp_slice execOp_convert
attribute [local go_sem] rd_len rd0 rd1 rd_set1
set_option maxRecDepth 20000 in
set_option maxHeartbeats 1000000 in
theorem u16_some (w0 W : World) (br : Nat) (a : Option Addr) (n c p : Nat) (hR : Rdr w0 br a n c p W) (hn : n ≤ 1000000) (xs : List UInt8) (hX : Bs w0 a n xs) (hp : p + 2 ≤ n) : Calls Try.prog 98 #[.pointer (some ⟨br, 0, none⟩)] W fun e W' => e = .returned (.tuple #[.int .i64 (((xs.getD p 0).toNat * 256 + (xs.getD (p + 1) 0).toNat : Nat) : Int), .bool true]) ∧ Rdr w0 br a n c (p + 2) W' ∧ Side (isR br) W W' := by
  have HR : Hid (Rdr w0 br a n c p W) := hR
  obtain ⟨hb, hf, hext, hwb, hpn⟩ := hR
  have hgo := hX.grow hext
  obtain ⟨b, o, C, x, rfl, hC, hCl, hx, hv⟩ := hgo.get (i := p) (by omega)
  obtain ⟨b', o', C', x', e1, hC', hCl', hx', hv'⟩ := hgo.get (i := p + 1) (by omega)
  injection e1 with e1; injection e1 with e1 e3; subst e1 e3
  obtain rfl := Option.some.inj (hC'.symm.trans hC)
  have g0 : (xs.getD p 0).toNat = x.toNat := by rw [List.getD_eq_getElem?_getD, hx]; rfl
  have g1 : (xs.getD (p + 1) 0).toNat = x'.toNat := by rw [List.getD_eq_getElem?_getD, hx']; rfl
  rw [g0, g1]
  have hbb : b < w0.heap.size := by obtain ⟨b', o', C', e1, e2, _⟩ := hX.2.1 (by omega); injection e1 with e1; injection e1 with e1; rw [e1]; exact blk_lt e2
  have hv2 : nth C' (o + p) = some (.int .u8 ((x.toNat : Nat) : Int)) := hv
  have hv3 : nth C' (o + (p + 1)) = some (.int .u8 ((x'.toNat : Nat) : Int)) := hv'
  have hv4 : nth C' (o + p + 1) = some (.int .u8 ((x'.toNat : Nat) : Int)) := hv'
  have y2l : x.toNat < 256 := x.toNat_lt
  have y3l : x'.toNat < 256 := x'.toNat_lt
  obtain ⟨y2, hy2⟩ : ∃ y, y = x.toNat := ⟨_, rfl⟩
  obtain ⟨y3, hy3⟩ : ∃ y, y = x'.toNat := ⟨_, rfl⟩
  rw [← hy2] at hv2 y2l
  rw [← hy3] at hv3 hv4 y3l
  rw [← hy2, ← hy3]
  have hor := or_i64 y2 y3 y2l y3l
  have nb : ¬ b = br := by omega
  have p0 : (0 : Int) ≤ (p : Int) := by omega
  have p1 : (p : Int) < (n : Int) := by omega
  have p2 : ((p : Int)).toNat = p := by omega
  have p3 : (0 : Int) ≤ (p : Int) + 1 := by omega
  have p4 : (p : Int) + 1 < (n : Int) := by omega
  have p5 : ((p : Int) + 1).toNat = p + 1 := by omega
  have w2 : IntKind.i64.wrap (y2 : Int) = (y2 : Int) := by rw [IntKind.wrap_i64]; omega
  have w3 : IntKind.i64.wrap (y3 : Int) = (y3 : Int) := by rw [IntKind.wrap_i64]; omega
  have q5 : o + p < C'.length := by omega
  have q6 : o + (p + 1) < C'.length := by omega
  have q7 : o + p + 1 < C'.length := by omega
  have n1 : ¬ (((n - p : Nat) : Int) < 2) := by omega
  clear hx hx' hext hv hv' hX hgo hC' hy2 hy3 g0 g1
  go_enter Try.func98, Try.ntmps98
  go_wp2_with fail
  refine (left_anyX W br (some ⟨b, o, none⟩) n c p hb (by omega) hn).mono ?_
  rintro e W1 ⟨rfl, k1, rfl⟩
  dsimp only
  go_upto_region 3 with fail
  go_quiet (fail)
  go_wp2_with fail
  go_ret2
  refine ⟨rfl, ?_, ?_⟩
  · exact (HR.out.step (q := p + 2) (by omega)).drewN _
  · exact (Side.put (D := isR br) (Side.refl _ _) rfl _).drewN _
set_option maxRecDepth 20000 in
theorem u16_none (w0 W : World) (br : Nat) (a : Option Addr) (n c p : Nat) (hR : Rdr w0 br a n c p W) (hn : n ≤ 1000000) (hp : n < p + 2) : Calls Try.prog 98 #[.pointer (some ⟨br, 0, none⟩)] W fun e W' => e = .returned (.tuple #[.int .i64 0, .bool false]) ∧ Rdr w0 br a n c p W' ∧ Side (isR br) W W' := by
  have HR : Hid (Rdr w0 br a n c p W) := hR
  obtain ⟨hb, hf, hext, hwb, hpn⟩ := hR
  go_enter Try.func98, Try.ntmps98
  go_wp2_with fail
  refine (left_anyX W br a n c p hb (by omega) hn).mono ?_
  rintro e W1 ⟨rfl, k1, rfl⟩
  have n1 : (((n - p : Nat) : Int) < 2) := by omega
  dsimp only
  go_wp2_with fail
  go_ret2
  exact ⟨rfl, HR.out.drewN _, (Side.refl _ _).drewN _⟩
end Go.Proofs.Qxb6500787a
