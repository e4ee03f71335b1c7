import Derived.Test.Qxb6500787aYg
import Derived.StillTailTactics
import Derived.Deep.QuietTactic
import Derived.BigQuiet
import Derived.Deep.RegionHeld
import Derived.Deep.CutRange
import Derived.Laws.ResultCell
import Derived.Laws.Rows
import Derived.DeepKeys
import Derived.DataBytes
import Derived.Laws.StructEq
import Derived.Laws.AppendOwn
import Derived.Laws.MakeOwn
import Derived.Lib.AppendStr
set_option linter.unusedSimpArgs false
set_option linter.unusedVariables false
namespace Go.Proofs.Qxb6500787a
open Go.RowKit Go.Blk
attribute [local go_sem ↓] execOp_load execOp_store execOp_alloc
attribute [local go_sem] Try.ld26 Try.st26 Try.ld27 Try.st27 Try.ld28 Try.st28 Try.ld3 Try.st3 Try.ld29 Try.st29 Try.ld44 Try.st44 Try.ld4 Try.st4 Try.ld50 Try.st50 Try.ld32 Try.st32 Try.ld49 Try.st49 Try.ld68 Try.st68 Try.ld9 Try.st9 Try.ld40 Try.st40 Try.ld138 Try.st138 Try.ld139 Try.st139 Try.ld146 Try.st146 Try.ld183 Try.st183 Try.ld184 Try.st184 Try.ld192 Try.st192 Try.ld195 Try.st195 Try.ld217 Try.st217 Try.ld159 Try.st159 Try.ld142 Try.st142 Try.ld2 Try.st2 Try.ld5 Try.st5 Try.ld12 Try.st12 Try.ld21 Try.st21 Try.ld22 Try.st22 Try.ld24 Try.st24 Try.ld58 Try.st58 Try.ld63 Try.st63 Try.ld97 Try.st97 Try.ld101 Try.st101 Try.ld116 Try.st116 Try.ld121 Try.st121 Try.ld135 Try.st135 Try.ld136 Try.st136 Try.ld143 Try.st143 Try.ld148 Try.st148 Try.ld154 Try.st154 Try.ld173 Try.st173 Try.ld187 Try.st187 Try.ld222 Try.st222 Try.ld241 Try.st241 Try.ld248 Try.st248 Try.ld268 Try.st268 Try.ld272 Try.st272 Try.ld153 Try.st153 Try.ld255 Try.st255 Try.ld256 Try.st256 Try.ld129 Try.st129 Try.ld152 Try.st152 Try.ld31 Try.st31 Try.ld46 Try.st46 Try.ld52 Try.st52 Try.ld54 Try.st54 Try.ld60 Try.st60 Try.ld70 Try.st70 Try.ld74 Try.st74 Try.ld93 Try.st93 Try.ld119 Try.st119 Try.ld141 Try.st141 Try.ld151 Try.st151 Try.ld170 Try.st170 Try.ld186 Try.st186 Try.ld189 Try.st189 Try.ld194 Try.st194 Try.ld197 Try.st197 Try.ld219 Try.st219 Try.ld224 Try.st224 Try.ld230 Try.st230 Try.ld235 Try.st235 Try.ld243 Try.st243 Try.ld247 Try.st247 Try.ld252 Try.st252 Try.ld258 Try.st258 Try.al153 Try.al255 Try.al256 Try.al129 Try.al152 Try.al31 Try.al46 Try.al52 Try.al54 Try.al60 Try.al70 Try.al74 Try.al93 Try.al119 Try.al141 Try.al151 Try.al170 Try.al186 Try.al189 Try.al194 Try.al197 Try.al219 Try.al224 Try.al230 Try.al235 Try.al243 Try.al247 Try.al252 Try.al258
attribute [local go_sem] Request.length_enc Request.ok_enc Request.all_get Request.all_set Request.kind_get Request.kind_set Request.blob_get Request.blob_set Request.items_get Request.items_set Request.pred_get Request.pred_set Request.slots_get Request.slots_set Trace.length_enc Trace.ok_enc Trace.all_get Trace.all_set Trace.op_get Trace.op_set Trace.calls_get Trace.calls_set Item.length_enc Item.ok_enc Item.all_get Item.all_set Item.del_get Item.del_set Item.pred_get Item.pred_set Item.args_get Item.args_set Reply.length_enc Reply.ok_enc Reply.all_get Reply.all_set Reply.code_get Reply.code_set Reply.kind_get Reply.kind_set Reply.index_get Reply.index_set Reply.yes_get Reply.yes_set Reply.preds_get Reply.preds_set Reply.rules_get Reply.rules_set Reply.arity_get Reply.arity_set Reply.rows_get Reply.rows_set Reply.fact_get Reply.fact_set Reply.fact_del_get Reply.fact_del_set Reply.fact_pred_get Reply.fact_pred_set Reply.fact_args_get Reply.fact_args_set GEntry.length_enc GEntry.ok_enc GEntry.all_get GEntry.all_set GEntry.seq_get GEntry.seq_set GEntry.kind_get GEntry.kind_set GEntry.code_get GEntry.code_set GOp.length_enc GOp.ok_enc GOp.all_get GOp.all_set GOp.kind_get GOp.kind_set GOp.raw_get GOp.raw_set Reader.length_enc Reader.ok_enc Reader.all_get Reader.all_set Reader.buf_get Reader.buf_set Reader.at__get Reader.at__set Slot.length_enc Slot.ok_enc Slot.all_get Slot.all_set Slot.bound_get Slot.bound_set Slot.name_get Slot.name_set Session.length_enc Session.ok_enc Session.all_get Session.all_set Session.svc_get Session.svc_set Session.buf_get Session.buf_set Session.closed_get Session.closed_set GProgram.length_enc GProgram.ok_enc GProgram.all_get GProgram.all_set GProgram.pool_get GProgram.pool_set GProgram.preds_get GProgram.preds_set GProgram.rules_get GProgram.rules_set GProgram.strata_get GProgram.strata_set PredInfo.length_enc PredInfo.ok_enc PredInfo.all_get PredInfo.all_set PredInfo.arity_get PredInfo.arity_set PredInfo.base_get PredInfo.base_set PredInfo.stratum_get PredInfo.stratum_set Change.length_enc Change.ok_enc Change.all_get Change.all_set Change.del_get Change.del_set Change.pred_get Change.pred_set Change.t_get Change.t_set Store.length_enc Store.ok_enc Store.all_get Store.all_set Store.names_get Store.names_set Store.arity_get Store.arity_set Store.rows_get Store.rows_set Src.length_enc Src.ok_enc Src.all_get Src.all_set Src.b_get Src.b_set Src.at__get Src.at__set Atom.length_enc Atom.ok_enc Atom.all_get Atom.all_set Atom.pred_get Atom.pred_set Atom.args_get Atom.args_set GRule.length_enc GRule.ok_enc GRule.all_get GRule.all_set GRule.head_get GRule.head_set GRule.body_get GRule.body_set GRule.head_pred_get GRule.head_pred_set GRule.head_args_get GRule.head_args_set Cert.length_enc Cert.ok_enc Cert.all_get Cert.all_set Cert.names_get Cert.names_set Cert.nodes_get Cert.nodes_set Fact.length_enc Fact.ok_enc Fact.all_get Fact.all_set Fact.pred_get Fact.pred_set Fact.t_get Fact.t_set Literal.length_enc Literal.ok_enc Literal.all_get Literal.all_set Literal.neg_get Literal.neg_set Literal.atom_get Literal.atom_set Literal.atom_pred_get Literal.atom_pred_set Literal.atom_args_get Literal.atom_args_set Engine.length_enc Engine.ok_enc Engine.all_get Engine.all_set Engine.prog_get Engine.prog_set Engine.st_get Engine.st_set SrcCertm.length_enc SrcCertm.ok_enc SrcCertm.all_get SrcCertm.all_set SrcCertm.b_get SrcCertm.b_set SrcCertm.at__get SrcCertm.at__set GNode.length_enc GNode.ok_enc GNode.all_get GNode.all_set GNode.rule_get GNode.rule_set GNode.pred_get GNode.pred_set GNode.vals_get GNode.vals_set GNode.refs_get GNode.refs_set Term.length_enc Term.ok_enc Term.all_get Term.all_set Term.var_get Term.var_set Term.n_get Term.n_set Env.length_enc Env.ok_enc Env.all_get Env.all_set Env.val_get Env.val_set Env.set_get Env.set_set
attribute [local go_sem] size_put size_ext blk_put free_put blk_alloc free_alloc blk_drew free_drew blk_ext free_ext lookOr_some putOr_some segAt_some cellAt_some storeIn_some put_put put_alloc_new length_arr ok_arr_u8 ok_arr_u32 ok_arr_u64 ok_arr_i64 ok_arr_sl cellsV_agg cellsV_int cellsV_bool cellsV_string cellsV_pointer cellsV_slice cellsV_sl ok_int ok_bool ok_string ok_pointer ok_slice ok_sl toList_arr seg_arr set_arr nth_splice nth_splice0 seg_splice seg_splice0 splice_splice splice_splice0 length_splice_if
attribute [local go_sem ↓] execOp_box
attribute [local go_sem] box_run nth_arr_u8 put_arr_u8 blk_drewN free_drewN put_drewN blk_raw free_raw
/-- Byte i as a number. -/
def byt (xs : List UInt8) (i : Nat) : Nat := (xs.getD i 0).toNat
theorem byt_lt (xs : List UInt8) (i : Nat) : byt xs i < 256 := UInt8.toNat_lt _
/-- The length field. -/
def fld (xs : List UInt8) : Nat := byt xs 2 * 256 + byt xs 3
/-- The length of the request at the front, or 0. -/
def frmN (xs : List UInt8) : Nat := if xs.length < 4 then 0 else if xs.length < 4 + fld xs then 0 else 4 + fld xs
theorem Bs.byt {W : World} {a : Option Addr} {n : Nat} {xs : List UInt8} (h : Bs W a n xs) (h0 : 0 < n) : ∃ b o C, a = some ⟨b, o, none⟩ ∧ blk W b = some C ∧ o + n ≤ C.length ∧ ∀ i, i < n → nth C (o + i) = some (.int .u8 (Go.Proofs.Qxb6500787a.byt xs i : Int)) := by
  obtain ⟨b, o, C, e1, e2, e3, e4⟩ := h.2.1 (by omega)
  refine ⟨b, o, C, e1, e2, e3, fun i hi => ?_⟩
  obtain ⟨b', o', C', x, f1, f2, f3, f4, f5⟩ := h.get hi
  have eq := Option.some.inj (e1.symm.trans f1)
  have eb : b = b' := congrArg Addr.block eq
  have eo : o = o' := congrArg Addr.off eq
  subst eb eo
  have ec : C = C' := Option.some.inj (e2.symm.trans f2)
  subst ec
  rw [f5]
  have : Go.Proofs.Qxb6500787a.byt xs i = x.toNat := by
    unfold Go.Proofs.Qxb6500787a.byt
    rw [List.getD_eq_getElem?_getD, f4]
    rfl
  rw [this]
  rfl
def sesE (bs : Nat) (ba : Option Addr) (bn bc : Nat) (cl : Bool) : List Value := [.pointer (some ⟨bs, 0, none⟩), .slice ba bn bc, .bool cl]
theorem se_len (bs : Nat) (ba : Option Addr) (bn bc : Nat) (cl : Bool) : (sesE bs ba bn bc cl).length = 3 := rfl
theorem se0 (bs : Nat) (ba : Option Addr) (bn bc : Nat) (cl : Bool) : nth (sesE bs ba bn bc cl) 0 = some (.pointer (some ⟨bs, 0, none⟩)) := rfl
theorem se1 (bs : Nat) (ba : Option Addr) (bn bc : Nat) (cl : Bool) : nth (sesE bs ba bn bc cl) 1 = some (.slice ba bn bc) := rfl
theorem se2 (bs : Nat) (ba : Option Addr) (bn bc : Nat) (cl : Bool) : nth (sesE bs ba bn bc cl) 2 = some (.bool cl) := rfl
theorem se_set1 (bs : Nat) (ba : Option Addr) (bn bc : Nat) (cl : Bool) (a : Option Addr) (n c : Nat) : splice (sesE bs ba bn bc cl) 1 [.slice a n c] = sesE bs a n c cl := rfl
theorem se_set2 (bs : Nat) (ba : Option Addr) (bn bc : Nat) (cl d : Bool) : splice (sesE bs ba bn bc cl) 2 [.bool d] = sesE bs ba bn bc d := rfl
theorem build119 (w : World) (bs : Nat) : (buildOp 119 #[(0, .pointer (some ⟨bs, 0, none⟩))]).run Try.prog w = .ok (.value (.agg (sesE bs none 0 0 false).toArray)) w := by kernel_rfl
attribute [local go_sem ↓] execOp_build execOp_box
attribute [local go_sem] build119 box_run se_len se0 se1 se2 se_set1 se_set2
theorem newSession_any (W : World) (bs : Nat) : Calls Try.prog 28 #[.pointer (some ⟨bs, 0, none⟩)] W fun e V => e = .returned (.pointer (some ⟨W.heap.size, 0, none⟩)) ∧ V = W.alloc (.cells (sesE bs none 0 0 false).toArray 119) := by
  go_enter Try.func28, Try.ntmps28
  go_wp2_with fail
  go_ret
  exact ⟨rfl, rfl⟩
theorem closed_any {W : World} {bc bs : Nat} {ba : Option Addr} {bn bk : Nat} {cl : Bool} (h : blk W bc = some (sesE bs ba bn bk cl)) : Calls Try.prog 30 #[.pointer (some ⟨bc, 0, none⟩)] W fun e V => e = .returned (.bool cl) ∧ V = W := by
  go_enter Try.func30, Try.ntmps30
  go_wp2_with fail
  go_ret
  exact ⟨rfl, rfl⟩
theorem pending_any {W : World} {bc bs : Nat} {ba : Option Addr} {bn bk : Nat} {cl : Bool} (h : blk W bc = some (sesE bs ba bn bk cl)) : Calls Try.prog 31 #[.pointer (some ⟨bc, 0, none⟩)] W fun e V => e = .returned (.int .i64 (bn : Int)) ∧ V = W := by
  go_enter Try.func31, Try.ntmps31
  go_wp2_with fail
  go_ret
  exact ⟨rfl, rfl⟩
set_option maxRecDepth 20000 in
set_option maxHeartbeats 1000000 in
theorem frame_any {W : World} {bc bs : Nat} {ba : Option Addr} {bn bk : Nat} {cl : Bool} (h : blk W bc = some (sesE bs ba bn bk cl)) {xs : List UInt8} (hX : Bs W ba bn xs) (hn : bn ≤ 1000000) : Calls Try.prog 60 #[.pointer (some ⟨bc, 0, none⟩)] W fun e V => e = .returned (.int .i64 (frmN xs : Int)) ∧ ∃ k, V = W.drewN k := by
  have hxl := hX.1
  by_cases h4 : bn < 4
  · have e0 : frmN xs = 0 := by unfold frmN; rw [if_pos (by omega)]
    rw [e0]
    have n1 : (bn : Int) < 4 := by omega
    clear hX hxl e0
    go_enter Try.func60, Try.ntmps60
    go_wp2_with fail
    go_ret
    exact ⟨rfl, 0, rfl⟩
  obtain ⟨b, o, C, rfl, hC, hCl, hby⟩ := hX.byt (by omega)
  have v2 := hby 2 (by omega)
  have v3 := hby 3 (by omega)
  have b2 := byt_lt xs 2
  have b3 := byt_lt xs 3
  obtain ⟨y2, hy2⟩ : ∃ y, y = byt xs 2 := ⟨_, rfl⟩
  obtain ⟨y3, hy3⟩ : ∃ y, y = byt xs 3 := ⟨_, rfl⟩
  have hfl : fld xs = y2 * 256 + y3 := by unfold fld; rw [← hy2, ← hy3]
  rw [← hy2] at v2 b2
  rw [← hy3] at v3 b3
  obtain ⟨fl, hf⟩ : ∃ fl, fl = y2 * 256 + y3 := ⟨_, rfl⟩
  have hfb : fl < 65536 := by omega
  have hor := or_i64 y2 y3 b2 b3
  rw [← hf] at hor hfl
  have q0 : ¬ (bn : Int) < 4 := by omega
  have q3 : (2 : Int) < (bn : Int) := by omega
  have q4 : (3 : Int) < (bn : Int) := by omega
  have w2 : IntKind.i64.wrap (y2 : Int) = (y2 : Int) := by rw [IntKind.wrap_i64]; omega
  have w3 : IntKind.i64.wrap (y3 : Int) = (y3 : Int) := by rw [IntKind.wrap_i64]; omega
  have q5 : o + 2 < C.length := by omega
  have q6 : o + 3 < C.length := by omega
  have HR : Hid (frmN xs = if bn < 4 + fl then 0 else 4 + fl) := by
    show _ = _
    unfold frmN
    rw [if_neg (by omega), hfl, hxl]
  clear hf hy2 hy3 hby hfl hxl hX
  by_cases hlt : bn < 4 + fl
  · have l1 : (bn : Int) < 4 + (fl : Int) := by omega
    rw [HR.out, if_pos hlt]
    go_enter Try.func60, Try.ntmps60
    go_upto_region 3 with fail
    go_quiet (fail)
    go_wp2_with fail
    go_ret
    exact ⟨rfl, _, rfl⟩
  · have l1 : ¬ (bn : Int) < 4 + (fl : Int) := by omega
    rw [HR.out, if_neg hlt]
    go_enter Try.func60, Try.ntmps60
    go_upto_region 3 with fail
    go_quiet (fail)
    go_wp2_with fail
    go_ret
    exact ⟨rfl, _, rfl⟩
end Go.Proofs.Qxb6500787a
