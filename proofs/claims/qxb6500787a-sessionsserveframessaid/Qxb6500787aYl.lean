import Derived.Test.Qxb6500787aYk
import Derived.StillTailTactics
import Derived.Deep.QuietTactic
import Derived.BigQuiet
import Derived.Deep.RegionHeld
import Derived.Deep.CutRange
import Derived.Laws.ResultCell
import Derived.Laws.Rows
import Derived.DeepKeys
import Derived.DataBytes
import Derived.Laws.StructEq
import Derived.Laws.AppendOwn
import Derived.Laws.MakeOwn
import Derived.Lib.AppendStr
set_option linter.unusedSimpArgs false
set_option linter.unusedVariables false
namespace Go.Proofs.Qxb6500787a
open Go.RowKit Go.Blk
attribute [local go_sem ↓] execOp_load execOp_store execOp_alloc
attribute [local go_sem] Try.ld26 Try.st26 Try.ld27 Try.st27 Try.ld28 Try.st28 Try.ld3 Try.st3 Try.ld29 Try.st29 Try.ld44 Try.st44 Try.ld4 Try.st4 Try.ld50 Try.st50 Try.ld32 Try.st32 Try.ld49 Try.st49 Try.ld68 Try.st68 Try.ld9 Try.st9 Try.ld40 Try.st40 Try.ld138 Try.st138 Try.ld139 Try.st139 Try.ld146 Try.st146 Try.ld183 Try.st183 Try.ld184 Try.st184 Try.ld192 Try.st192 Try.ld195 Try.st195 Try.ld217 Try.st217 Try.ld159 Try.st159 Try.ld142 Try.st142 Try.ld2 Try.st2 Try.ld5 Try.st5 Try.ld12 Try.st12 Try.ld21 Try.st21 Try.ld22 Try.st22 Try.ld24 Try.st24 Try.ld58 Try.st58 Try.ld63 Try.st63 Try.ld97 Try.st97 Try.ld101 Try.st101 Try.ld116 Try.st116 Try.ld121 Try.st121 Try.ld135 Try.st135 Try.ld136 Try.st136 Try.ld143 Try.st143 Try.ld148 Try.st148 Try.ld154 Try.st154 Try.ld173 Try.st173 Try.ld187 Try.st187 Try.ld222 Try.st222 Try.ld241 Try.st241 Try.ld248 Try.st248 Try.ld268 Try.st268 Try.ld272 Try.st272 Try.ld153 Try.st153 Try.ld255 Try.st255 Try.ld256 Try.st256 Try.ld129 Try.st129 Try.ld152 Try.st152 Try.ld31 Try.st31 Try.ld46 Try.st46 Try.ld52 Try.st52 Try.ld54 Try.st54 Try.ld60 Try.st60 Try.ld70 Try.st70 Try.ld74 Try.st74 Try.ld93 Try.st93 Try.ld119 Try.st119 Try.ld141 Try.st141 Try.ld151 Try.st151 Try.ld170 Try.st170 Try.ld186 Try.st186 Try.ld189 Try.st189 Try.ld194 Try.st194 Try.ld197 Try.st197 Try.ld219 Try.st219 Try.ld224 Try.st224 Try.ld230 Try.st230 Try.ld235 Try.st235 Try.ld243 Try.st243 Try.ld247 Try.st247 Try.ld252 Try.st252 Try.ld258 Try.st258 Try.al153 Try.al255 Try.al256 Try.al129 Try.al152 Try.al31 Try.al46 Try.al52 Try.al54 Try.al60 Try.al70 Try.al74 Try.al93 Try.al119 Try.al141 Try.al151 Try.al170 Try.al186 Try.al189 Try.al194 Try.al197 Try.al219 Try.al224 Try.al230 Try.al235 Try.al243 Try.al247 Try.al252 Try.al258
attribute [local go_sem] Request.length_enc Request.ok_enc Request.all_get Request.all_set Request.kind_get Request.kind_set Request.blob_get Request.blob_set Request.items_get Request.items_set Request.pred_get Request.pred_set Request.slots_get Request.slots_set Trace.length_enc Trace.ok_enc Trace.all_get Trace.all_set Trace.op_get Trace.op_set Trace.calls_get Trace.calls_set Item.length_enc Item.ok_enc Item.all_get Item.all_set Item.del_get Item.del_set Item.pred_get Item.pred_set Item.args_get Item.args_set Reply.length_enc Reply.ok_enc Reply.all_get Reply.all_set Reply.code_get Reply.code_set Reply.kind_get Reply.kind_set Reply.index_get Reply.index_set Reply.yes_get Reply.yes_set Reply.preds_get Reply.preds_set Reply.rules_get Reply.rules_set Reply.arity_get Reply.arity_set Reply.rows_get Reply.rows_set Reply.fact_get Reply.fact_set Reply.fact_del_get Reply.fact_del_set Reply.fact_pred_get Reply.fact_pred_set Reply.fact_args_get Reply.fact_args_set GEntry.length_enc GEntry.ok_enc GEntry.all_get GEntry.all_set GEntry.seq_get GEntry.seq_set GEntry.kind_get GEntry.kind_set GEntry.code_get GEntry.code_set GOp.length_enc GOp.ok_enc GOp.all_get GOp.all_set GOp.kind_get GOp.kind_set GOp.raw_get GOp.raw_set Reader.length_enc Reader.ok_enc Reader.all_get Reader.all_set Reader.buf_get Reader.buf_set Reader.at__get Reader.at__set Slot.length_enc Slot.ok_enc Slot.all_get Slot.all_set Slot.bound_get Slot.bound_set Slot.name_get Slot.name_set Session.length_enc Session.ok_enc Session.all_get Session.all_set Session.svc_get Session.svc_set Session.buf_get Session.buf_set Session.closed_get Session.closed_set GProgram.length_enc GProgram.ok_enc GProgram.all_get GProgram.all_set GProgram.pool_get GProgram.pool_set GProgram.preds_get GProgram.preds_set GProgram.rules_get GProgram.rules_set GProgram.strata_get GProgram.strata_set PredInfo.length_enc PredInfo.ok_enc PredInfo.all_get PredInfo.all_set PredInfo.arity_get PredInfo.arity_set PredInfo.base_get PredInfo.base_set PredInfo.stratum_get PredInfo.stratum_set Change.length_enc Change.ok_enc Change.all_get Change.all_set Change.del_get Change.del_set Change.pred_get Change.pred_set Change.t_get Change.t_set Store.length_enc Store.ok_enc Store.all_get Store.all_set Store.names_get Store.names_set Store.arity_get Store.arity_set Store.rows_get Store.rows_set Src.length_enc Src.ok_enc Src.all_get Src.all_set Src.b_get Src.b_set Src.at__get Src.at__set Atom.length_enc Atom.ok_enc Atom.all_get Atom.all_set Atom.pred_get Atom.pred_set Atom.args_get Atom.args_set GRule.length_enc GRule.ok_enc GRule.all_get GRule.all_set GRule.head_get GRule.head_set GRule.body_get GRule.body_set GRule.head_pred_get GRule.head_pred_set GRule.head_args_get GRule.head_args_set Cert.length_enc Cert.ok_enc Cert.all_get Cert.all_set Cert.names_get Cert.names_set Cert.nodes_get Cert.nodes_set Fact.length_enc Fact.ok_enc Fact.all_get Fact.all_set Fact.pred_get Fact.pred_set Fact.t_get Fact.t_set Literal.length_enc Literal.ok_enc Literal.all_get Literal.all_set Literal.neg_get Literal.neg_set Literal.atom_get Literal.atom_set Literal.atom_pred_get Literal.atom_pred_set Literal.atom_args_get Literal.atom_args_set Engine.length_enc Engine.ok_enc Engine.all_get Engine.all_set Engine.prog_get Engine.prog_set Engine.st_get Engine.st_set SrcCertm.length_enc SrcCertm.ok_enc SrcCertm.all_get SrcCertm.all_set SrcCertm.b_get SrcCertm.b_set SrcCertm.at__get SrcCertm.at__set GNode.length_enc GNode.ok_enc GNode.all_get GNode.all_set GNode.rule_get GNode.rule_set GNode.pred_get GNode.pred_set GNode.vals_get GNode.vals_set GNode.refs_get GNode.refs_set Term.length_enc Term.ok_enc Term.all_get Term.all_set Term.var_get Term.var_set Term.n_get Term.n_set Env.length_enc Env.ok_enc Env.all_get Env.all_set Env.val_get Env.val_set Env.set_get Env.set_set
attribute [local go_sem] size_put size_ext blk_put free_put blk_alloc free_alloc blk_drew free_drew blk_ext free_ext lookOr_some putOr_some segAt_some cellAt_some storeIn_some put_put put_alloc_new length_arr ok_arr_u8 ok_arr_u32 ok_arr_u64 ok_arr_i64 ok_arr_sl cellsV_agg cellsV_int cellsV_bool cellsV_string cellsV_pointer cellsV_slice cellsV_sl ok_int ok_bool ok_string ok_pointer ok_slice ok_sl toList_arr seg_arr set_arr nth_splice nth_splice0 seg_splice seg_splice0 splice_splice splice_splice0 length_splice_if
attribute [local go_sem ↓] execOp_box
attribute [local go_sem] box_run nth_arr_u8 put_arr_u8 blk_drewN free_drewN put_drewN blk_raw free_raw
theorem app_frm {B : Nat} {O : Own} {l : Lab} {W : World} {a : Option Addr} {n c : Nat} {xs : List UInt8} (h : RB B O l W a n c xs) (hB : B ≤ W.heap.size) {ra : Option Addr} {rn : Nat} (rc : Nat) {ys : List UInt8} (hr : Bs W ra rn ys) (hrl : ∀ b o, ra = some ⟨b, o, none⟩ → O b ≠ l) (hl : xs.length + ys.length ≤ 90000000000) {A4 : Array Value} (hA5 : A4.toList = bv [UInt8.ofNat (ys.length / 16777216), UInt8.ofNat (ys.length / 65536), UInt8.ofNat (ys.length / 256), UInt8.ofNat ys.length]) : ∃ a2 c2 W2 a3 c3 W3, (Builtin.append_ #[27, 27] 27 #[.slice a n c, .slice (some ⟨W.heap.size, 0, none⟩) 4 4]).run Try.prog (W.alloc (.cells A4 5)) = .ok (.slice a2 (n + 4) c2) W2 ∧ (Builtin.append_ #[27, 27] 27 #[.slice a2 (n + 4) c2, .slice ra rn rc]).run Try.prog W2 = .ok (.slice a3 (n + 4 + rn) c3) W3 ∧ RB B (lab O W.heap.size l) l W3 a3 (n + 4 + rn) c3 (xs ++ frm ys) ∧ Fr (fun y => y = l) O W (lab O W.heap.size l) W3 := by
  obtain ⟨E4, hE4⟩ : ∃ E4 : List UInt8, E4 = [UInt8.ofNat (ys.length / 16777216), UInt8.ofNat (ys.length / 65536), UInt8.ofNat (ys.length / 256), UInt8.ofNat ys.length] := ⟨_, rfl⟩
  have hrn : ys.length = rn := hr.1
  rw [← hE4] at hA5
  have hE4l : E4.length = 4 := by rw [hE4]; rfl
  have hx1 : W.Extends (W.alloc (.cells A4 5)) := extends_alloc (ext_Ext (Ext.refl _)) _
  have hF1 : Fr (fun y => y = l) O W (lab O W.heap.size l) (W.alloc (.cells A4 5)) := ⟨hx1.os, hx1.tape, hx1.output, hx1.size, fun k hk => lab_lt hk, fun k hk _ => hx1.block k hk⟩
  have hr1 : RB B (lab O W.heap.size l) l (W.alloc (.cells A4 5)) a n c xs := h.keep (fun k hk _ => ⟨hx1.block k hk, lab_lt hk⟩)
  have hb4 : Bs (W.alloc (.cells A4 5)) (some ⟨W.heap.size, 0, none⟩) 4 E4 := by
    refine ⟨hE4l, fun _ => ⟨W.heap.size, 0, A4.toList, rfl, by rw [blk_alloc, if_pos rfl], by rw [hA5, length_bv, hE4l]; omega, ?_⟩, .inr ⟨_, _, rfl⟩⟩
    rw [hA5]
    unfold seg
    rw [List.drop_zero, List.take_of_length_le (by rw [length_bv, hE4l]; omega)]
  obtain ⟨a2, c2, W2, hrun2, hr2, hF2⟩ := appBL 27 hr1 4 hb4 (Nat.le_trans hB hx1.size) (by omega)
  rw [lab_lab O hx1.size] at hr2 hF2
  have hys2 : Bs W2 ra rn ys := by
    refine ⟨hr.1, fun h0 => ?_, hr.2.2⟩
    obtain ⟨b, o, C, e1, e2, e3, e4⟩ := hr.2.1 h0
    refine ⟨b, o, C, e1, ?_, e3, e4⟩
    refine hF2.blk ((hx1.blk (blk_lt e2)).trans e2) ?_
    rw [lab_lt (blk_lt e2)]
    exact hrl b o e1
  obtain ⟨a3, c3, W3, hrun3, hr3, hF3⟩ := appBL 27 hr2 rc hys2 (Nat.le_trans hB (Nat.le_trans hx1.size hF2.size)) (by rw [List.length_append, hE4l]; omega)
  rw [lab_lab O (Nat.le_trans hx1.size hF2.size)] at hr3 hF3
  refine ⟨a2, c2, W2, a3, c3, W3, hrun2, hrun3, ?_, hF1.trans (hF2.trans hF3)⟩
  have e : xs ++ frm ys = xs ++ E4 ++ ys := by unfold frm; rw [← hE4, List.append_assoc]
  rw [e]; exact hr3
theorem FS.got {Ob : Own} {Wb : World} {bs bc : Nat} {s : Sv} {O : Own} {g : Nat} {V V' : World} {ba : Option Addr} {bn bk : Nat} {buf : List UInt8} {cl : Bool} (h : FS Ob Wb bs bc s O g V ba bn bk buf cl) (h57 : ∀ k, k < Wb.heap.size → ¬ ∃ j, Ob k = .a 5 j) (hF : Fr (fun y => y = .a 5 6) O V (lab O V.heap.size (.a 5 6)) V') : FS Ob Wb bs bc s (lab O V.heap.size (.a 5 6)) g V' ba bn bk buf cl := by
  have hne : ¬ (fun y => y = Lab.a 5 6) (O bc) := by rw [h.own]; exact fun e => by have := (Lab.a.inj e).2; omega
  exact ⟨h.ls.fr5 h57 (fun l e => ⟨6, e⟩) hF (lab_5 _ _ _), hF.blk h.cell hne, hF.free h.cell h.fre hne, (hF.keep bc (blk_lt h.cell)).trans h.own, h.row.fr hF (fun e => by have := (Lab.a.inj e).2; omega)⟩
theorem RB.tocore {B : Nat} {O O' : Own} {l : Lab} {W : World} {a : Option Addr} {n c : Nat} {xs : List UInt8} (h : RB B O l W a n c xs) (hl : ∀ b, O b = l → O' b = .no) : Bs (core O' W) a n xs := by
  obtain ⟨hB, -, -⟩ := h.bs
  refine ⟨hB.1, fun h0 => ?_, hB.2.2⟩
  obtain ⟨b, o, C, e1, e2, e3, e4⟩ := hB.2.1 h0
  exact ⟨b, o, C, e1, blk_core e2 (hl b (h.2 b (by rw [e1]; rfl))), e3, e4⟩
theorem Run.init {L : List (List UInt8)} {x : List UInt8} {t : Sv} {op : Bool} {want : List UInt8} (h : Run (L ++ [x]) t op want) : ∃ s o out more, Run L s o out ∧ want = out ++ more := by
  rcases h.inv with ⟨e, -⟩ | ⟨Fs, raw, e, hc⟩
  · exact absurd e (by simp)
  · obtain ⟨e1, -⟩ := snoc_inj e
    subst e1
    rcases hc with ⟨s0, out0, q, g1, -, -, -, g5⟩ | ⟨s0, out0, q, g1, -, -, -, g5⟩ | ⟨g1, -⟩
    · exact ⟨_, _, _, _, g1, g5⟩
    · exact ⟨_, _, _, _, g1, g5⟩
    · exact ⟨_, _, _, [], g1, (List.append_nil _).symm⟩
theorem Run.front : ∀ (M : List (List UInt8)) {L : List (List UInt8)} {t : Sv} {op : Bool} {want : List UInt8}, Run (L ++ M) t op want → ∃ s o out more, Run L s o out ∧ want = out ++ more
  | [], L, t, op, want, h => by rw [List.append_nil] at h; exact ⟨_, _, _, [], h, (List.append_nil _).symm⟩
  | x :: M, L, t, op, want, h => by
    have h1 : Run ((L ++ [x]) ++ M) t op want := by rw [List.append_assoc]; exact h
    obtain ⟨s, o, out, more, h2, h3⟩ := Run.front M h1
    obtain ⟨s', o', out', more', h4, h5⟩ := h2.init
    exact ⟨s', o', out', more' ++ more, h4, by rw [h3, h5, List.append_assoc]⟩
theorem SI.short {Fs : List (List UInt8)} {rest : List UInt8} {s : Sv} {buf : List UInt8} {cl : Bool} {got : List UInt8} (h : SI Fs rest s buf cl got) {t : Sv} {op : Bool} {want : List UInt8} (hR : Run Fs t op want) : got.length ≤ want.length := by
  obtain ⟨j, b, h1⟩ : ∃ j b, Run (Fs.take j) s b got := by
    rcases h with ⟨-, j, -, h2, -⟩ | ⟨-, -, j, h2⟩
    · exact ⟨j, _, h2⟩
    · exact ⟨j, _, h2⟩
  have h3 : Run (Fs.take j ++ Fs.drop j) t op want := by rw [List.take_append_drop]; exact hR
  obtain ⟨s', o', out, more, h4, h5⟩ := Run.front _ h3
  obtain ⟨-, -, e⟩ := h1.det h4
  rw [h5, e, List.length_append]; omega
/-- Law 8's first loop. -/
structure J8 (Ob : Own) (Wb : World) (bs i : Nat) (sa : Option Addr) (sn sc : Nat) (wa : Option Addr) (wn wc : Nat) (op : Bool) (s : Sv) (O : Own) (g : Nat) (stream want : List UInt8) (Fs : List (List UInt8)) (V : World) : Prop where
  ls : LS Ob Wb bs (1000 + 10 * s.rst 196) s O g V
  srow : RB Wb.heap.size O (.a 5 4) V sa sn sc stream
  wrow : RB Wb.heap.size O (.a 5 5) V wa wn wc want
  run : Run Fs s op want
  flat : stream = Fs.flatten
  fr : ∀ raw ∈ Fs, raw.length = 4 + fld raw ∧ raw.length ≤ 65536
  len : Fs.length ≤ i
  sl : stream.length ≤ 65536 * i
  wl : want.length ≤ 200000 * i
def j8I (b0 bs : Nat) (Ob : Own) (Wb : World) (A : Option Addr) (N Cp : Nat) (f : Nat → Value) (V : World) : Prop := f 3 = .pointer (some ⟨b0, 0, none⟩) ∧ f 4 = .pointer (some ⟨bs, 0, none⟩) ∧ f 5 = .slice A N Cp ∧ ∃ (i : Nat) (sa : Option Addr) (sn sc : Nat) (wa : Option Addr) (wn wc : Nat) (op : Bool), i ≤ N ∧ f 6 = .slice sa sn sc ∧ f 7 = .slice wa wn wc ∧ f 8 = .bool op ∧ f 9 = .int .i64 (i : Nat) ∧ Hid (∃ s O g stream want Fs, J8 Ob Wb bs i sa sn sc wa wn wc op s O g stream want Fs V)
/-- Law 8's second loop. -/
structure K8 (Ob : Own) (Wb : World) (b0 bc k : Nat) (stream : List UInt8) (Fs : List (List UInt8)) (ga : Option Addr) (gn gc : Nat) (s : Sv) (O : Own) (g : Nat) (ba : Option Addr) (bn bk : Nat) (buf : List UInt8) (cl : Bool) (got : List UInt8) (V : World) : Prop where
  fs : FS Ob Wb b0 bc s O g V ba bn bk buf cl
  row : RB Wb.heap.size O (.a 5 6) V ga gn gc got
  si : SI Fs (stream.drop k) s buf cl got
def k8I (Ob : Own) (Wb : World) (b0 bc : Nat) (sa : Option Addr) (sn sc : Nat) (wa : Option Addr) (wn wc : Nat) (op : Bool) (stream : List UInt8) (Fs : List (List UInt8)) (f : Nat → Value) (V : World) : Prop := f 6 = .slice sa sn sc ∧ f 7 = .slice wa wn wc ∧ f 8 = .bool op ∧ f 12 = .pointer (some ⟨bc, 0, none⟩) ∧ ∃ (k : Nat) (ga : Option Addr) (gn gc : Nat), k ≤ sn ∧ f 13 = .slice ga gn gc ∧ f 14 = .int .i64 (k : Nat) ∧ Hid (∃ s O g ba bn bk buf cl got, K8 Ob Wb b0 bc k stream Fs ga gn gc s O g ba bn bk buf cl got V)
/-- The service that lay still begins to serve. -/
theorem still_ls {W : World} {b0 : Nat} (hb : blk W b0 = some newE) (hf : free W b0 = true) : LS (fun k => if k = b0 then .a 0 0 else .no) W b0 1000 Sv.zero (fun k => if k = b0 then .a 0 0 else .no) 0 W := by
  refine ⟨Kp.refl _ _, ⟨newE, none, none, 0, 0, hb, hf, if_pos rfl, newE_c, ⟨rfl, fun h => absurd rfl h, .inl rfl⟩, by omega, fun _ => ⟨rfl, rfl, rfl⟩, fun t h => by cases h⟩, fun k => ?_, fun k i j e => ?_, svI_zero⟩
  · split
    · exact ⟨isI_0 _, fun e => by cases e⟩
    · exact ⟨isI_no _, fun e => by cases e⟩
  · split at e
    · have := (Lab.a.inj e).1; omega
    · cases e
attribute [local go_sem ↓] execOp_bslice execOp_slice
attribute [local go_sem] bslice27d
set_option maxRecDepth 100000 in
theorem frame135e (f : Nat → Value) : frameN 135 f = #[f 0, f 1, f 2, f 3, f 4, f 5, f 6, f 7, f 8, f 9, f 10, f 11, f 12, f 13, f 14, f 15, f 16, f 17, f 18, f 19, f 20, f 21, f 22, f 23, f 24, f 25, f 26, f 27, f 28, f 29, f 30, f 31, f 32, f 33, f 34, f 35, f 36, f 37, f 38, f 39, f 40, f 41, f 42, f 43, f 44, f 45, f 46, f 47, f 48, f 49, f 50, f 51, f 52, f 53, f 54, f 55, f 56, f 57, f 58, f 59, f 60, f 61, f 62, f 63, f 64, f 65, f 66, f 67, f 68, f 69, f 70, f 71, f 72, f 73, f 74, f 75, f 76, f 77, f 78, f 79, f 80, f 81, f 82, f 83, f 84, f 85, f 86, f 87, f 88, f 89, f 90, f 91, f 92, f 93, f 94, f 95, f 96, f 97, f 98, f 99, f 100, f 101, f 102, f 103, f 104, f 105, f 106, f 107, f 108, f 109, f 110, f 111, f 112, f 113, f 114, f 115, f 116, f 117, f 118, f 119, f 120, f 121, f 122, f 123, f 124, f 125, f 126, f 127, f 128, f 129, f 130, f 131, f 132, f 133, f 134] := by kernel_rfl
set_option maxRecDepth 40000 in
set_option maxHeartbeats 2000000 in
theorem frames_walk (w : World) (a : Option Addr) (len cap : Nat) (g : Nat → GOp) (dt : Nat → List UInt8) (hS : ScriptAt w a len cap g dt) : Calls Try.prog 8 #[.slice a len cap] w fun e w' => e = .returned (.bool true) ∧ w.Extends w' := by
  have HS : Hid (ScriptAt w a len cap g dt) := hS
  have hS0 := hS
  clear hS
  go_enter Try.func8, Try.ntmps8
  go_wp2_with fail
  refine (small_any w a len cap g dt hS0).mono ?_
  rintro e w1 ⟨⟨r, rfl, hr⟩, rfl⟩
  clear hS0
  dsimp only
  cases r
  · go_wp2_with fail
    go_ret
    exact ⟨rfl, ext_Ext (Ext.refl _)⟩
  obtain ⟨hlen, hsz⟩ := hr rfl
  have HSZ : Hid (∀ i, i < len → (g i).raw.len ≤ 65536) := hsz
  clear hr hsz
  go_wp2_with fail
  refine (new_any w1).mono ?_
  rintro e w2 ⟨rfl, e2⟩
  dsimp only
  have HX2 : Hid (w1.Extends w2) := by
    show World.Extends _ _
    rw [e2]; exact extends_alloc (ext_Ext (Ext.refl _)) _
  have HB0 : Hid (blk w2 w1.heap.size = some newE ∧ free w2 w1.heap.size = true ∧ w2.heap.size = w1.heap.size + 1) := by
    show _ ∧ _ ∧ _
    rw [e2]
    exact ⟨by rw [blk_alloc, if_pos rfl], by rw [free_alloc, if_pos rfl], World.size_alloc _ _⟩
  have HS2 : Hid (ScriptAt w2 a len cap g dt) := HS.out.mono HX2.out
  obtain ⟨b0, eb0⟩ : ∃ b0, b0 = w1.heap.size := ⟨_, rfl⟩
  rw [← eb0] at HB0 ⊢
  have HE0 := hid_of eb0
  clear e2 eb0
  go_wp2_with fail
  refine (new_any w2).mono ?_
  rintro e w3 ⟨rfl, e3⟩
  dsimp only
  have HS3 : Hid (ScriptAt w3 a len cap g dt) := by
    show ScriptAt _ _ _ _ _ _
    rw [e3]
    exact HS2.out.mono (extends_alloc (ext_Ext (Ext.refl _)) _)
  have HE3 := hid_of e3
  clear e3
  go_wp2_with fail
  refine (sends_any w3 a len cap g dt HS3.out hlen).mono ?_
  rintro e W1 ⟨A, N, Cp, L, rfl, hat⟩
  dsimp only
  rw [HE3.out] at hat
  have hbeg := beg_of HS2.out hlen HSZ.out hat
  obtain ⟨bs, ebs⟩ : ∃ bs, bs = w2.heap.size := ⟨_, rfl⟩
  rw [← ebs] at hbeg ⊢
  obtain ⟨Ob, hOb⟩ : ∃ Ob, Ob = lab (lab (fun _ => Lab.no) bs (.a 0 0)) (bs + 1) .no := ⟨_, rfl⟩
  rw [← hOb] at hbeg
  have HBEG := hid_of hbeg
  have H57 : Hid (∀ k, k < W1.heap.size → ¬ ∃ j, Ob k = .a 5 j) := fun k _ => by
    rintro ⟨j, e⟩
    rw [hOb] at e
    by_cases h1 : k < bs + 1
    · rw [lab_lt h1] at e
      by_cases h2 : k < bs
      · rw [lab_lt h2] at e; cases e
      · rw [lab_ge (by omega)] at e; have := (Lab.a.inj e).1; omega
    · rw [lab_ge (by omega)] at e; cases e
  have HB1 : Hid (blk W1 b0 = some newE ∧ W1.heap[b0]? = w2.heap[b0]? ∧ Ob b0 = .no) := by
    have hlt : b0 < w2.heap.size := blk_lt HB0.out.1
    exact ⟨(hbeg.ex.blk hlt).trans HB0.out.1, hbeg.ex.block b0 hlt, hbeg.old b0 hlt⟩
  have hN : N ≤ 65536 := hbeg.nn
  clear hat hbeg ebs hOb HS2 HE3 HS3 HSZ
  go_upto_region 8 with fail
  refine wp_loop_f 135 (j8I b0 bs Ob W1 A N Cp) (fun f _ => N - (intOf (f 9)).toNat) rfl ⟨rfl, rfl, rfl, 0, none, 0, 0, none, 0, 0, true, by omega, rfl, rfl, rfl, rfl, ⟨Sv.zero, Ob, 0, [], [], [], HBEG.out.ls, RB.nil _ _ _ _, RB.nil _ _ _ _, Run.nil, rfl, (fun r h => absurd h (by simp)), Nat.le_refl _, Nat.zero_le _, Nat.zero_le _⟩⟩ ?_
  intro F V hrel
  obtain ⟨f3, f4, f5, i, sa, sn, sc, wa, wn, wc, op, hi, f6, f7, f8, f9, HJ⟩ := hrel
  have H9 := hid_of f9
  rw [frame135e, f3, f4, f5, f6, f7, f8, f9]
  clear f3 f4 f5 f6 f7 f8 f9
  obtain ⟨s, O, g0, stream, want, Fs, hJ8⟩ := HJ.out
  have HA := hid_of hJ8
  clear HJ hJ8
  by_cases hin : i < N
  rotate_left 1
  · have hin' : ¬ (i : Int) < (N : Int) := by omega
    have hJ := HA.out
    have hkb := hJ.ls.kp.keep b0 (blk_lt HB1.out.1) (by rw [HB1.out.2.2]; exact kept_no)
    obtain ⟨hbV, hobV⟩ := hJ.ls.blk HB1.out.1 HB1.out.2.2
    have hfV : free V b0 = true := (free_of_heap (hkb.2.trans HB1.out.2.1)).trans HB0.out.2.1
    have hLZ := still_ls hbV hfV
    obtain ⟨Oz, hOz⟩ : ∃ Oz : Own, Oz = fun k => if k = b0 then .a 0 0 else .no := ⟨_, rfl⟩
    rw [← hOz] at hLZ
    have hOn : ∀ b, b ≠ b0 → Oz b = .no := fun b hb => by rw [hOz]; exact if_neg hb
    have HZ57 : Hid (∀ k, k < V.heap.size → ¬ ∃ j, Oz k = .a 5 j) := fun k _ => by
      rintro ⟨j, e⟩
      rw [hOz] at e
      dsimp only at e
      split at e
      · have := (Lab.a.inj e).1; omega
      · cases e
    have HST : Hid (Bs (core Oz V) sa sn stream) := hJ.srow.tocore (fun b e => hOn b (fun eb => by rw [eb, hobV] at e; cases e))
    have HWT : Hid (Bs (core Oz V) wa wn want) := hJ.wrow.tocore (fun b e => hOn b (fun eb => by rw [eb, hobV] at e; cases e))
    have hsc := hJ.srow.bs.2
    have HXV : Hid (w1.Extends V) := HX2.out.trans (kp_ext hJ.ls.kp HBEG.out.ex HBEG.out.old)
    have HFF : Hid (∀ raw ∈ Fs, raw.length = 4 + fld raw ∧ raw.length ≤ 65536) := hJ.fr
    have HFL : Hid (stream = Fs.flatten ∧ Fs.length ≤ 65536 ∧ stream.length ≤ 4294967296 ∧ want.length ≤ 13107200000) := ⟨hJ.flat, by have := hJ.len; omega, by have := hJ.sl; omega, by have := hJ.wl; omega⟩
    have HRUN := hid_of hJ.run
    have HLZ := hid_of hLZ
    have hsl0 : stream.length = sn := HST.out.1
    have HSL := hid_of hsl0
    have hsnb : sn ≤ 4294967296 := by have := HFL.out.2.2.1; omega
    have HOL : Hid (∀ k, k < w1.heap.size → Oz k = .no) := fun k hk => hOn k (by have := HE0.out; omega)
    clear hJ hkb hbV hobV hfV hLZ hOz hOn HA H57 HB1 HB0 hsl0 HBEG
    go_wp2_with fail
    refine (newSession_any V b0).mono ?_
    rintro e U ⟨rfl, eU⟩
    dsimp only
    have hxU : V.Extends U := by rw [eU]; exact extends_alloc (ext_Ext (Ext.refl _)) _
    have hcU : blk U V.heap.size = some (sesE b0 none 0 0 false) := by rw [eU, blk_alloc, if_pos rfl]
    have hfU : free U V.heap.size = true := by rw [eU, free_alloc, if_pos rfl]
    have hFU : Fr (fun _ => False) Oz V (lab Oz V.heap.size (.a 5 1)) U := ⟨hxU.os, hxU.tape, hxU.output, hxU.size, fun k hk => lab_lt hk, fun k hk _ => hxU.block k hk⟩
    have hFS : FS Oz V b0 V.heap.size Sv.zero (lab Oz V.heap.size (.a 5 1)) 0 U none 0 0 [] false := ⟨HLZ.out.fr5 HZ57.out (fun l e => e.elim) hFU (lab_5 _ _ _), hcU, hfU, lab_ge (Nat.le_refl _), RB.nil _ _ _ _⟩
    obtain ⟨bc, hbc⟩ : ∃ bc, bc = V.heap.size := ⟨_, rfl⟩
    rw [← hbc] at hFS ⊢
    have HK0 : Hid (∃ s O g ba bn bk buf cl got, K8 Oz V b0 bc 0 stream Fs none 0 0 s O g ba bn bk buf cl got U) := ⟨_, _, _, _, _, _, _, _, _, hFS, RB.nil _ _ _ _, by rw [List.drop_zero, HFL.out.1]; exact SI.zero Fs (fun r hr => (HFF.out r hr).1)⟩
    clear eU hxU hcU hfU hFU hFS hbc
    go_upto_region 23 with fail
    refine wp_loop_f 135 (k8I Oz V b0 bc sa sn sc wa wn wc op stream Fs) (fun f _ => sn - (intOf (f 14)).toNat) rfl ⟨rfl, rfl, rfl, rfl, 0, none, 0, 0, by omega, rfl, rfl, HK0⟩ ?_
    clear HK0
    intro F2 X hrel
    obtain ⟨f6, f7, f8, f12, k, ga, gn, gc, hk, f13, f14, HJ⟩ := hrel
    have H14 := hid_of f14
    rw [frame135e, f6, f7, f8, f12, f13, f14]
    clear f6 f7 f8 f12 f13 f14
    obtain ⟨s, O, g1, ba, bn, bk, buf, cl, got, hK8⟩ := HJ.out
    have HK := hid_of hK8
    clear HJ hK8
    by_cases hks : k < sn
    rotate_left 1
    · have hks' : ¬ (k : Int) < (sn : Int) := by omega
      obtain ⟨e1, e2, e3⟩ := SI.end (fun r hr => (HFF.out r hr).1) (by have h9 := HK.out.si; rw [List.drop_eq_nil_of_le (by rw [HSL.out]; omega)] at h9; exact h9) HRUN.out
      have hgB := HK.out.row.bs.1
      have hwB : Bs X wa wn want := HWT.out.sub (HK.out.fs.ls.sub.trans (Sub.core _ _))
      have hgn : gn = wn := by rw [← hgB.1, ← hwB.1, e1]
      have hbn : bn = 0 := by rw [← HK.out.fs.row.bs.1.1, e3]; rfl
      have hcell := HK.out.fs.cell
      rw [hbn] at hcell
      rw [← e1] at hgB
      have hwl := HFL.out.2.2.2
      have hwn : want.length = wn := hwB.1
      have HXX : Hid (w1.Extends X) := kp_ext HK.out.fs.ls.kp HXV.out HOL.out
      subst hgn
      have hsame := sameBytes_eq X ga wa gn gc wc (by omega) want hgB hwB
      subst e2
      clear e1 e3 hgB hwB hbn hwl hwn HK HRUN
      cases op
      all_goals
        go_wp2_with fail
        refine hsame.mono ?_
        rintro e X2 ⟨rfl, kk, rfl⟩
        dsimp only
        have hcell2 : blk (X.drewN kk) bc = _ := hcell
        have hclo := closed_any hcell2
        have hpen := pending_any hcell2
        clear hsame
        go_wp2_with fail
        refine hclo.mono ?_
        rintro e X3 ⟨rfl, rfl⟩
        dsimp only
        go_wp2_with fail
        refine hpen.mono ?_
        rintro e X4 ⟨rfl, rfl⟩
        dsimp only
        go_wp2_with fail
        go_ret
        exact ⟨rfl, extends_drewN HXX.out kk⟩
    have hks' : (k : Int) < (sn : Int) := by omega
    have k0 : (0 : Int) ≤ (k : Int) := by omega
    have k2 : ((k : Int)).toNat = k := by omega
    have hSX : Bs (core O X) sa sn stream := HST.out.sub HK.out.fs.ls.sub
    obtain ⟨bb, ob, CB, rfl, hCB, hCl, hby⟩ := hSX.byt (by omega)
    obtain ⟨hCX, hOX⟩ := core_blk hCB
    have HSX : Hid (Bs X (some ⟨bb, ob, none⟩) sn stream) := hSX.sub (Sub.core _ _)
    have HOX := hid_of hOX
    have vk := hby k hks
    have yl := byt_lt stream k
    obtain ⟨y, hy⟩ : ∃ y, y = byt stream k := ⟨_, rfl⟩
    rw [← hy] at vk yl
    obtain ⟨r, hr⟩ : ∃ r, r = y % 23 := ⟨_, rfl⟩
    have hyr : (y : Int) % 23 = (r : Int) := by omega
    have hr22 : r ≤ 22 := by omega
    have wy : IntKind.i64.wrap (y : Int) = (y : Int) := by rw [IntKind.wrap_i64]; omega
    have q5 : ob + k < CB.length := by omega
    obtain ⟨sz, hsz⟩ : ∃ sz, sz = min (1 + r) (sn - k) := ⟨_, rfl⟩
    have HSZ := hid_of hsz
    clear hy hr hsz hby hCB hSX hOX
    go_upto_if 103 with fail
    go_cut [15] from 87 to 120 (fun s15 wx => s15 = .int .i64 (sz : Int) ∧ wx = X)
    case first =>
      by_cases h4 : sn < k + (1 + r)
      · have e1 : (k : Int) + (1 + (r : Int)) > (sn : Int) := by omega
        have e1' : (sn : Int) < (k : Int) + (1 + (r : Int)) := by omega
        have e2 : (sn : Int) - (k : Int) = (sz : Int) := by have := HSZ.out; omega
        go_wp2_with fail
        go_meet
        exact ⟨by first | rfl | (show Value.int .i64 _ = Value.int .i64 _; congr 1), rfl⟩
      · have e1 : ¬ (k : Int) + (1 + (r : Int)) > (sn : Int) := by omega
        have e1' : ¬ (sn : Int) < (k : Int) + (1 + (r : Int)) := by omega
        have e2 : (1 : Int) + (r : Int) = (sz : Int) := by have := HSZ.out; omega
        go_wp2_with fail
        go_meet
        exact ⟨by first | rfl | (show Value.int .i64 _ = Value.int .i64 _; congr 1), rfl⟩
    case rest =>
    obtain ⟨rfl, hwx⟩ := hcut
    rw [hwx]
    clear hwx
    have hsz1 : 0 < sz ∧ sz ≤ 23 ∧ k + sz ≤ sn := by have := HSZ.out; omega
    have hsl27 : ∀ W', (sliceOp 27 (.slice (some ⟨bb, ob, none⟩) sn sc) (some (.int .i64 (k : Int))) (some (.int .i64 ((k : Int) + (sz : Int)))) none).run Try.prog W' = .ok (.value (.slice (cutA (some ⟨bb, ob, none⟩) k sc) sz (sc - k))) W' := fun W' => by
      have h9 := slice_lohi Try.underlying27 (by kernel_rfl) W' (some ⟨bb, ob, none⟩) sn sc k (k + sz) (by omega) (by omega)
      rw [Int.natCast_add, Nat.add_sub_cancel_left] at h9
      exact h9
    have hcutB : Bs X (cutA (some ⟨bb, ob, none⟩) k sc) sz ((stream.drop k).take sz) := HSX.out.cut (l := k) (k := sz) (cap := sc) (by omega) (by omega)
    have hlab : ∀ b o, cutA (some ⟨bb, ob, none⟩) k sc = some ⟨b, o, none⟩ → O b = .no := fun b o e => by
      have eb : bb = b := by
        unfold cutA at e
        split at e
        · exact congrArg Addr.block (Option.some.inj e)
        · have e9 : (⟨bb, ob, none⟩ : Addr).add k = ⟨b, o, none⟩ := Option.some.inj e
          rw [add_addr] at e9
          exact congrArg Addr.block e9
      rw [← eb]; exact HOX.out
    have hsplit : (stream.drop k).take sz ++ stream.drop (k + sz) = stream.drop k := by
      rw [← List.drop_drop]; exact List.take_append_drop _ _
    have hSI : SI Fs ((stream.drop k).take sz ++ stream.drop (k + sz)) s buf cl got := by rw [hsplit]; exact HK.out.si
    have HSI := hid_of hSI
    have hn196 := hSI.n196
    have hfeed := feed_any HK.out.fs HZ57.out (dc := sc - k) hcutB hlab ⟨by omega, by have := hsc.2; simp only [maxLen] at this; omega⟩ (by omega) (hSI.inc (fun r hr => (HFF.out r hr).1)) (SI.fb HFF.out hSI) (by have := HFL.out.2.1; omega)
    have HDL : Hid (((stream.drop k).take sz).length = sz) := hcutB.1
    clear hcutB hlab hsplit hSI hn196 hsc
    obtain ⟨da, hda⟩ : ∃ da, da = cutA (some ⟨bb, ob, none⟩) k sc := ⟨_, rfl⟩
    rw [← hda] at hfeed
    simp only [← hda] at hsl27
    clear hda
    go_wp2_with fail
    refine hfeed.mono ?_
    rintro e X2 ⟨oa, on, oc, out, s', O', g', ba', bn', bk', buf', cl', rfl, hFS', hRo, hKq, hFd, hol⟩
    dsimp only
    have hgr := HK.out.row.kq (j := 6) (by omega) rfl hKq
    obtain ⟨a6, c6, X3, hrun6, hr6, hF6⟩ := appBL 27 hgr oc hRo.bs.1 hFS'.ls.kp.size (by have h1 := HK.out.si.short HRUN.out; have h2 := HFL.out.2.2.2; have h3 := HDL.out; omega)
    have HJ' : Hid (∃ s O g ba bn bk buf cl got, K8 Oz V b0 bc (k + sz) stream Fs a6 (gn + on) c6 s O g ba bn bk buf cl got X3) := ⟨_, _, _, _, _, _, _, _, _, hFS'.got HZ57.out hF6, hr6, SI.step (fun r hr => (HFF.out r hr).1) hFd HSI.out⟩
    clear hFS' hRo hKq hFd hol hgr hr6 hF6 hfeed
    go_wp2_with (at_builtin; refine wpList_append_run rfl _ _ 27 rfl _ _ _ _ rfl rfl hrun6 ?_)
    refine ⟨rfl, rfl, ⟨rfl, rfl, rfl, rfl, k + sz, a6, gn + on, c6, by omega, rfl, ?_, HJ'⟩, ?_⟩
    · show Value.int .i64 _ = _
      go_num
    · show sn - (intOf (Value.int .i64 _)).toNat < sn - (intOf (F2 14)).toNat
      rw [H14.out]
      simp [intOf]; omega
  have hin' : (i : Int) < (N : Int) := by omega
  have i0 : (0 : Int) ≤ (i : Int) := by omega
  have i2 : ((i : Int)).toNat = i := by omega
  obtain ⟨x, raw, br, CR, rfl, hbr, hobr, hcl, hnr, hrl, hdx⟩ := HBEG.out.at hin
  obtain ⟨hbrV, hobV⟩ := HA.out.ls.blk hbr hobr
  obtain ⟨xa, xn, xc⟩ := x
  dsimp only at hnr
  have hxl : raw.length = xn := by
    rcases hdx with ⟨h1, rfl⟩ | ⟨h1, -⟩
    · exact h1.symm
    · exact h1.1
  have HXL := hid_of hxl
  have HDX := hid_of hdx
  have HRL := hid_of hrl
  have hxb : xn ≤ 65536 := by omega
  have HSKIP : Hid (∀ n, ∃ s O g stream want Fs, J8 Ob W1 bs (i + 1) sa sn sc wa wn wc op s O g stream want Fs (V.drewN n)) := fun n => by
    have h := HA.out
    exact ⟨s, O, g0, stream, want, Fs, h.ls.drewN n, h.srow, h.wrow, h.run, h.flat, h.fr, by have := h.len; omega, by have := h.sl; omega, by have := h.wl; omega⟩
  clear hbr hobr hdx hrl hxl
  by_cases h4 : xn < 4
  · have n1 : (xn : Int) < 4 := by omega
    have n1b : decide ((xn : Int) < 4) = true := decide_eq_true n1
    go_upto_region 11 with fail
    go_quiet (fail)
    go_wp2_with fail
    refine ⟨rfl, rfl, ⟨rfl, rfl, rfl, i + 1, sa, sn, sc, wa, wn, wc, op, by omega, rfl, rfl, rfl, ?_, HSKIP.out _⟩, ?_⟩
    · show Value.int .i64 _ = _
      go_num
    · show N - (intOf (Value.int .i64 _)).toNat < N - (intOf (F 9)).toNat
      rw [H9.out]
      simp [intOf]; omega
  have n1 : ¬ (xn : Int) < 4 := by omega
  have n1b : decide ((xn : Int) < 4) = false := decide_eq_false n1
  have hbx : Bs (core Ob W1) xa xn raw ∧ xn ≤ xc ∧ xc ≤ 9223372036854775807 := by
    rcases HDX.out with ⟨h1, -⟩ | ⟨h1, h2, h3, -⟩
    · exact absurd h1 (by show ¬ xn = 0; omega)
    · exact ⟨h1, h2, h3⟩
  have HBX := hid_of hbx
  obtain ⟨bx, ox, CX, rfl, hbxw, hcx, hby⟩ := hbx.1.byt (by omega)
  obtain ⟨hbx0, hox0⟩ := core_blk hbxw
  obtain ⟨hbxV, hoxV⟩ := HA.out.ls.blk hbx0 hox0
  have v2 := hby 2 (by omega)
  have v3 := hby 3 (by omega)
  have v0 := hby 0 (by omega)
  rw [Nat.add_zero] at v0
  have b0' := byt_lt raw 0
  have b2 := byt_lt raw 2
  have b3 := byt_lt raw 3
  obtain ⟨y0, hy0⟩ : ∃ y, y = byt raw 0 := ⟨_, rfl⟩
  obtain ⟨y2, hy2⟩ : ∃ y, y = byt raw 2 := ⟨_, rfl⟩
  obtain ⟨y3, hy3⟩ : ∃ y, y = byt raw 3 := ⟨_, rfl⟩
  rw [← hy0] at v0 b0'
  rw [← hy2] at v2 b2
  rw [← hy3] at v3 b3
  have HFL : Hid (fld raw = y2 * 256 + y3) := by show _ = _; unfold fld; rw [← hy2, ← hy3]
  have HY0 := hid_of hy0
  have q3 : (2 : Int) < (xn : Int) := by omega
  have q4 : (3 : Int) < (xn : Int) := by omega
  have q00 : (0 : Int) < (xn : Int) := by omega
  have w2 : IntKind.i64.wrap (y2 : Int) = (y2 : Int) := by rw [IntKind.wrap_i64]; omega
  have w3 : IntKind.i64.wrap (y3 : Int) = (y3 : Int) := by rw [IntKind.wrap_i64]; omega
  have q5 : ox + 2 < CX.length := by omega
  have q6 : ox + 3 < CX.length := by omega
  have q7 : ox < CX.length := by omega
  clear hy0 hy2 hy3 hby hbx hbxw hbx0 hox0
  by_cases hfl : (y2 : Int) * 256 + (y3 : Int) = (xn : Int) - 4
  rotate_left 1
  · have nb : (((y2 : Int) * 256 + (y3 : Int)) != ((xn : Int) - 4)) = true := bne_iff_ne.2 hfl
    go_upto_region 11 with fail
    go_quiet (fail)
    go_wp2_with fail
    refine ⟨rfl, rfl, ⟨rfl, rfl, rfl, i + 1, sa, sn, sc, wa, wn, wc, op, by omega, rfl, rfl, rfl, ?_, HSKIP.out _⟩, ?_⟩
    · show Value.int .i64 _ = _
      go_num
    · show N - (intOf (Value.int .i64 _)).toNat < N - (intOf (F 9)).toNat
      rw [H9.out]
      simp [intOf]; omega
  have nb : (((y2 : Int) * 256 + (y3 : Int)) != ((xn : Int) - 4)) = false := by rw [hfl]; simp
  have HFR : Hid (raw.length = 4 + fld raw ∧ raw.length ≤ 65536) := ⟨by rw [HXL.out, HFL.out]; omega, HRL.out⟩
  clear HSKIP
  go_upto_region 11 with fail
  go_quiet (fail)
  have hJ := HA.out
  have hBsV : Bs (V.drewN nq) (some ⟨bx, ox, none⟩) xn raw := HBX.out.1.sub (hJ.ls.sub.trans (Sub.core _ _))
  obtain ⟨a2, c2, V2, hrun2, hr2, hF2⟩ := appBL (W := V.drewN nq) 27 hJ.srow xc hBsV hJ.ls.kp.size (by have := hJ.sl; have := HRL.out; omega)
  have hL2 := (hJ.ls.drewN nq).fr5 H57.out (fun l e => ⟨4, e⟩) hF2 (lab_5 _ _ _)
  have hw2 := hJ.wrow.fr (W := V.drewN nq) hF2 (fun e => by have := (Lab.a.inj e).2; omega)
  have hbx2 : blk V2 bx = some CX := hF2.blk (W := V.drewN nq) hbxV (by rw [hoxV]; exact fun e => by cases e)
  obtain ⟨O2, hO2⟩ : ∃ O2, O2 = lab O (V.drewN nq).heap.size (.a 5 4) := ⟨_, rfl⟩
  rw [← hO2] at hr2 hL2 hw2
  have HL2 := hid_of hL2
  have HR2 := hid_of hr2
  have HW2 := hid_of hw2
  have HFL2 : Hid (stream ++ raw = (Fs ++ [raw]).flatten ∧ (∀ r ∈ Fs ++ [raw], r.length = 4 + fld r ∧ r.length ≤ 65536) ∧ (Fs ++ [raw]).length ≤ i + 1 ∧ (stream ++ raw).length ≤ 65536 * (i + 1)) := by
    refine ⟨?_, fun r hr => ?_, ?_, ?_⟩
    · rw [List.flatten_append, hJ.flat]; simp
    · rcases List.mem_append.1 hr with h | h
      · exact hJ.fr r h
      · rw [List.mem_singleton.1 h]; exact HFR.out
    · rw [List.length_append]; have := hJ.len; show _ + 1 ≤ _; omega
    · rw [List.length_append]; have := hJ.sl; have := HRL.out; omega
  have HRUN := hid_of hJ.run
  have HN9 : Hid (0 ≤ s.rst 196 ∧ s.rst 196 ≤ 65536) := by
    show _ ∧ _
    have h1 := hJ.run.n196
    have h2 := hJ.len
    omega
  have hwl := hJ.wl
  have HWL := hid_of hwl
  clear hJ hBsV hr2 hL2 hw2 hF2 hO2 hfl hwl
  cases op with
  | false =>
    have HJ' : Hid (∃ s O g stream want Fs, J8 Ob W1 bs (i + 1) a2 (sn + xn) c2 wa wn wc false s O g stream want Fs V2) := ⟨s, O2, g0, _, want, _, HL2.out, HR2.out, HW2.out, Run.shut HRUN.out, HFL2.out.1, HFL2.out.2.1, HFL2.out.2.2.1, HFL2.out.2.2.2, by have := HWL.out; omega⟩
    go_wp2_with (at_builtin; refine wpList_append_run rfl _ _ 27 rfl _ _ _ _ rfl rfl hrun2 ?_)
    refine ⟨rfl, rfl, ⟨rfl, rfl, rfl, i + 1, a2, sn + xn, c2, wa, wn, wc, false, by omega, rfl, rfl, rfl, ?_, HJ'⟩, ?_⟩
    · show Value.int .i64 _ = _
      go_num
    · show N - (intOf (Value.int .i64 _)).toNat < N - (intOf (F 9)).toNat
      rw [H9.out]
      simp [intOf]; omega
  | true =>
    by_cases hy1 : y0 = 1
    · have HRN : Hid (∀ q s3, svR s raw q s3 → Run (Fs ++ [raw]) s3 true (want ++ frm (encR' q))) := fun q s3 h => Run.ok HRUN.out (by rw [← HY0.out]; exact hy1) h
      have hd2 : Dec2 (core O2 V2) ⟨some ⟨bx, ox, none⟩, xn, xc⟩ raw := HDX.out.sub HL2.out.sub
      have y1 : (y0 : Int) = 1 := by omega
      have y1b : ((y0 : Int) != 1) = false := by rw [y1]; rfl
      have HLX : Hid (raw.length ≤ 65536) := HRL.out
      have hsv := HL2.out.serve (by have := HN9.out; omega) _ _ hd2 HLX.out
      clear hy1 hd2
      go_wp2_with (at_builtin; refine wpList_append_run rfl _ _ 27 rfl _ _ _ _ rfl rfl hrun2 ?_)
      refine hsv.mono ?_
      rintro e V3 ⟨ra, rn, rc, q, s3, O3, g3, rfl, hsr, hRB, hK3, hL3, hBs3, hrc1, hrc2⟩
      dsimp only
      have HRN3 := hid_of (HRN.out q s3 hsr)
      have hL3' : LS Ob W1 bs (1000 + 10 * s3.rst 196) s3 O3 g3 V3 := by
        have e9 := hsr.n196
        have e8 : 1000 + 10 * s.rst 196 + 10 = 1000 + 10 * s3.rst 196 := by rw [e9]; omega
        rw [← e8]; exact hL3
      have hs3 := HR2.out.kp (.inr ⟨5, 4, rfl, by omega⟩) hK3
      have hw3 := HW2.out.kp (.inr ⟨5, 5, rfl, by omega⟩) hK3
      have hlq := encR'_len hRB
      have hln : (encR' q).length = rn := hBs3.1
      have hne : ∀ b o, ra = some ⟨b, o, none⟩ → O3 b ≠ .a 5 5 := fun b o e => by
        obtain ⟨b', o', C, f1, f2, -⟩ := hBs3.2.1 (by rw [← hln]; omega)
        rw [e] at f1
        have eb : b = b' := congrArg Addr.block (Option.some.inj f1)
        rw [eb, (core_blk f2).2]
        exact fun e => by cases e
      have hA5 : (#[Value.int .u8 0, Value.int .u8 ((rn : Int) / 65536), Value.int .u8 ((rn : Int) / 256 % 256), Value.int .u8 ((rn : Int) % 256)] : Array Value).toList = bv [UInt8.ofNat ((encR' q).length / 16777216), UInt8.ofNat ((encR' q).length / 65536), UInt8.ofNat ((encR' q).length / 256), UInt8.ofNat (encR' q).length] := by
        rw [hln]
        have hA : ∀ k, ((k : Nat) : Int) % 256 = w8 (UInt8.ofNat k) := fun k => by
          unfold w8
          rw [UInt8.toNat_ofNat']
          omega
        have z0 : (0 : Int) = w8 (UInt8.ofNat (rn / 16777216)) := by rw [← hA]; omega
        have z1 : (rn : Int) / 65536 = w8 (UInt8.ofNat (rn / 65536)) := by rw [← hA]; omega
        have z2 : (rn : Int) / 256 % 256 = w8 (UInt8.ofNat (rn / 256)) := by rw [← hA]; omega
        show [Value.int .u8 0, Value.int .u8 ((rn : Int) / 65536), Value.int .u8 ((rn : Int) / 256 % 256), Value.int .u8 ((rn : Int) % 256)] = _
        rw [z1, z2, hA]
        conv => lhs; arg 1; rw [z0]
        rfl
      obtain ⟨a4, c4, V4, a5, c5, V5, hrun4, hrun5, hr5, hF5⟩ := app_frm hw3 hL3.kp.size rc (hBs3.sub (Sub.core _ _)) hne (by have := HWL.out; omega) hA5
      have HJ' : Hid (∃ s O g stream want Fs, J8 Ob W1 bs (i + 1) a2 (sn + xn) c2 a5 (wn + 4 + rn) c5 true s O g stream want Fs V5) := by
        refine ⟨s3, _, g3, _, _, _, hL3'.fr5 H57.out (fun l e => ⟨5, e⟩) hF5 (lab_5 _ _ _), hs3.fr hF5 (fun e => by have := (Lab.a.inj e).2; omega), hr5, HRN3.out, HFL2.out.1, HFL2.out.2.1, HFL2.out.2.2.1, HFL2.out.2.2.2, ?_⟩
        have h1 := HWL.out
        rw [List.length_append]
        unfold frm
        rw [List.length_append]
        show want.length + (4 + (encR' q).length) ≤ _
        omega
      have hrnb : rn ≤ 199990 := by omega
      clear hsr hRB hK3 hL3 hBs3 hrc1 hrc2 hL3' hs3 hw3 hlq hln hne hsv hA5 hr5 hF5
      go_upto_region 19 with (at_builtin; refine wpList_append_run rfl _ _ 27 rfl _ _ _ _ rfl rfl hrun4 ?_)
      clear hrun4
      go_wp2_with (at_builtin; refine wpList_append_run rfl _ _ 27 rfl _ _ _ _ rfl rfl hrun5 ?_)
      refine ⟨rfl, rfl, ⟨rfl, rfl, rfl, i + 1, a2, sn + xn, c2, a5, wn + 4 + rn, c5, true, by omega, rfl, rfl, rfl, ?_, HJ'⟩, ?_⟩
      · show Value.int .i64 _ = _
        go_num
      · show N - (intOf (Value.int .i64 _)).toNat < N - (intOf (F 9)).toNat
        rw [H9.out]
        simp [intOf]; omega
    · have HRN : Hid (∀ q s3, svR s (raw.take 4) q s3 → Run (Fs ++ [raw]) s3 false (want ++ frm (encR' q))) := fun q s3 h => Run.bad HRUN.out (by rw [← HY0.out]; exact hy1) h
      have hB2 : Bs (core O2 V2) (some ⟨bx, ox, none⟩) 4 (raw.take 4) := by
        have h1 := (HBX.out.1.sub HL2.out.sub).cut (l := 0) (k := 4) (cap := xc) (by omega) HBX.out.2.1
        rw [cutA_zero, List.drop_zero] at h1
        exact h1
      have hd2 : Dec2 (core O2 V2) ⟨some ⟨bx, ox, none⟩, 4, xc⟩ (raw.take 4) := .inr ⟨hB2, by show 4 ≤ xc; have := HBX.out.2.1; omega, HBX.out.2.2, by show 4 ≤ 65536; omega⟩
      have y1 : ¬ (y0 : Int) = 1 := by omega
      have y1b : ((y0 : Int) != 1) = true := by simp; omega
      have hsl15 : ∀ W', (sliceOp 27 (.slice (some ⟨bx, ox, none⟩) xn xc) none (some (.int .i64 4)) none).run Try.prog W' = .ok (.value (.slice (some ⟨bx, ox, none⟩) 4 xc)) W' := fun W' => slice_hi Try.underlying27 (by kernel_rfl) W' _ xn xc 4 (by have := HBX.out.2.1; omega)
      have HLX : Hid ((raw.take 4).length ≤ 65536) := by show _ ≤ _; rw [List.length_take]; omega
      have hsv := HL2.out.serve (by have := HN9.out; omega) _ _ hd2 HLX.out
      clear hy1 hd2 hB2
      go_wp2_with (at_builtin; refine wpList_append_run rfl _ _ 27 rfl _ _ _ _ rfl rfl hrun2 ?_)
      refine hsv.mono ?_
      rintro e V3 ⟨ra, rn, rc, q, s3, O3, g3, rfl, hsr, hRB, hK3, hL3, hBs3, hrc1, hrc2⟩
      dsimp only
      have HRN3 := hid_of (HRN.out q s3 hsr)
      have hL3' : LS Ob W1 bs (1000 + 10 * s3.rst 196) s3 O3 g3 V3 := by
        have e9 := hsr.n196
        have e8 : 1000 + 10 * s.rst 196 + 10 = 1000 + 10 * s3.rst 196 := by rw [e9]; omega
        rw [← e8]; exact hL3
      have hs3 := HR2.out.kp (.inr ⟨5, 4, rfl, by omega⟩) hK3
      have hw3 := HW2.out.kp (.inr ⟨5, 5, rfl, by omega⟩) hK3
      have hlq := encR'_len hRB
      have hln : (encR' q).length = rn := hBs3.1
      have hne : ∀ b o, ra = some ⟨b, o, none⟩ → O3 b ≠ .a 5 5 := fun b o e => by
        obtain ⟨b', o', C, f1, f2, -⟩ := hBs3.2.1 (by rw [← hln]; omega)
        rw [e] at f1
        have eb : b = b' := congrArg Addr.block (Option.some.inj f1)
        rw [eb, (core_blk f2).2]
        exact fun e => by cases e
      have hA5 : (#[Value.int .u8 0, Value.int .u8 ((rn : Int) / 65536), Value.int .u8 ((rn : Int) / 256 % 256), Value.int .u8 ((rn : Int) % 256)] : Array Value).toList = bv [UInt8.ofNat ((encR' q).length / 16777216), UInt8.ofNat ((encR' q).length / 65536), UInt8.ofNat ((encR' q).length / 256), UInt8.ofNat (encR' q).length] := by
        rw [hln]
        have hA : ∀ k, ((k : Nat) : Int) % 256 = w8 (UInt8.ofNat k) := fun k => by
          unfold w8
          rw [UInt8.toNat_ofNat']
          omega
        have z0 : (0 : Int) = w8 (UInt8.ofNat (rn / 16777216)) := by rw [← hA]; omega
        have z1 : (rn : Int) / 65536 = w8 (UInt8.ofNat (rn / 65536)) := by rw [← hA]; omega
        have z2 : (rn : Int) / 256 % 256 = w8 (UInt8.ofNat (rn / 256)) := by rw [← hA]; omega
        show [Value.int .u8 0, Value.int .u8 ((rn : Int) / 65536), Value.int .u8 ((rn : Int) / 256 % 256), Value.int .u8 ((rn : Int) % 256)] = _
        rw [z1, z2, hA]
        conv => lhs; arg 1; rw [z0]
        rfl
      obtain ⟨a4, c4, V4, a5, c5, V5, hrun4, hrun5, hr5, hF5⟩ := app_frm hw3 hL3.kp.size rc (hBs3.sub (Sub.core _ _)) hne (by have := HWL.out; omega) hA5
      have HJ' : Hid (∃ s O g stream want Fs, J8 Ob W1 bs (i + 1) a2 (sn + xn) c2 a5 (wn + 4 + rn) c5 false s O g stream want Fs V5) := by
        refine ⟨s3, _, g3, _, _, _, hL3'.fr5 H57.out (fun l e => ⟨5, e⟩) hF5 (lab_5 _ _ _), hs3.fr hF5 (fun e => by have := (Lab.a.inj e).2; omega), hr5, HRN3.out, HFL2.out.1, HFL2.out.2.1, HFL2.out.2.2.1, HFL2.out.2.2.2, ?_⟩
        have h1 := HWL.out
        rw [List.length_append]
        unfold frm
        rw [List.length_append]
        show want.length + (4 + (encR' q).length) ≤ _
        omega
      have hrnb : rn ≤ 199990 := by omega
      clear hsr hRB hK3 hL3 hBs3 hrc1 hrc2 hL3' hs3 hw3 hlq hln hne hsv hA5 hr5 hF5
      go_upto_region 19 with (at_builtin; refine wpList_append_run rfl _ _ 27 rfl _ _ _ _ rfl rfl hrun4 ?_)
      clear hrun4
      go_wp2_with (at_builtin; refine wpList_append_run rfl _ _ 27 rfl _ _ _ _ rfl rfl hrun5 ?_)
      refine ⟨rfl, rfl, ⟨rfl, rfl, rfl, i + 1, a2, sn + xn, c2, a5, wn + 4 + rn, c5, false, by omega, rfl, rfl, rfl, ?_, HJ'⟩, ?_⟩
      · show Value.int .i64 _ = _
        go_num
      · show N - (intOf (Value.int .i64 _)).toNat < N - (intOf (F 9)).toNat
        rw [H9.out]
        simp [intOf]; omega
end Go.Proofs.Qxb6500787a
