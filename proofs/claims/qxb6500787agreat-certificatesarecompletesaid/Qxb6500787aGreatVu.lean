
import Derived.Test.Qxb6500787aGreatVt
import Derived.StillTailTactics
import Derived.Deep.QuietTactic
import Derived.BigQuiet
import Derived.Deep.RegionHeld
import Derived.Deep.CutRange
import Derived.Laws.ResultCell
import Derived.Laws.Rows
import Derived.DeepKeys
import Derived.DataBytes
import Derived.Laws.StructEq
import Derived.Laws.AppendOwn
import Derived.Laws.MakeOwn
import Derived.Lib.AppendStr
set_option linter.unusedSimpArgs false
set_option linter.unusedVariables false
namespace Go.Proofs.Qxb6500787aGreat
open Go.RowKit Go.Blk
attribute [local go_sem ↓] execOp_load execOp_store execOp_alloc
attribute [local go_sem] Tryz.ld26 Tryz.st26 Tryz.ld27 Tryz.st27 Tryz.ld28 Tryz.st28 Tryz.ld3 Tryz.st3 Tryz.ld29 Tryz.st29 Tryz.ld44 Tryz.st44 Tryz.ld4 Tryz.st4 Tryz.ld50 Tryz.st50 Tryz.ld32 Tryz.st32 Tryz.ld49 Tryz.st49 Tryz.ld68 Tryz.st68 Tryz.ld9 Tryz.st9 Tryz.ld40 Tryz.st40 Tryz.ld138 Tryz.st138 Tryz.ld139 Tryz.st139 Tryz.ld146 Tryz.st146 Tryz.ld183 Tryz.st183 Tryz.ld184 Tryz.st184 Tryz.ld192 Tryz.st192 Tryz.ld195 Tryz.st195 Tryz.ld217 Tryz.st217 Tryz.ld159 Tryz.st159 Tryz.ld142 Tryz.st142 Tryz.ld2 Tryz.st2 Tryz.ld5 Tryz.st5 Tryz.ld12 Tryz.st12 Tryz.ld21 Tryz.st21 Tryz.ld22 Tryz.st22 Tryz.ld24 Tryz.st24 Tryz.ld58 Tryz.st58 Tryz.ld97 Tryz.st97 Tryz.ld101 Tryz.st101 Tryz.ld116 Tryz.st116 Tryz.ld121 Tryz.st121 Tryz.ld135 Tryz.st135 Tryz.ld136 Tryz.st136 Tryz.ld143 Tryz.st143 Tryz.ld148 Tryz.st148 Tryz.ld154 Tryz.st154 Tryz.ld173 Tryz.st173 Tryz.ld187 Tryz.st187 Tryz.ld222 Tryz.st222 Tryz.ld241 Tryz.st241 Tryz.ld248 Tryz.st248 Tryz.ld268 Tryz.st268 Tryz.ld272 Tryz.st272 Tryz.ld153 Tryz.st153 Tryz.ld255 Tryz.st255 Tryz.ld256 Tryz.st256 Tryz.ld129 Tryz.st129 Tryz.ld152 Tryz.st152 Tryz.ld31 Tryz.st31 Tryz.ld46 Tryz.st46 Tryz.ld52 Tryz.st52 Tryz.ld54 Tryz.st54 Tryz.ld60 Tryz.st60 Tryz.ld70 Tryz.st70 Tryz.ld74 Tryz.st74 Tryz.ld93 Tryz.st93 Tryz.ld141 Tryz.st141 Tryz.ld151 Tryz.st151 Tryz.ld170 Tryz.st170 Tryz.ld186 Tryz.st186 Tryz.ld189 Tryz.st189 Tryz.ld194 Tryz.st194 Tryz.ld197 Tryz.st197 Tryz.ld219 Tryz.st219 Tryz.ld224 Tryz.st224 Tryz.ld230 Tryz.st230 Tryz.ld235 Tryz.st235 Tryz.ld243 Tryz.st243 Tryz.ld247 Tryz.st247 Tryz.ld252 Tryz.st252 Tryz.ld258 Tryz.st258 Tryz.al153 Tryz.al255 Tryz.al256 Tryz.al129 Tryz.al152 Tryz.al31 Tryz.al46 Tryz.al52 Tryz.al54 Tryz.al60 Tryz.al70 Tryz.al74 Tryz.al93 Tryz.al141 Tryz.al151 Tryz.al170 Tryz.al186 Tryz.al189 Tryz.al194 Tryz.al197 Tryz.al219 Tryz.al224 Tryz.al230 Tryz.al235 Tryz.al243 Tryz.al247 Tryz.al252 Tryz.al258
attribute [local go_sem] Request.length_enc Request.ok_enc Request.all_get Request.all_set Request.kind_get Request.kind_set Request.blob_get Request.blob_set Request.items_get Request.items_set Request.pred_get Request.pred_set Request.slots_get Request.slots_set Trace.length_enc Trace.ok_enc Trace.all_get Trace.all_set Trace.op_get Trace.op_set Trace.calls_get Trace.calls_set Item.length_enc Item.ok_enc Item.all_get Item.all_set Item.del_get Item.del_set Item.pred_get Item.pred_set Item.args_get Item.args_set Reply.length_enc Reply.ok_enc Reply.all_get Reply.all_set Reply.code_get Reply.code_set Reply.kind_get Reply.kind_set Reply.index_get Reply.index_set Reply.yes_get Reply.yes_set Reply.preds_get Reply.preds_set Reply.rules_get Reply.rules_set Reply.arity_get Reply.arity_set Reply.rows_get Reply.rows_set Reply.fact_get Reply.fact_set Reply.fact_del_get Reply.fact_del_set Reply.fact_pred_get Reply.fact_pred_set Reply.fact_args_get Reply.fact_args_set GEntry.length_enc GEntry.ok_enc GEntry.all_get GEntry.all_set GEntry.seq_get GEntry.seq_set GEntry.kind_get GEntry.kind_set GEntry.code_get GEntry.code_set GOp.length_enc GOp.ok_enc GOp.all_get GOp.all_set GOp.kind_get GOp.kind_set GOp.raw_get GOp.raw_set Reader.length_enc Reader.ok_enc Reader.all_get Reader.all_set Reader.buf_get Reader.buf_set Reader.at__get Reader.at__set Slot.length_enc Slot.ok_enc Slot.all_get Slot.all_set Slot.bound_get Slot.bound_set Slot.name_get Slot.name_set Session.length_enc Session.ok_enc Session.all_get Session.all_set Session.svc_get Session.svc_set Session.buf_get Session.buf_set Session.closed_get Session.closed_set GProgram.length_enc GProgram.ok_enc GProgram.all_get GProgram.all_set GProgram.pool_get GProgram.pool_set GProgram.preds_get GProgram.preds_set GProgram.rules_get GProgram.rules_set GProgram.strata_get GProgram.strata_set PredInfo.length_enc PredInfo.ok_enc PredInfo.all_get PredInfo.all_set PredInfo.arity_get PredInfo.arity_set PredInfo.base_get PredInfo.base_set PredInfo.stratum_get PredInfo.stratum_set Change.length_enc Change.ok_enc Change.all_get Change.all_set Change.del_get Change.del_set Change.pred_get Change.pred_set Change.t_get Change.t_set Store.length_enc Store.ok_enc Store.all_get Store.all_set Store.names_get Store.names_set Store.arity_get Store.arity_set Store.rows_get Store.rows_set Src.length_enc Src.ok_enc Src.all_get Src.all_set Src.b_get Src.b_set Src.at__get Src.at__set Atom.length_enc Atom.ok_enc Atom.all_get Atom.all_set Atom.pred_get Atom.pred_set Atom.args_get Atom.args_set GRule.length_enc GRule.ok_enc GRule.all_get GRule.all_set GRule.head_get GRule.head_set GRule.body_get GRule.body_set GRule.head_pred_get GRule.head_pred_set GRule.head_args_get GRule.head_args_set Cert.length_enc Cert.ok_enc Cert.all_get Cert.all_set Cert.names_get Cert.names_set Cert.nodes_get Cert.nodes_set Fact.length_enc Fact.ok_enc Fact.all_get Fact.all_set Fact.pred_get Fact.pred_set Fact.t_get Fact.t_set Literal.length_enc Literal.ok_enc Literal.all_get Literal.all_set Literal.neg_get Literal.neg_set Literal.atom_get Literal.atom_set Literal.atom_pred_get Literal.atom_pred_set Literal.atom_args_get Literal.atom_args_set Engine.length_enc Engine.ok_enc Engine.all_get Engine.all_set Engine.prog_get Engine.prog_set Engine.st_get Engine.st_set SrcCertm.length_enc SrcCertm.ok_enc SrcCertm.all_get SrcCertm.all_set SrcCertm.b_get SrcCertm.b_set SrcCertm.at__get SrcCertm.at__set GNode.length_enc GNode.ok_enc GNode.all_get GNode.all_set GNode.rule_get GNode.rule_set GNode.pred_get GNode.pred_set GNode.vals_get GNode.vals_set GNode.refs_get GNode.refs_set Term.length_enc Term.ok_enc Term.all_get Term.all_set Term.var_get Term.var_set Term.n_get Term.n_set Env.length_enc Env.ok_enc Env.all_get Env.all_set Env.val_get Env.val_set Env.set_get Env.set_set
attribute [local go_sem] size_put size_ext blk_put free_put blk_alloc free_alloc blk_drew free_drew blk_ext free_ext lookOr_some putOr_some segAt_some cellAt_some storeIn_some put_put put_alloc_new length_arr ok_arr_u8 ok_arr_u32 ok_arr_u64 ok_arr_i64 ok_arr_sl cellsV_agg cellsV_int cellsV_bool cellsV_string cellsV_pointer cellsV_slice cellsV_sl ok_int ok_bool ok_string ok_pointer ok_slice ok_sl toList_arr seg_arr set_arr nth_splice nth_splice0 seg_splice seg_splice0 splice_splice splice_splice0 length_splice_if
attribute [local go_sem ↓] execOp_box
attribute [local go_sem] box_run nth_arr_u8 put_arr_u8 blk_drewN free_drewN put_drewN blk_raw free_raw
/-- A number as a byte. -/
def bI (v : Int) : UInt8 := UInt8.ofNat v.toNat
def encRow (r : List (List UInt8)) : List UInt8 := r.flatMap encN
/-- The body of a reply. -/
def encBd (q : PRep) : List UInt8 :=
  if q.code ≠ 0 then (if q.kind = 4 ∧ 0 ≤ q.index then [bI q.index] else []) else
  if q.kind = 1 then [bI q.preds, bI q.rules] else
  if q.kind = 5 then [if q.yes then 1 else 0] else
  if q.kind = 6 then [bI q.arity, UInt8.ofNat (q.rows.length / 256), UInt8.ofNat (q.rows.length % 256)] ++ q.rows.flatMap encRow else
  if q.kind = 7 then [bI q.fpred, UInt8.ofNat q.fargs.length] ++ q.fargs.flatMap encN else []
/-- A reply, encoded plainly. -/
def encR' (q : PRep) : List UInt8 := [bI q.code, bI q.kind] ++ encBd q
/-- A reply whose numbers fit. -/
structure RepB (q : PRep) : Prop where
  code : 0 ≤ q.code ∧ q.code ≤ 255
  kind : 0 ≤ q.kind ∧ q.kind ≤ 255
  index : -1 ≤ q.index ∧ q.index ≤ 255
  preds : 0 ≤ q.preds ∧ q.preds ≤ 255
  rules : 0 ≤ q.rules ∧ q.rules ≤ 255
  arity : 0 ≤ q.arity ∧ q.arity ≤ 255
  rows : q.rows.length ≤ 512 ∧ ∀ r ∈ q.rows, r.length ≤ 4 ∧ ∀ x ∈ r, x.length ≤ 64
  fpred : 0 ≤ q.fpred ∧ q.fpred ≤ 255
  fargs : q.fargs.length ≤ 4 ∧ ∀ x ∈ q.fargs, x.length ≤ 64
theorem encRow_len {r : List (List UInt8)} (h : r.length ≤ 4 ∧ ∀ x ∈ r, x.length ≤ 64) : (encRow r).length ≤ 260 := by
  have := flat_len r h.2
  unfold encRow
  omega
theorem rows_len : ∀ {R : List (List (List UInt8))}, (∀ r ∈ R, r.length ≤ 4 ∧ ∀ x ∈ r, x.length ≤ 64) → (R.flatMap encRow).length ≤ 260 * R.length
  | [], _ => by simp
  | r :: R, h => by
    have h1 := rows_len (R := R) (fun x hx => h x (List.mem_cons_of_mem _ hx))
    have h2 := encRow_len (h r List.mem_cons_self)
    rw [List.flatMap_cons, List.length_append, List.length_cons]; omega
theorem bslice27c (w : World) (x y z : Int) : (bsliceOp 31 3 #[(0, .int .u8 x), (1, .int .u8 y), (2, .int .u8 z)]).run Tryz.prog w = .ok (.value (.slice (some ⟨w.heap.size, 0, none⟩) 3 3)) (w.alloc (.cells #[.int .u8 x, .int .u8 y, .int .u8 z] 5)) := by kernel_rfl
def EnPost (W : World) (zs : List UInt8) (e : Ending) (V : World) : Prop := ∃ a n c, e = .returned (.slice a n c) ∧ Ob W V a n c zs
theorem row_at' {W : World} {s : Sl} {R : List (List (List UInt8))} (h : RowsC W s R) {i : Nat} {r : List (List UInt8)} (hr : R[i]? = some r) : ∃ (b : Nat) (C : List Value) (d : Sl), s.a = some ⟨b, 0, none⟩ ∧ blk W b = some C ∧ i + 1 ≤ C.length ∧ nth C i = some (.slice d.a r.length d.cap) ∧ Rw encS 1 W d.a r.length r := by
  obtain ⟨Ds, h1, h2, h3⟩ := h
  obtain ⟨d, hd⟩ : ∃ d, Ds[i]? = some d := ⟨_, List.getElem?_eq_getElem (by rw [h2]; exact (List.getElem?_eq_some_iff.1 hr).1)⟩
  have hw := h3 i d r hd hr
  obtain ⟨b, C, e1, e2, e3, e4, e5⟩ := rw_cell h1 hd (show encD1 d = [Sl.val d] from rfl)
  have hl : d.len = r.length := hw.1.symm
  refine ⟨b, C, d, e1, e2, e3, ?_, ?_⟩
  · rw [e5, ← hl]; rfl
  · rw [← hl]; exact hw
def er1I (W1 : World) (b1 nr : Nat) (pre : List UInt8) (R : List (List (List UInt8))) (f : Nat → Value) (V : World) : Prop := f 1 = .pointer (some ⟨b1, 0, none⟩) ∧ ∃ (i : Nat) (a : Option Addr) (n c : Nat), i ≤ nr ∧ f 3 = .slice a n c ∧ f 4 = .int .i64 (i : Nat) ∧ Hid (Ob W1 V a n c (pre ++ (R.take i).flatMap encRow))
def er2I (W1 : World) (b1 nr i nc : Nat) (pre : List UInt8) (r : List (List UInt8)) (f : Nat → Value) (V : World) : Prop := f 1 = .pointer (some ⟨b1, 0, none⟩) ∧ f 4 = .int .i64 (i : Nat) ∧ ∃ (j : Nat) (a : Option Addr) (n c : Nat), j ≤ nc ∧ f 3 = .slice a n c ∧ f 5 = .int .i64 (j : Nat) ∧ Hid (Ob W1 V a n c (pre ++ (r.take j).flatMap encN))
def er3I (W1 : World) (b1 nc : Nat) (pre : List UInt8) (r : List (List UInt8)) (f : Nat → Value) (V : World) : Prop := f 1 = .pointer (some ⟨b1, 0, none⟩) ∧ ∃ (j : Nat) (a : Option Addr) (n c : Nat), j ≤ nc ∧ f 3 = .slice a n c ∧ f 6 = .int .i64 (j : Nat) ∧ Hid (Ob W1 V a n c (pre ++ (r.take j).flatMap encN))
attribute [local go_sem ↓] execOp_bslice
attribute [local go_sem] bslice27a bslice27b bslice27c
set_option maxRecDepth 100000 in
theorem frame130e (f : Nat → Value) : frameN 130 f = #[f 0, f 1, f 2, f 3, f 4, f 5, f 6, f 7, f 8, f 9, f 10, f 11, f 12, f 13, f 14, f 15, f 16, f 17, f 18, f 19, f 20, f 21, f 22, f 23, f 24, f 25, f 26, f 27, f 28, f 29, f 30, f 31, f 32, f 33, f 34, f 35, f 36, f 37, f 38, f 39, f 40, f 41, f 42, f 43, f 44, f 45, f 46, f 47, f 48, f 49, f 50, f 51, f 52, f 53, f 54, f 55, f 56, f 57, f 58, f 59, f 60, f 61, f 62, f 63, f 64, f 65, f 66, f 67, f 68, f 69, f 70, f 71, f 72, f 73, f 74, f 75, f 76, f 77, f 78, f 79, f 80, f 81, f 82, f 83, f 84, f 85, f 86, f 87, f 88, f 89, f 90, f 91, f 92, f 93, f 94, f 95, f 96, f 97, f 98, f 99, f 100, f 101, f 102, f 103, f 104, f 105, f 106, f 107, f 108, f 109, f 110, f 111, f 112, f 113, f 114, f 115, f 116, f 117, f 118, f 119, f 120, f 121, f 122, f 123, f 124, f 125, f 126, f 127, f 128, f 129] := by kernel_rfl
set_option maxRecDepth 40000 in
set_option maxHeartbeats 1000000 in
theorem encodeReply_any (W : World) (rep : Reply) (q : PRep) (hC : RepC W rep q) (hB : RepB q) : Calls Tryz.prog 54 #[.agg (Reply.enc rep).toArray] W (EnPost W (encR' q)) := by
  obtain ⟨Q, hQ⟩ : ∃ Q, Q = EnPost W (encR' q) := ⟨_, rfl⟩
  rw [← hQ]
  have HQ := hid_of hQ
  have HC := hid_of hC
  have HB := hid_of hB
  have n0 : nth (Reply.enc rep) 0 = some (.int .i64 rep.code) := rfl
  have n1 : nth (Reply.enc rep) 1 = some (.int .i64 rep.kind) := rfl
  have n2 : nth (Reply.enc rep) 2 = some (.int .i64 rep.index) := rfl
  have n3 : nth (Reply.enc rep) 3 = some (.bool rep.yes) := rfl
  have n4 : nth (Reply.enc rep) 4 = some (.int .i64 rep.preds) := rfl
  have n5 : nth (Reply.enc rep) 5 = some (.int .i64 rep.rules) := rfl
  have n6 : nth (Reply.enc rep) 6 = some (.int .i64 rep.arity) := rfl
  have n7 : nth (Reply.enc rep) 7 = some (.slice rep.rows.a rep.rows.len rep.rows.cap) := rfl
  have n9 : nth (Reply.enc rep) 9 = some (.int .i64 rep.fact.pred) := rfl
  have n10 : nth (Reply.enc rep) 10 = some (.slice rep.fact.args.a rep.fact.args.len rep.fact.args.cap) := rfl
  have hl := Reply.length_enc rep
  rw [hC.code] at n0
  rw [hC.kind] at n1
  rw [hC.index] at n2
  rw [hC.yes] at n3
  rw [hC.preds] at n4
  rw [hC.rules] at n5
  rw [hC.arity] at n6
  rw [hC.fpred] at n9
  obtain ⟨cd, hcd⟩ : ∃ cd : Nat, q.code = (cd : Int) := ⟨q.code.toNat, by have := hB.code; omega⟩
  obtain ⟨kd, hkd⟩ : ∃ kd : Nat, q.kind = (kd : Int) := ⟨q.kind.toNat, by have := hB.kind; omega⟩
  obtain ⟨ix, hix⟩ : ∃ ix, q.index = ix := ⟨_, rfl⟩
  obtain ⟨ys, hys⟩ : ∃ ys, q.yes = ys := ⟨_, rfl⟩
  obtain ⟨np, hnp⟩ : ∃ np : Nat, q.preds = (np : Int) := ⟨q.preds.toNat, by have := hB.preds; omega⟩
  obtain ⟨nr, hnr⟩ : ∃ nr : Nat, q.rules = (nr : Int) := ⟨q.rules.toNat, by have := hB.rules; omega⟩
  obtain ⟨ar, har⟩ : ∃ ar : Nat, q.arity = (ar : Int) := ⟨q.arity.toNat, by have := hB.arity; omega⟩
  obtain ⟨fp, hfp⟩ : ∃ fp : Nat, q.fpred = (fp : Int) := ⟨q.fpred.toNat, by have := hB.fpred; omega⟩
  rw [hcd] at n0; rw [hkd] at n1; rw [hix] at n2; rw [hys] at n3; rw [hnp] at n4; rw [hnr] at n5; rw [har] at n6; rw [hfp] at n9
  have bcd : cd ≤ 255 := by have := hB.code; omega
  have bkd : kd ≤ 255 := by have := hB.kind; omega
  have bix : -1 ≤ ix ∧ ix ≤ 255 := by have := hB.index; omega
  have bnp : np ≤ 255 := by have := hB.preds; omega
  have bnr : nr ≤ 255 := by have := hB.rules; omega
  have bar : ar ≤ 255 := by have := hB.arity; omega
  have bfp : fp ≤ 255 := by have := hB.fpred; omega
  obtain ⟨ra, hra⟩ : ∃ ra, rep.rows.a = ra := ⟨_, rfl⟩
  obtain ⟨rc, hrc⟩ : ∃ rc, rep.rows.cap = rc := ⟨_, rfl⟩
  obtain ⟨rn, hrn⟩ : ∃ rn, rep.rows.len = rn := ⟨_, rfl⟩
  rw [hra, hrc, hrn] at n7
  obtain ⟨fa, hfa⟩ : ∃ fa, rep.fact.args.a = fa := ⟨_, rfl⟩
  obtain ⟨fc, hfc⟩ : ∃ fc, rep.fact.args.cap = fc := ⟨_, rfl⟩
  obtain ⟨fn, hfn⟩ : ∃ fn, rep.fact.args.len = fn := ⟨_, rfl⟩
  rw [hfa, hfc, hfn] at n10
  obtain ⟨RE, hRE⟩ : ∃ RE, RE = Reply.enc rep := ⟨_, rfl⟩
  rw [← hRE] at n0 n1 n2 n3 n4 n5 n6 n7 n9 n10 hl ⊢
  have HRN : Hid (rn = q.rows.length) := by
    obtain ⟨Ds, h1, h2, -⟩ := hC.rows
    show _ = _
    rw [← h2, ← hrn]; exact h1.1.symm
  have HFN : Hid (fn = q.fargs.length) := by show _ = _; rw [← hfn]; exact hC.fargs.1.symm
  have brn : rn ≤ 512 := by rw [HRN.out]; exact hB.rows.1
  have bfn : fn ≤ 4 := by rw [HFN.out]; exact hB.fargs.1
  have HRW : Hid (RowsC W ⟨ra, rn, rc⟩ q.rows) := by
    have h9 := hC.rows
    show RowsC _ _ _
    rw [← hra, ← hrn, ← hrc]; exact h9
  have HFA : Hid (Rw encS 1 W fa fn q.fargs) := by
    have h9 := hC.fargs
    show Rw _ _ _ _ _ _
    rw [← hfa, ← hfn]; exact h9
  have HRB := hid_of hB.rows
  have HFB := hid_of hB.fargs
  have HQ2 : Hid (∀ V a n c bd, encBd q = bd → Ob W V a n c ([UInt8.ofNat cd, UInt8.ofNat kd] ++ bd) → Q (.returned (.slice a n c)) V) := by
    intro V a n c bd e ho
    rw [HQ.out]
    refine ⟨a, n, c, rfl, ?_⟩
    unfold encR' bI
    rw [e, hcd, hkd]
    exact ho
  have HEB : Hid (encBd q = if cd ≠ 0 then (if kd = 4 ∧ 0 ≤ ix then [bI ix] else []) else
      if kd = 1 then [UInt8.ofNat np, UInt8.ofNat nr] else
      if kd = 5 then [if ys then 1 else 0] else
      if kd = 6 then [UInt8.ofNat ar, UInt8.ofNat (rn / 256), UInt8.ofNat (rn % 256)] ++ q.rows.flatMap encRow else
      if kd = 7 then [UInt8.ofNat fp, UInt8.ofNat fn] ++ q.fargs.flatMap encN else []) := by
    show _ = _
    unfold encBd
    rw [hcd, hkd, hix, hys, hnp, hnr, har, hfp, HRN.out, HFN.out]
    have e0 : ((cd : Int) ≠ 0) = (cd ≠ 0) := by simp
    have e1 : ((kd : Int) = 1) = (kd = 1) := by apply propext; omega
    have e4 : ((kd : Int) = 4) = (kd = 4) := by apply propext; omega
    have e5 : ((kd : Int) = 5) = (kd = 5) := by apply propext; omega
    have e6 : ((kd : Int) = 6) = (kd = 6) := by apply propext; omega
    have e7 : ((kd : Int) = 7) = (kd = 7) := by apply propext; omega
    simp only [e0, e1, e4, e5, e6, e7, bI, Int.toNat_natCast]
  have u0 : IntKind.u8.wrap (cd : Int) = (cd : Int) := by rw [IntKind.wrap_u8]; omega
  have u1 : IntKind.u8.wrap (kd : Int) = (kd : Int) := by rw [IntKind.wrap_u8]; omega
  clear hQ hC hB hcd hkd hix hys hnp hnr har hfp hra hrc hrn hfa hfc hfn hRE
  go_enter Tryz.func54, Tryz.ntmps54
  go_upto_region 1 with fail
  refine wp_world (fun V => W.Extends V ∧ blk V W.heap.size = some RE ∧ V.heap.size = W.heap.size + 1) ⟨extends_alloc (ext_Ext (Ext.refl _)) _, ?_, ?_⟩ ?_
  · rw [blk_alloc, if_pos rfl]
  · rw [World.size_alloc]
  rintro W1 ⟨hx1, hb1, hsz1⟩
  obtain ⟨b1, e1⟩ : ∃ b1, b1 = W.heap.size := ⟨_, rfl⟩
  rw [← e1] at hb1 ⊢
  have HX1 := hid_of hx1
  have HB1 := hid_of hb1
  have ho1 := ob_new (ext_Ext (Ext.refl W1)) [UInt8.ofNat cd, UInt8.ofNat kd] (by simp) #[.int .u8 (cd : Int), .int .u8 (kd : Int)] (by rw [u8_of2 _ _ bcd bkd]) 2 rfl
  have r0 : 0 < RE.length := by omega
  have r1 : 1 < RE.length := by omega
  have r2 : 2 < RE.length := by omega
  have r3 : 3 < RE.length := by omega
  have r4 : 4 < RE.length := by omega
  have r5 : 5 < RE.length := by omega
  have r6 : 6 < RE.length := by omega
  have r7 : 7 < RE.length := by omega
  have r9 : 9 < RE.length := by omega
  have r10 : 10 < RE.length := by omega
  clear hx1 e1 hsz1 hl
  go_upto_region 2 with fail
  refine wp_world (fun V => ∃ a, Ob W1 V (some ⟨a, 0, none⟩) 2 2 [UInt8.ofNat cd, UInt8.ofNat kd] ∧ a = W1.heap.size) ⟨W1.heap.size, ho1, rfl⟩ ?_
  rintro V0 ⟨a0, ho0, ea0⟩
  rw [← ea0]
  obtain ⟨aa, haa⟩ : ∃ aa : Option Addr, aa = some ⟨a0, 0, none⟩ := ⟨_, rfl⟩
  rw [← haa] at ho0 ⊢
  have hb1V : blk V0 b1 = some RE := (ho0.2.1.blk (blk_lt HB1.out)).trans HB1.out
  have HO0 := hid_of ho0
  have HBASE : Hid (∀ V a n c zs, Ob W1 V a n c zs → Ob W V a n c zs) := fun V a n c zs ho => ⟨row_base ho.1 HX1.out.size, HX1.out.trans ho.2.1, ho.2.2⟩
  clear ho1 ho0 ea0 haa hb1
  by_cases hc0 : cd = 0
  rotate_left 1
  · have hc0' : ((cd : Int) != 0) = true := by simp [hc0]
    have hc0i : ¬ (cd : Int) = 0 := by omega
    by_cases hk : kd = 4 ∧ 0 ≤ ix
    · obtain ⟨rfl, hix⟩ := hk
      obtain ⟨iy, rfl⟩ : ∃ iy : Nat, ix = (iy : Int) := ⟨ix.toNat, by omega⟩
      have hEB : encBd q = [UInt8.ofNat iy] := by rw [HEB.out, if_pos hc0, if_pos ⟨rfl, hix⟩]; unfold bI; rw [Int.toNat_natCast]
      have u2 : IntKind.u8.wrap (iy : Int) = (iy : Int) := by rw [IntKind.wrap_u8]; omega
      obtain ⟨a1, c1, V1, hr1, ho1, -⟩ := ob_app HO0.out (by simp) [UInt8.ofNat iy] (by simp) (by simp) #[.int .u8 (iy : Int)] (by rw [u8_of _ (by omega)]) 1 rfl
      have HP := hid_of (HQ2.out V1 a1 _ c1 _ hEB (HBASE.out _ _ _ _ _ ho1))
      clear hEB ho1 HEB
      go_wp2_with (at_builtin; refine wpList_append_run rfl _ _ 31 rfl _ _ _ _ rfl rfl hr1 ?_)
      try go_ret
      exact HP.out
    · have hEB : encBd q = [] := by rw [HEB.out, if_pos hc0, if_neg hk]
      have HP := hid_of (HQ2.out V0 aa 2 2 _ hEB (HBASE.out _ _ _ _ _ HO0.out))
      clear hEB HEB
      by_cases hk4 : kd = 4
      · subst hk4
        have hix : ¬ 0 ≤ ix := fun h => hk ⟨rfl, h⟩
        have hix2 : ¬ ix ≥ 0 := hix
        go_wp2_with fail
        try go_ret
        exact HP.out
      · have hk4' : ¬ (kd : Int) = 4 := by omega
        have hk4b : ((kd : Int) == 4) = false := by simp; omega
        go_wp2_with fail
        try go_ret
        exact HP.out
  subst hc0
  have HEB2 := hid_of (HEB.out.trans (if_neg (fun h => h rfl)))
  clear HEB
  by_cases hk1 : kd = 1
  · subst hk1
    have hEB := HEB2.out.trans (if_pos rfl)
    have u2 : IntKind.u8.wrap (np : Int) = (np : Int) := by rw [IntKind.wrap_u8]; omega
    have u3 : IntKind.u8.wrap (nr : Int) = (nr : Int) := by rw [IntKind.wrap_u8]; omega
    obtain ⟨a1, c1, V1, hr1, ho1, -⟩ := ob_app HO0.out (by simp) [UInt8.ofNat np, UInt8.ofNat nr] (by simp) (by simp) #[.int .u8 (np : Int), .int .u8 (nr : Int)] (by rw [u8_of2 _ _ bnp bnr]) 2 rfl
    have HP := hid_of (HQ2.out V1 a1 _ c1 _ hEB (HBASE.out _ _ _ _ _ ho1))
    clear hEB ho1 HEB2
    go_wp2_with (at_builtin; refine wpList_append_run rfl _ _ 31 rfl _ _ _ _ rfl rfl hr1 ?_)
    try go_ret
    exact HP.out
  have hk1i : ¬ (kd : Int) = 1 := by omega
  have hk1b : ((kd : Int) == 1) = false := by simp; omega
  have HEB3 := hid_of (HEB2.out.trans (if_neg hk1))
  clear HEB2
  by_cases hk5 : kd = 5
  · subst hk5
    have hEB := HEB3.out.trans (if_pos rfl)
    cases ys with
    | true =>
      obtain ⟨a1, c1, V1, hr1, ho1, -⟩ := ob_app HO0.out (by simp) [1] (by simp) (by simp) #[.int .u8 1] rfl 1 rfl
      have HP := hid_of (HQ2.out V1 a1 _ c1 _ hEB (HBASE.out _ _ _ _ _ ho1))
      clear hEB ho1 HEB3
      go_wp2_with (at_builtin; refine wpList_append_run rfl _ _ 31 rfl _ _ _ _ rfl rfl hr1 ?_)
      try go_ret
      exact HP.out
    | false =>
      obtain ⟨a1, c1, V1, hr1, ho1, -⟩ := ob_app HO0.out (by simp) [0] (by simp) (by simp) #[.int .u8 0] rfl 1 rfl
      have HP := hid_of (HQ2.out V1 a1 _ c1 _ hEB (HBASE.out _ _ _ _ _ ho1))
      clear hEB ho1 HEB3
      go_wp2_with (at_builtin; refine wpList_append_run rfl _ _ 31 rfl _ _ _ _ rfl rfl hr1 ?_)
      try go_ret
      exact HP.out
  have hk5i : ¬ (kd : Int) = 5 := by omega
  have hk5b : ((kd : Int) == 5) = false := by simp; omega
  have HEB4 := hid_of (HEB3.out.trans (if_neg hk5))
  clear HEB3
  by_cases hk6 : kd = 6
  · subst hk6
    have hEB := HEB4.out.trans (if_pos rfl)
    have HEBX := hid_of hEB
    have u2 : IntKind.u8.wrap (ar : Int) = (ar : Int) := by rw [IntKind.wrap_u8]; omega
    obtain ⟨rh, hrh⟩ : ∃ rh, rh = rn / 256 := ⟨_, rfl⟩
    obtain ⟨rl, hrl⟩ : ∃ rl, rl = rn % 256 := ⟨_, rfl⟩
    rw [← hrh, ← hrl] at HEBX
    have s8 : (rn : Int) / 256 = (rh : Int) := by omega
    have u3 : IntKind.u8.wrap (rh : Int) = (rh : Int) := by rw [IntKind.wrap_u8]; omega
    have u4 : IntKind.u8.wrap (rn : Int) = (rl : Int) := by rw [IntKind.wrap_u8]; omega
    obtain ⟨a1, c1, V1, hr1, ho1, -⟩ := ob_app HO0.out (by simp) [UInt8.ofNat ar, UInt8.ofNat rh, UInt8.ofNat rl] (by simp) (by simp) #[.int .u8 (ar : Int), .int .u8 (rh : Int), .int .u8 (rl : Int)] (by
      have e1 : bv [UInt8.ofNat ar, UInt8.ofNat rh, UInt8.ofNat rl] = bv [UInt8.ofNat ar] ++ bv [UInt8.ofNat rh, UInt8.ofNat rl] := rfl
      rw [e1, u8_of _ bar, u8_of2 _ _ (by omega) (by omega)]; rfl) 3 rfl
    obtain ⟨pre, hpre⟩ : ∃ pre, pre = [UInt8.ofNat 0, UInt8.ofNat 6] ++ [UInt8.ofNat ar, UInt8.ofNat rh, UInt8.ofNat rl] := ⟨_, rfl⟩
    rw [← hpre] at ho1
    clear hrh hrl
    have HPRE := hid_of hpre
    have hpl : pre.length = 5 := by rw [hpre]; rfl
    have HPL := hid_of hpl
    have HJ0 : Hid (Ob W1 V1 a1 (2 + 3) c1 (pre ++ (q.rows.take 0).flatMap encRow)) := by rw [List.take_zero, List.flatMap_nil, List.append_nil]; exact ho1
    clear hEB ho1 HEB4 hpre hpl
    go_wp2_with (at_builtin; refine wpList_append_run rfl _ _ 31 rfl _ _ _ _ rfl rfl hr1 ?_)
    refine wp_loop_f 130 (er1I W1 b1 rn pre q.rows) (fun f _ => rn - (intOf (f 4)).toNat) rfl ⟨rfl, 0, a1, _, c1, by omega, rfl, rfl, HJ0⟩ ?_
    clear HJ0 hr1 hb1V
    intro F V hrel
    obtain ⟨f1, i, a, n, c, hi, f3, f4, HJ⟩ := hrel
    have H4 := hid_of f4
    rw [frame130e, f1, f3, f4]
    clear f1 f3 f4
    have hb1V : blk V b1 = some RE := (HJ.out.2.1.blk (blk_lt HB1.out)).trans HB1.out
    by_cases hin : i < rn
    rotate_left 1
    · have hin' : ¬ (i : Int) < (rn : Int) := by omega
      have HP : Hid (Q (.returned (.slice a n c)) V) := by
        have h9 := HBASE.out _ _ _ _ _ HJ.out
        rw [List.take_of_length_le (by rw [← HRN.out]; omega), HPRE.out] at h9
        refine HQ2.out V a n c _ HEBX.out ?_
        rw [← List.append_assoc]
        exact h9
      clear HJ
      go_wp2_with fail
      try go_ret
      exact HP.out
    have hin' : (i : Int) < (rn : Int) := by omega
    have i0 : (0 : Int) ≤ (i : Int) := by omega
    have i2 : ((i : Int)).toNat = i := by omega
    obtain ⟨r, hr⟩ : ∃ r, q.rows[i]? = some r := ⟨_, List.getElem?_eq_getElem (by rw [← HRN.out]; exact hin)⟩
    obtain ⟨br, CR, d, w1, w2, w3, w4, w5⟩ := row_at' HRW.out hr
    have w1' : ra = some ⟨br, 0, none⟩ := w1
    subst w1'
    have hrb := HRB.out.2 r (List.mem_of_getElem? hr)
    have HRX := hid_of hr
    obtain ⟨nc, hnc⟩ : ∃ nc, nc = r.length := ⟨_, rfl⟩
    rw [← hnc] at w4 w5
    have HNC := hid_of hnc
    obtain ⟨da, hda⟩ : ∃ da, da = d.a := ⟨_, rfl⟩
    obtain ⟨dcp, hdc⟩ : ∃ dcp, dcp = d.cap := ⟨_, rfl⟩
    rw [← hda, ← hdc] at w4
    rw [← hda] at w5
    have bnc : nc ≤ 4 := by rw [hnc]; exact hrb.1
    have HRR := hid_of hrb
    have HBR : Hid (blk W br = some CR) := w2
    have HWR := hid_of w5
    have HJ2 : Hid (Ob W1 V a n c ((pre ++ (q.rows.take i).flatMap encRow) ++ (r.take 0).flatMap encN)) := by rw [List.take_zero, List.flatMap_nil, List.append_nil]; exact HJ.out
    obtain ⟨pre2, hpre2⟩ : ∃ pre2, pre2 = pre ++ (q.rows.take i).flatMap encRow := ⟨_, rfl⟩
    rw [← hpre2] at HJ2
    have HPL2 : Hid (pre2.length ≤ 5 + 260 * 512) := by
      show _ ≤ _
      rw [hpre2, List.length_append, HPL.out]
      have h1 := rows_len (R := q.rows.take i) (fun x hx => HRB.out.2 x (List.mem_of_mem_take hx))
      have h2 : (q.rows.take i).length ≤ 512 := by rw [List.length_take]; omega
      have h3 : 260 * (q.rows.take i).length ≤ 260 * 512 := Nat.mul_le_mul_left _ h2
      omega
    have HPRE2 := hid_of hpre2
    clear hr w1 w2 w5 hrb hnc hda hdc HJ hpre2
    go_upto_region 19 with fail
    refine wp_loop_f 130 (er2I W1 b1 rn i nc pre2 r) (fun f _ => nc - (intOf (f 5)).toNat) rfl ⟨rfl, rfl, 0, a, n, c, by omega, rfl, rfl, HJ2⟩ ?_
    clear HJ2 hb1V
    intro F2 V2 hrel
    obtain ⟨f1, f4, j, a2, n2, c2, hj, f3, f5, HJ⟩ := hrel
    have H5 := hid_of f5
    rw [frame130e, f1, f3, f4, f5]
    clear f1 f3 f4 f5
    have hb1V : blk V2 b1 = some RE := (HJ.out.2.1.blk (blk_lt HB1.out)).trans HB1.out
    have hbrW : blk W1 br = some CR := (HX1.out.blk (blk_lt HBR.out)).trans HBR.out
    have hbrV : blk V2 br = some CR := (HJ.out.2.1.blk (blk_lt hbrW)).trans hbrW
    by_cases hjn : j < nc
    rotate_left 1
    · have hjn' : ¬ (j : Int) < (nc : Int) := by omega
      have HJ' : Hid (Ob W1 V2 a2 n2 c2 (pre ++ (q.rows.take (i + 1)).flatMap encRow)) := by
        have h9 := HJ.out
        rw [List.take_of_length_le (by rw [← HNC.out]; omega), HPRE2.out] at h9
        show Ob _ _ _ _ _ _
        rw [take_at HRX.out, List.flatMap_append, ← List.append_assoc]
        have e9 : [r].flatMap encRow = r.flatMap encN := by rw [List.flatMap_cons, List.flatMap_nil, List.append_nil]; rfl
        rw [e9]
        exact h9
      clear HJ
      go_wp2_with fail
      refine ⟨rfl, rfl, ⟨rfl, i + 1, a2, n2, c2, by omega, rfl, ?_, HJ'⟩, ?_⟩
      · show Value.int .i64 _ = _
        go_num
      · show rn - (intOf (Value.int .i64 _)).toNat < rn - (intOf (F 4)).toNat
        rw [H4.out]
        simp [intOf]; omega
    have hjn' : (j : Int) < (nc : Int) := by omega
    have j0 : (0 : Int) ≤ (j : Int) := by omega
    have j2 : ((j : Int)).toNat = j := by omega
    obtain ⟨x, hx⟩ : ∃ x, r[j]? = some x := ⟨_, List.getElem?_eq_getElem (by rw [← HNC.out]; exact hjn)⟩
    obtain ⟨bx, CX, x1, x2, x3, x4⟩ := str_at HWR.out hx
    subst x1
    have hbxW : blk W1 bx = some CX := (HX1.out.blk (blk_lt x2)).trans x2
    have hbxV : blk V2 bx = some CX := (HJ.out.2.1.blk (blk_lt hbxW)).trans hbxW
    have hx64 := HRR.out.2 x (List.mem_of_getElem? hx)
    have hpn := putName_ok W1 V2 a2 n2 c2 _ x HJ.out (by
      have h1 := flat_len (r.take j) (fun y hy => HRR.out.2 y (List.mem_of_mem_take hy))
      have h2 : (r.take j).length ≤ 4 := by rw [List.length_take]; omega
      have h3 := HPL2.out
      rw [List.length_append]; omega) (by omega)
    have HJN : Hid (pre2 ++ (r.take (j + 1)).flatMap encN = pre2 ++ (r.take j).flatMap encN ++ encN x) := by
      show _ = _
      rw [take_at hx, List.flatMap_append, List.append_assoc]
      have e9 : [x].flatMap encN = encN x := by rw [List.flatMap_cons, List.flatMap_nil, List.append_nil]
      rw [e9]
    obtain ⟨sx, hsx⟩ : ∃ sx : ByteArray, sx = ⟨x.toArray⟩ := ⟨_, rfl⟩
    rw [← hsx] at x4 hpn
    clear hx x2 hbxW hbrW hx64 hsx HJ
    go_wp2_with fail
    refine hpn.mono ?_
    rintro e V3 ⟨a3, n3, c3, rfl, ho3, -⟩
    have HJ' : Hid (Ob W1 V3 a3 n3 c3 (pre2 ++ (r.take (j + 1)).flatMap encN)) := by rw [HJN.out]; exact ho3
    clear hpn ho3 HJN
    dsimp only
    go_wp2_with fail
    refine ⟨rfl, rfl, ⟨rfl, rfl, j + 1, a3, n3, c3, by omega, rfl, ?_, HJ'⟩, ?_⟩
    · show Value.int .i64 _ = _
      go_num
    · show nc - (intOf (Value.int .i64 _)).toNat < nc - (intOf (F2 5)).toNat
      rw [H5.out]
      simp [intOf]; omega
  have hk6i : ¬ (kd : Int) = 6 := by omega
  have hk6b : ((kd : Int) == 6) = false := by simp; omega
  have HEB5 := hid_of (HEB4.out.trans (if_neg hk6))
  clear HEB4
  by_cases hk7 : kd = 7
  rotate_left 1
  · have hk7i : ¬ (kd : Int) = 7 := by omega
    have hk7b : ((kd : Int) == 7) = false := by simp; omega
    have hEB := HEB5.out.trans (if_neg hk7)
    have HP := hid_of (HQ2.out V0 aa 2 2 _ hEB (HBASE.out _ _ _ _ _ HO0.out))
    clear hEB HEB5
    go_wp2_with fail
    try go_ret
    exact HP.out
  subst hk7
  have hEB := HEB5.out.trans (if_pos rfl)
  have HEBX := hid_of hEB
  have u2 : IntKind.u8.wrap (fp : Int) = (fp : Int) := by rw [IntKind.wrap_u8]; omega
  have u3 : IntKind.u8.wrap (fn : Int) = (fn : Int) := by rw [IntKind.wrap_u8]; omega
  obtain ⟨a1, c1, V1, hr1, ho1, -⟩ := ob_app HO0.out (by simp) [UInt8.ofNat fp, UInt8.ofNat fn] (by simp) (by simp) #[.int .u8 (fp : Int), .int .u8 (fn : Int)] (by rw [u8_of2 _ _ bfp (by omega)]) 2 rfl
  obtain ⟨pre, hpre⟩ : ∃ pre, pre = [UInt8.ofNat 0, UInt8.ofNat 7] ++ [UInt8.ofNat fp, UInt8.ofNat fn] := ⟨_, rfl⟩
  rw [← hpre] at ho1
  have HPRE := hid_of hpre
  have hpl : pre.length = 4 := by rw [hpre]; rfl
  have HPL := hid_of hpl
  have HJ0 : Hid (Ob W1 V1 a1 (2 + 2) c1 (pre ++ (q.fargs.take 0).flatMap encN)) := by rw [List.take_zero, List.flatMap_nil, List.append_nil]; exact ho1
  clear hEB ho1 HEB5 hpre hpl
  go_wp2_with (at_builtin; refine wpList_append_run rfl _ _ 31 rfl _ _ _ _ rfl rfl hr1 ?_)
  refine wp_loop_f 130 (er3I W1 b1 fn pre q.fargs) (fun f _ => fn - (intOf (f 6)).toNat) rfl ⟨rfl, 0, a1, _, c1, by omega, rfl, rfl, HJ0⟩ ?_
  clear HJ0 hr1 hb1V
  intro F V2 hrel
  obtain ⟨f1, j, a2, n2, c2, hj, f3, f6, HJ⟩ := hrel
  have H6 := hid_of f6
  rw [frame130e, f1, f3, f6]
  clear f1 f3 f6
  have hb1V : blk V2 b1 = some RE := (HJ.out.2.1.blk (blk_lt HB1.out)).trans HB1.out
  by_cases hjn : j < fn
  rotate_left 1
  · have hjn' : ¬ (j : Int) < (fn : Int) := by omega
    have HP : Hid (Q (.returned (.slice a2 n2 c2)) V2) := by
      have h9 := HBASE.out _ _ _ _ _ HJ.out
      rw [List.take_of_length_le (by rw [← HFN.out]; omega), HPRE.out] at h9
      refine HQ2.out V2 a2 n2 c2 _ HEBX.out ?_
      rw [← List.append_assoc]
      exact h9
    clear HJ
    go_wp2_with fail
    try go_ret
    exact HP.out
  have hjn' : (j : Int) < (fn : Int) := by omega
  have j0 : (0 : Int) ≤ (j : Int) := by omega
  have j2 : ((j : Int)).toNat = j := by omega
  obtain ⟨x, hx⟩ : ∃ x, q.fargs[j]? = some x := ⟨_, List.getElem?_eq_getElem (by rw [← HFN.out]; exact hjn)⟩
  obtain ⟨bx, CX, x1, x2, x3, x4⟩ := str_at HFA.out hx
  subst x1
  have hbxW : blk W1 bx = some CX := (HX1.out.blk (blk_lt x2)).trans x2
  have hbxV : blk V2 bx = some CX := (HJ.out.2.1.blk (blk_lt hbxW)).trans hbxW
  have hx64 := HFB.out.2 x (List.mem_of_getElem? hx)
  have hpn := putName_ok W1 V2 a2 n2 c2 _ x HJ.out (by
    have h1 := flat_len (q.fargs.take j) (fun y hy => HFB.out.2 y (List.mem_of_mem_take hy))
    have h2 : (q.fargs.take j).length ≤ 4 := by rw [List.length_take]; omega
    have h3 := HPL.out
    rw [List.length_append]; omega) (by omega)
  have HJN : Hid (pre ++ (q.fargs.take (j + 1)).flatMap encN = pre ++ (q.fargs.take j).flatMap encN ++ encN x) := by
    show _ = _
    rw [take_at hx, List.flatMap_append, List.append_assoc]
    have e9 : [x].flatMap encN = encN x := by rw [List.flatMap_cons, List.flatMap_nil, List.append_nil]
    rw [e9]
  obtain ⟨sx, hsx⟩ : ∃ sx : ByteArray, sx = ⟨x.toArray⟩ := ⟨_, rfl⟩
  rw [← hsx] at x4 hpn
  clear hx x2 hbxW hx64 hsx HJ
  go_wp2_with fail
  refine hpn.mono ?_
  rintro e V3 ⟨a3, n3, c3, rfl, ho3, -⟩
  have HJ' : Hid (Ob W1 V3 a3 n3 c3 (pre ++ (q.fargs.take (j + 1)).flatMap encN)) := by rw [HJN.out]; exact ho3
  clear hpn ho3 HJN
  dsimp only
  go_wp2_with fail
  refine ⟨rfl, rfl, ⟨rfl, j + 1, a3, n3, c3, by omega, rfl, ?_, HJ'⟩, ?_⟩
  · show Value.int .i64 _ = _
    go_num
  · show fn - (intOf (Value.int .i64 _)).toNat < fn - (intOf (F 6)).toNat
    rw [H6.out]
    simp [intOf]; omega
end Go.Proofs.Qxb6500787aGreat
