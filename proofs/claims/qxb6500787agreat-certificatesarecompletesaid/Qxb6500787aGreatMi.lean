import Derived.Test.Qxb6500787aGreatMh
import Derived.Test.Qxb6500787aGreatBd

import Derived.StillTailTactics
import Derived.Deep.QuietTactic
import Derived.BigQuiet
import Derived.Deep.RegionHeld
import Derived.Deep.CutRange
import Derived.Laws.ResultCell
import Derived.Laws.Rows
import Derived.DeepKeys
import Derived.DataBytes
import Derived.Laws.StructEq
import Derived.Laws.AppendOwn
import Derived.Laws.MakeOwn
import Derived.Lib.AppendStr
set_option linter.unusedSimpArgs false
set_option linter.unusedVariables false
namespace Go.Proofs.Qxb6500787aGreat
open Go.RowKit Go.Blk
attribute [local go_sem ↓] execOp_load execOp_store execOp_alloc
attribute [local go_sem] Tryz.ld26 Tryz.st26 Tryz.ld27 Tryz.st27 Tryz.ld28 Tryz.st28 Tryz.ld3 Tryz.st3 Tryz.ld29 Tryz.st29 Tryz.ld44 Tryz.st44 Tryz.ld4 Tryz.st4 Tryz.ld50 Tryz.st50 Tryz.ld32 Tryz.st32 Tryz.ld49 Tryz.st49 Tryz.ld68 Tryz.st68 Tryz.ld9 Tryz.st9 Tryz.ld40 Tryz.st40 Tryz.ld138 Tryz.st138 Tryz.ld139 Tryz.st139 Tryz.ld146 Tryz.st146 Tryz.ld183 Tryz.st183 Tryz.ld184 Tryz.st184 Tryz.ld192 Tryz.st192 Tryz.ld195 Tryz.st195 Tryz.ld217 Tryz.st217 Tryz.ld159 Tryz.st159 Tryz.ld142 Tryz.st142 Tryz.ld2 Tryz.st2 Tryz.ld5 Tryz.st5 Tryz.ld12 Tryz.st12 Tryz.ld21 Tryz.st21 Tryz.ld22 Tryz.st22 Tryz.ld24 Tryz.st24 Tryz.ld58 Tryz.st58 Tryz.ld97 Tryz.st97 Tryz.ld101 Tryz.st101 Tryz.ld116 Tryz.st116 Tryz.ld121 Tryz.st121 Tryz.ld135 Tryz.st135 Tryz.ld136 Tryz.st136 Tryz.ld143 Tryz.st143 Tryz.ld148 Tryz.st148 Tryz.ld154 Tryz.st154 Tryz.ld173 Tryz.st173 Tryz.ld187 Tryz.st187 Tryz.ld222 Tryz.st222 Tryz.ld241 Tryz.st241 Tryz.ld248 Tryz.st248 Tryz.ld268 Tryz.st268 Tryz.ld272 Tryz.st272 Tryz.ld153 Tryz.st153 Tryz.ld255 Tryz.st255 Tryz.ld256 Tryz.st256 Tryz.ld129 Tryz.st129 Tryz.ld152 Tryz.st152 Tryz.ld31 Tryz.st31 Tryz.ld46 Tryz.st46 Tryz.ld52 Tryz.st52 Tryz.ld54 Tryz.st54 Tryz.ld60 Tryz.st60 Tryz.ld70 Tryz.st70 Tryz.ld74 Tryz.st74 Tryz.ld93 Tryz.st93 Tryz.ld141 Tryz.st141 Tryz.ld151 Tryz.st151 Tryz.ld170 Tryz.st170 Tryz.ld186 Tryz.st186 Tryz.ld189 Tryz.st189 Tryz.ld194 Tryz.st194 Tryz.ld197 Tryz.st197 Tryz.ld219 Tryz.st219 Tryz.ld224 Tryz.st224 Tryz.ld230 Tryz.st230 Tryz.ld235 Tryz.st235 Tryz.ld243 Tryz.st243 Tryz.ld247 Tryz.st247 Tryz.ld252 Tryz.st252 Tryz.ld258 Tryz.st258 Tryz.al153 Tryz.al255 Tryz.al256 Tryz.al129 Tryz.al152 Tryz.al31 Tryz.al46 Tryz.al52 Tryz.al54 Tryz.al60 Tryz.al70 Tryz.al74 Tryz.al93 Tryz.al141 Tryz.al151 Tryz.al170 Tryz.al186 Tryz.al189 Tryz.al194 Tryz.al197 Tryz.al219 Tryz.al224 Tryz.al230 Tryz.al235 Tryz.al243 Tryz.al247 Tryz.al252 Tryz.al258
attribute [local go_sem] Request.length_enc Request.ok_enc Request.all_get Request.all_set Request.kind_get Request.kind_set Request.blob_get Request.blob_set Request.items_get Request.items_set Request.pred_get Request.pred_set Request.slots_get Request.slots_set Trace.length_enc Trace.ok_enc Trace.all_get Trace.all_set Trace.op_get Trace.op_set Trace.calls_get Trace.calls_set Item.length_enc Item.ok_enc Item.all_get Item.all_set Item.del_get Item.del_set Item.pred_get Item.pred_set Item.args_get Item.args_set Reply.length_enc Reply.ok_enc Reply.all_get Reply.all_set Reply.code_get Reply.code_set Reply.kind_get Reply.kind_set Reply.index_get Reply.index_set Reply.yes_get Reply.yes_set Reply.preds_get Reply.preds_set Reply.rules_get Reply.rules_set Reply.arity_get Reply.arity_set Reply.rows_get Reply.rows_set Reply.fact_get Reply.fact_set Reply.fact_del_get Reply.fact_del_set Reply.fact_pred_get Reply.fact_pred_set Reply.fact_args_get Reply.fact_args_set GEntry.length_enc GEntry.ok_enc GEntry.all_get GEntry.all_set GEntry.seq_get GEntry.seq_set GEntry.kind_get GEntry.kind_set GEntry.code_get GEntry.code_set GOp.length_enc GOp.ok_enc GOp.all_get GOp.all_set GOp.kind_get GOp.kind_set GOp.raw_get GOp.raw_set Reader.length_enc Reader.ok_enc Reader.all_get Reader.all_set Reader.buf_get Reader.buf_set Reader.at__get Reader.at__set Slot.length_enc Slot.ok_enc Slot.all_get Slot.all_set Slot.bound_get Slot.bound_set Slot.name_get Slot.name_set Session.length_enc Session.ok_enc Session.all_get Session.all_set Session.svc_get Session.svc_set Session.buf_get Session.buf_set Session.closed_get Session.closed_set GProgram.length_enc GProgram.ok_enc GProgram.all_get GProgram.all_set GProgram.pool_get GProgram.pool_set GProgram.preds_get GProgram.preds_set GProgram.rules_get GProgram.rules_set GProgram.strata_get GProgram.strata_set PredInfo.length_enc PredInfo.ok_enc PredInfo.all_get PredInfo.all_set PredInfo.arity_get PredInfo.arity_set PredInfo.base_get PredInfo.base_set PredInfo.stratum_get PredInfo.stratum_set Change.length_enc Change.ok_enc Change.all_get Change.all_set Change.del_get Change.del_set Change.pred_get Change.pred_set Change.t_get Change.t_set Store.length_enc Store.ok_enc Store.all_get Store.all_set Store.names_get Store.names_set Store.arity_get Store.arity_set Store.rows_get Store.rows_set Src.length_enc Src.ok_enc Src.all_get Src.all_set Src.b_get Src.b_set Src.at__get Src.at__set Atom.length_enc Atom.ok_enc Atom.all_get Atom.all_set Atom.pred_get Atom.pred_set Atom.args_get Atom.args_set GRule.length_enc GRule.ok_enc GRule.all_get GRule.all_set GRule.head_get GRule.head_set GRule.body_get GRule.body_set GRule.head_pred_get GRule.head_pred_set GRule.head_args_get GRule.head_args_set Cert.length_enc Cert.ok_enc Cert.all_get Cert.all_set Cert.names_get Cert.names_set Cert.nodes_get Cert.nodes_set Fact.length_enc Fact.ok_enc Fact.all_get Fact.all_set Fact.pred_get Fact.pred_set Fact.t_get Fact.t_set Literal.length_enc Literal.ok_enc Literal.all_get Literal.all_set Literal.neg_get Literal.neg_set Literal.atom_get Literal.atom_set Literal.atom_pred_get Literal.atom_pred_set Literal.atom_args_get Literal.atom_args_set Engine.length_enc Engine.ok_enc Engine.all_get Engine.all_set Engine.prog_get Engine.prog_set Engine.st_get Engine.st_set SrcCertm.length_enc SrcCertm.ok_enc SrcCertm.all_get SrcCertm.all_set SrcCertm.b_get SrcCertm.b_set SrcCertm.at__get SrcCertm.at__set GNode.length_enc GNode.ok_enc GNode.all_get GNode.all_set GNode.rule_get GNode.rule_set GNode.pred_get GNode.pred_set GNode.vals_get GNode.vals_set GNode.refs_get GNode.refs_set Term.length_enc Term.ok_enc Term.all_get Term.all_set Term.var_get Term.var_set Term.n_get Term.n_set Env.length_enc Env.ok_enc Env.all_get Env.all_set Env.val_get Env.val_set Env.set_get Env.set_set
attribute [local go_sem] size_put size_ext blk_put free_put blk_alloc free_alloc blk_drew free_drew blk_ext free_ext lookOr_some putOr_some segAt_some cellAt_some storeIn_some put_put put_alloc_new length_arr ok_arr_u8 ok_arr_u32 ok_arr_u64 ok_arr_i64 ok_arr_sl cellsV_agg cellsV_int cellsV_bool cellsV_string cellsV_pointer cellsV_slice cellsV_sl ok_int ok_bool ok_string ok_pointer ok_slice ok_sl toList_arr seg_arr set_arr nth_splice nth_splice0 seg_splice seg_splice0 splice_splice splice_splice0 length_splice_if
attribute [local go_sem ↓] execOp_box
attribute [local go_sem] box_run nth_arr_u8 put_arr_u8 blk_drewN free_drewN put_drewN blk_raw free_raw
attribute [local go_sem] Tryz.zl75 Tryz.zs75 Tryz.zl52 Tryz.zs52 Tryz.zl53 Tryz.zs53
theorem build161_lit (w : World) (q : Int) (a : Option Addr) (n c : Nat) (k : Int) (a' : Option Addr) (n' c' : Nat) : (buildOp 161 #[(0, .int .i64 q), (1, .slice a n c), (2, .int .i64 k), (3, .slice a' n' c')]).run Tryz.prog w = .ok (.value (.agg #[.int .i64 q, .slice a n c, .int .i64 k, .slice a' n' c'])) w := by kernel_rfl
theorem bslice53_lit (w : World) (q : Int) (a : Option Addr) (n c : Nat) (k : Int) (a' : Option Addr) (n' c' : Nat) : (bsliceOp 53 1 #[(0, .agg #[.int .i64 q, .slice a n c, .int .i64 k, .slice a' n' c'])]).run Tryz.prog w = .ok (.value (.slice (some ⟨w.heap.size, 0, none⟩) 1 1)) (w.alloc (.cells #[.int .i64 q, .slice a n c, .int .i64 k, .slice a' n' c'] 161)) := by kernel_rfl
theorem bslice43e (w : World) : (bsliceOp 43 0 #[]).run Tryz.prog w = .ok (.value (.slice (some ⟨w.heap.size, 0, none⟩) 0 0)) (w.alloc (.cells #[] 9)) := by kernel_rfl
theorem foldA_len : ∀ (ts : List Term) (vs : List Int), (ts.foldl vaA vs).length ≤ vs.length + ts.length
  | [], vs => by simp
  | t :: ts, vs => by
    rw [List.foldl_cons]
    have h1 := foldA_len ts (vaA vs t)
    have h2 := vaA_len vs t
    rw [List.length_cons]; omega
theorem foldL_len : ∀ (As : List PA) (vs : List Int), (∀ a ∈ As, a.args.length ≤ 4) → (As.foldl vaL vs).length ≤ vs.length + 4 * As.length
  | [], vs, _ => by simp
  | a :: As, vs, h => by
    rw [List.foldl_cons]
    have h1 := foldL_len As (vaL vs a) (fun x hx => h x (List.mem_cons_of_mem _ hx))
    have h2 : (vaL vs a).length ≤ vs.length + a.args.length := foldA_len a.args vs
    have h3 := h a List.mem_cons_self
    rw [List.length_cons]; omega
theorem varsF_len (r : PR) (h : ∀ a ∈ atomsOf r, a.args.length ≤ 4) : (varsF r).length ≤ 4 * (r.body.length + 1) := by
  have h1 := foldL_len (atomsOf r) [] h
  rw [atomsOf_len] at h1
  unfold varsF
  have : ([] : List Int).length = 0 := rfl
  omega
theorem RuFit.le {pool : List (List UInt8)} {r : PR} {N M : Nat} (h : RuFit pool r N) (hn : N ≤ M) : RuFit pool r M := ⟨h.bl, Nat.lt_of_lt_of_le h.hp hn, fun z hz => Nat.lt_of_lt_of_le (h.bp z hz) hn, h.ar, h.tm⟩
/-- All that a search for consequences reads. -/
structure CnE (W0 : World) (b ob : Nat) (p : PP) (da : Option Addr) (dn : Nat) (dom : List (List UInt8)) (ra : Option Addr) (rn : Nat) (Fs : List (List NRow)) : Prop where
  pg : ProgO W0 b ob p
  dm : Rw encS 1 W0 da dn dom
  dl : dom.length ≤ 256
  pd : ∀ x ∈ p.pool, x ∈ dom
  fc : FactsAt W0 ra rn Fs
  fl : Fs.length ≤ 64
  ll : ∀ L ∈ Fs, L.length ≤ 1000000000000 ∧ ∀ r ∈ L, r.length ≤ 1000000000000
def CoPost (W0 : World) (pool dom : List (List UInt8)) (Fs : List (List NRow)) (r : PR) (n : Nat) (S : List NStep) (e : Ending) (V : World) : Prop := ∃ a m c O K S', e = .returned (.slice a m c) ∧ conR pool dom Fs r n S S' ∧ FdS W0 O V a m c K S' ∧ StOk dom S'
/-- The fixed part of the frame. -/
def zFx (v0 v1 v2 v3 : Value) (b11 bd bw : Nat) (v12 : Value) (vn : Nat) (f : Nat → Value) : Prop := f 0 = v0 ∧ f 1 = v1 ∧ f 2 = v2 ∧ f 3 = v3 ∧ f 11 = .pointer (some ⟨b11, 0, none⟩) ∧ f 12 = v12 ∧ f 13 = .slice (some ⟨bd, 0, none⟩) vn vn ∧ f 14 = .slice (some ⟨bw, 0, none⟩) 32 32
structure CM (W0 : World) (b11 bd bw : Nat) (XE : List Value) (pool dom : List (List UInt8)) (Fs : List (List NRow)) (r : PR) (n : Nat) (S0 : List NStep) (μ : Nat) (O : Own) (V : World) (dg : List Nat) (vals : List (List UInt8)) (fa : Option Addr) (fn fc : Nat) (K : List MStep) (S : List NStep) : Prop where
  cs : CS W0 b11 bd bw XE O V dg vals fa fn fc K S
  dl : dg.length = (varsF r).length
  dk : DgOk dom.length dg
  vl : vals.length = 32
  so : StOk dom S
  mu : μ = remM dom.length dg
  go : ∀ out, ConTo pool dom Fs r n dg vals S out → ConTo pool dom Fs r n (List.replicate (varsF r).length 0) (List.replicate 32 []) S0 out
def zM (W0 : World) (v0 v1 v2 v3 : Value) (b11 bd bw : Nat) (v12 : Value) (vn : Nat) (XE : List Value) (pool dom : List (List UInt8)) (Fs : List (List NRow)) (r : PR) (n : Nat) (S0 : List NStep) (va : Option Addr) (μ : Nat) (f : Nat → Value) (V : World) : Prop := zFx v0 v1 v2 v3 b11 bd bw v12 vn f ∧ ∃ fa fn fc, f 4 = .slice fa fn fc ∧ Hid (∃ O dg vals K S, CM W0 b11 bd bw XE pool dom Fs r n S0 μ O V dg vals fa fn fc K S ∧ Rw encZ 1 (core O V) va vn (varsF r))
def zL2 (W0 : World) (v0 v1 v2 v3 v4 : Value) (b11 bd bw : Nat) (v12 : Value) (vn : Nat) (XE : List Value) (dom : List (List UInt8)) (r : PR) (dg : List Nat) (vals : List (List UInt8)) (fa : Option Addr) (fn fc : Nat) (K : List MStep) (S : List NStep) (va : Option Addr) (f : Nat → Value) (V : World) : Prop := zFx v0 v1 v2 v3 b11 bd bw v12 vn f ∧ f 4 = v4 ∧ ∃ i : Nat, i ≤ vn ∧ f 15 = .int .i64 (i : Nat) ∧ Hid (∃ O, CS W0 b11 bd bw XE O V dg (setI (varsF r) dom dg vals i) fa fn fc K S ∧ Rw encZ 1 (core O V) va vn (varsF r))
def zL3 (W0 : World) (v0 v1 v2 v3 v4 : Value) (b11 bd bw : Nat) (v12 : Value) (vn : Nat) (XE : List Value) (k : Nat) (r : PR) (dg : List Nat) (vals : List (List UInt8)) (fa : Option Addr) (fn fc : Nat) (K : List MStep) (S : List NStep) (va : Option Addr) (f : Nat → Value) (V : World) : Prop := zFx v0 v1 v2 v3 b11 bd bw v12 vn f ∧ f 4 = v4 ∧ ∃ i : Nat, i ≤ vn ∧ f 17 = .int .i64 (i : Nat) ∧ Hid (∃ O, CS W0 b11 bd bw XE O V (List.replicate i 0 ++ dg.drop i) vals fa fn fc K S ∧ Rw encZ 1 (core O V) va vn (varsF r) ∧ ∀ j x, j < i → dg[j]? = some x → x + 1 = k)
attribute [local go_sem ↓] execOp_slice execOp_convert execOp_build execOp_bslice execOp_make
attribute [local go_sem] build161_lit bslice53_lit bslice43e make43c
set_option maxRecDepth 100000 in
theorem zframe129c (f : Nat → Value) : frameN 129 f = #[f 0, f 1, f 2, f 3, f 4, f 5, f 6, f 7, f 8, f 9, f 10, f 11, f 12, f 13, f 14, f 15, f 16, f 17, f 18, f 19, f 20, f 21, f 22, f 23, f 24, f 25, f 26, f 27, f 28, f 29, f 30, f 31, f 32, f 33, f 34, f 35, f 36, f 37, f 38, f 39, f 40, f 41, f 42, f 43, f 44, f 45, f 46, f 47, f 48, f 49, f 50, f 51, f 52, f 53, f 54, f 55, f 56, f 57, f 58, f 59, f 60, f 61, f 62, f 63, f 64, f 65, f 66, f 67, f 68, f 69, f 70, f 71, f 72, f 73, f 74, f 75, f 76, f 77, f 78, f 79, f 80, f 81, f 82, f 83, f 84, f 85, f 86, f 87, f 88, f 89, f 90, f 91, f 92, f 93, f 94, f 95, f 96, f 97, f 98, f 99, f 100, f 101, f 102, f 103, f 104, f 105, f 106, f 107, f 108, f 109, f 110, f 111, f 112, f 113, f 114, f 115, f 116, f 117, f 118, f 119, f 120, f 121, f 122, f 123, f 124, f 125, f 126, f 127, f 128] := by kernel_rfl
set_option maxRecDepth 40000 in
set_option maxHeartbeats 8000000 in
theorem consequences_any (W0 : World) (b ob : Nat) (p : PP) (da : Option Addr) (dn dc : Nat) (dom : List (List UInt8)) (ra : Option Addr) (rn rc : Nat) (Fs : List (List NRow)) (hE : CnE W0 b ob p da dn dom ra rn Fs) (n : Nat) (r : PR) (hr : p.rules[n]? = some r) (hn : n ≤ 1000) (hfit : RuFit p.pool r Fs.length) (O : Own) (V : World) (fa : Option Addr) (fn fc : Nat) (K : List MStep) (S : List NStep) (hS : FdS W0 O V fa fn fc K S) (hok : StOk dom S) : Calls Tryz.prog 78 #[.pointer (some ⟨b, ob, none⟩), .int .i64 (n : Int), .slice da dn dc, .slice ra rn rc, .slice fa fn fc] V (CoPost W0 p.pool dom Fs r n S) := by
  obtain ⟨Q, hQ⟩ : ∃ Q, Q = CoPost W0 p.pool dom Fs r n S := ⟨_, rfl⟩
  rw [← hQ]
  have HQ := hid_of hQ
  have HE := hid_of hE
  have HFIT := hid_of hfit
  have HFT64 : Hid (RuFit p.pool r 64) := hfit.le hE.fl
  have HS := hid_of hS
  have HOK := hid_of hok
  have hdn : dom.length = dn := hE.dm.1
  have HDN := hid_of hdn
  have hdb : dn ≤ 256 := by have := hE.dl; omega
  obtain ⟨Ce, pa, pn, pc, ta, tn, tc, ua, un, uc, hb, hl4, k0, k1, k2, k3, k4, k5, Rs, k6, k7, k8⟩ := hE.pg.cells
  obtain ⟨x, hx⟩ : ∃ x, Rs[n]? = some x := ⟨_, List.getElem?_eq_getElem (by rw [k7]; exact (List.getElem?_eq_some_iff.1 hr).1)⟩
  obtain ⟨bu, CU, rfl, u1, u2, u3⟩ := k6.2 n x hx
  have hRC := k8 n x r hx hr
  have HRC := hid_of hRC
  have hnu : n < un := by
    have h1 := (List.getElem?_eq_some_iff.1 hx).1
    rw [k6.1] at h1
    exact h1
  have hnm : (n + 1) * 3 ≤ un * 3 := Nat.mul_le_mul_right _ hnu
  have hbV : blk V b = some Ce := (hS.ext.blk (blk_lt hb)).trans hb
  have hbU : blk V bu = some CU := (hS.ext.blk (blk_lt u1)).trans u1
  have q1 : n * 3 + 3 ≤ CU.length := by omega
  have xl := GRule.length_enc x
  have xo := GRule.ok_enc x
  have xs3 := GRule.all_get x
  have xst := GRule.all_set GRule.zero x
  have xg2 : seg x.enc 0 2 = Atom.enc x.head := GRule.head_get x
  have xg0 : nth x.enc 0 = some (.int .i64 (r.head.pred : Int)) := by
    have h9 := GRule.head_pred_get x
    rw [hRC.1.1] at h9
    exact h9
  obtain ⟨XE, eXE⟩ : ∃ XE, XE = x.enc := ⟨_, rfl⟩
  obtain ⟨HX, eHX⟩ : ∃ HX, HX = Atom.enc x.head := ⟨_, rfl⟩
  rw [← eXE] at xl xo xs3 xg2 xg0 u3 xst
  rw [← eHX] at xg2
  have EXE := hid_of eXE
  have EHX := hid_of eHX
  have xl0 : 0 < XE.length := by omega
  have xl2 : 0 + 2 ≤ XE.length := by omega
  have xl3 : 0 + 3 ≤ XE.length := by omega
  have n0 : (0 : Int) ≤ (n : Int) := by omega
  have n2 : ((n : Int)).toNat = n := by omega
  have n3 : (n : Int) < (un : Int) := by omega
  have l2 : ob + 2 < Ce.length := by omega
  clear hQ hE hfit hS hok hdn k0 k1 k3 k4 k5 k6 k7 k8 hx hr hRC u1 hnu hnm eXE eHX hl4
  go_enter Tryz.func78, Tryz.ntmps78
  go_upto_region 2 with fail
  refine wp_world (fun V1 => V.Extends V1 ∧ blk V1 V.heap.size = some XE ∧ V1.heap.size = V.heap.size + 1) ⟨?_, ?_, ?_⟩ ?_
  · exact extends_alloc (ext_Ext (Ext.refl _)) _
  · rw [blk_alloc, if_pos rfl]
  · rw [World.size_alloc]
  rintro V1 ⟨hx1, hb11, hsz1⟩
  obtain ⟨b11, e11⟩ : ∃ b11, b11 = V.heap.size := ⟨_, rfl⟩
  rw [← e11] at hb11 ⊢
  have HX01 : Hid (W0.Extends V1) := HS.out.ext.trans hx1
  have hva := varsOf_any V1 x r (HRC.out.ext HX01.out) HFIT.out.bl (fun a ha => Nat.le_trans (HFIT.out.ar a ha) (by decide))
  rw [← EXE.out] at hva
  have H11 : Hid (V.Extends V1 ∧ b11 = V.heap.size ∧ V1.heap.size = V.heap.size + 1) := ⟨hx1, e11, hsz1⟩
  clear hx1 e11 hsz1 hbV hbU
  go_wp2_with fail
  refine hva.mono ?_
  rintro e V2 ⟨va, vc, rfl, hO2⟩
  dsimp only
  obtain ⟨vn, evn⟩ : ∃ vn, vn = (varsF r).length := ⟨_, rfl⟩
  rw [← evn] at hO2 ⊢
  have HVN := hid_of evn
  have hvb : vn ≤ 10000 := by
    rw [evn]
    have h9 := varsF_len r (fun a ha => HFIT.out.ar a ha)
    have h8 := HFIT.out.bl
    omega
  have HO2 := hid_of hO2
  have hb112 : blk V2 b11 = some XE := (hO2.2.1.blk (blk_lt hb11)).trans hb11
  clear hva hO2 evn hb11
  by_cases hv0 : 0 < vn
  · have v1 : (vn : Int) > 0 := by omega
    have v2 : (0 : Int) < (vn : Int) := by omega
    by_cases hd0 : dn = 0
    · have d1 : ((dn : Int) == 0) = true := by simp [hd0]
      have HP : Hid (Q (.returned (.slice fa fn fc)) V2) := by
        show Q _ _
        rw [HQ.out]
        refine ⟨fa, fn, fc, _, K, S, rfl, .inl ⟨fun e => ?_, ?_, rfl⟩, (HS.out.grow H11.out.1).grow HO2.out.2.1, HOK.out⟩
        · have := HVN.out
          rw [e] at this
          have h8 : vn = 0 := this
          omega
        · exact List.eq_nil_of_length_eq_zero (by have := HDN.out; omega)
      go_wp2_with fail
      try go_ret
      exact HP.out
    have d1 : ((dn : Int) == 0) = false := by simp [hd0]
    have hmk : ∀ w, (makeOp 180 (.int .i64 (vn : Int)) (.int .i64 (vn : Int))).run Tryz.prog w = .ok (.value (.slice (some ⟨w.heap.size, 0, none⟩) vn vn)) (w.alloc (.cells (digC (List.replicate vn 0)).toArray 3)) := fun w => make180 w vn (by omega)
    obtain ⟨D0, eD0⟩ : ∃ D0, D0 = digC (List.replicate vn 0) := ⟨_, rfl⟩
    obtain ⟨T0, eT0⟩ : ∃ T0, T0 = strC (List.replicate 32 []) := ⟨_, rfl⟩
    simp only [← eD0] at hmk
    have hmk2 : ∀ w, (makeOp 43 (.int .i64 32) (.int .i64 32)).run Tryz.prog w = .ok (.value (.slice (some ⟨w.heap.size, 0, none⟩) 32 32)) (w.alloc (.cells T0.toArray 9)) := fun w => by rw [eT0]; exact make43c w
    have ED0 := hid_of eD0
    have ET0 := hid_of eT0
    clear eD0 eT0
    go_upto_region 7 with fail
    refine wp_world (fun V3 => V2.Extends V3 ∧ blk V3 V2.heap.size = some D0 ∧ free V3 V2.heap.size = true ∧ blk V3 (V2.heap.size + 1) = some T0 ∧ free V3 (V2.heap.size + 1) = true) ⟨?_, ?_, ?_, ?_, ?_⟩ ?_
    · exact extends_alloc (extends_alloc (ext_Ext (Ext.refl _)) _) _
    · rw [blk_alloc, if_neg (by rw [World.size_alloc]; omega), blk_alloc, if_pos rfl]
    · rw [free_alloc, if_neg (by rw [World.size_alloc]; omega), free_alloc, if_pos rfl]
    · rw [blk_alloc, if_pos (by rw [World.size_alloc])]
    · rw [free_alloc, if_pos (by rw [World.size_alloc])]
    rintro V3 ⟨hx3, hd3, hdf3, hw3, hwf3⟩
    obtain ⟨bd, ebd⟩ : ∃ bd, bd = V2.heap.size := ⟨_, rfl⟩
    obtain ⟨bw, ebw⟩ : ∃ bw, bw = V2.heap.size + 1 := ⟨_, rfl⟩
    rw [← ebd] at hd3 hdf3
    rw [← ebw] at hw3 hwf3
    rw [← ebw, ← ebd]
    have hO3 := HO2.out.ext hx3
    obtain ⟨O3, hCS⟩ := HS.out.cs (b11 := b11) (bd := bd) (bw := bw) (XE := XE) (dg := List.replicate vn 0) (vals := List.replicate 32 []) (H11.out.1.trans hO3.2.1) ((hx3.blk (blk_lt hb112)).trans hb112) (by rw [H11.out.2.1]; exact Nat.le_refl _) (by have h1 := H11.out.2.1; have h2 := H11.out.2.2; have h3 := HO2.out.2.1.size; omega) (by have h1 := H11.out.2.1; have h2 := H11.out.2.2; have h3 := HO2.out.2.1.size; omega) (by rw [hd3, ED0.out]) hdf3 (by have h2 := H11.out.2.2; have h3 := HO2.out.2.1.size; omega) (by rw [hw3, ET0.out]) hwf3 (by have h2 := H11.out.2.2; have h3 := HO2.out.2.1.size; omega) (by omega)
    have hvr : Rw encZ 1 (core O3 V3) va vn (varsF r) := by
      refine (hO3.rw el183).tocore (fun bb C e _ => ?_)
      have h9 := row_at hO3.1 bb (by rw [e]; rfl)
      have h8 := row_at HO2.out.1 bb (by rw [e]; rfl)
      exact hCS.2 bb (by have := H11.out.2.2; omega) (by omega) (by omega)
    have HI0 : Hid (∃ O dg vals K' S', CM W0 b11 bd bw XE p.pool dom Fs r n S (remM dom.length (List.replicate vn 0)) O V3 dg vals fa fn fc K' S' ∧ Rw encZ 1 (core O V3) va vn (varsF r)) := by
      refine ⟨O3, _, _, K, S, ⟨hCS.1, by rw [List.length_replicate]; exact HVN.out, fun d hd => ?_, by simp, HOK.out, rfl, fun out h9 => by rw [← HVN.out]; exact h9⟩, hvr⟩
      obtain ⟨h1, h2⟩ := List.mem_replicate.1 hd
      rw [h2, HDN.out]
      omega
    clear hx3 hd3 hdf3 hw3 hwf3 ebd ebw hO3 hCS hvr hmk hmk2 ED0 ET0 H11 HX01 HO2 hb112
    refine wp_loop_ix 129 (zM W0 (.pointer (some ⟨b, ob, none⟩)) (.int .i64 (n : Int)) (.slice da dn dc) (.slice ra rn rc) b11 bd bw (.slice va vn vc) vn XE p.pool dom Fs r n S va) (remM dom.length (List.replicate vn 0)) rfl ⟨⟨rfl, rfl, rfl, rfl, rfl, rfl, rfl, rfl⟩, fa, fn, fc, rfl, HI0⟩ ?_
    clear HI0 HS HOK
    clear fa fn fc K V V1 V2 V3 O
    intro μ F V4 hrel ν HMU
    obtain ⟨⟨f0, f1, f2, f3, f11, f12, f13, f14⟩, fa, fn, fc, f4, HI⟩ := hrel
    rw [zframe129c, f0, f1, f2, f3, f4, f11, f12, f13, f14]
    clear f0 f1 f2 f3 f4 f11 f12 f13 f14
    obtain ⟨O, dg, vals, K, S1, hCM, hvr⟩ := HI.out
    have HCM := hid_of hCM
    have HB2 : Hid (∃ O, CS W0 b11 bd bw XE O V4 dg (setI (varsF r) dom dg vals 0) fa fn fc K S1 ∧ Rw encZ 1 (core O V4) va vn (varsF r)) := ⟨O, hCM.cs, hvr⟩
    clear HI hvr hCM
    go_upto_region 8 with fail
    refine wp_loop_f 129 (zL2 W0 (.pointer (some ⟨b, ob, none⟩)) (.int .i64 (n : Int)) (.slice da dn dc) (.slice ra rn rc) (.slice fa fn fc) b11 bd bw (.slice va vn vc) vn XE dom r dg vals fa fn fc K S1 va) (fun f _ => vn - (intOf (f 15)).toNat) rfl ⟨⟨rfl, rfl, rfl, rfl, rfl, rfl, rfl, rfl⟩, rfl, 0, by omega, rfl, HB2⟩ ?_
    clear HB2
    intro F2 V5 hrel
    obtain ⟨⟨f0, f1, f2, f3, f11, f12, f13, f14⟩, f4, i, hi, f15, HI⟩ := hrel
    have H15 := hid_of f15
    rw [zframe129c, f0, f1, f2, f3, f4, f11, f12, f13, f14, f15]
    clear f0 f1 f2 f3 f4 f11 f12 f13 f14 f15
    obtain ⟨O5, hC5, hv5⟩ := HI.out
    have HC5 := hid_of hC5
    have HV5 := hid_of hv5
    clear HI hC5 hv5
    by_cases hin : i < vn
    · have hin' : (i : Int) < (vn : Int) := by omega
      have i0 : (0 : Int) ≤ (i : Int) := by omega
      have i2 : ((i : Int)).toNat = i := by omega
      have hdl : dg.length = vn := by rw [HCM.out.dl]; exact HVN.out.symm
      obtain ⟨v, hv⟩ : ∃ v, (varsF r)[i]? = some v := ⟨_, List.getElem?_eq_getElem (by rw [← HVN.out]; exact hin)⟩
      obtain ⟨d, hd⟩ : ∃ d, dg[i]? = some d := ⟨_, List.getElem?_eq_getElem (by rw [hdl]; exact hin)⟩
      have hdk := HCM.out.dk d (List.mem_of_getElem? hd)
      rw [HDN.out] at hdk
      obtain ⟨y, hy⟩ : ∃ y, dom[d]? = some y := ⟨_, List.getElem?_eq_getElem (by rw [HDN.out]; exact hdk)⟩
      obtain ⟨bv, CV, rfl, m1, m2, m3⟩ := int_at HV5.out hv
      obtain ⟨m1', hobv⟩ := core_blk m1
      obtain ⟨bm, CM', rfl, p1, p2, p3⟩ := str_at HE.out.dm hy
      have hbm : blk V5 bm = some CM' := (HC5.out.ext.blk (blk_lt p1)).trans p1
      obtain ⟨hv0, hv32⟩ := HFT64.out.vars v (List.mem_of_getElem? hv)
      obtain ⟨vi, evi⟩ : ∃ vi : Nat, v = (vi : Int) := ⟨v.toNat, by omega⟩
      rw [evi] at m3
      have hvi : vi < 32 := by omega
      have hvl : (setI (varsF r) dom dg vals i).length = 32 := by rw [setI_len]; exact HCM.out.vl
      have hnew : (setI (varsF r) dom dg vals (i + 1)) = (setI (varsF r) dom dg vals i).set vi y := by
        rw [setI_succ]
        have e1 : (varsF r).getD i 0 = v := by rw [List.getD_eq_getElem?_getD, hv]; rfl
        have e2 : dg.getD i 0 = d := by rw [List.getD_eq_getElem?_getD, hd]; rfl
        have e3 : dom.getD d [] = y := by rw [List.getD_eq_getElem?_getD, hy]; rfl
        rw [e1, e2, e3, evi]; rfl
      have hdb5 := HC5.out.db
      have hwb5 := HC5.out.wb
      have hwf5 := HC5.out.wf
      have hd3 := digC_at hd
      have hdcl : i < (digC dg).length := by rw [digC_len]; omega
      obtain ⟨DC, eDC⟩ : ∃ DC, DC = digC dg := ⟨_, rfl⟩
      obtain ⟨TC, eTC⟩ : ∃ TC, TC = strC (setI (varsF r) dom dg vals i) := ⟨_, rfl⟩
      have htcl : TC.length = 32 := by rw [eTC, strC_len]; exact hvl
      have htci : vi < TC.length := by omega
      have hspl : splice TC vi [.string ⟨y.toArray⟩] = strC (setI (varsF r) dom dg vals (i + 1)) := by rw [eTC, hnew]; exact strC_set y (by rw [hvl]; exact hvi)
      have HJ : Hid (∃ O, CS W0 b11 bd bw XE O (put V5.drew bw (splice TC vi [.string ⟨y.toArray⟩])) dg (setI (varsF r) dom dg vals (i + 1)) fa fn fc K S1 ∧ Rw encZ 1 (core O (put V5.drew bw (splice TC vi [.string ⟨y.toArray⟩]))) (some ⟨bv, 0, none⟩) vn (varsF r)) := by
        have h1 := (HC5.out.drewN 1).setW (setI (varsF r) dom dg vals (i + 1))
        rw [← hspl] at h1
        refine ⟨O5, h1, HV5.out.sub (Sub.cores fun bb C hb ho => ⟨?_, ho⟩)⟩
        rw [blk_put, if_neg (fun e => by rw [e, HC5.out.wO] at ho; cases ho)]
        exact hb
      rw [← eDC] at hdb5 hd3 hdcl
      rw [← eTC] at hwb5
      have w1 : ((vi : Int)).toNat = vi := by omega
      have w2 : (0 : Int) ≤ (vi : Int) := by omega
      have w3 : (vi : Int) < 32 := by omega
      have w31 : vi ≤ 31 := by omega
      have w4 : ((d : Int)).toNat = d := by omega
      have w5 : (0 : Int) ≤ (d : Int) := by omega
      have w6 : (d : Int) < (dn : Int) := by omega
      have hkeep : blk (put V5.drew bw (splice TC vi [.string ⟨y.toArray⟩])) bv = some CV ∧ blk (put V5.drew bw (splice TC vi [.string ⟨y.toArray⟩])) bd = some DC ∧ blk (put V5.drew bw (splice TC vi [.string ⟨y.toArray⟩])) bm = some CM' := by
        have hne1 : bv ≠ bw := fun e => by rw [e, HC5.out.wO] at hobv; cases hobv
        have hne2 : bd ≠ bw := fun e => by have h9 := HC5.out.dO; rw [e, HC5.out.wO] at h9; cases h9
        have hne3 : bm ≠ bw := fun e => by have h9 := HC5.out.wl; have h8 := blk_lt p1; omega
        refine ⟨?_, ?_, ?_⟩
        · rw [blk_put, if_neg hne1]; exact m1'
        · rw [blk_put, if_neg hne2]; exact hdb5
        · rw [blk_put, if_neg hne3]; exact hbm
      obtain ⟨ys, eys⟩ : ∃ ys : ByteArray, ys = ⟨y.toArray⟩ := ⟨_, rfl⟩
      rw [← eys] at p3 HJ hkeep
      clear hv hd hy m1 p1 hv0 hv32 evi hnew hspl eDC eTC hvl hdl hdk eys
      go_upto_region 10 with fail
      repeat go_step
      refine wp_region_held_drew (S := fun W' => blk W' bv = some CV ∧ blk W' bd = some DC ∧ blk W' bm = some CM') (by kernel_rfl) ⟨m1', hdb5, hbm⟩ (fun hHeld => ?_)
      refine wpAnyH_take (i := 0) (oi := ⟨_, _, _, _, _, _⟩) (v := ?_) rfl (by kernel_rfl) (by kernel_rfl) (by kernel_rfl) (fun _ _ _ h => h) (Or.inl ⟨by rfl, ?_⟩) (by assumption) ?_
      rotate_left 1
      · intro W' hSw
        obtain ⟨hS1, hS2, hS3⟩ := hSw
        go_simp
        try with_reducible rfl
      try simp only [Act.put, List.setIfInBounds_toArray, List.set_cons_zero, List.set_cons_succ]
      refine wpAnyH_take (i := 1) (oi := ⟨_, _, _, _, _, _⟩) (v := ?_) rfl (by kernel_rfl) (by kernel_rfl) (by kernel_rfl) (fun _ _ _ h => h) (Or.inl ⟨by rfl, ?_⟩) (by assumption) ?_
      rotate_left 1
      · intro W' hSw
        obtain ⟨hS1, hS2, hS3⟩ := hSw
        go_simp
        try with_reducible rfl
      try simp only [Act.put, List.setIfInBounds_toArray, List.set_cons_zero, List.set_cons_succ]
      refine wpAnyH_take (i := 2) (oi := ⟨_, _, _, _, _, _⟩) (v := ?_) rfl (by kernel_rfl) (by kernel_rfl) (by kernel_rfl) (fun _ _ _ h => h) (Or.inl ⟨by rfl, ?_⟩) (by assumption) ?_
      rotate_left 1
      · intro W' hSw
        obtain ⟨hS1, hS2, hS3⟩ := hSw
        go_simp
        try with_reducible rfl
      try simp only [Act.put, List.setIfInBounds_toArray, List.set_cons_zero, List.set_cons_succ]
      refine wpAnyH_take (i := 3) (oi := ⟨_, _, _, _, _, _⟩) (v := ?_) rfl (by kernel_rfl) (by kernel_rfl) (by kernel_rfl) (fun _ _ _ h => h) (Or.inl ⟨by rfl, ?_⟩) (by assumption) ?_
      rotate_left 1
      · intro W' hSw
        obtain ⟨hS1, hS2, hS3⟩ := hSw
        go_simp
        try with_reducible rfl
      try simp only [Act.put, List.setIfInBounds_toArray, List.set_cons_zero, List.set_cons_succ]
      refine wpAnyH_take (i := 4) (oi := ⟨_, _, _, _, _, _⟩) (v := ?_) rfl (by kernel_rfl) (by kernel_rfl) (by kernel_rfl) (fun _ _ _ h => h) (Or.inl ⟨by rfl, ?_⟩) (by assumption) ?_
      rotate_left 1
      · intro W' hSw
        obtain ⟨hS1, hS2, hS3⟩ := hSw
        go_simp
        try with_reducible rfl
      try simp only [Act.put, List.setIfInBounds_toArray, List.set_cons_zero, List.set_cons_succ]
      refine wpAnyH_take (i := 5) (oi := ⟨_, _, _, _, _, _⟩) (v := ?_) rfl (by kernel_rfl) (by kernel_rfl) (by kernel_rfl) (fun _ _ _ h => h) (Or.inl ⟨by rfl, ?_⟩) (by assumption) ?_
      rotate_left 1
      · intro W' hSw
        obtain ⟨hS1, hS2, hS3⟩ := hSw
        go_simp
        try with_reducible rfl
      try simp only [Act.put, List.setIfInBounds_toArray, List.set_cons_zero, List.set_cons_succ]
      refine wpAnyH_take (i := 6) (oi := ⟨_, _, _, _, _, _⟩) (v := ?_) rfl (by kernel_rfl) (by kernel_rfl) (by kernel_rfl) (fun _ _ _ h => h) (Or.inl ⟨by rfl, ?_⟩) (by assumption) ?_
      rotate_left 1
      · intro W' hSw
        obtain ⟨hS1, hS2, hS3⟩ := hSw
        go_simp
        try with_reducible rfl
      try simp only [Act.put, List.setIfInBounds_toArray, List.set_cons_zero, List.set_cons_succ]
      refine wpAnyH_take (i := 7) (oi := ⟨_, _, _, _, _, _⟩) (v := ?_) rfl (by kernel_rfl) (by kernel_rfl) (by kernel_rfl) (fun _ _ _ h => h) (Or.inl ⟨by rfl, ?_⟩) (by assumption) ?_
      rotate_left 1
      · intro W' hSw
        obtain ⟨hS1, hS2, hS3⟩ := hSw
        go_simp
        try with_reducible rfl
      try simp only [Act.put, List.setIfInBounds_toArray, List.set_cons_zero, List.set_cons_succ]
      refine wpAnyH_take (i := 8) (oi := ⟨_, _, _, _, _, _⟩) (v := ?_) rfl (by kernel_rfl) (by kernel_rfl) (by kernel_rfl) (fun _ _ _ h => h) (Or.inl ⟨by rfl, ?_⟩) (by assumption) ?_
      rotate_left 1
      · intro W' hSw
        obtain ⟨hS1, hS2, hS3⟩ := hSw
        go_simp
        try with_reducible rfl
      try simp only [Act.put, List.setIfInBounds_toArray, List.set_cons_zero, List.set_cons_succ]
      refine wpAnyH_take (i := 9) (oi := ⟨_, _, _, _, _, _⟩) (v := ?_) rfl (by kernel_rfl) (by kernel_rfl) (by kernel_rfl) (fun _ _ _ h => h) (Or.inl ⟨by rfl, ?_⟩) (by assumption) ?_
      rotate_left 1
      · intro W' hSw
        obtain ⟨hS1, hS2, hS3⟩ := hSw
        go_simp
        try with_reducible rfl
      try simp only [Act.put, List.setIfInBounds_toArray, List.set_cons_zero, List.set_cons_succ]
      refine wpAnyH_take (i := 10) (oi := ⟨_, _, _, _, _, _⟩) (v := ?_) rfl (by kernel_rfl) (by kernel_rfl) (by kernel_rfl) (fun _ _ _ h => h) (Or.inl ⟨by rfl, ?_⟩) (by assumption) ?_
      rotate_left 1
      · intro W' hSw
        obtain ⟨hS1, hS2, hS3⟩ := hSw
        go_simp
        try with_reducible rfl
      try simp only [Act.put, List.setIfInBounds_toArray, List.set_cons_zero, List.set_cons_succ]
      refine wpAnyH_take (i := 11) (oi := ⟨_, _, _, _, _, _⟩) (v := ?_) rfl (by kernel_rfl) (by kernel_rfl) (by kernel_rfl) (fun _ _ _ h => h) (Or.inl ⟨by rfl, ?_⟩) (by assumption) ?_
      rotate_left 1
      · intro W' hSw
        obtain ⟨hS1, hS2, hS3⟩ := hSw
        go_simp
        try with_reducible rfl
      try simp only [Act.put, List.setIfInBounds_toArray, List.set_cons_zero, List.set_cons_succ]
      refine wpAnyH_take (i := 12) (oi := ⟨_, _, _, _, _, _⟩) (v := ?_) rfl (by kernel_rfl) (by kernel_rfl) (by kernel_rfl) (fun _ _ _ h => h) (Or.inl ⟨by rfl, ?_⟩) (by assumption) ?_
      rotate_left 1
      · intro W' hSw
        obtain ⟨hS1, hS2, hS3⟩ := hSw
        go_simp
        try with_reducible rfl
      try simp only [Act.put, List.setIfInBounds_toArray, List.set_cons_zero, List.set_cons_succ]
      refine wpAnyH_ready (rs := [13]) (by kernel_rfl) (by simp) ?_
      refine AllReadyH.cons (o := ⟨_, _, _, _, _, _⟩) rfl (fun K' hK => ?_) AllReadyH.nil
      go_simp
      refine hK.out _ _ hkeep (fun hHeld => ?_)
      clear hK K'
      try simp only [Act.put, List.setIfInBounds_toArray, List.set_cons_zero, List.set_cons_succ]
      refine wpAnyH_done (by kernel_rfl) ?_ _
      clear hHeld hkeep
      go_wp2_with fail
      refine ⟨rfl, rfl, ⟨⟨rfl, rfl, rfl, rfl, rfl, rfl, rfl, rfl⟩, rfl, i + 1, by omega, ?_, HJ⟩, ?_⟩
      · show Value.int .i64 _ = _
        go_num
      · show vn - (intOf (Value.int .i64 _)).toNat < vn - (intOf (F2 15)).toNat
        rw [H15.out]
        simp [intOf]; omega
    have hin' : ¬ (i : Int) < (vn : Int) := by omega
    obtain rfl : i = vn := by omega
    obtain ⟨vs, evs⟩ : ∃ vs, vs = setI (varsF r) dom dg vals i := ⟨_, rfl⟩
    have HVS : Hid (vs = setI (varsF r) dom dg vals (varsF r).length) := by show _ = _; rw [← HVN.out]; exact evs
    have hvl : vs.length = 32 := by rw [evs, setI_len]; exact HCM.out.vl
    have hC6 := HC5.out
    rw [← evs] at hC6
    have HC6 := hid_of hC6
    have HVL := hid_of hvl
    have hsub5 : Sub W0 V5 := Sub.ext hC6.ext
    have hbh := bodyHolds_any V5 b ob p (HE.out.pg.sub hsub5) x r (HRC.out.sub hsub5) (some ⟨bw, 0, none⟩) 32 32 vs (by have h9 := strC_rw hC6.wb; rw [hvl] at h9; exact h9) ra rn rc Fs (HE.out.fc.sub hsub5) HFIT.out.bl (fun z hz => ⟨HFT64.out.fit hvl (by unfold atomsOf; exact List.mem_cons_of_mem _ (List.mem_map_of_mem hz)), Nat.le_trans (HFIT.out.ar _ (by unfold atomsOf; exact List.mem_cons_of_mem _ (List.mem_map_of_mem hz))) (by decide), HFIT.out.bp z hz⟩) (Nat.le_trans HE.out.fl (by decide)) HE.out.ll
    rw [← EXE.out] at hbh
    have hr11 := hC6.rb
    obtain ⟨hb0, ehb⟩ : ∃ hb0, hb0 = holdB p.pool vs Fs r.body := ⟨_, rfl⟩
    rw [← ehb] at hbh
    have HHB := hid_of ehb
    clear hC6 hsub5 evs ehb HC5
    go_wp2_with fail
    refine hbh.mono ?_
    rintro e V6 ⟨rfl, hx6⟩
    dsimp only
    have hC7 := HC6.out.grow hx6
    have hF6 : Fr (fun _ => False) O5 V5 (lab O5 V5.heap.size .no) V6 := Fr.grow hx6
    have hv7 : Rw encZ 1 (core (lab O5 V5.heap.size .no) V6) va i (varsF r) := HV5.out.sub (Sub.cores fun bb C hb ho => ⟨hF6.blk hb (fun e => e), (hF6.keep bb (blk_lt hb)).trans ho⟩)
    obtain ⟨O6, eO6⟩ : ∃ O6, O6 = lab O5 V5.heap.size .no := ⟨_, rfl⟩
    rw [← eO6] at hC7 hv7
    have HC7 := hid_of hC7
    have HV7 := hid_of hv7
    -- the rest of the round, from what was found
    have HREST : Hid (∀ (O7 : Own) (V7 : World) (fa' : Option Addr) (fn' fc' : Nat) (K' : List MStep), CS W0 b11 bd bw XE O7 V7 dg vs fa' fn' fc' K' (addF p.pool Fs r n vs S1) → Rw encZ 1 (core O7 V7) va i (varsF r) → ∃ O, CS W0 b11 bd bw XE O V7 (List.replicate 0 0 ++ dg.drop 0) vs fa' fn' fc' K' (addF p.pool Fs r n vs S1) ∧ Rw encZ 1 (core O V7) va i (varsF r) ∧ ∀ j x, j < 0 → dg[j]? = some x → x + 1 = dom.length) := fun O7 V7 fa' fn' fc' K' h1 h2 => ⟨O7, h1, h2, fun j x hj => by omega⟩
    have HSO : Hid (StOk dom (addF p.pool Fs r n vs S1)) := by
      refine HCM.out.so.add HFT64.out HE.out.pd (fun v hv => ?_) HVL.out
      obtain ⟨j, hj⟩ := List.mem_iff_getElem?.1 hv
      have hjl := (List.getElem?_eq_some_iff.1 hj).1
      have h9 := setI_in (dom := dom) (vars := varsF r) (dg := dg) (vals := vals) (fun j hj => by
        rw [List.getD_eq_getElem?_getD, List.getElem?_eq_getElem (by rw [HCM.out.dl]; exact hj)]
        exact HCM.out.dk _ (List.getElem_mem _)) (fun v hv => by rw [HCM.out.vl]; exact HFT64.out.vars v hv) _ (Nat.le_refl _) j hjl
      rw [← HVS.out] at h9
      have e : (varsF r).getD j 0 = v := by rw [List.getD_eq_getElem?_getD, hj]; rfl
      rw [e] at h9
      exact h9
    have hr12 := hC7.rb
    clear hbh hx6 hF6 hv7 eO6 hC7 HC6 HV5
    cases hb0 with
    | false =>
      have HAD : Hid (addF p.pool Fs r n vs S1 = S1) := by
        show _ = _
        unfold addF
        rw [← HHB.out, if_neg (by decide)]
      have hJ := HREST.out O6 V6 fa fn fc K (by rw [HAD.out]; exact HC7.out) HV7.out
      have HJ := hid_of hJ
      clear HREST hJ HC7 HV7
      go_upto_region 16 with fail
      refine wp_loop_f 129 (zL3 W0 (.pointer (some ⟨b, ob, none⟩)) (.int .i64 (n : Int)) (.slice da dn dc) (.slice ra rn rc) (.slice fa fn fc) b11 bd bw (.slice va i vc) i XE dom.length r dg vs fa fn fc K (addF p.pool Fs r n vs S1) va) (fun f _ => i - (intOf (f 17)).toNat) rfl ⟨⟨rfl, rfl, rfl, rfl, rfl, rfl, rfl, rfl⟩, rfl, 0, by omega, rfl, HJ⟩ ?_
      clear HJ
      intro F3 V8 hrel
      obtain ⟨⟨f0, f1, f2, f3, f11, f12, f13, f14⟩, f4, j, hj, f17, HI⟩ := hrel
      have H17 := hid_of f17
      rw [zframe129c, f0, f1, f2, f3, f4, f11, f12, f13, f14, f17]
      clear f0 f1 f2 f3 f4 f11 f12 f13 f14 f17
      obtain ⟨O8, hC8, hv8, hpre⟩ := HI.out
      have HC8 := hid_of hC8
      have HV8 := hid_of hv8
      have HPRE := hid_of hpre
      have hdl : dg.length = i := by rw [HCM.out.dl]; exact HVN.out.symm
      have HDL := hid_of hdl
      clear HI hC8 hv8 hpre hdl
      by_cases hji : j < i
      rotate_left 1
      · have hji' : ¬ (j : Int) < (i : Int) := by omega
        obtain rfl : j = i := by omega
        have jb : ((j : Int) == (j : Int)) = true := by simp
        have HP : Hid (Q (.returned (.slice fa fn fc)) V8) := by
          show Q _ _
          rw [HQ.out]
          have hnone : incF dom.length dg = none := incF_end (fun d hd => by
            obtain ⟨q, hq⟩ := List.mem_iff_getElem?.1 hd
            exact HPRE.out q d (by have := (List.getElem?_eq_some_iff.1 hq).1; have := HDL.out; omega) hq)
          refine ⟨fa, fn, fc, O8, K, _, rfl, .inr ⟨?_, HCM.out.go _ ?_⟩, HC8.out.fd, HSO.out⟩
          · rintro ⟨h1, h2⟩
            have h3 := HDN.out; rw [h2] at h3; have h4 : 0 = dn := h3; omega
          · rw [HVS.out]
            exact ConTo.stop dg vals S1 hnone
        clear HC8 HV8 HPRE
        go_wp2_with fail
        try go_ret
        exact HP.out
      have hji' : (j : Int) < (i : Int) := by omega
      have j0 : (0 : Int) ≤ (j : Int) := by omega
      have j2 : ((j : Int)).toNat = j := by omega
      obtain ⟨d, hd⟩ : ∃ d, dg[j]? = some d := ⟨_, List.getElem?_eq_getElem (by rw [HDL.out]; exact hji)⟩
      have hdk := HCM.out.dk d (List.mem_of_getElem? hd)
      rw [HDN.out] at hdk
      have hcur : (List.replicate j 0 ++ dg.drop j)[j]? = some d := by
        rw [List.getElem?_append_right (by simp), List.length_replicate, Nat.sub_self, List.getElem?_drop, Nat.add_zero]; exact hd
      have hcl : (List.replicate j 0 ++ dg.drop j).length = i := by rw [List.length_append, List.length_replicate, List.length_drop, HDL.out]; omega
      have hdb8 := HC8.out.db
      have hdf8 := HC8.out.df
      have hd8 := digC_at hcur
      obtain ⟨DC, eDC⟩ : ∃ DC, DC = digC (List.replicate j 0 ++ dg.drop j) := ⟨_, rfl⟩
      have hdcl : j < DC.length := by rw [eDC, digC_len, hcl]; exact hji
      have hdcl2 : j + 1 ≤ DC.length := hdcl
      have HSET : Hid (∀ y : Nat, splice DC j [.int .i64 (y : Int)] = digC ((List.replicate j 0 ++ dg.drop j).set j y)) := fun y => by rw [eDC]; exact digC_set y (by rw [hcl]; exact hji)
      rw [← eDC] at hdb8 hd8
      have w1 : IntKind.i64.wrap ((dn : Int) - 1) = (dn : Int) - 1 := by rw [IntKind.wrap_i64]; omega
      have HD := hid_of hd
      clear hd hcur hcl eDC
      by_cases hdd : d + 1 = dn
      · have e1 : ((d : Int) == (dn : Int) - 1) = true := by simp; omega
        have hs0 : splice DC j [.int .i64 0] = digC (List.replicate (j + 1) 0 ++ dg.drop (j + 1)) := by
          rw [show (Value.int .i64 0) = Value.int .i64 ((0 : Nat) : Int) from rfl, HSET.out 0]
          congr 1
          rw [List.set_append_right _ _ (by simp), List.length_replicate, Nat.sub_self]
          have hlt : j < dg.length := by have := HDL.out; omega
          rw [List.drop_eq_getElem_cons hlt, List.set_cons_zero, List.replicate_succ']
          simp
        have HJ : Hid (∃ O, CS W0 b11 bd bw XE O (put V8 bd (splice DC j [.int .i64 0])) (List.replicate (j + 1) 0 ++ dg.drop (j + 1)) vs fa fn fc K (addF p.pool Fs r n vs S1) ∧ Rw encZ 1 (core O (put V8 bd (splice DC j [.int .i64 0]))) va i (varsF r) ∧ ∀ q x, q < j + 1 → dg[q]? = some x → x + 1 = dom.length) := by
          rw [hs0]
          refine ⟨O8, HC8.out.setD _, HV8.out.sub (Sub.cores fun bb C hb ho => ⟨?_, ho⟩), fun q x hq hx => ?_⟩
          · rw [blk_put, if_neg (fun e => by rw [e, HC8.out.dO] at ho; cases ho)]; exact hb
          · by_cases e : q = j
            · rw [e, HD.out] at hx
              rw [← Option.some.inj hx, HDN.out]; exact hdd
            · exact HPRE.out q x (by omega) hx
        clear HSET hs0 HC8 HV8 HPRE HD hdd
        go_wp2_with fail
        refine ⟨rfl, rfl, ⟨⟨rfl, rfl, rfl, rfl, rfl, rfl, rfl, rfl⟩, rfl, j + 1, by omega, ?_, HJ⟩, ?_⟩
        · show Value.int .i64 _ = _
          go_num
        · show i - (intOf (Value.int .i64 _)).toNat < i - (intOf (F3 17)).toNat
          rw [H17.out]
          simp [intOf]; omega
      have e1 : ((d : Int) == (dn : Int) - 1) = false := by simp; omega
      have jb : ((j : Int) == (i : Int)) = false := by simp; omega
      have hinc : incF dom.length dg = some (List.replicate j 0 ++ (d + 1) :: dg.drop (j + 1)) := incF_at HPRE.out HD.out (by rw [HDN.out]; exact hdd)
      have hs0 : splice DC j [.int .i64 ((d : Int) + 1)] = digC (List.replicate j 0 ++ (d + 1) :: dg.drop (j + 1)) := by
        rw [show (Value.int .i64 ((d : Int) + 1)) = Value.int .i64 ((d + 1 : Nat) : Int) from by congr 1, HSET.out (d + 1)]
        congr 1
        rw [List.set_append_right _ _ (by simp), List.length_replicate, Nat.sub_self]
        have hlt : j < dg.length := by have := HDL.out; omega
        rw [List.drop_eq_getElem_cons hlt, List.set_cons_zero]
      obtain ⟨hrem, hdk2, hln2⟩ := incF_rem HCM.out.dk hinc
      have HI' : Hid (∃ O dgx vals K' S', CM W0 b11 bd bw XE p.pool dom Fs r n S (remM dom.length (List.replicate j 0 ++ (d + 1) :: dg.drop (j + 1))) O (put V8 bd (splice DC j [.int .i64 ((d : Int) + 1)])) dgx vals fa fn fc K' S' ∧ Rw encZ 1 (core O (put V8 bd (splice DC j [.int .i64 ((d : Int) + 1)]))) va i (varsF r)) := by
        rw [hs0]
        refine ⟨O8, _, vs, K, _, ⟨HC8.out.setD _, by rw [hln2]; exact HCM.out.dl, hdk2, HVL.out, HSO.out, rfl, fun out h9 => HCM.out.go out (ConTo.go dg _ vals S1 out hinc (by rw [← HVS.out]; exact h9))⟩, HV8.out.sub (Sub.cores fun bb C hb ho => ⟨?_, ho⟩)⟩
        rw [blk_put, if_neg (fun e => by rw [e, HC8.out.dO] at ho; cases ho)]; exact hb
      have HLT : Hid (remM dom.length (List.replicate j 0 ++ (d + 1) :: dg.drop (j + 1)) < μ) := by
        show _ < _
        rw [HCM.out.mu]; exact hrem
      have w2 : IntKind.i64.wrap ((d : Int) + 1) = (d : Int) + 1 := by rw [IntKind.wrap_i64]; omega
      clear HSET hs0 HC8 HV8 HPRE HD hinc hrem hdk2 hln2 hdd
      go_wp2_with fail
      exact ⟨rfl, rfl, ⟨_, ⟨⟨rfl, rfl, rfl, rfl, rfl, rfl, rfl, rfl⟩, fa, fn, fc, rfl, HI'⟩⟩, HMU.out _ _ _ ⟨⟨rfl, rfl, rfl, rfl, rfl, rfl, rfl, rfl⟩, fa, fn, fc, rfl, HI'⟩ HLT.out⟩

    | true =>
      have hsub6 : Sub W0 V6 := Sub.ext HC7.out.ext
      have hhd : r.head ∈ atomsOf r := List.mem_cons_self
      have hins := instance_any V6 b ob p (HE.out.pg.sub hsub6) x.head r.head (HRC.out.1.sub hsub6) (Nat.le_trans (HFIT.out.ar _ hhd) (by decide)) (some ⟨bw, 0, none⟩) 32 32 vs (by have h9 := strC_rw HC7.out.wb; rw [HVL.out] at h9; exact h9) (HFT64.out.fit HVL.out hhd)
      rw [← EHX.out] at hins
      obtain ⟨hd, ehd⟩ : ∃ hd, hd = instF p.pool vs r.head := ⟨_, rfl⟩
      rw [← ehd] at hins
      have EHD := hid_of ehd
      clear hsub6 hhd ehd
      go_wp2_with fail
      refine hins.mono ?_
      rintro e V7 ⟨ha, hc, rfl, hO7⟩
      dsimp only
      have hx7 := hO7.2.1
      have hC8 := HC7.out.grow hx7
      have hF7 : Fr (fun _ => False) O6 V6 (lab O6 V6.heap.size .no) V7 := Fr.grow hx7
      have hv8 : Rw encZ 1 (core (lab O6 V6.heap.size .no) V7) va i (varsF r) := HV7.out.sub (Sub.cores fun bb C hb ho => ⟨hF7.blk hb (fun e => e), (hF7.keep bb (blk_lt hb)).trans ho⟩)
      have hh8 : Rw encS 1 (core (lab O6 V6.heap.size .no) V7) ha hd.length hd := (hO7.rw el78).tocore (fun bb C e _ => lab_ge (row_at hO7.1 bb (by rw [e]; rfl)).1)
      obtain ⟨O7, eO7⟩ : ∃ O7, O7 = lab O6 V6.heap.size .no := ⟨_, rfl⟩
      rw [← eO7] at hC8 hv8 hh8
      have HC8 := hid_of hC8
      have HV8 := hid_of hv8
      have HH8 := hid_of hh8
      have hr13 := hC8.rb
      obtain ⟨hl, ehl⟩ : ∃ hl, hl = hd.length := ⟨_, rfl⟩
      rw [← ehl] at HH8 hh8 ⊢
      have EHL := hid_of ehl
      have hpf := HFIT.out.hp
      obtain ⟨Lz, hLz⟩ : ∃ Lz, Fs[r.head.pred]? = some Lz := ⟨_, List.getElem?_eq_getElem hpf⟩
      have hLg : Fs.getD r.head.pred [] = Lz := by rw [List.getD_eq_getElem?_getD, hLz]; rfl
      obtain ⟨bf, CF, sf, era, m1, m2, m3, m4⟩ := HE.out.fc.at hLz
      obtain ⟨sa, sn, sc⟩ := sf
      dsimp only at m3 m4
      subst era
      have hbf : blk V7 bf = some CF := (hC8.ext.blk (blk_lt m1)).trans m1
      have hsn : Lz.length = sn := m4.choose_spec.2.1
      obtain ⟨nn1, nn2⟩ := HE.out.ll Lz (List.mem_of_getElem? hLz)
      have hfn : Fs.length = rn := HE.out.fc.choose_spec.2.1
      have hmb := member_names V7 sa ha sn hl sc hc (by omega) Lz hd (m4.sub (Sub.ext hC8.ext)) nn2 (hh8.sub (Sub.core _ _))
      obtain ⟨pr, epr⟩ : ∃ pr, pr = r.head.pred := ⟨_, rfl⟩
      have EPR := hid_of epr
      have hprn : pr < rn := by rw [epr, ← hfn]; exact hpf
      rw [← epr] at m2 m3 xg0 hLg
      have HLG := hid_of hLg
      have c1 : (0 : Int) ≤ (pr : Int) := by omega
      have c2 : ((pr : Int)).toNat = pr := by omega
      have c3 : (pr : Int) < (rn : Int) := by omega
      have HKN : Hid (∀ kk, Calls Tryz.prog 121 #[.slice fa fn fc, .int .i64 (pr : Int), .slice ha hl hc] (V7.drewN kk) fun e W' => e = .returned (.bool (knB S1 pr hd)) ∧ ∃ k, W' = (V7.drewN kk).drewN k) := fun kk => by
        obtain ⟨h1, h2⟩ := (HC8.out.drewN kk).steps
        have h3 := HCM.out.so.bd HE.out.dl
        exact known_any (V7.drewN kk) fa fn fc (by omega) S1 h1 (fun s hs => Nat.le_trans (HCM.out.so.ok s hs).2.1 (by decide)) pr ha hl hc hd ((HH8.out.sub (Sub.core _ _)).sub (sub_drewN _ _))
      clear hins hO7 hx7 hC8 hF7 hv8 hh8 eO7 ehl hpf hLz m1 m4 hsn nn1 nn2 hfn epr hprn hLg HC7 HV7 hr12
      by_cases hmem : hd ∈ Lz
      · rw [decide_eq_true hmem] at hmb
        have HAD : Hid (addF p.pool Fs r n vs S1 = S1) := by
          show _ = _
          unfold addF
          rw [← HHB.out, if_pos rfl, ← EHD.out, ← EPR.out, HLG.out, if_pos hmem]
        clear HKN hmem
        go_wp2_with fail
        refine hmb.mono ?_
        rintro e V9 ⟨rfl, k9, rfl⟩
        dsimp only
        have hJ := HREST.out O7 (V7.drewN k9) fa fn fc K (by rw [HAD.out]; exact HC8.out.drewN k9) (HV8.out.sub (Sub.cores fun bb C hb ho => ⟨hb, ho⟩))
        have HJ := hid_of hJ
        clear HREST hJ HC8 HV8 HH8 hmb hr13
        go_upto_region 16 with fail
        refine wp_loop_f 129 (zL3 W0 (.pointer (some ⟨b, ob, none⟩)) (.int .i64 (n : Int)) (.slice da dn dc) (.slice (some ⟨bf, 0, none⟩) rn rc) (.slice fa fn fc) b11 bd bw (.slice va i vc) i XE dom.length r dg vs fa fn fc K (addF p.pool Fs r n vs S1) va) (fun f _ => i - (intOf (f 17)).toNat) rfl ⟨⟨rfl, rfl, rfl, rfl, rfl, rfl, rfl, rfl⟩, rfl, 0, by omega, rfl, HJ⟩ ?_
        clear HJ
        intro F3 V8 hrel
        obtain ⟨⟨f0, f1, f2, f3, f11, f12, f13, f14⟩, f4, j, hj, f17, HI⟩ := hrel
        have H17 := hid_of f17
        rw [zframe129c, f0, f1, f2, f3, f4, f11, f12, f13, f14, f17]
        clear f0 f1 f2 f3 f4 f11 f12 f13 f14 f17
        obtain ⟨O8, hC8, hv8, hpre⟩ := HI.out
        have HC8 := hid_of hC8
        have HV8 := hid_of hv8
        have HPRE := hid_of hpre
        have hdl : dg.length = i := by rw [HCM.out.dl]; exact HVN.out.symm
        have HDL := hid_of hdl
        clear HI hC8 hv8 hpre hdl
        by_cases hji : j < i
        rotate_left 1
        · have hji' : ¬ (j : Int) < (i : Int) := by omega
          obtain rfl : j = i := by omega
          have jb : ((j : Int) == (j : Int)) = true := by simp
          have HP : Hid (Q (.returned (.slice fa fn fc)) V8) := by
            show Q _ _
            rw [HQ.out]
            have hnone : incF dom.length dg = none := incF_end (fun d hd => by
              obtain ⟨q, hq⟩ := List.mem_iff_getElem?.1 hd
              exact HPRE.out q d (by have := (List.getElem?_eq_some_iff.1 hq).1; have := HDL.out; omega) hq)
            refine ⟨fa, fn, fc, O8, K, _, rfl, .inr ⟨?_, HCM.out.go _ ?_⟩, HC8.out.fd, HSO.out⟩
            · rintro ⟨h1, h2⟩
              have h3 := HDN.out; rw [h2] at h3; have h4 : 0 = dn := h3; omega
            · rw [HVS.out]
              exact ConTo.stop dg vals S1 hnone
          clear HC8 HV8 HPRE
          go_wp2_with fail
          try go_ret
          exact HP.out
        have hji' : (j : Int) < (i : Int) := by omega
        have j0 : (0 : Int) ≤ (j : Int) := by omega
        have j2 : ((j : Int)).toNat = j := by omega
        obtain ⟨d, hd⟩ : ∃ d, dg[j]? = some d := ⟨_, List.getElem?_eq_getElem (by rw [HDL.out]; exact hji)⟩
        have hdk := HCM.out.dk d (List.mem_of_getElem? hd)
        rw [HDN.out] at hdk
        have hcur : (List.replicate j 0 ++ dg.drop j)[j]? = some d := by
          rw [List.getElem?_append_right (by simp), List.length_replicate, Nat.sub_self, List.getElem?_drop, Nat.add_zero]; exact hd
        have hcl : (List.replicate j 0 ++ dg.drop j).length = i := by rw [List.length_append, List.length_replicate, List.length_drop, HDL.out]; omega
        have hdb8 := HC8.out.db
        have hdf8 := HC8.out.df
        have hd8 := digC_at hcur
        obtain ⟨DC, eDC⟩ : ∃ DC, DC = digC (List.replicate j 0 ++ dg.drop j) := ⟨_, rfl⟩
        have hdcl : j < DC.length := by rw [eDC, digC_len, hcl]; exact hji
        have hdcl2 : j + 1 ≤ DC.length := hdcl
        have HSET : Hid (∀ y : Nat, splice DC j [.int .i64 (y : Int)] = digC ((List.replicate j 0 ++ dg.drop j).set j y)) := fun y => by rw [eDC]; exact digC_set y (by rw [hcl]; exact hji)
        rw [← eDC] at hdb8 hd8
        have w1 : IntKind.i64.wrap ((dn : Int) - 1) = (dn : Int) - 1 := by rw [IntKind.wrap_i64]; omega
        have HD := hid_of hd
        clear hd hcur hcl eDC
        by_cases hdd : d + 1 = dn
        · have e1 : ((d : Int) == (dn : Int) - 1) = true := by simp; omega
          have hs0 : splice DC j [.int .i64 0] = digC (List.replicate (j + 1) 0 ++ dg.drop (j + 1)) := by
            rw [show (Value.int .i64 0) = Value.int .i64 ((0 : Nat) : Int) from rfl, HSET.out 0]
            congr 1
            rw [List.set_append_right _ _ (by simp), List.length_replicate, Nat.sub_self]
            have hlt : j < dg.length := by have := HDL.out; omega
            rw [List.drop_eq_getElem_cons hlt, List.set_cons_zero, List.replicate_succ']
            simp
          have HJ : Hid (∃ O, CS W0 b11 bd bw XE O (put V8 bd (splice DC j [.int .i64 0])) (List.replicate (j + 1) 0 ++ dg.drop (j + 1)) vs fa fn fc K (addF p.pool Fs r n vs S1) ∧ Rw encZ 1 (core O (put V8 bd (splice DC j [.int .i64 0]))) va i (varsF r) ∧ ∀ q x, q < j + 1 → dg[q]? = some x → x + 1 = dom.length) := by
            rw [hs0]
            refine ⟨O8, HC8.out.setD _, HV8.out.sub (Sub.cores fun bb C hb ho => ⟨?_, ho⟩), fun q x hq hx => ?_⟩
            · rw [blk_put, if_neg (fun e => by rw [e, HC8.out.dO] at ho; cases ho)]; exact hb
            · by_cases e : q = j
              · rw [e, HD.out] at hx
                rw [← Option.some.inj hx, HDN.out]; exact hdd
              · exact HPRE.out q x (by omega) hx
          clear HSET hs0 HC8 HV8 HPRE HD hdd
          go_wp2_with fail
          refine ⟨rfl, rfl, ⟨⟨rfl, rfl, rfl, rfl, rfl, rfl, rfl, rfl⟩, rfl, j + 1, by omega, ?_, HJ⟩, ?_⟩
          · show Value.int .i64 _ = _
            go_num
          · show i - (intOf (Value.int .i64 _)).toNat < i - (intOf (F3 17)).toNat
            rw [H17.out]
            simp [intOf]; omega
        have e1 : ((d : Int) == (dn : Int) - 1) = false := by simp; omega
        have jb : ((j : Int) == (i : Int)) = false := by simp; omega
        have hinc : incF dom.length dg = some (List.replicate j 0 ++ (d + 1) :: dg.drop (j + 1)) := incF_at HPRE.out HD.out (by rw [HDN.out]; exact hdd)
        have hs0 : splice DC j [.int .i64 ((d : Int) + 1)] = digC (List.replicate j 0 ++ (d + 1) :: dg.drop (j + 1)) := by
          rw [show (Value.int .i64 ((d : Int) + 1)) = Value.int .i64 ((d + 1 : Nat) : Int) from by congr 1, HSET.out (d + 1)]
          congr 1
          rw [List.set_append_right _ _ (by simp), List.length_replicate, Nat.sub_self]
          have hlt : j < dg.length := by have := HDL.out; omega
          rw [List.drop_eq_getElem_cons hlt, List.set_cons_zero]
        obtain ⟨hrem, hdk2, hln2⟩ := incF_rem HCM.out.dk hinc
        have HI' : Hid (∃ O dgx vals K' S', CM W0 b11 bd bw XE p.pool dom Fs r n S (remM dom.length (List.replicate j 0 ++ (d + 1) :: dg.drop (j + 1))) O (put V8 bd (splice DC j [.int .i64 ((d : Int) + 1)])) dgx vals fa fn fc K' S' ∧ Rw encZ 1 (core O (put V8 bd (splice DC j [.int .i64 ((d : Int) + 1)]))) va i (varsF r)) := by
          rw [hs0]
          refine ⟨O8, _, vs, K, _, ⟨HC8.out.setD _, by rw [hln2]; exact HCM.out.dl, hdk2, HVL.out, HSO.out, rfl, fun out h9 => HCM.out.go out (ConTo.go dg _ vals S1 out hinc (by rw [← HVS.out]; exact h9))⟩, HV8.out.sub (Sub.cores fun bb C hb ho => ⟨?_, ho⟩)⟩
          rw [blk_put, if_neg (fun e => by rw [e, HC8.out.dO] at ho; cases ho)]; exact hb
        have HLT : Hid (remM dom.length (List.replicate j 0 ++ (d + 1) :: dg.drop (j + 1)) < μ) := by
          show _ < _
          rw [HCM.out.mu]; exact hrem
        have w2 : IntKind.i64.wrap ((d : Int) + 1) = (d : Int) + 1 := by rw [IntKind.wrap_i64]; omega
        clear HSET hs0 HC8 HV8 HPRE HD hinc hrem hdk2 hln2 hdd
        go_wp2_with fail
        exact ⟨rfl, rfl, ⟨_, ⟨⟨rfl, rfl, rfl, rfl, rfl, rfl, rfl, rfl⟩, fa, fn, fc, rfl, HI'⟩⟩, HMU.out _ _ _ ⟨⟨rfl, rfl, rfl, rfl, rfl, rfl, rfl, rfl⟩, fa, fn, fc, rfl, HI'⟩ HLT.out⟩

      rw [decide_eq_false hmem] at hmb
      have HNM := hid_of hmem
      clear hmem
      go_wp2_with fail
      refine hmb.mono ?_
      rintro e V9 ⟨rfl, k9, rfl⟩
      dsimp only
      have hkn := HKN.out k9
      clear hmb HKN
      cases hkb : knB S1 pr hd with
      | true =>
        rw [hkb] at hkn
        have HAD : Hid (addF p.pool Fs r n vs S1 = S1) := by
          show _ = _
          unfold addF
          rw [← HHB.out, if_pos rfl, ← EHD.out, ← EPR.out, HLG.out, if_neg HNM.out, if_pos hkb]
        clear hkb
        go_wp2_with fail
        refine hkn.mono ?_
        rintro e V10 ⟨rfl, k10, rfl⟩
        dsimp only
        have hJ := HREST.out O7 (V7.drewN (k9 + k10)) fa fn fc K (by rw [HAD.out]; exact HC8.out.drewN (k9 + k10)) (HV8.out.sub (Sub.cores fun bb C hb ho => ⟨hb, ho⟩))
        have HJ := hid_of hJ
        clear HREST hJ HC8 HV8 HH8 hkn hr13
        go_upto_region 16 with fail
        refine wp_loop_f 129 (zL3 W0 (.pointer (some ⟨b, ob, none⟩)) (.int .i64 (n : Int)) (.slice da dn dc) (.slice (some ⟨bf, 0, none⟩) rn rc) (.slice fa fn fc) b11 bd bw (.slice va i vc) i XE dom.length r dg vs fa fn fc K (addF p.pool Fs r n vs S1) va) (fun f _ => i - (intOf (f 17)).toNat) rfl ⟨⟨rfl, rfl, rfl, rfl, rfl, rfl, rfl, rfl⟩, rfl, 0, by omega, rfl, HJ⟩ ?_
        clear HJ
        intro F3 V8 hrel
        obtain ⟨⟨f0, f1, f2, f3, f11, f12, f13, f14⟩, f4, j, hj, f17, HI⟩ := hrel
        have H17 := hid_of f17
        rw [zframe129c, f0, f1, f2, f3, f4, f11, f12, f13, f14, f17]
        clear f0 f1 f2 f3 f4 f11 f12 f13 f14 f17
        obtain ⟨O8, hC8, hv8, hpre⟩ := HI.out
        have HC8 := hid_of hC8
        have HV8 := hid_of hv8
        have HPRE := hid_of hpre
        have hdl : dg.length = i := by rw [HCM.out.dl]; exact HVN.out.symm
        have HDL := hid_of hdl
        clear HI hC8 hv8 hpre hdl
        by_cases hji : j < i
        rotate_left 1
        · have hji' : ¬ (j : Int) < (i : Int) := by omega
          obtain rfl : j = i := by omega
          have jb : ((j : Int) == (j : Int)) = true := by simp
          have HP : Hid (Q (.returned (.slice fa fn fc)) V8) := by
            show Q _ _
            rw [HQ.out]
            have hnone : incF dom.length dg = none := incF_end (fun d hd => by
              obtain ⟨q, hq⟩ := List.mem_iff_getElem?.1 hd
              exact HPRE.out q d (by have := (List.getElem?_eq_some_iff.1 hq).1; have := HDL.out; omega) hq)
            refine ⟨fa, fn, fc, O8, K, _, rfl, .inr ⟨?_, HCM.out.go _ ?_⟩, HC8.out.fd, HSO.out⟩
            · rintro ⟨h1, h2⟩
              have h3 := HDN.out; rw [h2] at h3; have h4 : 0 = dn := h3; omega
            · rw [HVS.out]
              exact ConTo.stop dg vals S1 hnone
          clear HC8 HV8 HPRE
          go_wp2_with fail
          try go_ret
          exact HP.out
        have hji' : (j : Int) < (i : Int) := by omega
        have j0 : (0 : Int) ≤ (j : Int) := by omega
        have j2 : ((j : Int)).toNat = j := by omega
        obtain ⟨d, hd⟩ : ∃ d, dg[j]? = some d := ⟨_, List.getElem?_eq_getElem (by rw [HDL.out]; exact hji)⟩
        have hdk := HCM.out.dk d (List.mem_of_getElem? hd)
        rw [HDN.out] at hdk
        have hcur : (List.replicate j 0 ++ dg.drop j)[j]? = some d := by
          rw [List.getElem?_append_right (by simp), List.length_replicate, Nat.sub_self, List.getElem?_drop, Nat.add_zero]; exact hd
        have hcl : (List.replicate j 0 ++ dg.drop j).length = i := by rw [List.length_append, List.length_replicate, List.length_drop, HDL.out]; omega
        have hdb8 := HC8.out.db
        have hdf8 := HC8.out.df
        have hd8 := digC_at hcur
        obtain ⟨DC, eDC⟩ : ∃ DC, DC = digC (List.replicate j 0 ++ dg.drop j) := ⟨_, rfl⟩
        have hdcl : j < DC.length := by rw [eDC, digC_len, hcl]; exact hji
        have hdcl2 : j + 1 ≤ DC.length := hdcl
        have HSET : Hid (∀ y : Nat, splice DC j [.int .i64 (y : Int)] = digC ((List.replicate j 0 ++ dg.drop j).set j y)) := fun y => by rw [eDC]; exact digC_set y (by rw [hcl]; exact hji)
        rw [← eDC] at hdb8 hd8
        have w1 : IntKind.i64.wrap ((dn : Int) - 1) = (dn : Int) - 1 := by rw [IntKind.wrap_i64]; omega
        have HD := hid_of hd
        clear hd hcur hcl eDC
        by_cases hdd : d + 1 = dn
        · have e1 : ((d : Int) == (dn : Int) - 1) = true := by simp; omega
          have hs0 : splice DC j [.int .i64 0] = digC (List.replicate (j + 1) 0 ++ dg.drop (j + 1)) := by
            rw [show (Value.int .i64 0) = Value.int .i64 ((0 : Nat) : Int) from rfl, HSET.out 0]
            congr 1
            rw [List.set_append_right _ _ (by simp), List.length_replicate, Nat.sub_self]
            have hlt : j < dg.length := by have := HDL.out; omega
            rw [List.drop_eq_getElem_cons hlt, List.set_cons_zero, List.replicate_succ']
            simp
          have HJ : Hid (∃ O, CS W0 b11 bd bw XE O (put V8 bd (splice DC j [.int .i64 0])) (List.replicate (j + 1) 0 ++ dg.drop (j + 1)) vs fa fn fc K (addF p.pool Fs r n vs S1) ∧ Rw encZ 1 (core O (put V8 bd (splice DC j [.int .i64 0]))) va i (varsF r) ∧ ∀ q x, q < j + 1 → dg[q]? = some x → x + 1 = dom.length) := by
            rw [hs0]
            refine ⟨O8, HC8.out.setD _, HV8.out.sub (Sub.cores fun bb C hb ho => ⟨?_, ho⟩), fun q x hq hx => ?_⟩
            · rw [blk_put, if_neg (fun e => by rw [e, HC8.out.dO] at ho; cases ho)]; exact hb
            · by_cases e : q = j
              · rw [e, HD.out] at hx
                rw [← Option.some.inj hx, HDN.out]; exact hdd
              · exact HPRE.out q x (by omega) hx
          clear HSET hs0 HC8 HV8 HPRE HD hdd
          go_wp2_with fail
          refine ⟨rfl, rfl, ⟨⟨rfl, rfl, rfl, rfl, rfl, rfl, rfl, rfl⟩, rfl, j + 1, by omega, ?_, HJ⟩, ?_⟩
          · show Value.int .i64 _ = _
            go_num
          · show i - (intOf (Value.int .i64 _)).toNat < i - (intOf (F3 17)).toNat
            rw [H17.out]
            simp [intOf]; omega
        have e1 : ((d : Int) == (dn : Int) - 1) = false := by simp; omega
        have jb : ((j : Int) == (i : Int)) = false := by simp; omega
        have hinc : incF dom.length dg = some (List.replicate j 0 ++ (d + 1) :: dg.drop (j + 1)) := incF_at HPRE.out HD.out (by rw [HDN.out]; exact hdd)
        have hs0 : splice DC j [.int .i64 ((d : Int) + 1)] = digC (List.replicate j 0 ++ (d + 1) :: dg.drop (j + 1)) := by
          rw [show (Value.int .i64 ((d : Int) + 1)) = Value.int .i64 ((d + 1 : Nat) : Int) from by congr 1, HSET.out (d + 1)]
          congr 1
          rw [List.set_append_right _ _ (by simp), List.length_replicate, Nat.sub_self]
          have hlt : j < dg.length := by have := HDL.out; omega
          rw [List.drop_eq_getElem_cons hlt, List.set_cons_zero]
        obtain ⟨hrem, hdk2, hln2⟩ := incF_rem HCM.out.dk hinc
        have HI' : Hid (∃ O dgx vals K' S', CM W0 b11 bd bw XE p.pool dom Fs r n S (remM dom.length (List.replicate j 0 ++ (d + 1) :: dg.drop (j + 1))) O (put V8 bd (splice DC j [.int .i64 ((d : Int) + 1)])) dgx vals fa fn fc K' S' ∧ Rw encZ 1 (core O (put V8 bd (splice DC j [.int .i64 ((d : Int) + 1)]))) va i (varsF r)) := by
          rw [hs0]
          refine ⟨O8, _, vs, K, _, ⟨HC8.out.setD _, by rw [hln2]; exact HCM.out.dl, hdk2, HVL.out, HSO.out, rfl, fun out h9 => HCM.out.go out (ConTo.go dg _ vals S1 out hinc (by rw [← HVS.out]; exact h9))⟩, HV8.out.sub (Sub.cores fun bb C hb ho => ⟨?_, ho⟩)⟩
          rw [blk_put, if_neg (fun e => by rw [e, HC8.out.dO] at ho; cases ho)]; exact hb
        have HLT : Hid (remM dom.length (List.replicate j 0 ++ (d + 1) :: dg.drop (j + 1)) < μ) := by
          show _ < _
          rw [HCM.out.mu]; exact hrem
        have w2 : IntKind.i64.wrap ((d : Int) + 1) = (d : Int) + 1 := by rw [IntKind.wrap_i64]; omega
        clear HSET hs0 HC8 HV8 HPRE HD hinc hrem hdk2 hln2 hdd
        go_wp2_with fail
        exact ⟨rfl, rfl, ⟨_, ⟨⟨rfl, rfl, rfl, rfl, rfl, rfl, rfl, rfl⟩, fa, fn, fc, rfl, HI'⟩⟩, HMU.out _ _ _ ⟨⟨rfl, rfl, rfl, rfl, rfl, rfl, rfl, rfl⟩, fa, fn, fc, rfl, HI'⟩ HLT.out⟩

      | false =>
        rw [hkb] at hkn
        have HAD : Hid (addF p.pool Fs r n vs S1 = S1 ++ [⟨pr, hd, n, vs⟩]) := by
          show _ = _
          unfold addF
          rw [← HHB.out, if_pos rfl, ← EHD.out, ← EPR.out, HLG.out, if_neg HNM.out, if_neg (by rw [hkb]; decide)]
        clear hkb
        go_wp2_with fail
        refine hkn.mono ?_
        rintro e V10 ⟨rfl, k10, e10⟩
        dsimp only
        have hC10 : CS W0 b11 bd bw XE O7 V10 dg vs fa fn fc K S1 := by rw [e10]; exact (HC8.out.drewN k9).drewN k10
        have hv10 : Rw encZ 1 (core O7 V10) va i (varsF r) := by rw [e10]; exact HV8.out.sub (Sub.cores fun bb C hb ho => ⟨hb, ho⟩)
        have hh10 : Rw encS 1 (core O7 V10) ha hl hd := by rw [e10]; exact HH8.out.sub (Sub.cores fun bb C hb ho => ⟨hb, ho⟩)
        clear hkn HC8 HV8 HH8 hr13 hbf e10
        have hx1 : V10.drew.Extends (V10.drew.alloc (.cells #[] 9)) := extends_alloc (ext_Ext (Ext.refl _)) _
        have hrow0 : (V10.drew.alloc (.cells #[] 9)).ownsRow V10.drew.heap.size 9 1 (.slice (some ⟨V10.drew.heap.size, 0, none⟩) 0 0) ([] : List (List UInt8)).length (([] : List (List UInt8)).flatMap encS) := World.ownsRow_made V10.drew #[] 0 (Nat.le_refl _) (Nat.zero_le _) rfl
        have hrb10 := hC10.rb
        have hwb10 := hC10.wb
        have hvrw : Rw encS 1 (V10.drew.alloc (.cells #[] 9)) (some ⟨bw, 0, none⟩) vs.length vs := (strC_rw (W := V10.drew) hwb10).sub (Sub.ext hx1)
        obtain ⟨ca, cn, cc, A2, hrun1, ho1, hg1⟩ := appM el50 V10.drew.heap.size (V10.drew.alloc (.cells #[] 9)) 43 _ [] vs (some ⟨bw, 0, none⟩) 32 hrow0 hvrw hx1.size (by simp; rw [HVL.out]; omega)
        have hcn : cn = 32 := by
          have h9 := (rw_own encS_len ho1).1.1
          rw [← h9]; exact HVL.out
        rw [HVL.out] at hrun1
        subst hcn
        have hxA : V10.drew.Extends A2 := grown_ext hx1 hg1 (fun k hk => Nat.le_of_eq (Option.some.inj hk))
        have hCA := (hC10.drewN 1).grow (V' := A2) hxA
        have hFA : Fr (fun _ => False) O7 V10 (lab O7 (V10.drewN 1).heap.size .no) A2 := by
          have h9 : Fr (fun _ => False) O7 V10.drew (lab O7 V10.drew.heap.size .no) A2 := Fr.grow hxA
          exact ⟨h9.os, h9.tape, h9.output, h9.size, h9.keep, h9.block⟩
        have hsubA : Sub (core O7 V10) (core (lab O7 (V10.drewN 1).heap.size .no) A2) := Sub.cores fun bb C hb ho => ⟨hFA.blk hb (fun e => e), (hFA.keep bb (blk_lt hb)).trans ho⟩
        have hvv : Rw encS 1 (core (lab O7 (V10.drewN 1).heap.size .no) A2) ca 32 vs := (rw_own encS_len ho1).1.tocore (fun bb C e _ => lab_ge (row_at ho1 bb (by rw [e]; rfl)).1)
        have hvA := hv10.sub hsubA
        obtain ⟨O9, eO9⟩ : ∃ O9, O9 = lab O7 (V10.drewN 1).heap.size .no := ⟨_, rfl⟩
        have hhA := hh10.sub hsubA
        rw [← eO9] at hCA hvv hvA hhA
        have h280 := HCM.out.so.bd HE.out.dl
        obtain ⟨fa', fc', V11, O11, hrun2, hC11, hs11⟩ := hCA.app ⟨(pr : Int), ⟨ha, hl, hc⟩, (n : Int), ⟨ca, 32, cc⟩⟩ ⟨pr, hd, n, vs⟩ ⟨rfl, rfl, hhA, hvv⟩ h280 #[.int .i64 (pr : Int), .slice ha hl hc, .int .i64 (n : Int), .slice ca 32 cc] rfl
        have hJ := HREST.out O11 V11 fa' (fn + 1) fc' _ (by rw [HAD.out]; exact hC11) (hvA.sub hs11)
        have HJ := hid_of hJ
        obtain ⟨K2, eK2⟩ : ∃ K2, K2 = K ++ [(⟨(pr : Int), ⟨ha, hl, hc⟩, (n : Int), ⟨ca, 32, cc⟩⟩ : MStep)] := ⟨_, rfl⟩
        rw [← eK2] at HJ
        have hSa : blk (V10.drew.alloc (.cells #[] 9)) b11 = some XE ∧ blk (V10.drew.alloc (.cells #[] 9)) bw = some (strC vs) := ⟨(hx1.blk (blk_lt hrb10)).trans hrb10, (hx1.blk (blk_lt hwb10)).trans hwb10⟩
        have hSb : blk A2 b11 = some XE ∧ blk A2 bw = some (strC vs) := ⟨hCA.rb, hCA.wb⟩
        have hSc : ∀ A, blk (A2.alloc (.cells A 161)) b11 = some XE ∧ blk (A2.alloc (.cells A 161)) bw = some (strC vs) := fun A => by
          have h9 : A2.Extends (A2.alloc (.cells A 161)) := extends_alloc (ext_Ext (Ext.refl _)) _
          exact ⟨(h9.blk (blk_lt hCA.rb)).trans hCA.rb, (h9.blk (blk_lt hCA.wb)).trans hCA.wb⟩
        have hSd : blk V11 b11 = some XE ∧ blk V11 bw = some (strC vs) := ⟨hC11.rb, hC11.wb⟩
        obtain ⟨TV, eTV⟩ : ∃ TV, TV = strC vs := ⟨_, rfl⟩
        rw [← eTV] at hSa hSb hSd hwb10
        simp only [← eTV] at hSc
        clear HREST hJ hC10 hv10 hh10 hrow0 hvrw ho1 hg1 hxA hCA hFA hsubA hvv hvA eO9 hhA h280 hC11 hs11 hx1 HAD eK2 eTV
        go_upto_region 14 with fail
        repeat go_step
        refine wp_region_held_drew (S := fun W' => blk W' b11 = some XE ∧ blk W' bw = some TV) (by kernel_rfl) ⟨hrb10, hwb10⟩ (fun hHeld => ?_)
        refine wpAnyH_take (i := 0) (oi := ⟨_, _, _, _, _, _⟩) (v := ?_) rfl (by kernel_rfl) (by kernel_rfl) (by kernel_rfl) (fun _ _ _ h => h) (Or.inl ⟨by rfl, ?_⟩) (by assumption) ?_
        rotate_left 1
        · intro W' hSw
          obtain ⟨hS1, hS2⟩ := hSw
          go_simp
          try with_reducible rfl
        try simp only [Act.put, List.setIfInBounds_toArray, List.set_cons_zero, List.set_cons_succ]
        refine wpAnyH_take (i := 1) (oi := ⟨_, _, _, _, _, _⟩) (v := ?_) rfl (by kernel_rfl) (by kernel_rfl) (by kernel_rfl) (fun _ _ _ h => h) (Or.inl ⟨by rfl, ?_⟩) (by assumption) ?_
        rotate_left 1
        · intro W' hSw
          obtain ⟨hS1, hS2⟩ := hSw
          go_simp
          try with_reducible rfl
        try simp only [Act.put, List.setIfInBounds_toArray, List.set_cons_zero, List.set_cons_succ]
        refine wpAnyH_take (i := 2) (oi := ⟨_, _, _, _, _, _⟩) (v := ?_) rfl (by kernel_rfl) (by kernel_rfl) (by kernel_rfl) (fun _ _ _ h => h) (Or.inl ⟨by rfl, ?_⟩) (by assumption) ?_
        rotate_left 1
        · intro W' hSw
          obtain ⟨hS1, hS2⟩ := hSw
          go_simp
          try with_reducible rfl
        try simp only [Act.put, List.setIfInBounds_toArray, List.set_cons_zero, List.set_cons_succ]
        refine wpAnyH_take (i := 3) (oi := ⟨_, _, _, _, _, _⟩) (v := ?_) rfl (by kernel_rfl) (by kernel_rfl) (by kernel_rfl) (fun _ _ _ h => h) (Or.inl ⟨by rfl, ?_⟩) (by assumption) ?_
        rotate_left 1
        · intro W' hSw
          obtain ⟨hS1, hS2⟩ := hSw
          go_simp
          try with_reducible rfl
        try simp only [Act.put, List.setIfInBounds_toArray, List.set_cons_zero, List.set_cons_succ]
        refine wpAnyH_take (i := 4) (oi := ⟨_, _, _, _, _, _⟩) (v := ?_) rfl (by kernel_rfl) (by kernel_rfl) (by kernel_rfl) (fun _ _ _ h => h) (Or.inl ⟨by rfl, ?_⟩) (by assumption) ?_
        rotate_left 1
        · intro W' hSw
          obtain ⟨hS1, hS2⟩ := hSw
          go_simp
          try with_reducible rfl
        try simp only [Act.put, List.setIfInBounds_toArray, List.set_cons_zero, List.set_cons_succ]
        refine wpAnyH_take (i := 5) (oi := ⟨_, _, _, _, _, _⟩) (v := ?_) rfl (by kernel_rfl) (by kernel_rfl) (by kernel_rfl) (fun _ _ _ h => h) (Or.inl ⟨by rfl, ?_⟩) (by assumption) ?_
        rotate_left 1
        · intro W' hSw
          obtain ⟨hS1, hS2⟩ := hSw
          go_simp
          try with_reducible rfl
        try simp only [Act.put, List.setIfInBounds_toArray, List.set_cons_zero, List.set_cons_succ]
        refine wpAnyH_take (i := 7) (oi := ⟨_, _, _, _, _, _⟩) (v := ?_) rfl (by kernel_rfl) (by kernel_rfl) (by kernel_rfl) (fun _ _ _ h => h) (Or.inl ⟨by rfl, ?_⟩) (by assumption) ?_
        rotate_left 1
        · intro W' hSw
          obtain ⟨hS1, hS2⟩ := hSw
          go_simp
          try with_reducible rfl
        try simp only [Act.put, List.setIfInBounds_toArray, List.set_cons_zero, List.set_cons_succ]
        refine wpAnyH_ready (rs := [6]) (by kernel_rfl) (by simp) ?_
        refine AllReadyH.cons (o := ⟨_, _, _, _, _, _⟩) rfl (fun K' hK => ?_) AllReadyH.nil
        go_simp
        refine hK.out _ _ hSa (fun hHeld => ?_)
        clear hK K'
        try simp only [Act.put, List.setIfInBounds_toArray, List.set_cons_zero, List.set_cons_succ]
        refine wpAnyH_ready (rs := [8]) (by kernel_rfl) (by simp) ?_
        refine AllReadyH.cons (o := ⟨_, _, _, _, _, _⟩) rfl (fun K' hK => ?_) AllReadyH.nil
        refine wp_append_run _ _ 43 rfl _ _ _ _ rfl rfl hrun1 ?_
        refine hK.out _ _ hSb (fun hHeld => ?_)
        clear hK K'
        try simp only [Act.put, List.setIfInBounds_toArray, List.set_cons_zero, List.set_cons_succ]
        refine wpAnyH_take (i := 9) (oi := ⟨_, _, _, _, _, _⟩) (v := ?_) rfl (by kernel_rfl) (by kernel_rfl) (by kernel_rfl) (fun _ _ _ h => h) (Or.inl ⟨by rfl, ?_⟩) (by assumption) ?_
        rotate_left 1
        · intro W' hSw
          obtain ⟨hS1, hS2⟩ := hSw
          go_simp
          try with_reducible rfl
        try simp only [Act.put, List.setIfInBounds_toArray, List.set_cons_zero, List.set_cons_succ]
        refine wpAnyH_ready (rs := [10]) (by kernel_rfl) (by simp) ?_
        refine AllReadyH.cons (o := ⟨_, _, _, _, _, _⟩) rfl (fun K' hK => ?_) AllReadyH.nil
        go_simp
        refine hK.out _ _ (hSc _) (fun hHeld => ?_)
        clear hK K'
        try simp only [Act.put, List.setIfInBounds_toArray, List.set_cons_zero, List.set_cons_succ]
        refine wpAnyH_ready (rs := [11]) (by kernel_rfl) (by simp) ?_
        refine AllReadyH.cons (o := ⟨_, _, _, _, _, _⟩) rfl (fun K' hK => ?_) AllReadyH.nil
        refine wp_append_run _ _ 53 rfl _ _ _ _ rfl rfl hrun2 ?_
        refine hK.out _ _ hSd (fun hHeld => ?_)
        clear hK K'
        try simp only [Act.put, List.setIfInBounds_toArray, List.set_cons_zero, List.set_cons_succ]
        refine wpAnyH_take (i := 12) (oi := ⟨_, _, _, _, _, _⟩) (v := ?_) rfl (by kernel_rfl) (by kernel_rfl) (by kernel_rfl) (fun _ _ _ h => h) (Or.inl ⟨by rfl, ?_⟩) (by assumption) ?_
        rotate_left 1
        · intro W' hSw
          obtain ⟨hS1, hS2⟩ := hSw
          go_simp
          try with_reducible rfl
        try simp only [Act.put, List.setIfInBounds_toArray, List.set_cons_zero, List.set_cons_succ]
        refine wpAnyH_done (by kernel_rfl) ?_ _
        clear hHeld hSa hSb hSc hSd hrun1 hrun2
        go_upto_region 16 with fail
        refine wp_loop_f 129 (zL3 W0 (.pointer (some ⟨b, ob, none⟩)) (.int .i64 (n : Int)) (.slice da dn dc) (.slice (some ⟨bf, 0, none⟩) rn rc) (.slice fa' (fn + 1) fc') b11 bd bw (.slice va i vc) i XE dom.length r dg vs fa' (fn + 1) fc' K2 (addF p.pool Fs r n vs S1) va) (fun f _ => i - (intOf (f 17)).toNat) rfl ⟨⟨rfl, rfl, rfl, rfl, rfl, rfl, rfl, rfl⟩, rfl, 0, by omega, rfl, HJ⟩ ?_
        clear HJ
        intro F3 V8 hrel
        obtain ⟨⟨f0, f1, f2, f3, f11, f12, f13, f14⟩, f4, j, hj, f17, HI⟩ := hrel
        have H17 := hid_of f17
        rw [zframe129c, f0, f1, f2, f3, f4, f11, f12, f13, f14, f17]
        clear f0 f1 f2 f3 f4 f11 f12 f13 f14 f17
        obtain ⟨O8, hC8, hv8, hpre⟩ := HI.out
        have HC8 := hid_of hC8
        have HV8 := hid_of hv8
        have HPRE := hid_of hpre
        have hdl : dg.length = i := by rw [HCM.out.dl]; exact HVN.out.symm
        have HDL := hid_of hdl
        clear HI hC8 hv8 hpre hdl
        by_cases hji : j < i
        rotate_left 1
        · have hji' : ¬ (j : Int) < (i : Int) := by omega
          obtain rfl : j = i := by omega
          have jb : ((j : Int) == (j : Int)) = true := by simp
          have HP : Hid (Q (.returned (.slice fa' (fn + 1) fc')) V8) := by
            show Q _ _
            rw [HQ.out]
            have hnone : incF dom.length dg = none := incF_end (fun d hd => by
              obtain ⟨q, hq⟩ := List.mem_iff_getElem?.1 hd
              exact HPRE.out q d (by have := (List.getElem?_eq_some_iff.1 hq).1; have := HDL.out; omega) hq)
            refine ⟨fa', fn + 1, fc', O8, K2, _, rfl, .inr ⟨?_, HCM.out.go _ ?_⟩, HC8.out.fd, HSO.out⟩
            · rintro ⟨h1, h2⟩
              have h3 := HDN.out; rw [h2] at h3; have h4 : 0 = dn := h3; omega
            · rw [HVS.out]
              exact ConTo.stop dg vals S1 hnone
          clear HC8 HV8 HPRE
          go_wp2_with fail
          try go_ret
          exact HP.out
        have hji' : (j : Int) < (i : Int) := by omega
        have j0 : (0 : Int) ≤ (j : Int) := by omega
        have j2 : ((j : Int)).toNat = j := by omega
        obtain ⟨d, hd⟩ : ∃ d, dg[j]? = some d := ⟨_, List.getElem?_eq_getElem (by rw [HDL.out]; exact hji)⟩
        have hdk := HCM.out.dk d (List.mem_of_getElem? hd)
        rw [HDN.out] at hdk
        have hcur : (List.replicate j 0 ++ dg.drop j)[j]? = some d := by
          rw [List.getElem?_append_right (by simp), List.length_replicate, Nat.sub_self, List.getElem?_drop, Nat.add_zero]; exact hd
        have hcl : (List.replicate j 0 ++ dg.drop j).length = i := by rw [List.length_append, List.length_replicate, List.length_drop, HDL.out]; omega
        have hdb8 := HC8.out.db
        have hdf8 := HC8.out.df
        have hd8 := digC_at hcur
        obtain ⟨DC, eDC⟩ : ∃ DC, DC = digC (List.replicate j 0 ++ dg.drop j) := ⟨_, rfl⟩
        have hdcl : j < DC.length := by rw [eDC, digC_len, hcl]; exact hji
        have hdcl2 : j + 1 ≤ DC.length := hdcl
        have HSET : Hid (∀ y : Nat, splice DC j [.int .i64 (y : Int)] = digC ((List.replicate j 0 ++ dg.drop j).set j y)) := fun y => by rw [eDC]; exact digC_set y (by rw [hcl]; exact hji)
        rw [← eDC] at hdb8 hd8
        have w1 : IntKind.i64.wrap ((dn : Int) - 1) = (dn : Int) - 1 := by rw [IntKind.wrap_i64]; omega
        have HD := hid_of hd
        clear hd hcur hcl eDC
        by_cases hdd : d + 1 = dn
        · have e1 : ((d : Int) == (dn : Int) - 1) = true := by simp; omega
          have hs0 : splice DC j [.int .i64 0] = digC (List.replicate (j + 1) 0 ++ dg.drop (j + 1)) := by
            rw [show (Value.int .i64 0) = Value.int .i64 ((0 : Nat) : Int) from rfl, HSET.out 0]
            congr 1
            rw [List.set_append_right _ _ (by simp), List.length_replicate, Nat.sub_self]
            have hlt : j < dg.length := by have := HDL.out; omega
            rw [List.drop_eq_getElem_cons hlt, List.set_cons_zero, List.replicate_succ']
            simp
          have HJ : Hid (∃ O, CS W0 b11 bd bw XE O (put V8 bd (splice DC j [.int .i64 0])) (List.replicate (j + 1) 0 ++ dg.drop (j + 1)) vs fa' (fn + 1) fc' K2 (addF p.pool Fs r n vs S1) ∧ Rw encZ 1 (core O (put V8 bd (splice DC j [.int .i64 0]))) va i (varsF r) ∧ ∀ q x, q < j + 1 → dg[q]? = some x → x + 1 = dom.length) := by
            rw [hs0]
            refine ⟨O8, HC8.out.setD _, HV8.out.sub (Sub.cores fun bb C hb ho => ⟨?_, ho⟩), fun q x hq hx => ?_⟩
            · rw [blk_put, if_neg (fun e => by rw [e, HC8.out.dO] at ho; cases ho)]; exact hb
            · by_cases e : q = j
              · rw [e, HD.out] at hx
                rw [← Option.some.inj hx, HDN.out]; exact hdd
              · exact HPRE.out q x (by omega) hx
          clear HSET hs0 HC8 HV8 HPRE HD hdd
          go_wp2_with fail
          refine ⟨rfl, rfl, ⟨⟨rfl, rfl, rfl, rfl, rfl, rfl, rfl, rfl⟩, rfl, j + 1, by omega, ?_, HJ⟩, ?_⟩
          · show Value.int .i64 _ = _
            go_num
          · show i - (intOf (Value.int .i64 _)).toNat < i - (intOf (F3 17)).toNat
            rw [H17.out]
            simp [intOf]; omega
        have e1 : ((d : Int) == (dn : Int) - 1) = false := by simp; omega
        have jb : ((j : Int) == (i : Int)) = false := by simp; omega
        have hinc : incF dom.length dg = some (List.replicate j 0 ++ (d + 1) :: dg.drop (j + 1)) := incF_at HPRE.out HD.out (by rw [HDN.out]; exact hdd)
        have hs0 : splice DC j [.int .i64 ((d : Int) + 1)] = digC (List.replicate j 0 ++ (d + 1) :: dg.drop (j + 1)) := by
          rw [show (Value.int .i64 ((d : Int) + 1)) = Value.int .i64 ((d + 1 : Nat) : Int) from by congr 1, HSET.out (d + 1)]
          congr 1
          rw [List.set_append_right _ _ (by simp), List.length_replicate, Nat.sub_self]
          have hlt : j < dg.length := by have := HDL.out; omega
          rw [List.drop_eq_getElem_cons hlt, List.set_cons_zero]
        obtain ⟨hrem, hdk2, hln2⟩ := incF_rem HCM.out.dk hinc
        have HI' : Hid (∃ O dgx vals K' S', CM W0 b11 bd bw XE p.pool dom Fs r n S (remM dom.length (List.replicate j 0 ++ (d + 1) :: dg.drop (j + 1))) O (put V8 bd (splice DC j [.int .i64 ((d : Int) + 1)])) dgx vals fa' (fn + 1) fc' K' S' ∧ Rw encZ 1 (core O (put V8 bd (splice DC j [.int .i64 ((d : Int) + 1)]))) va i (varsF r)) := by
          rw [hs0]
          refine ⟨O8, _, vs, K2, _, ⟨HC8.out.setD _, by rw [hln2]; exact HCM.out.dl, hdk2, HVL.out, HSO.out, rfl, fun out h9 => HCM.out.go out (ConTo.go dg _ vals S1 out hinc (by rw [← HVS.out]; exact h9))⟩, HV8.out.sub (Sub.cores fun bb C hb ho => ⟨?_, ho⟩)⟩
          rw [blk_put, if_neg (fun e => by rw [e, HC8.out.dO] at ho; cases ho)]; exact hb
        have HLT : Hid (remM dom.length (List.replicate j 0 ++ (d + 1) :: dg.drop (j + 1)) < μ) := by
          show _ < _
          rw [HCM.out.mu]; exact hrem
        have w2 : IntKind.i64.wrap ((d : Int) + 1) = (d : Int) + 1 := by rw [IntKind.wrap_i64]; omega
        clear HSET hs0 HC8 HV8 HPRE HD hinc hrem hdk2 hln2 hdd
        go_wp2_with fail
        exact ⟨rfl, rfl, ⟨_, ⟨⟨rfl, rfl, rfl, rfl, rfl, rfl, rfl, rfl⟩, fa', fn + 1, fc', rfl, HI'⟩⟩, HMU.out _ _ _ ⟨⟨rfl, rfl, rfl, rfl, rfl, rfl, rfl, rfl⟩, fa', fn + 1, fc', rfl, HI'⟩ HLT.out⟩


  have v1 : ¬ (vn : Int) > 0 := by omega
  have v2 : ¬ (0 : Int) < (vn : Int) := by omega
  have hmk : ∀ w, (makeOp 180 (.int .i64 (vn : Int)) (.int .i64 (vn : Int))).run Tryz.prog w = .ok (.value (.slice (some ⟨w.heap.size, 0, none⟩) vn vn)) (w.alloc (.cells (digC (List.replicate vn 0)).toArray 3)) := fun w => make180 w vn (by omega)
  obtain ⟨D0, eD0⟩ : ∃ D0, D0 = digC (List.replicate vn 0) := ⟨_, rfl⟩
  obtain ⟨T0, eT0⟩ : ∃ T0, T0 = strC (List.replicate 32 []) := ⟨_, rfl⟩
  simp only [← eD0] at hmk
  have hmk2 : ∀ w, (makeOp 43 (.int .i64 32) (.int .i64 32)).run Tryz.prog w = .ok (.value (.slice (some ⟨w.heap.size, 0, none⟩) 32 32)) (w.alloc (.cells T0.toArray 9)) := fun w => by rw [eT0]; exact make43c w
  have ED0 := hid_of eD0
  have ET0 := hid_of eT0
  clear eD0 eT0
  go_upto_region 7 with fail
  refine wp_world (fun V3 => V2.Extends V3 ∧ blk V3 V2.heap.size = some D0 ∧ free V3 V2.heap.size = true ∧ blk V3 (V2.heap.size + 1) = some T0 ∧ free V3 (V2.heap.size + 1) = true) ⟨?_, ?_, ?_, ?_, ?_⟩ ?_
  · exact extends_alloc (extends_alloc (ext_Ext (Ext.refl _)) _) _
  · rw [blk_alloc, if_neg (by rw [World.size_alloc]; omega), blk_alloc, if_pos rfl]
  · rw [free_alloc, if_neg (by rw [World.size_alloc]; omega), free_alloc, if_pos rfl]
  · rw [blk_alloc, if_pos (by rw [World.size_alloc])]
  · rw [free_alloc, if_pos (by rw [World.size_alloc])]
  rintro V3 ⟨hx3, hd3, hdf3, hw3, hwf3⟩
  obtain ⟨bd, ebd⟩ : ∃ bd, bd = V2.heap.size := ⟨_, rfl⟩
  obtain ⟨bw, ebw⟩ : ∃ bw, bw = V2.heap.size + 1 := ⟨_, rfl⟩
  rw [← ebd] at hd3 hdf3
  rw [← ebw] at hw3 hwf3
  rw [← ebw, ← ebd]
  have hO3 := HO2.out.ext hx3
  obtain ⟨O3, hCS⟩ := HS.out.cs (b11 := b11) (bd := bd) (bw := bw) (XE := XE) (dg := List.replicate vn 0) (vals := List.replicate 32 []) (H11.out.1.trans hO3.2.1) ((hx3.blk (blk_lt hb112)).trans hb112) (by rw [H11.out.2.1]; exact Nat.le_refl _) (by have h1 := H11.out.2.1; have h2 := H11.out.2.2; have h3 := HO2.out.2.1.size; omega) (by have h1 := H11.out.2.1; have h2 := H11.out.2.2; have h3 := HO2.out.2.1.size; omega) (by rw [hd3, ED0.out]) hdf3 (by have h2 := H11.out.2.2; have h3 := HO2.out.2.1.size; omega) (by rw [hw3, ET0.out]) hwf3 (by have h2 := H11.out.2.2; have h3 := HO2.out.2.1.size; omega) (by omega)
  have hvr : Rw encZ 1 (core O3 V3) va vn (varsF r) := by
    refine (hO3.rw el183).tocore (fun bb C e _ => ?_)
    have h9 := row_at hO3.1 bb (by rw [e]; rfl)
    have h8 := row_at HO2.out.1 bb (by rw [e]; rfl)
    exact hCS.2 bb (by have := H11.out.2.2; omega) (by omega) (by omega)
  have HI0 : Hid (∃ O dg vals K' S', CM W0 b11 bd bw XE p.pool dom Fs r n S (remM dom.length (List.replicate vn 0)) O V3 dg vals fa fn fc K' S' ∧ Rw encZ 1 (core O V3) va vn (varsF r)) := by
    refine ⟨O3, _, _, K, S, ⟨hCS.1, by rw [List.length_replicate]; exact HVN.out, fun d hd => ?_, by simp, HOK.out, rfl, fun out h9 => by rw [← HVN.out]; exact h9⟩, hvr⟩
    obtain ⟨h1, h2⟩ := List.mem_replicate.1 hd
    rw [h2, HDN.out]
    omega
  clear hx3 hd3 hdf3 hw3 hwf3 ebd ebw hO3 hCS hvr hmk hmk2 ED0 ET0 H11 HX01 HO2 hb112
  refine wp_loop_ix 129 (zM W0 (.pointer (some ⟨b, ob, none⟩)) (.int .i64 (n : Int)) (.slice da dn dc) (.slice ra rn rc) b11 bd bw (.slice va vn vc) vn XE p.pool dom Fs r n S va) (remM dom.length (List.replicate vn 0)) rfl ⟨⟨rfl, rfl, rfl, rfl, rfl, rfl, rfl, rfl⟩, fa, fn, fc, rfl, HI0⟩ ?_
  clear HI0 HS HOK
  clear fa fn fc K V V1 V2 V3 O
  intro μ F V4 hrel ν HMU
  obtain ⟨⟨f0, f1, f2, f3, f11, f12, f13, f14⟩, fa, fn, fc, f4, HI⟩ := hrel
  rw [zframe129c, f0, f1, f2, f3, f4, f11, f12, f13, f14]
  clear f0 f1 f2 f3 f4 f11 f12 f13 f14
  obtain ⟨O, dg, vals, K, S1, hCM, hvr⟩ := HI.out
  have HCM := hid_of hCM
  have HB2 : Hid (∃ O, CS W0 b11 bd bw XE O V4 dg (setI (varsF r) dom dg vals 0) fa fn fc K S1 ∧ Rw encZ 1 (core O V4) va vn (varsF r)) := ⟨O, hCM.cs, hvr⟩
  clear HI hvr hCM
  go_upto_region 8 with fail
  refine wp_loop_f 129 (zL2 W0 (.pointer (some ⟨b, ob, none⟩)) (.int .i64 (n : Int)) (.slice da dn dc) (.slice ra rn rc) (.slice fa fn fc) b11 bd bw (.slice va vn vc) vn XE dom r dg vals fa fn fc K S1 va) (fun f _ => vn - (intOf (f 15)).toNat) rfl ⟨⟨rfl, rfl, rfl, rfl, rfl, rfl, rfl, rfl⟩, rfl, 0, by omega, rfl, HB2⟩ ?_
  clear HB2
  intro F2 V5 hrel
  obtain ⟨⟨f0, f1, f2, f3, f11, f12, f13, f14⟩, f4, i, hi, f15, HI⟩ := hrel
  have H15 := hid_of f15
  rw [zframe129c, f0, f1, f2, f3, f4, f11, f12, f13, f14, f15]
  clear f0 f1 f2 f3 f4 f11 f12 f13 f14 f15
  obtain ⟨O5, hC5, hv5⟩ := HI.out
  have HC5 := hid_of hC5
  have HV5 := hid_of hv5
  clear HI hC5 hv5
  by_cases hin : i < vn
  · have hin' : (i : Int) < (vn : Int) := by omega
    have i0 : (0 : Int) ≤ (i : Int) := by omega
    have i2 : ((i : Int)).toNat = i := by omega
    have hdl : dg.length = vn := by rw [HCM.out.dl]; exact HVN.out.symm
    obtain ⟨v, hv⟩ : ∃ v, (varsF r)[i]? = some v := ⟨_, List.getElem?_eq_getElem (by rw [← HVN.out]; exact hin)⟩
    obtain ⟨d, hd⟩ : ∃ d, dg[i]? = some d := ⟨_, List.getElem?_eq_getElem (by rw [hdl]; exact hin)⟩
    have hdk := HCM.out.dk d (List.mem_of_getElem? hd)
    rw [HDN.out] at hdk
    obtain ⟨y, hy⟩ : ∃ y, dom[d]? = some y := ⟨_, List.getElem?_eq_getElem (by rw [HDN.out]; exact hdk)⟩
    obtain ⟨bv, CV, rfl, m1, m2, m3⟩ := int_at HV5.out hv
    obtain ⟨m1', hobv⟩ := core_blk m1
    obtain ⟨bm, CM', rfl, p1, p2, p3⟩ := str_at HE.out.dm hy
    have hbm : blk V5 bm = some CM' := (HC5.out.ext.blk (blk_lt p1)).trans p1
    obtain ⟨hv0, hv32⟩ := HFT64.out.vars v (List.mem_of_getElem? hv)
    obtain ⟨vi, evi⟩ : ∃ vi : Nat, v = (vi : Int) := ⟨v.toNat, by omega⟩
    rw [evi] at m3
    have hvi : vi < 32 := by omega
    have hvl : (setI (varsF r) dom dg vals i).length = 32 := by rw [setI_len]; exact HCM.out.vl
    have hnew : (setI (varsF r) dom dg vals (i + 1)) = (setI (varsF r) dom dg vals i).set vi y := by
      rw [setI_succ]
      have e1 : (varsF r).getD i 0 = v := by rw [List.getD_eq_getElem?_getD, hv]; rfl
      have e2 : dg.getD i 0 = d := by rw [List.getD_eq_getElem?_getD, hd]; rfl
      have e3 : dom.getD d [] = y := by rw [List.getD_eq_getElem?_getD, hy]; rfl
      rw [e1, e2, e3, evi]; rfl
    have hdb5 := HC5.out.db
    have hwb5 := HC5.out.wb
    have hwf5 := HC5.out.wf
    have hd3 := digC_at hd
    have hdcl : i < (digC dg).length := by rw [digC_len]; omega
    obtain ⟨DC, eDC⟩ : ∃ DC, DC = digC dg := ⟨_, rfl⟩
    obtain ⟨TC, eTC⟩ : ∃ TC, TC = strC (setI (varsF r) dom dg vals i) := ⟨_, rfl⟩
    have htcl : TC.length = 32 := by rw [eTC, strC_len]; exact hvl
    have htci : vi < TC.length := by omega
    have hspl : splice TC vi [.string ⟨y.toArray⟩] = strC (setI (varsF r) dom dg vals (i + 1)) := by rw [eTC, hnew]; exact strC_set y (by rw [hvl]; exact hvi)
    have HJ : Hid (∃ O, CS W0 b11 bd bw XE O (put V5.drew bw (splice TC vi [.string ⟨y.toArray⟩])) dg (setI (varsF r) dom dg vals (i + 1)) fa fn fc K S1 ∧ Rw encZ 1 (core O (put V5.drew bw (splice TC vi [.string ⟨y.toArray⟩]))) (some ⟨bv, 0, none⟩) vn (varsF r)) := by
      have h1 := (HC5.out.drewN 1).setW (setI (varsF r) dom dg vals (i + 1))
      rw [← hspl] at h1
      refine ⟨O5, h1, HV5.out.sub (Sub.cores fun bb C hb ho => ⟨?_, ho⟩)⟩
      rw [blk_put, if_neg (fun e => by rw [e, HC5.out.wO] at ho; cases ho)]
      exact hb
    rw [← eDC] at hdb5 hd3 hdcl
    rw [← eTC] at hwb5
    have w1 : ((vi : Int)).toNat = vi := by omega
    have w2 : (0 : Int) ≤ (vi : Int) := by omega
    have w3 : (vi : Int) < 32 := by omega
    have w31 : vi ≤ 31 := by omega
    have w4 : ((d : Int)).toNat = d := by omega
    have w5 : (0 : Int) ≤ (d : Int) := by omega
    have w6 : (d : Int) < (dn : Int) := by omega
    have hkeep : blk (put V5.drew bw (splice TC vi [.string ⟨y.toArray⟩])) bv = some CV ∧ blk (put V5.drew bw (splice TC vi [.string ⟨y.toArray⟩])) bd = some DC ∧ blk (put V5.drew bw (splice TC vi [.string ⟨y.toArray⟩])) bm = some CM' := by
      have hne1 : bv ≠ bw := fun e => by rw [e, HC5.out.wO] at hobv; cases hobv
      have hne2 : bd ≠ bw := fun e => by have h9 := HC5.out.dO; rw [e, HC5.out.wO] at h9; cases h9
      have hne3 : bm ≠ bw := fun e => by have h9 := HC5.out.wl; have h8 := blk_lt p1; omega
      refine ⟨?_, ?_, ?_⟩
      · rw [blk_put, if_neg hne1]; exact m1'
      · rw [blk_put, if_neg hne2]; exact hdb5
      · rw [blk_put, if_neg hne3]; exact hbm
    obtain ⟨ys, eys⟩ : ∃ ys : ByteArray, ys = ⟨y.toArray⟩ := ⟨_, rfl⟩
    rw [← eys] at p3 HJ hkeep
    clear hv hd hy m1 p1 hv0 hv32 evi hnew hspl eDC eTC hvl hdl hdk eys
    go_upto_region 10 with fail
    repeat go_step
    refine wp_region_held_drew (S := fun W' => blk W' bv = some CV ∧ blk W' bd = some DC ∧ blk W' bm = some CM') (by kernel_rfl) ⟨m1', hdb5, hbm⟩ (fun hHeld => ?_)
    refine wpAnyH_take (i := 0) (oi := ⟨_, _, _, _, _, _⟩) (v := ?_) rfl (by kernel_rfl) (by kernel_rfl) (by kernel_rfl) (fun _ _ _ h => h) (Or.inl ⟨by rfl, ?_⟩) (by assumption) ?_
    rotate_left 1
    · intro W' hSw
      obtain ⟨hS1, hS2, hS3⟩ := hSw
      go_simp
      try with_reducible rfl
    try simp only [Act.put, List.setIfInBounds_toArray, List.set_cons_zero, List.set_cons_succ]
    refine wpAnyH_take (i := 1) (oi := ⟨_, _, _, _, _, _⟩) (v := ?_) rfl (by kernel_rfl) (by kernel_rfl) (by kernel_rfl) (fun _ _ _ h => h) (Or.inl ⟨by rfl, ?_⟩) (by assumption) ?_
    rotate_left 1
    · intro W' hSw
      obtain ⟨hS1, hS2, hS3⟩ := hSw
      go_simp
      try with_reducible rfl
    try simp only [Act.put, List.setIfInBounds_toArray, List.set_cons_zero, List.set_cons_succ]
    refine wpAnyH_take (i := 2) (oi := ⟨_, _, _, _, _, _⟩) (v := ?_) rfl (by kernel_rfl) (by kernel_rfl) (by kernel_rfl) (fun _ _ _ h => h) (Or.inl ⟨by rfl, ?_⟩) (by assumption) ?_
    rotate_left 1
    · intro W' hSw
      obtain ⟨hS1, hS2, hS3⟩ := hSw
      go_simp
      try with_reducible rfl
    try simp only [Act.put, List.setIfInBounds_toArray, List.set_cons_zero, List.set_cons_succ]
    refine wpAnyH_take (i := 3) (oi := ⟨_, _, _, _, _, _⟩) (v := ?_) rfl (by kernel_rfl) (by kernel_rfl) (by kernel_rfl) (fun _ _ _ h => h) (Or.inl ⟨by rfl, ?_⟩) (by assumption) ?_
    rotate_left 1
    · intro W' hSw
      obtain ⟨hS1, hS2, hS3⟩ := hSw
      go_simp
      try with_reducible rfl
    try simp only [Act.put, List.setIfInBounds_toArray, List.set_cons_zero, List.set_cons_succ]
    refine wpAnyH_take (i := 4) (oi := ⟨_, _, _, _, _, _⟩) (v := ?_) rfl (by kernel_rfl) (by kernel_rfl) (by kernel_rfl) (fun _ _ _ h => h) (Or.inl ⟨by rfl, ?_⟩) (by assumption) ?_
    rotate_left 1
    · intro W' hSw
      obtain ⟨hS1, hS2, hS3⟩ := hSw
      go_simp
      try with_reducible rfl
    try simp only [Act.put, List.setIfInBounds_toArray, List.set_cons_zero, List.set_cons_succ]
    refine wpAnyH_take (i := 5) (oi := ⟨_, _, _, _, _, _⟩) (v := ?_) rfl (by kernel_rfl) (by kernel_rfl) (by kernel_rfl) (fun _ _ _ h => h) (Or.inl ⟨by rfl, ?_⟩) (by assumption) ?_
    rotate_left 1
    · intro W' hSw
      obtain ⟨hS1, hS2, hS3⟩ := hSw
      go_simp
      try with_reducible rfl
    try simp only [Act.put, List.setIfInBounds_toArray, List.set_cons_zero, List.set_cons_succ]
    refine wpAnyH_take (i := 6) (oi := ⟨_, _, _, _, _, _⟩) (v := ?_) rfl (by kernel_rfl) (by kernel_rfl) (by kernel_rfl) (fun _ _ _ h => h) (Or.inl ⟨by rfl, ?_⟩) (by assumption) ?_
    rotate_left 1
    · intro W' hSw
      obtain ⟨hS1, hS2, hS3⟩ := hSw
      go_simp
      try with_reducible rfl
    try simp only [Act.put, List.setIfInBounds_toArray, List.set_cons_zero, List.set_cons_succ]
    refine wpAnyH_take (i := 7) (oi := ⟨_, _, _, _, _, _⟩) (v := ?_) rfl (by kernel_rfl) (by kernel_rfl) (by kernel_rfl) (fun _ _ _ h => h) (Or.inl ⟨by rfl, ?_⟩) (by assumption) ?_
    rotate_left 1
    · intro W' hSw
      obtain ⟨hS1, hS2, hS3⟩ := hSw
      go_simp
      try with_reducible rfl
    try simp only [Act.put, List.setIfInBounds_toArray, List.set_cons_zero, List.set_cons_succ]
    refine wpAnyH_take (i := 8) (oi := ⟨_, _, _, _, _, _⟩) (v := ?_) rfl (by kernel_rfl) (by kernel_rfl) (by kernel_rfl) (fun _ _ _ h => h) (Or.inl ⟨by rfl, ?_⟩) (by assumption) ?_
    rotate_left 1
    · intro W' hSw
      obtain ⟨hS1, hS2, hS3⟩ := hSw
      go_simp
      try with_reducible rfl
    try simp only [Act.put, List.setIfInBounds_toArray, List.set_cons_zero, List.set_cons_succ]
    refine wpAnyH_take (i := 9) (oi := ⟨_, _, _, _, _, _⟩) (v := ?_) rfl (by kernel_rfl) (by kernel_rfl) (by kernel_rfl) (fun _ _ _ h => h) (Or.inl ⟨by rfl, ?_⟩) (by assumption) ?_
    rotate_left 1
    · intro W' hSw
      obtain ⟨hS1, hS2, hS3⟩ := hSw
      go_simp
      try with_reducible rfl
    try simp only [Act.put, List.setIfInBounds_toArray, List.set_cons_zero, List.set_cons_succ]
    refine wpAnyH_take (i := 10) (oi := ⟨_, _, _, _, _, _⟩) (v := ?_) rfl (by kernel_rfl) (by kernel_rfl) (by kernel_rfl) (fun _ _ _ h => h) (Or.inl ⟨by rfl, ?_⟩) (by assumption) ?_
    rotate_left 1
    · intro W' hSw
      obtain ⟨hS1, hS2, hS3⟩ := hSw
      go_simp
      try with_reducible rfl
    try simp only [Act.put, List.setIfInBounds_toArray, List.set_cons_zero, List.set_cons_succ]
    refine wpAnyH_take (i := 11) (oi := ⟨_, _, _, _, _, _⟩) (v := ?_) rfl (by kernel_rfl) (by kernel_rfl) (by kernel_rfl) (fun _ _ _ h => h) (Or.inl ⟨by rfl, ?_⟩) (by assumption) ?_
    rotate_left 1
    · intro W' hSw
      obtain ⟨hS1, hS2, hS3⟩ := hSw
      go_simp
      try with_reducible rfl
    try simp only [Act.put, List.setIfInBounds_toArray, List.set_cons_zero, List.set_cons_succ]
    refine wpAnyH_take (i := 12) (oi := ⟨_, _, _, _, _, _⟩) (v := ?_) rfl (by kernel_rfl) (by kernel_rfl) (by kernel_rfl) (fun _ _ _ h => h) (Or.inl ⟨by rfl, ?_⟩) (by assumption) ?_
    rotate_left 1
    · intro W' hSw
      obtain ⟨hS1, hS2, hS3⟩ := hSw
      go_simp
      try with_reducible rfl
    try simp only [Act.put, List.setIfInBounds_toArray, List.set_cons_zero, List.set_cons_succ]
    refine wpAnyH_ready (rs := [13]) (by kernel_rfl) (by simp) ?_
    refine AllReadyH.cons (o := ⟨_, _, _, _, _, _⟩) rfl (fun K' hK => ?_) AllReadyH.nil
    go_simp
    refine hK.out _ _ hkeep (fun hHeld => ?_)
    clear hK K'
    try simp only [Act.put, List.setIfInBounds_toArray, List.set_cons_zero, List.set_cons_succ]
    refine wpAnyH_done (by kernel_rfl) ?_ _
    clear hHeld hkeep
    go_wp2_with fail
    refine ⟨rfl, rfl, ⟨⟨rfl, rfl, rfl, rfl, rfl, rfl, rfl, rfl⟩, rfl, i + 1, by omega, ?_, HJ⟩, ?_⟩
    · show Value.int .i64 _ = _
      go_num
    · show vn - (intOf (Value.int .i64 _)).toNat < vn - (intOf (F2 15)).toNat
      rw [H15.out]
      simp [intOf]; omega
  have hin' : ¬ (i : Int) < (vn : Int) := by omega
  obtain rfl : i = vn := by omega
  obtain ⟨vs, evs⟩ : ∃ vs, vs = setI (varsF r) dom dg vals i := ⟨_, rfl⟩
  have HVS : Hid (vs = setI (varsF r) dom dg vals (varsF r).length) := by show _ = _; rw [← HVN.out]; exact evs
  have hvl : vs.length = 32 := by rw [evs, setI_len]; exact HCM.out.vl
  have hC6 := HC5.out
  rw [← evs] at hC6
  have HC6 := hid_of hC6
  have HVL := hid_of hvl
  have hsub5 : Sub W0 V5 := Sub.ext hC6.ext
  have hbh := bodyHolds_any V5 b ob p (HE.out.pg.sub hsub5) x r (HRC.out.sub hsub5) (some ⟨bw, 0, none⟩) 32 32 vs (by have h9 := strC_rw hC6.wb; rw [hvl] at h9; exact h9) ra rn rc Fs (HE.out.fc.sub hsub5) HFIT.out.bl (fun z hz => ⟨HFT64.out.fit hvl (by unfold atomsOf; exact List.mem_cons_of_mem _ (List.mem_map_of_mem hz)), Nat.le_trans (HFIT.out.ar _ (by unfold atomsOf; exact List.mem_cons_of_mem _ (List.mem_map_of_mem hz))) (by decide), HFIT.out.bp z hz⟩) (Nat.le_trans HE.out.fl (by decide)) HE.out.ll
  rw [← EXE.out] at hbh
  have hr11 := hC6.rb
  obtain ⟨hb0, ehb⟩ : ∃ hb0, hb0 = holdB p.pool vs Fs r.body := ⟨_, rfl⟩
  rw [← ehb] at hbh
  have HHB := hid_of ehb
  clear hC6 hsub5 evs ehb HC5
  go_wp2_with fail
  refine hbh.mono ?_
  rintro e V6 ⟨rfl, hx6⟩
  dsimp only
  have hC7 := HC6.out.grow hx6
  have hF6 : Fr (fun _ => False) O5 V5 (lab O5 V5.heap.size .no) V6 := Fr.grow hx6
  have hv7 : Rw encZ 1 (core (lab O5 V5.heap.size .no) V6) va i (varsF r) := HV5.out.sub (Sub.cores fun bb C hb ho => ⟨hF6.blk hb (fun e => e), (hF6.keep bb (blk_lt hb)).trans ho⟩)
  obtain ⟨O6, eO6⟩ : ∃ O6, O6 = lab O5 V5.heap.size .no := ⟨_, rfl⟩
  rw [← eO6] at hC7 hv7
  have HC7 := hid_of hC7
  have HV7 := hid_of hv7
  -- the rest of the round, from what was found
  have HREST : Hid (∀ (O7 : Own) (V7 : World) (fa' : Option Addr) (fn' fc' : Nat) (K' : List MStep), CS W0 b11 bd bw XE O7 V7 dg vs fa' fn' fc' K' (addF p.pool Fs r n vs S1) → Rw encZ 1 (core O7 V7) va i (varsF r) → ∃ O, CS W0 b11 bd bw XE O V7 (List.replicate 0 0 ++ dg.drop 0) vs fa' fn' fc' K' (addF p.pool Fs r n vs S1) ∧ Rw encZ 1 (core O V7) va i (varsF r) ∧ ∀ j x, j < 0 → dg[j]? = some x → x + 1 = dom.length) := fun O7 V7 fa' fn' fc' K' h1 h2 => ⟨O7, h1, h2, fun j x hj => by omega⟩
  have HSO : Hid (StOk dom (addF p.pool Fs r n vs S1)) := by
    refine HCM.out.so.add HFT64.out HE.out.pd (fun v hv => ?_) HVL.out
    obtain ⟨j, hj⟩ := List.mem_iff_getElem?.1 hv
    have hjl := (List.getElem?_eq_some_iff.1 hj).1
    have h9 := setI_in (dom := dom) (vars := varsF r) (dg := dg) (vals := vals) (fun j hj => by
      rw [List.getD_eq_getElem?_getD, List.getElem?_eq_getElem (by rw [HCM.out.dl]; exact hj)]
      exact HCM.out.dk _ (List.getElem_mem _)) (fun v hv => by rw [HCM.out.vl]; exact HFT64.out.vars v hv) _ (Nat.le_refl _) j hjl
    rw [← HVS.out] at h9
    have e : (varsF r).getD j 0 = v := by rw [List.getD_eq_getElem?_getD, hj]; rfl
    rw [e] at h9
    exact h9
  have hr12 := hC7.rb
  clear hbh hx6 hF6 hv7 eO6 hC7 HC6 HV5
  cases hb0 with
  | false =>
    have HAD : Hid (addF p.pool Fs r n vs S1 = S1) := by
      show _ = _
      unfold addF
      rw [← HHB.out, if_neg (by decide)]
    have hJ := HREST.out O6 V6 fa fn fc K (by rw [HAD.out]; exact HC7.out) HV7.out
    have HJ := hid_of hJ
    clear HREST hJ HC7 HV7
    go_upto_region 16 with fail
    refine wp_loop_f 129 (zL3 W0 (.pointer (some ⟨b, ob, none⟩)) (.int .i64 (n : Int)) (.slice da dn dc) (.slice ra rn rc) (.slice fa fn fc) b11 bd bw (.slice va i vc) i XE dom.length r dg vs fa fn fc K (addF p.pool Fs r n vs S1) va) (fun f _ => i - (intOf (f 17)).toNat) rfl ⟨⟨rfl, rfl, rfl, rfl, rfl, rfl, rfl, rfl⟩, rfl, 0, by omega, rfl, HJ⟩ ?_
    clear HJ
    intro F3 V8 hrel
    obtain ⟨⟨f0, f1, f2, f3, f11, f12, f13, f14⟩, f4, j, hj, f17, HI⟩ := hrel
    have H17 := hid_of f17
    rw [zframe129c, f0, f1, f2, f3, f4, f11, f12, f13, f14, f17]
    clear f0 f1 f2 f3 f4 f11 f12 f13 f14 f17
    obtain ⟨O8, hC8, hv8, hpre⟩ := HI.out
    have HC8 := hid_of hC8
    have HV8 := hid_of hv8
    have HPRE := hid_of hpre
    have hdl : dg.length = i := by rw [HCM.out.dl]; exact HVN.out.symm
    have HDL := hid_of hdl
    clear HI hC8 hv8 hpre hdl
    by_cases hji : j < i
    rotate_left 1
    · have hji' : ¬ (j : Int) < (i : Int) := by omega
      obtain rfl : j = i := by omega
      have jb : ((j : Int) == (j : Int)) = true := by simp
      have HP : Hid (Q (.returned (.slice fa fn fc)) V8) := by
        show Q _ _
        rw [HQ.out]
        have hnone : incF dom.length dg = none := incF_end (fun d hd => by
          obtain ⟨q, hq⟩ := List.mem_iff_getElem?.1 hd
          exact HPRE.out q d (by have := (List.getElem?_eq_some_iff.1 hq).1; have := HDL.out; omega) hq)
        refine ⟨fa, fn, fc, O8, K, _, rfl, .inr ⟨?_, HCM.out.go _ ?_⟩, HC8.out.fd, HSO.out⟩
        · rintro ⟨h1, h2⟩
          exact h1 (List.eq_nil_of_length_eq_zero (by have := HVN.out; omega))
        · rw [HVS.out]
          exact ConTo.stop dg vals S1 hnone
      clear HC8 HV8 HPRE
      go_wp2_with fail
      try go_ret
      exact HP.out
    have hji' : (j : Int) < (i : Int) := by omega
    have j0 : (0 : Int) ≤ (j : Int) := by omega
    have j2 : ((j : Int)).toNat = j := by omega
    obtain ⟨d, hd⟩ : ∃ d, dg[j]? = some d := ⟨_, List.getElem?_eq_getElem (by rw [HDL.out]; exact hji)⟩
    have hdk := HCM.out.dk d (List.mem_of_getElem? hd)
    rw [HDN.out] at hdk
    have hcur : (List.replicate j 0 ++ dg.drop j)[j]? = some d := by
      rw [List.getElem?_append_right (by simp), List.length_replicate, Nat.sub_self, List.getElem?_drop, Nat.add_zero]; exact hd
    have hcl : (List.replicate j 0 ++ dg.drop j).length = i := by rw [List.length_append, List.length_replicate, List.length_drop, HDL.out]; omega
    have hdb8 := HC8.out.db
    have hdf8 := HC8.out.df
    have hd8 := digC_at hcur
    obtain ⟨DC, eDC⟩ : ∃ DC, DC = digC (List.replicate j 0 ++ dg.drop j) := ⟨_, rfl⟩
    have hdcl : j < DC.length := by rw [eDC, digC_len, hcl]; exact hji
    have hdcl2 : j + 1 ≤ DC.length := hdcl
    have HSET : Hid (∀ y : Nat, splice DC j [.int .i64 (y : Int)] = digC ((List.replicate j 0 ++ dg.drop j).set j y)) := fun y => by rw [eDC]; exact digC_set y (by rw [hcl]; exact hji)
    rw [← eDC] at hdb8 hd8
    have w1 : IntKind.i64.wrap ((dn : Int) - 1) = (dn : Int) - 1 := by rw [IntKind.wrap_i64]; omega
    have HD := hid_of hd
    clear hd hcur hcl eDC
    by_cases hdd : d + 1 = dn
    · have e1 : ((d : Int) == (dn : Int) - 1) = true := by simp; omega
      have hs0 : splice DC j [.int .i64 0] = digC (List.replicate (j + 1) 0 ++ dg.drop (j + 1)) := by
        rw [show (Value.int .i64 0) = Value.int .i64 ((0 : Nat) : Int) from rfl, HSET.out 0]
        congr 1
        rw [List.set_append_right _ _ (by simp), List.length_replicate, Nat.sub_self]
        have hlt : j < dg.length := by have := HDL.out; omega
        rw [List.drop_eq_getElem_cons hlt, List.set_cons_zero, List.replicate_succ']
        simp
      have HJ : Hid (∃ O, CS W0 b11 bd bw XE O (put V8 bd (splice DC j [.int .i64 0])) (List.replicate (j + 1) 0 ++ dg.drop (j + 1)) vs fa fn fc K (addF p.pool Fs r n vs S1) ∧ Rw encZ 1 (core O (put V8 bd (splice DC j [.int .i64 0]))) va i (varsF r) ∧ ∀ q x, q < j + 1 → dg[q]? = some x → x + 1 = dom.length) := by
        rw [hs0]
        refine ⟨O8, HC8.out.setD _, HV8.out.sub (Sub.cores fun bb C hb ho => ⟨?_, ho⟩), fun q x hq hx => ?_⟩
        · rw [blk_put, if_neg (fun e => by rw [e, HC8.out.dO] at ho; cases ho)]; exact hb
        · by_cases e : q = j
          · rw [e, HD.out] at hx
            rw [← Option.some.inj hx, HDN.out]; exact hdd
          · exact HPRE.out q x (by omega) hx
      clear HSET hs0 HC8 HV8 HPRE HD hdd
      go_wp2_with fail
      refine ⟨rfl, rfl, ⟨⟨rfl, rfl, rfl, rfl, rfl, rfl, rfl, rfl⟩, rfl, j + 1, by omega, ?_, HJ⟩, ?_⟩
      · show Value.int .i64 _ = _
        go_num
      · show i - (intOf (Value.int .i64 _)).toNat < i - (intOf (F3 17)).toNat
        rw [H17.out]
        simp [intOf]; omega
    have e1 : ((d : Int) == (dn : Int) - 1) = false := by simp; omega
    have jb : ((j : Int) == (i : Int)) = false := by simp; omega
    have hinc : incF dom.length dg = some (List.replicate j 0 ++ (d + 1) :: dg.drop (j + 1)) := incF_at HPRE.out HD.out (by rw [HDN.out]; exact hdd)
    have hs0 : splice DC j [.int .i64 ((d : Int) + 1)] = digC (List.replicate j 0 ++ (d + 1) :: dg.drop (j + 1)) := by
      rw [show (Value.int .i64 ((d : Int) + 1)) = Value.int .i64 ((d + 1 : Nat) : Int) from by congr 1, HSET.out (d + 1)]
      congr 1
      rw [List.set_append_right _ _ (by simp), List.length_replicate, Nat.sub_self]
      have hlt : j < dg.length := by have := HDL.out; omega
      rw [List.drop_eq_getElem_cons hlt, List.set_cons_zero]
    obtain ⟨hrem, hdk2, hln2⟩ := incF_rem HCM.out.dk hinc
    have HI' : Hid (∃ O dgx vals K' S', CM W0 b11 bd bw XE p.pool dom Fs r n S (remM dom.length (List.replicate j 0 ++ (d + 1) :: dg.drop (j + 1))) O (put V8 bd (splice DC j [.int .i64 ((d : Int) + 1)])) dgx vals fa fn fc K' S' ∧ Rw encZ 1 (core O (put V8 bd (splice DC j [.int .i64 ((d : Int) + 1)]))) va i (varsF r)) := by
      rw [hs0]
      refine ⟨O8, _, vs, K, _, ⟨HC8.out.setD _, by rw [hln2]; exact HCM.out.dl, hdk2, HVL.out, HSO.out, rfl, fun out h9 => HCM.out.go out (ConTo.go dg _ vals S1 out hinc (by rw [← HVS.out]; exact h9))⟩, HV8.out.sub (Sub.cores fun bb C hb ho => ⟨?_, ho⟩)⟩
      rw [blk_put, if_neg (fun e => by rw [e, HC8.out.dO] at ho; cases ho)]; exact hb
    have HLT : Hid (remM dom.length (List.replicate j 0 ++ (d + 1) :: dg.drop (j + 1)) < μ) := by
      show _ < _
      rw [HCM.out.mu]; exact hrem
    have w2 : IntKind.i64.wrap ((d : Int) + 1) = (d : Int) + 1 := by rw [IntKind.wrap_i64]; omega
    clear HSET hs0 HC8 HV8 HPRE HD hinc hrem hdk2 hln2 hdd
    go_wp2_with fail
    exact ⟨rfl, rfl, ⟨_, ⟨⟨rfl, rfl, rfl, rfl, rfl, rfl, rfl, rfl⟩, fa, fn, fc, rfl, HI'⟩⟩, HMU.out _ _ _ ⟨⟨rfl, rfl, rfl, rfl, rfl, rfl, rfl, rfl⟩, fa, fn, fc, rfl, HI'⟩ HLT.out⟩

  | true =>
    have hsub6 : Sub W0 V6 := Sub.ext HC7.out.ext
    have hhd : r.head ∈ atomsOf r := List.mem_cons_self
    have hins := instance_any V6 b ob p (HE.out.pg.sub hsub6) x.head r.head (HRC.out.1.sub hsub6) (Nat.le_trans (HFIT.out.ar _ hhd) (by decide)) (some ⟨bw, 0, none⟩) 32 32 vs (by have h9 := strC_rw HC7.out.wb; rw [HVL.out] at h9; exact h9) (HFT64.out.fit HVL.out hhd)
    rw [← EHX.out] at hins
    obtain ⟨hd, ehd⟩ : ∃ hd, hd = instF p.pool vs r.head := ⟨_, rfl⟩
    rw [← ehd] at hins
    have EHD := hid_of ehd
    clear hsub6 hhd ehd
    go_wp2_with fail
    refine hins.mono ?_
    rintro e V7 ⟨ha, hc, rfl, hO7⟩
    dsimp only
    have hx7 := hO7.2.1
    have hC8 := HC7.out.grow hx7
    have hF7 : Fr (fun _ => False) O6 V6 (lab O6 V6.heap.size .no) V7 := Fr.grow hx7
    have hv8 : Rw encZ 1 (core (lab O6 V6.heap.size .no) V7) va i (varsF r) := HV7.out.sub (Sub.cores fun bb C hb ho => ⟨hF7.blk hb (fun e => e), (hF7.keep bb (blk_lt hb)).trans ho⟩)
    have hh8 : Rw encS 1 (core (lab O6 V6.heap.size .no) V7) ha hd.length hd := (hO7.rw el78).tocore (fun bb C e _ => lab_ge (row_at hO7.1 bb (by rw [e]; rfl)).1)
    obtain ⟨O7, eO7⟩ : ∃ O7, O7 = lab O6 V6.heap.size .no := ⟨_, rfl⟩
    rw [← eO7] at hC8 hv8 hh8
    have HC8 := hid_of hC8
    have HV8 := hid_of hv8
    have HH8 := hid_of hh8
    have hr13 := hC8.rb
    obtain ⟨hl, ehl⟩ : ∃ hl, hl = hd.length := ⟨_, rfl⟩
    rw [← ehl] at HH8 hh8 ⊢
    have EHL := hid_of ehl
    have hpf := HFIT.out.hp
    obtain ⟨Lz, hLz⟩ : ∃ Lz, Fs[r.head.pred]? = some Lz := ⟨_, List.getElem?_eq_getElem hpf⟩
    have hLg : Fs.getD r.head.pred [] = Lz := by rw [List.getD_eq_getElem?_getD, hLz]; rfl
    obtain ⟨bf, CF, sf, era, m1, m2, m3, m4⟩ := HE.out.fc.at hLz
    obtain ⟨sa, sn, sc⟩ := sf
    dsimp only at m3 m4
    subst era
    have hbf : blk V7 bf = some CF := (hC8.ext.blk (blk_lt m1)).trans m1
    have hsn : Lz.length = sn := m4.choose_spec.2.1
    obtain ⟨nn1, nn2⟩ := HE.out.ll Lz (List.mem_of_getElem? hLz)
    have hfn : Fs.length = rn := HE.out.fc.choose_spec.2.1
    have hmb := member_names V7 sa ha sn hl sc hc (by omega) Lz hd (m4.sub (Sub.ext hC8.ext)) nn2 (hh8.sub (Sub.core _ _))
    obtain ⟨pr, epr⟩ : ∃ pr, pr = r.head.pred := ⟨_, rfl⟩
    have EPR := hid_of epr
    have hprn : pr < rn := by rw [epr, ← hfn]; exact hpf
    rw [← epr] at m2 m3 xg0 hLg
    have HLG := hid_of hLg
    have c1 : (0 : Int) ≤ (pr : Int) := by omega
    have c2 : ((pr : Int)).toNat = pr := by omega
    have c3 : (pr : Int) < (rn : Int) := by omega
    have HKN : Hid (∀ kk, Calls Tryz.prog 121 #[.slice fa fn fc, .int .i64 (pr : Int), .slice ha hl hc] (V7.drewN kk) fun e W' => e = .returned (.bool (knB S1 pr hd)) ∧ ∃ k, W' = (V7.drewN kk).drewN k) := fun kk => by
      obtain ⟨h1, h2⟩ := (HC8.out.drewN kk).steps
      have h3 := HCM.out.so.bd HE.out.dl
      exact known_any (V7.drewN kk) fa fn fc (by omega) S1 h1 (fun s hs => Nat.le_trans (HCM.out.so.ok s hs).2.1 (by decide)) pr ha hl hc hd ((HH8.out.sub (Sub.core _ _)).sub (sub_drewN _ _))
    clear hins hO7 hx7 hC8 hF7 hv8 hh8 eO7 ehl hpf hLz m1 m4 hsn nn1 nn2 hfn epr hprn hLg HC7 HV7 hr12
    by_cases hmem : hd ∈ Lz
    · rw [decide_eq_true hmem] at hmb
      have HAD : Hid (addF p.pool Fs r n vs S1 = S1) := by
        show _ = _
        unfold addF
        rw [← HHB.out, if_pos rfl, ← EHD.out, ← EPR.out, HLG.out, if_pos hmem]
      clear HKN hmem
      go_wp2_with fail
      refine hmb.mono ?_
      rintro e V9 ⟨rfl, k9, rfl⟩
      dsimp only
      have hJ := HREST.out O7 (V7.drewN k9) fa fn fc K (by rw [HAD.out]; exact HC8.out.drewN k9) (HV8.out.sub (Sub.cores fun bb C hb ho => ⟨hb, ho⟩))
      have HJ := hid_of hJ
      clear HREST hJ HC8 HV8 HH8 hmb hr13
      go_upto_region 16 with fail
      refine wp_loop_f 129 (zL3 W0 (.pointer (some ⟨b, ob, none⟩)) (.int .i64 (n : Int)) (.slice da dn dc) (.slice (some ⟨bf, 0, none⟩) rn rc) (.slice fa fn fc) b11 bd bw (.slice va i vc) i XE dom.length r dg vs fa fn fc K (addF p.pool Fs r n vs S1) va) (fun f _ => i - (intOf (f 17)).toNat) rfl ⟨⟨rfl, rfl, rfl, rfl, rfl, rfl, rfl, rfl⟩, rfl, 0, by omega, rfl, HJ⟩ ?_
      clear HJ
      intro F3 V8 hrel
      obtain ⟨⟨f0, f1, f2, f3, f11, f12, f13, f14⟩, f4, j, hj, f17, HI⟩ := hrel
      have H17 := hid_of f17
      rw [zframe129c, f0, f1, f2, f3, f4, f11, f12, f13, f14, f17]
      clear f0 f1 f2 f3 f4 f11 f12 f13 f14 f17
      obtain ⟨O8, hC8, hv8, hpre⟩ := HI.out
      have HC8 := hid_of hC8
      have HV8 := hid_of hv8
      have HPRE := hid_of hpre
      have hdl : dg.length = i := by rw [HCM.out.dl]; exact HVN.out.symm
      have HDL := hid_of hdl
      clear HI hC8 hv8 hpre hdl
      by_cases hji : j < i
      rotate_left 1
      · have hji' : ¬ (j : Int) < (i : Int) := by omega
        obtain rfl : j = i := by omega
        have jb : ((j : Int) == (j : Int)) = true := by simp
        have HP : Hid (Q (.returned (.slice fa fn fc)) V8) := by
          show Q _ _
          rw [HQ.out]
          have hnone : incF dom.length dg = none := incF_end (fun d hd => by
            obtain ⟨q, hq⟩ := List.mem_iff_getElem?.1 hd
            exact HPRE.out q d (by have := (List.getElem?_eq_some_iff.1 hq).1; have := HDL.out; omega) hq)
          refine ⟨fa, fn, fc, O8, K, _, rfl, .inr ⟨?_, HCM.out.go _ ?_⟩, HC8.out.fd, HSO.out⟩
          · rintro ⟨h1, h2⟩
            exact h1 (List.eq_nil_of_length_eq_zero (by have := HVN.out; omega))
          · rw [HVS.out]
            exact ConTo.stop dg vals S1 hnone
        clear HC8 HV8 HPRE
        go_wp2_with fail
        try go_ret
        exact HP.out
      have hji' : (j : Int) < (i : Int) := by omega
      have j0 : (0 : Int) ≤ (j : Int) := by omega
      have j2 : ((j : Int)).toNat = j := by omega
      obtain ⟨d, hd⟩ : ∃ d, dg[j]? = some d := ⟨_, List.getElem?_eq_getElem (by rw [HDL.out]; exact hji)⟩
      have hdk := HCM.out.dk d (List.mem_of_getElem? hd)
      rw [HDN.out] at hdk
      have hcur : (List.replicate j 0 ++ dg.drop j)[j]? = some d := by
        rw [List.getElem?_append_right (by simp), List.length_replicate, Nat.sub_self, List.getElem?_drop, Nat.add_zero]; exact hd
      have hcl : (List.replicate j 0 ++ dg.drop j).length = i := by rw [List.length_append, List.length_replicate, List.length_drop, HDL.out]; omega
      have hdb8 := HC8.out.db
      have hdf8 := HC8.out.df
      have hd8 := digC_at hcur
      obtain ⟨DC, eDC⟩ : ∃ DC, DC = digC (List.replicate j 0 ++ dg.drop j) := ⟨_, rfl⟩
      have hdcl : j < DC.length := by rw [eDC, digC_len, hcl]; exact hji
      have hdcl2 : j + 1 ≤ DC.length := hdcl
      have HSET : Hid (∀ y : Nat, splice DC j [.int .i64 (y : Int)] = digC ((List.replicate j 0 ++ dg.drop j).set j y)) := fun y => by rw [eDC]; exact digC_set y (by rw [hcl]; exact hji)
      rw [← eDC] at hdb8 hd8
      have w1 : IntKind.i64.wrap ((dn : Int) - 1) = (dn : Int) - 1 := by rw [IntKind.wrap_i64]; omega
      have HD := hid_of hd
      clear hd hcur hcl eDC
      by_cases hdd : d + 1 = dn
      · have e1 : ((d : Int) == (dn : Int) - 1) = true := by simp; omega
        have hs0 : splice DC j [.int .i64 0] = digC (List.replicate (j + 1) 0 ++ dg.drop (j + 1)) := by
          rw [show (Value.int .i64 0) = Value.int .i64 ((0 : Nat) : Int) from rfl, HSET.out 0]
          congr 1
          rw [List.set_append_right _ _ (by simp), List.length_replicate, Nat.sub_self]
          have hlt : j < dg.length := by have := HDL.out; omega
          rw [List.drop_eq_getElem_cons hlt, List.set_cons_zero, List.replicate_succ']
          simp
        have HJ : Hid (∃ O, CS W0 b11 bd bw XE O (put V8 bd (splice DC j [.int .i64 0])) (List.replicate (j + 1) 0 ++ dg.drop (j + 1)) vs fa fn fc K (addF p.pool Fs r n vs S1) ∧ Rw encZ 1 (core O (put V8 bd (splice DC j [.int .i64 0]))) va i (varsF r) ∧ ∀ q x, q < j + 1 → dg[q]? = some x → x + 1 = dom.length) := by
          rw [hs0]
          refine ⟨O8, HC8.out.setD _, HV8.out.sub (Sub.cores fun bb C hb ho => ⟨?_, ho⟩), fun q x hq hx => ?_⟩
          · rw [blk_put, if_neg (fun e => by rw [e, HC8.out.dO] at ho; cases ho)]; exact hb
          · by_cases e : q = j
            · rw [e, HD.out] at hx
              rw [← Option.some.inj hx, HDN.out]; exact hdd
            · exact HPRE.out q x (by omega) hx
        clear HSET hs0 HC8 HV8 HPRE HD hdd
        go_wp2_with fail
        refine ⟨rfl, rfl, ⟨⟨rfl, rfl, rfl, rfl, rfl, rfl, rfl, rfl⟩, rfl, j + 1, by omega, ?_, HJ⟩, ?_⟩
        · show Value.int .i64 _ = _
          go_num
        · show i - (intOf (Value.int .i64 _)).toNat < i - (intOf (F3 17)).toNat
          rw [H17.out]
          simp [intOf]; omega
      have e1 : ((d : Int) == (dn : Int) - 1) = false := by simp; omega
      have jb : ((j : Int) == (i : Int)) = false := by simp; omega
      have hinc : incF dom.length dg = some (List.replicate j 0 ++ (d + 1) :: dg.drop (j + 1)) := incF_at HPRE.out HD.out (by rw [HDN.out]; exact hdd)
      have hs0 : splice DC j [.int .i64 ((d : Int) + 1)] = digC (List.replicate j 0 ++ (d + 1) :: dg.drop (j + 1)) := by
        rw [show (Value.int .i64 ((d : Int) + 1)) = Value.int .i64 ((d + 1 : Nat) : Int) from by congr 1, HSET.out (d + 1)]
        congr 1
        rw [List.set_append_right _ _ (by simp), List.length_replicate, Nat.sub_self]
        have hlt : j < dg.length := by have := HDL.out; omega
        rw [List.drop_eq_getElem_cons hlt, List.set_cons_zero]
      obtain ⟨hrem, hdk2, hln2⟩ := incF_rem HCM.out.dk hinc
      have HI' : Hid (∃ O dgx vals K' S', CM W0 b11 bd bw XE p.pool dom Fs r n S (remM dom.length (List.replicate j 0 ++ (d + 1) :: dg.drop (j + 1))) O (put V8 bd (splice DC j [.int .i64 ((d : Int) + 1)])) dgx vals fa fn fc K' S' ∧ Rw encZ 1 (core O (put V8 bd (splice DC j [.int .i64 ((d : Int) + 1)]))) va i (varsF r)) := by
        rw [hs0]
        refine ⟨O8, _, vs, K, _, ⟨HC8.out.setD _, by rw [hln2]; exact HCM.out.dl, hdk2, HVL.out, HSO.out, rfl, fun out h9 => HCM.out.go out (ConTo.go dg _ vals S1 out hinc (by rw [← HVS.out]; exact h9))⟩, HV8.out.sub (Sub.cores fun bb C hb ho => ⟨?_, ho⟩)⟩
        rw [blk_put, if_neg (fun e => by rw [e, HC8.out.dO] at ho; cases ho)]; exact hb
      have HLT : Hid (remM dom.length (List.replicate j 0 ++ (d + 1) :: dg.drop (j + 1)) < μ) := by
        show _ < _
        rw [HCM.out.mu]; exact hrem
      have w2 : IntKind.i64.wrap ((d : Int) + 1) = (d : Int) + 1 := by rw [IntKind.wrap_i64]; omega
      clear HSET hs0 HC8 HV8 HPRE HD hinc hrem hdk2 hln2 hdd
      go_wp2_with fail
      exact ⟨rfl, rfl, ⟨_, ⟨⟨rfl, rfl, rfl, rfl, rfl, rfl, rfl, rfl⟩, fa, fn, fc, rfl, HI'⟩⟩, HMU.out _ _ _ ⟨⟨rfl, rfl, rfl, rfl, rfl, rfl, rfl, rfl⟩, fa, fn, fc, rfl, HI'⟩ HLT.out⟩

    rw [decide_eq_false hmem] at hmb
    have HNM := hid_of hmem
    clear hmem
    go_wp2_with fail
    refine hmb.mono ?_
    rintro e V9 ⟨rfl, k9, rfl⟩
    dsimp only
    have hkn := HKN.out k9
    clear hmb HKN
    cases hkb : knB S1 pr hd with
    | true =>
      rw [hkb] at hkn
      have HAD : Hid (addF p.pool Fs r n vs S1 = S1) := by
        show _ = _
        unfold addF
        rw [← HHB.out, if_pos rfl, ← EHD.out, ← EPR.out, HLG.out, if_neg HNM.out, if_pos hkb]
      clear hkb
      go_wp2_with fail
      refine hkn.mono ?_
      rintro e V10 ⟨rfl, k10, rfl⟩
      dsimp only
      have hJ := HREST.out O7 (V7.drewN (k9 + k10)) fa fn fc K (by rw [HAD.out]; exact HC8.out.drewN (k9 + k10)) (HV8.out.sub (Sub.cores fun bb C hb ho => ⟨hb, ho⟩))
      have HJ := hid_of hJ
      clear HREST hJ HC8 HV8 HH8 hkn hr13
      go_upto_region 16 with fail
      refine wp_loop_f 129 (zL3 W0 (.pointer (some ⟨b, ob, none⟩)) (.int .i64 (n : Int)) (.slice da dn dc) (.slice (some ⟨bf, 0, none⟩) rn rc) (.slice fa fn fc) b11 bd bw (.slice va i vc) i XE dom.length r dg vs fa fn fc K (addF p.pool Fs r n vs S1) va) (fun f _ => i - (intOf (f 17)).toNat) rfl ⟨⟨rfl, rfl, rfl, rfl, rfl, rfl, rfl, rfl⟩, rfl, 0, by omega, rfl, HJ⟩ ?_
      clear HJ
      intro F3 V8 hrel
      obtain ⟨⟨f0, f1, f2, f3, f11, f12, f13, f14⟩, f4, j, hj, f17, HI⟩ := hrel
      have H17 := hid_of f17
      rw [zframe129c, f0, f1, f2, f3, f4, f11, f12, f13, f14, f17]
      clear f0 f1 f2 f3 f4 f11 f12 f13 f14 f17
      obtain ⟨O8, hC8, hv8, hpre⟩ := HI.out
      have HC8 := hid_of hC8
      have HV8 := hid_of hv8
      have HPRE := hid_of hpre
      have hdl : dg.length = i := by rw [HCM.out.dl]; exact HVN.out.symm
      have HDL := hid_of hdl
      clear HI hC8 hv8 hpre hdl
      by_cases hji : j < i
      rotate_left 1
      · have hji' : ¬ (j : Int) < (i : Int) := by omega
        obtain rfl : j = i := by omega
        have jb : ((j : Int) == (j : Int)) = true := by simp
        have HP : Hid (Q (.returned (.slice fa fn fc)) V8) := by
          show Q _ _
          rw [HQ.out]
          have hnone : incF dom.length dg = none := incF_end (fun d hd => by
            obtain ⟨q, hq⟩ := List.mem_iff_getElem?.1 hd
            exact HPRE.out q d (by have := (List.getElem?_eq_some_iff.1 hq).1; have := HDL.out; omega) hq)
          refine ⟨fa, fn, fc, O8, K, _, rfl, .inr ⟨?_, HCM.out.go _ ?_⟩, HC8.out.fd, HSO.out⟩
          · rintro ⟨h1, h2⟩
            exact h1 (List.eq_nil_of_length_eq_zero (by have := HVN.out; omega))
          · rw [HVS.out]
            exact ConTo.stop dg vals S1 hnone
        clear HC8 HV8 HPRE
        go_wp2_with fail
        try go_ret
        exact HP.out
      have hji' : (j : Int) < (i : Int) := by omega
      have j0 : (0 : Int) ≤ (j : Int) := by omega
      have j2 : ((j : Int)).toNat = j := by omega
      obtain ⟨d, hd⟩ : ∃ d, dg[j]? = some d := ⟨_, List.getElem?_eq_getElem (by rw [HDL.out]; exact hji)⟩
      have hdk := HCM.out.dk d (List.mem_of_getElem? hd)
      rw [HDN.out] at hdk
      have hcur : (List.replicate j 0 ++ dg.drop j)[j]? = some d := by
        rw [List.getElem?_append_right (by simp), List.length_replicate, Nat.sub_self, List.getElem?_drop, Nat.add_zero]; exact hd
      have hcl : (List.replicate j 0 ++ dg.drop j).length = i := by rw [List.length_append, List.length_replicate, List.length_drop, HDL.out]; omega
      have hdb8 := HC8.out.db
      have hdf8 := HC8.out.df
      have hd8 := digC_at hcur
      obtain ⟨DC, eDC⟩ : ∃ DC, DC = digC (List.replicate j 0 ++ dg.drop j) := ⟨_, rfl⟩
      have hdcl : j < DC.length := by rw [eDC, digC_len, hcl]; exact hji
      have hdcl2 : j + 1 ≤ DC.length := hdcl
      have HSET : Hid (∀ y : Nat, splice DC j [.int .i64 (y : Int)] = digC ((List.replicate j 0 ++ dg.drop j).set j y)) := fun y => by rw [eDC]; exact digC_set y (by rw [hcl]; exact hji)
      rw [← eDC] at hdb8 hd8
      have w1 : IntKind.i64.wrap ((dn : Int) - 1) = (dn : Int) - 1 := by rw [IntKind.wrap_i64]; omega
      have HD := hid_of hd
      clear hd hcur hcl eDC
      by_cases hdd : d + 1 = dn
      · have e1 : ((d : Int) == (dn : Int) - 1) = true := by simp; omega
        have hs0 : splice DC j [.int .i64 0] = digC (List.replicate (j + 1) 0 ++ dg.drop (j + 1)) := by
          rw [show (Value.int .i64 0) = Value.int .i64 ((0 : Nat) : Int) from rfl, HSET.out 0]
          congr 1
          rw [List.set_append_right _ _ (by simp), List.length_replicate, Nat.sub_self]
          have hlt : j < dg.length := by have := HDL.out; omega
          rw [List.drop_eq_getElem_cons hlt, List.set_cons_zero, List.replicate_succ']
          simp
        have HJ : Hid (∃ O, CS W0 b11 bd bw XE O (put V8 bd (splice DC j [.int .i64 0])) (List.replicate (j + 1) 0 ++ dg.drop (j + 1)) vs fa fn fc K (addF p.pool Fs r n vs S1) ∧ Rw encZ 1 (core O (put V8 bd (splice DC j [.int .i64 0]))) va i (varsF r) ∧ ∀ q x, q < j + 1 → dg[q]? = some x → x + 1 = dom.length) := by
          rw [hs0]
          refine ⟨O8, HC8.out.setD _, HV8.out.sub (Sub.cores fun bb C hb ho => ⟨?_, ho⟩), fun q x hq hx => ?_⟩
          · rw [blk_put, if_neg (fun e => by rw [e, HC8.out.dO] at ho; cases ho)]; exact hb
          · by_cases e : q = j
            · rw [e, HD.out] at hx
              rw [← Option.some.inj hx, HDN.out]; exact hdd
            · exact HPRE.out q x (by omega) hx
        clear HSET hs0 HC8 HV8 HPRE HD hdd
        go_wp2_with fail
        refine ⟨rfl, rfl, ⟨⟨rfl, rfl, rfl, rfl, rfl, rfl, rfl, rfl⟩, rfl, j + 1, by omega, ?_, HJ⟩, ?_⟩
        · show Value.int .i64 _ = _
          go_num
        · show i - (intOf (Value.int .i64 _)).toNat < i - (intOf (F3 17)).toNat
          rw [H17.out]
          simp [intOf]; omega
      have e1 : ((d : Int) == (dn : Int) - 1) = false := by simp; omega
      have jb : ((j : Int) == (i : Int)) = false := by simp; omega
      have hinc : incF dom.length dg = some (List.replicate j 0 ++ (d + 1) :: dg.drop (j + 1)) := incF_at HPRE.out HD.out (by rw [HDN.out]; exact hdd)
      have hs0 : splice DC j [.int .i64 ((d : Int) + 1)] = digC (List.replicate j 0 ++ (d + 1) :: dg.drop (j + 1)) := by
        rw [show (Value.int .i64 ((d : Int) + 1)) = Value.int .i64 ((d + 1 : Nat) : Int) from by congr 1, HSET.out (d + 1)]
        congr 1
        rw [List.set_append_right _ _ (by simp), List.length_replicate, Nat.sub_self]
        have hlt : j < dg.length := by have := HDL.out; omega
        rw [List.drop_eq_getElem_cons hlt, List.set_cons_zero]
      obtain ⟨hrem, hdk2, hln2⟩ := incF_rem HCM.out.dk hinc
      have HI' : Hid (∃ O dgx vals K' S', CM W0 b11 bd bw XE p.pool dom Fs r n S (remM dom.length (List.replicate j 0 ++ (d + 1) :: dg.drop (j + 1))) O (put V8 bd (splice DC j [.int .i64 ((d : Int) + 1)])) dgx vals fa fn fc K' S' ∧ Rw encZ 1 (core O (put V8 bd (splice DC j [.int .i64 ((d : Int) + 1)]))) va i (varsF r)) := by
        rw [hs0]
        refine ⟨O8, _, vs, K, _, ⟨HC8.out.setD _, by rw [hln2]; exact HCM.out.dl, hdk2, HVL.out, HSO.out, rfl, fun out h9 => HCM.out.go out (ConTo.go dg _ vals S1 out hinc (by rw [← HVS.out]; exact h9))⟩, HV8.out.sub (Sub.cores fun bb C hb ho => ⟨?_, ho⟩)⟩
        rw [blk_put, if_neg (fun e => by rw [e, HC8.out.dO] at ho; cases ho)]; exact hb
      have HLT : Hid (remM dom.length (List.replicate j 0 ++ (d + 1) :: dg.drop (j + 1)) < μ) := by
        show _ < _
        rw [HCM.out.mu]; exact hrem
      have w2 : IntKind.i64.wrap ((d : Int) + 1) = (d : Int) + 1 := by rw [IntKind.wrap_i64]; omega
      clear HSET hs0 HC8 HV8 HPRE HD hinc hrem hdk2 hln2 hdd
      go_wp2_with fail
      exact ⟨rfl, rfl, ⟨_, ⟨⟨rfl, rfl, rfl, rfl, rfl, rfl, rfl, rfl⟩, fa, fn, fc, rfl, HI'⟩⟩, HMU.out _ _ _ ⟨⟨rfl, rfl, rfl, rfl, rfl, rfl, rfl, rfl⟩, fa, fn, fc, rfl, HI'⟩ HLT.out⟩

    | false =>
      rw [hkb] at hkn
      have HAD : Hid (addF p.pool Fs r n vs S1 = S1 ++ [⟨pr, hd, n, vs⟩]) := by
        show _ = _
        unfold addF
        rw [← HHB.out, if_pos rfl, ← EHD.out, ← EPR.out, HLG.out, if_neg HNM.out, if_neg (by rw [hkb]; decide)]
      clear hkb
      go_wp2_with fail
      refine hkn.mono ?_
      rintro e V10 ⟨rfl, k10, e10⟩
      dsimp only
      have hC10 : CS W0 b11 bd bw XE O7 V10 dg vs fa fn fc K S1 := by rw [e10]; exact (HC8.out.drewN k9).drewN k10
      have hv10 : Rw encZ 1 (core O7 V10) va i (varsF r) := by rw [e10]; exact HV8.out.sub (Sub.cores fun bb C hb ho => ⟨hb, ho⟩)
      have hh10 : Rw encS 1 (core O7 V10) ha hl hd := by rw [e10]; exact HH8.out.sub (Sub.cores fun bb C hb ho => ⟨hb, ho⟩)
      clear hkn HC8 HV8 HH8 hr13 hbf e10
      have hx1 : V10.drew.Extends (V10.drew.alloc (.cells #[] 9)) := extends_alloc (ext_Ext (Ext.refl _)) _
      have hrow0 : (V10.drew.alloc (.cells #[] 9)).ownsRow V10.drew.heap.size 9 1 (.slice (some ⟨V10.drew.heap.size, 0, none⟩) 0 0) ([] : List (List UInt8)).length (([] : List (List UInt8)).flatMap encS) := World.ownsRow_made V10.drew #[] 0 (Nat.le_refl _) (Nat.zero_le _) rfl
      have hrb10 := hC10.rb
      have hwb10 := hC10.wb
      have hvrw : Rw encS 1 (V10.drew.alloc (.cells #[] 9)) (some ⟨bw, 0, none⟩) vs.length vs := (strC_rw (W := V10.drew) hwb10).sub (Sub.ext hx1)
      obtain ⟨ca, cn, cc, A2, hrun1, ho1, hg1⟩ := appM el50 V10.drew.heap.size (V10.drew.alloc (.cells #[] 9)) 43 _ [] vs (some ⟨bw, 0, none⟩) 32 hrow0 hvrw hx1.size (by simp; rw [HVL.out]; omega)
      have hcn : cn = 32 := by
        have h9 := (rw_own encS_len ho1).1.1
        rw [← h9]; exact HVL.out
      rw [HVL.out] at hrun1
      subst hcn
      have hxA : V10.drew.Extends A2 := grown_ext hx1 hg1 (fun k hk => Nat.le_of_eq (Option.some.inj hk))
      have hCA := (hC10.drewN 1).grow (V' := A2) hxA
      have hFA : Fr (fun _ => False) O7 V10 (lab O7 (V10.drewN 1).heap.size .no) A2 := by
        have h9 : Fr (fun _ => False) O7 V10.drew (lab O7 V10.drew.heap.size .no) A2 := Fr.grow hxA
        exact ⟨h9.os, h9.tape, h9.output, h9.size, h9.keep, h9.block⟩
      have hsubA : Sub (core O7 V10) (core (lab O7 (V10.drewN 1).heap.size .no) A2) := Sub.cores fun bb C hb ho => ⟨hFA.blk hb (fun e => e), (hFA.keep bb (blk_lt hb)).trans ho⟩
      have hvv : Rw encS 1 (core (lab O7 (V10.drewN 1).heap.size .no) A2) ca 32 vs := (rw_own encS_len ho1).1.tocore (fun bb C e _ => lab_ge (row_at ho1 bb (by rw [e]; rfl)).1)
      have hvA := hv10.sub hsubA
      obtain ⟨O9, eO9⟩ : ∃ O9, O9 = lab O7 (V10.drewN 1).heap.size .no := ⟨_, rfl⟩
      have hhA := hh10.sub hsubA
      rw [← eO9] at hCA hvv hvA hhA
      have h280 := HCM.out.so.bd HE.out.dl
      obtain ⟨fa', fc', V11, O11, hrun2, hC11, hs11⟩ := hCA.app ⟨(pr : Int), ⟨ha, hl, hc⟩, (n : Int), ⟨ca, 32, cc⟩⟩ ⟨pr, hd, n, vs⟩ ⟨rfl, rfl, hhA, hvv⟩ h280 #[.int .i64 (pr : Int), .slice ha hl hc, .int .i64 (n : Int), .slice ca 32 cc] rfl
      have hJ := HREST.out O11 V11 fa' (fn + 1) fc' _ (by rw [HAD.out]; exact hC11) (hvA.sub hs11)
      have HJ := hid_of hJ
      obtain ⟨K2, eK2⟩ : ∃ K2, K2 = K ++ [(⟨(pr : Int), ⟨ha, hl, hc⟩, (n : Int), ⟨ca, 32, cc⟩⟩ : MStep)] := ⟨_, rfl⟩
      rw [← eK2] at HJ
      have hSa : blk (V10.drew.alloc (.cells #[] 9)) b11 = some XE ∧ blk (V10.drew.alloc (.cells #[] 9)) bw = some (strC vs) := ⟨(hx1.blk (blk_lt hrb10)).trans hrb10, (hx1.blk (blk_lt hwb10)).trans hwb10⟩
      have hSb : blk A2 b11 = some XE ∧ blk A2 bw = some (strC vs) := ⟨hCA.rb, hCA.wb⟩
      have hSc : ∀ A, blk (A2.alloc (.cells A 161)) b11 = some XE ∧ blk (A2.alloc (.cells A 161)) bw = some (strC vs) := fun A => by
        have h9 : A2.Extends (A2.alloc (.cells A 161)) := extends_alloc (ext_Ext (Ext.refl _)) _
        exact ⟨(h9.blk (blk_lt hCA.rb)).trans hCA.rb, (h9.blk (blk_lt hCA.wb)).trans hCA.wb⟩
      have hSd : blk V11 b11 = some XE ∧ blk V11 bw = some (strC vs) := ⟨hC11.rb, hC11.wb⟩
      obtain ⟨TV, eTV⟩ : ∃ TV, TV = strC vs := ⟨_, rfl⟩
      rw [← eTV] at hSa hSb hSd hwb10
      simp only [← eTV] at hSc
      clear HREST hJ hC10 hv10 hh10 hrow0 hvrw ho1 hg1 hxA hCA hFA hsubA hvv hvA eO9 hhA h280 hC11 hs11 hx1 HAD eK2 eTV
      go_upto_region 14 with fail
      repeat go_step
      refine wp_region_held_drew (S := fun W' => blk W' b11 = some XE ∧ blk W' bw = some TV) (by kernel_rfl) ⟨hrb10, hwb10⟩ (fun hHeld => ?_)
      refine wpAnyH_take (i := 0) (oi := ⟨_, _, _, _, _, _⟩) (v := ?_) rfl (by kernel_rfl) (by kernel_rfl) (by kernel_rfl) (fun _ _ _ h => h) (Or.inl ⟨by rfl, ?_⟩) (by assumption) ?_
      rotate_left 1
      · intro W' hSw
        obtain ⟨hS1, hS2⟩ := hSw
        go_simp
        try with_reducible rfl
      try simp only [Act.put, List.setIfInBounds_toArray, List.set_cons_zero, List.set_cons_succ]
      refine wpAnyH_take (i := 1) (oi := ⟨_, _, _, _, _, _⟩) (v := ?_) rfl (by kernel_rfl) (by kernel_rfl) (by kernel_rfl) (fun _ _ _ h => h) (Or.inl ⟨by rfl, ?_⟩) (by assumption) ?_
      rotate_left 1
      · intro W' hSw
        obtain ⟨hS1, hS2⟩ := hSw
        go_simp
        try with_reducible rfl
      try simp only [Act.put, List.setIfInBounds_toArray, List.set_cons_zero, List.set_cons_succ]
      refine wpAnyH_take (i := 2) (oi := ⟨_, _, _, _, _, _⟩) (v := ?_) rfl (by kernel_rfl) (by kernel_rfl) (by kernel_rfl) (fun _ _ _ h => h) (Or.inl ⟨by rfl, ?_⟩) (by assumption) ?_
      rotate_left 1
      · intro W' hSw
        obtain ⟨hS1, hS2⟩ := hSw
        go_simp
        try with_reducible rfl
      try simp only [Act.put, List.setIfInBounds_toArray, List.set_cons_zero, List.set_cons_succ]
      refine wpAnyH_take (i := 3) (oi := ⟨_, _, _, _, _, _⟩) (v := ?_) rfl (by kernel_rfl) (by kernel_rfl) (by kernel_rfl) (fun _ _ _ h => h) (Or.inl ⟨by rfl, ?_⟩) (by assumption) ?_
      rotate_left 1
      · intro W' hSw
        obtain ⟨hS1, hS2⟩ := hSw
        go_simp
        try with_reducible rfl
      try simp only [Act.put, List.setIfInBounds_toArray, List.set_cons_zero, List.set_cons_succ]
      refine wpAnyH_take (i := 4) (oi := ⟨_, _, _, _, _, _⟩) (v := ?_) rfl (by kernel_rfl) (by kernel_rfl) (by kernel_rfl) (fun _ _ _ h => h) (Or.inl ⟨by rfl, ?_⟩) (by assumption) ?_
      rotate_left 1
      · intro W' hSw
        obtain ⟨hS1, hS2⟩ := hSw
        go_simp
        try with_reducible rfl
      try simp only [Act.put, List.setIfInBounds_toArray, List.set_cons_zero, List.set_cons_succ]
      refine wpAnyH_take (i := 5) (oi := ⟨_, _, _, _, _, _⟩) (v := ?_) rfl (by kernel_rfl) (by kernel_rfl) (by kernel_rfl) (fun _ _ _ h => h) (Or.inl ⟨by rfl, ?_⟩) (by assumption) ?_
      rotate_left 1
      · intro W' hSw
        obtain ⟨hS1, hS2⟩ := hSw
        go_simp
        try with_reducible rfl
      try simp only [Act.put, List.setIfInBounds_toArray, List.set_cons_zero, List.set_cons_succ]
      refine wpAnyH_take (i := 7) (oi := ⟨_, _, _, _, _, _⟩) (v := ?_) rfl (by kernel_rfl) (by kernel_rfl) (by kernel_rfl) (fun _ _ _ h => h) (Or.inl ⟨by rfl, ?_⟩) (by assumption) ?_
      rotate_left 1
      · intro W' hSw
        obtain ⟨hS1, hS2⟩ := hSw
        go_simp
        try with_reducible rfl
      try simp only [Act.put, List.setIfInBounds_toArray, List.set_cons_zero, List.set_cons_succ]
      refine wpAnyH_ready (rs := [6]) (by kernel_rfl) (by simp) ?_
      refine AllReadyH.cons (o := ⟨_, _, _, _, _, _⟩) rfl (fun K' hK => ?_) AllReadyH.nil
      go_simp
      refine hK.out _ _ hSa (fun hHeld => ?_)
      clear hK K'
      try simp only [Act.put, List.setIfInBounds_toArray, List.set_cons_zero, List.set_cons_succ]
      refine wpAnyH_ready (rs := [8]) (by kernel_rfl) (by simp) ?_
      refine AllReadyH.cons (o := ⟨_, _, _, _, _, _⟩) rfl (fun K' hK => ?_) AllReadyH.nil
      refine wp_append_run _ _ 43 rfl _ _ _ _ rfl rfl hrun1 ?_
      refine hK.out _ _ hSb (fun hHeld => ?_)
      clear hK K'
      try simp only [Act.put, List.setIfInBounds_toArray, List.set_cons_zero, List.set_cons_succ]
      refine wpAnyH_take (i := 9) (oi := ⟨_, _, _, _, _, _⟩) (v := ?_) rfl (by kernel_rfl) (by kernel_rfl) (by kernel_rfl) (fun _ _ _ h => h) (Or.inl ⟨by rfl, ?_⟩) (by assumption) ?_
      rotate_left 1
      · intro W' hSw
        obtain ⟨hS1, hS2⟩ := hSw
        go_simp
        try with_reducible rfl
      try simp only [Act.put, List.setIfInBounds_toArray, List.set_cons_zero, List.set_cons_succ]
      refine wpAnyH_ready (rs := [10]) (by kernel_rfl) (by simp) ?_
      refine AllReadyH.cons (o := ⟨_, _, _, _, _, _⟩) rfl (fun K' hK => ?_) AllReadyH.nil
      go_simp
      refine hK.out _ _ (hSc _) (fun hHeld => ?_)
      clear hK K'
      try simp only [Act.put, List.setIfInBounds_toArray, List.set_cons_zero, List.set_cons_succ]
      refine wpAnyH_ready (rs := [11]) (by kernel_rfl) (by simp) ?_
      refine AllReadyH.cons (o := ⟨_, _, _, _, _, _⟩) rfl (fun K' hK => ?_) AllReadyH.nil
      refine wp_append_run _ _ 53 rfl _ _ _ _ rfl rfl hrun2 ?_
      refine hK.out _ _ hSd (fun hHeld => ?_)
      clear hK K'
      try simp only [Act.put, List.setIfInBounds_toArray, List.set_cons_zero, List.set_cons_succ]
      refine wpAnyH_take (i := 12) (oi := ⟨_, _, _, _, _, _⟩) (v := ?_) rfl (by kernel_rfl) (by kernel_rfl) (by kernel_rfl) (fun _ _ _ h => h) (Or.inl ⟨by rfl, ?_⟩) (by assumption) ?_
      rotate_left 1
      · intro W' hSw
        obtain ⟨hS1, hS2⟩ := hSw
        go_simp
        try with_reducible rfl
      try simp only [Act.put, List.setIfInBounds_toArray, List.set_cons_zero, List.set_cons_succ]
      refine wpAnyH_done (by kernel_rfl) ?_ _
      clear hHeld hSa hSb hSc hSd hrun1 hrun2
      go_upto_region 16 with fail
      refine wp_loop_f 129 (zL3 W0 (.pointer (some ⟨b, ob, none⟩)) (.int .i64 (n : Int)) (.slice da dn dc) (.slice (some ⟨bf, 0, none⟩) rn rc) (.slice fa' (fn + 1) fc') b11 bd bw (.slice va i vc) i XE dom.length r dg vs fa' (fn + 1) fc' K2 (addF p.pool Fs r n vs S1) va) (fun f _ => i - (intOf (f 17)).toNat) rfl ⟨⟨rfl, rfl, rfl, rfl, rfl, rfl, rfl, rfl⟩, rfl, 0, by omega, rfl, HJ⟩ ?_
      clear HJ
      intro F3 V8 hrel
      obtain ⟨⟨f0, f1, f2, f3, f11, f12, f13, f14⟩, f4, j, hj, f17, HI⟩ := hrel
      have H17 := hid_of f17
      rw [zframe129c, f0, f1, f2, f3, f4, f11, f12, f13, f14, f17]
      clear f0 f1 f2 f3 f4 f11 f12 f13 f14 f17
      obtain ⟨O8, hC8, hv8, hpre⟩ := HI.out
      have HC8 := hid_of hC8
      have HV8 := hid_of hv8
      have HPRE := hid_of hpre
      have hdl : dg.length = i := by rw [HCM.out.dl]; exact HVN.out.symm
      have HDL := hid_of hdl
      clear HI hC8 hv8 hpre hdl
      by_cases hji : j < i
      rotate_left 1
      · have hji' : ¬ (j : Int) < (i : Int) := by omega
        obtain rfl : j = i := by omega
        have jb : ((j : Int) == (j : Int)) = true := by simp
        have HP : Hid (Q (.returned (.slice fa' (fn + 1) fc')) V8) := by
          show Q _ _
          rw [HQ.out]
          have hnone : incF dom.length dg = none := incF_end (fun d hd => by
            obtain ⟨q, hq⟩ := List.mem_iff_getElem?.1 hd
            exact HPRE.out q d (by have := (List.getElem?_eq_some_iff.1 hq).1; have := HDL.out; omega) hq)
          refine ⟨fa', fn + 1, fc', O8, K2, _, rfl, .inr ⟨?_, HCM.out.go _ ?_⟩, HC8.out.fd, HSO.out⟩
          · rintro ⟨h1, h2⟩
            exact h1 (List.eq_nil_of_length_eq_zero (by have := HVN.out; omega))
          · rw [HVS.out]
            exact ConTo.stop dg vals S1 hnone
        clear HC8 HV8 HPRE
        go_wp2_with fail
        try go_ret
        exact HP.out
      have hji' : (j : Int) < (i : Int) := by omega
      have j0 : (0 : Int) ≤ (j : Int) := by omega
      have j2 : ((j : Int)).toNat = j := by omega
      obtain ⟨d, hd⟩ : ∃ d, dg[j]? = some d := ⟨_, List.getElem?_eq_getElem (by rw [HDL.out]; exact hji)⟩
      have hdk := HCM.out.dk d (List.mem_of_getElem? hd)
      rw [HDN.out] at hdk
      have hcur : (List.replicate j 0 ++ dg.drop j)[j]? = some d := by
        rw [List.getElem?_append_right (by simp), List.length_replicate, Nat.sub_self, List.getElem?_drop, Nat.add_zero]; exact hd
      have hcl : (List.replicate j 0 ++ dg.drop j).length = i := by rw [List.length_append, List.length_replicate, List.length_drop, HDL.out]; omega
      have hdb8 := HC8.out.db
      have hdf8 := HC8.out.df
      have hd8 := digC_at hcur
      obtain ⟨DC, eDC⟩ : ∃ DC, DC = digC (List.replicate j 0 ++ dg.drop j) := ⟨_, rfl⟩
      have hdcl : j < DC.length := by rw [eDC, digC_len, hcl]; exact hji
      have hdcl2 : j + 1 ≤ DC.length := hdcl
      have HSET : Hid (∀ y : Nat, splice DC j [.int .i64 (y : Int)] = digC ((List.replicate j 0 ++ dg.drop j).set j y)) := fun y => by rw [eDC]; exact digC_set y (by rw [hcl]; exact hji)
      rw [← eDC] at hdb8 hd8
      have w1 : IntKind.i64.wrap ((dn : Int) - 1) = (dn : Int) - 1 := by rw [IntKind.wrap_i64]; omega
      have HD := hid_of hd
      clear hd hcur hcl eDC
      by_cases hdd : d + 1 = dn
      · have e1 : ((d : Int) == (dn : Int) - 1) = true := by simp; omega
        have hs0 : splice DC j [.int .i64 0] = digC (List.replicate (j + 1) 0 ++ dg.drop (j + 1)) := by
          rw [show (Value.int .i64 0) = Value.int .i64 ((0 : Nat) : Int) from rfl, HSET.out 0]
          congr 1
          rw [List.set_append_right _ _ (by simp), List.length_replicate, Nat.sub_self]
          have hlt : j < dg.length := by have := HDL.out; omega
          rw [List.drop_eq_getElem_cons hlt, List.set_cons_zero, List.replicate_succ']
          simp
        have HJ : Hid (∃ O, CS W0 b11 bd bw XE O (put V8 bd (splice DC j [.int .i64 0])) (List.replicate (j + 1) 0 ++ dg.drop (j + 1)) vs fa' (fn + 1) fc' K2 (addF p.pool Fs r n vs S1) ∧ Rw encZ 1 (core O (put V8 bd (splice DC j [.int .i64 0]))) va i (varsF r) ∧ ∀ q x, q < j + 1 → dg[q]? = some x → x + 1 = dom.length) := by
          rw [hs0]
          refine ⟨O8, HC8.out.setD _, HV8.out.sub (Sub.cores fun bb C hb ho => ⟨?_, ho⟩), fun q x hq hx => ?_⟩
          · rw [blk_put, if_neg (fun e => by rw [e, HC8.out.dO] at ho; cases ho)]; exact hb
          · by_cases e : q = j
            · rw [e, HD.out] at hx
              rw [← Option.some.inj hx, HDN.out]; exact hdd
            · exact HPRE.out q x (by omega) hx
        clear HSET hs0 HC8 HV8 HPRE HD hdd
        go_wp2_with fail
        refine ⟨rfl, rfl, ⟨⟨rfl, rfl, rfl, rfl, rfl, rfl, rfl, rfl⟩, rfl, j + 1, by omega, ?_, HJ⟩, ?_⟩
        · show Value.int .i64 _ = _
          go_num
        · show i - (intOf (Value.int .i64 _)).toNat < i - (intOf (F3 17)).toNat
          rw [H17.out]
          simp [intOf]; omega
      have e1 : ((d : Int) == (dn : Int) - 1) = false := by simp; omega
      have jb : ((j : Int) == (i : Int)) = false := by simp; omega
      have hinc : incF dom.length dg = some (List.replicate j 0 ++ (d + 1) :: dg.drop (j + 1)) := incF_at HPRE.out HD.out (by rw [HDN.out]; exact hdd)
      have hs0 : splice DC j [.int .i64 ((d : Int) + 1)] = digC (List.replicate j 0 ++ (d + 1) :: dg.drop (j + 1)) := by
        rw [show (Value.int .i64 ((d : Int) + 1)) = Value.int .i64 ((d + 1 : Nat) : Int) from by congr 1, HSET.out (d + 1)]
        congr 1
        rw [List.set_append_right _ _ (by simp), List.length_replicate, Nat.sub_self]
        have hlt : j < dg.length := by have := HDL.out; omega
        rw [List.drop_eq_getElem_cons hlt, List.set_cons_zero]
      obtain ⟨hrem, hdk2, hln2⟩ := incF_rem HCM.out.dk hinc
      have HI' : Hid (∃ O dgx vals K' S', CM W0 b11 bd bw XE p.pool dom Fs r n S (remM dom.length (List.replicate j 0 ++ (d + 1) :: dg.drop (j + 1))) O (put V8 bd (splice DC j [.int .i64 ((d : Int) + 1)])) dgx vals fa' (fn + 1) fc' K' S' ∧ Rw encZ 1 (core O (put V8 bd (splice DC j [.int .i64 ((d : Int) + 1)]))) va i (varsF r)) := by
        rw [hs0]
        refine ⟨O8, _, vs, K2, _, ⟨HC8.out.setD _, by rw [hln2]; exact HCM.out.dl, hdk2, HVL.out, HSO.out, rfl, fun out h9 => HCM.out.go out (ConTo.go dg _ vals S1 out hinc (by rw [← HVS.out]; exact h9))⟩, HV8.out.sub (Sub.cores fun bb C hb ho => ⟨?_, ho⟩)⟩
        rw [blk_put, if_neg (fun e => by rw [e, HC8.out.dO] at ho; cases ho)]; exact hb
      have HLT : Hid (remM dom.length (List.replicate j 0 ++ (d + 1) :: dg.drop (j + 1)) < μ) := by
        show _ < _
        rw [HCM.out.mu]; exact hrem
      have w2 : IntKind.i64.wrap ((d : Int) + 1) = (d : Int) + 1 := by rw [IntKind.wrap_i64]; omega
      clear HSET hs0 HC8 HV8 HPRE HD hinc hrem hdk2 hln2 hdd
      go_wp2_with fail
      exact ⟨rfl, rfl, ⟨_, ⟨⟨rfl, rfl, rfl, rfl, rfl, rfl, rfl, rfl⟩, fa', fn + 1, fc', rfl, HI'⟩⟩, HMU.out _ _ _ ⟨⟨rfl, rfl, rfl, rfl, rfl, rfl, rfl, rfl⟩, fa', fn + 1, fc', rfl, HI'⟩ HLT.out⟩



end Go.Proofs.Qxb6500787aGreat
