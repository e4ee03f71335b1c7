
import Derived.Test.Qxb6500787aGreatUl
import Derived.StillTailTactics
import Derived.Deep.QuietTactic
import Derived.BigQuiet
import Derived.Deep.RegionHeld
import Derived.Deep.CutRange
import Derived.Laws.ResultCell
import Derived.Laws.Rows
import Derived.DeepKeys
import Derived.DataBytes
import Derived.Laws.StructEq
import Derived.Laws.AppendOwn
import Derived.Laws.MakeOwn
import Derived.Lib.AppendStr
set_option linter.unusedSimpArgs false
set_option linter.unusedVariables false
namespace Go.Proofs.Qxb6500787aGreat
open Go.RowKit Go.Blk
attribute [local go_sem ↓] execOp_load execOp_store execOp_alloc
attribute [local go_sem] Tryz.ld26 Tryz.st26 Tryz.ld27 Tryz.st27 Tryz.ld28 Tryz.st28 Tryz.ld3 Tryz.st3 Tryz.ld29 Tryz.st29 Tryz.ld44 Tryz.st44 Tryz.ld4 Tryz.st4 Tryz.ld50 Tryz.st50 Tryz.ld32 Tryz.st32 Tryz.ld49 Tryz.st49 Tryz.ld68 Tryz.st68 Tryz.ld9 Tryz.st9 Tryz.ld40 Tryz.st40 Tryz.ld138 Tryz.st138 Tryz.ld139 Tryz.st139 Tryz.ld146 Tryz.st146 Tryz.ld183 Tryz.st183 Tryz.ld184 Tryz.st184 Tryz.ld192 Tryz.st192 Tryz.ld195 Tryz.st195 Tryz.ld217 Tryz.st217 Tryz.ld159 Tryz.st159 Tryz.ld142 Tryz.st142 Tryz.ld2 Tryz.st2 Tryz.ld5 Tryz.st5 Tryz.ld12 Tryz.st12 Tryz.ld21 Tryz.st21 Tryz.ld22 Tryz.st22 Tryz.ld24 Tryz.st24 Tryz.ld58 Tryz.st58 Tryz.ld97 Tryz.st97 Tryz.ld101 Tryz.st101 Tryz.ld116 Tryz.st116 Tryz.ld121 Tryz.st121 Tryz.ld135 Tryz.st135 Tryz.ld136 Tryz.st136 Tryz.ld143 Tryz.st143 Tryz.ld148 Tryz.st148 Tryz.ld154 Tryz.st154 Tryz.ld173 Tryz.st173 Tryz.ld187 Tryz.st187 Tryz.ld222 Tryz.st222 Tryz.ld241 Tryz.st241 Tryz.ld248 Tryz.st248 Tryz.ld268 Tryz.st268 Tryz.ld272 Tryz.st272 Tryz.ld153 Tryz.st153 Tryz.ld255 Tryz.st255 Tryz.ld256 Tryz.st256 Tryz.ld129 Tryz.st129 Tryz.ld152 Tryz.st152 Tryz.ld31 Tryz.st31 Tryz.ld46 Tryz.st46 Tryz.ld52 Tryz.st52 Tryz.ld54 Tryz.st54 Tryz.ld60 Tryz.st60 Tryz.ld70 Tryz.st70 Tryz.ld74 Tryz.st74 Tryz.ld93 Tryz.st93 Tryz.ld141 Tryz.st141 Tryz.ld151 Tryz.st151 Tryz.ld170 Tryz.st170 Tryz.ld186 Tryz.st186 Tryz.ld189 Tryz.st189 Tryz.ld194 Tryz.st194 Tryz.ld197 Tryz.st197 Tryz.ld219 Tryz.st219 Tryz.ld224 Tryz.st224 Tryz.ld230 Tryz.st230 Tryz.ld235 Tryz.st235 Tryz.ld243 Tryz.st243 Tryz.ld247 Tryz.st247 Tryz.ld252 Tryz.st252 Tryz.ld258 Tryz.st258 Tryz.al153 Tryz.al255 Tryz.al256 Tryz.al129 Tryz.al152 Tryz.al31 Tryz.al46 Tryz.al52 Tryz.al54 Tryz.al60 Tryz.al70 Tryz.al74 Tryz.al93 Tryz.al141 Tryz.al151 Tryz.al170 Tryz.al186 Tryz.al189 Tryz.al194 Tryz.al197 Tryz.al219 Tryz.al224 Tryz.al230 Tryz.al235 Tryz.al243 Tryz.al247 Tryz.al252 Tryz.al258
attribute [local go_sem] Request.length_enc Request.ok_enc Request.all_get Request.all_set Request.kind_get Request.kind_set Request.blob_get Request.blob_set Request.items_get Request.items_set Request.pred_get Request.pred_set Request.slots_get Request.slots_set Trace.length_enc Trace.ok_enc Trace.all_get Trace.all_set Trace.op_get Trace.op_set Trace.calls_get Trace.calls_set Item.length_enc Item.ok_enc Item.all_get Item.all_set Item.del_get Item.del_set Item.pred_get Item.pred_set Item.args_get Item.args_set Reply.length_enc Reply.ok_enc Reply.all_get Reply.all_set Reply.code_get Reply.code_set Reply.kind_get Reply.kind_set Reply.index_get Reply.index_set Reply.yes_get Reply.yes_set Reply.preds_get Reply.preds_set Reply.rules_get Reply.rules_set Reply.arity_get Reply.arity_set Reply.rows_get Reply.rows_set Reply.fact_get Reply.fact_set Reply.fact_del_get Reply.fact_del_set Reply.fact_pred_get Reply.fact_pred_set Reply.fact_args_get Reply.fact_args_set GEntry.length_enc GEntry.ok_enc GEntry.all_get GEntry.all_set GEntry.seq_get GEntry.seq_set GEntry.kind_get GEntry.kind_set GEntry.code_get GEntry.code_set GOp.length_enc GOp.ok_enc GOp.all_get GOp.all_set GOp.kind_get GOp.kind_set GOp.raw_get GOp.raw_set Reader.length_enc Reader.ok_enc Reader.all_get Reader.all_set Reader.buf_get Reader.buf_set Reader.at__get Reader.at__set Slot.length_enc Slot.ok_enc Slot.all_get Slot.all_set Slot.bound_get Slot.bound_set Slot.name_get Slot.name_set Session.length_enc Session.ok_enc Session.all_get Session.all_set Session.svc_get Session.svc_set Session.buf_get Session.buf_set Session.closed_get Session.closed_set GProgram.length_enc GProgram.ok_enc GProgram.all_get GProgram.all_set GProgram.pool_get GProgram.pool_set GProgram.preds_get GProgram.preds_set GProgram.rules_get GProgram.rules_set GProgram.strata_get GProgram.strata_set PredInfo.length_enc PredInfo.ok_enc PredInfo.all_get PredInfo.all_set PredInfo.arity_get PredInfo.arity_set PredInfo.base_get PredInfo.base_set PredInfo.stratum_get PredInfo.stratum_set Change.length_enc Change.ok_enc Change.all_get Change.all_set Change.del_get Change.del_set Change.pred_get Change.pred_set Change.t_get Change.t_set Store.length_enc Store.ok_enc Store.all_get Store.all_set Store.names_get Store.names_set Store.arity_get Store.arity_set Store.rows_get Store.rows_set Src.length_enc Src.ok_enc Src.all_get Src.all_set Src.b_get Src.b_set Src.at__get Src.at__set Atom.length_enc Atom.ok_enc Atom.all_get Atom.all_set Atom.pred_get Atom.pred_set Atom.args_get Atom.args_set GRule.length_enc GRule.ok_enc GRule.all_get GRule.all_set GRule.head_get GRule.head_set GRule.body_get GRule.body_set GRule.head_pred_get GRule.head_pred_set GRule.head_args_get GRule.head_args_set Cert.length_enc Cert.ok_enc Cert.all_get Cert.all_set Cert.names_get Cert.names_set Cert.nodes_get Cert.nodes_set Fact.length_enc Fact.ok_enc Fact.all_get Fact.all_set Fact.pred_get Fact.pred_set Fact.t_get Fact.t_set Literal.length_enc Literal.ok_enc Literal.all_get Literal.all_set Literal.neg_get Literal.neg_set Literal.atom_get Literal.atom_set Literal.atom_pred_get Literal.atom_pred_set Literal.atom_args_get Literal.atom_args_set Engine.length_enc Engine.ok_enc Engine.all_get Engine.all_set Engine.prog_get Engine.prog_set Engine.st_get Engine.st_set SrcCertm.length_enc SrcCertm.ok_enc SrcCertm.all_get SrcCertm.all_set SrcCertm.b_get SrcCertm.b_set SrcCertm.at__get SrcCertm.at__set GNode.length_enc GNode.ok_enc GNode.all_get GNode.all_set GNode.rule_get GNode.rule_set GNode.pred_get GNode.pred_set GNode.vals_get GNode.vals_set GNode.refs_get GNode.refs_set Term.length_enc Term.ok_enc Term.all_get Term.all_set Term.var_get Term.var_set Term.n_get Term.n_set Env.length_enc Env.ok_enc Env.all_get Env.all_set Env.val_get Env.val_set Env.set_get Env.set_set
attribute [local go_sem] size_put size_ext blk_put free_put blk_alloc free_alloc blk_drew free_drew blk_ext free_ext lookOr_some putOr_some segAt_some cellAt_some storeIn_some put_put put_alloc_new length_arr ok_arr_u8 ok_arr_u32 ok_arr_u64 ok_arr_i64 ok_arr_sl cellsV_agg cellsV_int cellsV_bool cellsV_string cellsV_pointer cellsV_slice cellsV_sl ok_int ok_bool ok_string ok_pointer ok_slice ok_sl toList_arr seg_arr set_arr nth_splice nth_splice0 seg_splice seg_splice0 splice_splice splice_splice0 length_splice_if
attribute [local go_sem ↓] execOp_box
attribute [local go_sem] box_run nth_arr_u8 put_arr_u8 blk_drewN free_drewN put_drewN blk_raw free_raw
/-- A node of a certificate, plainly. -/
structure CNode where
  rule : Int
  pred : Int
  vals : List Int
  refs : List Int
abbrev CC := List (List UInt8) × List CNode
def goCN : Nat → List (List UInt8) → List UInt8 → Int × List (List UInt8) × List UInt8
  | 0, acc, ys => (0, acc, ys)
  | _ + 1, _, [] => (29, [], [])
  | m + 1, acc, x :: r => if 64 < x.toNat then (31, [], []) else if r.length < x.toNat then (29, [], []) else goCN m (acc ++ [r.take x.toNat]) (r.drop x.toNat)
theorem goCN_cons (m : Nat) (acc : List (List UInt8)) (x : UInt8) (r : List UInt8) : goCN (m + 1) acc (x :: r) = if 64 < x.toNat then (31, [], []) else if r.length < x.toNat then (29, [], []) else goCN m (acc ++ [r.take x.toNat]) (r.drop x.toNat) := rfl
def nodZ : CNode := ⟨0, 0, [], []⟩
def nodB (t w : Nat) (vals : List Int) (r : List UInt8) : Int × CNode × List UInt8 := if t = 0 then (0, ⟨-1, (w : Int), vals, []⟩, r) else match refsD r with
  | none => (29, nodZ, [])
  | some (refs, r') => (0, ⟨(w : Int), 0, vals, refs⟩, r')
def nodeD : List UInt8 → Int × CNode × List UInt8
  | [] => (29, nodZ, [])
  | t :: r => if 1 < t.toNat then (32, nodZ, []) else match r with
    | [] => (29, nodZ, [])
    | w :: r2 => match refsD r2 with
      | none => (29, nodZ, [])
      | some (vals, r3) => nodB t.toNat w.toNat vals r3
def goCd : Nat → List CNode → List UInt8 → Int × List CNode × List UInt8
  | 0, acc, ys => (0, acc, ys)
  | m + 1, acc, ys => if (nodeD ys).1 ≠ 0 then ((nodeD ys).1, [], []) else goCd m (acc ++ [(nodeD ys).2.1]) (nodeD ys).2.2
theorem goCd_succ (m : Nat) (acc : List CNode) (ys : List UInt8) : goCd (m + 1) acc ys = if (nodeD ys).1 ≠ 0 then ((nodeD ys).1, [], []) else goCd m (acc ++ [(nodeD ys).2.1]) (nodeD ys).2.2 := rfl
def decCn (nms : List (List UInt8)) : List UInt8 → Int × CC
  | h :: l :: r => if h.toNat * 256 + l.toNat = 0 then (33, [], []) else if 256 < h.toNat * 256 + l.toNat then (34, [], []) else if (goCd (h.toNat * 256 + l.toNat) [] r).1 ≠ 0 then ((goCd (h.toNat * 256 + l.toNat) [] r).1, [], []) else if (goCd (h.toNat * 256 + l.toNat) [] r).2.2 ≠ [] then (30, [], []) else (0, nms, (goCd (h.toNat * 256 + l.toNat) [] r).2.1)
  | _ => (29, [], [])
def decC : List UInt8 → Int × CC
  | h :: l :: r => if (goCN (h.toNat * 256 + l.toNat) [] r).1 ≠ 0 then ((goCN (h.toNat * 256 + l.toNat) [] r).1, [], []) else decCn (goCN (h.toNat * 256 + l.toNat) [] r).2.1 (goCN (h.toNat * 256 + l.toNat) [] r).2.2
  | _ => (29, [], [])
theorem short2 {ys : List UInt8} (h : ys.length < 2) : ys = [] ∨ ∃ x, ys = [x] := by
  match ys, h with
  | [], _ => exact .inl rfl
  | [x], _ => exact .inr ⟨x, rfl⟩
theorem decC_short {ys : List UInt8} (h : ys.length < 2) : decC ys = (29, [], []) := by
  rcases short2 h with rfl | ⟨x, rfl⟩ <;> rfl
theorem decCn_short {nms : List (List UInt8)} {ys : List UInt8} (h : ys.length < 2) : decCn nms ys = (29, [], []) := by
  rcases short2 h with rfl | ⟨x, rfl⟩ <;> rfl
def NodC (W : World) (g : GNode) (d : CNode) : Prop := g.rule = d.rule ∧ g.pred = d.pred ∧ Rw encZ 1 W g.vals.a g.vals.len d.vals ∧ Rw encZ 1 W g.refs.a g.refs.len d.refs
theorem NodC.sub {W W' : World} {g : GNode} {d : CNode} (h : NodC W g d) (hs : Sub W W') : NodC W' g d := ⟨h.1, h.2.1, h.2.2.1.sub hs, h.2.2.2.sub hs⟩
def NodsC (W : World) (Gs : List GNode) (L : List CNode) : Prop := Gs.length = L.length ∧ ∀ (i : Nat) (l : GNode) (p : CNode), Gs[i]? = some l → L[i]? = some p → NodC W l p
theorem NodsC.sub {W W' : World} {Ls : List GNode} {L : List CNode} (h : NodsC W Ls L) (hs : Sub W W') : NodsC W' Ls L := ⟨h.1, fun i l p h1 h2 => (h.2 i l p h1 h2).sub hs⟩
theorem NodsC.snoc {W : World} {Ls : List GNode} {L : List CNode} (h : NodsC W Ls L) {l : GNode} {p : CNode} (hl : NodC W l p) : NodsC W (Ls ++ [l]) (L ++ [p]) := by
  refine ⟨by simp [h.1], fun i l' p' h1 h2 => ?_⟩
  by_cases hi : i < Ls.length
  · rw [List.getElem?_append_left hi] at h1
    rw [List.getElem?_append_left (by rw [← h.1]; exact hi)] at h2
    exact h.2 i l' p' h1 h2
  · have hl9 := (List.getElem?_eq_some_iff.1 h1).1
    rw [List.length_append, List.length_singleton] at hl9
    have e : i = Ls.length := by omega
    rw [List.getElem?_append_right (by omega), e, Nat.sub_self] at h1
    rw [List.getElem?_append_right (by have := h.1; omega), e, h.1, Nat.sub_self] at h2
    have e1 : l = l' := by simpa using h1
    have e2 : p = p' := by simpa using h2
    rw [← e1, ← e2]; exact hl
/-- A decoded certificate in memory. -/
def CertC (W : World) (x : Cert) (q : CC) : Prop := Rw encS 1 W x.names.a x.names.len q.1 ∧ ∃ Gs, Rw GNode.enc 4 W x.nodes.a x.nodes.len Gs ∧ NodsC W Gs q.2
theorem CertC.sub {W W' : World} {x : Cert} {q : CC} (h : CertC W x q) (hs : Sub W W') : CertC W' x q := by
  obtain ⟨h1, Gs, h2, h3⟩ := h
  exact ⟨h1.sub hs, Gs, h2.sub hs, h3.sub hs⟩
def CdPost (W : World) (q : Int × CC) (e : Ending) (V : World) : Prop := ∃ x : Cert, e = .returned (.tuple #[.agg x.enc.toArray, .int .i64 q.1]) ∧ W.Extends V ∧ (q.1 = 0 → CertC (newc W.heap.size V) x q.2)
theorem build243 (w : World) (a : Option Addr) (n c : Nat) : (buildOp 290 #[(0, .slice a n c)]).run Tryz.prog w = .ok (.value (.agg (rdE a n c 0).toArray)) w := by kernel_rfl
theorem build247a (w : World) (p : Int) (a : Option Addr) (n c : Nat) : (buildOp 182 #[(0, .int .i64 (-1)), (1, .int .i64 p), (2, .slice a n c)]).run Tryz.prog w = .ok (.value (.agg (GNode.enc ⟨-1, p, ⟨a, n, c⟩, ⟨none, 0, 0⟩⟩).toArray)) w := by kernel_rfl
theorem build247b (w : World) (p : Int) (a : Option Addr) (n c : Nat) (a' : Option Addr) (n' c' : Nat) : (buildOp 182 #[(0, .int .i64 p), (2, .slice a n c), (3, .slice a' n' c')]).run Tryz.prog w = .ok (.value (.agg (GNode.enc ⟨p, 0, ⟨a, n, c⟩, ⟨a', n', c'⟩⟩).toArray)) w := by kernel_rfl
theorem bslice217_lit (w : World) (r p : Int) (a : Option Addr) (n c : Nat) (a' : Option Addr) (n' c' : Nat) : (bsliceOp 177 1 #[(0, .agg #[.int .i64 r, .int .i64 p, .slice a n c, .slice a' n' c'])]).run Tryz.prog w = .ok (.value (.slice (some ⟨w.heap.size, 0, none⟩) 1 1)) (w.alloc (.cells #[.int .i64 r, .int .i64 p, .slice a n c, .slice a' n' c'] 182)) := by kernel_rfl
theorem bslice217 (w : World) (x : GNode) : (bsliceOp 177 1 #[(0, .agg (GNode.enc x).toArray)]).run Tryz.prog w = .ok (.value (.slice (some ⟨w.heap.size, 0, none⟩) 1 1)) (w.alloc (.cells (GNode.enc x).toArray 182)) := bslice217_lit w x.rule x.pred x.vals.a x.vals.len x.vals.cap x.refs.a x.refs.len x.refs.cap
theorem el217 : ElT GNode.enc 4 64 177 182 := by
  have info : ∃ i z, Tryz.prog.info? 182 = some i ∧ i.zero = some z ∧ i.size = 4 ∧ i.bytes = 64 ∧ z.cells.size = 4 := by
    have hq : (Tryz.prog.info? 182).map (fun i => (i.zero, i.size, i.bytes)) = some (some (.agg (GNode.zero.enc).toArray), 4, 64) := by kernel_rfl
    cases hx : Tryz.prog.info? 182 with
    | none => rw [hx] at hq; simp at hq
    | some i =>
      rw [hx] at hq
      simp only [Option.map_some, Option.some.injEq, Prod.mk.injEq] at hq
      exact ⟨i, _, rfl, hq.1, hq.2.1, hq.2.2, by rfl⟩
  exact ⟨Tryz.underlying177, info, GNode.length_enc, GNode.one_enc, by omega, by omega⟩
/-- The certificate while it is read. -/
structure CtM (W : World) (O : Own) (V : World) (x : Cert) (q : CC) : Prop where
  names : RowL W.heap.size O (.a 6 1) V 9 1 (.slice x.names.a x.names.len x.names.cap) q.1.length (q.1.flatMap encS)
  nodes : ∃ Gs, RowL W.heap.size O (.a 6 3) V 182 4 (.slice x.nodes.a x.nodes.len x.nodes.cap) Gs.length (Gs.flatMap GNode.enc) ∧ NodsC (core O V) Gs q.2
theorem CtM.fr {W : World} {O : Own} {V : World} {x : Cert} {q : CC} (h : CtM W O V x q) {L : Lab → Prop} {O' : Own} {V' : World} (hF : Fr L O V O' V') (h1 : ¬ L .no) (h2 : ¬ L (.a 6 1)) (h3 : ¬ L (.a 6 3)) : CtM W O' V' x q := by
  obtain ⟨Gs, g1, g2⟩ := h.nodes
  exact ⟨h.names.fr hF h2, Gs, g1.fr hF h3, g2.sub (Sub.ext (core_fr hF h1))⟩
theorem CtM.fin {W : World} {O : Own} {V : World} {x : Cert} {q : CC} (h : CtM W O V x q) (hB : Bl0 W O V) : CertC (newc W.heap.size V) x q := by
  obtain ⟨Gs, g1, g2⟩ := h.nodes
  exact ⟨h.names.nw encS_len, Gs, g1.nw GNode.length_enc, g2.sub hB.sub⟩
/-- The state of certm.Decode. -/
structure CdS (W : World) (bs b2 b4 : Nat) (a : Option Addr) (n c : Nat) (x : Cert) (q : CC) (p : Nat) (O : Own) (V : World) : Prop where
  bl : Bl0 W O V
  ob : O bs = .a 6 0
  s2 : Sc W O V b2 Cert.zero.enc
  s4 : Sc W O V b4 x.enc
  ct : CtM W O V x q
  rd : Rdr W bs a n c p V
theorem CdS.call {W : World} {bs b2 b4 : Nat} {a : Option Addr} {n c : Nat} {x : Cert} {q : CC} {p p' : Nat} {O : Own} {V V' : World} (h : CdS W bs b2 b4 a n c x q p O V) (hs : Side (isR bs) V V') (hR : Rdr W bs a n c p' V') : CdS W bs b2 b4 a n c x q p' (lab O V.heap.size .no) V' := by
  have hF := call0 h.ob hs
  exact ⟨h.bl.step hF (fun e => by have := (Lab.a.inj e).2; omega), (hF.keep bs (blk_lt h.rd.1)).trans h.ob, h.s2.fr hF (fun e => by have := (Lab.a.inj e).1; omega), h.s4.fr hF (fun e => by have := (Lab.a.inj e).1; omega), h.ct.fr hF (fun e => by cases e) (fun e => by have := (Lab.a.inj e).2; omega) (fun e => by have := (Lab.a.inj e).2; omega), hR⟩
theorem CdS.drewN {W : World} {bs b2 b4 : Nat} {a : Option Addr} {n c : Nat} {x : Cert} {q : CC} {p : Nat} {O : Own} {V : World} (h : CdS W bs b2 b4 a n c x q p O V) (k : Nat) : CdS W bs b2 b4 a n c x q p O (V.drewN k) := by
  have hF : Fr (fun _ => False) O V O (V.drewN k) := (Fr.refl _ _ _).drewN k
  exact ⟨h.bl.step hF (fun e => e), h.ob, h.s2.fr hF (fun e => e), h.s4.fr hF (fun e => e), h.ct.fr hF (fun e => e) (fun e => e) (fun e => e), h.rd.drewN k⟩
theorem CdS.put {W : World} {bs b2 b4 : Nat} {a : Option Addr} {n c : Nat} {x : Cert} {q : CC} {p p' : Nat} {O : Own} {V : World} (h : CdS W bs b2 b4 a n c x q p O V) (hp : p' ≤ n) : CdS W bs b2 b4 a n c x q p' O (Blk.put V bs (rdE a n c ((p' : Nat) : Int))) := by
  have hF : Fr (fun l => l = .a 6 0) O V O (Blk.put V bs (rdE a n c ((p' : Nat) : Int))) := (Fr.refl _ _ _).put (L := fun l => l = .a 6 0) h.ob _
  exact ⟨h.bl.step hF (fun e => by have := (Lab.a.inj e).2; omega), h.ob, h.s2.fr hF (fun e => by have := (Lab.a.inj e).1; omega), h.s4.fr hF (fun e => by have := (Lab.a.inj e).1; omega), h.ct.fr hF (fun e => by cases e) (fun e => by have := (Lab.a.inj e).2; omega) (fun e => by have := (Lab.a.inj e).2; omega), h.rd.step hp⟩
def cd1I (W : World) (bs b2 b4 : Nat) (a : Option Addr) (n c : Nat) (xs : List UInt8) (K : Nat) (tot : Int × List (List UInt8) × List UInt8) (f : Nat → Value) (V : World) : Prop := f 0 = .slice a n c ∧ f 2 = .pointer (some ⟨b2, 0, none⟩) ∧ f 4 = .pointer (some ⟨b4, 0, none⟩) ∧ f 5 = .pointer (some ⟨bs, 0, none⟩) ∧ f 6 = .int .i64 (K : Nat) ∧ ∃ i : Nat, i ≤ K ∧ f 8 = .int .i64 (i : Nat) ∧ Hid (∃ O na nc L p, CdS W bs b2 b4 a n c ⟨⟨na, i, nc⟩, ⟨none, 0, 0⟩⟩ (L, []) p O V ∧ L.length = i ∧ goCN (K - i) L (xs.drop p) = tot)
def cd2I (W : World) (bs b2 b4 : Nat) (a : Option Addr) (n c : Nat) (xs : List UInt8) (sn : Sl) (nms : List (List UInt8)) (K : Nat) (tot : Int × List CNode × List UInt8) (f : Nat → Value) (V : World) : Prop := f 0 = .slice a n c ∧ f 2 = .pointer (some ⟨b2, 0, none⟩) ∧ f 4 = .pointer (some ⟨b4, 0, none⟩) ∧ f 5 = .pointer (some ⟨bs, 0, none⟩) ∧ f 6 = .int .i64 (K : Nat) ∧ ∃ i : Nat, i ≤ K ∧ f 11 = .int .i64 (i : Nat) ∧ Hid (∃ O na nc L p, CdS W bs b2 b4 a n c ⟨sn, ⟨na, i, nc⟩⟩ (nms, L) p O V ∧ L.length = i ∧ goCd (K - i) L (xs.drop p) = tot)
end Go.Proofs.Qxb6500787aGreat
