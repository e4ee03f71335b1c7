
import Derived.Test.Qxb6500787aGreatUd
import Derived.StillTailTactics
import Derived.Deep.QuietTactic
import Derived.BigQuiet
import Derived.Deep.RegionHeld
import Derived.Deep.CutRange
import Derived.Laws.ResultCell
import Derived.Laws.Rows
import Derived.DeepKeys
import Derived.DataBytes
import Derived.Laws.StructEq
import Derived.Laws.AppendOwn
import Derived.Laws.MakeOwn
import Derived.Lib.AppendStr
set_option linter.unusedSimpArgs false
set_option linter.unusedVariables false
namespace Go.Proofs.Qxb6500787aGreat
open Go.RowKit Go.Blk
attribute [local go_sem ↓] execOp_load execOp_store execOp_alloc
attribute [local go_sem] Tryz.ld26 Tryz.st26 Tryz.ld27 Tryz.st27 Tryz.ld28 Tryz.st28 Tryz.ld3 Tryz.st3 Tryz.ld29 Tryz.st29 Tryz.ld44 Tryz.st44 Tryz.ld4 Tryz.st4 Tryz.ld50 Tryz.st50 Tryz.ld32 Tryz.st32 Tryz.ld49 Tryz.st49 Tryz.ld68 Tryz.st68 Tryz.ld9 Tryz.st9 Tryz.ld40 Tryz.st40 Tryz.ld138 Tryz.st138 Tryz.ld139 Tryz.st139 Tryz.ld146 Tryz.st146 Tryz.ld183 Tryz.st183 Tryz.ld184 Tryz.st184 Tryz.ld192 Tryz.st192 Tryz.ld195 Tryz.st195 Tryz.ld217 Tryz.st217 Tryz.ld159 Tryz.st159 Tryz.ld142 Tryz.st142 Tryz.ld2 Tryz.st2 Tryz.ld5 Tryz.st5 Tryz.ld12 Tryz.st12 Tryz.ld21 Tryz.st21 Tryz.ld22 Tryz.st22 Tryz.ld24 Tryz.st24 Tryz.ld58 Tryz.st58 Tryz.ld97 Tryz.st97 Tryz.ld101 Tryz.st101 Tryz.ld116 Tryz.st116 Tryz.ld121 Tryz.st121 Tryz.ld135 Tryz.st135 Tryz.ld136 Tryz.st136 Tryz.ld143 Tryz.st143 Tryz.ld148 Tryz.st148 Tryz.ld154 Tryz.st154 Tryz.ld173 Tryz.st173 Tryz.ld187 Tryz.st187 Tryz.ld222 Tryz.st222 Tryz.ld241 Tryz.st241 Tryz.ld248 Tryz.st248 Tryz.ld268 Tryz.st268 Tryz.ld272 Tryz.st272 Tryz.ld153 Tryz.st153 Tryz.ld255 Tryz.st255 Tryz.ld256 Tryz.st256 Tryz.ld129 Tryz.st129 Tryz.ld152 Tryz.st152 Tryz.ld31 Tryz.st31 Tryz.ld46 Tryz.st46 Tryz.ld52 Tryz.st52 Tryz.ld54 Tryz.st54 Tryz.ld60 Tryz.st60 Tryz.ld70 Tryz.st70 Tryz.ld74 Tryz.st74 Tryz.ld93 Tryz.st93 Tryz.ld141 Tryz.st141 Tryz.ld151 Tryz.st151 Tryz.ld170 Tryz.st170 Tryz.ld186 Tryz.st186 Tryz.ld189 Tryz.st189 Tryz.ld194 Tryz.st194 Tryz.ld197 Tryz.st197 Tryz.ld219 Tryz.st219 Tryz.ld224 Tryz.st224 Tryz.ld230 Tryz.st230 Tryz.ld235 Tryz.st235 Tryz.ld243 Tryz.st243 Tryz.ld247 Tryz.st247 Tryz.ld252 Tryz.st252 Tryz.ld258 Tryz.st258 Tryz.al153 Tryz.al255 Tryz.al256 Tryz.al129 Tryz.al152 Tryz.al31 Tryz.al46 Tryz.al52 Tryz.al54 Tryz.al60 Tryz.al70 Tryz.al74 Tryz.al93 Tryz.al141 Tryz.al151 Tryz.al170 Tryz.al186 Tryz.al189 Tryz.al194 Tryz.al197 Tryz.al219 Tryz.al224 Tryz.al230 Tryz.al235 Tryz.al243 Tryz.al247 Tryz.al252 Tryz.al258
attribute [local go_sem] Request.length_enc Request.ok_enc Request.all_get Request.all_set Request.kind_get Request.kind_set Request.blob_get Request.blob_set Request.items_get Request.items_set Request.pred_get Request.pred_set Request.slots_get Request.slots_set Trace.length_enc Trace.ok_enc Trace.all_get Trace.all_set Trace.op_get Trace.op_set Trace.calls_get Trace.calls_set Item.length_enc Item.ok_enc Item.all_get Item.all_set Item.del_get Item.del_set Item.pred_get Item.pred_set Item.args_get Item.args_set Reply.length_enc Reply.ok_enc Reply.all_get Reply.all_set Reply.code_get Reply.code_set Reply.kind_get Reply.kind_set Reply.index_get Reply.index_set Reply.yes_get Reply.yes_set Reply.preds_get Reply.preds_set Reply.rules_get Reply.rules_set Reply.arity_get Reply.arity_set Reply.rows_get Reply.rows_set Reply.fact_get Reply.fact_set Reply.fact_del_get Reply.fact_del_set Reply.fact_pred_get Reply.fact_pred_set Reply.fact_args_get Reply.fact_args_set GEntry.length_enc GEntry.ok_enc GEntry.all_get GEntry.all_set GEntry.seq_get GEntry.seq_set GEntry.kind_get GEntry.kind_set GEntry.code_get GEntry.code_set GOp.length_enc GOp.ok_enc GOp.all_get GOp.all_set GOp.kind_get GOp.kind_set GOp.raw_get GOp.raw_set Reader.length_enc Reader.ok_enc Reader.all_get Reader.all_set Reader.buf_get Reader.buf_set Reader.at__get Reader.at__set Slot.length_enc Slot.ok_enc Slot.all_get Slot.all_set Slot.bound_get Slot.bound_set Slot.name_get Slot.name_set Session.length_enc Session.ok_enc Session.all_get Session.all_set Session.svc_get Session.svc_set Session.buf_get Session.buf_set Session.closed_get Session.closed_set GProgram.length_enc GProgram.ok_enc GProgram.all_get GProgram.all_set GProgram.pool_get GProgram.pool_set GProgram.preds_get GProgram.preds_set GProgram.rules_get GProgram.rules_set GProgram.strata_get GProgram.strata_set PredInfo.length_enc PredInfo.ok_enc PredInfo.all_get PredInfo.all_set PredInfo.arity_get PredInfo.arity_set PredInfo.base_get PredInfo.base_set PredInfo.stratum_get PredInfo.stratum_set Change.length_enc Change.ok_enc Change.all_get Change.all_set Change.del_get Change.del_set Change.pred_get Change.pred_set Change.t_get Change.t_set Store.length_enc Store.ok_enc Store.all_get Store.all_set Store.names_get Store.names_set Store.arity_get Store.arity_set Store.rows_get Store.rows_set Src.length_enc Src.ok_enc Src.all_get Src.all_set Src.b_get Src.b_set Src.at__get Src.at__set Atom.length_enc Atom.ok_enc Atom.all_get Atom.all_set Atom.pred_get Atom.pred_set Atom.args_get Atom.args_set GRule.length_enc GRule.ok_enc GRule.all_get GRule.all_set GRule.head_get GRule.head_set GRule.body_get GRule.body_set GRule.head_pred_get GRule.head_pred_set GRule.head_args_get GRule.head_args_set Cert.length_enc Cert.ok_enc Cert.all_get Cert.all_set Cert.names_get Cert.names_set Cert.nodes_get Cert.nodes_set Fact.length_enc Fact.ok_enc Fact.all_get Fact.all_set Fact.pred_get Fact.pred_set Fact.t_get Fact.t_set Literal.length_enc Literal.ok_enc Literal.all_get Literal.all_set Literal.neg_get Literal.neg_set Literal.atom_get Literal.atom_set Literal.atom_pred_get Literal.atom_pred_set Literal.atom_args_get Literal.atom_args_set Engine.length_enc Engine.ok_enc Engine.all_get Engine.all_set Engine.prog_get Engine.prog_set Engine.st_get Engine.st_set SrcCertm.length_enc SrcCertm.ok_enc SrcCertm.all_get SrcCertm.all_set SrcCertm.b_get SrcCertm.b_set SrcCertm.at__get SrcCertm.at__set GNode.length_enc GNode.ok_enc GNode.all_get GNode.all_set GNode.rule_get GNode.rule_set GNode.pred_get GNode.pred_set GNode.vals_get GNode.vals_set GNode.refs_get GNode.refs_set Term.length_enc Term.ok_enc Term.all_get Term.all_set Term.var_get Term.var_set Term.n_get Term.n_set Env.length_enc Env.ok_enc Env.all_get Env.all_set Env.val_get Env.val_set Env.set_get Env.set_set
attribute [local go_sem] size_put size_ext blk_put free_put blk_alloc free_alloc blk_drew free_drew blk_ext free_ext lookOr_some putOr_some segAt_some cellAt_some storeIn_some put_put put_alloc_new length_arr ok_arr_u8 ok_arr_u32 ok_arr_u64 ok_arr_i64 ok_arr_sl cellsV_agg cellsV_int cellsV_bool cellsV_string cellsV_pointer cellsV_slice cellsV_sl ok_int ok_bool ok_string ok_pointer ok_slice ok_sl toList_arr seg_arr set_arr nth_splice nth_splice0 seg_splice seg_splice0 splice_splice splice_splice0 length_splice_if
attribute [local go_sem ↓] execOp_box
attribute [local go_sem] box_run nth_arr_u8 put_arr_u8 blk_drewN free_drewN put_drewN blk_raw free_raw
/-- What a function builds that keeps all old memory. -/
structure Bl0 (W : World) (O : Own) (V : World) : Prop where
  fr : Fr (fun _ => False) (fun _ => .a 6 2) W O V
theorem Bl0.refl (W : World) : Bl0 W (fun _ => .a 6 2) W := ⟨Fr.refl _ _ _⟩
theorem Bl0.step {W : World} {O : Own} {V : World} (h : Bl0 W O V) {L : Lab → Prop} {O' : Own} {V' : World} (hF : Fr L O V O' V') (hl : ¬ L (.a 6 2)) : Bl0 W O' V' :=
  ⟨⟨hF.os.trans h.fr.os, hF.tape.trans h.fr.tape, hF.output.trans h.fr.output, Nat.le_trans h.fr.size hF.size, fun k hk => (hF.keep k (Nat.lt_of_lt_of_le hk h.fr.size)).trans (h.fr.keep k hk), fun k hk hn => (hF.block k (Nat.lt_of_lt_of_le hk h.fr.size) (by rw [h.fr.keep k hk]; exact hl)).trans (h.fr.block k hk hn)⟩⟩
theorem Bl0.ext {W : World} {O : Own} {V : World} (h : Bl0 W O V) : W.Extends V := h.fr.toExt
theorem Bl0.sub {W : World} {O : Own} {V : World} (h : Bl0 W O V) : Sub (core O V) (newc W.heap.size V) := fun b C hb => by
  obtain ⟨h1, h2⟩ := core_blk hb
  refine blk_newc h1 (Nat.le_of_not_lt fun hk => ?_)
  rw [h.fr.keep b hk] at h2; cases h2
theorem call0 {br : Nat} {O : Own} {V V' : World} (ho : O br = .a 6 0) (hs : Side (isR br) V V') : Fr (fun l => l = .a 6 0) O V (lab O V.heap.size .no) V' := ⟨hs.os, hs.tape, hs.output, hs.size, fun k hk => lab_lt hk, fun k hk hn => hs.block k hk (fun e => hn (by have e' : k = br := e; rw [e']; exact ho))⟩
theorem Bl0.rdr {br : Nat} {a : Option Addr} {n c p : Nat} {W : World} {O : Own} {V : World} (h : Bl0 W O V) (ho : O br = .a 6 0) (hR : Rdr W br a n c p V) {L : Lab → Prop} {O' : Own} {V' : World} (hF : Fr L O V O' V') (hl : ¬ L (.a 6 0)) (hl2 : ¬ L (.a 6 2)) : Rdr W br a n c p V' := hR.fr ho hF hl (fun k hk => by rw [h.fr.keep k hk]; exact hl2)
/-- The predicates. -/
def goD : Nat → List PredInfo → List UInt8 → Int × List PredInfo × List UInt8
  | 0, acc, ys => (0, acc, ys)
  | _ + 1, _, [] => (19, [], [])
  | m + 1, acc, x :: r => if (bitD r).1 ≠ 0 then ((bitD r).1, [], []) else goD m (acc ++ [⟨((x.toNat : Nat) : Int), (bitD r).2.1, 0⟩]) (bitD r).2.2
theorem goD_cons (m : Nat) (acc : List PredInfo) (x : UInt8) (r : List UInt8) : goD (m + 1) acc (x :: r) = if (bitD r).1 ≠ 0 then ((bitD r).1, [], []) else goD m (acc ++ [⟨((x.toNat : Nat) : Int), (bitD r).2.1, 0⟩]) (bitD r).2.2 := rfl
def goR : Nat → List PR → List UInt8 → Int × List PR × List UInt8
  | 0, acc, ys => (0, acc, ys)
  | m + 1, acc, ys => if (ruleD ys).1 ≠ 0 then ((ruleD ys).1, [], []) else goR m (acc ++ [(ruleD ys).2.1]) (ruleD ys).2.2
theorem goR_succ (m : Nat) (acc : List PR) (ys : List UInt8) : goR (m + 1) acc ys = if (ruleD ys).1 ≠ 0 then ((ruleD ys).1, [], []) else goR m (acc ++ [(ruleD ys).2.1]) (ruleD ys).2.2 := rfl
def PP.zero : PP := ⟨[], [], [], 0⟩
/-- The rules and the end. -/
def decRu (pl : List (List UInt8)) (ds : List PredInfo) : List UInt8 → Int × PP
  | [] => (19, PP.zero)
  | k :: r => if (goR k.toNat [] r).1 ≠ 0 then ((goR k.toNat [] r).1, PP.zero) else if (goR k.toNat [] r).2.2 ≠ [] then (20, PP.zero) else (0, ⟨pl, ds, (goR k.toNat [] r).2.1, 0⟩)
def decPr (pl : List (List UInt8)) : List UInt8 → Int × PP
  | [] => (19, PP.zero)
  | k :: r => if (goD k.toNat [] r).1 ≠ 0 then ((goD k.toNat [] r).1, PP.zero) else decRu pl (goD k.toNat [] r).2.1 (goD k.toNat [] r).2.2
def magic : List UInt8 := [68, 76, 80, 49]
/-- A policy image, read plainly. -/
def decP (xs : List UInt8) : Int × PP := if xs.length < 4 ∨ xs.take 4 ≠ magic then (18, PP.zero) else if (poolD (xs.drop 4)).1 ≠ 0 then ((poolD (xs.drop 4)).1, PP.zero) else decPr (poolD (xs.drop 4)).2.1 (poolD (xs.drop 4)).2.2
theorem build141z (w : World) : (buildOp 47 #[]).run Tryz.prog w = .ok (.value (.agg (GProgram.zero.enc).toArray)) w := by kernel_rfl
theorem build189 (w : World) (a : Option Addr) (n c : Nat) : (buildOp 135 #[(0, .slice a n c), (1, .int .i64 4)]).run Tryz.prog w = .ok (.value (.agg (rdE a n c 4).toArray)) w := by kernel_rfl
theorem build151 (w : World) (k : Int) (b : Bool) : (buildOp 65 #[(0, .int .i64 k), (1, .bool b)]).run Tryz.prog w = .ok (.value (.agg (PredInfo.enc ⟨k, b, 0⟩).toArray)) w := by kernel_rfl
theorem bslice138 (w : World) (x : PredInfo) : (bsliceOp 44 1 #[(0, .agg (PredInfo.enc x).toArray)]).run Tryz.prog w = .ok (.value (.slice (some ⟨w.heap.size, 0, none⟩) 1 1)) (w.alloc (.cells (PredInfo.enc x).toArray 65)) := by
  obtain ⟨k, b, s⟩ := x
  kernel_rfl
theorem bslice139_lit (w : World) (p : Int) (a : Option Addr) (n c : Nat) (a' : Option Addr) (n' c' : Nat) : (bsliceOp 45 1 #[(0, .agg #[.int .i64 p, .slice a n c, .slice a' n' c'])]).run Tryz.prog w = .ok (.value (.slice (some ⟨w.heap.size, 0, none⟩) 1 1)) (w.alloc (.cells #[.int .i64 p, .slice a n c, .slice a' n' c'] 147)) := by kernel_rfl
theorem bslice139 (w : World) (x : GRule) : (bsliceOp 45 1 #[(0, .agg (GRule.enc x).toArray)]).run Tryz.prog w = .ok (.value (.slice (some ⟨w.heap.size, 0, none⟩) 1 1)) (w.alloc (.cells (GRule.enc x).toArray 147)) := bslice139_lit w x.head.pred x.head.args.a x.head.args.len x.head.args.cap x.body.a x.body.len x.body.cap
theorem el138 : ElT PredInfo.enc 3 24 44 65 := by
  have info : ∃ i z, Tryz.prog.info? 65 = some i ∧ i.zero = some z ∧ i.size = 3 ∧ i.bytes = 24 ∧ z.cells.size = 3 := by
    have hq : (Tryz.prog.info? 65).map (fun i => (i.zero, i.size, i.bytes)) = some (some (.agg (PredInfo.zero.enc).toArray), 3, 24) := by kernel_rfl
    cases hx : Tryz.prog.info? 65 with
    | none => rw [hx] at hq; simp at hq
    | some i =>
      rw [hx] at hq
      simp only [Option.map_some, Option.some.injEq, Prod.mk.injEq] at hq
      exact ⟨i, _, rfl, hq.1, hq.2.1, hq.2.2, by rfl⟩
  exact ⟨Tryz.underlying44, info, PredInfo.length_enc, PredInfo.one_enc, by omega, by omega⟩
theorem el139 : ElT GRule.enc 3 56 45 147 := by
  have info : ∃ i z, Tryz.prog.info? 147 = some i ∧ i.zero = some z ∧ i.size = 3 ∧ i.bytes = 56 ∧ z.cells.size = 3 := by
    have hq : (Tryz.prog.info? 147).map (fun i => (i.zero, i.size, i.bytes)) = some (some (.agg (GRule.zero.enc).toArray), 3, 56) := by kernel_rfl
    cases hx : Tryz.prog.info? 147 with
    | none => rw [hx] at hq; simp at hq
    | some i =>
      rw [hx] at hq
      simp only [Option.map_some, Option.some.injEq, Prod.mk.injEq] at hq
      exact ⟨i, _, rfl, hq.1, hq.2.1, hq.2.2, by rfl⟩
  exact ⟨Tryz.underlying45, info, GRule.length_enc, GRule.one_enc, by omega, by omega⟩

def RulsC (W : World) (Rs : List GRule) (L : List PR) : Prop := Rs.length = L.length ∧ ∀ (i : Nat) (l : GRule) (p : PR), Rs[i]? = some l → L[i]? = some p → RuleC W l p
theorem RulsC.sub {W W' : World} {Ls : List GRule} {L : List PR} (h : RulsC W Ls L) (hs : Sub W W') : RulsC W' Ls L := ⟨h.1, fun i l p h1 h2 => (h.2 i l p h1 h2).sub hs⟩
theorem RulsC.snoc {W : World} {Ls : List GRule} {L : List PR} (h : RulsC W Ls L) {l : GRule} {p : PR} (hl : RuleC W l p) : RulsC W (Ls ++ [l]) (L ++ [p]) := by
  refine ⟨by simp [h.1], fun i l' p' h1 h2 => ?_⟩
  by_cases hi : i < Ls.length
  · rw [List.getElem?_append_left hi] at h1
    rw [List.getElem?_append_left (by rw [← h.1]; exact hi)] at h2
    exact h.2 i l' p' h1 h2
  · have hl9 := (List.getElem?_eq_some_iff.1 h1).1
    rw [List.length_append, List.length_singleton] at hl9
    have e : i = Ls.length := by omega
    rw [List.getElem?_append_right (by omega), e, Nat.sub_self] at h1
    rw [List.getElem?_append_right (by have := h.1; omega), e, h.1, Nat.sub_self] at h2
    have e1 : l = l' := by simpa using h1
    have e2 : p = p' := by simpa using h2
    rw [← e1, ← e2]; exact hl
/-- A decoded program: its predicates can still be written. -/
structure PgM (W : World) (O : Own) (V : World) (x : GProgram) (p : PP) : Prop where
  pool : Rw encS 1 (core O V) x.pool.a x.pool.len p.pool
  preds : RowL W.heap.size O (.a 6 3) V 65 3 (.slice x.preds.a x.preds.len x.preds.cap) p.preds.length (p.preds.flatMap PredInfo.enc)
  rules : ∃ Rs, RowL W.heap.size O (.a 6 1) V 147 3 (.slice x.rules.a x.rules.len x.rules.cap) Rs.length (Rs.flatMap GRule.enc) ∧ RulsC (core O V) Rs p.rules
  strata : x.strata = p.strata
theorem PgM.fr {W : World} {O : Own} {V : World} {x : GProgram} {p : PP} (h : PgM W O V x p) {L : Lab → Prop} {O' : Own} {V' : World} (hF : Fr L O V O' V') (h1 : ¬ L .no) (h2 : ¬ L (.a 6 1)) (h3 : ¬ L (.a 6 3)) : PgM W O' V' x p := by
  have hs := Sub.ext (core_fr hF h1)
  obtain ⟨Rs, g1, g2⟩ := h.rules
  exact ⟨h.pool.sub hs, h.preds.fr hF h3, ⟨Rs, g1.fr hF h2, g2.sub hs⟩, h.strata⟩
def DePost (W : World) (q : Int × PP) (e : Ending) (V : World) : Prop := ∃ x : GProgram, e = .returned (.tuple #[.agg x.enc.toArray, .int .i64 q.1]) ∧ ∃ O, Bl0 W O V ∧ (q.1 = 0 → PgM W O V x q.2)
def de1I (W : World) (bs b2 b4 : Nat) (a : Option Addr) (n c : Nat) (xs : List UInt8) (pl : List (List UInt8)) (sp : Sl) (K : Nat) (tot : Int × List PredInfo × List UInt8) (f : Nat → Value) (V : World) : Prop := f 0 = .slice a n c ∧ f 2 = .pointer (some ⟨b2, 0, none⟩) ∧ f 4 = .pointer (some ⟨b4, 0, none⟩) ∧ f 5 = .pointer (some ⟨bs, 0, none⟩) ∧ f 8 = .int .i64 (K : Nat) ∧ ∃ i : Nat, i ≤ K ∧ f 10 = .int .i64 (i : Nat) ∧ Hid (∃ O sd L p, Bl0 W O V ∧ O bs = .a 6 0 ∧ Sc W O V b2 GProgram.zero.enc ∧ Sc W O V b4 (GProgram.enc ⟨sp, sd, ⟨none, 0, 0⟩, 0⟩) ∧ PgM W O V ⟨sp, sd, ⟨none, 0, 0⟩, 0⟩ ⟨pl, L, [], 0⟩ ∧ L.length = i ∧ Rdr W bs a n c p V ∧ goD (K - i) L (xs.drop p) = tot)
def de2I (W : World) (bs b2 b4 : Nat) (a : Option Addr) (n c : Nat) (xs : List UInt8) (pl : List (List UInt8)) (ds : List PredInfo) (sp sd : Sl) (K : Nat) (tot : Int × List PR × List UInt8) (f : Nat → Value) (V : World) : Prop := f 0 = .slice a n c ∧ f 2 = .pointer (some ⟨b2, 0, none⟩) ∧ f 4 = .pointer (some ⟨b4, 0, none⟩) ∧ f 5 = .pointer (some ⟨bs, 0, none⟩) ∧ f 8 = .int .i64 (K : Nat) ∧ ∃ i : Nat, i ≤ K ∧ f 15 = .int .i64 (i : Nat) ∧ Hid (∃ O sr L p, Bl0 W O V ∧ O bs = .a 6 0 ∧ Sc W O V b2 GProgram.zero.enc ∧ Sc W O V b4 (GProgram.enc ⟨sp, sd, sr, 0⟩) ∧ PgM W O V ⟨sp, sd, sr, 0⟩ ⟨pl, ds, L, 0⟩ ∧ L.length = i ∧ Rdr W bs a n c p V ∧ goR (K - i) L (xs.drop p) = tot)
theorem str_ne4 {x : List UInt8} (h : x ≠ magic) : ¬ ((⟨x.toArray⟩ : ByteArray) = ⟨#[68, 76, 80, 49]⟩) := str_ne (y := magic) h
attribute [local go_sem ↓] execOp_build execOp_bslice execOp_slice execOp_convert
attribute [local go_sem] build141z build189 build151 bslice138 bslice139 rd_len rd0 rd1 rd_set1
set_option maxRecDepth 100000 in
theorem frame117d (f : Nat → Value) : frameN 117 f = #[f 0, f 1, f 2, f 3, f 4, f 5, f 6, f 7, f 8, f 9, f 10, f 11, f 12, f 13, f 14, f 15, f 16, f 17, f 18, f 19, f 20, f 21, f 22, f 23, f 24, f 25, f 26, f 27, f 28, f 29, f 30, f 31, f 32, f 33, f 34, f 35, f 36, f 37, f 38, f 39, f 40, f 41, f 42, f 43, f 44, f 45, f 46, f 47, f 48, f 49, f 50, f 51, f 52, f 53, f 54, f 55, f 56, f 57, f 58, f 59, f 60, f 61, f 62, f 63, f 64, f 65, f 66, f 67, f 68, f 69, f 70, f 71, f 72, f 73, f 74, f 75, f 76, f 77, f 78, f 79, f 80, f 81, f 82, f 83, f 84, f 85, f 86, f 87, f 88, f 89, f 90, f 91, f 92, f 93, f 94, f 95, f 96, f 97, f 98, f 99, f 100, f 101, f 102, f 103, f 104, f 105, f 106, f 107, f 108, f 109, f 110, f 111, f 112, f 113, f 114, f 115, f 116] := by kernel_rfl
set_option maxRecDepth 40000 in
set_option maxHeartbeats 4000000 in
theorem bdec_any (W : World) (a : Option Addr) (n c : Nat) (hn : n ≤ 65536) (hnc : n ≤ c) (hc : c ≤ 9223372036854775807) (xs : List UInt8) (hX : Bs W a n xs) : Calls Tryz.prog 22 #[.slice a n c] W (DePost W (decP xs)) := by
  obtain ⟨Q, hQ⟩ : ∃ Q, Q = DePost W (decP xs) := ⟨_, rfl⟩
  rw [← hQ]
  have HQ := hid_of hQ
  have HX := hid_of hX
  have HXL := hid_of hX.1
  have HFIN : Hid (∀ (O : Own) (V : World) (x : GProgram) (b2 : Nat) (C2 : List Value), Bl0 W O V → Sc W O V b2 C2 → ((decP xs).1 = 0 → PgM W O V x (decP xs).2) → ∀ cd, cd = (decP xs).1 → Q (.returned (.tuple #[.agg x.enc.toArray, .int .i64 cd])) (put V b2 x.enc)) := by
    intro O V x b2 C2 h1 h2 h3 cd h4
    rw [HQ.out, h4]
    have hF := (h2.put x.enc).1
    exact ⟨x, rfl, O, h1.step hF (fun e => by have := (Lab.a.inj e).1; omega), fun e => (h3 e).fr hF (fun e => by cases e) (fun e => by have := (Lab.a.inj e).1; omega) (fun e => by have := (Lab.a.inj e).1; omega)⟩
  clear hX hQ
  go_enter Tryz.func22, Tryz.ntmps22
  go_upto_region 2 with fail
  refine wp_world (fun V => ∃ O, Bl0 W O V ∧ Sc W O V W.heap.size GProgram.zero.enc ∧ Sc W O V (W.heap.size + 1) GProgram.zero.enc) ?_ ?_
  · have s1 := Sc.new (W := W) (O := fun _ => .a 6 2) (V := W) (Nat.le_refl _) (GProgram.zero.enc).toArray 47
    have B1 := (Bl0.refl W).step s1.1 (fun e => e)
    have s2 := Sc.new (W := W) (O := lab (fun _ => .a 6 2) W.heap.size (.a 0 9)) (V := W.alloc (.cells (GProgram.zero.enc).toArray 47)) s1.1.size (GProgram.zero.enc).toArray 47
    refine ⟨_, B1.step s2.1 (fun e => e), s1.2.fr s2.1 (fun e => e), ?_⟩
    have := s2.2
    rw [World.size_alloc] at this ⊢
    exact this
  intro V1 HV1
  try simp only [World.size_alloc]
  obtain ⟨b2, hb2⟩ : ∃ b2, b2 = W.heap.size := ⟨_, rfl⟩
  obtain ⟨b4, hb4⟩ : ∃ b4, b4 = W.heap.size + 1 := ⟨_, rfl⟩
  rw [← hb4, ← hb2] at HV1 ⊢
  have n24 : b2 ≠ b4 := by omega
  have HN24 := hid_of n24
  clear hb2 hb4 n24
  obtain ⟨O1, hB1, hs2, hs4⟩ := HV1
  have hb2 := hs2.cell
  have hf2 := hs2.fre
  have hb4 := hs4.cell
  have hf4 := hs4.fre
  have hn24 : ¬ b2 = b4 := HN24.out
  have hx1 := hB1.ext
  have HB1 := hid_of hB1
  have HS2 := hid_of hs2
  have HS4 := hid_of hs4
  have HX1 := hid_of hx1
  have HZ : Hid (∀ (O : Own) (V : World) (C2 : List Value), Bl0 W O V → Sc W O V b2 C2 → ∀ cd, cd ≠ 0 → (decP xs).1 = cd → Q (.returned (.tuple #[.agg (GProgram.zero.enc).toArray, .int .i64 cd])) (put V b2 GProgram.zero.enc)) := fun O V C2 h1 h2 cd h3 h4 => HFIN.out O V GProgram.zero b2 C2 h1 h2 (fun e => absurd (h4.symm.trans e) h3) cd h4.symm
  clear hB1 hs2 hs4 hx1
  have hxl := HXL.out
  by_cases hsh : n < 4
  · have hsh' : (n : Int) < 4 := by omega
    have HP : Hid (Q (.returned (.tuple #[.agg (GProgram.zero.enc).toArray, .int .i64 18])) (put V1 b2 GProgram.zero.enc)) := HZ.out _ V1 _ HB1.out HS2.out 18 (by decide) (by unfold decP; rw [if_pos (.inl (by omega))])
    clear hxl
    go_wp2_with fail
    refine ret_cell_tmp (C := GProgram.zero.enc) rfl rfl rfl ?_ (by kernel_rfl) (by rw [GProgram.length_enc]; kernel_rfl) rfl HP.out
    first | (rw [blk_put, if_pos rfl, hb2]; rfl) | (simp only [blk_put, if_true, hb2, Option.map_some]; try rfl)
  have hsh' : ¬ (n : Int) < 4 := by omega
  obtain ⟨nm, hnm⟩ : ∃ nm, nm = xs.take 4 := ⟨_, rfl⟩
  have hsl : ∀ W', (sliceOp 31 (.slice a n c) none (some (.int .i64 4)) none).run Tryz.prog W' = .ok (.value (.slice a 4 c)) W' := fun W' => slice_hi Tryz.underlying31 (by kernel_rfl) W' a n c 4 (by omega)
  have hcv : ∀ W', W.Extends W' → (convOp 31 9 (.slice a 4 c)).run Tryz.prog W' = .ok (.value (.string ⟨nm.toArray⟩)) W' := fun W' hx => by
    have := conv_str (c := c) ((HX.out.grow hx).cut (l := 0) (k := 4) (cap := c) (by omega) hnc)
    rw [cutA_zero, List.drop_zero, ← hnm] at this
    exact this
  have hcv1 := hcv V1 HX1.out
  by_cases hmg : nm = magic
  rotate_left 1
  · have hne := str_ne4 hmg
    have hbq : (nm == [68, 76, 80, 49]) = false := str_beq hmg
    have HP : Hid (Q (.returned (.tuple #[.agg (GProgram.zero.enc).toArray, .int .i64 18])) (put V1 b2 GProgram.zero.enc)) := HZ.out _ V1 _ HB1.out HS2.out 18 (by decide) (by unfold decP; rw [if_pos (.inr (by rw [← hnm]; exact hmg))])
    clear hxl hmg hnm hcv
    go_wp2_with fail
    refine ret_cell_tmp (C := GProgram.zero.enc) rfl rfl rfl ?_ (by kernel_rfl) (by rw [GProgram.length_enc]; kernel_rfl) rfl HP.out
    first | (rw [blk_put, if_pos rfl, hb2]; rfl) | (simp only [blk_put, if_true, hb2, Option.map_some]; try rfl)
  have hD : decP xs = if (poolD (xs.drop 4)).1 ≠ 0 then ((poolD (xs.drop 4)).1, PP.zero) else decPr (poolD (xs.drop 4)).2.1 (poolD (xs.drop 4)).2.2 := by
    unfold decP
    rw [if_neg (fun h => h.elim (fun h => by omega) (fun h => h (by rw [← hnm]; exact hmg)))]
  have HD := hid_of hD
  have hmg' : (⟨nm.toArray⟩ : ByteArray) = ⟨#[68, 76, 80, 49]⟩ := by rw [hmg]; rfl
  have hbq : (nm == [68, 76, 80, 49]) = true := by rw [hmg]; rfl
  have HW2 : Hid (∃ O, Bl0 W O (V1.alloc (.cells (rdE a n c 4).toArray 135)) ∧ O V1.heap.size = .a 6 0 ∧ Sc W O (V1.alloc (.cells (rdE a n c 4).toArray 135)) b2 GProgram.zero.enc ∧ Sc W O (V1.alloc (.cells (rdE a n c 4).toArray 135)) b4 GProgram.zero.enc ∧ Rdr W V1.heap.size a n c 4 (V1.alloc (.cells (rdE a n c 4).toArray 135))) := by
    have hx : V1.Extends (V1.alloc (.cells (rdE a n c 4).toArray 135)) := extends_alloc (ext_Ext (Ext.refl _)) _
    have hF : Fr (fun _ => False) O1 V1 (lab O1 V1.heap.size (.a 6 0)) (V1.alloc (.cells (rdE a n c 4).toArray 135)) := ⟨hx.os, hx.tape, hx.output, hx.size, fun k hk => lab_lt hk, fun k hk _ => hx.block k hk⟩
    exact ⟨_, HB1.out.step hF (fun e => e), lab_ge (Nat.le_refl _), HS2.out.fr hF (fun e => e), HS4.out.fr hF (fun e => e), by rw [blk_alloc, if_pos rfl]; rfl, by rw [free_alloc, if_pos rfl], HX1.out.trans hx, HB1.out.fr.size, by omega⟩
  clear hD hxl hnm hcv HB1 HS2 HS4 hmg
  go_upto_region 5 with fail
  refine wp_world (fun V => ∃ O, Bl0 W O V ∧ O V1.heap.size = .a 6 0 ∧ Sc W O V b2 GProgram.zero.enc ∧ Sc W O V b4 GProgram.zero.enc ∧ Rdr W V1.heap.size a n c 4 V) HW2.out ?_
  intro V2 HV2
  clear HW2 hb2 hf2 hb4 hf4 hcv1 hsl hmg' HX1
  obtain ⟨bs, hbs⟩ : ∃ bs, bs = V1.heap.size := ⟨_, rfl⟩
  rw [← hbs] at HV2 ⊢
  clear hbs
  obtain ⟨O2, hB2, ho2, hs2, hs4, hR2⟩ := HV2
  have hcall := pool_any W V2 bs a n c 4 hR2 hn hnc hc xs HX.out
  have HB2 := hid_of hB2
  have HO2 := hid_of ho2
  have HS2 := hid_of hs2
  have HS4 := hid_of hs4
  have HBL := hid_of (blk_lt hR2.1)
  clear hB2 ho2 hs2 hs4 hR2
  go_wp2_with fail
  refine hcall.mono ?_
  rintro e V3 ⟨pa, pn, pc, rfl, hP3, p3, hR3, hSd3, hd3⟩
  dsimp only
  obtain ⟨cd, hcd⟩ : ∃ cd, cd = (poolD (xs.drop 4)).1 := ⟨_, rfl⟩
  rw [← hcd] at hP3 hd3 ⊢
  have hF3 := call0 HO2.out hSd3
  have hB3 := HB2.out.step hF3 (fun e => by have := (Lab.a.inj e).2; omega)
  have ho3 : (lab O2 V2.heap.size .no) bs = .a 6 0 := (hF3.keep bs HBL.out).trans HO2.out
  have hs2 := HS2.out.fr hF3 (fun e => by have := (Lab.a.inj e).1; omega)
  have hs4 := HS4.out.fr hF3 (fun e => by have := (Lab.a.inj e).1; omega)
  have hP3' := fun e => (hP3 e).sub (newc_core (n := V2.heap.size) (V := V3) O2)
  have hb2 := hs2.cell
  have hf2 := hs2.fre
  have hb4 := hs4.cell
  have hf4 := hs4.fre
  have HCD := hid_of hcd
  clear hcd
  by_cases hc0 : cd = 0
  rotate_left 1
  · have HP : Hid (Q (.returned (.tuple #[.agg (GProgram.zero.enc).toArray, .int .i64 cd])) (put V3 b2 GProgram.zero.enc)) := HZ.out _ V3 _ hB3 hs2 cd hc0 (by rw [HD.out, if_pos (by rw [← HCD.out]; exact hc0), ← HCD.out])
    have hcb : (cd != 0) = true := by simp [hc0]
    clear hcall hP3 hd3 hF3 hB3 ho3 hs2 hs4 hP3' hc0 hSd3 hR3
    go_wp2_with fail
    refine ret_cell_tmp (C := GProgram.zero.enc) rfl rfl rfl ?_ (by kernel_rfl) (by rw [GProgram.length_enc]; kernel_rfl) rfl HP.out
    first | (rw [blk_put, if_pos rfl, hb2]; rfl) | (simp only [blk_put, if_true, hb2, Option.map_some]; try rfl)
  subst hc0
  have hP0 := hP3' rfl
  have hr0 := hd3 rfl
  have HD2 : Hid (decP xs = decPr (poolD (xs.drop 4)).2.1 (xs.drop p3)) := by
    show _ = _
    rw [HD.out, if_neg (fun e => e HCD.out.symm), hr0]
  obtain ⟨pl, hpl⟩ : ∃ pl, pl = (poolD (xs.drop 4)).2.1 := ⟨_, rfl⟩
  rw [← hpl] at HD2 hP0
  have hp4 := hs4.put (GProgram.enc ⟨⟨pa, pn, pc⟩, ⟨none, 0, 0⟩, ⟨none, 0, 0⟩, 0⟩)
  have HW4 : Hid (∃ O, Bl0 W O (put V3 b4 (GProgram.enc ⟨⟨pa, pn, pc⟩, ⟨none, 0, 0⟩, ⟨none, 0, 0⟩, 0⟩)) ∧ O bs = .a 6 0 ∧ Sc W O (put V3 b4 (GProgram.enc ⟨⟨pa, pn, pc⟩, ⟨none, 0, 0⟩, ⟨none, 0, 0⟩, 0⟩)) b2 GProgram.zero.enc ∧ Sc W O (put V3 b4 (GProgram.enc ⟨⟨pa, pn, pc⟩, ⟨none, 0, 0⟩, ⟨none, 0, 0⟩, 0⟩)) b4 (GProgram.enc ⟨⟨pa, pn, pc⟩, ⟨none, 0, 0⟩, ⟨none, 0, 0⟩, 0⟩) ∧ Rdr W bs a n c p3 (put V3 b4 (GProgram.enc ⟨⟨pa, pn, pc⟩, ⟨none, 0, 0⟩, ⟨none, 0, 0⟩, 0⟩)) ∧ Rw encS 1 (core O (put V3 b4 (GProgram.enc ⟨⟨pa, pn, pc⟩, ⟨none, 0, 0⟩, ⟨none, 0, 0⟩, 0⟩))) pa pn pl) := ⟨_, hB3.step hp4.1 (fun e => by have := (Lab.a.inj e).1; omega), ho3, hs2.putO HN24.out, hp4.2, hB3.rdr ho3 hR3 hp4.1 (fun e => by have := (Lab.a.inj e).1; omega) (fun e => by have := (Lab.a.inj e).1; omega), hP0.sub (Sub.ext (core_fr hp4.1 (fun e => by cases e)))⟩
  clear hcall hP3 hd3 hF3 hB3 ho3 hs2 hs4 hP3' hSd3 hR3 hP0 hr0 hpl hp4 HB2 HO2 HS2 HS4 HCD HBL HD
  go_upto_region 9 with fail
  refine wp_world (fun V => ∃ O, Bl0 W O V ∧ O bs = .a 6 0 ∧ Sc W O V b2 GProgram.zero.enc ∧ Sc W O V b4 (GProgram.enc ⟨⟨pa, pn, pc⟩, ⟨none, 0, 0⟩, ⟨none, 0, 0⟩, 0⟩) ∧ Rdr W bs a n c p3 V ∧ Rw encS 1 (core O V) pa pn pl) HW4.out ?_
  intro V4 HV4
  clear HW4 hb2 hf2 hb4 hf4
  obtain ⟨O4, hB4, ho4, hs2, hs4, hR4, hP4⟩ := HV4
  have hcall := nxt_any W V4 bs a n c p3 hR4 hn hnc hc xs HX.out
  have HBL := hid_of (blk_lt hR4.1)
  have HB4 := hid_of hB4
  have HO4 := hid_of ho4
  have HS2 := hid_of hs2
  have HS4 := hid_of hs4
  have HP4 := hid_of hP4
  clear hB4 ho4 hs2 hs4 hR4 hP4
  go_wp2_with fail
  refine hcall.mono ?_
  rintro e V5 ⟨k1, ok1, p5, rfl, hN5, hR5, hSd5⟩
  dsimp only
  have hF5 := call0 HO4.out hSd5
  have hB5 := HB4.out.step hF5 (fun e => by have := (Lab.a.inj e).2; omega)
  have ho5 : (lab O4 V4.heap.size .no) bs = .a 6 0 := (hF5.keep bs HBL.out).trans HO4.out
  have hs2 := HS2.out.fr hF5 (fun e => by have := (Lab.a.inj e).1; omega)
  have hs4 := HS4.out.fr hF5 (fun e => by have := (Lab.a.inj e).1; omega)
  have hP5 := HP4.out.sub (Sub.ext (core_fr hF5 (fun e => by cases e)))
  have hk1 := hN5.lt
  have hb2 := hs2.cell
  have hf2 := hs2.fre
  have hb4 := hs4.cell
  have hf4 := hs4.fre
  rcases hN5.cases with ⟨rfl, x, hx, hdx⟩ | ⟨rfl, hdx, hp5⟩
  rotate_left 1
  · have HP : Hid (Q (.returned (.tuple #[.agg (GProgram.zero.enc).toArray, .int .i64 19])) (put V5 b2 GProgram.zero.enc)) := HZ.out _ V5 _ hB5 hs2 19 (by decide) (by rw [HD2.out, hdx]; rfl)
    clear hcall hF5 hB5 ho5 hs2 hs4 hP5 hSd5 hR5 hN5 hdx hp5
    go_wp2_with fail
    refine ret_cell_tmp (C := GProgram.zero.enc) rfl rfl rfl ?_ (by kernel_rfl) (by rw [GProgram.length_enc]; kernel_rfl) rfl HP.out
    first | (rw [blk_put, if_pos rfl, hb2]; rfl) | (simp only [blk_put, if_true, hb2, Option.map_some]; try rfl)
  obtain ⟨tot, htot⟩ : ∃ tot, tot = goD k1 [] (xs.drop p5) := ⟨_, rfl⟩
  have HG : Hid (decP xs = if tot.1 ≠ 0 then (tot.1, PP.zero) else decRu pl tot.2.1 tot.2.2) := by
    show _ = _
    rw [HD2.out, hdx, htot, hx]; rfl
  have HI0 : Hid (∃ O sd L p, Bl0 W O V5 ∧ O bs = .a 6 0 ∧ Sc W O V5 b2 GProgram.zero.enc ∧ Sc W O V5 b4 (GProgram.enc ⟨⟨pa, pn, pc⟩, sd, ⟨none, 0, 0⟩, 0⟩) ∧ PgM W O V5 ⟨⟨pa, pn, pc⟩, sd, ⟨none, 0, 0⟩, 0⟩ ⟨pl, L, [], 0⟩ ∧ L.length = 0 ∧ Rdr W bs a n c p V5 ∧ goD (k1 - 0) L (xs.drop p) = tot) := ⟨_, ⟨none, 0, 0⟩, [], p5, hB5, ho5, hs2, hs4, ⟨hP5, RowL.nil _ _ _ _ _ _, ⟨[], RowL.nil _ _ _ _ _ _, rfl, fun i l p h => by simp at h⟩, rfl⟩, rfl, hR5, htot.symm⟩
  clear hcall hF5 hB5 ho5 hs2 hs4 hP5 hSd5 hR5 hN5 hdx hx htot HB4 HO4 HS2 HS4 HP4 HBL HD2 hb2 hf2 hb4 hf4
  go_upto_region 13 with fail
  refine wp_loop_f 117 (de1I W bs b2 b4 a n c xs pl ⟨pa, pn, pc⟩ k1 tot) (fun f _ => k1 - (intOf (f 10)).toNat) rfl ⟨rfl, rfl, rfl, rfl, rfl, 0, by omega, rfl, HI0⟩ ?_
  clear HI0
  intro F V hrel
  obtain ⟨f0, f2, f4, f5, f8, i, hi, f10, HI⟩ := hrel
  have H10 := hid_of f10
  rw [frame117d, f0, f2, f4, f5, f8, f10]
  clear f0 f2 f4 f5 f8 f10
  obtain ⟨O6, sd, L, p6, hB6, ho6, hs2, hs4, hM6, hLi, hR6, hgo⟩ := HI.out
  have hb2 := hs2.cell
  have hf2 := hs2.fre
  have hb4 := hs4.cell
  have hf4 := hs4.fre
  have hn24 : ¬ b2 = b4 := HN24.out
  have HB6 := hid_of hB6
  have HO6 := hid_of ho6
  have HS2 := hid_of hs2
  have HS4 := hid_of hs4
  have HM6 := hid_of hM6
  have HLI := hid_of hLi
  have HBL := hid_of (blk_lt hR6.1)
  have hcall := nxt_any W V bs a n c p6 hR6 hn hnc hc xs HX.out
  by_cases hin : i < k1
  · have hin' : (i : Int) < (k1 : Int) := by omega
    obtain ⟨m, hm⟩ : ∃ m, k1 - i = m + 1 := ⟨k1 - i - 1, by omega⟩
    rw [hm] at hgo
    have HGO := hid_of hgo
    have HM := hid_of hm
    clear HI hB6 ho6 hs2 hs4 hM6 hLi hR6 hgo hm
    go_wp2_with fail
    refine hcall.mono ?_
    rintro e V7 ⟨k2, ok2, p7, rfl, hN7, hR7, hSd7⟩
    dsimp only
    have hF7 := call0 HO6.out hSd7
    have hB7 := HB6.out.step hF7 (fun e => by have := (Lab.a.inj e).2; omega)
    have ho7 : (lab O6 V.heap.size .no) bs = .a 6 0 := (hF7.keep bs HBL.out).trans HO6.out
    have hs2 := HS2.out.fr hF7 (fun e => by have := (Lab.a.inj e).1; omega)
    have hs4 := HS4.out.fr hF7 (fun e => by have := (Lab.a.inj e).1; omega)
    have hM7 := HM6.out.fr hF7 (fun e => by cases e) (fun e => by have := (Lab.a.inj e).2; omega) (fun e => by have := (Lab.a.inj e).2; omega)
    have hk2 := hN7.lt
    have hb2 := hs2.cell
    have hf2 := hs2.fre
    have hb4 := hs4.cell
    have hf4 := hs4.fre
    rcases hN7.cases with ⟨rfl, x, hx, hdx⟩ | ⟨rfl, hdx, hp7⟩
    rotate_left 1
    · have HP : Hid (Q (.returned (.tuple #[.agg (GProgram.zero.enc).toArray, .int .i64 19])) (put V7 b2 GProgram.zero.enc)) := by
        refine HZ.out _ V7 _ hB7 hs2 19 (by decide) ?_
        have e1 : tot = (19, [], []) := by rw [← HGO.out, hdx]; rfl
        rw [HG.out, e1]; rfl
      clear hcall hF7 hB7 ho7 hs2 hs4 hM7 hSd7 hR7 hN7 hdx hp7
      go_wp2_with fail
      refine ret_cell_tmp (C := GProgram.zero.enc) rfl rfl rfl ?_ (by kernel_rfl) (by rw [GProgram.length_enc]; kernel_rfl) rfl HP.out
      first | (rw [blk_put, if_pos rfl, hb2]; rfl) | (simp only [blk_put, if_true, hb2, Option.map_some]; try rfl)
    have hcall2 := bit_any W V7 bs a n c p7 hR7 hn hnc hc xs HX.out
    have HGB : Hid (tot = if (bitD (xs.drop p7)).1 ≠ 0 then ((bitD (xs.drop p7)).1, [], []) else goD m (L ++ [⟨((k2 : Nat) : Int), (bitD (xs.drop p7)).2.1, 0⟩]) (bitD (xs.drop p7)).2.2) := by
      show _ = _
      rw [← HGO.out, hdx, goD_cons, hx]
    have HBL7 := hid_of (blk_lt hR7.1)
    have HB7 := hid_of hB7
    have HO7 := hid_of ho7
    have HS2 := hid_of hs2
    have HS4 := hid_of hs4
    have HM7 := hid_of hM7
    clear hcall hF7 hB7 ho7 hs2 hs4 hM7 hSd7 hR7 hN7 hdx hx hb2 hf2 hb4 hf4
    go_wp2_with fail
    refine hcall2.mono ?_
    rintro e V8 ⟨rfl, p8, hR8, hSd8, hd8⟩
    dsimp only
    obtain ⟨cd, hcd⟩ : ∃ cd, cd = (bitD (xs.drop p7)).1 := ⟨_, rfl⟩
    obtain ⟨bb, hbb⟩ : ∃ bb, bb = (bitD (xs.drop p7)).2.1 := ⟨_, rfl⟩
    rw [← hcd] at hd8
    rw [← hcd, ← hbb] at HGB ⊢
    have HCD := hid_of hcd
    clear hcd hbb
    have hF8 := call0 HO7.out hSd8
    have hB8 := HB7.out.step hF8 (fun e => by have := (Lab.a.inj e).2; omega)
    have ho8 : (lab (lab O6 V.heap.size .no) V7.heap.size .no) bs = .a 6 0 := (hF8.keep bs HBL7.out).trans HO7.out
    have hs2 := HS2.out.fr hF8 (fun e => by have := (Lab.a.inj e).1; omega)
    have hs4 := HS4.out.fr hF8 (fun e => by have := (Lab.a.inj e).1; omega)
    have hM8 := HM7.out.fr hF8 (fun e => by cases e) (fun e => by have := (Lab.a.inj e).2; omega) (fun e => by have := (Lab.a.inj e).2; omega)
    have hb2 := hs2.cell
    have hf2 := hs2.fre
    have hb4 := hs4.cell
    have hf4 := hs4.fre
    by_cases hc0 : cd = 0
    rotate_left 1
    · have HP : Hid (Q (.returned (.tuple #[.agg (GProgram.zero.enc).toArray, .int .i64 cd])) (put V8 b2 GProgram.zero.enc)) := by
        refine HZ.out _ V8 _ hB8 hs2 cd hc0 ?_
        rw [HG.out, HGB.out, if_pos hc0]
        exact congrArg Prod.fst (if_pos hc0)
      have hcb : (cd != 0) = true := by simp [hc0]
      clear hcall2 hF8 hB8 ho8 hs2 hs4 hM8 hSd8 hR8 hd8 hc0
      go_wp2_with fail
      refine ret_cell_tmp (C := GProgram.zero.enc) rfl rfl rfl ?_ (by kernel_rfl) (by rw [GProgram.length_enc]; kernel_rfl) rfl HP.out
      first | (rw [blk_put, if_pos rfl, hb2]; rfl) | (simp only [blk_put, if_true, hb2, Option.map_some]; try rfl)
    subst hc0
    have hr0 := hd8 rfl
    obtain ⟨a2, c2, V9, hrun, hrow9, hF9⟩ := appL PredInfo.enc 3 24 44 65 el138.und el138.info el138.len el138.one el138.pos el138.small 44 (⟨((k2 : Nat) : Int), bb, 0⟩ : PredInfo) hM8.preds hB8.fr.size (by have := HLI.out; show L.length ≤ _; omega) (PredInfo.enc ⟨((k2 : Nat) : Int), bb, 0⟩).toArray rfl 1
    have hB9 := hB8.step hF9 (fun e => by have := (Lab.a.inj e).2; omega)
    have ho9 := (hF9.keep bs (blk_lt hR8.1)).trans ho8
    have hs29 := hs2.fr hF9 (fun e => by have := (Lab.a.inj e).1; omega)
    have hs49 := hs4.fr hF9 (fun e => by have := (Lab.a.inj e).1; omega)
    have hR9 := hB8.rdr ho8 hR8 hF9 (fun e => by have := (Lab.a.inj e).2; omega) (fun e => by have := (Lab.a.inj e).2; omega)
    have hsb9 := Sub.ext (core_fr hF9 (fun e => by cases e))
    have hp9 := hs49.put (GProgram.enc ⟨⟨pa, pn, pc⟩, ⟨a2, sd.len + 1, c2⟩, ⟨none, 0, 0⟩, 0⟩)
    have hM9 : PgM W (lab (lab (lab O6 V.heap.size .no) V7.heap.size .no) V8.heap.size (.a 6 3)) V9 ⟨⟨pa, pn, pc⟩, ⟨a2, sd.len + 1, c2⟩, ⟨none, 0, 0⟩, 0⟩ ⟨pl, L ++ [⟨((k2 : Nat) : Int), bb, 0⟩], [], 0⟩ := by
      obtain ⟨Rs, g1, g2⟩ := hM8.rules
      exact ⟨hM8.pool.sub hsb9, hrow9, ⟨Rs, g1.fr hF9 (fun e => by have := (Lab.a.inj e).2; omega), g2.sub hsb9⟩, rfl⟩
    have HI' : Hid (∃ O sx L p, Bl0 W O (put V9 b4 (GProgram.enc ⟨⟨pa, pn, pc⟩, ⟨a2, sd.len + 1, c2⟩, ⟨none, 0, 0⟩, 0⟩)) ∧ O bs = .a 6 0 ∧ Sc W O (put V9 b4 (GProgram.enc ⟨⟨pa, pn, pc⟩, ⟨a2, sd.len + 1, c2⟩, ⟨none, 0, 0⟩, 0⟩)) b2 GProgram.zero.enc ∧ Sc W O (put V9 b4 (GProgram.enc ⟨⟨pa, pn, pc⟩, ⟨a2, sd.len + 1, c2⟩, ⟨none, 0, 0⟩, 0⟩)) b4 (GProgram.enc ⟨⟨pa, pn, pc⟩, sx, ⟨none, 0, 0⟩, 0⟩) ∧ PgM W O (put V9 b4 (GProgram.enc ⟨⟨pa, pn, pc⟩, ⟨a2, sd.len + 1, c2⟩, ⟨none, 0, 0⟩, 0⟩)) ⟨⟨pa, pn, pc⟩, sx, ⟨none, 0, 0⟩, 0⟩ ⟨pl, L, [], 0⟩ ∧ L.length = i + 1 ∧ Rdr W bs a n c p (put V9 b4 (GProgram.enc ⟨⟨pa, pn, pc⟩, ⟨a2, sd.len + 1, c2⟩, ⟨none, 0, 0⟩, 0⟩)) ∧ goD (k1 - (i + 1)) L (xs.drop p) = tot) := by
      refine ⟨_, ⟨a2, sd.len + 1, c2⟩, L ++ [⟨((k2 : Nat) : Int), bb, 0⟩], p8, hB9.step hp9.1 (fun e => by have := (Lab.a.inj e).1; omega), ho9, hs29.putO HN24.out, hp9.2, hM9.fr hp9.1 (fun e => by cases e) (fun e => by have := (Lab.a.inj e).1; omega) (fun e => by have := (Lab.a.inj e).1; omega), by rw [List.length_append, HLI.out]; rfl, hB9.rdr ho9 hR9 hp9.1 (fun e => by have := (Lab.a.inj e).1; omega) (fun e => by have := (Lab.a.inj e).1; omega), ?_⟩
      have e2 : k1 - (i + 1) = m := by have := HM.out; omega
      rw [e2, HGB.out, if_neg (fun e => e rfl), hr0]
    have hb29 := hs29.cell
    have hf29 := hs29.fre
    have hb49 := hs49.cell
    have hf49 := hs49.fre
    clear hcall2 hF8 hB8 ho8 hs2 hs4 hM8 hSd8 hR8 hd8 hr0 hrow9 hF9 hB9 ho9 hs29 hs49 hR9 hsb9 hp9 hM9 HB7 HO7 HS2 HS4 HM7 hb2 hf2
    go_wp2_with (at_builtin; refine wpList_append_run rfl _ _ 44 rfl _ _ _ _ rfl rfl hrun ?_)
    refine ⟨rfl, rfl, ⟨rfl, rfl, rfl, rfl, rfl, i + 1, by omega, ?_, HI'⟩, ?_⟩
    · show Value.int .i64 _ = _
      go_num
    · show k1 - (intOf (Value.int .i64 _)).toNat < k1 - (intOf (F 10)).toNat
      rw [H10.out]
      simp [intOf]; omega
  have hin' : ¬ (i : Int) < (k1 : Int) := by omega
  have e1 : tot = (0, L, xs.drop p6) := by
    rw [← hgo, show k1 - i = 0 by omega]; rfl
  have HG2 : Hid (decP xs = decRu pl L (xs.drop p6)) := by
    show _ = _
    rw [HG.out, e1]; rfl
  clear HI hB6 ho6 hs2 hs4 hM6 hLi hR6 hgo e1 HG
  go_wp2_with fail
  refine hcall.mono ?_
  rintro e V7 ⟨k2, ok2, p7, rfl, hN7, hR7, hSd7⟩
  dsimp only
  have hF7 := call0 HO6.out hSd7
  have hB7 := HB6.out.step hF7 (fun e => by have := (Lab.a.inj e).2; omega)
  have ho7 : (lab O6 V.heap.size .no) bs = .a 6 0 := (hF7.keep bs HBL.out).trans HO6.out
  have hs2 := HS2.out.fr hF7 (fun e => by have := (Lab.a.inj e).1; omega)
  have hs4 := HS4.out.fr hF7 (fun e => by have := (Lab.a.inj e).1; omega)
  have hM7 := HM6.out.fr hF7 (fun e => by cases e) (fun e => by have := (Lab.a.inj e).2; omega) (fun e => by have := (Lab.a.inj e).2; omega)
  have hk2 := hN7.lt
  have hb2 := hs2.cell
  have hf2 := hs2.fre
  have hb4 := hs4.cell
  have hf4 := hs4.fre
  rcases hN7.cases with ⟨rfl, x, hx, hdx⟩ | ⟨rfl, hdx, hp7⟩
  rotate_left 1
  · have HP : Hid (Q (.returned (.tuple #[.agg (GProgram.zero.enc).toArray, .int .i64 19])) (put V7 b2 GProgram.zero.enc)) := by
      refine HZ.out _ V7 _ hB7 hs2 19 (by decide) ?_
      rw [HG2.out, hdx]; rfl
    clear hcall hF7 hB7 ho7 hs2 hs4 hM7 hSd7 hR7 hN7 hdx hp7
    go_wp2_with fail
    refine ret_cell_tmp (C := GProgram.zero.enc) rfl rfl rfl ?_ (by kernel_rfl) (by rw [GProgram.length_enc]; kernel_rfl) rfl HP.out
    first | (rw [blk_put, if_pos rfl, hb2]; rfl) | (simp only [blk_put, if_true, hb2, Option.map_some]; try rfl)
  obtain ⟨tot2, htot⟩ : ∃ tot2, tot2 = goR k2 [] (xs.drop p7) := ⟨_, rfl⟩
  have HG : Hid (decP xs = if tot2.1 ≠ 0 then (tot2.1, PP.zero) else if tot2.2.2 ≠ [] then (20, PP.zero) else (0, ⟨pl, L, tot2.2.1, 0⟩)) := by
    show _ = _
    rw [HG2.out, hdx, htot, hx]; rfl
  have HI0 : Hid (∃ O sr M p, Bl0 W O V7 ∧ O bs = .a 6 0 ∧ Sc W O V7 b2 GProgram.zero.enc ∧ Sc W O V7 b4 (GProgram.enc ⟨⟨pa, pn, pc⟩, sd, sr, 0⟩) ∧ PgM W O V7 ⟨⟨pa, pn, pc⟩, sd, sr, 0⟩ ⟨pl, L, M, 0⟩ ∧ M.length = 0 ∧ Rdr W bs a n c p V7 ∧ goR (k2 - 0) M (xs.drop p) = tot2) := ⟨_, ⟨none, 0, 0⟩, [], p7, hB7, ho7, hs2, hs4, hM7, rfl, hR7, htot.symm⟩
  clear hcall hF7 hB7 ho7 hs2 hs4 hM7 hSd7 hR7 hN7 hdx hx htot HB6 HO6 HS2 HS4 HM6 HBL HG2 hb2 hf2 hb4 hf4 H10
  go_upto_region 26 with fail
  refine wp_loop_f 117 (de2I W bs b2 b4 a n c xs pl L ⟨pa, pn, pc⟩ sd k2 tot2) (fun f _ => k2 - (intOf (f 15)).toNat) rfl ⟨rfl, rfl, rfl, rfl, rfl, 0, by omega, rfl, HI0⟩ ?_
  clear HI0
  intro F2 U hrel
  obtain ⟨f0, f2, f4, f5, f8, j, hj, f15, HJ⟩ := hrel
  have H15 := hid_of f15
  rw [frame117d, f0, f2, f4, f5, f8, f15]
  clear f0 f2 f4 f5 f8 f15
  obtain ⟨O6, sr, M, p6, hB6, ho6, hs2, hs4, hM6, hLi, hR6, hgo⟩ := HJ.out
  have hb2 := hs2.cell
  have hf2 := hs2.fre
  have hb4 := hs4.cell
  have hf4 := hs4.fre
  have hbs := hR6.1
  have HB6 := hid_of hB6
  have HO6 := hid_of ho6
  have HS2 := hid_of hs2
  have HS4 := hid_of hs4
  have HM6 := hid_of hM6
  have HMI := hid_of hLi
  have HBL := hid_of (blk_lt hR6.1)
  have hp6n : p6 ≤ n := hR6.2.2.2.2
  by_cases hjn : j < k2
  rotate_left 1
  · have hjn' : ¬ (j : Int) < (k2 : Int) := by omega
    have e1 : tot2 = (0, M, xs.drop p6) := by
      rw [← hgo, show k2 - j = 0 by omega]; rfl
    have hg := HG.out
    rw [e1] at hg
    have hxl := HXL.out
    by_cases hpe : p6 = n
    · have HP : Hid (Q (.returned (.tuple #[.agg (GProgram.enc ⟨⟨pa, pn, pc⟩, sd, sr, 0⟩).toArray, .int .i64 0])) (put U b2 (GProgram.enc ⟨⟨pa, pn, pc⟩, sd, sr, 0⟩))) := by
        have hg2 : decP xs = (0, ⟨pl, L, M, 0⟩) := by
          rw [hg, List.drop_of_length_le (by omega)]; rfl
        refine HFIN.out _ U _ b2 _ HB6.out HS2.out (fun _ => ?_) 0 (by rw [hg2])
        rw [hg2]; exact HM6.out
      have hpe' : ((p6 : Int) != (n : Int)) = false := by simp [hpe]
      clear HJ hB6 ho6 hs2 hs4 hM6 hLi hR6 hgo e1 hg hxl hpe
      go_wp2_with fail
      refine ret_cell_tmp (C := GProgram.enc ⟨⟨pa, pn, pc⟩, sd, sr, 0⟩) rfl rfl rfl ?_ (by kernel_rfl) (by rw [GProgram.length_enc]; kernel_rfl) rfl HP.out
      first | (rw [blk_put, if_pos rfl, hb2]; rfl) | (simp only [blk_put, if_true, hb2, Option.map_some]; try rfl)
    · have HP : Hid (Q (.returned (.tuple #[.agg (GProgram.zero.enc).toArray, .int .i64 20])) (put U b2 GProgram.zero.enc)) := by
        have hg2 : decP xs = (20, PP.zero) := by
          rw [hg, if_neg (fun e => e rfl), if_pos (fun e => by
            have h9 := congrArg List.length e
            rw [List.length_drop] at h9
            simp at h9
            omega)]
        exact HZ.out _ U _ HB6.out HS2.out 20 (by decide) (by rw [hg2])
      have hpe' : ((p6 : Int) != (n : Int)) = true := by simp; omega
      clear HJ hB6 ho6 hs2 hs4 hM6 hLi hR6 hgo e1 hg hxl hpe
      go_wp2_with fail
      refine ret_cell_tmp (C := GProgram.zero.enc) rfl rfl rfl ?_ (by kernel_rfl) (by rw [GProgram.length_enc]; kernel_rfl) rfl HP.out
      first | (rw [blk_put, if_pos rfl, hb2]; rfl) | (simp only [blk_put, if_true, hb2, Option.map_some]; try rfl)
  have hjn' : (j : Int) < (k2 : Int) := by omega
  have hcall := rule_any W U bs a n c p6 hR6 hn hnc hc xs HX.out
  obtain ⟨m, hm⟩ : ∃ m, k2 - j = m + 1 := ⟨k2 - j - 1, by omega⟩
  rw [hm, goR_succ] at hgo
  have HGO := hid_of hgo
  have HM := hid_of hm
  clear HJ hB6 ho6 hs2 hs4 hM6 hLi hR6 hgo hm hbs hb2 hf2 hb4 hf4
  go_wp2_with fail
  refine hcall.mono ?_
  rintro e V7 ⟨xr, rfl, hA7, p8, hR8, hSd8, hd8⟩
  dsimp only
  obtain ⟨cd, hcd⟩ : ∃ cd, cd = (ruleD (xs.drop p6)).1 := ⟨_, rfl⟩
  rw [← hcd] at hA7 hd8 HGO ⊢
  clear hcd
  have hF8 := call0 HO6.out hSd8
  have hB8 := HB6.out.step hF8 (fun e => by have := (Lab.a.inj e).2; omega)
  have ho8 : (lab O6 U.heap.size .no) bs = .a 6 0 := (hF8.keep bs HBL.out).trans HO6.out
  have hs2 := HS2.out.fr hF8 (fun e => by have := (Lab.a.inj e).1; omega)
  have hs4 := HS4.out.fr hF8 (fun e => by have := (Lab.a.inj e).1; omega)
  have hM8 := HM6.out.fr hF8 (fun e => by cases e) (fun e => by have := (Lab.a.inj e).2; omega) (fun e => by have := (Lab.a.inj e).2; omega)
  have hA8 := fun e => (hA7 e).sub (newc_core (n := U.heap.size) (V := V7) O6)
  obtain ⟨O8, hO8⟩ : ∃ O8, O8 = lab O6 U.heap.size .no := ⟨_, rfl⟩
  rw [← hO8] at hB8 ho8 hs2 hs4 hM8 hA8
  have HW9 : Hid (∃ O, Bl0 W O (V7.alloc (.cells xr.enc.toArray 147)) ∧ O bs = .a 6 0 ∧ Sc W O (V7.alloc (.cells xr.enc.toArray 147)) b2 GProgram.zero.enc ∧ Sc W O (V7.alloc (.cells xr.enc.toArray 147)) b4 (GProgram.enc ⟨⟨pa, pn, pc⟩, sd, sr, 0⟩) ∧ PgM W O (V7.alloc (.cells xr.enc.toArray 147)) ⟨⟨pa, pn, pc⟩, sd, sr, 0⟩ ⟨pl, L, M, 0⟩ ∧ Rdr W bs a n c p8 (V7.alloc (.cells xr.enc.toArray 147)) ∧ (cd = 0 → RuleC (core O (V7.alloc (.cells xr.enc.toArray 147))) xr (ruleD (xs.drop p6)).2.1) ∧ blk (V7.alloc (.cells xr.enc.toArray 147)) V7.heap.size = some xr.enc) := by
    have hx : V7.Extends (V7.alloc (.cells xr.enc.toArray 147)) := extends_alloc (ext_Ext (Ext.refl _)) _
    have hF := Fr.grow (L := fun _ => False) (O := O8) hx
    have hsb := Sub.ext (core_fr hF (fun e => e))
    exact ⟨_, hB8.step hF (fun e => e), (hF.keep bs (blk_lt hR8.1)).trans ho8, hs2.fr hF (fun e => e), hs4.fr hF (fun e => e), hM8.fr hF (fun e => e) (fun e => e) (fun e => e), hB8.rdr ho8 hR8 hF (fun e => e) (fun e => e), fun e => (hA8 e).sub hsb, by rw [blk_alloc, if_pos rfl]⟩
  clear hcall hF8 hB8 ho8 hs2 hs4 hM8 hA7 hA8 hO8 hR8 hSd8 HB6 HO6 HS2 HS4 HM6 HBL
  go_upto_region 29 with fail
  refine wp_world (fun V => ∃ O, Bl0 W O V ∧ O bs = .a 6 0 ∧ Sc W O V b2 GProgram.zero.enc ∧ Sc W O V b4 (GProgram.enc ⟨⟨pa, pn, pc⟩, sd, sr, 0⟩) ∧ PgM W O V ⟨⟨pa, pn, pc⟩, sd, sr, 0⟩ ⟨pl, L, M, 0⟩ ∧ Rdr W bs a n c p8 V ∧ (cd = 0 → RuleC (core O V) xr (ruleD (xs.drop p6)).2.1) ∧ blk V V7.heap.size = some xr.enc) HW9.out ?_
  intro V9 HV9
  obtain ⟨b16, hb16⟩ : ∃ b16, b16 = V7.heap.size := ⟨_, rfl⟩
  rw [← hb16] at HV9 ⊢
  clear HW9 hb16
  obtain ⟨O9, hB9, ho9, hs2, hs4, hM9, hR9, hA9, hb16⟩ := HV9
  have hb2 := hs2.cell
  have hf2 := hs2.fre
  have hb4 := hs4.cell
  have hf4 := hs4.fre
  by_cases hc0 : cd = 0
  rotate_left 1
  · have HP : Hid (Q (.returned (.tuple #[.agg (GProgram.zero.enc).toArray, .int .i64 cd])) (put V9 b2 GProgram.zero.enc)) := by
      refine HZ.out _ V9 _ hB9 hs2 cd hc0 ?_
      have e1 := HGO.out
      rw [if_pos hc0] at e1
      rw [HG.out, ← e1]
      exact congrArg Prod.fst (if_pos hc0)
    have hcb : (cd != 0) = true := by simp [hc0]
    clear hB9 ho9 hs2 hs4 hM9 hR9 hA9 hd8 hc0
    go_wp2_with fail
    refine ret_cell_tmp (C := GProgram.zero.enc) rfl rfl rfl ?_ (by kernel_rfl) (by rw [GProgram.length_enc]; kernel_rfl) rfl HP.out
    first | (rw [blk_put, if_pos rfl, hb2]; rfl) | (simp only [blk_put, if_true, hb2, Option.map_some]; try rfl)
  subst hc0
  have hr0 := hd8 rfl
  have hA0 := hA9 rfl
  obtain ⟨Rs, hRs1, hRs2⟩ := hM9.rules
  obtain ⟨a2, c2, V10, hrun, hrow10, hF10⟩ := appL GRule.enc 3 56 45 147 el139.und el139.info el139.len el139.one el139.pos el139.small 45 xr hRs1 hB9.fr.size (by have := HMI.out; have h9 : Rs.length = M.length := hRs2.1; omega) (GRule.enc xr).toArray rfl 1
  have hB10 := hB9.step hF10 (fun e => by have := (Lab.a.inj e).2; omega)
  have ho10 := (hF10.keep bs (blk_lt hR9.1)).trans ho9
  have hs210 := hs2.fr hF10 (fun e => by have := (Lab.a.inj e).1; omega)
  have hs410 := hs4.fr hF10 (fun e => by have := (Lab.a.inj e).1; omega)
  have hR10 := hB9.rdr ho9 hR9 hF10 (fun e => by have := (Lab.a.inj e).2; omega) (fun e => by have := (Lab.a.inj e).2; omega)
  have hsb10 := Sub.ext (core_fr hF10 (fun e => by cases e))
  have hp10 := hs410.put (GProgram.enc ⟨⟨pa, pn, pc⟩, sd, ⟨a2, sr.len + 1, c2⟩, 0⟩)
  have hM10 : PgM W (lab O9 V9.heap.size (.a 6 1)) V10 ⟨⟨pa, pn, pc⟩, sd, ⟨a2, sr.len + 1, c2⟩, 0⟩ ⟨pl, L, M ++ [(ruleD (xs.drop p6)).2.1], 0⟩ := ⟨hM9.pool.sub hsb10, hM9.preds.fr hF10 (fun e => by have := (Lab.a.inj e).2; omega), ⟨Rs ++ [xr], hrow10, (RulsC.snoc (L := M) hRs2 hA0).sub hsb10⟩, rfl⟩
  have HI' : Hid (∃ O sx M p, Bl0 W O (put V10 b4 (GProgram.enc ⟨⟨pa, pn, pc⟩, sd, ⟨a2, sr.len + 1, c2⟩, 0⟩)) ∧ O bs = .a 6 0 ∧ Sc W O (put V10 b4 (GProgram.enc ⟨⟨pa, pn, pc⟩, sd, ⟨a2, sr.len + 1, c2⟩, 0⟩)) b2 GProgram.zero.enc ∧ Sc W O (put V10 b4 (GProgram.enc ⟨⟨pa, pn, pc⟩, sd, ⟨a2, sr.len + 1, c2⟩, 0⟩)) b4 (GProgram.enc ⟨⟨pa, pn, pc⟩, sd, sx, 0⟩) ∧ PgM W O (put V10 b4 (GProgram.enc ⟨⟨pa, pn, pc⟩, sd, ⟨a2, sr.len + 1, c2⟩, 0⟩)) ⟨⟨pa, pn, pc⟩, sd, sx, 0⟩ ⟨pl, L, M, 0⟩ ∧ M.length = j + 1 ∧ Rdr W bs a n c p (put V10 b4 (GProgram.enc ⟨⟨pa, pn, pc⟩, sd, ⟨a2, sr.len + 1, c2⟩, 0⟩)) ∧ goR (k2 - (j + 1)) M (xs.drop p) = tot2) := by
    refine ⟨_, ⟨a2, sr.len + 1, c2⟩, M ++ [(ruleD (xs.drop p6)).2.1], p8, hB10.step hp10.1 (fun e => by have := (Lab.a.inj e).1; omega), ho10, hs210.putO HN24.out, hp10.2, hM10.fr hp10.1 (fun e => by cases e) (fun e => by have := (Lab.a.inj e).1; omega) (fun e => by have := (Lab.a.inj e).1; omega), by rw [List.length_append, HMI.out]; rfl, hB10.rdr ho10 hR10 hp10.1 (fun e => by have := (Lab.a.inj e).1; omega) (fun e => by have := (Lab.a.inj e).1; omega), ?_⟩
    have e2 : k2 - (j + 1) = m := by have := HM.out; omega
    have e3 := HGO.out
    rw [if_neg (fun e => e rfl)] at e3
    rw [e2, hr0]; exact e3
  have hb29 := hs210.cell
  have hf29 := hs210.fre
  have hb49 := hs410.cell
  have hf49 := hs410.fre
  clear hB9 ho9 hs2 hs4 hM9 hR9 hA9 hd8 hr0 hA0 hRs1 hRs2 hrow10 hF10 hB10 ho10 hs210 hs410 hR10 hsb10 hp10 hM10 hb2 hf2
  go_wp2_with (at_builtin; refine wpList_append_run rfl _ _ 45 rfl _ _ _ _ rfl rfl hrun ?_)
  refine ⟨rfl, rfl, ⟨rfl, rfl, rfl, rfl, rfl, j + 1, by omega, ?_, HI'⟩, ?_⟩
  · show Value.int .i64 _ = _
    go_num
  · show k2 - (intOf (Value.int .i64 _)).toNat < k2 - (intOf (F2 15)).toNat
    rw [H15.out]
    simp [intOf]; omega
end Go.Proofs.Qxb6500787aGreat
