
import Derived.Test.Qxb6500787aGreatVs
import Derived.Test.Qxb6500787aGreatZb
import Derived.StillTailTactics
import Derived.Deep.QuietTactic
import Derived.BigQuiet
import Derived.Deep.RegionHeld
import Derived.Deep.CutRange
import Derived.Laws.ResultCell
import Derived.Laws.Rows
import Derived.DeepKeys
import Derived.DataBytes
import Derived.Laws.StructEq
import Derived.Laws.AppendOwn
import Derived.Laws.MakeOwn
import Derived.Lib.AppendStr
set_option linter.unusedSimpArgs false
set_option linter.unusedVariables false
namespace Go.Proofs.Qxb6500787aGreat
open Go.RowKit Go.Blk
attribute [local go_sem ↓] execOp_load execOp_store execOp_alloc
attribute [local go_sem] Tryz.ld26 Tryz.st26 Tryz.ld27 Tryz.st27 Tryz.ld28 Tryz.st28 Tryz.ld3 Tryz.st3 Tryz.ld29 Tryz.st29 Tryz.ld44 Tryz.st44 Tryz.ld4 Tryz.st4 Tryz.ld50 Tryz.st50 Tryz.ld32 Tryz.st32 Tryz.ld49 Tryz.st49 Tryz.ld68 Tryz.st68 Tryz.ld9 Tryz.st9 Tryz.ld40 Tryz.st40 Tryz.ld138 Tryz.st138 Tryz.ld139 Tryz.st139 Tryz.ld146 Tryz.st146 Tryz.ld183 Tryz.st183 Tryz.ld184 Tryz.st184 Tryz.ld192 Tryz.st192 Tryz.ld195 Tryz.st195 Tryz.ld217 Tryz.st217 Tryz.ld159 Tryz.st159 Tryz.ld142 Tryz.st142 Tryz.ld2 Tryz.st2 Tryz.ld5 Tryz.st5 Tryz.ld12 Tryz.st12 Tryz.ld21 Tryz.st21 Tryz.ld22 Tryz.st22 Tryz.ld24 Tryz.st24 Tryz.ld58 Tryz.st58 Tryz.ld97 Tryz.st97 Tryz.ld101 Tryz.st101 Tryz.ld116 Tryz.st116 Tryz.ld121 Tryz.st121 Tryz.ld135 Tryz.st135 Tryz.ld136 Tryz.st136 Tryz.ld143 Tryz.st143 Tryz.ld148 Tryz.st148 Tryz.ld154 Tryz.st154 Tryz.ld173 Tryz.st173 Tryz.ld187 Tryz.st187 Tryz.ld222 Tryz.st222 Tryz.ld241 Tryz.st241 Tryz.ld248 Tryz.st248 Tryz.ld268 Tryz.st268 Tryz.ld272 Tryz.st272 Tryz.ld153 Tryz.st153 Tryz.ld255 Tryz.st255 Tryz.ld256 Tryz.st256 Tryz.ld129 Tryz.st129 Tryz.ld152 Tryz.st152 Tryz.ld31 Tryz.st31 Tryz.ld46 Tryz.st46 Tryz.ld52 Tryz.st52 Tryz.ld54 Tryz.st54 Tryz.ld60 Tryz.st60 Tryz.ld70 Tryz.st70 Tryz.ld74 Tryz.st74 Tryz.ld93 Tryz.st93 Tryz.ld141 Tryz.st141 Tryz.ld151 Tryz.st151 Tryz.ld170 Tryz.st170 Tryz.ld186 Tryz.st186 Tryz.ld189 Tryz.st189 Tryz.ld194 Tryz.st194 Tryz.ld197 Tryz.st197 Tryz.ld219 Tryz.st219 Tryz.ld224 Tryz.st224 Tryz.ld230 Tryz.st230 Tryz.ld235 Tryz.st235 Tryz.ld243 Tryz.st243 Tryz.ld247 Tryz.st247 Tryz.ld252 Tryz.st252 Tryz.ld258 Tryz.st258 Tryz.al153 Tryz.al255 Tryz.al256 Tryz.al129 Tryz.al152 Tryz.al31 Tryz.al46 Tryz.al52 Tryz.al54 Tryz.al60 Tryz.al70 Tryz.al74 Tryz.al93 Tryz.al141 Tryz.al151 Tryz.al170 Tryz.al186 Tryz.al189 Tryz.al194 Tryz.al197 Tryz.al219 Tryz.al224 Tryz.al230 Tryz.al235 Tryz.al243 Tryz.al247 Tryz.al252 Tryz.al258
attribute [local go_sem] Request.length_enc Request.ok_enc Request.all_get Request.all_set Request.kind_get Request.kind_set Request.blob_get Request.blob_set Request.items_get Request.items_set Request.pred_get Request.pred_set Request.slots_get Request.slots_set Trace.length_enc Trace.ok_enc Trace.all_get Trace.all_set Trace.op_get Trace.op_set Trace.calls_get Trace.calls_set Item.length_enc Item.ok_enc Item.all_get Item.all_set Item.del_get Item.del_set Item.pred_get Item.pred_set Item.args_get Item.args_set Reply.length_enc Reply.ok_enc Reply.all_get Reply.all_set Reply.code_get Reply.code_set Reply.kind_get Reply.kind_set Reply.index_get Reply.index_set Reply.yes_get Reply.yes_set Reply.preds_get Reply.preds_set Reply.rules_get Reply.rules_set Reply.arity_get Reply.arity_set Reply.rows_get Reply.rows_set Reply.fact_get Reply.fact_set Reply.fact_del_get Reply.fact_del_set Reply.fact_pred_get Reply.fact_pred_set Reply.fact_args_get Reply.fact_args_set GEntry.length_enc GEntry.ok_enc GEntry.all_get GEntry.all_set GEntry.seq_get GEntry.seq_set GEntry.kind_get GEntry.kind_set GEntry.code_get GEntry.code_set GOp.length_enc GOp.ok_enc GOp.all_get GOp.all_set GOp.kind_get GOp.kind_set GOp.raw_get GOp.raw_set Reader.length_enc Reader.ok_enc Reader.all_get Reader.all_set Reader.buf_get Reader.buf_set Reader.at__get Reader.at__set Slot.length_enc Slot.ok_enc Slot.all_get Slot.all_set Slot.bound_get Slot.bound_set Slot.name_get Slot.name_set Session.length_enc Session.ok_enc Session.all_get Session.all_set Session.svc_get Session.svc_set Session.buf_get Session.buf_set Session.closed_get Session.closed_set GProgram.length_enc GProgram.ok_enc GProgram.all_get GProgram.all_set GProgram.pool_get GProgram.pool_set GProgram.preds_get GProgram.preds_set GProgram.rules_get GProgram.rules_set GProgram.strata_get GProgram.strata_set PredInfo.length_enc PredInfo.ok_enc PredInfo.all_get PredInfo.all_set PredInfo.arity_get PredInfo.arity_set PredInfo.base_get PredInfo.base_set PredInfo.stratum_get PredInfo.stratum_set Change.length_enc Change.ok_enc Change.all_get Change.all_set Change.del_get Change.del_set Change.pred_get Change.pred_set Change.t_get Change.t_set Store.length_enc Store.ok_enc Store.all_get Store.all_set Store.names_get Store.names_set Store.arity_get Store.arity_set Store.rows_get Store.rows_set Src.length_enc Src.ok_enc Src.all_get Src.all_set Src.b_get Src.b_set Src.at__get Src.at__set Atom.length_enc Atom.ok_enc Atom.all_get Atom.all_set Atom.pred_get Atom.pred_set Atom.args_get Atom.args_set GRule.length_enc GRule.ok_enc GRule.all_get GRule.all_set GRule.head_get GRule.head_set GRule.body_get GRule.body_set GRule.head_pred_get GRule.head_pred_set GRule.head_args_get GRule.head_args_set Cert.length_enc Cert.ok_enc Cert.all_get Cert.all_set Cert.names_get Cert.names_set Cert.nodes_get Cert.nodes_set Fact.length_enc Fact.ok_enc Fact.all_get Fact.all_set Fact.pred_get Fact.pred_set Fact.t_get Fact.t_set Literal.length_enc Literal.ok_enc Literal.all_get Literal.all_set Literal.neg_get Literal.neg_set Literal.atom_get Literal.atom_set Literal.atom_pred_get Literal.atom_pred_set Literal.atom_args_get Literal.atom_args_set Engine.length_enc Engine.ok_enc Engine.all_get Engine.all_set Engine.prog_get Engine.prog_set Engine.st_get Engine.st_set SrcCertm.length_enc SrcCertm.ok_enc SrcCertm.all_get SrcCertm.all_set SrcCertm.b_get SrcCertm.b_set SrcCertm.at__get SrcCertm.at__set GNode.length_enc GNode.ok_enc GNode.all_get GNode.all_set GNode.rule_get GNode.rule_set GNode.pred_get GNode.pred_set GNode.vals_get GNode.vals_set GNode.refs_get GNode.refs_set Term.length_enc Term.ok_enc Term.all_get Term.all_set Term.var_get Term.var_set Term.n_get Term.n_set Env.length_enc Env.ok_enc Env.all_get Env.all_set Env.val_get Env.val_set Env.set_get Env.set_set
attribute [local go_sem] size_put size_ext blk_put free_put blk_alloc free_alloc blk_drew free_drew blk_ext free_ext lookOr_some putOr_some segAt_some cellAt_some storeIn_some put_put put_alloc_new length_arr ok_arr_u8 ok_arr_u32 ok_arr_u64 ok_arr_i64 ok_arr_sl cellsV_agg cellsV_int cellsV_bool cellsV_string cellsV_pointer cellsV_slice cellsV_sl ok_int ok_bool ok_string ok_pointer ok_slice ok_sl toList_arr seg_arr set_arr nth_splice nth_splice0 seg_splice seg_splice0 splice_splice splice_splice0 length_splice_if
attribute [local go_sem ↓] execOp_box
attribute [local go_sem] box_run nth_arr_u8 put_arr_u8 blk_drewN free_drewN put_drewN blk_raw free_raw
/-- Rows of names, read. -/
def goRw : Nat → Nat → List (List (List UInt8)) → List UInt8 → Int × List (List (List UInt8)) × List UInt8
  | 0, _, acc, ys => (0, acc, ys)
  | m + 1, k, acc, ys => if (goN k [] ys).1 = 0 then goRw m k (acc ++ [(goN k [] ys).2.1]) (goN k [] ys).2.2 else ((goN k [] ys).1, [], [])
theorem goRw_ok {m k : Nat} {acc : List (List (List UInt8))} {ys : List UInt8} (h : (goN k [] ys).1 = 0) : goRw (m + 1) k acc ys = goRw m k (acc ++ [(goN k [] ys).2.1]) (goN k [] ys).2.2 := by show (if _ then _ else _) = _; rw [if_pos h]
theorem goRw_bad {m k : Nat} {acc : List (List (List UInt8))} {ys : List UInt8} (h : (goN k [] ys).1 ≠ 0) : goRw (m + 1) k acc ys = ((goN k [] ys).1, [], []) := by show (if _ then _ else _) = _; rw [if_neg h]
def rowsF : List UInt8 → Int × Nat × List (List (List UInt8)) × List UInt8
  | [] => (5, 0, [], [])
  | x :: ys => if 4 < x.toNat then (8, 0, [], []) else if ys.length < 2 then (5, 0, [], []) else if 512 < (ys.getD 0 0).toNat * 256 + (ys.getD 1 0).toNat then (16, 0, [], []) else if (goRw ((ys.getD 0 0).toNat * 256 + (ys.getD 1 0).toNat) x.toNat [] (ys.drop 2)).1 = 0 then (0, x.toNat, (goRw ((ys.getD 0 0).toNat * 256 + (ys.getD 1 0).toNat) x.toNat [] (ys.drop 2)).2.1, (goRw ((ys.getD 0 0).toNat * 256 + (ys.getD 1 0).toNat) x.toNat [] (ys.drop 2)).2.2) else ((goRw ((ys.getD 0 0).toNat * 256 + (ys.getD 1 0).toNat) x.toNat [] (ys.drop 2)).1, 0, [], [])
theorem rowsF_cons (x : UInt8) (ys : List UInt8) : rowsF (x :: ys) = if 4 < x.toNat then (8, 0, [], []) else if ys.length < 2 then (5, 0, [], []) else if 512 < (ys.getD 0 0).toNat * 256 + (ys.getD 1 0).toNat then (16, 0, [], []) else if (goRw ((ys.getD 0 0).toNat * 256 + (ys.getD 1 0).toNat) x.toNat [] (ys.drop 2)).1 = 0 then (0, x.toNat, (goRw ((ys.getD 0 0).toNat * 256 + (ys.getD 1 0).toNat) x.toNat [] (ys.drop 2)).2.1, (goRw ((ys.getD 0 0).toNat * 256 + (ys.getD 1 0).toNat) x.toNat [] (ys.drop 2)).2.2) else ((goRw ((ys.getD 0 0).toNat * 256 + (ys.getD 1 0).toNat) x.toNat [] (ys.drop 2)).1, 0, [], []) := rfl
/-- A reply being decoded: the reader and the reply's block. -/
structure DR (w0 : World) (O : Own) (br bp : Nat) (a : Option Addr) (n c p : Nat) (r : Reply) (V : World) : Prop where
  rd : Rdr w0 br a n c p V
  rl : O br = .a 9 1
  cell : blk V bp = some (Reply.enc r)
  fre : free V bp = true
  pl : O bp = .a 9 2
  old : ∀ k, k < w0.heap.size → O k = .no
theorem DR.ne {w0 : World} {O : Own} {br bp : Nat} {a : Option Addr} {n c p : Nat} {r : Reply} {V : World} (h : DR w0 O br bp a n c p r V) : bp ≠ br := fun e => by
  have h1 := h.pl
  rw [e, h.rl] at h1
  have := (Lab.a.inj h1).2
  omega
theorem DR.side {w0 : World} {O : Own} {br bp : Nat} {a : Option Addr} {n c p : Nat} {r : Reply} {V : World} (h : DR w0 O br bp a n c p r V) {p' : Nat} {V' : World} (hR : Rdr w0 br a n c p' V') (hS : Side (isR br) V V') : DR w0 (lab O V.heap.size .no) br bp a n c p' r V' ∧ Fr (fun l => l = .a 9 1) O V (lab O V.heap.size .no) V' := by
  have hbr := blk_lt h.rd.1
  have hbp := blk_lt h.cell
  refine ⟨⟨hR, (lab_lt hbr).trans h.rl, (hS.blk hbp h.ne).trans h.cell, (free_of_heap (hS.block bp hbp h.ne)).trans h.fre, (lab_lt hbp).trans h.pl, fun k hk => ?_⟩, ⟨hS.os, hS.tape, hS.output, hS.size, fun k hk => lab_lt hk, fun k hk hl => hS.block k hk (fun e => hl ?_)⟩⟩
  · by_cases h1 : k < V.heap.size
    · rw [lab_lt h1]; exact h.old k hk
    · exact lab_ge (by omega)
  · have e' : k = br := e
    rw [e']; exact h.rl
theorem DR.fr {w0 : World} {O : Own} {br bp : Nat} {a : Option Addr} {n c p : Nat} {r : Reply} {V : World} (h : DR w0 O br bp a n c p r V) {L : Lab → Prop} {O' : Own} {V' : World} (hF : Fr L O V O' V') (h1 : ¬ L (.a 9 1)) (h2 : ¬ L (.a 9 2)) (h0 : ¬ L .no) (ho : ∀ k, k < w0.heap.size → O' k = .no) : DR w0 O' br bp a n c p r V' := by
  obtain ⟨g1, g2, g3, g4, g5⟩ := h.rd
  have hb1 : ¬ L (O br) := by rw [h.rl]; exact h1
  have hb2 : ¬ L (O bp) := by rw [h.pl]; exact h2
  exact ⟨⟨hF.blk g1 hb1, hF.free g1 g2 hb1, hF.extends g3 (fun k hk => by rw [h.old k hk]; exact h0), g4, g5⟩, (hF.keep br (blk_lt g1)).trans h.rl, hF.blk h.cell hb2, hF.free h.cell h.fre hb2, (hF.keep bp (blk_lt h.cell)).trans h.pl, ho⟩
theorem DR.set {w0 : World} {O : Own} {br bp : Nat} {a : Option Addr} {n c p : Nat} {r : Reply} {V : World} (h : DR w0 O br bp a n c p r V) (r' : Reply) : DR w0 O br bp a n c p r' (put V bp (Reply.enc r')) ∧ Fr (fun l => l = .a 9 2) O V O (put V bp (Reply.enc r')) := by
  obtain ⟨g1, g2, g3, g4, g5⟩ := h.rd
  have hF : Fr (fun l => l = .a 9 2) O V O (put V bp (Reply.enc r')) := (Fr.refl _ _ _).put (L := fun l => l = .a 9 2) h.pl _
  have hb1 : ¬ (fun l => l = Lab.a 9 2) (O br) := by rw [h.rl]; exact fun e => by have := (Lab.a.inj e).2; omega
  exact ⟨⟨⟨hF.blk g1 hb1, hF.free g1 g2 hb1, hF.extends g3 (fun k hk => by rw [h.old k hk]; exact fun e => by cases e), g4, g5⟩, h.rl, by rw [blk_put, if_pos rfl, h.cell]; rfl, by rw [free_put]; exact h.fre, h.pl, h.old⟩, hF⟩
theorem DR.drewN {w0 : World} {O : Own} {br bp : Nat} {a : Option Addr} {n c p : Nat} {r : Reply} {V : World} (h : DR w0 O br bp a n c p r V) (k : Nat) : DR w0 O br bp a n c p r (V.drewN k) := ⟨h.rd.drewN k, h.rl, h.cell, h.fre, h.pl, h.old⟩
/-- What decoding may touch. -/
def isD (l : Lab) : Prop := l = .a 9 1 ∨ l = .a 9 2 ∨ l = .a 9 8
theorem isD_no : ¬ isD .no := by rintro (e | e | e) <;> cases e
/-- How a part of the decoding ends. -/
def BdPost (w0 : World) (O : Own) (W : World) (br bp : Nat) (a : Option Addr) (n c : Nat) (xs : List UInt8) (cd : Int) (q : PRep) (rest : List UInt8) (e : Ending) (V : World) : Prop := ∃ O' r' p', e = .returned (.int .i64 cd) ∧ DR w0 O' br bp a n c p' r' V ∧ Fr isD O W O' V ∧ (cd = 0 → xs.drop p' = rest ∧ RepC (core O' V) r' q)
/-- The inner loop: one row. -/
def NQ (w0 W0 : World) (br B : Nat) (a : Option Addr) (n c : Nat) (xs : List UInt8) (k : Nat) (tot : Int × List (List UInt8) × List UInt8) (a' : Option Addr) (n' c' i : Nat) (K : List (List UInt8)) (p : Nat) (W : World) : Prop :=
  n' = K.length ∧ n' = i ∧ W.ownsRow B 9 1 (.slice a' n' c') K.length (K.flatMap encS) ∧ Rdr w0 br a n c p W ∧ Side (isR br) W0 W ∧ B ≤ W.heap.size ∧ goN (k - i) K (xs.drop p) = tot
def nqI (w0 W0 : World) (br bp B : Nat) (a : Option Addr) (n c : Nat) (xs : List UInt8) (k m j : Nat) (tot : Int × List (List UInt8) × List UInt8) (f : Nat → Value) (W : World) : Prop :=
  f 0 = .pointer (some ⟨br, 0, none⟩) ∧ f 1 = .pointer (some ⟨bp, 0, none⟩) ∧ f 5 = .int .i64 (k : Nat) ∧ f 7 = .int .i64 (m : Nat) ∧ f 8 = .int .i64 (j : Nat) ∧ ∃ (i : Nat) (a' : Option Addr) (n' c' : Nat) (K : List (List UInt8)) (p : Nat), i ≤ k ∧ f 9 = .slice a' n' c' ∧ f 10 = .int .i64 (i : Nat) ∧ Hid (NQ w0 W0 br B a n c xs k tot a' n' c' i K p W)
/-- The outer loop. -/
structure RQ (w0 : World) (O0 : Own) (W0 : World) (br bp : Nat) (a : Option Addr) (n c : Nat) (xs : List UInt8) (k m : Nat) (tot : Int × List (List (List UInt8)) × List UInt8) (j : Nat) (O : Own) (p : Nat) (ra : Option Addr) (rc : Nat) (Ds : List Sl) (K : List (List (List UInt8))) (V : World) : Prop where
  dr : DR w0 O br bp a n c p (ptE k ra j rc) V
  row : RowL W0.heap.size O (.a 9 8) V 43 1 (.slice ra j rc) Ds.length (Ds.flatMap encD1)
  ds : ∀ (i : Nat) (d : Sl) (row : List (List UInt8)), Ds[i]? = some d → K[i]? = some row → Rw encS 1 (core O V) d.a d.len row
  dl : Ds.length = j ∧ K.length = j
  b8 : W0.heap.size ≤ V.heap.size
  fr : Fr isD O0 W0 O V
  go : goRw (m - j) k K (xs.drop p) = tot
def rqI (w0 : World) (O0 : Own) (W0 : World) (br bp : Nat) (a : Option Addr) (n c : Nat) (xs : List UInt8) (k m : Nat) (tot : Int × List (List (List UInt8)) × List UInt8) (f : Nat → Value) (V : World) : Prop :=
  f 0 = .pointer (some ⟨br, 0, none⟩) ∧ f 1 = .pointer (some ⟨bp, 0, none⟩) ∧ f 5 = .int .i64 (k : Nat) ∧ f 7 = .int .i64 (m : Nat) ∧ ∃ j : Nat, j ≤ m ∧ f 8 = .int .i64 (j : Nat) ∧ Hid (∃ O p ra rc Ds K, RQ w0 O0 W0 br bp a n c xs k m tot j O p ra rc Ds K V)
/-- One row has been read. -/
theorem RQ.step {w0 : World} {O0 : Own} {W0 : World} {br bp : Nat} {a : Option Addr} {n c : Nat} {xs : List UInt8} {k m : Nat} {tot : Int × List (List (List UInt8)) × List UInt8} {j : Nat} {O : Own} {p : Nat} {ra : Option Addr} {rc : Nat} {Ds : List Sl} {K : List (List (List UInt8))} {V : World} (h : RQ w0 O0 W0 br bp a n c xs k m tot j O p ra rc Ds K V) (hj : j < m) (hm : m ≤ 1000) {V1 : World} {na : Option Addr} {nc p1 : Nat} {row : List (List UInt8)} (hrow : V1.ownsRow V.heap.size 9 1 (.slice na row.length nc) row.length (row.flatMap encS)) (hR : Rdr w0 br a n c p1 V1) (hS : Side (isR br) V V1) (hgo : goN k [] (xs.drop p) = (0, row, xs.drop p1)) : blk V1 bp = some (Reply.enc (ptE k ra j rc)) ∧ free V1 bp = true ∧ bp < V1.heap.size ∧ ∃ a' c' V9, (Builtin.append_ #[61, 61] 61 #[.slice ra j rc, .slice (some ⟨V1.heap.size, 0, none⟩) 1 1]).run Tryz.prog (V1.alloc (.cells (encD1 ⟨na, row.length, nc⟩).toArray 43)) = .ok (.slice a' (j + 1) c') V9 ∧ blk V9 bp = some (Reply.enc (ptE k ra j rc)) ∧ free V9 bp = true ∧ ∃ O' Ds', RQ w0 O0 W0 br bp a n c xs k m tot (j + 1) O' p1 a' c' Ds' (K ++ [row]) (put V9 bp (Reply.enc (ptE k a' (j + 1) c'))) := by
  obtain ⟨hd1, hF1⟩ := h.dr.side hR hS
  obtain ⟨O1, hO1⟩ : ∃ O1, O1 = lab O V.heap.size .no := ⟨_, rfl⟩
  rw [← hO1] at hd1 hF1
  have hr1 := h.row.fr hF1 (fun e => by have := (Lab.a.inj e).2; omega)
  obtain ⟨a', c', V9, hrun, hrow9, hF9⟩ := appL encD1 1 24 61 43 el49.und el49.info el49.len el49.one el49.pos el49.small 61 (⟨na, row.length, nc⟩ : Sl) hr1 (Nat.le_trans h.b8 hS.size) (by rw [h.dl.1]; omega) (encD1 ⟨na, row.length, nc⟩).toArray rfl 1
  obtain ⟨O9, hO9⟩ : ∃ O9, O9 = lab O1 V1.heap.size (.a 9 8) := ⟨_, rfl⟩
  rw [← hO9] at hrow9 hF9
  have hd9 := hd1.fr hF9 (fun e => by have := (Lab.a.inj e).2; omega) (fun e => by have := (Lab.a.inj e).2; omega) (fun e => by cases e) (fun k hk => (hF9.keep k (Nat.lt_of_lt_of_le hk hd1.rd.2.2.1.size)).trans (hd1.old k hk))
  obtain ⟨hd10, hF10⟩ := hd9.set (ptE k a' (j + 1) c')
  have hF : Fr isD O V O9 (put V9 bp (Reply.enc (ptE k a' (j + 1) c'))) := ((hF1.mono (fun l e => .inl e)).trans (hF9.mono (fun l e => .inr (.inr e)))).trans (hF10.mono (fun l e => .inr (.inl e)))
  have hsub : Sub (core O V) (core O9 (put V9 bp (Reply.enc (ptE k a' (j + 1) c')))) := Sub.ext (core_fr hF isD_no)
  refine ⟨hd1.cell, hd1.fre, blk_lt hd1.cell, a', c', V9, hrun, hd9.cell, hd9.fre, O9, Ds ++ [⟨na, row.length, nc⟩], hd10, hrow9.fr hF10 (fun e => by have := (Lab.a.inj e).2; omega), fun i d row' h1 h2 => ?_, by rw [List.length_append, List.length_append, h.dl.1, h.dl.2]; exact ⟨rfl, rfl⟩, by rw [size_put]; exact Nat.le_trans (Nat.le_trans h.b8 hS.size) hF9.size, h.fr.trans hF, ?_⟩
  · by_cases e : i < j
    · rw [List.getElem?_append_left (by rw [h.dl.1]; exact e)] at h1
      rw [List.getElem?_append_left (by rw [h.dl.2]; exact e)] at h2
      exact (h.ds i d row' h1 h2).sub hsub
    · have hk2 : i = j := by
        have := (List.getElem?_eq_some_iff.1 h1).1
        rw [List.length_append, h.dl.1] at this
        simp at this; omega
      subst hk2
      rw [List.getElem?_append_right (by rw [h.dl.1]; omega), h.dl.1, Nat.sub_self] at h1
      rw [List.getElem?_append_right (by rw [h.dl.2]; omega), h.dl.2, Nat.sub_self] at h2
      cases h1
      cases h2
      have hrw := (rw_own encS_len hrow).1
      have hb := row_at hrow
      have hF11 : Fr (fun l => l = .a 9 8 ∨ l = .a 9 2) O1 V1 O9 (put V9 bp (Reply.enc (ptE k a' (i + 1) c'))) := (hF9.mono (fun l e => .inl e)).trans (hF10.mono (fun l e => .inr e))
      refine (hrw.tocore (O := O1) (fun b C e _ => ?_)).sub (Sub.ext (core_fr hF11 (by rintro (e | e) <;> cases e)))
      have h9 := (hb b (by rw [e]; rfl)).1
      rw [hO1]; exact lab_ge h9
  · rw [← h.go, show m - j = (m - (j + 1)) + 1 by omega, goRw_ok (by rw [hgo]), hgo]
attribute [local go_sem ↓] execOp_slice execOp_convert execOp_bslice execOp_make
attribute [local go_sem] rd_len rd0 rd1 rd_set1 bslice50 bslice49 make50
theorem RQ.fin {w0 : World} {O0 : Own} {W0 : World} {br bp : Nat} {a : Option Addr} {n c : Nat} {xs : List UInt8} {k m : Nat} {tot : Int × List (List (List UInt8)) × List UInt8} {j : Nat} {O : Own} {p : Nat} {ra : Option Addr} {rc : Nat} {Ds : List Sl} {K : List (List (List UInt8))} {V : World} (h : RQ w0 O0 W0 br bp a n c xs k m tot j O p ra rc Ds K V) (h98 : ∀ k, k < W0.heap.size → O0 k ≠ .a 9 8) : ∃ O', DR w0 O' br bp a n c p (ptE k ra j rc) V ∧ Fr isD O0 W0 O' V ∧ RepC (core O' V) (ptE k ra j rc) ⟨0, 6, -1, false, 0, 0, (k : Int), K, 0, []⟩ := by
  obtain ⟨O', hO'⟩ : ∃ O' : Own, O' = fun b => @ite Lab (O b = .a 9 8) (Classical.propDecidable _) .no (O b) := ⟨_, rfl⟩
  have hne : ∀ b, O b ≠ .a 9 8 → O' b = O b := fun b hb => by rw [hO']; exact if_neg hb
  have heq : ∀ b, O b = .a 9 8 → O' b = .no := fun b hb => by rw [hO']; exact if_pos hb
  have hsub : Sub (core O V) (core O' V) := Sub.cores fun b C hb ho => ⟨hb, (hne b (by rw [ho]; exact fun e => by cases e)).trans ho⟩
  have hd := h.dr
  refine ⟨O', ⟨hd.rd, (hne _ (by rw [hd.rl]; exact fun e => by have := (Lab.a.inj e).2; omega)).trans hd.rl, hd.cell, hd.fre, (hne _ (by rw [hd.pl]; exact fun e => by have := (Lab.a.inj e).2; omega)).trans hd.pl, fun b hb => (hne b (by rw [hd.old b hb]; exact fun e => by cases e)).trans (hd.old b hb)⟩, ⟨h.fr.os, h.fr.tape, h.fr.output, h.fr.size, fun b hb => ?_, h.fr.block⟩, rfl, rfl, rfl, rfl, rfl, rfl, rfl, ?_, rfl, ⟨rfl, fun i x hx => by simp at hx⟩⟩
  · exact (hne b (by rw [h.fr.keep b hb]; exact h98 b hb)).trans (h.fr.keep b hb)
  · refine ⟨Ds, (rw_own encD1_len h.row.1).1.tocore (fun b C e _ => heq b (h.row.2 b (by show (Value.slice ra j rc).ownBlock = _; have e' : ra = some ⟨b, 0, none⟩ := e; rw [e']; rfl))), by rw [h.dl.1]; exact h.dl.2.symm, fun i d row h1 h2 => (h.ds i d row h1 h2).sub hsub⟩
set_option maxRecDepth 100000 in
theorem frame69r (f : Nat → Value) : frameN 69 f = #[f 0, f 1, f 2, f 3, f 4, f 5, f 6, f 7, f 8, f 9, f 10, f 11, f 12, f 13, f 14, f 15, f 16, f 17, f 18, f 19, f 20, f 21, f 22, f 23, f 24, f 25, f 26, f 27, f 28, f 29, f 30, f 31, f 32, f 33, f 34, f 35, f 36, f 37, f 38, f 39, f 40, f 41, f 42, f 43, f 44, f 45, f 46, f 47, f 48, f 49, f 50, f 51, f 52, f 53, f 54, f 55, f 56, f 57, f 58, f 59, f 60, f 61, f 62, f 63, f 64, f 65, f 66, f 67, f 68] := by kernel_rfl
set_option maxRecDepth 40000 in
set_option maxHeartbeats 2000000 in
theorem rows_any (w0 W : World) (O : Own) (br bp : Nat) (a : Option Addr) (n c p : Nat) (hD : DR w0 O br bp a n c p (repZ 0 6 (-1)) W) (h98 : ∀ k, k < W.heap.size → O k ≠ .a 9 8) (hn : n ≤ 1000000) (hnc : n ≤ c) (hc : c ≤ 9223372036854775807) (xs : List UInt8) (hX : Bs w0 a n xs) : Calls Tryz.prog 123 #[.pointer (some ⟨br, 0, none⟩), .pointer (some ⟨bp, 0, none⟩)] W (BdPost w0 O W br bp a n c xs (rowsF (xs.drop p)).1 ⟨0, 6, -1, false, 0, 0, ((rowsF (xs.drop p)).2.1 : Int), (rowsF (xs.drop p)).2.2.1, 0, []⟩ (rowsF (xs.drop p)).2.2.2) := by
  obtain ⟨Q, hQ⟩ : ∃ Q, Q = BdPost w0 O W br bp a n c xs (rowsF (xs.drop p)).1 ⟨0, 6, -1, false, 0, 0, ((rowsF (xs.drop p)).2.1 : Int), (rowsF (xs.drop p)).2.2.1, 0, []⟩ (rowsF (xs.drop p)).2.2.2 := ⟨_, rfl⟩
  rw [← hQ]
  have HQ := hid_of hQ
  have HD := hid_of hD
  have HX := hid_of hX
  have H98 := hid_of h98
  have hxl := hX.1
  have hpn : p ≤ n := hD.rd.2.2.2.2
  have HBAD : Hid (∀ cd V p' r' O', (rowsF (xs.drop p)).1 = cd → cd ≠ 0 → DR w0 O' br bp a n c p' r' V → Fr isD O W O' V → Q (.returned (.int .i64 cd)) V) := fun cd V p' r' O' h1 h2 h3 h4 => by
    rw [HQ.out]
    exact ⟨O', r', p', by rw [h1], h3, h4, fun h5 => absurd (h1.symm.trans h5) h2⟩
  clear hQ hD hX h98
  go_enter Tryz.func123, Tryz.ntmps123
  by_cases hp : p = n
  · have HP : Hid (∀ V, Rdr w0 br a n c p V → Side (isR br) W V → Q (.returned (.int .i64 5)) V) := fun V h1 h2 => by
      obtain ⟨h3, h4⟩ := HD.out.side h1 h2
      exact HBAD.out 5 V p _ _ (by rw [List.drop_of_length_le (by omega)]; rfl) (by decide) h3 (h4.mono (fun l e => .inl e))
    go_wp2_with fail
    refine (u8_noneX w0 W br a n c p HD.out.rd hn hnc hc xs HX.out hp).mono ?_
    rintro e W1 ⟨rfl, g1, g2⟩
    have HP1 := hid_of (HP.out W1 g1 g2)
    clear g1 g2
    dsimp only
    go_wp2_with fail
    all_goals first | exact HP1.out | (go_ret; exact HP1.out)
  obtain ⟨x, hx⟩ : ∃ x, xs[p]? = some x := ⟨_, List.getElem?_eq_getElem (by omega)⟩
  obtain ⟨k, hk⟩ : ∃ k, k = x.toNat := ⟨_, rfl⟩
  have HDR : Hid (xs.drop p = x :: xs.drop (p + 1)) := drop_at hx
  have HXp : Hid (xs[p]? = some x ∧ k = x.toNat) := ⟨hx, hk⟩
  have hkl : k < 256 := by rw [hk]; exact x.toNat_lt
  clear hx hk
  go_wp2_with fail
  refine (u8_natX w0 W br a n c p HD.out.rd hn hnc hc xs HX.out x HXp.out.1 k HXp.out.2).mono ?_
  rintro e W1 ⟨rfl, g1, g2⟩
  obtain ⟨hD1, hF1⟩ := HD.out.side g1 g2
  obtain ⟨O1, hO1⟩ : ∃ O1, O1 = lab O W.heap.size .no := ⟨_, rfl⟩
  rw [← hO1] at hD1 hF1
  have HD1 := hid_of hD1
  have HF1 : Hid (Fr isD O W O1 W1) := hF1.mono (fun l e => .inl e)
  clear g1 g2 hD1 hF1 hO1
  dsimp only
  by_cases h4 : 4 < k
  · have h4' : (4 : Int) < (k : Int) := by omega
    have h4g : (k : Int) > 4 := by omega
    have HP1 := hid_of (HBAD.out 8 W1 _ _ _ (by rw [HDR.out, rowsF_cons, if_pos (by rw [← HXp.out.2]; exact h4)]) (by decide) HD1.out HF1.out)
    go_wp2_with fail
    all_goals first | exact HP1.out | (go_ret; exact HP1.out)
  have h4' : ¬ (4 : Int) < (k : Int) := by omega
  have h4g : ¬ (k : Int) > 4 := by omega
  have h4b : decide ((k : Int) > 4) = false := decide_eq_false h4g
  by_cases hp2 : n < p + 1 + 2
  · have HP : Hid (∀ V, Rdr w0 br a n c (p + 1) V → Side (isR br) W1 V → Q (.returned (.int .i64 5)) V) := fun V h1 h2 => by
      obtain ⟨h3, h5⟩ := HD1.out.side h1 h2
      exact HBAD.out 5 V _ _ _ (by rw [HDR.out, rowsF_cons, if_neg (by rw [← HXp.out.2]; exact h4), if_pos (by rw [List.length_drop]; omega)]) (by decide) h3 (HF1.out.trans (h5.mono (fun l e => .inl e)))
    go_wp2_with fail
    refine (u16_none w0 W1 br a n c (p + 1) HD1.out.rd hn hp2).mono ?_
    rintro e W2 ⟨rfl, g1, g2⟩
    have HP1 := hid_of (HP.out W2 g1 g2)
    clear g1 g2
    dsimp only
    go_wp2_with fail
    all_goals first | exact HP1.out | (go_ret; exact HP1.out)
  obtain ⟨m, hm⟩ : ∃ m, m = (xs.getD (p + 1) 0).toNat * 256 + (xs.getD (p + 1 + 1) 0).toNat := ⟨_, rfl⟩
  have hu := u16_some w0 W1 br a n c (p + 1) HD1.out.rd hn xs HX.out (by omega)
  rw [← hm] at hu
  have hml : m < 65536 := by
    have h1 := (xs.getD (p + 1) 0).toNat_lt
    have h2 := (xs.getD (p + 1 + 1) 0).toNat_lt
    omega
  have HRF : Hid (rowsF (xs.drop p) = if 512 < m then (16, 0, [], []) else if (goRw m k [] (xs.drop (p + 3))).1 = 0 then (0, k, (goRw m k [] (xs.drop (p + 3))).2.1, (goRw m k [] (xs.drop (p + 3))).2.2) else ((goRw m k [] (xs.drop (p + 3))).1, 0, [], [])) := by
    show _ = _
    rw [HDR.out, rowsF_cons, if_neg (by rw [← HXp.out.2]; exact h4), if_neg (by rw [List.length_drop]; omega), ← HXp.out.2]
    have e1 : (xs.drop (p + 1)).getD 0 0 = xs.getD (p + 1) 0 := by rw [List.getD_eq_getElem?_getD, List.getD_eq_getElem?_getD, List.getElem?_drop]
    have e2 : (xs.drop (p + 1)).getD 1 0 = xs.getD (p + 1 + 1) 0 := by rw [List.getD_eq_getElem?_getD, List.getD_eq_getElem?_getD, List.getElem?_drop]
    rw [e1, e2, ← hm, List.drop_drop]
  clear hm HBAD HDR HXp
  go_wp2_with fail
  refine hu.mono ?_
  rintro e W2 ⟨rfl, g1, g2⟩
  obtain ⟨hD2, hF2⟩ := HD1.out.side g1 g2
  obtain ⟨O2, hO2⟩ : ∃ O2, O2 = lab O1 W1.heap.size .no := ⟨_, rfl⟩
  rw [← hO2] at hD2 hF2
  have HD2 := hid_of hD2
  have HF2 : Hid (Fr isD O W O2 W2) := HF1.out.trans (hF2.mono (fun l e => .inl e))
  clear g1 g2 hD2 hF2 hO2 hu HD1 HF1
  dsimp only
  by_cases h5 : 512 < m
  · have h5' : (512 : Int) < (m : Int) := by omega
    have h5g : (m : Int) > 512 := by omega
    have HP1 : Hid (Q (.returned (.int .i64 16)) W2) := by
      show Q _ _
      rw [HQ.out]
      have e : rowsF (xs.drop p) = (16, 0, [], []) := by rw [HRF.out, if_pos h5]
      exact ⟨O2, _, _, by rw [e], HD2.out, HF2.out, fun h6 => by rw [e] at h6; exact absurd h6 (by decide)⟩
    go_wp2_with fail
    all_goals first | exact HP1.out | (go_ret; exact HP1.out)
  have h5' : ¬ (512 : Int) < (m : Int) := by omega
  have h5g : ¬ (m : Int) > 512 := by omega
  have h5b : decide ((m : Int) > 512) = false := decide_eq_false h5g
  obtain ⟨tot, htot⟩ : ∃ tot, tot = goRw m k [] (xs.drop (p + 3)) := ⟨_, rfl⟩
  have HTOT : Hid (rowsF (xs.drop p) = if tot.1 = 0 then (0, k, tot.2.1, tot.2.2) else (tot.1, 0, [], [])) := by
    show _ = _
    rw [HRF.out, if_neg h5, ← htot]
  have HJ0 : Hid (∃ O' p ra rc Ds K, RQ w0 O W br bp a n c xs k m tot 0 O' p ra rc Ds K (put W2 bp (Reply.enc (ptE k none 0 0)))) := by
    obtain ⟨h6, h7⟩ := HD2.out.set (ptE k none 0 0)
    exact ⟨O2, p + 1 + 2, none, 0, [], [], h6, RowL.nil _ _ _ _ _ _, fun i d row h => by simp at h, ⟨rfl, rfl⟩, by rw [size_put]; exact HF2.out.size, HF2.out.trans (h7.mono (fun l e => .inr (.inl e))), htot.symm⟩
  have hcb2 := HD2.out.cell
  have hfb2 := HD2.out.fre
  have hsp : splice (Reply.enc (repZ 0 6 (-1))) 6 [.int .i64 (k : Int)] = Reply.enc (ptE k none 0 0) := rfl
  obtain ⟨RZ, hRZ⟩ : ∃ RZ, RZ = Reply.enc (repZ 0 6 (-1)) := ⟨_, rfl⟩
  have hRZl : RZ.length = 11 := by rw [hRZ]; exact Reply.length_enc _
  rw [← hRZ] at hcb2 hsp
  obtain ⟨RY, hRY⟩ : ∃ RY, RY = Reply.enc (ptE k none 0 0) := ⟨_, rfl⟩
  rw [← hRY] at hsp HJ0
  clear htot HRF HD2 HF2 hRZ hRY
  go_upto_region 13 with fail
  refine wp_loop_f 69 (rqI w0 O W br bp a n c xs k m tot) (fun f _ => m - (intOf (f 8)).toNat) rfl ⟨rfl, rfl, rfl, rfl, 0, by omega, rfl, HJ0⟩ ?_
  clear HJ0 hcb2 hfb2 hRZl hsp
  intro F V hrel
  obtain ⟨f0, f1, f5, f7, j, hj, f8, HJ⟩ := hrel
  have H8 := hid_of f8
  rw [frame69r, f0, f1, f5, f7, f8]
  clear f0 f1 f5 f7 f8
  obtain ⟨Oj, pj, ra, rc, Ds, K, hRQ⟩ := HJ.out
  have HR := hid_of hRQ
  clear HJ hRQ
  by_cases hjm : j < m
  rotate_left 1
  · have hjm' : ¬ (j : Int) < (m : Int) := by omega
    have HP1 : Hid (Q (.returned (.int .i64 0)) V) := by
      show Q _ _
      obtain ⟨O', h6, h7, h8⟩ := HR.out.fin H98.out
      have e0 : tot = (0, K, xs.drop pj) := by
        rw [← HR.out.go, show m - j = 0 by omega]; rfl
      have e : rowsF (xs.drop p) = (0, k, K, xs.drop pj) := by rw [HTOT.out, e0]; rfl
      rw [HQ.out, e]
      exact ⟨O', _, pj, rfl, h6, h7, fun _ => ⟨rfl, h8⟩⟩
    go_wp2_with fail
    all_goals first | exact HP1.out | (go_ret; exact HP1.out)
  have hjm' : (j : Int) < (m : Int) := by omega
  have h1000 : k ≤ 1000 := by omega
  have hk0 : (0 : Int) ≤ (k : Int) := by omega
  obtain ⟨tn, htn⟩ : ∃ tn, tn = goN k [] (xs.drop pj) := ⟨_, rfl⟩
  have HTN := hid_of htn
  clear htn
  go_upto_region 17 with fail
  refine wp_world (fun V1 => NQ w0 V br V.heap.size a n c xs k tn (some ⟨V.heap.size, 0, none⟩) 0 k 0 [] pj V1) ?_ ?_
  · have h6 := OutG.made (en := encS) (sz := 1) (e := 9) V V (ext_Ext (Ext.refl _)) (madeCells #[Value.string ⟨#[]⟩] k) k (by simp [size_madeCells]) (by omega)
    exact ⟨rfl, rfl, h6.1, HR.out.dr.rd.ext h6.2.1, Side.of_extends h6.2.1, h6.2.1.size, HTN.out.symm⟩
  intro V1 hV1
  have HI0 := hid_of hV1
  clear hV1
  refine wp_loop_f 69 (nqI w0 V br bp V.heap.size a n c xs k m j tn) (fun f _ => k - (intOf (f 10)).toNat) rfl ⟨rfl, rfl, rfl, rfl, rfl, 0, _, _, _, [], pj, by omega, rfl, rfl, HI0⟩ ?_
  clear HI0
  intro F2 U hrel
  obtain ⟨f0, f1, f5, f7, f8, i, a', n', c', K', p', hi, f9, f10, HI⟩ := hrel
  have H10 := hid_of f10
  rw [frame69r, f0, f1, f5, f7, f8, f9, f10]
  clear f0 f1 f5 f7 f8 f9 f10
  by_cases hik : i < k
  · have hik' : (i : Int) < (k : Int) := by omega
    have hname := name_anyX w0 U br a n c p' HI.out.2.2.2.1 hn hnc hc xs HX.out
    go_wp2_with fail
    refine hname.mono ?_
    rintro e V1 ⟨rfl, p2, hR2, hS2, hrest⟩
    obtain ⟨h5, h5', h6, h8, h9, h10, h11⟩ := HI.out
    obtain ⟨cd, hcd⟩ : ∃ cd, cd = (nameF (xs.drop p')).1 := ⟨_, rfl⟩
    obtain ⟨nm, hnm⟩ : ∃ nm, nm = (nameF (xs.drop p')).2.1 := ⟨_, rfl⟩
    rw [← hcd, ← hnm]
    rw [← hcd] at hrest
    have hbr : br < V.heap.size := blk_lt HR.out.dr.rd.1
    have hrow1 : V1.ownsRow V.heap.size 9 1 (.slice a' n' c') K'.length (K'.flatMap encS) := row_keep h6 (fun k hk => hS2.block k (row_at h6 k hk).2.1 (fun e => by have := (row_at h6 k hk).1; have e' : k = br := e; omega))
    have hBV : V.heap.size ≤ V1.heap.size := Nat.le_trans h10 hS2.size
    by_cases hz : cd = 0
    · have hrest' : xs.drop p2 = (nameF (xs.drop p')).2.2 := hrest hz
      have hgo : goN (k - (i + 1)) (K' ++ [nm]) (xs.drop p2) = tn := by
        rw [hrest', hnm, ← h11, show k - i = (k - (i + 1)) + 1 by omega, goN_ok (by rw [← hcd]; exact hz)]
      have hx1 : V1.Extends (V1.alloc (.cells (encS nm).toArray 9)) := extends_alloc (ext_Ext (Ext.refl _)) _
      obtain ⟨v', V3, hrun, ho, hg, _⟩ := appG encS 1 16 43 9 Tryz.underlying43 info9 encS_len encS_one (by omega) (by omega) V.heap.size (V1.alloc (.cells (encS nm).toArray 9)) 43 (.slice a' n' c') K' nm V1.heap.size 1 (row_keep hrow1 (fun k hk => hx1.block k (row_at hrow1 k hk).2.1)) ((blk_alloc _ _ _ _).trans (if_pos rfl)) (Nat.le_trans hBV hx1.size) (by omega)
      obtain ⟨a'', c'', rfl⟩ := row_val ho
      have hm1 : (K' ++ [nm]).length = n' + 1 := by rw [List.length_append, List.length_singleton, h5]
      have lr := blk_lt hR2.1
      have hold : ∀ b, b < V.heap.size → b < V1.heap.size → V3.heap[b]? = V1.heap[b]? := fun b hb hbV => (hg.block b (by have := hx1.size; omega) (fun e => by have := (row_at hrow1 b e.symm).1; omega)).trans (hx1.block b hbV)
      have hS3 : Side (isR br) V V3 := ((h9.trans hS2).ext hx1).grown hg (fun b hb => (row_at hrow1 b hb).1)
      have hR3 : Rdr w0 br a n c p2 V3 := by
        obtain ⟨r1, r2, r3, r4, r5⟩ := hR2
        refine ⟨(blk_of_heap (hold br hbr lr)).trans r1, (free_of_heap (hold br hbr lr)).trans r2, ?_, r4, r5⟩
        exact grown_ext (r3.trans hx1) hg (fun b hb => by have := (row_at hrow1 b hb).1; have := HR.out.dr.rd.2.2.1.size; omega)
      rw [hm1] at hrun
      have HI' : Hid (NQ w0 V br V.heap.size a n c xs k tn a'' (n' + 1) c'' (i + 1) (K' ++ [nm]) p2 V3) := ⟨hm1.symm, by omega, by rw [← hm1]; exact ho, hR3, hS3, Nat.le_trans (Nat.le_trans hBV hx1.size) hg.size, hgo⟩
      clear hR3 hS3 hold ho hg hx1 hgo hrest' h5 h5' h6 h8 h9 h10 h11 hrow1 hR2 hS2 hrest HI hcd hnm hname lr hbr hBV
      subst hz
      dsimp only
      go_wp2_with (at_builtin; refine wpList_append_run rfl _ _ 43 rfl _ _ _ _ rfl rfl hrun ?_)
      refine ⟨rfl, rfl, ⟨rfl, rfl, rfl, rfl, rfl, i + 1, a'', n' + 1, c'', K' ++ [nm], p2, by omega, rfl, ?_, HI'⟩, ?_⟩
      · show Value.int .i64 _ = _
        go_num
      · show k - (intOf (Value.int .i64 _)).toNat < k - (intOf (F2 10)).toNat
        rw [H10.out]
        simp [intOf]; omega
    · have HP1 : Hid (Q (.returned (.int .i64 cd)) V1) := by
        show Q _ _
        have e1 : tn = (cd, [], []) := by rw [← h11, show k - i = (k - (i + 1)) + 1 by omega, goN_bad (by rw [← hcd]; exact hz), ← hcd]
        have e2 : tot = (cd, [], []) := by
          rw [← HR.out.go, show m - j = (m - (j + 1)) + 1 by omega, goRw_bad (by rw [← HTN.out, e1]; exact hz), ← HTN.out, e1]
        have e : rowsF (xs.drop p) = (cd, 0, [], []) := by rw [HTOT.out, e2]; exact if_neg hz
        obtain ⟨h12, h13⟩ := HR.out.dr.side hR2 (h9.trans hS2)
        rw [HQ.out, e]
        exact ⟨_, _, p2, rfl, h12, HR.out.fr.trans (h13.mono (fun l e => .inl e)), fun h14 => absurd h14 hz⟩
      have hzb : (cd == 0) = false := by simp [hz]
      clear h5 h5' h6 h8 h9 h10 h11 hrow1 hS2 hrest HI hcd hR2 hnm hname
      dsimp only
      go_wp2_with fail
      all_goals first | exact HP1.out | (go_ret; exact HP1.out)
  obtain rfl : i = k := by omega
  have hik' : ¬ (i : Int) < (i : Int) := by omega
  obtain ⟨h5, h5', h6, h8, h9, h10, h11⟩ := HI.out
  have hgo : goN i [] (xs.drop pj) = (0, K', xs.drop p') := by rw [← HTN.out, ← h11, Nat.sub_self]; rfl
  have e5 : n' = K'.length := h5
  subst e5
  obtain ⟨hcb, hfb, hlt, a9, c9, V9, hrun, hcb9, hfb9, O9, Ds9, hRQ9⟩ := HR.out.step hjm (by omega) h6 h8 h9 hgo
  have HR9 := hid_of hRQ9
  obtain ⟨PE, hPE⟩ : ∃ PE, PE = Reply.enc (ptE i ra j rc) := ⟨_, rfl⟩
  have pe7 : nth PE 7 = some (.slice ra j rc) := by rw [hPE]; rfl
  have pel : PE.length = 11 := by rw [hPE]; exact Reply.length_enc _
  have hsp : ∀ x y z, splice PE 7 [.slice x y z] = Reply.enc (ptE i x y z) := fun x y z => by rw [hPE]; rfl
  rw [← hPE] at hcb hcb9
  have hln : K'.length = i := h5'
  obtain ⟨kl, hkl'⟩ : ∃ kl, kl = K'.length := ⟨_, rfl⟩
  have nbp : ¬ bp = U.heap.size := by omega
  rw [← hkl'] at hrun ⊢
  clear h5 h5' h6 h8 h9 h10 h11 HI hgo hRQ9 hPE hln hkl' hlt
  go_wp2_with (at_builtin; refine wpList_append_run rfl _ _ 61 rfl _ _ _ _ rfl rfl hrun ?_)
  refine ⟨rfl, rfl, ⟨rfl, rfl, rfl, rfl, j + 1, by omega, ?_, ⟨_, _, _, _, _, _, HR9.out⟩⟩, ?_⟩
  · show Value.int .i64 _ = _
    go_num
  · show m - (intOf (Value.int .i64 _)).toNat < m - (intOf (F 8)).toNat
    rw [H8.out]
    simp [intOf]; omega
end Go.Proofs.Qxb6500787aGreat
