
import Derived.Test.Qxb6500787aGreatVn
import Derived.StillTailTactics
import Derived.Deep.QuietTactic
import Derived.BigQuiet
import Derived.Deep.RegionHeld
import Derived.Deep.CutRange
import Derived.Laws.ResultCell
import Derived.Laws.Rows
import Derived.DeepKeys
import Derived.DataBytes
import Derived.Laws.StructEq
import Derived.Laws.AppendOwn
import Derived.Laws.MakeOwn
import Derived.Lib.AppendStr
set_option linter.unusedSimpArgs false
set_option linter.unusedVariables false
namespace Go.Proofs.Qxb6500787aGreat
open Go.RowKit Go.Blk
attribute [local go_sem ↓] execOp_load execOp_store execOp_alloc
attribute [local go_sem] Tryz.ld26 Tryz.st26 Tryz.ld27 Tryz.st27 Tryz.ld28 Tryz.st28 Tryz.ld3 Tryz.st3 Tryz.ld29 Tryz.st29 Tryz.ld44 Tryz.st44 Tryz.ld4 Tryz.st4 Tryz.ld50 Tryz.st50 Tryz.ld32 Tryz.st32 Tryz.ld49 Tryz.st49 Tryz.ld68 Tryz.st68 Tryz.ld9 Tryz.st9 Tryz.ld40 Tryz.st40 Tryz.ld138 Tryz.st138 Tryz.ld139 Tryz.st139 Tryz.ld146 Tryz.st146 Tryz.ld183 Tryz.st183 Tryz.ld184 Tryz.st184 Tryz.ld192 Tryz.st192 Tryz.ld195 Tryz.st195 Tryz.ld217 Tryz.st217 Tryz.ld159 Tryz.st159 Tryz.ld142 Tryz.st142 Tryz.ld2 Tryz.st2 Tryz.ld5 Tryz.st5 Tryz.ld12 Tryz.st12 Tryz.ld21 Tryz.st21 Tryz.ld22 Tryz.st22 Tryz.ld24 Tryz.st24 Tryz.ld58 Tryz.st58 Tryz.ld97 Tryz.st97 Tryz.ld101 Tryz.st101 Tryz.ld116 Tryz.st116 Tryz.ld121 Tryz.st121 Tryz.ld135 Tryz.st135 Tryz.ld136 Tryz.st136 Tryz.ld143 Tryz.st143 Tryz.ld148 Tryz.st148 Tryz.ld154 Tryz.st154 Tryz.ld173 Tryz.st173 Tryz.ld187 Tryz.st187 Tryz.ld222 Tryz.st222 Tryz.ld241 Tryz.st241 Tryz.ld248 Tryz.st248 Tryz.ld268 Tryz.st268 Tryz.ld272 Tryz.st272 Tryz.ld153 Tryz.st153 Tryz.ld255 Tryz.st255 Tryz.ld256 Tryz.st256 Tryz.ld129 Tryz.st129 Tryz.ld152 Tryz.st152 Tryz.ld31 Tryz.st31 Tryz.ld46 Tryz.st46 Tryz.ld52 Tryz.st52 Tryz.ld54 Tryz.st54 Tryz.ld60 Tryz.st60 Tryz.ld70 Tryz.st70 Tryz.ld74 Tryz.st74 Tryz.ld93 Tryz.st93 Tryz.ld141 Tryz.st141 Tryz.ld151 Tryz.st151 Tryz.ld170 Tryz.st170 Tryz.ld186 Tryz.st186 Tryz.ld189 Tryz.st189 Tryz.ld194 Tryz.st194 Tryz.ld197 Tryz.st197 Tryz.ld219 Tryz.st219 Tryz.ld224 Tryz.st224 Tryz.ld230 Tryz.st230 Tryz.ld235 Tryz.st235 Tryz.ld243 Tryz.st243 Tryz.ld247 Tryz.st247 Tryz.ld252 Tryz.st252 Tryz.ld258 Tryz.st258 Tryz.al153 Tryz.al255 Tryz.al256 Tryz.al129 Tryz.al152 Tryz.al31 Tryz.al46 Tryz.al52 Tryz.al54 Tryz.al60 Tryz.al70 Tryz.al74 Tryz.al93 Tryz.al141 Tryz.al151 Tryz.al170 Tryz.al186 Tryz.al189 Tryz.al194 Tryz.al197 Tryz.al219 Tryz.al224 Tryz.al230 Tryz.al235 Tryz.al243 Tryz.al247 Tryz.al252 Tryz.al258
attribute [local go_sem] Request.length_enc Request.ok_enc Request.all_get Request.all_set Request.kind_get Request.kind_set Request.blob_get Request.blob_set Request.items_get Request.items_set Request.pred_get Request.pred_set Request.slots_get Request.slots_set Trace.length_enc Trace.ok_enc Trace.all_get Trace.all_set Trace.op_get Trace.op_set Trace.calls_get Trace.calls_set Item.length_enc Item.ok_enc Item.all_get Item.all_set Item.del_get Item.del_set Item.pred_get Item.pred_set Item.args_get Item.args_set Reply.length_enc Reply.ok_enc Reply.all_get Reply.all_set Reply.code_get Reply.code_set Reply.kind_get Reply.kind_set Reply.index_get Reply.index_set Reply.yes_get Reply.yes_set Reply.preds_get Reply.preds_set Reply.rules_get Reply.rules_set Reply.arity_get Reply.arity_set Reply.rows_get Reply.rows_set Reply.fact_get Reply.fact_set Reply.fact_del_get Reply.fact_del_set Reply.fact_pred_get Reply.fact_pred_set Reply.fact_args_get Reply.fact_args_set GEntry.length_enc GEntry.ok_enc GEntry.all_get GEntry.all_set GEntry.seq_get GEntry.seq_set GEntry.kind_get GEntry.kind_set GEntry.code_get GEntry.code_set GOp.length_enc GOp.ok_enc GOp.all_get GOp.all_set GOp.kind_get GOp.kind_set GOp.raw_get GOp.raw_set Reader.length_enc Reader.ok_enc Reader.all_get Reader.all_set Reader.buf_get Reader.buf_set Reader.at__get Reader.at__set Slot.length_enc Slot.ok_enc Slot.all_get Slot.all_set Slot.bound_get Slot.bound_set Slot.name_get Slot.name_set Session.length_enc Session.ok_enc Session.all_get Session.all_set Session.svc_get Session.svc_set Session.buf_get Session.buf_set Session.closed_get Session.closed_set GProgram.length_enc GProgram.ok_enc GProgram.all_get GProgram.all_set GProgram.pool_get GProgram.pool_set GProgram.preds_get GProgram.preds_set GProgram.rules_get GProgram.rules_set GProgram.strata_get GProgram.strata_set PredInfo.length_enc PredInfo.ok_enc PredInfo.all_get PredInfo.all_set PredInfo.arity_get PredInfo.arity_set PredInfo.base_get PredInfo.base_set PredInfo.stratum_get PredInfo.stratum_set Change.length_enc Change.ok_enc Change.all_get Change.all_set Change.del_get Change.del_set Change.pred_get Change.pred_set Change.t_get Change.t_set Store.length_enc Store.ok_enc Store.all_get Store.all_set Store.names_get Store.names_set Store.arity_get Store.arity_set Store.rows_get Store.rows_set Src.length_enc Src.ok_enc Src.all_get Src.all_set Src.b_get Src.b_set Src.at__get Src.at__set Atom.length_enc Atom.ok_enc Atom.all_get Atom.all_set Atom.pred_get Atom.pred_set Atom.args_get Atom.args_set GRule.length_enc GRule.ok_enc GRule.all_get GRule.all_set GRule.head_get GRule.head_set GRule.body_get GRule.body_set GRule.head_pred_get GRule.head_pred_set GRule.head_args_get GRule.head_args_set Cert.length_enc Cert.ok_enc Cert.all_get Cert.all_set Cert.names_get Cert.names_set Cert.nodes_get Cert.nodes_set Fact.length_enc Fact.ok_enc Fact.all_get Fact.all_set Fact.pred_get Fact.pred_set Fact.t_get Fact.t_set Literal.length_enc Literal.ok_enc Literal.all_get Literal.all_set Literal.neg_get Literal.neg_set Literal.atom_get Literal.atom_set Literal.atom_pred_get Literal.atom_pred_set Literal.atom_args_get Literal.atom_args_set Engine.length_enc Engine.ok_enc Engine.all_get Engine.all_set Engine.prog_get Engine.prog_set Engine.st_get Engine.st_set SrcCertm.length_enc SrcCertm.ok_enc SrcCertm.all_get SrcCertm.all_set SrcCertm.b_get SrcCertm.b_set SrcCertm.at__get SrcCertm.at__set GNode.length_enc GNode.ok_enc GNode.all_get GNode.all_set GNode.rule_get GNode.rule_set GNode.pred_get GNode.pred_set GNode.vals_get GNode.vals_set GNode.refs_get GNode.refs_set Term.length_enc Term.ok_enc Term.all_get Term.all_set Term.var_get Term.var_set Term.n_get Term.n_set Env.length_enc Env.ok_enc Env.all_get Env.all_set Env.val_get Env.val_set Env.set_get Env.set_set
attribute [local go_sem] size_put size_ext blk_put free_put blk_alloc free_alloc blk_drew free_drew blk_ext free_ext lookOr_some putOr_some segAt_some cellAt_some storeIn_some put_put put_alloc_new length_arr ok_arr_u8 ok_arr_u32 ok_arr_u64 ok_arr_i64 ok_arr_sl cellsV_agg cellsV_int cellsV_bool cellsV_string cellsV_pointer cellsV_slice cellsV_sl ok_int ok_bool ok_string ok_pointer ok_slice ok_sl toList_arr seg_arr set_arr nth_splice nth_splice0 seg_splice seg_splice0 splice_splice splice_splice0 length_splice_if
attribute [local go_sem ↓] execOp_box
attribute [local go_sem] box_run nth_arr_u8 put_arr_u8 blk_drewN free_drewN put_drewN blk_raw free_raw
/-- The checks of the items of a batch, in their order. -/
def ckL (p : PP) : List It → Nat → Option (Int × Nat)
  | [], _ => none
  | it :: L, i => if cuF p it.2.1.toNat it.2.2.length ≠ 0 then some (cuF p it.2.1.toNat it.2.2.length, i) else ckL p L (i + 1)
theorem ckL_none {p : PP} : ∀ {L : List It} {i : Nat}, ckL p L i = none → ∀ it ∈ L, cuF p it.2.1.toNat it.2.2.length = 0
  | [], _, _, it, h => by cases h
  | x :: L, i, h, it, hm => by
    unfold ckL at h
    by_cases e : cuF p x.2.1.toNat x.2.2.length ≠ 0
    · rw [if_pos e] at h; cases h
    · rw [if_neg e] at h
      rcases List.mem_cons.1 hm with h1 | h1
      · rw [h1]; exact Decidable.of_not_not e
      · exact ckL_none h it h1
/-- One item of a batch made a change. -/
def btS (X : Int × List (List UInt8) × List Change) (it : It) : Int × List (List UInt8) × List Change :=
  if X.1 ≠ 0 then X else
  if it.1 then (0, X.2.1, X.2.2 ++ [⟨true, it.2.1, mkT (resV X.2.1 it.2.2) it.2.2.length⟩])
  else if (intF X.2.1 it.2.2).1 ≠ 0 then ((intF X.2.1 it.2.2).1, (intF X.2.1 it.2.2).2.2, X.2.2)
  else (0, (intF X.2.1 it.2.2).2.2, X.2.2 ++ [⟨false, it.2.1, (intF X.2.1 it.2.2).2.1⟩])
def btF (N : List (List UInt8)) (L : List It) : Int × List (List UInt8) × List Change := L.foldl btS (0, N, [])
theorem bts_stop : ∀ (L : List It) (X : Int × List (List UInt8) × List Change), X.1 ≠ 0 → L.foldl btS X = X
  | [], _, _ => rfl
  | it :: L, X, h => by
    have e : btS X it = X := by unfold btS; rw [if_pos h]
    rw [List.foldl_cons, e]
    exact bts_stop L X h
/-- A batch, plainly. -/
def btR (s : Sv) (t : InsS) (L : List It) (rep : Reply) (s' : Sv) : Prop :=
  (∃ c i, ckL t.p L 0 = some (c, i) ∧ rep = repZ c 4 (i : Int) ∧ s' = s) ∨
  (ckL t.p L 0 = none ∧ ∃ mc t1 co, MrR t L mc t1 co ∧
    ((mc ≠ 0 ∧ rep = repZ mc 4 (-1) ∧ s' = s.roomy t1 co) ∨
    (mc = 0 ∧ (((btF t1.N L).1 ≠ 0 ∧ rep = repZ 17 4 (-1) ∧ s' = s.roomy (t1.tab (btF t1.N L).2.1) co) ∨
      ((btF t1.N L).1 = 0 ∧ ∃ code ix R', BatR t1.p t1.R (btF t1.N L).2.2 code ix R' ∧
        ((code ≠ 0 ∧ rep = repZ code 4 ix ∧ s' = (s.roomy t1 co).low (t1.tab (btF t1.N L).2.1) 4) ∨
         (code = 0 ∧ rep = repZ 0 4 (-1) ∧ s' = (s.roomy t1 co).low ((btF t1.N L).2.2.foldl setS ((t1.tab (btF t1.N L).2.1).rel R')) 4)))))))
theorem build170c_lit (w : World) (d : Bool) (q : Int) : (buildOp 248 #[(0, .bool d), (1, .int .i64 q)]).run Tryz.prog w = .ok (.value (.agg #[.bool d, .int .i64 q, .int .i64 0, .int .i64 0, .int .i64 0, .int .i64 0])) w := by kernel_rfl
theorem build170c (w : World) (d : Bool) (q : Int) : (buildOp 248 #[(0, .bool d), (1, .int .i64 q)]).run Tryz.prog w = .ok (.value (.agg (Change.enc ⟨d, q, Vector.replicate 4 (0 : Int)⟩).toArray)) w := build170c_lit w d q
theorem make173 (w : World) (n : Nat) (hn : n ≤ 1000) : (makeOp 251 (.int .i64 0) (.int .i64 (n : Int))).run Tryz.prog w = .ok (.value (.slice (some ⟨w.heap.size, 0, none⟩) 0 n)) (w.alloc (.cells (madeCells Change.zero.enc.toArray (n * 6)) 248)) := by
  obtain ⟨i, hi, hz, hsz, hby⟩ : ∃ i, Tryz.prog.info? 248 = some i ∧ i.zero = some (.agg Change.zero.enc.toArray) ∧ i.size = 6 ∧ i.bytes = 48 := by
    have hq : (Tryz.prog.info? 248).map (fun i => (i.zero, i.size, i.bytes)) = some (some (.agg Change.zero.enc.toArray), 6, 48) := by kernel_rfl
    cases hx : Tryz.prog.info? 248 with
    | none => rw [hx] at hq; simp at hq
    | some i =>
      rw [hx] at hq
      simp only [Option.map_some, Option.some.injEq, Prod.mk.injEq] at hq
      exact ⟨i, rfl, hq.1, hq.2.1, hq.2.2⟩
  have hr := run_make (P := Tryz.prog) w 251 248 i _ Tryz.underlying251 hi hz .i64 .i64 0 (n : Int) (by omega) (by omega) (by rw [hby]; omega) (by omega)
  unfold makeOp
  rw [Sem.run_bind, hr, hsz, Int.toNat_natCast]
  rfl
def b1I (W1 : World) (bs b4 : Nat) (la : Option Addr) (lN lc : Nat) (p : PP) (L : List It) (f : Nat → Value) (V : World) : Prop := f 0 = .pointer (some ⟨bs, 0, none⟩) ∧ f 1 = .slice la lN lc ∧ f 4 = .pointer (some ⟨b4, 0, none⟩) ∧ ∃ i : Nat, i ≤ lN ∧ f 5 = .int .i64 (i : Nat) ∧ Hid (W1.Extends V ∧ ckL p L 0 = ckL p (L.drop i) i)
/-- The service while the items of a batch are made changes. -/
def Bt2 (O : Own) (W : World) (bs b4 g : Nat) (s : Sv) (t1 : InsS) (co : Int) (CS : List Value) (ip ia : Option Addr) (iN ic : Nat) (B8 : Nat) (la : Option Addr) (lN : Nat) (L : List It) (i : Nat) (a : Option Addr) (n c : Nat) (Ox : Own) (V : World) (N' : List (List UInt8)) (cs : List Change) : Prop :=
  HC O W bs b4 Ox V g (s.roomy (t1.tab N') co) CS ip ia iN ic ∧ RowL B8 Ox (.a 9 8) V 248 6 (.slice a n c) cs.length (cs.flatMap Change.enc) ∧ (L.take i).foldl btS (0, t1.N, []) = (0, N', cs) ∧ n ≤ i ∧ ItsC (core Ox V) la lN L ∧ (∀ ch ∈ cs, ChOk t1.p.preds.length ch) ∧ N'.length ≤ 256 ∧ B8 ≤ V.heap.size
def b2I (O : Own) (W : World) (bs b4 g : Nat) (s : Sv) (t1 : InsS) (co : Int) (CS : List Value) (ip ia : Option Addr) (iN ic : Nat) (B8 : Nat) (la : Option Addr) (lN lc : Nat) (L : List It) (f : Nat → Value) (V : World) : Prop := f 0 = .pointer (some ⟨bs, 0, none⟩) ∧ f 1 = .slice la lN lc ∧ f 4 = .pointer (some ⟨b4, 0, none⟩) ∧ f 7 = .int .i64 0 ∧ ∃ (i : Nat) (a : Option Addr) (n c : Nat), i ≤ lN ∧ n ≤ 1000 ∧ f 8 = .slice a n c ∧ f 9 = .int .i64 (i : Nat) ∧ Hid (∃ Ox N' cs, Bt2 O W bs b4 g s t1 co CS ip ia iN ic B8 la lN L i a n c Ox V N' cs)
def b3I (O : Own) (W : World) (bs b4 g : Nat) (s0 : Sv) (t2 : InsS) (CS : List Value) (ip ia : Option Addr) (iN ic : Nat) (M : Int) (B8 : Nat) (a : Option Addr) (n c : Nat) (cs : List Change) (f : Nat → Value) (V : World) : Prop := f 0 = .pointer (some ⟨bs, 0, none⟩) ∧ f 4 = .pointer (some ⟨b4, 0, none⟩) ∧ f 8 = .slice a n c ∧ ∃ j : Nat, j ≤ n ∧ f 12 = .int .i64 (j : Nat) ∧ Hid (∃ Ox, HC O W bs b4 Ox V g (s0.low ((cs.take j).foldl setS t2) 4) CS ip ia iN ic ∧ RowL B8 Ox (.a 9 8) V 248 6 (.slice a n c) cs.length (cs.flatMap Change.enc) ∧ UB (M + 4 * (j : Int)) ((cs.take j).foldl setS t2))
theorem isI_98 {g : Nat} (hg : g < 2) : ¬ isI g (.a 9 8) := by rintro ⟨j, e | e⟩ <;> (have := (Lab.a.inj e).1; omega)
theorem isV_98 {g : Nat} (hg : g < 2) : ¬ isV g (.a 9 8) := by
  rintro (e | e)
  · cases e
  · exact isI_98 hg e
/-- A row of the handler grows. -/
theorem HC.fr98 {O : Own} {W : World} {bs b4 : Nat} {Ox Oy : Own} {V V' : World} {g : Nat} {s : Sv} {CS : List Value} {ip ia : Option Addr} {iN ic : Nat} (h : HC O W bs b4 Ox V g s CS ip ia iN ic) (hF : Fr (fun l => l = .a 9 8) Ox V Oy V') (hW : ∀ k, k < W.heap.size → O k ≠ .a 9 8) (hK : ∀ k, k < W.heap.size → kept (O k) → Ox k = O k) : HC O W bs b4 Oy V' g s CS ip ia iN ic := by
  have hg := h.sv.gl
  have hn : ¬ (fun l => l = Lab.a 9 8) (Ox b4) := by rw [h.ro]; exact fun e => by cases e
  have h0 : ¬ (fun l => l = Lab.a 9 8) (Ox bs) := by rw [h.sv.own]; exact fun e => by cases e
  refine ⟨?_, ?_, h.lo, hF.blk h.rc hn, hF.free h.rc h.rf hn, (hF.keep b4 (blk_lt h.rc)).trans h.ro⟩
  · refine ⟨hF.os.trans h.kp.os, hF.tape.trans h.kp.tape, hF.output.trans h.kp.output, Nat.le_trans h.kp.size hF.size, fun k hk hl => ?_⟩
    have hk' : k < V.heap.size := Nat.lt_of_lt_of_le hk h.kp.size
    refine ⟨(hF.keep k hk').trans (hK k hk hl), (hF.block k hk' ?_).trans (h.kp.keep k hk hl).2⟩
    rw [hK k hk hl]; exact hW k hk
  · refine ⟨hF.blk h.sv.cell h0, hF.free h.sv.cell h.sv.fre h0, (hF.keep bs (blk_lt h.sv.cell)).trans h.sv.own, h.sv.c, h.sv.im.grow (core_fr hF (fun e => by cases e)), hg, h.sv.no, fun t ht => ?_⟩
    obtain ⟨B, bi, e1, e2, e3⟩ := h.sv.ins t ht
    exact ⟨B, bi, e1, Nat.le_trans e2 hF.size, e3.fr hF (fun l hl e => isI_98 hg (e ▸ hl)) (fun e => by cases e)⟩
attribute [local go_sem ↓] execOp_build execOp_bslice execOp_make
attribute [local go_sem] build170c bslice173
set_option maxRecDepth 100000 in
theorem frame129b (f : Nat → Value) : frameN 129 f = #[f 0, f 1, f 2, f 3, f 4, f 5, f 6, f 7, f 8, f 9, f 10, f 11, f 12, f 13, f 14, f 15, f 16, f 17, f 18, f 19, f 20, f 21, f 22, f 23, f 24, f 25, f 26, f 27, f 28, f 29, f 30, f 31, f 32, f 33, f 34, f 35, f 36, f 37, f 38, f 39, f 40, f 41, f 42, f 43, f 44, f 45, f 46, f 47, f 48, f 49, f 50, f 51, f 52, f 53, f 54, f 55, f 56, f 57, f 58, f 59, f 60, f 61, f 62, f 63, f 64, f 65, f 66, f 67, f 68, f 69, f 70, f 71, f 72, f 73, f 74, f 75, f 76, f 77, f 78, f 79, f 80, f 81, f 82, f 83, f 84, f 85, f 86, f 87, f 88, f 89, f 90, f 91, f 92, f 93, f 94, f 95, f 96, f 97, f 98, f 99, f 100, f 101, f 102, f 103, f 104, f 105, f 106, f 107, f 108, f 109, f 110, f 111, f 112, f 113, f 114, f 115, f 116, f 117, f 118, f 119, f 120, f 121, f 122, f 123, f 124, f 125, f 126, f 127, f 128] := by kernel_rfl
set_option maxRecDepth 40000 in
set_option maxHeartbeats 8000000 in
theorem hbatch_any {O : Own} {W : World} {bs g : Nat} {s : Sv} {CS : List Value} {ip ia : Option Addr} {iN ic : Nat} (h : SvM O W bs g s CS ip ia iN ic) {t : InsS} (ht : s.inst = some t) (hok : InOk t) {M : Int} (hlv : -1000000 ≤ t.live ∧ t.live ≤ 1000000) (hM : M ≤ 800000000000) (h252 : 0 ≤ s.rst 252 ∧ s.rst 252 ≤ 1000000000) (hcl : 0 ≤ s.calls ∧ s.calls ≤ 100) (hfree : ∀ k, ¬ isI (1 - g) (O k) ∧ O k ≠ .a 0 8) (h98 : ∀ k, k < W.heap.size → O k ≠ .a 9 8) (la : Option Addr) (lN lc : Nat) (L : List It) (hL : ItsC (core O W) la lN L) (hln : lN ≤ 1000) (h4 : ∀ it ∈ L, it.2.2.length ≤ 4) (hp0 : ∀ it ∈ L, 0 ≤ it.2.1) (hnx : ∀ mc t1 co, ckL t.p L 0 = none → MrR t L mc t1 co → InOk t1 ∧ UB M t1 ∧ t1.p = t.p) : Calls Tryz.prog 102 #[.pointer (some ⟨bs, 0, none⟩), .slice la lN lc] W (HdRel O W bs (btR s t L)) := by
  obtain ⟨Q, hQ⟩ : ∃ Q, Q = HdRel O W bs (btR s t L) := ⟨_, rfl⟩
  rw [← hQ]
  have HQ := hid_of hQ
  have HM := hid_of h
  have HT := hid_of ht
  have HOK := hid_of hok
  have HL := hid_of hL
  have HFREE := hid_of hfree
  have HNX := hid_of hnx
  have H98 := hid_of h98
  have HP0 := hid_of hp0
  have H4 := hid_of h4
  obtain ⟨B, bi, rfl, hB, hI⟩ := h.ins t ht
  have HI := hid_of hI
  have hll : L.length = lN := hL.len
  have HLL := hid_of hll
  have c0 := h.c.c0
  have l0 : 0 < CS.length := by rw [h.c.len]; omega
  have hgl := h.gl
  clear hQ h ht hok hL hB hI hll hfree hnx h98 hp0 h4
  go_enter Tryz.func102, Tryz.ntmps102
  go_upto_region 2 with fail
  refine wp_world (fun V => W.Extends V ∧ blk V W.heap.size = some Reply.zero.enc ∧ free V W.heap.size = true ∧ V.heap.size = W.heap.size + 1) ⟨extends_alloc (ext_Ext (Ext.refl _)) _, ?_, ?_, ?_⟩ ?_
  · rw [blk_alloc, if_pos rfl]; try rfl
  · rw [free_alloc, if_pos rfl]
  · rw [World.size_alloc]
  rintro W1 ⟨hx1, hb4, hf4, hsz1⟩
  obtain ⟨O1, hO1⟩ : ∃ O1, O1 = lab O W.heap.size (.a 9 9) := ⟨_, rfl⟩
  have hF1 : Fr (fun _ => False) O W O1 W1 := by rw [hO1]; exact ⟨hx1.os, hx1.tape, hx1.output, hx1.size, fun k hk => lab_lt hk, fun k hk _ => hx1.block k hk⟩
  obtain ⟨b4, e4⟩ : ∃ b4, b4 = W.heap.size := ⟨_, rfl⟩
  rw [← e4] at hb4 hf4 ⊢
  have ho4 : O1 b4 = .a 9 9 := by rw [hO1, e4]; exact lab_ge (by omega)
  have hH1 : HC O W bs b4 O1 W1 g s CS (some ⟨bi, 0, none⟩) ia iN ic := ⟨Kp.fr hF1 (fun _ _ e => e), HM.out.frF hF1, by omega, hb4, hf4, ho4⟩
  have hfr1 : ∀ k, ¬ isI (1 - g) (O1 k) ∧ O1 k ≠ .a 0 8 := fun k => by
    rw [hO1]
    by_cases hk : k < W.heap.size
    · rw [lab_lt hk]; exact HFREE.out k
    · rw [lab_ge (by omega)]; exact ⟨isI_99 (by omega), fun e => by cases e⟩
  have hL1 : ItsC (core O1 W1) la lN L := HL.out.sub (Sub.ext (core_fr hF1 (fun e => e)))
  have hbs1 := hH1.sv.cell
  have hpc : ProgC W1 bi t.p := by
    obtain ⟨CI, bst, be, A, hm⟩ := HI.out.ext hx1
    exact ProgL.c hm.progL
  have HPC := hid_of hpc
  have HH1 := hid_of hH1
  have HFR1 := hid_of hfr1
  have HL1 := hid_of hL1
  have HBS1 := hid_of hbs1
  clear hx1 hsz1 hO1 hF1 e4 ho4 hH1 hpc hb4 hf4 hbs1 hfr1 hL1
  refine wp_loop_f 129 (b1I W1 bs b4 la lN lc t.p L) (fun f _ => lN - (intOf (f 5)).toNat) rfl ⟨rfl, rfl, rfl, 0, by omega, rfl, ⟨ext_Ext (Ext.refl _), rfl⟩⟩ ?_
  intro F V hrel
  obtain ⟨f0, f1, f4', i, hi, f5, HJ⟩ := hrel
  have H5 := hid_of f5
  rw [frame129b, f0, f1, f4', f5]
  clear f0 f1 f4' f5
  have hbs : blk V bs = some CS := (HJ.out.1.blk (blk_lt HBS1.out)).trans HBS1.out
  by_cases hin : i < lN
  · have hin' : (i : Int) < (lN : Int) := by omega
    have i0 : (0 : Int) ≤ (i : Int) := by omega
    have i2 : ((i : Int)).toNat = i := by omega
    obtain ⟨it, hit⟩ : ∃ it, L[i]? = some it := ⟨_, List.getElem?_eq_getElem (by rw [HLL.out]; exact hin)⟩
    obtain ⟨bL, CL, aa, ac, r1, r2, r3, r4, r5, r6, r7, r8⟩ := its_at ((HL1.out.sub (core_sub _ _)).ext HJ.out.1) hit
    subst r1
    have hp := HP0.out it (List.mem_of_getElem? hit)
    obtain ⟨pr, hpr⟩ : ∃ pr : Nat, it.2.1 = (pr : Int) := ⟨it.2.1.toNat, by omega⟩
    rw [hpr] at r4
    obtain ⟨al, hal⟩ : ∃ al, al = it.2.2.length := ⟨_, rfl⟩
    rw [← hal] at r4
    obtain ⟨IE, hIE⟩ : ∃ IE, IE = itemE it.1 (pr : Int) aa al ac := ⟨_, rfl⟩
    rw [← hIE] at r4
    have hcr := checkUpdate_any (W := V.drew) ((HPC.out.ext HJ.out.1).ext (extd V)) it.1 pr al aa ac
    rw [← hIE] at hcr
    obtain ⟨cd, hcd⟩ : ∃ cd, cd = cuF t.p pr al := ⟨_, rfl⟩
    rw [← hcd] at hcr
    have hck : ckL t.p (L.drop i) i = if cd ≠ 0 then some (cd, i) else ckL t.p (L.drop (i + 1)) (i + 1) := by
      have e9 : L.drop i = it :: L.drop (i + 1) := dropA_at hit
      have e10 : it.2.1.toNat = pr := by rw [hpr]; rfl
      rw [e9]
      show (if cuF t.p it.2.1.toNat it.2.2.length ≠ 0 then some (cuF t.p it.2.1.toNat it.2.2.length, i) else ckL t.p (L.drop (i + 1)) (i + 1)) = _
      rw [e10, ← hal, ← hcd]
    have HCK := hid_of hck
    have hSd : blk V.drew bs = some CS ∧ blk V.drew bL = some CL := ⟨hbs, r2⟩
    have HSS : Hid (∀ V', V.Extends V' → blk V' bs = some CS ∧ blk V' bL = some CL) := fun V' hx => ⟨(hx.blk (blk_lt hbs)).trans hbs, (hx.blk (blk_lt r2)).trans r2⟩
    clear hck hcd hIE hal hpr hp hit r5 r6 r7 r8 hbs r2
    go_upto_region 4 with fail
    refine wp_region_held_drew (S := fun W' => blk W' bs = some CS ∧ blk W' bL = some CL) (by kernel_rfl) hSd (fun hHeld => ?_)
    refine wpAnyH_take (i := 0) (oi := ⟨_, _, _, _, _, _⟩) (v := ?_) rfl (by kernel_rfl) (by kernel_rfl) (by kernel_rfl) (fun _ _ _ h => h) (Or.inl ⟨by rfl, ?_⟩) (by assumption) ?_
    rotate_left 1
    · intro W' hSw
      obtain ⟨hS1, hS2⟩ := hSw
      go_simp
      try with_reducible rfl
    try simp only [Act.put, List.setIfInBounds_toArray, List.set_cons_zero, List.set_cons_succ]
    refine wpAnyH_take (i := 1) (oi := ⟨_, _, _, _, _, _⟩) (v := ?_) rfl (by kernel_rfl) (by kernel_rfl) (by kernel_rfl) (fun _ _ _ h => h) (Or.inl ⟨by rfl, ?_⟩) (by assumption) ?_
    rotate_left 1
    · intro W' hSw
      obtain ⟨hS1, hS2⟩ := hSw
      go_simp
      try with_reducible rfl
    try simp only [Act.put, List.setIfInBounds_toArray, List.set_cons_zero, List.set_cons_succ]
    refine wpAnyH_take (i := 2) (oi := ⟨_, _, _, _, _, _⟩) (v := ?_) rfl (by kernel_rfl) (by kernel_rfl) (by kernel_rfl) (fun _ _ _ h => h) (Or.inl ⟨by rfl, ?_⟩) (by assumption) ?_
    rotate_left 1
    · intro W' hSw
      obtain ⟨hS1, hS2⟩ := hSw
      go_simp
      try with_reducible rfl
    try simp only [Act.put, List.setIfInBounds_toArray, List.set_cons_zero, List.set_cons_succ]
    refine wpAnyH_take (i := 3) (oi := ⟨_, _, _, _, _, _⟩) (v := ?_) rfl (by kernel_rfl) (by kernel_rfl) (by kernel_rfl) (fun _ _ _ h => h) (Or.inl ⟨by rfl, ?_⟩) (by assumption) ?_
    rotate_left 1
    · intro W' hSw
      obtain ⟨hS1, hS2⟩ := hSw
      go_simp
      try with_reducible rfl
    try simp only [Act.put, List.setIfInBounds_toArray, List.set_cons_zero, List.set_cons_succ]
    refine wpAnyH_take (i := 4) (oi := ⟨_, _, _, _, _, _⟩) (v := ?_) rfl (by kernel_rfl) (by kernel_rfl) (by kernel_rfl) (fun _ _ _ h => h) (Or.inl ⟨by rfl, ?_⟩) (by assumption) ?_
    rotate_left 1
    · intro W' hSw
      obtain ⟨hS1, hS2⟩ := hSw
      go_simp
      try with_reducible rfl
    try simp only [Act.put, List.setIfInBounds_toArray, List.set_cons_zero, List.set_cons_succ]
    refine wpAnyH_take (i := 5) (oi := ⟨_, _, _, _, _, _⟩) (v := ?_) rfl (by kernel_rfl) (by kernel_rfl) (by kernel_rfl) (fun _ _ _ h => h) (Or.inl ⟨by rfl, ?_⟩) (by assumption) ?_
    rotate_left 1
    · intro W' hSw
      obtain ⟨hS1, hS2⟩ := hSw
      go_simp
      try with_reducible rfl
    try simp only [Act.put, List.setIfInBounds_toArray, List.set_cons_zero, List.set_cons_succ]
    refine wpAnyH_take (i := 6) (oi := ⟨_, _, _, _, _, _⟩) (v := ?_) rfl (by kernel_rfl) (by kernel_rfl) (by kernel_rfl) (fun _ _ _ h => h) (Or.inl ⟨by rfl, ?_⟩) (by assumption) ?_
    rotate_left 1
    · intro W' hSw
      obtain ⟨hS1, hS2⟩ := hSw
      go_simp
      try with_reducible rfl
    try simp only [Act.put, List.setIfInBounds_toArray, List.set_cons_zero, List.set_cons_succ]
    refine wpAnyH_take (i := 7) (oi := ⟨_, _, _, _, _, _⟩) (v := ?_) rfl (by kernel_rfl) (by kernel_rfl) (by kernel_rfl) (fun _ _ _ h => h) (Or.inl ⟨by rfl, ?_⟩) (by assumption) ?_
    rotate_left 1
    · intro W' hSw
      obtain ⟨hS1, hS2⟩ := hSw
      go_simp
      try with_reducible rfl
    try simp only [Act.put, List.setIfInBounds_toArray, List.set_cons_zero, List.set_cons_succ]
    refine wpAnyH_ready (rs := [8]) (by kernel_rfl) (by simp) ?_
    refine AllReadyH.cons (o := ⟨_, _, _, _, _, _⟩) rfl (fun K' hK => ?_) AllReadyH.nil
    go_simp
    refine hcr.mono ?_
    rintro en V2 ⟨rfl, hx2⟩
    dsimp only
    have HX2 : Hid (V.Extends V2) := (extd V).trans hx2
    have hS2 := HSS.out V2 HX2.out
    clear hx2
    refine hK.out _ _ hS2 (fun hHeld => ?_)
    clear hK K'
    try simp only [Act.put, List.setIfInBounds_toArray, List.set_cons_zero, List.set_cons_succ]
    refine wpAnyH_take (i := 9) (oi := ⟨_, _, _, _, _, _⟩) (v := ?_) rfl (by kernel_rfl) (by kernel_rfl) (by kernel_rfl) (fun _ _ _ h => h) (Or.inl ⟨by rfl, ?_⟩) (by assumption) ?_
    rotate_left 1
    · intro W' hSw
      obtain ⟨hS1, hS2⟩ := hSw
      go_simp
      try with_reducible rfl
    try simp only [Act.put, List.setIfInBounds_toArray, List.set_cons_zero, List.set_cons_succ]
    refine wpAnyH_done (by kernel_rfl) ?_ _
    by_cases hc0 : cd = 0
    rotate_left 1
    · have HH2 := hid_of (HH1.out.ext (HJ.out.1.trans HX2.out))
      have hck2 : ckL t.p L 0 = some (cd, i) := by rw [HJ.out.2, HCK.out, if_pos hc0]
      have HCK2 := hid_of hck2
      clear hck2
      have hrf := refuseAt_any V2 cd (i : Int)
      have HRP : Hid (∀ V, V2.Extends V → Q (.returned (.agg (Reply.enc (repZ cd 4 (i : Int))).toArray)) (put V b4 (Reply.enc (repZ cd 4 (i : Int))))) := fun V hx => by
        rw [HQ.out]
        exact (HH2.out.ext hx).fin (.inl ⟨cd, i, HCK2.out, rfl, rfl⟩)
      have HB4 : Hid (blk V2 b4 = some Reply.zero.enc ∧ free V2 b4 = true) := ⟨HH2.out.rc, HH2.out.rf⟩
      have rl := Reply.length_enc (repZ cd 4 (i : Int))
      have ro := Reply.ok_enc (repZ cd 4 (i : Int))
      have rs := Reply.all_set Reply.zero (repZ cd 4 (i : Int))
      obtain ⟨RE, hRE⟩ : ∃ RE, RE = Reply.enc (repZ cd 4 (i : Int)) := ⟨_, rfl⟩
      rw [← hRE] at hrf HRP rl ro rs
      clear hRE
      have hcb : (cd != 0) = true := by simp [hc0]
      clear hc0
      go_wp2_with fail
      refine hrf.mono ?_
      rintro e Vr ⟨rfl, hxr⟩
      have hb4 := (hxr.blk (blk_lt HB4.out.1)).trans HB4.out.1
      have hf4 := (free_of_heap (hxr.block b4 (blk_lt HB4.out.1))).trans HB4.out.2
      have HP := hid_of (HRP.out Vr hxr)
      clear hrf hxr HRP
      dsimp only
      go_wp2_with fail
      refine ret_cell (C := RE) rfl rfl ?_ (by kernel_rfl) (by rw [rl]; kernel_rfl) rfl HP.out
      first | (rw [blk_put, if_pos rfl, hb4]; rfl) | (simp only [blk_put, if_true, hb4, Option.map_some]; try rfl)
    subst hc0
    have HJ' : Hid (W1.Extends V2 ∧ ckL t.p L 0 = ckL t.p (L.drop (i + 1)) (i + 1)) := ⟨HJ.out.1.trans HX2.out, by rw [HJ.out.2, HCK.out, if_neg (fun e => e rfl)]⟩
    clear hcr hSd hS2 HX2 HSS HJ HCK
    go_wp2_with fail
    refine ⟨rfl, rfl, ⟨rfl, rfl, rfl, i + 1, by omega, ?_, HJ'⟩, ?_⟩
    · show Value.int .i64 _ = _
      go_num
    · show lN - (intOf (Value.int .i64 _)).toNat < lN - (intOf (F 5)).toNat
      rw [H5.out]
      simp [intOf]; omega
  have hin' : ¬ (i : Int) < (lN : Int) := by omega
  have hck : ckL t.p L 0 = none := by
    rw [HJ.out.2, List.drop_eq_nil_of_le (by rw [HLL.out]; omega)]
    rfl
  have HCK := hid_of hck
  have HH2 := hid_of (HH1.out.ext HJ.out.1)
  have HMK := hid_of (makeRoom_any HH2.out.sv HT.out HOK.out hlv h252 HFR1.out la lN lc L (HL1.out.sub (Sub.ext (core_ext HJ.out.1))) hln H4.out)
  have HL2 : Hid (ItsC (core O1 V) la lN L) := HL1.out.sub (Sub.ext (core_ext HJ.out.1))
  clear hck hbs c0 l0
  go_wp2_with fail
  refine HMK.out.mono ?_
  rintro e V4 ⟨mc, t1, co, O4, g4, rfl, hMr, hK4, ⟨CS4, ip4, ia4, iN4, ic4, hS4⟩, hfr4⟩
  dsimp only
  have HH4 := hid_of (HH2.out.room hK4 hS4)
  have HL4 : Hid (ItsC (core O4 V4) la lN L) := HL2.out.sub hK4.sub
  have HMR := hid_of hMr
  clear HMK HH1 HH2 HL1 HL2 HPC HBS1 HJ H5 hK4 hS4 hfr4 hMr HFR1 HFREE
  by_cases hc1 : mc = 0
  rotate_left 1
  · have hrf := refuse_any V4 4 mc
    have HRP : Hid (∀ V, V4.Extends V → Q (.returned (.agg (Reply.enc (repZ mc 4 (-1))).toArray)) (put V b4 (Reply.enc (repZ mc 4 (-1))))) := fun V hx => by
      rw [HQ.out]
      exact (HH4.out.ext hx).fin (.inr ⟨HCK.out, mc, t1, co, HMR.out, .inl ⟨hc1, rfl, rfl⟩⟩)
    have HB4 : Hid (blk V4 b4 = some Reply.zero.enc ∧ free V4 b4 = true) := ⟨HH4.out.rc, HH4.out.rf⟩
    have rl := Reply.length_enc (repZ mc 4 (-1))
    have ro := Reply.ok_enc (repZ mc 4 (-1))
    have rs := Reply.all_set Reply.zero (repZ mc 4 (-1))
    obtain ⟨RE, hRE⟩ : ∃ RE, RE = Reply.enc (repZ mc 4 (-1)) := ⟨_, rfl⟩
    rw [← hRE] at hrf HRP rl ro rs
    clear hRE
    have hcb : (mc != 0) = true := by simp [hc1]
    clear hc1
    go_wp2_with fail
    refine hrf.mono ?_
    rintro e Vr ⟨rfl, hxr⟩
    have hb4 := (hxr.blk (blk_lt HB4.out.1)).trans HB4.out.1
    have hf4 := (free_of_heap (hxr.block b4 (blk_lt HB4.out.1))).trans HB4.out.2
    have HP := hid_of (HRP.out Vr hxr)
    clear hrf hxr HRP
    dsimp only
    go_wp2_with fail
    refine ret_cell (C := RE) rfl rfl ?_ (by kernel_rfl) (by rw [rl]; kernel_rfl) rfl HP.out
    first | (rw [blk_put, if_pos rfl, hb4]; rfl) | (simp only [blk_put, if_true, hb4, Option.map_some]; try rfl)
  subst hc1
  have HOK1 := hid_of (HNX.out 0 t1 co HCK.out HMR.out)
  have hgl4 : g4 < 2 := HH4.out.sv.gl
  have HKEEP : Hid (∀ Ox V, HC O W bs b4 Ox V g4 (s.roomy t1 co) CS4 ip4 ia4 iN4 ic4 → True) := fun _ _ _ => trivial
  clear HKEEP
  obtain ⟨B4, bi4, eip4, hB4, hI4⟩ := HH4.out.sv.ins t1 rfl
  subst eip4
  clear hB4 hI4
  have hmk := make173 V4 lN hln
  have hmd : ∃ Ox N' cs, Bt2 O W bs b4 g4 s t1 co CS4 (some ⟨bi4, 0, none⟩) ia4 iN4 ic4 V4.heap.size la lN L 0 (some ⟨V4.heap.size, 0, none⟩) 0 lN Ox (V4.alloc (.cells (madeCells Change.zero.enc.toArray (lN * 6)) 248)) N' cs := by
    have hxa : V4.Extends (V4.alloc (.cells (madeCells Change.zero.enc.toArray (lN * 6)) 248)) := extends_alloc (ext_Ext (Ext.refl _)) _
    refine ⟨lab O4 V4.heap.size (.a 9 8), t1.N, [], HH4.out.grow hxa _, ⟨World.ownsRow_made V4 _ lN (Nat.le_refl _) (by simp only [maxLen]; omega) ?_, fun k hk => ?_⟩, rfl, Nat.le_refl _, HL4.out.sub (Sub.ext (core_new hxa _)), (fun ch h => by cases h), HOK1.out.1.nl, hxa.size⟩
    · simp [madeCells]
    · cases hk
      exact lab_ge (Nat.le_refl _)
  have HMD := hid_of hmd
  clear hmd
  have HLO : Hid (W.heap.size ≤ V4.heap.size) := HH4.out.kp.size
  clear HH4 HL4
  go_upto_region 12 with fail
  refine wp_loop_f 129 (b2I O W bs b4 g4 s t1 co CS4 (some ⟨bi4, 0, none⟩) ia4 iN4 ic4 V4.heap.size la lN lc L) (fun f _ => lN - (intOf (f 9)).toNat) rfl ⟨rfl, rfl, rfl, rfl, 0, _, 0, _, by omega, by omega, rfl, rfl, HMD⟩ ?_
  clear HMD hmk
  intro F V3 hrel
  obtain ⟨f0, f1, f4', f7, i, a, n, c, hi, hn, f8, f9, HJ⟩ := hrel
  have H9 := hid_of f9
  rw [frame129b, f0, f1, f4', f7, f8, f9]
  clear f0 f1 f4' f7 f8 f9
  obtain ⟨O3, N3, cs, hH3, hRow, hfold, hni, hL3, hch, hN3, hB3⟩ := HJ.out
  have HH3 := hid_of hH3
  have HROW := hid_of hRow
  have HFO := hid_of hfold
  have HL3 := hid_of hL3
  have HCH := hid_of hch
  have HN3 := hid_of hN3
  have HB3 := hid_of hB3
  have hbs := hH3.sv.cell
  have c0 := hH3.sv.c.c0
  have l0 : 0 < CS4.length := by rw [hH3.sv.c.len]; omega
  clear HJ hH3 hRow hfold hL3 hch hN3 hB3
  by_cases hin : i < lN
  rotate_left 1
  · have hin' : ¬ (i : Int) < (lN : Int) := by omega
    have hBF : btF t1.N L = (0, N3, cs) := by
      have h9 := HFO.out
      rw [List.take_of_length_le (by rw [HLL.out]; omega)] at h9
      exact h9
    have HBF := hid_of hBF
    have hlow := lower_any HH3.out.sv.cell HH3.out.sv.fre HH3.out.sv.c.len HH3.out.sv.c.c3 hcl.1 (by show s.calls ≤ 1000; omega) 4
    clear hBF hbs c0 l0
    go_wp2_with fail
    refine hlow.mono ?_
    rintro e V6 ⟨rfl, hOn⟩
    dsimp only
    obtain ⟨hFl, hH6⟩ := HH3.out.low 4 hOn
    obtain ⟨CS6, hCS6⟩ : ∃ CS6, CS6 = splice (splice CS4 2 [.int .i64 4]) 3 [.int .i64 ((s.roomy (t1.tab N3) co).calls + 1)] := ⟨_, rfl⟩
    rw [← hCS6] at hH6
    have hR6 := HROW.out.fr hFl (isV_98 hgl4)
    have hRw := (hR6.rw Change.length_enc).1
    have hncs : n = cs.length := hRw.1.symm
    obtain ⟨B6, bi6, eip, hB6, hI6⟩ := hH6.sv.ins _ rfl
    have ebi : bi4 = bi6 := congrArg Addr.block (Option.some.inj eip)
    subst ebi
    have HH6 : Hid (HC O W bs b4 O3 V6 g4 ((s.roomy t1 co).low (t1.tab N3) 4) CS6 (some ⟨bi4, 0, none⟩) ia4 iN4 ic4) := hH6
    have HR6 := hid_of hR6
    have HNC := hid_of hncs
    have hbs := hH6.sv.cell
    have d0 := hH6.sv.c.c0
    have d0l : 0 < CS6.length := by rw [hH6.sv.c.len]; omega
    obtain ⟨CI, bst, be, A, hm6⟩ := hI6
    have hbi := hm6.cell
    have ci5 := hm6.ic.c5
    have cil : 5 < CI.length := by rw [hm6.ic.len]; omega
    have hed := ebatch_any hm6.eng hm6.ego (ProgL.c hm6.progL) HOK1.out.1.pok hm6.st HOK1.out.1.inv HOK1.out.1.cap a n c cs hRw (by omega) HCH.out
    have HMI := hid_of hm6
    have HB6 := hid_of hB6
    clear hlow hOn hFl hH6 hCS6 HH3 HROW hR6 hRw hncs hB6 hm6 eip HL3 HFO HB3 HN3
    go_wp2_with fail
    refine hed.mono ?_
    rintro en V8 ⟨code, ix, R', rfl, hBt, O8, hF8, hS8⟩
    dsimp only
    have hm8 := HMI.out.sto hF8 hS8
    have hFI : Fr (isI g4) O3 V6 O8 V8 := hF8.mono (fun l e => isI_S e)
    have hsz8 := hFI.size
    have HH8 : Hid (HC O W bs b4 O8 V8 g4 ((s.roomy t1 co).low ((t1.tab N3).rel R') 4) CS6 (some ⟨bi4, 0, none⟩) ia4 iN4 ic4) := HH6.out.fr (fr_VI hFI) (HH6.out.sv.swap hFI (Nat.le_trans HB6.out hsz8) ⟨_, _, _, _, hm8⟩)
    have HR8 : Hid (RowL V4.heap.size O8 (.a 9 8) V8 248 6 (.slice a n c) cs.length (cs.flatMap Change.enc)) := HR6.out.fr hFI (isI_98 hgl4)
    have HBT : Hid (BatR t1.p t1.R cs code ix R') := hBt
    clear hed hF8 hS8 hm8 hFI hBt hbs hbi HH6 HR6 HMI d0 d0l
    by_cases hc3 : code = 0
    rotate_left 1
    · have eR : R' = t1.R := (HBT.out.inv HOK1.out.1.inv HOK1.out.1.cap).2.2 hc3
      have HH8b : Hid (HC O W bs b4 O8 V8 g4 ((s.roomy t1 co).low (t1.tab N3) 4) CS6 (some ⟨bi4, 0, none⟩) ia4 iN4 ic4) := by
        have h9 := HH8.out
        rw [eR] at h9
        exact h9
      have hrf := refuseAt_any V8 code ix
      have HRP : Hid (∀ V, V8.Extends V → Q (.returned (.agg (Reply.enc (repZ code 4 ix)).toArray)) (put V b4 (Reply.enc (repZ code 4 ix)))) := fun V hx => by
        rw [HQ.out]
        exact (HH8b.out.ext hx).fin (.inr ⟨HCK.out, 0, t1, co, HMR.out, .inr ⟨rfl, .inr ⟨by rw [HBF.out], code, ix, R', by rw [HBF.out]; exact HBT.out, .inl ⟨hc3, rfl, by rw [HBF.out]⟩⟩⟩⟩)
      have HB4 : Hid (blk V8 b4 = some Reply.zero.enc ∧ free V8 b4 = true) := ⟨HH8b.out.rc, HH8b.out.rf⟩
      have rl := Reply.length_enc (repZ code 4 ix)
      have ro := Reply.ok_enc (repZ code 4 ix)
      have rs := Reply.all_set Reply.zero (repZ code 4 ix)
      obtain ⟨RE, hRE⟩ : ∃ RE, RE = Reply.enc (repZ code 4 ix) := ⟨_, rfl⟩
      rw [← hRE] at hrf HRP rl ro rs
      clear hRE
      have hcb : (code != 0) = true := by simp [hc3]
      clear hc3 eR
      go_wp2_with fail
      refine hrf.mono ?_
      rintro e Vr ⟨rfl, hxr⟩
      have hb4 := (hxr.blk (blk_lt HB4.out.1)).trans HB4.out.1
      have hf4 := (free_of_heap (hxr.block b4 (blk_lt HB4.out.1))).trans HB4.out.2
      have HP := hid_of (HRP.out Vr hxr)
      clear hrf hxr HRP
      dsimp only
      go_wp2_with fail
      refine ret_cell (C := RE) rfl rfl ?_ (by kernel_rfl) (by rw [rl]; kernel_rfl) rfl HP.out
      first | (rw [blk_put, if_pos rfl, hb4]; rfl) | (simp only [blk_put, if_true, hb4, Option.map_some]; try rfl)
    subst hc3
    have HTK : Hid (∀ ch ∈ cs, TOk ch.t) := HBT.out.tok (basR_inv HOK1.out.1.inv) HCH.out
    have HJ0 : Hid (∃ Ox, HC O W bs b4 Ox V8 g4 ((s.roomy t1 co).low ((cs.take 0).foldl setS ((t1.tab N3).rel R')) 4) CS6 (some ⟨bi4, 0, none⟩) ia4 iN4 ic4 ∧ RowL V4.heap.size Ox (.a 9 8) V8 248 6 (.slice a n c) cs.length (cs.flatMap Change.enc) ∧ UB (M + 4 * ((0 : Nat) : Int)) ((cs.take 0).foldl setS ((t1.tab N3).rel R'))) := ⟨O8, HH8.out, HR8.out, by
      have h9 := HOK1.out.2.1
      have e9 : M + 4 * ((0 : Nat) : Int) = M := by omega
      rw [e9]; exact h9⟩
    obtain ⟨t2, ht2⟩ : ∃ t2, t2 = (t1.tab N3).rel R' := ⟨_, rfl⟩
    rw [← ht2] at HJ0
    have HT2 := hid_of ht2
    clear ht2 HH8 HR8
    go_upto_region 26 with fail
    refine wp_loop_f 129 (b3I O W bs b4 g4 (s.roomy t1 co) t2 CS6 (some ⟨bi4, 0, none⟩) ia4 iN4 ic4 M V4.heap.size a n c cs) (fun f _ => n - (intOf (f 12)).toNat) rfl ⟨rfl, rfl, rfl, 0, by omega, rfl, HJ0⟩ ?_
    clear HJ0
    intro F2 V3' hrel
    obtain ⟨f0, f4', f8, j, hj, f12, HJ⟩ := hrel
    have H12 := hid_of f12
    rw [frame129b, f0, f4', f8, f12]
    clear f0 f4' f8 f12
    obtain ⟨O9, hH9, hR9, hU9⟩ := HJ.out
    have hbs := hH9.sv.cell
    have d0 := hH9.sv.c.c0
    have d0l : 0 < CS6.length := by rw [hH9.sv.c.len]; omega
    have HH9 := hid_of hH9
    have HR9 := hid_of hR9
    have HU9 := hid_of hU9
    clear HJ hH9 hR9 hU9
    by_cases hjn : j < n
    rotate_left 1
    · have hjn' : ¬ (j : Int) < (n : Int) := by omega
      have HH9b : Hid (HC O W bs b4 O9 V3' g4 ((s.roomy t1 co).low (cs.foldl setS ((t1.tab N3).rel R')) 4) CS6 (some ⟨bi4, 0, none⟩) ia4 iN4 ic4) := by
        have h9 := HH9.out
        rw [List.take_of_length_le (by rw [← HNC.out]; omega), HT2.out] at h9
        exact h9
      clear HU9 HR9
      have hrf := accept_any V3' 4
      have HRP : Hid (∀ V, V3'.Extends V → Q (.returned (.agg (Reply.enc (repZ 0 4 (-1))).toArray)) (put V b4 (Reply.enc (repZ 0 4 (-1))))) := fun V hx => by
        rw [HQ.out]
        exact (HH9b.out.ext hx).fin (.inr ⟨HCK.out, 0, t1, co, HMR.out, .inr ⟨rfl, .inr ⟨by rw [HBF.out], 0, ix, R', by rw [HBF.out]; exact HBT.out, .inr ⟨rfl, rfl, by rw [HBF.out]⟩⟩⟩⟩)
      have HB4 : Hid (blk V3' b4 = some Reply.zero.enc ∧ free V3' b4 = true) := ⟨HH9b.out.rc, HH9b.out.rf⟩
      have rl := Reply.length_enc (repZ 0 4 (-1))
      have ro := Reply.ok_enc (repZ 0 4 (-1))
      have rs := Reply.all_set Reply.zero (repZ 0 4 (-1))
      obtain ⟨RE, hRE⟩ : ∃ RE, RE = Reply.enc (repZ 0 4 (-1)) := ⟨_, rfl⟩
      rw [← hRE] at hrf HRP rl ro rs
      clear hRE
      go_wp2_with fail
      refine hrf.mono ?_
      rintro e Vr ⟨rfl, hxr⟩
      have hb4 := (hxr.blk (blk_lt HB4.out.1)).trans HB4.out.1
      have hf4 := (free_of_heap (hxr.block b4 (blk_lt HB4.out.1))).trans HB4.out.2
      have HP := hid_of (HRP.out Vr hxr)
      clear hrf hxr HRP
      dsimp only
      go_wp2_with fail
      refine ret_cell (C := RE) rfl rfl ?_ (by kernel_rfl) (by rw [rl]; kernel_rfl) rfl HP.out
      first | (rw [blk_put, if_pos rfl, hb4]; rfl) | (simp only [blk_put, if_true, hb4, Option.map_some]; try rfl)
    have hjn' : (j : Int) < (n : Int) := by omega
    have j0 : (0 : Int) ≤ (j : Int) := by omega
    have j2 : ((j : Int)).toNat = j := by omega
    obtain ⟨ch, hch⟩ : ∃ ch, cs[j]? = some ch := ⟨_, List.getElem?_eq_getElem (by rw [← HNC.out]; exact hjn)⟩
    obtain ⟨bc, Cc, r1, r2, r3, r4, r5⟩ := Change_seg (HR9.out.rw Change.length_enc).1 hch
    subst r1
    have hk1 := HCH.out ch (List.mem_of_getElem? hch)
    have hk2 := HTK.out ch (List.mem_of_getElem? hch)
    have hp4 := (setsS_p (cs.take j) t2).1
    have hp5 : t2.p = t1.p := by rw [HT2.out]; rfl
    have hq9 : ch.pred.toNat < ((cs.take j).foldl setS t2).p.preds.length := by rw [hp4, hp5]; exact hk1.2.1
    obtain ⟨B9, bi9, eip9, hB9, hI9⟩ := HH9.out.sv.ins _ rfl
    have ebi9 : bi4 = bi9 := congrArg Addr.block (Option.some.inj eip9)
    subst ebi9
    have hst := settleI_any (W := V3'.drew) (hI9.ext (extd V3')) (by rw [hp4, hp5]; exact HOK1.out.1.pok) HU9.out (by omega) ch ch.pred.toNat (by have := hk1.1; omega) hq9 hk2
    have hnx : (cs.take (j + 1)).foldl setS t2 = setS ((cs.take j).foldl setS t2) ch := by rw [take_at hch, List.foldl_append]; rfl
    have hub := HU9.out.set hk2 (by rw [hp4, hp5]; exact (pI_ar HOK1.out.1.pok hk1.2.1).2)
    rw [← hnx] at hst hub
    have HUB := hid_of hub
    have HB9 := hid_of hB9
    have hSd : blk V3'.drew bs = some CS6 ∧ blk V3'.drew bc = some Cc := ⟨hbs, r2⟩
    have hobc : O9 bc = .a 9 8 := HR9.out.2 bc rfl
    have HOBC := hid_of hobc
    clear hch hk1 hk2 hp4 hp5 hq9 hnx hub hB9 hI9 eip9 hobc
    go_upto_region 28 with fail
    refine wp_region_held_drew (S := fun W' => blk W' bs = some CS6 ∧ blk W' bc = some Cc) (by kernel_rfl) hSd (fun hHeld => ?_)
    refine wpAnyH_take (i := 0) (oi := ⟨_, _, _, _, _, _⟩) (v := ?_) rfl (by kernel_rfl) (by kernel_rfl) (by kernel_rfl) (fun _ _ _ h => h) (Or.inl ⟨by rfl, ?_⟩) (by assumption) ?_
    rotate_left 1
    · intro W' hSw
      obtain ⟨hS1, hS2⟩ := hSw
      go_simp
      try with_reducible rfl
    try simp only [Act.put, List.setIfInBounds_toArray, List.set_cons_zero, List.set_cons_succ]
    refine wpAnyH_take (i := 1) (oi := ⟨_, _, _, _, _, _⟩) (v := ?_) rfl (by kernel_rfl) (by kernel_rfl) (by kernel_rfl) (fun _ _ _ h => h) (Or.inl ⟨by rfl, ?_⟩) (by assumption) ?_
    rotate_left 1
    · intro W' hSw
      obtain ⟨hS1, hS2⟩ := hSw
      go_simp
      try with_reducible rfl
    try simp only [Act.put, List.setIfInBounds_toArray, List.set_cons_zero, List.set_cons_succ]
    refine wpAnyH_take (i := 2) (oi := ⟨_, _, _, _, _, _⟩) (v := ?_) rfl (by kernel_rfl) (by kernel_rfl) (by kernel_rfl) (fun _ _ _ h => h) (Or.inl ⟨by rfl, ?_⟩) (by assumption) ?_
    rotate_left 1
    · intro W' hSw
      obtain ⟨hS1, hS2⟩ := hSw
      go_simp
      try with_reducible rfl
    try simp only [Act.put, List.setIfInBounds_toArray, List.set_cons_zero, List.set_cons_succ]
    refine wpAnyH_take (i := 3) (oi := ⟨_, _, _, _, _, _⟩) (v := ?_) rfl (by kernel_rfl) (by kernel_rfl) (by kernel_rfl) (fun _ _ _ h => h) (Or.inl ⟨by rfl, ?_⟩) (by assumption) ?_
    rotate_left 1
    · intro W' hSw
      obtain ⟨hS1, hS2⟩ := hSw
      go_simp
      try with_reducible rfl
    try simp only [Act.put, List.setIfInBounds_toArray, List.set_cons_zero, List.set_cons_succ]
    refine wpAnyH_take (i := 4) (oi := ⟨_, _, _, _, _, _⟩) (v := ?_) rfl (by kernel_rfl) (by kernel_rfl) (by kernel_rfl) (fun _ _ _ h => h) (Or.inl ⟨by rfl, ?_⟩) (by assumption) ?_
    rotate_left 1
    · intro W' hSw
      obtain ⟨hS1, hS2⟩ := hSw
      go_simp
      try with_reducible rfl
    try simp only [Act.put, List.setIfInBounds_toArray, List.set_cons_zero, List.set_cons_succ]
    refine wpAnyH_take (i := 5) (oi := ⟨_, _, _, _, _, _⟩) (v := ?_) rfl (by kernel_rfl) (by kernel_rfl) (by kernel_rfl) (fun _ _ _ h => h) (Or.inl ⟨by rfl, ?_⟩) (by assumption) ?_
    rotate_left 1
    · intro W' hSw
      obtain ⟨hS1, hS2⟩ := hSw
      go_simp
      try with_reducible rfl
    try simp only [Act.put, List.setIfInBounds_toArray, List.set_cons_zero, List.set_cons_succ]
    refine wpAnyH_take (i := 6) (oi := ⟨_, _, _, _, _, _⟩) (v := ?_) rfl (by kernel_rfl) (by kernel_rfl) (by kernel_rfl) (fun _ _ _ h => h) (Or.inl ⟨by rfl, ?_⟩) (by assumption) ?_
    rotate_left 1
    · intro W' hSw
      obtain ⟨hS1, hS2⟩ := hSw
      go_simp
      try with_reducible rfl
    try simp only [Act.put, List.setIfInBounds_toArray, List.set_cons_zero, List.set_cons_succ]
    refine wpAnyH_take (i := 7) (oi := ⟨_, _, _, _, _, _⟩) (v := ?_) rfl (by kernel_rfl) (by kernel_rfl) (by kernel_rfl) (fun _ _ _ h => h) (Or.inl ⟨by rfl, ?_⟩) (by assumption) ?_
    rotate_left 1
    · intro W' hSw
      obtain ⟨hS1, hS2⟩ := hSw
      go_simp
      try with_reducible rfl
    try simp only [Act.put, List.setIfInBounds_toArray, List.set_cons_zero, List.set_cons_succ]
    refine wpAnyH_ready (rs := [8]) (by kernel_rfl) (by simp) ?_
    refine AllReadyH.cons (o := ⟨_, _, _, _, _, _⟩) rfl (fun K' hK => ?_) AllReadyH.nil
    go_simp
    refine hst.mono ?_
    rintro en V10 ⟨rfl, hIo⟩
    dsimp only
    have hS10 : blk V10 bs = some CS6 ∧ blk V10 bc = some Cc := by
      obtain ⟨O10, hF10, -⟩ := hIo
      have hFJ : Fr (isI g4) O9 V3' O10 V10 := (Fr.of_extends (L := isI g4) (extd V3')).trans hF10
      exact ⟨hFJ.blk hbs (by rw [HH9.out.sv.own]; exact isI_0 g4), hFJ.blk r2 (by rw [HOBC.out]; exact isI_98 hgl4)⟩
    refine hK.out _ _ hS10 (fun hHeld => ?_)
    clear hK K'
    try simp only [Act.put, List.setIfInBounds_toArray, List.set_cons_zero, List.set_cons_succ]
    refine wpAnyH_done (by kernel_rfl) ?_ _
    obtain ⟨O10, hF10, hI10⟩ := hIo
    have hFJ : Fr (isI g4) O9 V3' O10 V10 := (Fr.of_extends (L := isI g4) (extd V3')).trans hF10
    have HJ' : Hid (∃ Ox, HC O W bs b4 Ox V10 g4 ((s.roomy t1 co).low ((cs.take (j + 1)).foldl setS t2) 4) CS6 (some ⟨bi4, 0, none⟩) ia4 iN4 ic4 ∧ RowL V4.heap.size Ox (.a 9 8) V10 248 6 (.slice (some ⟨bc, 0, none⟩) n c) cs.length (cs.flatMap Change.enc) ∧ UB (M + 4 * ((j + 1 : Nat) : Int)) ((cs.take (j + 1)).foldl setS t2)) := ⟨O10, HH9.out.fr (fr_VI hFJ) (HH9.out.sv.swap hFJ (Nat.le_trans HB9.out hFJ.size) hI10), HR9.out.fr hFJ (isI_98 hgl4), by
      have h9 := HUB.out
      have e9 : M + 4 * ((j + 1 : Nat) : Int) = M + 4 * (j : Int) + 4 := by omega
      rw [e9]; exact h9⟩
    clear hst hF10 hI10 hFJ HUB HH9 HR9 HU9 hSd hS10 r2
    try dsimp only
    go_wp2_with fail
    refine ⟨rfl, rfl, ⟨rfl, rfl, rfl, j + 1, by omega, ?_, HJ'⟩, ?_⟩
    · show Value.int .i64 _ = _
      go_num
    · show n - (intOf (Value.int .i64 _)).toNat < n - (intOf (F2 12)).toNat
      rw [H12.out]
      simp [intOf]; omega
  have hin' : (i : Int) < (lN : Int) := by omega
  have i0 : (0 : Int) ≤ (i : Int) := by omega
  have i2 : ((i : Int)).toNat = i := by omega
  obtain ⟨it, hit⟩ : ∃ it, L[i]? = some it := ⟨_, List.getElem?_eq_getElem (by rw [HLL.out]; exact hin)⟩
  obtain ⟨bL, CL, aa, ac, r1, r2, r3, r4, r5, r6, r7, r8⟩ := its_at HL3.out hit
  subst r1
  have hoL := (core_blk r2).2
  have hbL := (core_blk r2).1
  have hp := HP0.out it (List.mem_of_getElem? hit)
  obtain ⟨pr, hpr⟩ : ∃ pr : Nat, it.2.1 = (pr : Int) := ⟨it.2.1.toNat, by omega⟩
  have hcu : cuF t.p pr it.2.2.length = 0 := by
    have h9 := ckL_none HCK.out it (List.mem_of_getElem? hit)
    have e10 : it.2.1.toNat = pr := by rw [hpr]; rfl
    rw [e10] at h9
    exact h9
  have hpp : pr < t1.p.preds.length := by
    rw [HOK1.out.2.2]
    unfold cuF at hcu
    by_cases e : t.p.preds.length ≤ pr
    · rw [if_pos e] at hcu; cases hcu
    · omega
  rw [hpr] at r6
  have hal4 := H4.out it (List.mem_of_getElem? hit)
  obtain ⟨args, hargs⟩ : ∃ args, args = it.2.2 := ⟨_, rfl⟩
  rw [← hargs] at r7 r8 hal4
  obtain ⟨al, hal⟩ : ∃ al, al = args.length := ⟨_, rfl⟩
  rw [← hal] at r7 r8 hal4
  obtain ⟨d, hd⟩ : ∃ d, d = it.1 := ⟨_, rfl⟩
  rw [← hd] at r5
  have HIT : Hid (it = (d, (pr : Int), args)) := by
    obtain ⟨x, y, z⟩ := it
    dsimp only at hd hpr hargs
    show _ = _
    rw [hd, hpr, hargs]
  have HI := hid_of hit
  have HAL := hid_of hal
  have HPP := hid_of hpp
  have HR8 := hid_of r8
  have HOL := hid_of hoL
  have q0 : i * 3 < CL.length := by omega
  have q1 : i * 3 + 1 < CL.length := by omega
  have q2 : i * 3 + 2 < CL.length := by omega
  have hSd : blk V3.drew bs = some CS4 ∧ blk V3.drew bL = some CL := ⟨hbs, hbL⟩
  have HBL : Hid (blk V3 bL = some CL) := hbL
  clear r4 hp hpr hcu hargs hal hd hit hpp r8 hoL r2 hbL hbs r3
  go_upto_region 14 with fail
  refine wp_region_held_drew (S := fun W' => blk W' bs = some CS4 ∧ blk W' bL = some CL) (by kernel_rfl) hSd (fun hHeld => ?_)
  refine wpAnyH_take (i := 0) (oi := ⟨_, _, _, _, _, _⟩) (v := ?_) rfl (by kernel_rfl) (by kernel_rfl) (by kernel_rfl) (fun _ _ _ h => h) (Or.inl ⟨by rfl, ?_⟩) (by assumption) ?_
  rotate_left 1
  · intro W' hSw
    obtain ⟨hS1, hS2⟩ := hSw
    go_simp
    try with_reducible rfl
  try simp only [Act.put, List.setIfInBounds_toArray, List.set_cons_zero, List.set_cons_succ]
  refine wpAnyH_take (i := 1) (oi := ⟨_, _, _, _, _, _⟩) (v := ?_) rfl (by kernel_rfl) (by kernel_rfl) (by kernel_rfl) (fun _ _ _ h => h) (Or.inl ⟨by rfl, ?_⟩) (by assumption) ?_
  rotate_left 1
  · intro W' hSw
    obtain ⟨hS1, hS2⟩ := hSw
    go_simp
    try with_reducible rfl
  try simp only [Act.put, List.setIfInBounds_toArray, List.set_cons_zero, List.set_cons_succ]
  refine wpAnyH_take (i := 2) (oi := ⟨_, _, _, _, _, _⟩) (v := ?_) rfl (by kernel_rfl) (by kernel_rfl) (by kernel_rfl) (fun _ _ _ h => h) (Or.inl ⟨by rfl, ?_⟩) (by assumption) ?_
  rotate_left 1
  · intro W' hSw
    obtain ⟨hS1, hS2⟩ := hSw
    go_simp
    try with_reducible rfl
  try simp only [Act.put, List.setIfInBounds_toArray, List.set_cons_zero, List.set_cons_succ]
  refine wpAnyH_take (i := 3) (oi := ⟨_, _, _, _, _, _⟩) (v := ?_) rfl (by kernel_rfl) (by kernel_rfl) (by kernel_rfl) (fun _ _ _ h => h) (Or.inl ⟨by rfl, ?_⟩) (by assumption) ?_
  rotate_left 1
  · intro W' hSw
    obtain ⟨hS1, hS2⟩ := hSw
    go_simp
    try with_reducible rfl
  try simp only [Act.put, List.setIfInBounds_toArray, List.set_cons_zero, List.set_cons_succ]
  refine wpAnyH_take (i := 4) (oi := ⟨_, _, _, _, _, _⟩) (v := ?_) rfl (by kernel_rfl) (by kernel_rfl) (by kernel_rfl) (fun _ _ _ h => h) (Or.inl ⟨by rfl, ?_⟩) (by assumption) ?_
  rotate_left 1
  · intro W' hSw
    obtain ⟨hS1, hS2⟩ := hSw
    go_simp
    try with_reducible rfl
  try simp only [Act.put, List.setIfInBounds_toArray, List.set_cons_zero, List.set_cons_succ]
  refine wpAnyH_take (i := 5) (oi := ⟨_, _, _, _, _, _⟩) (v := ?_) rfl (by kernel_rfl) (by kernel_rfl) (by kernel_rfl) (fun _ _ _ h => h) (Or.inl ⟨by rfl, ?_⟩) (by assumption) ?_
  rotate_left 1
  · intro W' hSw
    obtain ⟨hS1, hS2⟩ := hSw
    go_simp
    try with_reducible rfl
  try simp only [Act.put, List.setIfInBounds_toArray, List.set_cons_zero, List.set_cons_succ]
  refine wpAnyH_take (i := 6) (oi := ⟨_, _, _, _, _, _⟩) (v := ?_) rfl (by kernel_rfl) (by kernel_rfl) (by kernel_rfl) (fun _ _ _ h => h) (Or.inl ⟨by rfl, ?_⟩) (by assumption) ?_
  rotate_left 1
  · intro W' hSw
    obtain ⟨hS1, hS2⟩ := hSw
    go_simp
    try with_reducible rfl
  try simp only [Act.put, List.setIfInBounds_toArray, List.set_cons_zero, List.set_cons_succ]
  refine wpAnyH_take (i := 7) (oi := ⟨_, _, _, _, _, _⟩) (v := ?_) rfl (by kernel_rfl) (by kernel_rfl) (by kernel_rfl) (fun _ _ _ h => h) (Or.inl ⟨by rfl, ?_⟩) (by assumption) ?_
  rotate_left 1
  · intro W' hSw
    obtain ⟨hS1, hS2⟩ := hSw
    go_simp
    try with_reducible rfl
  try simp only [Act.put, List.setIfInBounds_toArray, List.set_cons_zero, List.set_cons_succ]
  refine wpAnyH_take (i := 8) (oi := ⟨_, _, _, _, _, _⟩) (v := ?_) rfl (by kernel_rfl) (by kernel_rfl) (by kernel_rfl) (fun _ _ _ h => h) (Or.inl ⟨by rfl, ?_⟩) (by assumption) ?_
  rotate_left 1
  · intro W' hSw
    obtain ⟨hS1, hS2⟩ := hSw
    go_simp
    try with_reducible rfl
  try simp only [Act.put, List.setIfInBounds_toArray, List.set_cons_zero, List.set_cons_succ]
  refine wpAnyH_take (i := 9) (oi := ⟨_, _, _, _, _, _⟩) (v := ?_) rfl (by kernel_rfl) (by kernel_rfl) (by kernel_rfl) (fun _ _ _ h => h) (Or.inl ⟨by rfl, ?_⟩) (by assumption) ?_
  rotate_left 1
  · intro W' hSw
    obtain ⟨hS1, hS2⟩ := hSw
    go_simp
    try with_reducible rfl
  try simp only [Act.put, List.setIfInBounds_toArray, List.set_cons_zero, List.set_cons_succ]
  refine wpAnyH_take (i := 10) (oi := ⟨_, _, _, _, _, _⟩) (v := ?_) rfl (by kernel_rfl) (by kernel_rfl) (by kernel_rfl) (fun _ _ _ h => h) (Or.inl ⟨by rfl, ?_⟩) (by assumption) ?_
  rotate_left 1
  · intro W' hSw
    obtain ⟨hS1, hS2⟩ := hSw
    go_simp
    try with_reducible rfl
  try simp only [Act.put, List.setIfInBounds_toArray, List.set_cons_zero, List.set_cons_succ]
  have HSA : Hid (∀ X, blk (V3.drew.alloc X) bs = some CS4 ∧ blk (V3.drew.alloc X) bL = some CL) := fun X => ⟨((extends_alloc (ext_Ext (Ext.refl V3.drew)) X).blk (blk_lt hSd.1)).trans hSd.1, ((extends_alloc (ext_Ext (Ext.refl V3.drew)) X).blk (blk_lt hSd.2)).trans hSd.2⟩
  have HSB : Hid (∀ X C, blk (put (V3.alloc X).drew V3.heap.size C) bs = some CS4 ∧ blk (put (V3.alloc X).drew V3.heap.size C) bL = some CL) := fun X C => ⟨by rw [blk_put, if_neg (by have := blk_lt hSd.1; exact fun e => absurd (e ▸ this) (Nat.lt_irrefl _))]; exact (HSA.out X).1, by rw [blk_put, if_neg (by have := blk_lt hSd.2; exact fun e => absurd (e ▸ this) (Nat.lt_irrefl _))]; exact (HSA.out X).2⟩
  refine wpAnyH_ready (rs := [11]) (by kernel_rfl) (by simp) ?_
  refine AllReadyH.cons (o := ⟨_, _, _, _, _, _⟩) rfl (fun K' hK => ?_) AllReadyH.nil
  go_simp
  refine hK.out _ _ (HSA.out _) (fun hHeld => ?_)
  clear hK K'
  try simp only [Act.put, List.setIfInBounds_toArray, List.set_cons_zero, List.set_cons_succ]
  refine wpAnyH_ready (rs := [12]) (by kernel_rfl) (by simp) ?_
  refine AllReadyH.cons (o := ⟨_, _, _, _, _, _⟩) rfl (fun K' hK => ?_) AllReadyH.nil
  go_simp
  refine hK.out _ _ (HSB.out _ _) (fun hHeld => ?_)
  clear hK K'
  try simp only [Act.put, List.setIfInBounds_toArray, List.set_cons_zero, List.set_cons_succ]
  refine wpAnyH_done (by kernel_rfl) ?_ _
  go_upto_region 15 with fail
  refine wp_world (fun V' => V3.Extends V' ∧ blk V' V3.heap.size = some (Change.enc ⟨d, (pr : Int), Vector.replicate 4 (0 : Int)⟩) ∧ free V' V3.heap.size = true ∧ V'.heap.size = V3.heap.size + 1) ⟨?_, ?_, ?_, ?_⟩ ?_
  · exact extends_put ((extends_alloc (ext_Ext (Ext.refl _)) _).trans (extd _)) (Nat.le_refl _) _
  · rw [blk_put, if_pos rfl]
    show (blk (V3.alloc _) V3.heap.size).map _ = _
    rw [blk_alloc, if_pos rfl]; rfl
  · rw [free_put]
    show free (V3.alloc _) V3.heap.size = true
    rw [free_alloc, if_pos rfl]
  · rw [size_put]
    show (V3.alloc _).heap.size = _
    rw [World.size_alloc]
  rintro V5 ⟨hx5, hb10, hf10, hsz5⟩
  obtain ⟨b10, e10⟩ : ∃ b10, b10 = V3.heap.size := ⟨_, rfl⟩
  obtain ⟨O5, hO5⟩ : ∃ O5, O5 = lab O3 V3.heap.size (.a 9 9) := ⟨_, rfl⟩
  have hF5 : Fr (fun _ => False) O3 V3 O5 V5 := by rw [hO5]; exact ⟨hx5.os, hx5.tape, hx5.output, hx5.size, fun k hk => lab_lt hk, fun k hk _ => hx5.block k hk⟩
  have ho10 : O5 b10 = .a 9 9 := by rw [hO5, e10]; exact lab_ge (Nat.le_refl _)
  rw [← e10] at hb10 hf10 ⊢
  have HH5 : Hid (HC O W bs b4 O5 V5 g4 (s.roomy (t1.tab N3) co) CS4 (some ⟨bi4, 0, none⟩) ia4 iN4 ic4) := HH3.out.fr (hF5.mono (fun _ e => e.elim)) (HH3.out.sv.frF hF5)
  have HROW5 : Hid (RowL V4.heap.size O5 (.a 9 8) V5 248 6 (.slice a n c) cs.length (cs.flatMap Change.enc)) := HROW.out.fr hF5 (fun e => e)
  have HL5 : Hid (ItsC (core O5 V5) (some ⟨bL, 0, none⟩) lN L) := HL3.out.sub (Sub.ext (core_fr hF5 (fun e => e)))
  have HR85 : Hid (Rw encS 1 (core O5 V5) aa al args) := HR8.out.sub (Sub.ext (core_fr hF5 (fun e => e)))
  have HBL5 : Hid (blk V5 bL = some CL ∧ O5 bL = .no) := ⟨hF5.blk HBL.out (fun e => e), (hF5.keep bL (blk_lt HBL.out)).trans HOL.out⟩
  have HO10 : Hid (O5 b10 = .a 9 9) := ho10
  have HB5 : Hid (V4.heap.size ≤ V5.heap.size) := Nat.le_trans HB3.out hF5.size
  have HNE : Hid (b10 ≠ b4 ∧ W.heap.size ≤ b10) := ⟨by have := blk_lt HH3.out.rc; omega, by have h1 := HLO.out; have h2 := HB3.out; omega⟩
  clear hx5 e10 hO5 hF5 ho10 hsz5 HH3 HROW HL3 HR8 HBL HOL HB3 hSd
  have hbs5 := HH5.out.sv.cell
  have hbL5 := HBL5.out.1
  have hbtS : btS (0, N3, cs) it = if d then (0, N3, cs ++ [⟨true, (pr : Int), mkT (resV N3 args) args.length⟩]) else if (intF N3 args).1 ≠ 0 then ((intF N3 args).1, (intF N3 args).2.2, cs) else (0, (intF N3 args).2.2, cs ++ [⟨false, (pr : Int), (intF N3 args).2.1⟩]) := by
    rw [HIT.out]; unfold btS; rw [if_neg (fun e => e rfl)]
  have hfn : (L.take (i + 1)).foldl btS (0, t1.N, []) = btS (0, N3, cs) it := by rw [take_at HI.out, List.foldl_append, HFO.out]; rfl
  rw [hbtS] at hfn
  have HFN := hid_of hfn
  have HFOLD : Hid (∀ X, (L.take (i + 1)).foldl btS (0, t1.N, []) = X → X.1 ≠ 0 → btF t1.N L = X) := by
    intro X h1 h2
    unfold btF
    rw [← List.take_append_drop (i + 1) L, List.foldl_append, h1]
    exact bts_stop _ _ h2
  clear hbtS hfn
  have hin5 : ∃ B5, B5 ≤ V5.heap.size ∧ InsAt B5 O5 V5 g4 bi4 (t1.tab N3) := by
    obtain ⟨B5, bi5, e5, e6, e7⟩ := HH5.out.sv.ins _ rfl
    have ebi : bi4 = bi5 := congrArg Addr.block (Option.some.inj e5)
    subst ebi
    exact ⟨B5, e6, e7⟩
  obtain ⟨B5, hB5s, hI5⟩ := hin5
  have HB5s := hid_of hB5s
  have HI5 := hid_of hI5
  clear hB5s hI5
  have n10s : b10 ≠ bs := HH5.out.ns (by rw [HO10.out]; exact fun e => by cases e)
  have n10L : b10 ≠ bL := fun e => by have h1 := HBL5.out.2; have h2 := HO10.out; rw [← e, h2] at h1; cases h1
  cases d with
  | true =>
  have HRS := hid_of (resolve_any (W := V5.drew) (HI5.out.ext (extd V5)) HN3.out aa al ac args (HR85.out.uncore.ext' (extd V5)) hal4)
  obtain ⟨TT, hTT⟩ : ∃ TT, TT = mkT (resV N3 args) args.length := ⟨_, rfl⟩
  have HTT := hid_of hTT
  have hSd : blk V5.drew bs = some CS4 ∧ blk V5.drew bL = some CL := ⟨hbs5, hbL5⟩
  go_upto_region 16 with fail
  refine wp_region_held_drew (S := fun W' => blk W' bs = some CS4 ∧ blk W' bL = some CL) (by kernel_rfl) hSd (fun hHeld => ?_)
  refine wpAnyH_take (i := 0) (oi := ⟨_, _, _, _, _, _⟩) (v := ?_) rfl (by kernel_rfl) (by kernel_rfl) (by kernel_rfl) (fun _ _ _ h => h) (Or.inl ⟨by rfl, ?_⟩) (by assumption) ?_
  rotate_left 1
  · intro W' hSw
    obtain ⟨hS1, hS2⟩ := hSw
    go_simp
    try with_reducible rfl
  try simp only [Act.put, List.setIfInBounds_toArray, List.set_cons_zero, List.set_cons_succ]
  refine wpAnyH_take (i := 1) (oi := ⟨_, _, _, _, _, _⟩) (v := ?_) rfl (by kernel_rfl) (by kernel_rfl) (by kernel_rfl) (fun _ _ _ h => h) (Or.inl ⟨by rfl, ?_⟩) (by assumption) ?_
  rotate_left 1
  · intro W' hSw
    obtain ⟨hS1, hS2⟩ := hSw
    go_simp
    try with_reducible rfl
  try simp only [Act.put, List.setIfInBounds_toArray, List.set_cons_zero, List.set_cons_succ]
  refine wpAnyH_take (i := 2) (oi := ⟨_, _, _, _, _, _⟩) (v := ?_) rfl (by kernel_rfl) (by kernel_rfl) (by kernel_rfl) (fun _ _ _ h => h) (Or.inl ⟨by rfl, ?_⟩) (by assumption) ?_
  rotate_left 1
  · intro W' hSw
    obtain ⟨hS1, hS2⟩ := hSw
    go_simp
    try with_reducible rfl
  try simp only [Act.put, List.setIfInBounds_toArray, List.set_cons_zero, List.set_cons_succ]
  refine wpAnyH_take (i := 3) (oi := ⟨_, _, _, _, _, _⟩) (v := ?_) rfl (by kernel_rfl) (by kernel_rfl) (by kernel_rfl) (fun _ _ _ h => h) (Or.inl ⟨by rfl, ?_⟩) (by assumption) ?_
  rotate_left 1
  · intro W' hSw
    obtain ⟨hS1, hS2⟩ := hSw
    go_simp
    try with_reducible rfl
  try simp only [Act.put, List.setIfInBounds_toArray, List.set_cons_zero, List.set_cons_succ]
  refine wpAnyH_take (i := 4) (oi := ⟨_, _, _, _, _, _⟩) (v := ?_) rfl (by kernel_rfl) (by kernel_rfl) (by kernel_rfl) (fun _ _ _ h => h) (Or.inl ⟨by rfl, ?_⟩) (by assumption) ?_
  rotate_left 1
  · intro W' hSw
    obtain ⟨hS1, hS2⟩ := hSw
    go_simp
    try with_reducible rfl
  try simp only [Act.put, List.setIfInBounds_toArray, List.set_cons_zero, List.set_cons_succ]
  refine wpAnyH_take (i := 5) (oi := ⟨_, _, _, _, _, _⟩) (v := ?_) rfl (by kernel_rfl) (by kernel_rfl) (by kernel_rfl) (fun _ _ _ h => h) (Or.inl ⟨by rfl, ?_⟩) (by assumption) ?_
  rotate_left 1
  · intro W' hSw
    obtain ⟨hS1, hS2⟩ := hSw
    go_simp
    try with_reducible rfl
  try simp only [Act.put, List.setIfInBounds_toArray, List.set_cons_zero, List.set_cons_succ]
  refine wpAnyH_take (i := 6) (oi := ⟨_, _, _, _, _, _⟩) (v := ?_) rfl (by kernel_rfl) (by kernel_rfl) (by kernel_rfl) (fun _ _ _ h => h) (Or.inl ⟨by rfl, ?_⟩) (by assumption) ?_
  rotate_left 1
  · intro W' hSw
    obtain ⟨hS1, hS2⟩ := hSw
    go_simp
    try with_reducible rfl
  try simp only [Act.put, List.setIfInBounds_toArray, List.set_cons_zero, List.set_cons_succ]
  refine wpAnyH_take (i := 7) (oi := ⟨_, _, _, _, _, _⟩) (v := ?_) rfl (by kernel_rfl) (by kernel_rfl) (by kernel_rfl) (fun _ _ _ h => h) (Or.inl ⟨by rfl, ?_⟩) (by assumption) ?_
  rotate_left 1
  · intro W' hSw
    obtain ⟨hS1, hS2⟩ := hSw
    go_simp
    try with_reducible rfl
  try simp only [Act.put, List.setIfInBounds_toArray, List.set_cons_zero, List.set_cons_succ]
  refine wpAnyH_take (i := 8) (oi := ⟨_, _, _, _, _, _⟩) (v := ?_) rfl (by kernel_rfl) (by kernel_rfl) (by kernel_rfl) (fun _ _ _ h => h) (Or.inl ⟨by rfl, ?_⟩) (by assumption) ?_
  rotate_left 1
  · intro W' hSw
    obtain ⟨hS1, hS2⟩ := hSw
    go_simp
    try with_reducible rfl
  try simp only [Act.put, List.setIfInBounds_toArray, List.set_cons_zero, List.set_cons_succ]
  refine wpAnyH_ready (rs := [9]) (by kernel_rfl) (by simp) ?_
  refine AllReadyH.cons (o := ⟨_, _, _, _, _, _⟩) rfl (fun K' hK => ?_) AllReadyH.nil
  go_simp
  refine HRS.out.mono ?_
  rintro en V6 ⟨rfl, hx6⟩
  dsimp only
  rw [show mkT (resV (t1.tab N3).N args) args.length = TT from hTT.symm]
  have hx56 : V5.Extends V6 := (extd V5).trans hx6
  have hb10' := (hx56.blk (blk_lt hb10)).trans hb10
  have hf10' := (free_of_heap (hx56.block b10 (blk_lt hb10))).trans hf10
  have hS6 : blk V6 bs = some CS4 ∧ blk V6 bL = some CL := ⟨(hx56.blk (blk_lt hbs5)).trans hbs5, (hx56.blk (blk_lt hbL5)).trans hbL5⟩
  have hS7 : ∀ C, blk (put V6 b10 C) bs = some CS4 ∧ blk (put V6 b10 C) bL = some CL := fun C => ⟨by rw [blk_put, if_neg (Ne.symm n10s)]; exact hS6.1, by rw [blk_put, if_neg (Ne.symm n10L)]; exact hS6.2⟩
  have HX56 := hid_of hx56
  clear hx6 hx56 hTT
  refine hK.out _ _ hS6 (fun hHeld => ?_)
  clear hK K'
  try simp only [Act.put, List.setIfInBounds_toArray, List.set_cons_zero, List.set_cons_succ]
  refine wpAnyH_take (i := 10) (oi := ⟨_, _, _, _, _, _⟩) (v := ?_) rfl (by kernel_rfl) (by kernel_rfl) (by kernel_rfl) (fun _ _ _ h => h) (Or.inl ⟨by rfl, ?_⟩) (by assumption) ?_
  rotate_left 1
  · intro W' hSw
    obtain ⟨hS1, hS2⟩ := hSw
    go_simp
    try with_reducible rfl
  try simp only [Act.put, List.setIfInBounds_toArray, List.set_cons_zero, List.set_cons_succ]
  refine wpAnyH_ready (rs := [11]) (by kernel_rfl) (by simp) ?_
  refine AllReadyH.cons (o := ⟨_, _, _, _, _, _⟩) rfl (fun K' hK => ?_) AllReadyH.nil
  go_simp
  refine hK.out _ _ (hS7 _) (fun hHeld => ?_)
  clear hK K'
  try simp only [Act.put, List.setIfInBounds_toArray, List.set_cons_zero, List.set_cons_succ]
  refine wpAnyH_done (by kernel_rfl) ?_ _
  have HW6 : Hid (Fr (fun l => l = .a 9 9) O5 V5 (lab O5 V5.heap.size .no) (put V6 b10 (Change.enc ⟨true, (pr : Int), TT⟩))) := by
    have h1 : Fr (fun l => l = .a 9 9) O5 V5 (lab O5 V5.heap.size .no) V6 := Fr.grow HX56.out
    exact h1.put (by show lab O5 V5.heap.size .no b10 = _; rw [lab_lt (blk_lt hb10)]; exact HO10.out) _
  have HB10 : Hid (blk (put V6 b10 (Change.enc ⟨true, (pr : Int), TT⟩)) b10 = some (Change.enc ⟨true, (pr : Int), TT⟩)) := by
    show _ = _
    rw [blk_put, if_pos rfl, hb10']; rfl
  have HH6' : Hid (HC O W bs b4 (lab O5 V5.heap.size .no) (put V6 b10 (Change.enc ⟨true, (pr : Int), TT⟩)) g4 (s.roomy (t1.tab N3) co) CS4 (some ⟨bi4, 0, none⟩) ia4 iN4 ic4) := by
    have h1 := HH5.out.grow HX56.out .no
    exact h1.put99 (by rw [lab_lt (blk_lt hb10)]; exact HO10.out) HNE.out _
  go_upto_region 18 with fail
  refine wp_world (fun V' => Fr (fun l => l = .a 9 9) O5 V5 (lab O5 V5.heap.size .no) V' ∧ blk V' b10 = some (Change.enc ⟨true, (pr : Int), TT⟩) ∧ HC O W bs b4 (lab O5 V5.heap.size .no) V' g4 (s.roomy (t1.tab N3) co) CS4 (some ⟨bi4, 0, none⟩) ia4 iN4 ic4) ⟨HW6.out, HB10.out, HH6'.out⟩ ?_
  rintro V6' ⟨hF6, hb6, hH6⟩
  have HH6 := hid_of hH6
  have HROW6 : Hid (RowL V4.heap.size (lab O5 V5.heap.size .no) (.a 9 8) V6' 248 6 (.slice a n c) cs.length (cs.flatMap Change.enc)) := HROW5.out.fr hF6 (fun e => by cases e)
  have HL6 : Hid (ItsC (core (lab O5 V5.heap.size .no) V6') (some ⟨bL, 0, none⟩) lN L) := HL5.out.sub (Sub.ext (core_fr hF6 (fun e => by cases e)))
  have HB6 : Hid (V4.heap.size ≤ V6'.heap.size) := Nat.le_trans HB5.out hF6.size
  have HN6 : Hid (N3.length ≤ 256) := HN3.out
  clear hF6 hH6 HW6 HB10 HH6' hS6 hS7 hb10' hf10' hb10 hf10 hbs5 hbL5 hSd HRS HX56
  obtain ⟨a', c', V7, hrun, hrow7, hF7⟩ := appL Change.enc 6 48 251 248 el173.und el173.info el173.len el173.one el173.pos el173.small 251 (⟨true, (pr : Int), TT⟩ : Change) HROW6.out HB6.out (by have := (HROW6.out.rw Change.length_enc).1.1; omega) (Change.enc ⟨true, (pr : Int), TT⟩).toArray rfl 1
  have hncs : n = cs.length := (HROW6.out.rw Change.length_enc).1.1.symm
  have HJ' : Hid (∃ Ox N' cs, Bt2 O W bs b4 g4 s t1 co CS4 (some ⟨bi4, 0, none⟩) ia4 iN4 ic4 V4.heap.size (some ⟨bL, 0, none⟩) lN L (i + 1) a' (n + 1) c' Ox V7 N' cs) := by
    refine ⟨_, N3, cs ++ [⟨true, (pr : Int), TT⟩], HH6.out.fr98 hF7 H98.out (fun k hk hl => (HH6.out.kp.keep k hk hl).1), hrow7, ?_, by omega, HL6.out.sub (Sub.ext (core_fr hF7 (fun e => by cases e))), fun ch hc => ?_, ?_, Nat.le_trans HB6.out hF7.size⟩
    · have h9 := HFN.out
      rw [if_pos rfl, ← HTT.out] at h9
      exact h9
    · rcases List.mem_append.1 hc with h | h
      · exact HCH.out ch h
      · rw [List.mem_singleton.1 h]
        exact ⟨by show (0 : Int) ≤ (pr : Int); omega, by show ((pr : Int)).toNat < t1.p.preds.length; have := HPP.out; omega, (fun e => nomatch e)⟩
    · exact HN6.out
  have sgC : seg (Change.enc ⟨true, (pr : Int), TT⟩) 0 6 = Change.enc ⟨true, (pr : Int), TT⟩ := seg_all _ _ (Change.length_enc _)
  clear hrow7 hF7 HROW6 HH6 HL6 HB6 hncs
  go_wp2_with (at_builtin; refine wpList_append_run rfl _ _ 251 rfl _ _ _ _ rfl rfl hrun ?_)
  refine ⟨rfl, rfl, ⟨rfl, rfl, rfl, rfl, i + 1, _, _, _, by omega, by omega, rfl, ?_, HJ'⟩, ?_⟩
  · show Value.int .i64 _ = _
    go_num
  · show lN - (intOf (Value.int .i64 _)).toNat < lN - (intOf (F 9)).toNat
    rw [H9.out]
    simp [intOf]; omega
  | false =>
  have HINT := hid_of (internI_any (W := V5.drew) (HI5.out.ext (extd V5)) HB5s.out HN3.out aa al ac args (HR85.out.sub (Sub.ext (core_ext (extd V5)))) hal4)
  obtain ⟨TT, hTT⟩ : ∃ TT, TT = (intF N3 args).2.1 := ⟨_, rfl⟩
  obtain ⟨cd, hcd⟩ : ∃ cd, cd = (intF N3 args).1 := ⟨_, rfl⟩
  have HTT := hid_of hTT
  have HCD := hid_of hcd
  have hSd : blk V5.drew bs = some CS4 ∧ blk V5.drew bL = some CL := ⟨hbs5, hbL5⟩
  have n10 : ¬ isS g4 (O5 b10) := by rw [HO10.out]; exact isS_99 hgl4
  have nLs : ¬ isS g4 (O5 bL) := by rw [HBL5.out.2]; exact isS_no g4
  have nss : ¬ isS g4 (O5 bs) := by rw [HH5.out.sv.own]; exact fun e => isI_0 g4 (isI_S e)
  go_upto_region 17 with fail
  refine wp_region_held_drew (S := fun W' => blk W' bs = some CS4 ∧ blk W' bL = some CL) (by kernel_rfl) hSd (fun hHeld => ?_)
  refine wpAnyH_take (i := 0) (oi := ⟨_, _, _, _, _, _⟩) (v := ?_) rfl (by kernel_rfl) (by kernel_rfl) (by kernel_rfl) (fun _ _ _ h => h) (Or.inl ⟨by rfl, ?_⟩) (by assumption) ?_
  rotate_left 1
  · intro W' hSw
    obtain ⟨hS1, hS2⟩ := hSw
    go_simp
    try with_reducible rfl
  try simp only [Act.put, List.setIfInBounds_toArray, List.set_cons_zero, List.set_cons_succ]
  refine wpAnyH_take (i := 1) (oi := ⟨_, _, _, _, _, _⟩) (v := ?_) rfl (by kernel_rfl) (by kernel_rfl) (by kernel_rfl) (fun _ _ _ h => h) (Or.inl ⟨by rfl, ?_⟩) (by assumption) ?_
  rotate_left 1
  · intro W' hSw
    obtain ⟨hS1, hS2⟩ := hSw
    go_simp
    try with_reducible rfl
  try simp only [Act.put, List.setIfInBounds_toArray, List.set_cons_zero, List.set_cons_succ]
  refine wpAnyH_take (i := 2) (oi := ⟨_, _, _, _, _, _⟩) (v := ?_) rfl (by kernel_rfl) (by kernel_rfl) (by kernel_rfl) (fun _ _ _ h => h) (Or.inl ⟨by rfl, ?_⟩) (by assumption) ?_
  rotate_left 1
  · intro W' hSw
    obtain ⟨hS1, hS2⟩ := hSw
    go_simp
    try with_reducible rfl
  try simp only [Act.put, List.setIfInBounds_toArray, List.set_cons_zero, List.set_cons_succ]
  refine wpAnyH_take (i := 3) (oi := ⟨_, _, _, _, _, _⟩) (v := ?_) rfl (by kernel_rfl) (by kernel_rfl) (by kernel_rfl) (fun _ _ _ h => h) (Or.inl ⟨by rfl, ?_⟩) (by assumption) ?_
  rotate_left 1
  · intro W' hSw
    obtain ⟨hS1, hS2⟩ := hSw
    go_simp
    try with_reducible rfl
  try simp only [Act.put, List.setIfInBounds_toArray, List.set_cons_zero, List.set_cons_succ]
  refine wpAnyH_take (i := 4) (oi := ⟨_, _, _, _, _, _⟩) (v := ?_) rfl (by kernel_rfl) (by kernel_rfl) (by kernel_rfl) (fun _ _ _ h => h) (Or.inl ⟨by rfl, ?_⟩) (by assumption) ?_
  rotate_left 1
  · intro W' hSw
    obtain ⟨hS1, hS2⟩ := hSw
    go_simp
    try with_reducible rfl
  try simp only [Act.put, List.setIfInBounds_toArray, List.set_cons_zero, List.set_cons_succ]
  refine wpAnyH_take (i := 5) (oi := ⟨_, _, _, _, _, _⟩) (v := ?_) rfl (by kernel_rfl) (by kernel_rfl) (by kernel_rfl) (fun _ _ _ h => h) (Or.inl ⟨by rfl, ?_⟩) (by assumption) ?_
  rotate_left 1
  · intro W' hSw
    obtain ⟨hS1, hS2⟩ := hSw
    go_simp
    try with_reducible rfl
  try simp only [Act.put, List.setIfInBounds_toArray, List.set_cons_zero, List.set_cons_succ]
  refine wpAnyH_take (i := 6) (oi := ⟨_, _, _, _, _, _⟩) (v := ?_) rfl (by kernel_rfl) (by kernel_rfl) (by kernel_rfl) (fun _ _ _ h => h) (Or.inl ⟨by rfl, ?_⟩) (by assumption) ?_
  rotate_left 1
  · intro W' hSw
    obtain ⟨hS1, hS2⟩ := hSw
    go_simp
    try with_reducible rfl
  try simp only [Act.put, List.setIfInBounds_toArray, List.set_cons_zero, List.set_cons_succ]
  refine wpAnyH_take (i := 7) (oi := ⟨_, _, _, _, _, _⟩) (v := ?_) rfl (by kernel_rfl) (by kernel_rfl) (by kernel_rfl) (fun _ _ _ h => h) (Or.inl ⟨by rfl, ?_⟩) (by assumption) ?_
  rotate_left 1
  · intro W' hSw
    obtain ⟨hS1, hS2⟩ := hSw
    go_simp
    try with_reducible rfl
  try simp only [Act.put, List.setIfInBounds_toArray, List.set_cons_zero, List.set_cons_succ]
  refine wpAnyH_take (i := 8) (oi := ⟨_, _, _, _, _, _⟩) (v := ?_) rfl (by kernel_rfl) (by kernel_rfl) (by kernel_rfl) (fun _ _ _ h => h) (Or.inl ⟨by rfl, ?_⟩) (by assumption) ?_
  rotate_left 1
  · intro W' hSw
    obtain ⟨hS1, hS2⟩ := hSw
    go_simp
    try with_reducible rfl
  try simp only [Act.put, List.setIfInBounds_toArray, List.set_cons_zero, List.set_cons_succ]
  refine wpAnyH_ready (rs := [9]) (by kernel_rfl) (by simp) ?_
  refine AllReadyH.cons (o := ⟨_, _, _, _, _, _⟩) rfl (fun K' hK => ?_) AllReadyH.nil
  go_simp
  refine HINT.out.mono ?_
  intro en V6 hip
  obtain ⟨O6, rfl, hF6, hI6⟩ := intPost_X hip
  dsimp only
  rw [show (intF (t1.tab N3).N args).2.1 = TT from hTT.symm, show (intF (t1.tab N3).N args).1 = cd from hcd.symm]
  have hF56 : Fr (isS g4) O5 V5 O6 V6 := (Fr.of_extends (L := isS g4) (extd V5)).trans hF6
  have hb10' := hF56.blk hb10 n10
  have hf10' := hF56.free hb10 hf10 n10
  have hS6 : blk V6 bs = some CS4 ∧ blk V6 bL = some CL := ⟨hF56.blk hbs5 nss, hF56.blk hbL5 nLs⟩
  have hS7 : ∀ C, blk (put V6 b10 C) bs = some CS4 ∧ blk (put V6 b10 C) bL = some CL := fun C => ⟨by rw [blk_put, if_neg (Ne.symm n10s)]; exact hS6.1, by rw [blk_put, if_neg (Ne.symm n10L)]; exact hS6.2⟩
  have HF56 := hid_of hF56
  have HI6 := hid_of hI6
  clear hip hF6 hI6 hF56 hTT hcd
  refine hK.out _ _ hS6 (fun hHeld => ?_)
  clear hK K'
  try simp only [Act.put, List.setIfInBounds_toArray, List.set_cons_zero, List.set_cons_succ]
  refine wpAnyH_take (i := 10) (oi := ⟨_, _, _, _, _, _⟩) (v := ?_) rfl (by kernel_rfl) (by kernel_rfl) (by kernel_rfl) (fun _ _ _ h => h) (Or.inl ⟨by rfl, ?_⟩) (by assumption) ?_
  rotate_left 1
  · intro W' hSw
    obtain ⟨hS1, hS2⟩ := hSw
    go_simp
    try with_reducible rfl
  try simp only [Act.put, List.setIfInBounds_toArray, List.set_cons_zero, List.set_cons_succ]
  refine wpAnyH_take (i := 11) (oi := ⟨_, _, _, _, _, _⟩) (v := ?_) rfl (by kernel_rfl) (by kernel_rfl) (by kernel_rfl) (fun _ _ _ h => h) (Or.inl ⟨by rfl, ?_⟩) (by assumption) ?_
  rotate_left 1
  · intro W' hSw
    obtain ⟨hS1, hS2⟩ := hSw
    go_simp
    try with_reducible rfl
  try simp only [Act.put, List.setIfInBounds_toArray, List.set_cons_zero, List.set_cons_succ]
  refine wpAnyH_take (i := 12) (oi := ⟨_, _, _, _, _, _⟩) (v := ?_) rfl (by kernel_rfl) (by kernel_rfl) (by kernel_rfl) (fun _ _ _ h => h) (Or.inl ⟨by rfl, ?_⟩) (by assumption) ?_
  rotate_left 1
  · intro W' hSw
    obtain ⟨hS1, hS2⟩ := hSw
    go_simp
    try with_reducible rfl
  try simp only [Act.put, List.setIfInBounds_toArray, List.set_cons_zero, List.set_cons_succ]
  refine wpAnyH_take (i := 13) (oi := ⟨_, _, _, _, _, _⟩) (v := ?_) rfl (by kernel_rfl) (by kernel_rfl) (by kernel_rfl) (fun _ _ _ h => h) (Or.inl ⟨by rfl, ?_⟩) (by assumption) ?_
  rotate_left 1
  · intro W' hSw
    obtain ⟨hS1, hS2⟩ := hSw
    go_simp
    try with_reducible rfl
  try simp only [Act.put, List.setIfInBounds_toArray, List.set_cons_zero, List.set_cons_succ]
  refine wpAnyH_ready (rs := [14]) (by kernel_rfl) (by simp) ?_
  refine AllReadyH.cons (o := ⟨_, _, _, _, _, _⟩) rfl (fun K' hK => ?_) AllReadyH.nil
  go_simp
  refine hK.out _ _ (hS7 _) (fun hHeld => ?_)
  clear hK K'
  try simp only [Act.put, List.setIfInBounds_toArray, List.set_cons_zero, List.set_cons_succ]
  refine wpAnyH_take (i := 15) (oi := ⟨_, _, _, _, _, _⟩) (v := ?_) rfl (by kernel_rfl) (by kernel_rfl) (by kernel_rfl) (fun _ _ _ h => h) (Or.inl ⟨by rfl, ?_⟩) (by assumption) ?_
  rotate_left 1
  · intro W' hSw
    obtain ⟨hS1, hS2⟩ := hSw
    go_simp
    try with_reducible rfl
  try simp only [Act.put, List.setIfInBounds_toArray, List.set_cons_zero, List.set_cons_succ]
  refine wpAnyH_done (by kernel_rfl) ?_ _
  have HO6 : Hid (O6 b10 = .a 9 9) := (HF56.out.keep b10 (blk_lt hb10)).trans HO10.out
  have HFp : Hid (Fr (fun l => l = .a 9 9) O6 V6 O6 (put V6 b10 (Change.enc ⟨false, (pr : Int), TT⟩))) := (Fr.refl _ _ _).put (L := fun l => l = .a 9 9) HO6.out _
  have HB10 : Hid (blk (put V6 b10 (Change.enc ⟨false, (pr : Int), TT⟩)) b10 = some (Change.enc ⟨false, (pr : Int), TT⟩)) := by
    show _ = _
    rw [blk_put, if_pos rfl, hb10']; rfl
  have HH6' : Hid (HC O W bs b4 O6 (put V6 b10 (Change.enc ⟨false, (pr : Int), TT⟩)) g4 (s.roomy (t1.tab (intF N3 args).2.2) co) CS4 (some ⟨bi4, 0, none⟩) ia4 iN4 ic4) := by
    have h1 := HH5.out.fr (fr_VS HF56.out) (HH5.out.sv.swap (HF56.out.mono (fun _ e => isI_S e)) (Nat.le_trans HB5s.out HF56.out.size) HI6.out)
    exact h1.put99 HO6.out HNE.out _
  go_upto_region 18 with fail
  refine wp_world (fun V' => Fr (fun l => isS g4 l ∨ l = .a 9 9) O5 V5 O6 V' ∧ blk V' b10 = some (Change.enc ⟨false, (pr : Int), TT⟩) ∧ HC O W bs b4 O6 V' g4 (s.roomy (t1.tab (intF N3 args).2.2) co) CS4 (some ⟨bi4, 0, none⟩) ia4 iN4 ic4) ⟨(HF56.out.mono (fun _ e => .inl e)).trans (HFp.out.mono (fun _ e => .inr e)), HB10.out, HH6'.out⟩ ?_
  rintro V6' ⟨hF6, hb6, hH6⟩
  have HH6 := hid_of hH6
  have n98 : ¬ (isS g4 (.a 9 8) ∨ Lab.a 9 8 = .a 9 9) := by
    rintro (e | e)
    · exact isI_98 hgl4 (isI_S e)
    · cases e
  have nno : ¬ (isS g4 .no ∨ Lab.no = .a 9 9) := by
    rintro (e | e)
    · exact isS_no g4 e
    · cases e
  have HROW6 : Hid (RowL V4.heap.size O6 (.a 9 8) V6' 248 6 (.slice a n c) cs.length (cs.flatMap Change.enc)) := HROW5.out.fr hF6 n98
  have HL6 : Hid (ItsC (core O6 V6') (some ⟨bL, 0, none⟩) lN L) := HL5.out.sub (Sub.ext (core_fr hF6 nno))
  have HB6 : Hid (V4.heap.size ≤ V6'.heap.size) := Nat.le_trans HB5.out hF6.size
  have HN6 : Hid ((intF N3 args).2.2.length ≤ 256) := nmS_len HN3.out args _
  clear hF6 hH6 HFp HB10 HH6' hS6 hS7 hb10' hf10' hb10 hf10 hbs5 hbL5 hSd HINT HF56 HI6 n98 nno n10 nLs nss
  by_cases hc2 : cd = 0
  rotate_left 1
  · have HBF : Hid (btF t1.N L = ((intF N3 args).1, (intF N3 args).2.2, cs)) := by
      refine HFOLD.out _ ?_ (by show (intF N3 args).1 ≠ 0; rw [← HCD.out]; exact hc2)
      rw [HFN.out, if_neg (by decide), if_pos (by rw [← HCD.out]; exact hc2)]
    have hrf := refuse_any V6' 4 17
    have HRP : Hid (∀ V, V6'.Extends V → Q (.returned (.agg (Reply.enc (repZ 17 4 (-1))).toArray)) (put V b4 (Reply.enc (repZ 17 4 (-1))))) := fun V hx => by
      rw [HQ.out]
      exact (HH6.out.ext hx).fin (.inr ⟨HCK.out, 0, t1, co, HMR.out, .inr ⟨rfl, .inl ⟨by rw [HBF.out, ← HCD.out]; exact hc2, rfl, by rw [HBF.out]⟩⟩⟩)
    have HB4 : Hid (blk V6' b4 = some Reply.zero.enc ∧ free V6' b4 = true) := ⟨HH6.out.rc, HH6.out.rf⟩
    have rl := Reply.length_enc (repZ 17 4 (-1))
    have ro := Reply.ok_enc (repZ 17 4 (-1))
    have rs := Reply.all_set Reply.zero (repZ 17 4 (-1))
    obtain ⟨RE, hRE⟩ : ∃ RE, RE = Reply.enc (repZ 17 4 (-1)) := ⟨_, rfl⟩
    rw [← hRE] at hrf HRP rl ro rs
    clear hRE
    have hcb : (cd != 0) = true := by simp [hc2]
    clear hc2
    go_wp2_with fail
    refine hrf.mono ?_
    rintro e Vr ⟨rfl, hxr⟩
    have hb4 := (hxr.blk (blk_lt HB4.out.1)).trans HB4.out.1
    have hf4 := (free_of_heap (hxr.block b4 (blk_lt HB4.out.1))).trans HB4.out.2
    have HP := hid_of (HRP.out Vr hxr)
    clear hrf hxr HRP
    dsimp only
    go_wp2_with fail
    refine ret_cell (C := RE) rfl rfl ?_ (by kernel_rfl) (by rw [rl]; kernel_rfl) rfl HP.out
    first | (rw [blk_put, if_pos rfl, hb4]; rfl) | (simp only [blk_put, if_true, hb4, Option.map_some]; try rfl)

  subst hc2
  obtain ⟨a', c', V7, hrun, hrow7, hF7⟩ := appL Change.enc 6 48 251 248 el173.und el173.info el173.len el173.one el173.pos el173.small 251 (⟨false, (pr : Int), TT⟩ : Change) HROW6.out HB6.out (by have := (HROW6.out.rw Change.length_enc).1.1; omega) (Change.enc ⟨false, (pr : Int), TT⟩).toArray rfl 1
  have hncs : n = cs.length := (HROW6.out.rw Change.length_enc).1.1.symm
  have HJ' : Hid (∃ Ox N' cs, Bt2 O W bs b4 g4 s t1 co CS4 (some ⟨bi4, 0, none⟩) ia4 iN4 ic4 V4.heap.size (some ⟨bL, 0, none⟩) lN L (i + 1) a' (n + 1) c' Ox V7 N' cs) := by
    refine ⟨_, (intF N3 args).2.2, cs ++ [⟨false, (pr : Int), TT⟩], HH6.out.fr98 hF7 H98.out (fun k hk hl => (HH6.out.kp.keep k hk hl).1), hrow7, ?_, by omega, HL6.out.sub (Sub.ext (core_fr hF7 (fun e => by cases e))), fun ch hc => ?_, ?_, Nat.le_trans HB6.out hF7.size⟩
    · have h9 := HFN.out
      rw [if_neg (by decide), if_neg (by rw [← HCD.out]; exact fun e => e rfl), ← HTT.out] at h9
      exact h9
    · rcases List.mem_append.1 hc with h | h
      · exact HCH.out ch h
      · rw [List.mem_singleton.1 h]
        exact ⟨by show (0 : Int) ≤ (pr : Int); omega, by show ((pr : Int)).toNat < t1.p.preds.length; have := HPP.out; omega, (fun _ => by rw [HTT.out]; exact intF_tok HN3.out (by rw [← HAL.out]; exact hal4) HCD.out.symm)⟩
    · exact HN6.out
  have sgC : seg (Change.enc ⟨false, (pr : Int), TT⟩) 0 6 = Change.enc ⟨false, (pr : Int), TT⟩ := seg_all _ _ (Change.length_enc _)
  clear hrow7 hF7 HROW6 HH6 HL6 HB6 hncs
  go_wp2_with (at_builtin; refine wpList_append_run rfl _ _ 251 rfl _ _ _ _ rfl rfl hrun ?_)
  refine ⟨rfl, rfl, ⟨rfl, rfl, rfl, rfl, i + 1, _, _, _, by omega, by omega, rfl, ?_, HJ'⟩, ?_⟩
  · show Value.int .i64 _ = _
    go_num
  · show lN - (intOf (Value.int .i64 _)).toNat < lN - (intOf (F 9)).toNat
    rw [H9.out]
    simp [intOf]; omega
end Go.Proofs.Qxb6500787aGreat
