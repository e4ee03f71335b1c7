
import Derived.Test.Qxb6500787aGreatVl
import Derived.StillTailTactics
import Derived.Deep.QuietTactic
import Derived.BigQuiet
import Derived.Deep.RegionHeld
import Derived.Deep.CutRange
import Derived.Laws.ResultCell
import Derived.Laws.Rows
import Derived.DeepKeys
import Derived.DataBytes
import Derived.Laws.StructEq
import Derived.Laws.AppendOwn
import Derived.Laws.MakeOwn
import Derived.Lib.AppendStr
set_option linter.unusedSimpArgs false
set_option linter.unusedVariables false
namespace Go.Proofs.Qxb6500787aGreat
open Go.RowKit Go.Blk
attribute [local go_sem ↓] execOp_load execOp_store execOp_alloc
attribute [local go_sem] Tryz.ld26 Tryz.st26 Tryz.ld27 Tryz.st27 Tryz.ld28 Tryz.st28 Tryz.ld3 Tryz.st3 Tryz.ld29 Tryz.st29 Tryz.ld44 Tryz.st44 Tryz.ld4 Tryz.st4 Tryz.ld50 Tryz.st50 Tryz.ld32 Tryz.st32 Tryz.ld49 Tryz.st49 Tryz.ld68 Tryz.st68 Tryz.ld9 Tryz.st9 Tryz.ld40 Tryz.st40 Tryz.ld138 Tryz.st138 Tryz.ld139 Tryz.st139 Tryz.ld146 Tryz.st146 Tryz.ld183 Tryz.st183 Tryz.ld184 Tryz.st184 Tryz.ld192 Tryz.st192 Tryz.ld195 Tryz.st195 Tryz.ld217 Tryz.st217 Tryz.ld159 Tryz.st159 Tryz.ld142 Tryz.st142 Tryz.ld2 Tryz.st2 Tryz.ld5 Tryz.st5 Tryz.ld12 Tryz.st12 Tryz.ld21 Tryz.st21 Tryz.ld22 Tryz.st22 Tryz.ld24 Tryz.st24 Tryz.ld58 Tryz.st58 Tryz.ld97 Tryz.st97 Tryz.ld101 Tryz.st101 Tryz.ld116 Tryz.st116 Tryz.ld121 Tryz.st121 Tryz.ld135 Tryz.st135 Tryz.ld136 Tryz.st136 Tryz.ld143 Tryz.st143 Tryz.ld148 Tryz.st148 Tryz.ld154 Tryz.st154 Tryz.ld173 Tryz.st173 Tryz.ld187 Tryz.st187 Tryz.ld222 Tryz.st222 Tryz.ld241 Tryz.st241 Tryz.ld248 Tryz.st248 Tryz.ld268 Tryz.st268 Tryz.ld272 Tryz.st272 Tryz.ld153 Tryz.st153 Tryz.ld255 Tryz.st255 Tryz.ld256 Tryz.st256 Tryz.ld129 Tryz.st129 Tryz.ld152 Tryz.st152 Tryz.ld31 Tryz.st31 Tryz.ld46 Tryz.st46 Tryz.ld52 Tryz.st52 Tryz.ld54 Tryz.st54 Tryz.ld60 Tryz.st60 Tryz.ld70 Tryz.st70 Tryz.ld74 Tryz.st74 Tryz.ld93 Tryz.st93 Tryz.ld141 Tryz.st141 Tryz.ld151 Tryz.st151 Tryz.ld170 Tryz.st170 Tryz.ld186 Tryz.st186 Tryz.ld189 Tryz.st189 Tryz.ld194 Tryz.st194 Tryz.ld197 Tryz.st197 Tryz.ld219 Tryz.st219 Tryz.ld224 Tryz.st224 Tryz.ld230 Tryz.st230 Tryz.ld235 Tryz.st235 Tryz.ld243 Tryz.st243 Tryz.ld247 Tryz.st247 Tryz.ld252 Tryz.st252 Tryz.ld258 Tryz.st258 Tryz.al153 Tryz.al255 Tryz.al256 Tryz.al129 Tryz.al152 Tryz.al31 Tryz.al46 Tryz.al52 Tryz.al54 Tryz.al60 Tryz.al70 Tryz.al74 Tryz.al93 Tryz.al141 Tryz.al151 Tryz.al170 Tryz.al186 Tryz.al189 Tryz.al194 Tryz.al197 Tryz.al219 Tryz.al224 Tryz.al230 Tryz.al235 Tryz.al243 Tryz.al247 Tryz.al252 Tryz.al258
attribute [local go_sem] Request.length_enc Request.ok_enc Request.all_get Request.all_set Request.kind_get Request.kind_set Request.blob_get Request.blob_set Request.items_get Request.items_set Request.pred_get Request.pred_set Request.slots_get Request.slots_set Trace.length_enc Trace.ok_enc Trace.all_get Trace.all_set Trace.op_get Trace.op_set Trace.calls_get Trace.calls_set Item.length_enc Item.ok_enc Item.all_get Item.all_set Item.del_get Item.del_set Item.pred_get Item.pred_set Item.args_get Item.args_set Reply.length_enc Reply.ok_enc Reply.all_get Reply.all_set Reply.code_get Reply.code_set Reply.kind_get Reply.kind_set Reply.index_get Reply.index_set Reply.yes_get Reply.yes_set Reply.preds_get Reply.preds_set Reply.rules_get Reply.rules_set Reply.arity_get Reply.arity_set Reply.rows_get Reply.rows_set Reply.fact_get Reply.fact_set Reply.fact_del_get Reply.fact_del_set Reply.fact_pred_get Reply.fact_pred_set Reply.fact_args_get Reply.fact_args_set GEntry.length_enc GEntry.ok_enc GEntry.all_get GEntry.all_set GEntry.seq_get GEntry.seq_set GEntry.kind_get GEntry.kind_set GEntry.code_get GEntry.code_set GOp.length_enc GOp.ok_enc GOp.all_get GOp.all_set GOp.kind_get GOp.kind_set GOp.raw_get GOp.raw_set Reader.length_enc Reader.ok_enc Reader.all_get Reader.all_set Reader.buf_get Reader.buf_set Reader.at__get Reader.at__set Slot.length_enc Slot.ok_enc Slot.all_get Slot.all_set Slot.bound_get Slot.bound_set Slot.name_get Slot.name_set Session.length_enc Session.ok_enc Session.all_get Session.all_set Session.svc_get Session.svc_set Session.buf_get Session.buf_set Session.closed_get Session.closed_set GProgram.length_enc GProgram.ok_enc GProgram.all_get GProgram.all_set GProgram.pool_get GProgram.pool_set GProgram.preds_get GProgram.preds_set GProgram.rules_get GProgram.rules_set GProgram.strata_get GProgram.strata_set PredInfo.length_enc PredInfo.ok_enc PredInfo.all_get PredInfo.all_set PredInfo.arity_get PredInfo.arity_set PredInfo.base_get PredInfo.base_set PredInfo.stratum_get PredInfo.stratum_set Change.length_enc Change.ok_enc Change.all_get Change.all_set Change.del_get Change.del_set Change.pred_get Change.pred_set Change.t_get Change.t_set Store.length_enc Store.ok_enc Store.all_get Store.all_set Store.names_get Store.names_set Store.arity_get Store.arity_set Store.rows_get Store.rows_set Src.length_enc Src.ok_enc Src.all_get Src.all_set Src.b_get Src.b_set Src.at__get Src.at__set Atom.length_enc Atom.ok_enc Atom.all_get Atom.all_set Atom.pred_get Atom.pred_set Atom.args_get Atom.args_set GRule.length_enc GRule.ok_enc GRule.all_get GRule.all_set GRule.head_get GRule.head_set GRule.body_get GRule.body_set GRule.head_pred_get GRule.head_pred_set GRule.head_args_get GRule.head_args_set Cert.length_enc Cert.ok_enc Cert.all_get Cert.all_set Cert.names_get Cert.names_set Cert.nodes_get Cert.nodes_set Fact.length_enc Fact.ok_enc Fact.all_get Fact.all_set Fact.pred_get Fact.pred_set Fact.t_get Fact.t_set Literal.length_enc Literal.ok_enc Literal.all_get Literal.all_set Literal.neg_get Literal.neg_set Literal.atom_get Literal.atom_set Literal.atom_pred_get Literal.atom_pred_set Literal.atom_args_get Literal.atom_args_set Engine.length_enc Engine.ok_enc Engine.all_get Engine.all_set Engine.prog_get Engine.prog_set Engine.st_get Engine.st_set SrcCertm.length_enc SrcCertm.ok_enc SrcCertm.all_get SrcCertm.all_set SrcCertm.b_get SrcCertm.b_set SrcCertm.at__get SrcCertm.at__set GNode.length_enc GNode.ok_enc GNode.all_get GNode.all_set GNode.rule_get GNode.rule_set GNode.pred_get GNode.pred_set GNode.vals_get GNode.vals_set GNode.refs_get GNode.refs_set Term.length_enc Term.ok_enc Term.all_get Term.all_set Term.var_get Term.var_set Term.n_get Term.n_set Env.length_enc Env.ok_enc Env.all_get Env.all_set Env.val_get Env.val_set Env.set_get Env.set_set
attribute [local go_sem] size_put size_ext blk_put free_put blk_alloc free_alloc blk_drew free_drew blk_ext free_ext lookOr_some putOr_some segAt_some cellAt_some storeIn_some put_put put_alloc_new length_arr ok_arr_u8 ok_arr_u32 ok_arr_u64 ok_arr_i64 ok_arr_sl cellsV_agg cellsV_int cellsV_bool cellsV_string cellsV_pointer cellsV_slice cellsV_sl ok_int ok_bool ok_string ok_pointer ok_slice ok_sl toList_arr seg_arr set_arr nth_splice nth_splice0 seg_splice seg_splice0 splice_splice splice_splice0 length_splice_if
attribute [local go_sem ↓] execOp_box
attribute [local go_sem] box_run nth_arr_u8 put_arr_u8 blk_drewN free_drewN put_drewN blk_raw free_raw
theorem isI_99 {g : Nat} (hg : g < 2) : ¬ isI g (.a 9 9) := by rintro ⟨j, e | e⟩ <;> (have := (Lab.a.inj e).1; omega)
theorem isS_99 {g : Nat} (hg : g < 2) : ¬ isS g (.a 9 9) := fun e => isI_99 hg (isI_S e)
theorem isV_99 {g : Nat} (hg : g < 2) : ¬ isV g (.a 9 9) := by
  rintro (e | e)
  · cases e
  · exact isI_99 hg e
theorem kept_99 : kept (.a 9 9) := .inr ⟨9, 9, rfl, by omega⟩
theorem kept_no : kept .no := .inl rfl
theorem SvM.put99 {O : Own} {V : World} {bs g : Nat} {s : Sv} {CS : List Value} {ip ia : Option Addr} {iN ic : Nat} (h : SvM O V bs g s CS ip ia iN ic) {b : Nat} (hb : O b = .a 9 9) (C : List Value) : SvM O (put V b C) bs g s CS ip ia iN ic := by
  have hF : Fr (fun l => l = .a 9 9) O V O (put V b C) := (Fr.refl _ _ _).put (L := fun l => l = .a 9 9) hb _
  have hne : ¬ (fun l => l = Lab.a 9 9) (O bs) := by rw [h.own]; exact fun e => by have := (Lab.a.inj e).1; omega
  refine ⟨hF.blk h.cell hne, hF.free h.cell h.fre hne, h.own, h.c, h.im.grow (core_fr hF (fun e => by cases e)), h.gl, h.no, fun t ht => ?_⟩
  obtain ⟨B, bi, e1, e2, e3⟩ := h.ins t ht
  have hg := h.gl
  exact ⟨B, bi, e1, Nat.le_trans e2 hF.size, e3.fr hF (fun l hl e => isI_99 hg (e ▸ hl)) (fun e => by cases e)⟩
theorem Kp.put_new {O O' : Own} {W V : World} (h : Kp O W O' V) {b : Nat} (hb : W.heap.size ≤ b) (C : List Value) : Kp O W O' (put V b C) :=
  ⟨h.os, h.tape, h.output, by rw [size_put]; exact h.size, fun k hk hl => ⟨(h.keep k hk hl).1, by rw [heap_put, if_neg (by omega)]; exact (h.keep k hk hl).2⟩⟩
/-- A handler on its way: the service, and the block of the result. -/
structure HC (O : Own) (W : World) (bs b4 : Nat) (Ox : Own) (V : World) (g : Nat) (s : Sv) (CS : List Value) (ip ia : Option Addr) (iN ic : Nat) : Prop where
  kp : Kp O W Ox V
  sv : SvM Ox V bs g s CS ip ia iN ic
  lo : W.heap.size ≤ b4
  rc : blk V b4 = some Reply.zero.enc
  rf : free V b4 = true
  ro : Ox b4 = .a 9 9
theorem HC.ns {O : Own} {W : World} {bs b4 : Nat} {Ox : Own} {V : World} {g : Nat} {s : Sv} {CS : List Value} {ip ia : Option Addr} {iN ic : Nat} (h : HC O W bs b4 Ox V g s CS ip ia iN ic) {b : Nat} (hb : Ox b ≠ .a 0 0) : b ≠ bs := fun e => hb (e ▸ h.sv.own)
/-- Only the service's blocks, and new ones, have changed. -/
theorem HC.fr {O : Own} {W : World} {bs b4 : Nat} {Ox Oy : Own} {V V' : World} {g : Nat} {s s' : Sv} {CS CS' : List Value} {ip ia ip' ia' : Option Addr} {iN ic iN' ic' : Nat} (h : HC O W bs b4 Ox V g s CS ip ia iN ic) (hF : Fr (isV g) Ox V Oy V') (hs : SvM Oy V' bs g s' CS' ip' ia' iN' ic') : HC O W bs b4 Oy V' g s' CS' ip' ia' iN' ic' := by
  have hg := h.sv.gl
  have hn : ¬ isV g (Ox b4) := by rw [h.ro]; exact isV_99 hg
  exact ⟨h.kp.trans (kp_V hg hF), hs, h.lo, hF.blk h.rc hn, hF.free h.rc h.rf hn, (hF.keep b4 (blk_lt h.rc)).trans h.ro⟩
/-- New memory, labelled. -/
theorem HC.grow {O : Own} {W : World} {bs b4 : Nat} {Ox : Own} {V V' : World} {g : Nat} {s : Sv} {CS : List Value} {ip ia : Option Addr} {iN ic : Nat} (h : HC O W bs b4 Ox V g s CS ip ia iN ic) (hx : V.Extends V') (l : Lab) : HC O W bs b4 (lab Ox V.heap.size l) V' g s CS ip ia iN ic := by
  have hF : Fr (fun _ => False) Ox V (lab Ox V.heap.size l) V' := ⟨hx.os, hx.tape, hx.output, hx.size, fun k hk => lab_lt hk, fun k hk _ => hx.block k hk⟩
  exact h.fr (hF.mono (fun _ e => e.elim)) (h.sv.frF hF)
theorem HC.ext {O : Own} {W : World} {bs b4 : Nat} {Ox : Own} {V V' : World} {g : Nat} {s : Sv} {CS : List Value} {ip ia : Option Addr} {iN ic : Nat} (h : HC O W bs b4 Ox V g s CS ip ia iN ic) (hx : V.Extends V') : HC O W bs b4 Ox V' g s CS ip ia iN ic := by
  have hF : Fr (fun _ => False) Ox V Ox V' := Fr.of_extends hx
  exact h.fr (hF.mono (fun _ e => e.elim)) (h.sv.frF hF)
theorem HC.fin {O : Own} {W : World} {bs b4 : Nat} {Ox : Own} {V : World} {g : Nat} {s : Sv} {CS : List Value} {ip ia : Option Addr} {iN ic : Nat} (h : HC O W bs b4 Ox V g s CS ip ia iN ic) {P : Reply → Sv → Prop} {rep : Reply} (hP : P rep s) : HdRel O W bs P (.returned (.agg (Reply.enc rep).toArray)) (put V b4 (Reply.enc rep)) := hr_fin hP (h.kp.put_new h.lo _) (h.sv.put99 h.ro _)
/-- Making room. -/
theorem HC.room {O : Own} {W : World} {bs b4 : Nat} {Ox : Own} {V : World} {g : Nat} {s : Sv} {CS : List Value} {ip ia : Option Addr} {iN ic : Nat} (h : HC O W bs b4 Ox V g s CS ip ia iN ic) {Oy : Own} {V' : World} {g' : Nat} {s' : Sv} {CS' : List Value} {ip' ia' : Option Addr} {iN' ic' : Nat} (hK : Kp Ox V Oy V') (hs : SvM Oy V' bs g' s' CS' ip' ia' iN' ic') : HC O W bs b4 Oy V' g' s' CS' ip' ia' iN' ic' := by
  obtain ⟨k1, k2⟩ := hK.keep b4 (blk_lt h.rc) (by rw [h.ro]; exact kept_99)
  exact ⟨h.kp.trans hK, hs, h.lo, (blk_of_heap k2).trans h.rc, (free_of_heap k2).trans h.rf, k1.trans h.ro⟩
theorem HC.low {O : Own} {W : World} {bs b4 : Nat} {Ox : Own} {V : World} {g : Nat} {s : Sv} {CS : List Value} {ip ia : Option Addr} {iN ic : Nat} (h : HC O W bs b4 Ox V g s CS ip ia iN ic) (op : Int) {V' : World} (hV : Only V bs V' (splice (splice CS 2 [.int .i64 op]) 3 [.int .i64 (s.calls + 1)])) : Fr (isV g) Ox V Ox V' ∧ HC O W bs b4 Ox V' g ⟨s.inst, s.img, op, s.calls + 1, s.rst⟩ (splice (splice CS 2 [.int .i64 op]) 3 [.int .i64 (s.calls + 1)]) ip ia iN ic := by
  obtain ⟨h1, h2⟩ := h.sv.low op hV
  have hF : Fr (isV g) Ox V Ox V' := h1.mono (fun _ e => .inl e)
  exact ⟨hF, h.fr hF h2⟩
theorem fr_VI {g : Nat} {O O' : Own} {W V : World} (h : Fr (isI g) O W O' V) : Fr (isV g) O W O' V := h.mono (fun _ e => .inr e)
theorem fr_VS {g : Nat} {O O' : Own} {W V : World} (h : Fr (isS g) O W O' V) : Fr (isV g) O W O' V := h.mono (fun _ e => .inr (isI_S e))
/-- Once the table is full it stays as it is. -/
theorem nmS_full {N args : List (List UInt8)} : ∀ {c d : Nat}, c ≤ d → nmC N args c ≠ 0 → nmS N args d = nmS N args c
  | c, d, h, hc => by
    have hf : (nmS N args c).length = 256 := by
      unfold nmC internF at hc
      by_cases e : lookF (nmS N args c) (args.getD c []) ≠ -1
      · rw [if_pos e] at hc; exact absurd rfl hc
      · rw [if_neg e] at hc
        by_cases e2 : (nmS N args c).length = 256
        · exact e2
        · rw [if_neg e2] at hc; exact absurd rfl hc
    obtain ⟨j, rfl⟩ : ∃ j, d = c + j := ⟨d - c, by omega⟩
    clear h
    induction j with
    | zero => rfl
    | succ j ih =>
      show (internF (nmS N args (c + j)) (args.getD (c + j) [])).2.2 = _
      rw [ih]
      unfold internF
      by_cases e : lookF (nmS N args c) (args.getD (c + j) []) ≠ -1
      · rw [if_pos e]
      · rw [if_neg e, if_pos hf]
/-- The constants of a fact interned, plainly. -/
def intF (N args : List (List UInt8)) : Int × Tup × List (List UInt8) := (intCode N args args.length, (if intCode N args args.length = 0 then mkT (nmV N args) args.length else Vector.replicate 4 (0 : Int)), nmS N args args.length)
theorem intPost_X {B : Nat} {O : Own} {W : World} {g bi : Nat} {s : InsS} {args : List (List UInt8)} {e : Ending} {V : World} (h : IntPost B O W g bi s args e V) : ∃ O', e = .returned (.tuple #[.agg (arr i64v (intF s.N args).2.1).toArray, .int .i64 (intF s.N args).1]) ∧ Fr (isS g) O W O' V ∧ InsAt B O' V g bi ⟨s.p, (intF s.N args).2.2, s.R, s.U, s.live⟩ := by
  obtain ⟨O', hF, h | h⟩ := h
  · obtain ⟨h1, h2, h3⟩ := h
    have hc : intCode s.N args args.length = 0 := intCode_zero h1
    refine ⟨O', ?_, hF, h3⟩
    rw [h2]; unfold intF; rw [if_pos hc, hc]
  · obtain ⟨c, hc, h1, h2, h3, h4⟩ := h
    have hcd : intCode s.N args args.length = nmC s.N args c := intCode_ne h1 h2 hc
    refine ⟨O', ?_, hF, ?_⟩
    · rw [h3]; unfold intF; rw [if_neg (by rw [hcd]; exact h2), hcd]
    · have e1 : nmS s.N args (c + 1) = nmS s.N args c := nmS_full (by omega) h2
      have e2 : nmS s.N args args.length = nmS s.N args c := nmS_full (by omega) h2
      rw [e1] at h4
      show InsAt B O' V g bi ⟨s.p, nmS s.N args args.length, s.R, s.U, s.live⟩
      rw [e2]
      exact h4
/-- One fact inserted, plainly. -/
def inC (t : InsS) (pr : Nat) (args : List (List UInt8)) : Change := ⟨false, (pr : Int), (intF t.N args).2.1⟩
def Sv.roomy (s : Sv) (t1 : InsS) (co : Int) : Sv := ⟨some t1, s.img, s.op, s.calls, upR s.rst 252 (s.rst 252 + co)⟩
def InsS.tab (t : InsS) (N : List (List UInt8)) : InsS := ⟨t.p, N, t.R, t.U, t.live⟩
def InsS.rel (t : InsS) (R : List (List Tup)) : InsS := ⟨t.p, t.N, R, t.U, t.live⟩
def Sv.low (s : Sv) (t : InsS) (op : Int) : Sv := ⟨some t, s.img, op, s.calls + 1, s.rst⟩
def inR (s : Sv) (t : InsS) (pr : Nat) (args : List (List UInt8)) (rep : Reply) (s' : Sv) : Prop :=
  (cuF t.p pr args.length ≠ 0 ∧ rep = repZ (cuF t.p pr args.length) 2 (-1) ∧ s' = s) ∨
  (cuF t.p pr args.length = 0 ∧ ∃ mc t1 co, MrR t [(false, (pr : Int), args)] mc t1 co ∧
    ((mc ≠ 0 ∧ rep = repZ mc 2 (-1) ∧ s' = s.roomy t1 co) ∨
    (mc = 0 ∧ (((intF t1.N args).1 ≠ 0 ∧ rep = repZ 17 2 (-1) ∧ s' = s.roomy (t1.tab (intF t1.N args).2.2) co) ∨
      ((intF t1.N args).1 = 0 ∧ ∃ code ix R', BatR t1.p t1.R [inC t1 pr args] code ix R' ∧
        ((code ≠ 0 ∧ rep = repZ code 2 (-1) ∧ s' = (s.roomy t1 co).low (t1.tab (intF t1.N args).2.2) 2) ∨
         (code = 0 ∧ rep = repZ 0 2 (-1) ∧ s' = (s.roomy t1 co).low (setS ((t1.tab (intF t1.N args).2.2).rel R') (inC t1 pr args)) 2)))))))
theorem its_one {W : World} {b : Nat} {d : Bool} {p : Int} {aa : Option Addr} {n ac : Nat} {args : List (List UInt8)} (hb : blk W b = some (itemE d p aa n ac)) (hA : Rw encS 1 W aa n args) : ItsC W (some ⟨b, 0, none⟩) 1 [(d, p, args)] := by
  refine ⟨[(d, p, aa, n, ac)], ⟨rfl, fun i x hx => ⟨b, _, rfl, hb, Nat.le_refl _, ?_⟩⟩, rfl, fun i x it hx hi => ?_⟩
  · cases i with
    | zero => cases hx; rfl
    | succ i => cases hx
  · cases i with
    | zero => cases hx; cases hi; exact ⟨rfl, rfl, hA⟩
    | succ i => cases hx
/-- A scratch block is written. -/
theorem HC.put99 {O : Own} {W : World} {bs b4 : Nat} {Ox : Own} {V : World} {g : Nat} {s : Sv} {CS : List Value} {ip ia : Option Addr} {iN ic : Nat} (h : HC O W bs b4 Ox V g s CS ip ia iN ic) {b : Nat} (hb : Ox b = .a 9 9) (hne : b ≠ b4 ∧ W.heap.size ≤ b) (C : List Value) : HC O W bs b4 Ox (put V b C) g s CS ip ia iN ic :=
  ⟨h.kp.put_new hne.2 _, h.sv.put99 hb _, h.lo, by rw [blk_put, if_neg (Ne.symm hne.1)]; exact h.rc, by rw [free_put]; exact h.rf, h.ro⟩
theorem intF_tok {N args : List (List UInt8)} (hN : N.length ≤ 256) (hn : args.length ≤ 4) (h : (intF N args).1 = 0) : TOk (intF N args).2.1 := by
  unfold intF at h ⊢
  dsimp only at h ⊢
  rw [if_pos h]
  exact nmT_ok hN hn (intCode_all h)
end Go.Proofs.Qxb6500787aGreat
