
import Derived.Test.Qxb6500787aGreatTu
import Derived.StillTailTactics
import Derived.Deep.QuietTactic
import Derived.BigQuiet
import Derived.Deep.RegionHeld
import Derived.Deep.CutRange
import Derived.Laws.ResultCell
import Derived.Laws.Rows
import Derived.DeepKeys
import Derived.DataBytes
import Derived.Laws.StructEq
import Derived.Laws.AppendOwn
import Derived.Laws.MakeOwn
import Derived.Lib.AppendStr
set_option linter.unusedSimpArgs false
set_option linter.unusedVariables false
namespace Go.Proofs.Qxb6500787aGreat
open Go.RowKit Go.Blk
attribute [local go_sem ↓] execOp_load execOp_store execOp_alloc
attribute [local go_sem] Tryz.ld26 Tryz.st26 Tryz.ld27 Tryz.st27 Tryz.ld28 Tryz.st28 Tryz.ld3 Tryz.st3 Tryz.ld29 Tryz.st29 Tryz.ld44 Tryz.st44 Tryz.ld4 Tryz.st4 Tryz.ld50 Tryz.st50 Tryz.ld32 Tryz.st32 Tryz.ld49 Tryz.st49 Tryz.ld68 Tryz.st68 Tryz.ld9 Tryz.st9 Tryz.ld40 Tryz.st40 Tryz.ld138 Tryz.st138 Tryz.ld139 Tryz.st139 Tryz.ld146 Tryz.st146 Tryz.ld183 Tryz.st183 Tryz.ld184 Tryz.st184 Tryz.ld192 Tryz.st192 Tryz.ld195 Tryz.st195 Tryz.ld217 Tryz.st217 Tryz.ld159 Tryz.st159 Tryz.ld142 Tryz.st142 Tryz.ld2 Tryz.st2 Tryz.ld5 Tryz.st5 Tryz.ld12 Tryz.st12 Tryz.ld21 Tryz.st21 Tryz.ld22 Tryz.st22 Tryz.ld24 Tryz.st24 Tryz.ld58 Tryz.st58 Tryz.ld97 Tryz.st97 Tryz.ld101 Tryz.st101 Tryz.ld116 Tryz.st116 Tryz.ld121 Tryz.st121 Tryz.ld135 Tryz.st135 Tryz.ld136 Tryz.st136 Tryz.ld143 Tryz.st143 Tryz.ld148 Tryz.st148 Tryz.ld154 Tryz.st154 Tryz.ld173 Tryz.st173 Tryz.ld187 Tryz.st187 Tryz.ld222 Tryz.st222 Tryz.ld241 Tryz.st241 Tryz.ld248 Tryz.st248 Tryz.ld268 Tryz.st268 Tryz.ld272 Tryz.st272 Tryz.ld153 Tryz.st153 Tryz.ld255 Tryz.st255 Tryz.ld256 Tryz.st256 Tryz.ld129 Tryz.st129 Tryz.ld152 Tryz.st152 Tryz.ld31 Tryz.st31 Tryz.ld46 Tryz.st46 Tryz.ld52 Tryz.st52 Tryz.ld54 Tryz.st54 Tryz.ld60 Tryz.st60 Tryz.ld70 Tryz.st70 Tryz.ld74 Tryz.st74 Tryz.ld93 Tryz.st93 Tryz.ld141 Tryz.st141 Tryz.ld151 Tryz.st151 Tryz.ld170 Tryz.st170 Tryz.ld186 Tryz.st186 Tryz.ld189 Tryz.st189 Tryz.ld194 Tryz.st194 Tryz.ld197 Tryz.st197 Tryz.ld219 Tryz.st219 Tryz.ld224 Tryz.st224 Tryz.ld230 Tryz.st230 Tryz.ld235 Tryz.st235 Tryz.ld243 Tryz.st243 Tryz.ld247 Tryz.st247 Tryz.ld252 Tryz.st252 Tryz.ld258 Tryz.st258 Tryz.al153 Tryz.al255 Tryz.al256 Tryz.al129 Tryz.al152 Tryz.al31 Tryz.al46 Tryz.al52 Tryz.al54 Tryz.al60 Tryz.al70 Tryz.al74 Tryz.al93 Tryz.al141 Tryz.al151 Tryz.al170 Tryz.al186 Tryz.al189 Tryz.al194 Tryz.al197 Tryz.al219 Tryz.al224 Tryz.al230 Tryz.al235 Tryz.al243 Tryz.al247 Tryz.al252 Tryz.al258
attribute [local go_sem] Request.length_enc Request.ok_enc Request.all_get Request.all_set Request.kind_get Request.kind_set Request.blob_get Request.blob_set Request.items_get Request.items_set Request.pred_get Request.pred_set Request.slots_get Request.slots_set Trace.length_enc Trace.ok_enc Trace.all_get Trace.all_set Trace.op_get Trace.op_set Trace.calls_get Trace.calls_set Item.length_enc Item.ok_enc Item.all_get Item.all_set Item.del_get Item.del_set Item.pred_get Item.pred_set Item.args_get Item.args_set Reply.length_enc Reply.ok_enc Reply.all_get Reply.all_set Reply.code_get Reply.code_set Reply.kind_get Reply.kind_set Reply.index_get Reply.index_set Reply.yes_get Reply.yes_set Reply.preds_get Reply.preds_set Reply.rules_get Reply.rules_set Reply.arity_get Reply.arity_set Reply.rows_get Reply.rows_set Reply.fact_get Reply.fact_set Reply.fact_del_get Reply.fact_del_set Reply.fact_pred_get Reply.fact_pred_set Reply.fact_args_get Reply.fact_args_set GEntry.length_enc GEntry.ok_enc GEntry.all_get GEntry.all_set GEntry.seq_get GEntry.seq_set GEntry.kind_get GEntry.kind_set GEntry.code_get GEntry.code_set GOp.length_enc GOp.ok_enc GOp.all_get GOp.all_set GOp.kind_get GOp.kind_set GOp.raw_get GOp.raw_set Reader.length_enc Reader.ok_enc Reader.all_get Reader.all_set Reader.buf_get Reader.buf_set Reader.at__get Reader.at__set Slot.length_enc Slot.ok_enc Slot.all_get Slot.all_set Slot.bound_get Slot.bound_set Slot.name_get Slot.name_set Session.length_enc Session.ok_enc Session.all_get Session.all_set Session.svc_get Session.svc_set Session.buf_get Session.buf_set Session.closed_get Session.closed_set GProgram.length_enc GProgram.ok_enc GProgram.all_get GProgram.all_set GProgram.pool_get GProgram.pool_set GProgram.preds_get GProgram.preds_set GProgram.rules_get GProgram.rules_set GProgram.strata_get GProgram.strata_set PredInfo.length_enc PredInfo.ok_enc PredInfo.all_get PredInfo.all_set PredInfo.arity_get PredInfo.arity_set PredInfo.base_get PredInfo.base_set PredInfo.stratum_get PredInfo.stratum_set Change.length_enc Change.ok_enc Change.all_get Change.all_set Change.del_get Change.del_set Change.pred_get Change.pred_set Change.t_get Change.t_set Store.length_enc Store.ok_enc Store.all_get Store.all_set Store.names_get Store.names_set Store.arity_get Store.arity_set Store.rows_get Store.rows_set Src.length_enc Src.ok_enc Src.all_get Src.all_set Src.b_get Src.b_set Src.at__get Src.at__set Atom.length_enc Atom.ok_enc Atom.all_get Atom.all_set Atom.pred_get Atom.pred_set Atom.args_get Atom.args_set GRule.length_enc GRule.ok_enc GRule.all_get GRule.all_set GRule.head_get GRule.head_set GRule.body_get GRule.body_set GRule.head_pred_get GRule.head_pred_set GRule.head_args_get GRule.head_args_set Cert.length_enc Cert.ok_enc Cert.all_get Cert.all_set Cert.names_get Cert.names_set Cert.nodes_get Cert.nodes_set Fact.length_enc Fact.ok_enc Fact.all_get Fact.all_set Fact.pred_get Fact.pred_set Fact.t_get Fact.t_set Literal.length_enc Literal.ok_enc Literal.all_get Literal.all_set Literal.neg_get Literal.neg_set Literal.atom_get Literal.atom_set Literal.atom_pred_get Literal.atom_pred_set Literal.atom_args_get Literal.atom_args_set Engine.length_enc Engine.ok_enc Engine.all_get Engine.all_set Engine.prog_get Engine.prog_set Engine.st_get Engine.st_set SrcCertm.length_enc SrcCertm.ok_enc SrcCertm.all_get SrcCertm.all_set SrcCertm.b_get SrcCertm.b_set SrcCertm.at__get SrcCertm.at__set GNode.length_enc GNode.ok_enc GNode.all_get GNode.all_set GNode.rule_get GNode.rule_set GNode.pred_get GNode.pred_set GNode.vals_get GNode.vals_set GNode.refs_get GNode.refs_set Term.length_enc Term.ok_enc Term.all_get Term.all_set Term.var_get Term.var_set Term.n_get Term.n_set Env.length_enc Env.ok_enc Env.all_get Env.all_set Env.val_get Env.val_set Env.set_get Env.set_set
attribute [local go_sem] size_put size_ext blk_put free_put blk_alloc free_alloc blk_drew free_drew blk_ext free_ext lookOr_some putOr_some segAt_some cellAt_some storeIn_some put_put put_alloc_new length_arr ok_arr_u8 ok_arr_u32 ok_arr_u64 ok_arr_i64 ok_arr_sl cellsV_agg cellsV_int cellsV_bool cellsV_string cellsV_pointer cellsV_slice cellsV_sl ok_int ok_bool ok_string ok_pointer ok_slice ok_sl toList_arr seg_arr set_arr nth_splice nth_splice0 seg_splice seg_splice0 splice_splice splice_splice0 length_splice_if
attribute [local go_sem ↓] execOp_box
attribute [local go_sem] box_run nth_arr_u8 put_arr_u8 blk_drewN free_drewN put_drewN blk_raw free_raw
/-- What a reader's function builds: only the reader's block and new memory change. -/
def OB (br : Nat) : Own := fun k => if k = br then .a 6 0 else .a 6 2
structure Bld (br : Nat) (W : World) (O : Own) (V : World) : Prop where
  fr : Fr (fun l => l = .a 6 0) (OB br) W O V
  hbr : br < W.heap.size
theorem Bld.refl {br : Nat} {W : World} (h : br < W.heap.size) : Bld br W (OB br) W := ⟨Fr.refl _ _ _, h⟩
theorem Bld.own {br : Nat} {W : World} {O : Own} {V : World} (h : Bld br W O V) : O br = .a 6 0 := (h.fr.keep br h.hbr).trans (if_pos rfl)
theorem Bld.old {br : Nat} {W : World} {O : Own} {V : World} (h : Bld br W O V) {k : Nat} (hk : k < W.heap.size) : O k = .a 6 0 ∨ O k = .a 6 2 := by
  rw [h.fr.keep k hk]
  unfold OB
  split
  · exact .inl rfl
  · exact .inr rfl
theorem Bld.step {br : Nat} {W : World} {O : Own} {V : World} (h : Bld br W O V) {L : Lab → Prop} {O' : Own} {V' : World} (hF : Fr L O V O' V') (hl : ¬ L (.a 6 2)) : Bld br W O' V' := by
  refine ⟨⟨hF.os.trans h.fr.os, hF.tape.trans h.fr.tape, hF.output.trans h.fr.output, Nat.le_trans h.fr.size hF.size, fun k hk => (hF.keep k (Nat.lt_of_lt_of_le hk h.fr.size)).trans (h.fr.keep k hk), fun k hk hn => ?_⟩, h.hbr⟩
  have hb : k ≠ br := fun e => hn (by rw [e]; exact if_pos rfl)
  have ho : O k = .a 6 2 := (h.fr.keep k hk).trans (if_neg hb)
  exact (hF.block k (Nat.lt_of_lt_of_le hk h.fr.size) (by rw [ho]; exact hl)).trans (h.fr.block k hk hn)
theorem Bld.side {br : Nat} {W : World} {O : Own} {V : World} (h : Bld br W O V) : Side (isR br) W V := by
  refine ⟨h.fr.os, h.fr.tape, h.fr.output, h.fr.size, fun k hk hd => h.fr.block k hk (fun e => ?_)⟩
  have hb : k ≠ br := hd
  unfold OB at e
  rw [if_neg hb] at e
  have := (Lab.a.inj e).2
  omega
theorem Bld.call {br : Nat} {W : World} {O : Own} {V V' : World} (h : Bld br W O V) (hs : Side (isR br) V V') : Fr (fun l => l = .a 6 0) O V (lab O V.heap.size .no) V' := ⟨hs.os, hs.tape, hs.output, hs.size, fun k hk => lab_lt hk, fun k hk hn => hs.block k hk (fun e => hn (by have e' : k = br := e; rw [e']; exact h.own))⟩
theorem Bld.sub {br : Nat} {W : World} {O : Own} {V : World} (h : Bld br W O V) : Sub (core O V) (newc W.heap.size V) := fun b C hb => by
  obtain ⟨h1, h2⟩ := core_blk hb
  refine blk_newc h1 (Nat.le_of_not_lt fun hk => ?_)
  rcases h.old hk with e | e <;> (rw [e] at h2; cases h2)
/-- A scratch cell of the function's own. -/
structure Sc (W : World) (O : Own) (V : World) (b : Nat) (C : List Value) : Prop where
  cell : blk V b = some C
  fre : free V b = true
  own : O b = .a 0 9
  low : W.heap.size ≤ b
theorem Sc.fr {W : World} {O : Own} {V : World} {b : Nat} {C : List Value} (h : Sc W O V b C) {L : Lab → Prop} {O' : Own} {V' : World} (hF : Fr L O V O' V') (hl : ¬ L (.a 0 9)) : Sc W O' V' b C := ⟨hF.blk h.cell (by rw [h.own]; exact hl), hF.free h.cell h.fre (by rw [h.own]; exact hl), (hF.keep b (blk_lt h.cell)).trans h.own, h.low⟩
theorem Sc.put {W : World} {O : Own} {V : World} {b : Nat} {C : List Value} (h : Sc W O V b C) (C' : List Value) : Fr (fun l => l = .a 0 9) O V O (Blk.put V b C') ∧ Sc W O (Blk.put V b C') b C' := ⟨(Fr.refl _ _ _).put (L := fun l => l = .a 0 9) h.own _, by rw [blk_put, if_pos rfl, h.cell]; rfl, by rw [free_put]; exact h.fre, h.own, h.low⟩
theorem Sc.putO {W : World} {O : Own} {V : World} {b b' : Nat} {C C2 : List Value} (h : Sc W O V b C) (hne : b ≠ b') : Sc W O (Blk.put V b' C2) b C := ⟨by rw [blk_put, if_neg hne]; exact h.cell, by rw [free_put]; exact h.fre, h.own, h.low⟩
theorem Sc.new {W : World} {O : Own} {V : World} (hw : W.heap.size ≤ V.heap.size) (A : Array Value) (e : TypeId) : Fr (fun _ => False) O V (lab O V.heap.size (.a 0 9)) (V.alloc (.cells A e)) ∧ Sc W (lab O V.heap.size (.a 0 9)) (V.alloc (.cells A e)) V.heap.size A.toList := by
  have hx : V.Extends (V.alloc (.cells A e)) := extends_alloc (ext_Ext (Ext.refl _)) _
  refine ⟨⟨hx.os, hx.tape, hx.output, hx.size, fun k hk => lab_lt hk, fun k hk _ => hx.block k hk⟩, ?_, ?_, lab_ge (Nat.le_refl _), hw⟩
  · rw [blk_alloc, if_pos rfl]
  · rw [free_alloc, if_pos rfl]
theorem Rdr.fr {w0 : World} {br : Nat} {a : Option Addr} {n c p : Nat} {O : Own} {V : World} (h : Rdr w0 br a n c p V) (ho : O br = .a 6 0) {L : Lab → Prop} {O' : Own} {V' : World} (hF : Fr L O V O' V') (hl : ¬ L (.a 6 0)) (hw : ∀ k, k < w0.heap.size → ¬ L (O k)) : Rdr w0 br a n c p V' := ⟨hF.blk h.1 (by rw [ho]; exact hl), hF.free h.1 h.2.1 (by rw [ho]; exact hl), hF.extends h.2.2.1 hw, h.2.2.2.1, h.2.2.2.2⟩
/-- The old memory of a reader is older than what its functions build. -/
theorem Bld.rdr {w0 : World} {br : Nat} {a : Option Addr} {n c p : Nat} {W : World} {O : Own} {V : World} (h : Bld br W O V) (h0 : w0.heap.size ≤ br) (hR : Rdr w0 br a n c p V) {L : Lab → Prop} {O' : Own} {V' : World} (hF : Fr L O V O' V') (hl : ¬ L (.a 6 0)) (hl2 : ¬ L (.a 6 2)) : Rdr w0 br a n c p V' := hR.fr h.own hF hl (fun k hk => by
  have hb := h.hbr
  rcases h.old (k := k) (by omega) with e | e
  · rw [e]; exact hl
  · rw [e]; exact hl2)
/-- The next byte, or the end. -/
def NxR (xs : List UInt8) (p k : Nat) (ok : Bool) (p' : Nat) : Prop := (ok = true ∧ ∃ x, xs[p]? = some x ∧ k = x.toNat ∧ p' = p + 1) ∨ (ok = false ∧ xs.length ≤ p ∧ k = 0 ∧ p' = p)
def NxPost (w0 : World) (br : Nat) (a : Option Addr) (n c p : Nat) (xs : List UInt8) (W : World) (e : Ending) (W' : World) : Prop := ∃ k ok p', e = .returned (.tuple #[.int .i64 ((k : Nat) : Int), .bool ok]) ∧ NxR xs p k ok p' ∧ Rdr w0 br a n c p' W' ∧ Side (isR br) W W'
theorem NxR.lt {xs : List UInt8} {p k : Nat} {ok : Bool} {p' : Nat} (h : NxR xs p k ok p') : k ≤ 255 := by
  rcases h with ⟨_, x, _, rfl, _⟩ | ⟨_, _, rfl, _⟩
  · have := x.toNat_lt; omega
  · omega
attribute [local go_sem] rd_len rd0 rd1 rd_set1
attribute [local go_sem ↓] execOp_slice execOp_convert
set_option maxRecDepth 20000 in
set_option maxHeartbeats 1000000 in
theorem nxt_any (w0 W : World) (br : Nat) (a : Option Addr) (n c p : Nat) (hR : Rdr w0 br a n c p W) (hn : n ≤ 65536) (hnc : n ≤ c) (hc : c ≤ 9223372036854775807) (xs : List UInt8) (hX : Bs w0 a n xs) : Calls Tryz.prog 67 #[.pointer (some ⟨br, 0, none⟩)] W (NxPost w0 br a n c p xs W) := by
  obtain ⟨Q, hQ⟩ : ∃ Q, Q = NxPost w0 br a n c p xs W := ⟨_, rfl⟩
  rw [← hQ]
  have HQ := hid_of hQ
  have HR : Hid (Rdr w0 br a n c p W) := hR
  have HX : Hid (Bs w0 a n xs) := hX
  obtain ⟨hb, hf, hext, hwb, hpn⟩ := hR
  have hxl := hX.1
  clear hX hQ
  by_cases hp : p = n
  · have p1 : (n : Int) ≤ (p : Int) := by omega
    have HP : Hid (∀ k, Q (.returned (.tuple #[.int .i64 0, .bool false])) (W.drewN k)) := fun k => by
      rw [HQ.out]
      exact ⟨0, false, p, rfl, .inr ⟨rfl, by omega, rfl, rfl⟩, HR.out.drewN k, (Side.refl _ _).drewN k⟩
    clear hext hxl
    go_enter Tryz.func67, Tryz.ntmps67
    repeat go_step
    go_quiet (fail)
    go_wp2_with fail
    try go_ret2
    exact HP.out _
  have hpl : p < n := by omega
  obtain ⟨x, hx⟩ : ∃ x, xs[p]? = some x := ⟨_, List.getElem?_eq_getElem (by omega)⟩
  obtain ⟨b, o, C, rfl, hC, hCl, hv⟩ := (HX.out.grow hext).nat hx
  obtain ⟨k, hk⟩ : ∃ k, k = x.toNat := ⟨_, rfl⟩
  rw [← hk] at hv
  have hk255 : k ≤ 255 := by have := x.toNat_lt; omega
  have hbb : b < w0.heap.size := by obtain ⟨b', o', C', e1, e2, _⟩ := HX.out.2.1 (by omega); injection e1 with e1; injection e1 with e1; rw [e1]; exact blk_lt e2
  have nb : ¬ b = br := by omega
  have p0 : (0 : Int) ≤ (p : Int) := by omega
  have p1 : ¬ ((n : Int) ≤ (p : Int)) := by omega
  have p3 : (p : Int) < (n : Int) := by omega
  have p2 : ((p : Int)).toNat = p := by omega
  have hw : IntKind.i64.wrap ((k : Nat) : Int) = (k : Int) := by rw [IntKind.wrap_i64]; omega
  have hw1 : IntKind.i64.wrap ((p : Int) + 1) = (p : Int) + 1 := by rw [IntKind.wrap_i64]; omega
  have hw2 : IntKind.i64.wrap ((p : Int) + 1 - 1) = (p : Int) := by rw [IntKind.wrap_i64]; omega
  have c1 : o + p < C.length := by omega
  have HP : Hid (∀ k9, Q (.returned (.tuple #[.int .i64 (k : Int), .bool true])) ((put W br (rdE (some ⟨b, o, none⟩) n c ((p + 1 : Nat) : Int))).drewN k9)) := fun k9 => by
    rw [HQ.out]
    exact ⟨k, true, p + 1, rfl, .inl ⟨rfl, x, hx, hk, rfl⟩, (HR.out.step (q := p + 1) (by omega)).drewN _, (Side.put (D := isR br) (Side.refl _ _) rfl _).drewN _⟩
  have e1 : ((p + 1 : Nat) : Int) = (p : Int) + 1 := by omega
  rw [e1] at HP
  clear hx hext hxl hk hp hpl e1
  go_enter Tryz.func67, Tryz.ntmps67
  repeat go_step
  go_quiet (fail)
  repeat go_step
  go_quiet (fail)
  go_wp2_with fail
  try go_ret2
  exact HP.out _
set_option maxRecDepth 20000 in
set_option maxHeartbeats 1000000 in
theorem one_any (w0 W : World) (br : Nat) (a : Option Addr) (n c p : Nat) (hR : Rdr w0 br a n c p W) (hn : n ≤ 65536) (hnc : n ≤ c) (hc : c ≤ 9223372036854775807) (xs : List UInt8) (hX : Bs w0 a n xs) : Calls Tryz.prog 165 #[.pointer (some ⟨br, 0, none⟩)] W (NxPost w0 br a n c p xs W) := by
  obtain ⟨Q, hQ⟩ : ∃ Q, Q = NxPost w0 br a n c p xs W := ⟨_, rfl⟩
  rw [← hQ]
  have HQ := hid_of hQ
  have HR : Hid (Rdr w0 br a n c p W) := hR
  have HX : Hid (Bs w0 a n xs) := hX
  obtain ⟨hb, hf, hext, hwb, hpn⟩ := hR
  have hxl := hX.1
  clear hX hQ
  by_cases hp : p = n
  · have p1 : (n : Int) ≤ (p : Int) := by omega
    have HP : Hid (∀ k, Q (.returned (.tuple #[.int .i64 0, .bool false])) (W.drewN k)) := fun k => by
      rw [HQ.out]
      exact ⟨0, false, p, rfl, .inr ⟨rfl, by omega, rfl, rfl⟩, HR.out.drewN k, (Side.refl _ _).drewN k⟩
    clear hext hxl
    go_enter Tryz.func165, Tryz.ntmps165
    repeat go_step
    go_quiet (fail)
    go_wp2_with fail
    try go_ret2
    exact HP.out _
  have hpl : p < n := by omega
  obtain ⟨x, hx⟩ : ∃ x, xs[p]? = some x := ⟨_, List.getElem?_eq_getElem (by omega)⟩
  obtain ⟨b, o, C, rfl, hC, hCl, hv⟩ := (HX.out.grow hext).nat hx
  obtain ⟨k, hk⟩ : ∃ k, k = x.toNat := ⟨_, rfl⟩
  rw [← hk] at hv
  have hk255 : k ≤ 255 := by have := x.toNat_lt; omega
  have hbb : b < w0.heap.size := by obtain ⟨b', o', C', e1, e2, _⟩ := HX.out.2.1 (by omega); injection e1 with e1; injection e1 with e1; rw [e1]; exact blk_lt e2
  have nb : ¬ b = br := by omega
  have p0 : (0 : Int) ≤ (p : Int) := by omega
  have p1 : ¬ ((n : Int) ≤ (p : Int)) := by omega
  have p3 : (p : Int) < (n : Int) := by omega
  have p2 : ((p : Int)).toNat = p := by omega
  have hw : IntKind.i64.wrap ((k : Nat) : Int) = (k : Int) := by rw [IntKind.wrap_i64]; omega
  have hw1 : IntKind.i64.wrap ((p : Int) + 1) = (p : Int) + 1 := by rw [IntKind.wrap_i64]; omega
  have hw2 : IntKind.i64.wrap ((p : Int) + 1 - 1) = (p : Int) := by rw [IntKind.wrap_i64]; omega
  have c1 : o + p < C.length := by omega
  have HP : Hid (∀ k9, Q (.returned (.tuple #[.int .i64 (k : Int), .bool true])) ((put W br (rdE (some ⟨b, o, none⟩) n c ((p + 1 : Nat) : Int))).drewN k9)) := fun k9 => by
    rw [HQ.out]
    exact ⟨k, true, p + 1, rfl, .inl ⟨rfl, x, hx, hk, rfl⟩, (HR.out.step (q := p + 1) (by omega)).drewN _, (Side.put (D := isR br) (Side.refl _ _) rfl _).drewN _⟩
  have e1 : ((p + 1 : Nat) : Int) = (p : Int) + 1 := by omega
  rw [e1] at HP
  clear hx hext hxl hk hp hpl e1
  go_enter Tryz.func165, Tryz.ntmps165
  repeat go_step
  go_quiet (fail)
  repeat go_step
  go_quiet (fail)
  go_wp2_with fail
  try go_ret2
  exact HP.out _
/-- A byte that must be 0 or 1. -/
def bitD : List UInt8 → Int × Bool × List UInt8
  | [] => (19, false, [])
  | x :: r => if 1 < x.toNat then (23, false, []) else (0, decide (x.toNat = 1), r)
theorem bitD_cons (x : UInt8) (ys : List UInt8) : bitD (x :: ys) = if 1 < x.toNat then (23, false, []) else (0, decide (x.toNat = 1), ys) := rfl
theorem NxR.cases {xs : List UInt8} {p k : Nat} {ok : Bool} {p' : Nat} (h : NxR xs p k ok p') : (ok = true ∧ ∃ x, k = x.toNat ∧ xs.drop p = x :: xs.drop p') ∨ (ok = false ∧ xs.drop p = [] ∧ p' = p) := by
  rcases h with ⟨h1, x, h2, h3, h4⟩ | ⟨h1, h2, h3, h4⟩
  · exact .inl ⟨h1, x, h3, by rw [h4]; exact drop_at h2⟩
  · exact .inr ⟨h1, List.drop_of_length_le h2, h4⟩
set_option maxRecDepth 20000 in
set_option maxHeartbeats 1000000 in
theorem bit_any (w0 W : World) (br : Nat) (a : Option Addr) (n c p : Nat) (hR : Rdr w0 br a n c p W) (hn : n ≤ 65536) (hnc : n ≤ c) (hc : c ≤ 9223372036854775807) (xs : List UInt8) (hX : Bs w0 a n xs) : Calls Tryz.prog 68 #[.pointer (some ⟨br, 0, none⟩)] W (TagPost w0 br a n c xs W (bitD (xs.drop p))) := by
  obtain ⟨Q, hQ⟩ : ∃ Q, Q = TagPost w0 br a n c xs W (bitD (xs.drop p)) := ⟨_, rfl⟩
  rw [← hQ]
  have HQ := hid_of hQ
  have hcall := nxt_any w0 W br a n c p hR hn hnc hc xs hX
  clear hQ hR hX
  go_enter Tryz.func68, Tryz.ntmps68
  go_wp2_with fail
  refine hcall.mono ?_
  rintro e W1 ⟨k, ok, p1, rfl, hN, hR1, hS1⟩
  have hk255 := hN.lt
  dsimp only
  rcases hN.cases with ⟨rfl, x, hx, hd⟩ | ⟨rfl, hd, hp⟩
  · by_cases h1 : 1 < k
    · have h1' : (1 : Int) < (k : Int) := by omega
      have HP : Hid (Q (.returned (.tuple #[.bool false, .int .i64 23])) W1) := by
        show Q _ _
        rw [HQ.out, hd, bitD_cons, if_pos (by omega)]
        exact ⟨rfl, p1, hR1, hS1, fun h => absurd h (by decide)⟩
      clear hN hR1 hS1 hd hx hcall
      go_wp2_with fail
      try go_ret2
      exact HP.out
    · have h1' : ¬ (1 : Int) < (k : Int) := by omega
      have HP : Hid (∀ bb, bb = decide (k = 1) → Q (.returned (.tuple #[.bool bb, .int .i64 0])) W1) := by
        intro bb hbb
        rw [HQ.out, hd, bitD_cons, if_neg (by omega), ← hx, hbb]
        exact ⟨rfl, p1, hR1, hS1, fun _ => rfl⟩
      clear hN hR1 hS1 hd hx hcall
      go_wp2_with fail
      try go_ret2
      refine HP.out _ ?_
      first | rfl | (by_cases h2 : k = 1 <;> simp [h2] <;> omega)
  · have HP : Hid (Q (.returned (.tuple #[.bool false, .int .i64 19])) W1) := by
      show Q _ _
      rw [HQ.out, hd]
      exact ⟨rfl, p1, hR1, hS1, fun h => absurd h (by decide)⟩
    clear hN hR1 hS1 hd hcall
    go_wp2_with fail
    try go_ret2
    exact HP.out
end Go.Proofs.Qxb6500787aGreat
