import Derived.Test.Qxb6500787aGreatEi
import Derived.Test.Qxb6500787aGreatYb
import Derived.Test.Qxb6500787aGreatBf

import Derived.StillTailTactics
import Derived.Deep.QuietTactic
import Derived.BigQuiet
import Derived.Deep.RegionHeld
import Derived.Deep.CutRange
import Derived.Laws.ResultCell
import Derived.Laws.Rows
import Derived.DeepKeys
import Derived.DataBytes
import Derived.Laws.StructEq
import Derived.Laws.AppendOwn
import Derived.Laws.MakeOwn
import Derived.Lib.AppendStr
set_option linter.unusedSimpArgs false
set_option linter.unusedVariables false
namespace Go.Proofs.Qxb6500787aGreat
open Go.RowKit Go.Blk
attribute [local go_sem ↓] execOp_load execOp_store execOp_alloc
attribute [local go_sem] Tryz.ld26 Tryz.st26 Tryz.ld27 Tryz.st27 Tryz.ld28 Tryz.st28 Tryz.ld3 Tryz.st3 Tryz.ld29 Tryz.st29 Tryz.ld44 Tryz.st44 Tryz.ld4 Tryz.st4 Tryz.ld50 Tryz.st50 Tryz.ld32 Tryz.st32 Tryz.ld49 Tryz.st49 Tryz.ld68 Tryz.st68 Tryz.ld9 Tryz.st9 Tryz.ld40 Tryz.st40 Tryz.ld138 Tryz.st138 Tryz.ld139 Tryz.st139 Tryz.ld146 Tryz.st146 Tryz.ld183 Tryz.st183 Tryz.ld184 Tryz.st184 Tryz.ld192 Tryz.st192 Tryz.ld195 Tryz.st195 Tryz.ld217 Tryz.st217 Tryz.ld159 Tryz.st159 Tryz.ld142 Tryz.st142 Tryz.ld2 Tryz.st2 Tryz.ld5 Tryz.st5 Tryz.ld12 Tryz.st12 Tryz.ld21 Tryz.st21 Tryz.ld22 Tryz.st22 Tryz.ld24 Tryz.st24 Tryz.ld58 Tryz.st58 Tryz.ld97 Tryz.st97 Tryz.ld101 Tryz.st101 Tryz.ld116 Tryz.st116 Tryz.ld121 Tryz.st121 Tryz.ld135 Tryz.st135 Tryz.ld136 Tryz.st136 Tryz.ld143 Tryz.st143 Tryz.ld148 Tryz.st148 Tryz.ld154 Tryz.st154 Tryz.ld173 Tryz.st173 Tryz.ld187 Tryz.st187 Tryz.ld222 Tryz.st222 Tryz.ld241 Tryz.st241 Tryz.ld248 Tryz.st248 Tryz.ld268 Tryz.st268 Tryz.ld272 Tryz.st272 Tryz.ld153 Tryz.st153 Tryz.ld255 Tryz.st255 Tryz.ld256 Tryz.st256 Tryz.ld129 Tryz.st129 Tryz.ld152 Tryz.st152 Tryz.ld31 Tryz.st31 Tryz.ld46 Tryz.st46 Tryz.ld52 Tryz.st52 Tryz.ld54 Tryz.st54 Tryz.ld60 Tryz.st60 Tryz.ld70 Tryz.st70 Tryz.ld74 Tryz.st74 Tryz.ld93 Tryz.st93 Tryz.ld141 Tryz.st141 Tryz.ld151 Tryz.st151 Tryz.ld170 Tryz.st170 Tryz.ld186 Tryz.st186 Tryz.ld189 Tryz.st189 Tryz.ld194 Tryz.st194 Tryz.ld197 Tryz.st197 Tryz.ld219 Tryz.st219 Tryz.ld224 Tryz.st224 Tryz.ld230 Tryz.st230 Tryz.ld235 Tryz.st235 Tryz.ld243 Tryz.st243 Tryz.ld247 Tryz.st247 Tryz.ld252 Tryz.st252 Tryz.ld258 Tryz.st258 Tryz.al153 Tryz.al255 Tryz.al256 Tryz.al129 Tryz.al152 Tryz.al31 Tryz.al46 Tryz.al52 Tryz.al54 Tryz.al60 Tryz.al70 Tryz.al74 Tryz.al93 Tryz.al141 Tryz.al151 Tryz.al170 Tryz.al186 Tryz.al189 Tryz.al194 Tryz.al197 Tryz.al219 Tryz.al224 Tryz.al230 Tryz.al235 Tryz.al243 Tryz.al247 Tryz.al252 Tryz.al258
attribute [local go_sem] Request.length_enc Request.ok_enc Request.all_get Request.all_set Request.kind_get Request.kind_set Request.blob_get Request.blob_set Request.items_get Request.items_set Request.pred_get Request.pred_set Request.slots_get Request.slots_set Trace.length_enc Trace.ok_enc Trace.all_get Trace.all_set Trace.op_get Trace.op_set Trace.calls_get Trace.calls_set Item.length_enc Item.ok_enc Item.all_get Item.all_set Item.del_get Item.del_set Item.pred_get Item.pred_set Item.args_get Item.args_set Reply.length_enc Reply.ok_enc Reply.all_get Reply.all_set Reply.code_get Reply.code_set Reply.kind_get Reply.kind_set Reply.index_get Reply.index_set Reply.yes_get Reply.yes_set Reply.preds_get Reply.preds_set Reply.rules_get Reply.rules_set Reply.arity_get Reply.arity_set Reply.rows_get Reply.rows_set Reply.fact_get Reply.fact_set Reply.fact_del_get Reply.fact_del_set Reply.fact_pred_get Reply.fact_pred_set Reply.fact_args_get Reply.fact_args_set GEntry.length_enc GEntry.ok_enc GEntry.all_get GEntry.all_set GEntry.seq_get GEntry.seq_set GEntry.kind_get GEntry.kind_set GEntry.code_get GEntry.code_set GOp.length_enc GOp.ok_enc GOp.all_get GOp.all_set GOp.kind_get GOp.kind_set GOp.raw_get GOp.raw_set Reader.length_enc Reader.ok_enc Reader.all_get Reader.all_set Reader.buf_get Reader.buf_set Reader.at__get Reader.at__set Slot.length_enc Slot.ok_enc Slot.all_get Slot.all_set Slot.bound_get Slot.bound_set Slot.name_get Slot.name_set Session.length_enc Session.ok_enc Session.all_get Session.all_set Session.svc_get Session.svc_set Session.buf_get Session.buf_set Session.closed_get Session.closed_set GProgram.length_enc GProgram.ok_enc GProgram.all_get GProgram.all_set GProgram.pool_get GProgram.pool_set GProgram.preds_get GProgram.preds_set GProgram.rules_get GProgram.rules_set GProgram.strata_get GProgram.strata_set PredInfo.length_enc PredInfo.ok_enc PredInfo.all_get PredInfo.all_set PredInfo.arity_get PredInfo.arity_set PredInfo.base_get PredInfo.base_set PredInfo.stratum_get PredInfo.stratum_set Change.length_enc Change.ok_enc Change.all_get Change.all_set Change.del_get Change.del_set Change.pred_get Change.pred_set Change.t_get Change.t_set Store.length_enc Store.ok_enc Store.all_get Store.all_set Store.names_get Store.names_set Store.arity_get Store.arity_set Store.rows_get Store.rows_set Src.length_enc Src.ok_enc Src.all_get Src.all_set Src.b_get Src.b_set Src.at__get Src.at__set Atom.length_enc Atom.ok_enc Atom.all_get Atom.all_set Atom.pred_get Atom.pred_set Atom.args_get Atom.args_set GRule.length_enc GRule.ok_enc GRule.all_get GRule.all_set GRule.head_get GRule.head_set GRule.body_get GRule.body_set GRule.head_pred_get GRule.head_pred_set GRule.head_args_get GRule.head_args_set Cert.length_enc Cert.ok_enc Cert.all_get Cert.all_set Cert.names_get Cert.names_set Cert.nodes_get Cert.nodes_set Fact.length_enc Fact.ok_enc Fact.all_get Fact.all_set Fact.pred_get Fact.pred_set Fact.t_get Fact.t_set Literal.length_enc Literal.ok_enc Literal.all_get Literal.all_set Literal.neg_get Literal.neg_set Literal.atom_get Literal.atom_set Literal.atom_pred_get Literal.atom_pred_set Literal.atom_args_get Literal.atom_args_set Engine.length_enc Engine.ok_enc Engine.all_get Engine.all_set Engine.prog_get Engine.prog_set Engine.st_get Engine.st_set SrcCertm.length_enc SrcCertm.ok_enc SrcCertm.all_get SrcCertm.all_set SrcCertm.b_get SrcCertm.b_set SrcCertm.at__get SrcCertm.at__set GNode.length_enc GNode.ok_enc GNode.all_get GNode.all_set GNode.rule_get GNode.rule_set GNode.pred_get GNode.pred_set GNode.vals_get GNode.vals_set GNode.refs_get GNode.refs_set Term.length_enc Term.ok_enc Term.all_get Term.all_set Term.var_get Term.var_set Term.n_get Term.n_set Env.length_enc Env.ok_enc Env.all_get Env.all_set Env.val_get Env.val_set Env.set_get Env.set_set
attribute [local go_sem] size_put size_ext blk_put free_put blk_alloc free_alloc blk_drew free_drew blk_ext free_ext lookOr_some putOr_some segAt_some cellAt_some storeIn_some put_put put_alloc_new length_arr ok_arr_u8 ok_arr_u32 ok_arr_u64 ok_arr_i64 ok_arr_sl cellsV_agg cellsV_int cellsV_bool cellsV_string cellsV_pointer cellsV_slice cellsV_sl ok_int ok_bool ok_string ok_pointer ok_slice ok_sl toList_arr seg_arr set_arr nth_splice nth_splice0 seg_splice seg_splice0 splice_splice splice_splice0 length_splice_if
attribute [local go_sem ↓] execOp_box
attribute [local go_sem] box_run nth_arr_u8 put_arr_u8 blk_drewN free_drewN put_drewN blk_raw free_raw

theorem MAo.kp {O O' : Own} {V V' : World} {bm : Nat} {m : MS} {Ce : List Value} {fa : Option Addr} {fc : Nat} (h : MAo O V bm m Ce fa fc) (hK : Kp O V O' V') : MAo O' V' bm m Ce fa fc := by
  obtain ⟨k1, k2⟩ := hK.keep bm (blk_lt h.cell) (by rw [h.own]; exact .inr ⟨5, 50, rfl, Nat.le_refl _⟩)
  exact ⟨(blk_of_heap k2).trans h.cell, (free_of_heap k2).trans h.fre, k1.trans h.own, h.len, h.ld, fun e => (h.pg e).sub hK.sub, h.fs, fun e => (h.fc e).sub hK.sub⟩
theorem on_fr {O : Own} {V V' : World} {bm : Nat} {Ce' : List Value} (hbm : O bm = .a 5 50) (hon : OnG V bm V' Ce') : Fr (fun y => y = .a 5 50) O V (lab O V.heap.size .no) V' := ⟨hon.os, hon.tape, hon.output, hon.size, fun k hk => lab_lt hk, fun k hk hn => hon.heap k hk (fun e => by rw [e] at hn; exact hn hbm)⟩
theorem on_sub {O : Own} {V V' : World} {bm : Nat} {Ce' : List Value} (hbm : O bm = .a 5 50) (hon : OnG V bm V' Ce') : Sub (core O V) (core (lab O V.heap.size .no) V') := Sub.cores fun b C hb ho => by
  have hne : b ≠ bm := fun e => by rw [e, hbm] at ho; cases ho
  exact ⟨(blk_of_heap (hon.heap b (blk_lt hb) hne)).trans hb, by rw [lab_lt (blk_lt hb)]; exact ho⟩
theorem LS.onm {Ob : Own} {Wb : World} {bs : Nat} {M : Int} {s : Sv} {O : Own} {g : Nat} {V V' : World} {bm : Nat} {Ce' : List Value} (h : LS Ob Wb bs M s O g V) (hbm : O bm = .a 5 50) (hnk : ¬ kept (Ob bm)) (hon : OnG V bm V' Ce') : LS Ob Wb bs M s (lab O V.heap.size .no) g V' := by
  obtain ⟨CS, ip, ia, iN, ic, hS⟩ := h.sv
  refine ⟨⟨hon.os.trans h.kp.os, hon.tape.trans h.kp.tape, hon.output.trans h.kp.output, Nat.le_trans h.kp.size hon.size, fun k hk hkp => ?_⟩, ⟨CS, ip, ia, iN, ic, hS.fr5 (fun y hy => ⟨50, hy⟩) (on_fr hbm hon)⟩, lab_free h.fr, fun k i j e => ?_, h.inv⟩
  · obtain ⟨e1, e2⟩ := h.kp.keep k hk hkp
    have hk' : k < V.heap.size := Nat.lt_of_lt_of_le hk h.kp.size
    exact ⟨by rw [lab_lt hk']; exact e1, (hon.heap k hk' (fun e => by rw [e] at hkp; exact hnk hkp)).trans e2⟩
  · by_cases hk : k < V.heap.size
    · rw [lab_lt hk] at e; exact h.lo k i j e
    · rw [lab_ge (by omega)] at e; cases e
theorem svR.fst {s s' : Sv} {M : Int} (hI : SvI M s) (hF : SvF s) {raw : List UInt8} {q : PRep} (h : svR s raw q s') : SvF s' := by
  obtain ⟨s1, h, rfl⟩ := h
  have h1 : SvF s1 := by
    rcases h with ⟨-, -, rfl⟩ | ⟨-, h⟩
    · exact hF
    · exact dsR.fst (s := s.clr) h (fun t ht => hI.ins t ht) hF
  exact h1
/-- Service and model in one memory. -/
structure JM (Ob : Own) (Wb : World) (bs bm : Nat) (M : Int) (s : Sv) (m : MS) (O : Own) (g : Nat) (V : World) : Prop where
  ls : LS Ob Wb bs M s O g V
  f : SvF s
  mo : ∃ Ce fa fc, MAo O V bm m Ce fa fc
  ag : AgS s m
  nk : ¬ kept (Ob bm)
theorem JM.drewN {Ob : Own} {Wb : World} {bs bm : Nat} {M : Int} {s : Sv} {m : MS} {O : Own} {g : Nat} {V : World} (h : JM Ob Wb bs bm M s m O g V) (n : Nat) : JM Ob Wb bs bm M s m O g (V.drewN n) := by
  obtain ⟨Ce, fa, fc, hm⟩ := h.mo
  exact ⟨h.ls.drewN n, h.f, ⟨Ce, fa, fc, hm.kp (Kp.fr ((Fr.refl (fun _ => False) _ _).drewN n) (fun _ _ e => e))⟩, h.ag, h.nk⟩
theorem AgS.msi {s : Sv} {m : MS} {M : Int} (h : AgS s m) (hI : SvI M s) : m.ld = true → MsI m := fun e => by
  rcases h with ⟨-, h⟩ | ⟨t, ht, h⟩
  · rw [h] at e; cases e
  · exact h.msi (hI.ins t ht)
def OL (bs : Nat) (l : Lab) : Own := lab (lab (lab (fun _ => .no) bs (.a 0 0)) (bs + 1) l) (bs + 2) .no
theorem OL_lt {bs : Nat} {l : Lab} {k : Nat} (h : k < bs) : OL bs l k = .no := by
  unfold OL
  rw [lab_lt (by omega), lab_lt (by omega), lab_lt h]
theorem OL_s {bs : Nat} {l : Lab} : OL bs l bs = .a 0 0 := by
  unfold OL
  rw [lab_lt (by omega), lab_lt (by omega), lab_ge (Nat.le_refl _)]
theorem OL_m {bs : Nat} {l : Lab} : OL bs l (bs + 1) = l := by
  unfold OL
  rw [lab_lt (by omega), lab_ge (Nat.le_refl _)]
theorem OL_ge {bs : Nat} {l : Lab} {k : Nat} (h : bs + 2 ≤ k) : OL bs l k = .no := by
  unfold OL
  rw [lab_ge h]
theorem OL_cases (bs : Nat) (l : Lab) (k : Nat) : OL bs l k = .no ∨ (k = bs ∧ OL bs l k = .a 0 0) ∨ (k = bs + 1 ∧ OL bs l k = l) := by
  rcases (show k < bs ∨ k = bs ∨ k = bs + 1 ∨ bs + 2 ≤ k from by omega) with h | h | h | h
  · exact .inl (OL_lt h)
  · subst h; exact .inr (.inl ⟨rfl, OL_s⟩)
  · subst h; exact .inr (.inr ⟨rfl, OL_m⟩)
  · exact .inl (OL_ge h)
/-- The laws with the model begin alike. -/
theorem beg3_of {w : World} {a : Option Addr} {len cap : Nat} {g : Nat → GOp} {dt : Nat → List UInt8} (hS : ScriptAt w a len cap g dt) (hlen : len ≤ 65536) (hsz : ∀ i, i < len → (g i).raw.len ≤ 65536) {W1 : World} {A : Option Addr} {N Cp : Nat} {L : List Sl} (hat : SendsAt ((w.alloc (.cells newE.toArray 114)).alloc (.cells msE.toArray 73)) W1 len g A N Cp L) : Beg w w.heap.size len g dt A N Cp L (OL w.heap.size (.a 0 7)) W1 ∧ JM (OL w.heap.size (.a 0 7)) W1 w.heap.size (w.heap.size + 1) 1000 Sv.zero MS.zero (OL w.heap.size (.a 5 50)) 0 W1 := by
  have hx1 : w.Extends (w.alloc (.cells newE.toArray 114)) := extends_alloc (ext_Ext (Ext.refl _)) _
  have hx2 : (w.alloc (.cells newE.toArray 114)).Extends ((w.alloc (.cells newE.toArray 114)).alloc (.cells msE.toArray 73)) := extends_alloc (ext_Ext (Ext.refl _)) _
  have hs1 : (w.alloc (.cells newE.toArray 114)).heap.size = w.heap.size + 1 := World.size_alloc _ _
  have hs2 : ((w.alloc (.cells newE.toArray 114)).alloc (.cells msE.toArray 73)).heap.size = w.heap.size + 2 := by rw [World.size_alloc, hs1]
  have hx3 := hat.2.2.2.2
  have hx13 := hx2.trans hx3
  obtain ⟨CS, ip, ia, iN, ic, hv⟩ := new_at (fun _ => .no) (W := w) 0 (by omega)
  have hF : ∀ l, Fr (fun _ => False) (lab (fun _ => .no) w.heap.size (.a 0 0)) (w.alloc (.cells newE.toArray 114)) (OL w.heap.size l) W1 := fun l => ⟨hx13.os, hx13.tape, hx13.output, hx13.size, fun k hk => by
    rw [hs1] at hk
    unfold OL
    rw [lab_lt (by omega), lab_lt hk], fun k hk _ => hx13.block k hk⟩
  have hsv : ∀ l, SvAt (OL w.heap.size l) W1 w.heap.size 0 Sv.zero := fun l => ⟨CS, ip, ia, iN, ic, hv.frF (hF l)⟩
  have hfr : ∀ l, ¬ isI 1 l → l ≠ .a 0 8 → ∀ k, ¬ isI (1 - 0) (OL w.heap.size l k) ∧ OL w.heap.size l k ≠ .a 0 8 := fun l h1 h2 k => by
    rcases OL_cases w.heap.size l k with e | ⟨-, e⟩ | ⟨-, e⟩
    · rw [e]; exact ⟨isI_no _, fun e => by cases e⟩
    · rw [e]; exact ⟨isI_0 _, fun e => by cases e⟩
    · rw [e]; exact ⟨h1, h2⟩
  have hlo : ∀ l, (∀ i j, l = .a i j → i ≤ 5) → Low (OL w.heap.size l) := fun l hl k i j e => by
    rcases OL_cases w.heap.size l k with e1 | ⟨-, e1⟩ | ⟨-, e1⟩
    · rw [e1] at e; cases e
    · rw [e1] at e; have := (Lab.a.inj e).1; omega
    · rw [e1] at e; exact hl i j e
  have hnk : ¬ kept (OL w.heap.size (.a 0 7) (w.heap.size + 1)) := by
    rw [OL_m]
    rintro (e | ⟨i, j, e, h5⟩)
    · cases e
    · have := (Lab.a.inj e).1; omega
  have hls : LS (OL w.heap.size (.a 0 7)) W1 w.heap.size 1000 Sv.zero (OL w.heap.size (.a 0 7)) 0 W1 := ⟨Kp.refl _ _, hsv _, hfr _ (by rintro ⟨j, e | e⟩ <;> (have := (Lab.a.inj e).1; omega)) (fun e => by cases e), hlo _ (fun i j e => by have := (Lab.a.inj e).1; omega), svI_zero⟩
  refine ⟨⟨hls, hx1.trans hx13, fun k hk => OL_lt hk, ?_, by have := hat.2.2.1; omega, fun s hs => ?_⟩, ⟨⟨?_, hsv _, hfr _ (isI_5 (by omega)) (fun e => by cases e), hlo _ (fun i j e => by have := (Lab.a.inj e).1; omega), svI_zero⟩, (fun t ht => by cases ht), ⟨msE, none, 0, ?_⟩, agS_zero, hnk⟩⟩
  · refine (rw_own encR_len hat.1).1.tocore (fun b C e _ => ?_)
    have h9 := (row_at hat.1 b (by rw [e]; rfl)).1
    rw [hs2] at h9
    exact OL_ge h9
  · obtain ⟨j, hj, e⟩ := hat.2.2.2.1 s hs
    exact ⟨j, hj, e, hsz j hj, (hS.2.2.1 j hj).1⟩
  · refine ⟨rfl, rfl, rfl, Nat.le_refl _, fun k hk hkp => ⟨?_, rfl⟩⟩
    rcases (show k < w.heap.size ∨ k = w.heap.size ∨ k = w.heap.size + 1 ∨ w.heap.size + 2 ≤ k from by omega) with h | h | h | h
    · rw [OL_lt h, OL_lt h]
    · subst h; rw [OL_s, OL_s]
    · subst h; exact absurd hkp hnk
    · rw [OL_ge h, OL_ge h]
  · have hb : blk ((w.alloc (.cells newE.toArray 114)).alloc (.cells msE.toArray 73)) (w.heap.size + 1) = some msE := by rw [blk_alloc, if_pos hs1.symm]
    have hf : free ((w.alloc (.cells newE.toArray 114)).alloc (.cells msE.toArray 73)) (w.heap.size + 1) = true := by rw [free_alloc, if_pos hs1.symm]
    exact ⟨(hx3.blk (blk_lt hb)).trans hb, (free_of_heap (hx3.block _ (blk_lt hb))).trans hf, OL_m, rfl, rfl, fun e => (by cases e), rfl, fun e => (by cases e)⟩
theorem JM.h8 {Ob : Own} {Wb : World} {bs bm : Nat} {M : Int} {s : Sv} {m : MS} {O : Own} {g : Nat} {V : World} (h : JM Ob Wb bs bm M s m O g V) : ∀ k j, O k ≠ .a 8 j := fun k j e => by have := h.ls.lo k 8 j e; omega
/-- One request to both. -/
def JPost (Ob : Own) (Wb : World) (bs bm : Nat) (M : Int) (s : Sv) (m : MS) (raw : List UInt8) (O' : Own) (V' : World) (q : PRep) (s' : Sv) (g' : Nat) (e : Ending) (V : World) : Prop := ∃ a n c m' O2, e = .returned (.slice a n c) ∧ JM Ob Wb bs bm (M + 10) s' m' O2 g' V ∧ MvR m raw (encR' q) m' ∧ n = (encR' q).length ∧ Bs V a n (encR' q) ∧ Sub (core O' V') (core O2 V)
theorem JM.model {Ob : Own} {Wb : World} {bs bm : Nat} {M : Int} {s : Sv} {m : MS} {O : Own} {g : Nat} {V : World} (h : JM Ob Wb bs bm M s m O g V) {raw : List UInt8} (hr : raw.length ≤ 65536) {q : PRep} {s' : Sv} (hv : svR s raw q s') {O' : Own} {g' : Nat} {V' : World} (hK : Kp O V O' V') (hL : LS Ob Wb bs (M + 10) s' O' g' V') (x : Sl) (hX : Dec2 V' x raw) : Calls Tryz.prog 18 #[.pointer (some ⟨bm, 0, none⟩), .slice x.a x.len x.cap] V' (JPost Ob Wb bs bm M s m raw O' V' q s' g') := by
  obtain ⟨Ce, fa, fc, hm⟩ := h.mo
  have hm' := hm.kp hK
  have h8 : ∀ k j, O' k ≠ .a 8 j := fun k j e => by have := hL.lo k 8 j e; omega
  refine (mserve_any O' h8 V' bm m Ce fa fc hm' (h.ag.msi h.ls.inv) x raw hX hr).mono ?_
  rintro e V2 ⟨xs, a, n, c, m', Ce', fa', fc', rfl, hon, hM2, hrow, hn, hR⟩
  obtain ⟨e1, e2⟩ := step_mod h.ls.inv h.f h.ag hr hv hR
  subst e1
  refine ⟨a, n, c, m', lab O' V'.heap.size .no, rfl, ⟨hL.onm hm'.own h.nk hon, hv.fst h.ls.inv h.f, ⟨Ce', fa', fc', hM2⟩, e2, h.nk⟩, hR, hn, (bs_own hrow).1, on_sub hm'.own hon⟩
end Go.Proofs.Qxb6500787aGreat
