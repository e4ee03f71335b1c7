import Derived.Test.Qxb6500787aYi
import Derived.StillTailTactics
import Derived.Deep.QuietTactic
import Derived.BigQuiet
import Derived.Deep.RegionHeld
import Derived.Deep.CutRange
import Derived.Laws.ResultCell
import Derived.Laws.Rows
import Derived.DeepKeys
import Derived.DataBytes
import Derived.Laws.StructEq
import Derived.Laws.AppendOwn
import Derived.Laws.MakeOwn
import Derived.Lib.AppendStr
set_option linter.unusedSimpArgs false
set_option linter.unusedVariables false
namespace Go.Proofs.Qxb6500787a
open Go.RowKit Go.Blk
attribute [local go_sem ↓] execOp_load execOp_store execOp_alloc
attribute [local go_sem] Try.ld26 Try.st26 Try.ld27 Try.st27 Try.ld28 Try.st28 Try.ld3 Try.st3 Try.ld29 Try.st29 Try.ld44 Try.st44 Try.ld4 Try.st4 Try.ld50 Try.st50 Try.ld32 Try.st32 Try.ld49 Try.st49 Try.ld68 Try.st68 Try.ld9 Try.st9 Try.ld40 Try.st40 Try.ld138 Try.st138 Try.ld139 Try.st139 Try.ld146 Try.st146 Try.ld183 Try.st183 Try.ld184 Try.st184 Try.ld192 Try.st192 Try.ld195 Try.st195 Try.ld217 Try.st217 Try.ld159 Try.st159 Try.ld142 Try.st142 Try.ld2 Try.st2 Try.ld5 Try.st5 Try.ld12 Try.st12 Try.ld21 Try.st21 Try.ld22 Try.st22 Try.ld24 Try.st24 Try.ld58 Try.st58 Try.ld63 Try.st63 Try.ld97 Try.st97 Try.ld101 Try.st101 Try.ld116 Try.st116 Try.ld121 Try.st121 Try.ld135 Try.st135 Try.ld136 Try.st136 Try.ld143 Try.st143 Try.ld148 Try.st148 Try.ld154 Try.st154 Try.ld173 Try.st173 Try.ld187 Try.st187 Try.ld222 Try.st222 Try.ld241 Try.st241 Try.ld248 Try.st248 Try.ld268 Try.st268 Try.ld272 Try.st272 Try.ld153 Try.st153 Try.ld255 Try.st255 Try.ld256 Try.st256 Try.ld129 Try.st129 Try.ld152 Try.st152 Try.ld31 Try.st31 Try.ld46 Try.st46 Try.ld52 Try.st52 Try.ld54 Try.st54 Try.ld60 Try.st60 Try.ld70 Try.st70 Try.ld74 Try.st74 Try.ld93 Try.st93 Try.ld119 Try.st119 Try.ld141 Try.st141 Try.ld151 Try.st151 Try.ld170 Try.st170 Try.ld186 Try.st186 Try.ld189 Try.st189 Try.ld194 Try.st194 Try.ld197 Try.st197 Try.ld219 Try.st219 Try.ld224 Try.st224 Try.ld230 Try.st230 Try.ld235 Try.st235 Try.ld243 Try.st243 Try.ld247 Try.st247 Try.ld252 Try.st252 Try.ld258 Try.st258 Try.al153 Try.al255 Try.al256 Try.al129 Try.al152 Try.al31 Try.al46 Try.al52 Try.al54 Try.al60 Try.al70 Try.al74 Try.al93 Try.al119 Try.al141 Try.al151 Try.al170 Try.al186 Try.al189 Try.al194 Try.al197 Try.al219 Try.al224 Try.al230 Try.al235 Try.al243 Try.al247 Try.al252 Try.al258
attribute [local go_sem] Request.length_enc Request.ok_enc Request.all_get Request.all_set Request.kind_get Request.kind_set Request.blob_get Request.blob_set Request.items_get Request.items_set Request.pred_get Request.pred_set Request.slots_get Request.slots_set Trace.length_enc Trace.ok_enc Trace.all_get Trace.all_set Trace.op_get Trace.op_set Trace.calls_get Trace.calls_set Item.length_enc Item.ok_enc Item.all_get Item.all_set Item.del_get Item.del_set Item.pred_get Item.pred_set Item.args_get Item.args_set Reply.length_enc Reply.ok_enc Reply.all_get Reply.all_set Reply.code_get Reply.code_set Reply.kind_get Reply.kind_set Reply.index_get Reply.index_set Reply.yes_get Reply.yes_set Reply.preds_get Reply.preds_set Reply.rules_get Reply.rules_set Reply.arity_get Reply.arity_set Reply.rows_get Reply.rows_set Reply.fact_get Reply.fact_set Reply.fact_del_get Reply.fact_del_set Reply.fact_pred_get Reply.fact_pred_set Reply.fact_args_get Reply.fact_args_set GEntry.length_enc GEntry.ok_enc GEntry.all_get GEntry.all_set GEntry.seq_get GEntry.seq_set GEntry.kind_get GEntry.kind_set GEntry.code_get GEntry.code_set GOp.length_enc GOp.ok_enc GOp.all_get GOp.all_set GOp.kind_get GOp.kind_set GOp.raw_get GOp.raw_set Reader.length_enc Reader.ok_enc Reader.all_get Reader.all_set Reader.buf_get Reader.buf_set Reader.at__get Reader.at__set Slot.length_enc Slot.ok_enc Slot.all_get Slot.all_set Slot.bound_get Slot.bound_set Slot.name_get Slot.name_set Session.length_enc Session.ok_enc Session.all_get Session.all_set Session.svc_get Session.svc_set Session.buf_get Session.buf_set Session.closed_get Session.closed_set GProgram.length_enc GProgram.ok_enc GProgram.all_get GProgram.all_set GProgram.pool_get GProgram.pool_set GProgram.preds_get GProgram.preds_set GProgram.rules_get GProgram.rules_set GProgram.strata_get GProgram.strata_set PredInfo.length_enc PredInfo.ok_enc PredInfo.all_get PredInfo.all_set PredInfo.arity_get PredInfo.arity_set PredInfo.base_get PredInfo.base_set PredInfo.stratum_get PredInfo.stratum_set Change.length_enc Change.ok_enc Change.all_get Change.all_set Change.del_get Change.del_set Change.pred_get Change.pred_set Change.t_get Change.t_set Store.length_enc Store.ok_enc Store.all_get Store.all_set Store.names_get Store.names_set Store.arity_get Store.arity_set Store.rows_get Store.rows_set Src.length_enc Src.ok_enc Src.all_get Src.all_set Src.b_get Src.b_set Src.at__get Src.at__set Atom.length_enc Atom.ok_enc Atom.all_get Atom.all_set Atom.pred_get Atom.pred_set Atom.args_get Atom.args_set GRule.length_enc GRule.ok_enc GRule.all_get GRule.all_set GRule.head_get GRule.head_set GRule.body_get GRule.body_set GRule.head_pred_get GRule.head_pred_set GRule.head_args_get GRule.head_args_set Cert.length_enc Cert.ok_enc Cert.all_get Cert.all_set Cert.names_get Cert.names_set Cert.nodes_get Cert.nodes_set Fact.length_enc Fact.ok_enc Fact.all_get Fact.all_set Fact.pred_get Fact.pred_set Fact.t_get Fact.t_set Literal.length_enc Literal.ok_enc Literal.all_get Literal.all_set Literal.neg_get Literal.neg_set Literal.atom_get Literal.atom_set Literal.atom_pred_get Literal.atom_pred_set Literal.atom_args_get Literal.atom_args_set Engine.length_enc Engine.ok_enc Engine.all_get Engine.all_set Engine.prog_get Engine.prog_set Engine.st_get Engine.st_set SrcCertm.length_enc SrcCertm.ok_enc SrcCertm.all_get SrcCertm.all_set SrcCertm.b_get SrcCertm.b_set SrcCertm.at__get SrcCertm.at__set GNode.length_enc GNode.ok_enc GNode.all_get GNode.all_set GNode.rule_get GNode.rule_set GNode.pred_get GNode.pred_set GNode.vals_get GNode.vals_set GNode.refs_get GNode.refs_set Term.length_enc Term.ok_enc Term.all_get Term.all_set Term.var_get Term.var_set Term.n_get Term.n_set Env.length_enc Env.ok_enc Env.all_get Env.all_set Env.val_get Env.val_set Env.set_get Env.set_set
attribute [local go_sem] size_put size_ext blk_put free_put blk_alloc free_alloc blk_drew free_drew blk_ext free_ext lookOr_some putOr_some segAt_some cellAt_some storeIn_some put_put put_alloc_new length_arr ok_arr_u8 ok_arr_u32 ok_arr_u64 ok_arr_i64 ok_arr_sl cellsV_agg cellsV_int cellsV_bool cellsV_string cellsV_pointer cellsV_slice cellsV_sl ok_int ok_bool ok_string ok_pointer ok_slice ok_sl toList_arr seg_arr set_arr nth_splice nth_splice0 seg_splice seg_splice0 splice_splice splice_splice0 length_splice_if
attribute [local go_sem ↓] execOp_box
attribute [local go_sem] box_run nth_arr_u8 put_arr_u8 blk_drewN free_drewN put_drewN blk_raw free_raw
/-- What Feed keeps. -/
structure Kq (O : Own) (W : World) (O' : Own) (V : World) : Prop where
  size : W.heap.size ≤ V.heap.size
  keep : ∀ k, k < W.heap.size → (O k = .no ∨ ∃ j, 4 ≤ j ∧ O k = .a 5 j) → O' k = O k ∧ V.heap[k]? = W.heap[k]?
theorem Kq.refl (O : Own) (W : World) : Kq O W O W := ⟨Nat.le_refl _, fun _ _ _ => ⟨rfl, rfl⟩⟩
theorem Kq.trans {O O' O'' : Own} {W V U : World} (h : Kq O W O' V) (h' : Kq O' V O'' U) : Kq O W O'' U := by
  refine ⟨Nat.le_trans h.size h'.size, fun k hk hl => ?_⟩
  obtain ⟨e1, e2⟩ := h.keep k hk hl
  obtain ⟨e3, e4⟩ := h'.keep k (Nat.lt_of_lt_of_le hk h.size) (by rw [e1]; exact hl)
  exact ⟨e3.trans e1, e4.trans e2⟩
theorem Kq.kp {O O' : Own} {W V : World} (h : Kp O W O' V) : Kq O W O' V := ⟨h.size, fun k hk hl => h.keep k hk (by
  rcases hl with e | ⟨j, -, e⟩
  · exact .inl e
  · exact .inr ⟨5, j, e, by omega⟩)⟩
theorem Kq.fr {L : Lab → Prop} {O O' : Own} {W V : World} (h : Fr L O W O' V) (hL : ∀ l, L l → ∃ j, j < 4 ∧ l = .a 5 j) : Kq O W O' V := ⟨h.size, fun k hk hl => ⟨h.keep k hk, h.block k hk (fun e => by
  obtain ⟨j, hj, e⟩ := hL _ e
  rcases hl with e' | ⟨i, hi, e'⟩
  · rw [e'] at e; cases e
  · rw [e'] at e; have := (Lab.a.inj e).2; omega)⟩⟩
theorem Kq.blk {O O' : Own} {W V : World} (h : Kq O W O' V) {b : Nat} {C : List Value} (hb : Blk.blk W b = some C) (ho : O b = .no ∨ ∃ j, 4 ≤ j ∧ O b = .a 5 j) : Blk.blk V b = some C ∧ O' b = O b := by
  obtain ⟨e1, e2⟩ := h.keep b (blk_lt hb) ho
  exact ⟨(blk_of_heap e2).trans hb, e1⟩
theorem RB.kq {B : Nat} {O O' : Own} {l : Lab} {W W' : World} {a : Option Addr} {n c : Nat} {xs : List UInt8} (h : RB B O l W a n c xs) {j : Nat} (hj : 4 ≤ j) (hl : l = .a 5 j) (hK : Kq O W O' W') : RB B O' l W' a n c xs := h.keep (fun k hk ho => by
  obtain ⟨e1, e2⟩ := hK.keep k hk (.inr ⟨j, hj, ho.trans hl⟩)
  exact ⟨e2, e1⟩)
/-- Memory of the law's own changes. -/
theorem LS.fr5 {Ob : Own} {Wb : World} {bs : Nat} {m : Int} {s : Sv} {O : Own} {g : Nat} {V V' : World} (h : LS Ob Wb bs m s O g V) (h57 : ∀ k, k < Wb.heap.size → ¬ ∃ j, Ob k = .a 5 j) {L : Lab → Prop} (hL : ∀ l, L l → ∃ j, l = .a 5 j) {O' : Own} (hF : Fr L O V O' V') (hO : ∀ k, O' k = O k ∨ ∃ j, O' k = .a 5 j) : LS Ob Wb bs m s O' g V' := by
  obtain ⟨CS, ip, ia, iN, ic, hS⟩ := h.sv
  refine ⟨⟨hF.os.trans h.kp.os, hF.tape.trans h.kp.tape, hF.output.trans h.kp.output, Nat.le_trans h.kp.size hF.size, fun k hk hkp => ?_⟩, ⟨CS, ip, ia, iN, ic, hS.fr5 hL hF⟩, fun k => ?_, fun k i j e => ?_, h.inv⟩
  · obtain ⟨e1, e2⟩ := h.kp.keep k hk hkp
    have hk' : k < V.heap.size := Nat.lt_of_lt_of_le hk h.kp.size
    refine ⟨(hF.keep k hk').trans e1, (hF.block k hk' ?_).trans e2⟩
    rw [e1]
    exact fun e => h57 k hk (hL _ e)
  · rcases hO k with e | ⟨j, e⟩
    · rw [e]; exact h.fr k
    · rw [e]; exact ⟨isI_5 (by omega), fun e => by cases e⟩
  · rcases hO k with e' | ⟨j', e'⟩
    · rw [e'] at e; exact h.lo k i j e
    · rw [e'] at e
      have := (Lab.a.inj e).1
      omega
theorem lab_5 (O : Own) (n j : Nat) : ∀ k, lab O n (.a 5 j) k = O k ∨ ∃ i, lab O n (.a 5 j) k = .a 5 i := fun k => by
  by_cases h : k < n
  · exact .inl (lab_lt h)
  · exact .inr ⟨j, lab_ge (by omega)⟩
/-- The session in memory. -/
structure FS (Ob : Own) (Wb : World) (bs bc : Nat) (s : Sv) (O : Own) (g : Nat) (V : World) (ba : Option Addr) (bn bk : Nat) (buf : List UInt8) (cl : Bool) : Prop where
  ls : LS Ob Wb bs (1000 + 10 * s.rst 196) s O g V
  cell : blk V bc = some (sesE bs ba bn bk cl)
  fre : free V bc = true
  own : O bc = .a 5 1
  row : RB Wb.heap.size O (.a 5 2) V ba bn bk buf
theorem FS.drewN {Ob : Own} {Wb : World} {bs bc : Nat} {s : Sv} {O : Own} {g : Nat} {V : World} {ba : Option Addr} {bn bk : Nat} {buf : List UInt8} {cl : Bool} (h : FS Ob Wb bs bc s O g V ba bn bk buf cl) (n : Nat) : FS Ob Wb bs bc s O g (V.drewN n) ba bn bk buf cl := ⟨h.ls.drewN n, h.cell, h.fre, h.own, h.row⟩
/-- The output grows. -/
theorem FS.out {Ob : Own} {Wb : World} {bs bc : Nat} {s : Sv} {O : Own} {g : Nat} {V V' : World} {ba : Option Addr} {bn bk : Nat} {buf : List UInt8} {cl : Bool} (h : FS Ob Wb bs bc s O g V ba bn bk buf cl) (h57 : ∀ k, k < Wb.heap.size → ¬ ∃ j, Ob k = .a 5 j) (hF : Fr (fun y => y = .a 5 3) O V (lab O V.heap.size (.a 5 3)) V') : FS Ob Wb bs bc s (lab O V.heap.size (.a 5 3)) g V' ba bn bk buf cl := by
  have hne : ¬ (fun y => y = Lab.a 5 3) (O bc) := by rw [h.own]; exact fun e => by have := (Lab.a.inj e).2; omega
  exact ⟨h.ls.fr5 h57 (fun l e => ⟨3, e⟩) hF (lab_5 _ _ _), hF.blk h.cell hne, hF.free h.cell h.fre hne, (hF.keep bc (blk_lt h.cell)).trans h.own, h.row.fr hF (fun e => by have := (Lab.a.inj e).2; omega)⟩
/-- The buffer grows. -/
theorem FS.buf' {Ob : Own} {Wb : World} {bs bc : Nat} {s : Sv} {O : Own} {g : Nat} {V V' : World} {ba : Option Addr} {bn bk : Nat} {buf : List UInt8} {cl : Bool} (h : FS Ob Wb bs bc s O g V ba bn bk buf cl) (h57 : ∀ k, k < Wb.heap.size → ¬ ∃ j, Ob k = .a 5 j) {a' : Option Addr} {n' c' : Nat} {xs : List UInt8} (hF : Fr (fun y => y = .a 5 2) O V (lab O V.heap.size (.a 5 2)) V') (hr : RB Wb.heap.size (lab O V.heap.size (.a 5 2)) (.a 5 2) V' a' n' c' xs) : blk V' bc = some (sesE bs ba bn bk cl) ∧ free V' bc = true ∧ FS Ob Wb bs bc s (lab O V.heap.size (.a 5 2)) g (put V' bc (sesE bs a' n' c' cl)) a' n' c' xs cl ∧ Fr (fun y => y = .a 5 2 ∨ y = .a 5 1) O V (lab O V.heap.size (.a 5 2)) (put V' bc (sesE bs a' n' c' cl)) := by
  have hne : ¬ (fun y => y = Lab.a 5 2) (O bc) := by rw [h.own]; exact fun e => by have := (Lab.a.inj e).2; omega
  have hb := hF.blk h.cell hne
  have hf := hF.free h.cell h.fre hne
  have ho : lab O V.heap.size (.a 5 2) bc = .a 5 1 := (hF.keep bc (blk_lt h.cell)).trans h.own
  have hP : Fr (fun y => y = .a 5 1) (lab O V.heap.size (.a 5 2)) V' (lab O V.heap.size (.a 5 2)) (put V' bc (sesE bs a' n' c' cl)) := (Fr.refl _ _ _).put (L := fun y => y = .a 5 1) ho _
  refine ⟨hb, hf, ⟨(h.ls.fr5 h57 (fun l e => ⟨2, e⟩) hF (lab_5 _ _ _)).fr5 h57 (fun l e => ⟨1, e⟩) hP (fun k => .inl rfl), by rw [blk_put, if_pos rfl, hb]; rfl, by rw [free_put]; exact hf, ho, hr.fr hP (fun e => by have := (Lab.a.inj e).2; omega)⟩, ?_⟩
  exact (hF.mono (fun l e => .inl e)).trans (hP.mono (fun l e => .inr e))
/-- The session's block is written. -/
theorem FS.set {Ob : Own} {Wb : World} {bs bc : Nat} {s : Sv} {O : Own} {g : Nat} {V : World} {ba : Option Addr} {bn bk : Nat} {buf : List UInt8} {cl : Bool} (h : FS Ob Wb bs bc s O g V ba bn bk buf cl) (h57 : ∀ k, k < Wb.heap.size → ¬ ∃ j, Ob k = .a 5 j) {a' : Option Addr} {n' c' : Nat} {xs : List UInt8} {cl' : Bool} (hr : RB Wb.heap.size O (.a 5 2) V a' n' c' xs) : FS Ob Wb bs bc s O g (put V bc (sesE bs a' n' c' cl')) a' n' c' xs cl' ∧ Fr (fun y => y = .a 5 1) O V O (put V bc (sesE bs a' n' c' cl')) := by
  have hP : Fr (fun y => y = .a 5 1) O V O (put V bc (sesE bs a' n' c' cl')) := (Fr.refl _ _ _).put (L := fun y => y = .a 5 1) h.own _
  exact ⟨⟨h.ls.fr5 h57 (fun l e => ⟨1, e⟩) hP (fun k => .inl rfl), by rw [blk_put, if_pos rfl, h.cell]; rfl, by rw [free_put]; exact h.fre, h.own, hr.fr hP (fun e => by have := (Lab.a.inj e).2; omega)⟩, hP⟩
/-- The session serves the bytes at the front of its buffer. -/
theorem FS.serve {Ob : Own} {Wb : World} {bs bc : Nat} {s : Sv} {O : Own} {g : Nat} {V : World} {ba : Option Addr} {bn bk : Nat} {buf : List UInt8} {cl : Bool} (h : FS Ob Wb bs bc s O g V ba bn bk buf cl) (hm : 0 ≤ s.rst 196 ∧ s.rst 196 ≤ 80000000) {n : Nat} (hn : n ≤ bn) (h0 : 0 < n) (h6 : n ≤ 65536) : Calls Try.prog 21 #[.pointer (some ⟨bs, 0, none⟩), .slice ba n bk] V fun e V' => ∃ a n' c q s' O' g', e = .returned (.slice a n' c) ∧ svR s (buf.take n) q s' ∧ RepB q ∧ Kp O V O' V' ∧ FS Ob Wb bs bc s' O' g' V' ba bn bk buf cl ∧ Bs (core O' V') a n' (encR' q) ∧ n' ≤ c ∧ c ≤ maxLen := by
  obtain ⟨hB, hk1, hk2⟩ := h.row.bs
  have hcut : Bs V ba n (buf.take n) := by
    have h1 := hB.cut (l := 0) (k := n) (cap := bk) (by omega) hk1
    rw [cutA_zero, List.drop_zero] at h1
    exact h1
  obtain ⟨b, o, C, e1, e2, e3, e4⟩ := hcut.2.1 (by omega)
  have hob : O b = .a 5 2 := h.row.2 b (by rw [e1]; rfl)
  obtain ⟨CS, ip, ia, iN, ic, hS⟩ := h.ls.sv
  have hbs : b ≠ bs := fun e => by
    rw [e, hS.own] at hob
    have := (Lab.a.inj hob).1
    omega
  have hlen : (buf.take n).length = n := hcut.1
  refine (serve_raw h.ls.sv h.ls.lo h.ls.fr h.ls.inv (by omega) ⟨ba, n, bk⟩ (buf.take n) (fun D V' hx => .inr ⟨⟨hlen, fun _ => ⟨b, o, C, e1, ?_, e3, e4⟩, hcut.2.2⟩, ?_, ?_, h6⟩) (by omega)).mono ?_
  · have h9 : blk (put V bs D) b = some C := by rw [blk_put, if_neg hbs]; exact e2
    exact (hx.blk (blk_lt h9)).trans h9
  · show n ≤ bk; omega
  · show bk ≤ _; simp only [maxLen] at hk2; omega
  rintro e V' ⟨a, n', c, q, s', O', g', h1, h2, h3, h4, h5, h6', h7, h8, h9, h10⟩
  have hI := h2.inv h.ls.inv (by omega) (by rw [hlen]; exact h6)
  have e196 := h2.n196
  have em : 1000 + 10 * s.rst 196 + 10 = 1000 + 10 * s'.rst 196 := by rw [e196]; omega
  rw [em] at hI
  obtain ⟨k1, k2⟩ := h4.keep bc (blk_lt h.cell) (by rw [h.own]; exact .inr ⟨5, 1, rfl, by omega⟩)
  refine ⟨a, n', c, q, s', O', g', h1, h2, h3, h4, ⟨⟨h.ls.kp.trans h4, h5, h6', h7, hI⟩, (blk_of_heap k2).trans h.cell, ?_, k1.trans h.own, h.row.kp (.inr ⟨5, 2, rfl, by omega⟩) h4⟩, h8, h9, h10⟩
  unfold free
  rw [k2]
  exact h.fre
end Go.Proofs.Qxb6500787a
