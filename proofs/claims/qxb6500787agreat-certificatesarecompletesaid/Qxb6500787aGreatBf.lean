import Derived.Test.Qxb6500787aGreatBd
import Derived.Test.Qxb6500787aGreatBe

import Derived.StillTailTactics
import Derived.Deep.QuietTactic
import Derived.BigQuiet
import Derived.Deep.RegionHeld
import Derived.Deep.CutRange
import Derived.Laws.ResultCell
import Derived.Laws.Rows
import Derived.DeepKeys
import Derived.DataBytes
import Derived.Laws.StructEq
import Derived.Laws.AppendOwn
import Derived.Laws.MakeOwn
import Derived.Lib.AppendStr
set_option linter.unusedSimpArgs false
set_option linter.unusedVariables false
namespace Go.Proofs.Qxb6500787aGreat
open Go.RowKit Go.Blk
attribute [local go_sem ↓] execOp_load execOp_store execOp_alloc
attribute [local go_sem] Tryz.ld26 Tryz.st26 Tryz.ld27 Tryz.st27 Tryz.ld28 Tryz.st28 Tryz.ld3 Tryz.st3 Tryz.ld29 Tryz.st29 Tryz.ld44 Tryz.st44 Tryz.ld4 Tryz.st4 Tryz.ld50 Tryz.st50 Tryz.ld32 Tryz.st32 Tryz.ld49 Tryz.st49 Tryz.ld68 Tryz.st68 Tryz.ld9 Tryz.st9 Tryz.ld40 Tryz.st40 Tryz.ld138 Tryz.st138 Tryz.ld139 Tryz.st139 Tryz.ld146 Tryz.st146 Tryz.ld183 Tryz.st183 Tryz.ld184 Tryz.st184 Tryz.ld192 Tryz.st192 Tryz.ld195 Tryz.st195 Tryz.ld217 Tryz.st217 Tryz.ld159 Tryz.st159 Tryz.ld142 Tryz.st142 Tryz.ld2 Tryz.st2 Tryz.ld5 Tryz.st5 Tryz.ld12 Tryz.st12 Tryz.ld21 Tryz.st21 Tryz.ld22 Tryz.st22 Tryz.ld24 Tryz.st24 Tryz.ld58 Tryz.st58 Tryz.ld97 Tryz.st97 Tryz.ld101 Tryz.st101 Tryz.ld116 Tryz.st116 Tryz.ld121 Tryz.st121 Tryz.ld135 Tryz.st135 Tryz.ld136 Tryz.st136 Tryz.ld143 Tryz.st143 Tryz.ld148 Tryz.st148 Tryz.ld154 Tryz.st154 Tryz.ld173 Tryz.st173 Tryz.ld187 Tryz.st187 Tryz.ld222 Tryz.st222 Tryz.ld241 Tryz.st241 Tryz.ld248 Tryz.st248 Tryz.ld268 Tryz.st268 Tryz.ld272 Tryz.st272 Tryz.ld153 Tryz.st153 Tryz.ld255 Tryz.st255 Tryz.ld256 Tryz.st256 Tryz.ld129 Tryz.st129 Tryz.ld152 Tryz.st152 Tryz.ld31 Tryz.st31 Tryz.ld46 Tryz.st46 Tryz.ld52 Tryz.st52 Tryz.ld54 Tryz.st54 Tryz.ld60 Tryz.st60 Tryz.ld70 Tryz.st70 Tryz.ld74 Tryz.st74 Tryz.ld93 Tryz.st93 Tryz.ld141 Tryz.st141 Tryz.ld151 Tryz.st151 Tryz.ld170 Tryz.st170 Tryz.ld186 Tryz.st186 Tryz.ld189 Tryz.st189 Tryz.ld194 Tryz.st194 Tryz.ld197 Tryz.st197 Tryz.ld219 Tryz.st219 Tryz.ld224 Tryz.st224 Tryz.ld230 Tryz.st230 Tryz.ld235 Tryz.st235 Tryz.ld243 Tryz.st243 Tryz.ld247 Tryz.st247 Tryz.ld252 Tryz.st252 Tryz.ld258 Tryz.st258 Tryz.al153 Tryz.al255 Tryz.al256 Tryz.al129 Tryz.al152 Tryz.al31 Tryz.al46 Tryz.al52 Tryz.al54 Tryz.al60 Tryz.al70 Tryz.al74 Tryz.al93 Tryz.al141 Tryz.al151 Tryz.al170 Tryz.al186 Tryz.al189 Tryz.al194 Tryz.al197 Tryz.al219 Tryz.al224 Tryz.al230 Tryz.al235 Tryz.al243 Tryz.al247 Tryz.al252 Tryz.al258
attribute [local go_sem] Request.length_enc Request.ok_enc Request.all_get Request.all_set Request.kind_get Request.kind_set Request.blob_get Request.blob_set Request.items_get Request.items_set Request.pred_get Request.pred_set Request.slots_get Request.slots_set Trace.length_enc Trace.ok_enc Trace.all_get Trace.all_set Trace.op_get Trace.op_set Trace.calls_get Trace.calls_set Item.length_enc Item.ok_enc Item.all_get Item.all_set Item.del_get Item.del_set Item.pred_get Item.pred_set Item.args_get Item.args_set Reply.length_enc Reply.ok_enc Reply.all_get Reply.all_set Reply.code_get Reply.code_set Reply.kind_get Reply.kind_set Reply.index_get Reply.index_set Reply.yes_get Reply.yes_set Reply.preds_get Reply.preds_set Reply.rules_get Reply.rules_set Reply.arity_get Reply.arity_set Reply.rows_get Reply.rows_set Reply.fact_get Reply.fact_set Reply.fact_del_get Reply.fact_del_set Reply.fact_pred_get Reply.fact_pred_set Reply.fact_args_get Reply.fact_args_set GEntry.length_enc GEntry.ok_enc GEntry.all_get GEntry.all_set GEntry.seq_get GEntry.seq_set GEntry.kind_get GEntry.kind_set GEntry.code_get GEntry.code_set GOp.length_enc GOp.ok_enc GOp.all_get GOp.all_set GOp.kind_get GOp.kind_set GOp.raw_get GOp.raw_set Reader.length_enc Reader.ok_enc Reader.all_get Reader.all_set Reader.buf_get Reader.buf_set Reader.at__get Reader.at__set Slot.length_enc Slot.ok_enc Slot.all_get Slot.all_set Slot.bound_get Slot.bound_set Slot.name_get Slot.name_set Session.length_enc Session.ok_enc Session.all_get Session.all_set Session.svc_get Session.svc_set Session.buf_get Session.buf_set Session.closed_get Session.closed_set GProgram.length_enc GProgram.ok_enc GProgram.all_get GProgram.all_set GProgram.pool_get GProgram.pool_set GProgram.preds_get GProgram.preds_set GProgram.rules_get GProgram.rules_set GProgram.strata_get GProgram.strata_set PredInfo.length_enc PredInfo.ok_enc PredInfo.all_get PredInfo.all_set PredInfo.arity_get PredInfo.arity_set PredInfo.base_get PredInfo.base_set PredInfo.stratum_get PredInfo.stratum_set Change.length_enc Change.ok_enc Change.all_get Change.all_set Change.del_get Change.del_set Change.pred_get Change.pred_set Change.t_get Change.t_set Store.length_enc Store.ok_enc Store.all_get Store.all_set Store.names_get Store.names_set Store.arity_get Store.arity_set Store.rows_get Store.rows_set Src.length_enc Src.ok_enc Src.all_get Src.all_set Src.b_get Src.b_set Src.at__get Src.at__set Atom.length_enc Atom.ok_enc Atom.all_get Atom.all_set Atom.pred_get Atom.pred_set Atom.args_get Atom.args_set GRule.length_enc GRule.ok_enc GRule.all_get GRule.all_set GRule.head_get GRule.head_set GRule.body_get GRule.body_set GRule.head_pred_get GRule.head_pred_set GRule.head_args_get GRule.head_args_set Cert.length_enc Cert.ok_enc Cert.all_get Cert.all_set Cert.names_get Cert.names_set Cert.nodes_get Cert.nodes_set Fact.length_enc Fact.ok_enc Fact.all_get Fact.all_set Fact.pred_get Fact.pred_set Fact.t_get Fact.t_set Literal.length_enc Literal.ok_enc Literal.all_get Literal.all_set Literal.neg_get Literal.neg_set Literal.atom_get Literal.atom_set Literal.atom_pred_get Literal.atom_pred_set Literal.atom_args_get Literal.atom_args_set Engine.length_enc Engine.ok_enc Engine.all_get Engine.all_set Engine.prog_get Engine.prog_set Engine.st_get Engine.st_set SrcCertm.length_enc SrcCertm.ok_enc SrcCertm.all_get SrcCertm.all_set SrcCertm.b_get SrcCertm.b_set SrcCertm.at__get SrcCertm.at__set GNode.length_enc GNode.ok_enc GNode.all_get GNode.all_set GNode.rule_get GNode.rule_set GNode.pred_get GNode.pred_set GNode.vals_get GNode.vals_set GNode.refs_get GNode.refs_set Term.length_enc Term.ok_enc Term.all_get Term.all_set Term.var_get Term.var_set Term.n_get Term.n_set Env.length_enc Env.ok_enc Env.all_get Env.all_set Env.val_get Env.val_set Env.set_get Env.set_set
attribute [local go_sem] size_put size_ext blk_put free_put blk_alloc free_alloc blk_drew free_drew blk_ext free_ext lookOr_some putOr_some segAt_some cellAt_some storeIn_some put_put put_alloc_new length_arr ok_arr_u8 ok_arr_u32 ok_arr_u64 ok_arr_i64 ok_arr_sl cellsV_agg cellsV_int cellsV_bool cellsV_string cellsV_pointer cellsV_slice cellsV_sl ok_int ok_bool ok_string ok_pointer ok_slice ok_sl toList_arr seg_arr set_arr nth_splice nth_splice0 seg_splice seg_splice0 splice_splice splice_splice0 length_splice_if
attribute [local go_sem ↓] execOp_box
attribute [local go_sem] box_run nth_arr_u8 put_arr_u8 blk_drewN free_drewN put_drewN blk_raw free_raw
theorem LS.frJ {Ob : Own} {Wb : World} {bs : Nat} {m : Int} {s : Sv} {O : Own} {g : Nat} {V V' : World} (h : LS Ob Wb bs m s O g V) {J : Nat} (hJ : ∀ k, k < Wb.heap.size → Ob k ≠ .a 5 J) (hF : Fr (fun y => y = .a 5 J) O V (lab O V.heap.size (.a 5 J)) V') : LS Ob Wb bs m s (lab O V.heap.size (.a 5 J)) g V' := by
  obtain ⟨CS, ip, ia, iN, ic, hS⟩ := h.sv
  have hgl := hS.gl
  refine ⟨⟨hF.os.trans h.kp.os, hF.tape.trans h.kp.tape, hF.output.trans h.kp.output, Nat.le_trans h.kp.size hF.size, fun k hk hkp => ?_⟩, ⟨CS, ip, ia, iN, ic, hS.fr5 (fun y hy => ⟨J, hy⟩) hF⟩, fun k => ?_, fun k i j e => ?_, h.inv⟩
  · obtain ⟨e1, e2⟩ := h.kp.keep k hk hkp
    have hk' : k < V.heap.size := Nat.lt_of_lt_of_le hk h.kp.size
    refine ⟨(hF.keep k hk').trans e1, (hF.block k hk' ?_).trans e2⟩
    rw [e1]
    exact fun e => hJ k hk e
  · by_cases hk : k < V.heap.size
    · rw [lab_lt hk]; exact h.fr k
    · rw [lab_ge (by omega)]; exact ⟨isI_5 (by omega), fun e => by cases e⟩
  · by_cases hk : k < V.heap.size
    · rw [lab_lt hk] at e; exact h.lo k i j e
    · rw [lab_ge (by omega)] at e
      have := (Lab.a.inj e).1
      omega
theorem RowL.kp {B : Nat} {O O' : Own} {l : Lab} {W W' : World} {e : TypeId} {sz : Nat} {v : Value} {n : Nat} {xs : List Value} (h : RowL B O l W e sz v n xs) (hl : kept l) (hK : Kp O W O' W') : RowL B O' l W' e sz v n xs := h.keep (fun k hk ho => by
  obtain ⟨e1, e2⟩ := hK.keep k hk (by rw [ho]; exact hl)
  exact ⟨e2, e1⟩)
/-- A row of the law's own becomes constant. -/
theorem LS.unl {Ob : Own} {Wb : World} {bs : Nat} {m : Int} {s : Sv} {O : Own} {g : Nat} {V : World} (h : LS Ob Wb bs m s O g V) {J : Nat} (hJ : ∀ k, k < Wb.heap.size → Ob k ≠ .a 5 J) : ∃ O', LS Ob Wb bs m s O' g V ∧ (∀ k, O k = .a 5 J → O' k = .no) ∧ (∀ k, O k ≠ .a 5 J → O' k = O k) := by
  classical
  obtain ⟨O', h1, h2⟩ : ∃ O' : Own, (∀ k, O k = .a 5 J → O' k = .no) ∧ (∀ k, O k ≠ .a 5 J → O' k = O k) := ⟨fun k => if O k = .a 5 J then .no else O k, fun k e => if_pos e, fun k e => if_neg e⟩
  obtain ⟨CS, ip, ia, iN, ic, hS⟩ := h.sv
  have hgl := hS.gl
  refine ⟨O', ⟨⟨h.kp.os, h.kp.tape, h.kp.output, h.kp.size, fun k hk hkp => ?_⟩, ⟨CS, ip, ia, iN, ic, hS.move rfl rfl rfl (Nat.le_refl _) (fun k hk hh => ⟨h2 k (fun e => ?_), rfl⟩)⟩, fun k => ?_, fun k i j e => ?_, h.inv⟩, h1, h2⟩
  · obtain ⟨e1, e2⟩ := h.kp.keep k hk hkp
    exact ⟨(h2 k (by rw [e1]; exact hJ k hk)).trans e1, e2⟩
  · rw [e] at hh
    rcases hh with h9 | h9 | h9
    · cases h9
    · cases h9
    · exact absurd h9 (isI_5 hgl)
  · by_cases e : O k = .a 5 J
    · rw [h1 k e]; exact ⟨isI_no _, fun e => by cases e⟩
    · rw [h2 k e]; exact h.fr k
  · by_cases e9 : O k = .a 5 J
    · rw [h1 k e9] at e; cases e
    · rw [h2 k e9] at e; exact h.lo k i j e
theorem make35 (w : World) (n : Nat) (hn : n ≤ 1000) : (makeOp 35 (.int .i64 (n : Int)) (.int .i64 (n : Int))).run Tryz.prog w = .ok (.value (.slice (some ⟨w.heap.size, 0, none⟩) n n)) (w.alloc (.cells (madeCells Slot.zero.enc.toArray (n * 2)) 93)) := by
  obtain ⟨i, hi, hz, hsz, hby⟩ : ∃ i, Tryz.prog.info? 93 = some i ∧ i.zero = some (.agg Slot.zero.enc.toArray) ∧ i.size = 2 ∧ i.bytes = 24 := by
    have hq : (Tryz.prog.info? 93).map (fun i => (i.zero, i.size, i.bytes)) = some (some (.agg Slot.zero.enc.toArray), 2, 24) := by kernel_rfl
    cases hx : Tryz.prog.info? 93 with
    | none => rw [hx] at hq; simp at hq
    | some i =>
      rw [hx] at hq
      simp only [Option.map_some, Option.some.injEq, Prod.mk.injEq] at hq
      exact ⟨i, rfl, hq.1, hq.2.1, hq.2.2⟩
  have hr := run_make (P := Tryz.prog) w 35 93 i _ Tryz.underlying35 hi hz .i64 .i64 (n : Int) (n : Int) (by omega) (by omega) (by rw [hby]; omega) (by omega)
  unfold makeOp
  rw [Sem.run_bind, hr, hsz, Int.toNat_natCast]
  rfl
theorem build37p (w : World) (k p : Int) (a : Option Addr) (n c : Nat) : (buildOp 37 #[(0, .int .i64 k), (3, .int .i64 p), (4, .slice a n c)]).run Tryz.prog w = .ok (.value (.agg (reqE k none 0 0 none 0 0 p a n c).toArray)) w := by kernel_rfl
theorem made_fr (w : World) (n : Nat) (hn : n ≤ 4) : (w.alloc (.cells (madeCells Slot.zero.enc.toArray (n * 2)) 93)).ownsRow w.heap.size 93 2 (.slice (some ⟨w.heap.size, 0, none⟩) n n) (frS n).length ((frS n).flatMap encL) := by
  have hh := heap_alloc_new w (.cells (madeCells Slot.zero.enc.toArray (n * 2)) 93)
  rcases (show n = 0 ∨ n = 1 ∨ n = 2 ∨ n = 3 ∨ n = 4 from by omega) with rfl | rfl | rfl | rfl | rfl
  · exact ⟨rfl, .inr ⟨w.heap.size, 0, _, rfl, Nat.le_refl _, hh, Nat.le_refl _, by decide, by simp [size_madeCells], by kernel_rfl⟩⟩
  · exact ⟨rfl, .inr ⟨w.heap.size, 1, _, rfl, Nat.le_refl _, hh, Nat.le_refl _, by decide, by simp [size_madeCells], by kernel_rfl⟩⟩
  · exact ⟨rfl, .inr ⟨w.heap.size, 2, _, rfl, Nat.le_refl _, hh, Nat.le_refl _, by decide, by simp [size_madeCells], by kernel_rfl⟩⟩
  · exact ⟨rfl, .inr ⟨w.heap.size, 3, _, rfl, Nat.le_refl _, hh, Nat.le_refl _, by decide, by simp [size_madeCells], by kernel_rfl⟩⟩
  · exact ⟨rfl, .inr ⟨w.heap.size, 4, _, rfl, Nat.le_refl _, hh, Nat.le_refl _, by decide, by simp [size_madeCells], by kernel_rfl⟩⟩
/-- The listing's loop. -/
structure LI (Ob : Own) (Wb : World) (bs : Nat) (m : Int) (s : Sv) (J p : Nat) (oa : Option Addr) (oc : Nat) (s' : Sv) (O : Own) (g : Nat) (K : List Sl) (V : World) : Prop where
  ls : LS Ob Wb bs (m + 10 * (p : Int)) s' O g V
  row : RowL Wb.heap.size O (.a 5 J) V 31 1 (.slice oa p oc) K.length (K.flatMap encR)
  len : K.length = p
  ins : s'.inst = s.inst
  img : s'.img = s.img
  rep : ∀ (i : Nat) (x : Sl) (t : InsS), s.inst = some t → K[i]? = some x → Bs (core O V) x.a x.len (lsQ t i)
def liI (Ob : Own) (Wb : World) (bs : Nat) (m : Int) (s : Sv) (J : Nat) (ta : Option Addr) (N tc : Nat) (f : Nat → Value) (V : World) : Prop := f 0 = .pointer (some ⟨bs, 0, none⟩) ∧ f 4 = .slice ta N tc ∧ ∃ (p : Nat) (oa : Option Addr) (oc : Nat), p ≤ N ∧ f 3 = .slice oa p oc ∧ f 5 = .int .i64 (p : Nat) ∧ Hid (∃ s' O g K, LI Ob Wb bs m s J p oa oc s' O g K V)
def LsPost (O : Own) (V : World) (bs : Nat) (m : Int) (s : Sv) (e : Ending) (V' : World) : Prop := ∃ a n c s' O' g', e = .returned (.slice a n c) ∧ n = (lsF s).length ∧ n ≤ 64 ∧ s'.inst = s.inst ∧ s'.img = s.img ∧ LS O V bs (m + 640) s' O' g' V' ∧ Lst (core O' V') a n (lsF s)
theorem lsF_len (s : Sv) : (lsF s).length = (prF s).length := by
  unfold lsF prF
  cases s.inst with
  | none => rfl
  | some t => simp
theorem lsF_at {s : Sv} {t : InsS} (ht : s.inst = some t) {i : Nat} {r : List UInt8} (h : (lsF s)[i]? = some r) : r = lsQ t i := by
  unfold lsF at h
  rw [ht] at h
  dsimp only at h
  rw [List.getElem?_map] at h
  have hi : i < t.p.preds.length := by
    by_cases h9 : i < t.p.preds.length
    · exact h9
    · rw [List.getElem?_eq_none (by rw [List.length_range]; omega)] at h; cases h
  rw [List.getElem?_range hi] at h
  exact (Option.some.inj h).symm
theorem LS.le {Ob : Own} {Wb : World} {bs : Nat} {m m' : Int} {s : Sv} {O : Own} {g : Nat} {V : World} (h : LS Ob Wb bs m s O g V) (hm : m ≤ m') : LS Ob Wb bs m' s O g V := ⟨h.kp, h.sv, h.fr, h.lo, h.inv.le hm⟩
theorem LI.done {O : Own} {V Wb : World} {Ob : Own} {bs : Nat} {m : Int} {s : Sv} {J N : Nat} {oa : Option Addr} {oc : Nat} {s' : Sv} {O' : Own} {g : Nat} {K : List Sl} {V' : World} (h : LI Ob Wb bs m s J N oa oc s' O' g K V') (hK : Kp O V Ob Wb) (hJ : ∀ k, k < Wb.heap.size → Ob k ≠ .a 5 J) (hN : N = (lsF s).length) (h64 : N ≤ 64) : LsPost O V bs m s (.returned (.slice oa N oc)) V' := by
  obtain ⟨O2, h1, h2, h3⟩ := h.ls.unl hJ
  refine ⟨oa, N, oc, s', O2, g, rfl, hN, h64, h.ins, h.img, ?_, K, ?_, hN.symm, fun i x r e1 e2 => ?_⟩
  · have h9 : LS Ob Wb bs (m + 640) s' O2 g V' := h1.le (by omega)
    exact ⟨hK.trans h9.kp, h9.sv, h9.fr, h9.lo, h9.inv⟩
  · refine (h.row.rw encR_len).1.tocore (fun b C e _ => ?_)
    exact h2 b (h.row.2 b (by rw [e]; rfl))
  · cases ht : s.inst with
    | none =>
      exfalso
      have : lsF s = [] := by unfold lsF; rw [ht]
      rw [this] at e2; cases e2
    | some t =>
      rw [lsF_at ht e2]
      exact (h.rep i x t ht e1).sub (Sub.cores fun b C hb ho => ⟨hb, (h3 b (by rw [ho]; exact fun e => by cases e)).trans ho⟩)
set_option maxRecDepth 100000 in
theorem frame35l (f : Nat → Value) : frameN 35 f = #[f 0, f 1, f 2, f 3, f 4, f 5, f 6, f 7, f 8, f 9, f 10, f 11, f 12, f 13, f 14, f 15, f 16, f 17, f 18, f 19, f 20, f 21, f 22, f 23, f 24, f 25, f 26, f 27, f 28, f 29, f 30, f 31, f 32, f 33, f 34] := by kernel_rfl
attribute [local go_sem ↓] execOp_slice execOp_convert execOp_build execOp_bslice execOp_make
attribute [local go_sem] build37p bslice24
set_option maxRecDepth 20000 in
set_option maxHeartbeats 2000000 in
theorem listing_any {O : Own} {V : World} {bs : Nat} {m : Int} {s : Sv} {g : Nat} (h : LS O V bs m s O g V) (hm : 1000 ≤ m ∧ m ≤ 800000000) : Calls Tryz.prog 21 #[.pointer (some ⟨bs, 0, none⟩)] V (LsPost O V bs m s) := by
  obtain ⟨Q, hQ⟩ : ∃ Q, Q = LsPost O V bs m s := ⟨_, rfl⟩
  rw [← hQ]
  have HQ := hid_of hQ
  have HLS := hid_of h
  have hn64 : (prF s).length ≤ 64 := by
    unfold prF
    cases ht : s.inst with
    | none => exact Nat.zero_le _
    | some t => exact (h.inv.ins t ht).pg.pok.nD
  have hpr := predicates_any h.sv (fun t ht => (h.inv.ins t ht).pg.pok.nD)
  clear hQ h
  go_enter Tryz.func21, Tryz.ntmps21
  go_wp2_with fail
  refine hpr.mono ?_
  rintro e V1 ⟨ta, tc, rfl, hO⟩
  dsimp only
  obtain ⟨N, hN⟩ : ∃ N, N = (prF s).length := ⟨_, rfl⟩
  rw [← hN] at hO hn64 ⊢
  have hL1 := HLS.out.grow hO.2.1
  obtain ⟨O1, hO1⟩ : ∃ O1, O1 = lab O V.heap.size .no := ⟨_, rfl⟩
  have HTB : Hid (Rw PredInfo.enc 3 (core O1 V1) ta N (prF s)) := (rw_own PredInfo.length_enc hO.1).1.tocore (fun b C e _ => by
    rw [hO1]; exact lab_ge (row_at hO.1 b (by rw [e]; rfl)).1)
  rw [← hO1] at hL1
  have HK1 := hid_of hL1.kp
  have hL2 := hL1.self
  obtain ⟨J, hJ⟩ := lab_new O1 V1.heap.size
  have HJ : Hid (∀ k, k < V1.heap.size → O1 k ≠ .a 5 J) := fun k hk => hJ k hk J (Nat.le_refl _)
  have HL2 := hid_of hL2
  have HN : Hid (N = (lsF s).length ∧ N = (prF s).length) := ⟨by rw [lsF_len]; exact hN, hN⟩
  clear hO hL1 hL2 hJ hO1 hN hpr
  go_upto_region 4 with fail
  refine wp_loop_f 35 (liI O1 V1 bs m s J ta N tc) (fun f _ => N - (intOf (f 5)).toNat) rfl ⟨rfl, rfl, 0, none, 0, by omega, rfl, rfl, ⟨s, O1, g, [], by simpa using HL2.out, RowL.nil _ _ _ _ _ _, rfl, rfl, rfl, fun i x t _ e => by cases e⟩⟩ ?_
  intro F W hrel
  obtain ⟨f0, f4, p, oa, oc, hp, f3, f5, HI⟩ := hrel
  have H5 := hid_of f5
  rw [frame35l, f0, f3, f4, f5]
  clear f0 f3 f4 f5
  obtain ⟨s', O', g', K, hI⟩ := HI.out
  have HA := hid_of hI
  clear HI hI
  by_cases hin : p < N
  rotate_left 1
  · obtain rfl : p = N := by omega
    have hin' : ¬ (p : Int) < (p : Int) := by omega
    have HP : Hid (Q (.returned (.slice oa p oc)) W) := by
      show Q _ _
      rw [HQ.out]
      exact HA.out.done HK1.out HJ.out HN.out.1 hn64
    clear HA
    go_wp2_with fail
    try go_ret
    exact HP.out
  have hin' : (p : Int) < (N : Int) := by omega
  have i0 : (0 : Int) ≤ (p : Int) := by omega
  have i2 : ((p : Int)).toNat = p := by omega
  obtain ⟨t, ht⟩ : ∃ t, s.inst = some t := by
    cases ht : s.inst with
    | none =>
      exfalso
      have h1 := HN.out.2
      unfold prF at h1
      rw [ht] at h1
      have h2 : N = 0 := h1
      omega
    | some t => exact ⟨t, rfl⟩
  have hpl : p < t.p.preds.length := by
    have h1 := HN.out.2
    unfold prF at h1
    rw [ht] at h1
    have h2 : N = t.p.preds.length := h1
    omega
  have hG : InG t := HLS.out.inv.ins t ht
  obtain ⟨har, har4⟩ := pI_ar hG.pg.pok hpl
  obtain ⟨ar, ear⟩ : ∃ ar, ar = arP t.p p := ⟨_, rfl⟩
  rw [← ear] at har har4
  have HAR := hid_of ear
  have hpre : (prF s)[p]? = some (pI t.p p) := by unfold prF; rw [ht]; exact pI_at hpl
  obtain ⟨b, C, rfl, hb, hCl, hsg⟩ := HTB.out.2 p _ hpre
  have hc0 : nth C (p * 3) = some (.int .i64 (ar : Int)) := by
    have h9 := nth_in (j := 0) hsg (show nth (PredInfo.enc (pI t.p p)) 0 = some (.int .i64 (pI t.p p).arity) from rfl) (by omega)
    rw [har] at h9
    exact h9
  have hbW : blk W b = some C := by
    obtain ⟨e1, e2⟩ := core_blk hb
    exact (HA.out.ls.blk e1 e2).1
  have hC3 : p * 3 < C.length := by
    have : (p + 1) * 3 ≤ N * 3 := Nat.mul_le_mul_right _ hin
    omega
  have hmk : ∀ w, (makeOp 35 (.int .i64 (ar : Int)) (.int .i64 (ar : Int))).run Tryz.prog w = .ok (.value (.slice (some ⟨w.heap.size, 0, none⟩) ar ar)) (w.alloc (.cells (madeCells Slot.zero.enc.toArray (ar * 2)) 93)) := fun w => make35 w ar (by omega)
  have hen := encode_ok (W.alloc (.cells (madeCells Slot.zero.enc.toArray (ar * 2)) 93)) W.heap.size 6 none 0 0 none 0 0 (p : Int) (some ⟨W.heap.size, 0, none⟩) ar ar ⟨6, [], [], (p : Int), frS ar⟩ ⟨rfl, ownsNil _ _ _ _, ⟨[], ownsNil _ _ _ _, ⟨rfl, fun i d it h => by simp at h⟩⟩, rfl, made_fr W ar har4⟩ 6 (encP p (frS ar)) (rqV_P (by omega) har4)
  obtain ⟨MC, hMC⟩ : ∃ MC, MC = madeCells Slot.zero.enc.toArray (ar * 2) := ⟨_, rfl⟩
  rw [← hMC] at hen
  simp only [← hMC] at hmk
  have HT := hid_of ht
  clear hMC ear hG hpre hb hsg har hpl ht hCl
  go_wp2_with fail
  refine hen.mono ?_
  rintro e W3 ⟨ea, en, ec, rfl, hOb⟩
  dsimp only
  have hx : W.Extends W3 := (extends_alloc (ext_Ext (Ext.refl _)) _).trans hOb.2.1
  have hF3 : Fr (fun _ => False) O' W (lab O' W.heap.size .no) W3 := Fr.grow hx
  have hL3 := HA.out.ls.grow hx
  have hR3 := HA.out.row.fr hF3 (fun e => e)
  have HK3 : Hid (Kp O' W (lab O' W.heap.size .no) W3) := Kp.fr hF3 (fun _ _ e => e)
  obtain ⟨O3, hO3⟩ : ∃ O3, O3 = lab O' W.heap.size .no := ⟨_, rfl⟩
  have hd3 : Dec2 (core O3 W3) ⟨ea, en, ec⟩ (rawP p ar) := by
    obtain ⟨hB, hc1, hc2⟩ := bs_own hOb.1
    refine .inr ⟨⟨hB.1, fun h0 => ?_, hB.2.2⟩, hc1, hc2, ?_⟩
    · obtain ⟨b9, o9, C9, e1, e2, e3, e4⟩ := hB.2.1 h0
      have h9 := (row_at hOb.1 b9 (by rw [e1]; rfl)).1
      rw [World.size_alloc] at h9
      exact ⟨b9, o9, C9, e1, blk_core e2 (by rw [hO3]; exact lab_ge (by omega)), e3, e4⟩
    · have h9 : (rawP p ar).length = en := hB.1
      rw [rawP_len] at h9
      show en ≤ 65536
      omega
  rw [← hO3] at hL3 hR3 HK3
  have HR3 := hid_of hR3
  have hsv := hL3.serve (by omega) _ _ hd3 (by rw [rawP_len]; omega)
  dsimp only at hsv
  clear hx hF3 hL3 hR3 hO3 hd3 hOb hen hbW hmk hc0
  go_wp2_with fail
  refine hsv.mono ?_
  rintro e W4 ⟨ra, rn, rc, q, s2, O4, g4, rfl, hsr, hRB, hK, hL4, hBs, hrc1, hrc2⟩
  dsimp only
  obtain ⟨hq, hins, himg⟩ := svR_P (t := t) (HA.out.ins.trans HT.out) (by omega) har4 hsr
  have hR4 := HR3.out.kp (.inr ⟨5, J, rfl, Nat.le_refl _⟩) hK
  have hKL := HA.out.len
  obtain ⟨a5, c5, W5, hrun, hR5, hF5⟩ := appL encR 1 24 28 31 Tryz.underlying28 info27 encR_len encR_one (by omega) (by omega) 28 (⟨ra, rn, rc⟩ : Sl) hR4 hL4.kp.size (by omega) #[.slice ra rn rc] rfl 1
  have hS5 : Sub (core O4 W4) (core (lab O4 W4.heap.size (.a 5 J)) W5) := Sub.cores fun b C hb ho => ⟨hF5.blk hb (by rw [ho]; exact fun e => by cases e), (hF5.keep b (blk_lt hb)).trans ho⟩
  have HI' : Hid (∃ s' O g K, LI O1 V1 bs m s J (p + 1) a5 c5 s' O g K W5) := by
    refine ⟨s2, _, g4, K ++ [(⟨ra, rn, rc⟩ : Sl)], ?_, hR5, by rw [List.length_append, hKL]; rfl, hins.trans HT.out.symm, himg.trans HA.out.img, fun i x t' ht' hi' => ?_⟩
    · have e9 : m + 10 * ((p + 1 : Nat) : Int) = m + 10 * (p : Int) + 10 := by omega
      rw [e9]
      exact hL4.frJ HJ.out hF5
    · have et : t' = t := by
        have h9 := HT.out
        rw [ht'] at h9
        exact Option.some.inj h9
      subst et
      by_cases hi9 : i < K.length
      · rw [List.getElem?_append_left hi9] at hi'
        exact ((((HA.out.rep i x _ ht' hi').sub HK3.out.sub).sub hK.sub).sub hS5)
      · rw [List.getElem?_append_right (by omega)] at hi'
        have e0 : i - K.length = 0 := by
          by_cases e3 : i - K.length = 0
          · exact e3
          · rw [List.getElem?_eq_none (by rw [List.length_singleton]; omega)] at hi'; cases hi'
        rw [e0] at hi'
        have ex : x = ⟨ra, rn, rc⟩ := (Option.some.inj hi').symm
        have ei : i = p := by omega
        rw [ex, ei]
        unfold lsQ
        rw [← HAR.out, ← hq]
        exact hBs.sub hS5
  clear hsr hRB hK hL4 hBs hrc1 hrc2 hq hins himg hR4 hR5 hF5 hS5 HR3 HK3 HA hsv
  go_wp2_with (at_builtin; refine wpList_append_run rfl _ _ 28 rfl _ _ _ _ rfl rfl hrun ?_)
  refine ⟨rfl, rfl, ⟨rfl, rfl, p + 1, a5, c5, by omega, rfl, ?_, HI'⟩, ?_⟩
  · show Value.int .i64 _ = _
    go_num
  · show N - (intOf (Value.int .i64 _)).toNat < N - (intOf (F 5)).toNat
    rw [H5.out]
    simp [intOf]; omega
end Go.Proofs.Qxb6500787aGreat
