
import Derived.Test.Qxb6500787aGreatVv
import Derived.Test.Qxb6500787aGreatSe
import Derived.StillTailTactics
import Derived.Deep.QuietTactic
import Derived.BigQuiet
import Derived.Deep.RegionHeld
import Derived.Deep.CutRange
import Derived.Laws.ResultCell
import Derived.Laws.Rows
import Derived.DeepKeys
import Derived.DataBytes
import Derived.Laws.StructEq
import Derived.Laws.AppendOwn
import Derived.Laws.MakeOwn
import Derived.Lib.AppendStr
set_option linter.unusedSimpArgs false
set_option linter.unusedVariables false
namespace Go.Proofs.Qxb6500787aGreat
open Go.RowKit Go.Blk
attribute [local go_sem ↓] execOp_load execOp_store execOp_alloc
attribute [local go_sem] Tryz.ld26 Tryz.st26 Tryz.ld27 Tryz.st27 Tryz.ld28 Tryz.st28 Tryz.ld3 Tryz.st3 Tryz.ld29 Tryz.st29 Tryz.ld44 Tryz.st44 Tryz.ld4 Tryz.st4 Tryz.ld50 Tryz.st50 Tryz.ld32 Tryz.st32 Tryz.ld49 Tryz.st49 Tryz.ld68 Tryz.st68 Tryz.ld9 Tryz.st9 Tryz.ld40 Tryz.st40 Tryz.ld138 Tryz.st138 Tryz.ld139 Tryz.st139 Tryz.ld146 Tryz.st146 Tryz.ld183 Tryz.st183 Tryz.ld184 Tryz.st184 Tryz.ld192 Tryz.st192 Tryz.ld195 Tryz.st195 Tryz.ld217 Tryz.st217 Tryz.ld159 Tryz.st159 Tryz.ld142 Tryz.st142 Tryz.ld2 Tryz.st2 Tryz.ld5 Tryz.st5 Tryz.ld12 Tryz.st12 Tryz.ld21 Tryz.st21 Tryz.ld22 Tryz.st22 Tryz.ld24 Tryz.st24 Tryz.ld58 Tryz.st58 Tryz.ld97 Tryz.st97 Tryz.ld101 Tryz.st101 Tryz.ld116 Tryz.st116 Tryz.ld121 Tryz.st121 Tryz.ld135 Tryz.st135 Tryz.ld136 Tryz.st136 Tryz.ld143 Tryz.st143 Tryz.ld148 Tryz.st148 Tryz.ld154 Tryz.st154 Tryz.ld173 Tryz.st173 Tryz.ld187 Tryz.st187 Tryz.ld222 Tryz.st222 Tryz.ld241 Tryz.st241 Tryz.ld248 Tryz.st248 Tryz.ld268 Tryz.st268 Tryz.ld272 Tryz.st272 Tryz.ld153 Tryz.st153 Tryz.ld255 Tryz.st255 Tryz.ld256 Tryz.st256 Tryz.ld129 Tryz.st129 Tryz.ld152 Tryz.st152 Tryz.ld31 Tryz.st31 Tryz.ld46 Tryz.st46 Tryz.ld52 Tryz.st52 Tryz.ld54 Tryz.st54 Tryz.ld60 Tryz.st60 Tryz.ld70 Tryz.st70 Tryz.ld74 Tryz.st74 Tryz.ld93 Tryz.st93 Tryz.ld141 Tryz.st141 Tryz.ld151 Tryz.st151 Tryz.ld170 Tryz.st170 Tryz.ld186 Tryz.st186 Tryz.ld189 Tryz.st189 Tryz.ld194 Tryz.st194 Tryz.ld197 Tryz.st197 Tryz.ld219 Tryz.st219 Tryz.ld224 Tryz.st224 Tryz.ld230 Tryz.st230 Tryz.ld235 Tryz.st235 Tryz.ld243 Tryz.st243 Tryz.ld247 Tryz.st247 Tryz.ld252 Tryz.st252 Tryz.ld258 Tryz.st258 Tryz.al153 Tryz.al255 Tryz.al256 Tryz.al129 Tryz.al152 Tryz.al31 Tryz.al46 Tryz.al52 Tryz.al54 Tryz.al60 Tryz.al70 Tryz.al74 Tryz.al93 Tryz.al141 Tryz.al151 Tryz.al170 Tryz.al186 Tryz.al189 Tryz.al194 Tryz.al197 Tryz.al219 Tryz.al224 Tryz.al230 Tryz.al235 Tryz.al243 Tryz.al247 Tryz.al252 Tryz.al258
attribute [local go_sem] Request.length_enc Request.ok_enc Request.all_get Request.all_set Request.kind_get Request.kind_set Request.blob_get Request.blob_set Request.items_get Request.items_set Request.pred_get Request.pred_set Request.slots_get Request.slots_set Trace.length_enc Trace.ok_enc Trace.all_get Trace.all_set Trace.op_get Trace.op_set Trace.calls_get Trace.calls_set Item.length_enc Item.ok_enc Item.all_get Item.all_set Item.del_get Item.del_set Item.pred_get Item.pred_set Item.args_get Item.args_set Reply.length_enc Reply.ok_enc Reply.all_get Reply.all_set Reply.code_get Reply.code_set Reply.kind_get Reply.kind_set Reply.index_get Reply.index_set Reply.yes_get Reply.yes_set Reply.preds_get Reply.preds_set Reply.rules_get Reply.rules_set Reply.arity_get Reply.arity_set Reply.rows_get Reply.rows_set Reply.fact_get Reply.fact_set Reply.fact_del_get Reply.fact_del_set Reply.fact_pred_get Reply.fact_pred_set Reply.fact_args_get Reply.fact_args_set GEntry.length_enc GEntry.ok_enc GEntry.all_get GEntry.all_set GEntry.seq_get GEntry.seq_set GEntry.kind_get GEntry.kind_set GEntry.code_get GEntry.code_set GOp.length_enc GOp.ok_enc GOp.all_get GOp.all_set GOp.kind_get GOp.kind_set GOp.raw_get GOp.raw_set Reader.length_enc Reader.ok_enc Reader.all_get Reader.all_set Reader.buf_get Reader.buf_set Reader.at__get Reader.at__set Slot.length_enc Slot.ok_enc Slot.all_get Slot.all_set Slot.bound_get Slot.bound_set Slot.name_get Slot.name_set Session.length_enc Session.ok_enc Session.all_get Session.all_set Session.svc_get Session.svc_set Session.buf_get Session.buf_set Session.closed_get Session.closed_set GProgram.length_enc GProgram.ok_enc GProgram.all_get GProgram.all_set GProgram.pool_get GProgram.pool_set GProgram.preds_get GProgram.preds_set GProgram.rules_get GProgram.rules_set GProgram.strata_get GProgram.strata_set PredInfo.length_enc PredInfo.ok_enc PredInfo.all_get PredInfo.all_set PredInfo.arity_get PredInfo.arity_set PredInfo.base_get PredInfo.base_set PredInfo.stratum_get PredInfo.stratum_set Change.length_enc Change.ok_enc Change.all_get Change.all_set Change.del_get Change.del_set Change.pred_get Change.pred_set Change.t_get Change.t_set Store.length_enc Store.ok_enc Store.all_get Store.all_set Store.names_get Store.names_set Store.arity_get Store.arity_set Store.rows_get Store.rows_set Src.length_enc Src.ok_enc Src.all_get Src.all_set Src.b_get Src.b_set Src.at__get Src.at__set Atom.length_enc Atom.ok_enc Atom.all_get Atom.all_set Atom.pred_get Atom.pred_set Atom.args_get Atom.args_set GRule.length_enc GRule.ok_enc GRule.all_get GRule.all_set GRule.head_get GRule.head_set GRule.body_get GRule.body_set GRule.head_pred_get GRule.head_pred_set GRule.head_args_get GRule.head_args_set Cert.length_enc Cert.ok_enc Cert.all_get Cert.all_set Cert.names_get Cert.names_set Cert.nodes_get Cert.nodes_set Fact.length_enc Fact.ok_enc Fact.all_get Fact.all_set Fact.pred_get Fact.pred_set Fact.t_get Fact.t_set Literal.length_enc Literal.ok_enc Literal.all_get Literal.all_set Literal.neg_get Literal.neg_set Literal.atom_get Literal.atom_set Literal.atom_pred_get Literal.atom_pred_set Literal.atom_args_get Literal.atom_args_set Engine.length_enc Engine.ok_enc Engine.all_get Engine.all_set Engine.prog_get Engine.prog_set Engine.st_get Engine.st_set SrcCertm.length_enc SrcCertm.ok_enc SrcCertm.all_get SrcCertm.all_set SrcCertm.b_get SrcCertm.b_set SrcCertm.at__get SrcCertm.at__set GNode.length_enc GNode.ok_enc GNode.all_get GNode.all_set GNode.rule_get GNode.rule_set GNode.pred_get GNode.pred_set GNode.vals_get GNode.vals_set GNode.refs_get GNode.refs_set Term.length_enc Term.ok_enc Term.all_get Term.all_set Term.var_get Term.var_set Term.n_get Term.n_set Env.length_enc Env.ok_enc Env.all_get Env.all_set Env.val_get Env.val_set Env.set_get Env.set_set
attribute [local go_sem] size_put size_ext blk_put free_put blk_alloc free_alloc blk_drew free_drew blk_ext free_ext lookOr_some putOr_some segAt_some cellAt_some storeIn_some put_put put_alloc_new length_arr ok_arr_u8 ok_arr_u32 ok_arr_u64 ok_arr_i64 ok_arr_sl cellsV_agg cellsV_int cellsV_bool cellsV_string cellsV_pointer cellsV_slice cellsV_sl ok_int ok_bool ok_string ok_pointer ok_slice ok_sl toList_arr seg_arr set_arr nth_splice nth_splice0 seg_splice seg_splice0 splice_splice splice_splice0 length_splice_if
attribute [local go_sem ↓] execOp_box
attribute [local go_sem] box_run nth_arr_u8 put_arr_u8 blk_drewN free_drewN put_drewN blk_raw free_raw
/-- The service keeps its invariant. -/
theorem svR.inv {s s' : Sv} {m : Int} (hI : SvI m s) (hm : 1000 ≤ m) {raw : List UInt8} (hr : raw.length ≤ 65536) {q : PRep} (h : svR s raw q s') : SvI (m + 10) s' := by
  obtain ⟨s1, h, rfl⟩ := h
  have hk := svR.k (s' := s1) hI.ins hr h
  have hins : ∀ t, s1.inst = some t → InG t := by
    rcases h with ⟨-, -, rfl⟩ | ⟨h0, h⟩
    · exact fun t ht => hI.ins t ht
    · exact dsR.ing (s := s.clr) (decF_wf hr h0) (fun t ht => hI.ins t ht) h
  have hrst : ∀ k, 0 ≤ s1.rst k ∧ s1.rst k ≤ m + 1 := by
    rcases h with ⟨-, -, rfl⟩ | ⟨h0, h⟩
    · intro k
      have := hI.rst k
      show 0 ≤ s.rst k ∧ s.rst k ≤ m + 1
      omega
    · exact h.rsu.bd (fun k => hI.rst k)
  refine ⟨fun t ht => hins t ht, fun k => ?_⟩
  have h1 := cntF_bd hrst q.kind.toNat q.code.toNat
  have h2 := trF_bd (m := m + 1 + 4) h1 (kind := q.kind) (code := q.code) (by omega) (by omega) k
  show 0 ≤ filR s1.rst q.kind q.code k ∧ filR s1.rst q.kind q.code k ≤ m + 10
  unfold filR
  omega
theorem svI_zero : SvI 1000 Sv.zero := ⟨(fun t h => by cases h), fun k => ⟨by show (0 : Int) ≤ 0; omega, by show (0 : Int) ≤ 1000; omega⟩⟩
/-- The service in a law's loop. -/
structure LS (Ob : Own) (Wb : World) (bs : Nat) (m : Int) (s : Sv) (O : Own) (g : Nat) (V : World) : Prop where
  kp : Kp Ob Wb O V
  sv : SvAt O V bs g s
  fr : ∀ k, ¬ isI (1 - g) (O k) ∧ O k ≠ .a 0 8
  lo : Low O
  inv : SvI m s
theorem LS.grow {Ob : Own} {Wb : World} {bs : Nat} {m : Int} {s : Sv} {O : Own} {g : Nat} {V V' : World} (h : LS Ob Wb bs m s O g V) (hx : V.Extends V') : LS Ob Wb bs m s (lab O V.heap.size .no) g V' := by
  obtain ⟨CS, ip, ia, iN, ic, hS⟩ := h.sv
  have hF : Fr (fun _ => False) O V (lab O V.heap.size .no) V' := Fr.grow hx
  refine ⟨h.kp.trans (Kp.fr hF (fun _ _ e => e)), ⟨CS, ip, ia, iN, ic, hS.frF hF⟩, lab_free h.fr, fun k i j e => ?_, h.inv⟩
  by_cases hk : k < V.heap.size
  · rw [lab_lt hk] at e; exact h.lo k i j e
  · rw [lab_ge (by omega)] at e; cases e
theorem LS.drewN {Ob : Own} {Wb : World} {bs : Nat} {m : Int} {s : Sv} {O : Own} {g : Nat} {V : World} (h : LS Ob Wb bs m s O g V) (n : Nat) : LS Ob Wb bs m s O g (V.drewN n) := by
  obtain ⟨CS, ip, ia, iN, ic, hS⟩ := h.sv
  have hF : Fr (fun _ => False) O V O (V.drewN n) := (Fr.refl _ _ _).drewN n
  exact ⟨h.kp.trans (Kp.fr hF (fun _ _ e => e)), ⟨CS, ip, ia, iN, ic, hS.frF hF⟩, h.fr, h.lo, h.inv⟩
theorem LS.blk {Ob : Own} {Wb : World} {bs : Nat} {m : Int} {s : Sv} {O : Own} {g : Nat} {V : World} (h : LS Ob Wb bs m s O g V) {b : Nat} {C : List Value} (hb : Blk.blk Wb b = some C) (ho : Ob b = .no) : Blk.blk V b = some C ∧ O b = .no := by
  obtain ⟨k1, k2⟩ := h.kp.keep b (blk_lt hb) (by rw [ho]; exact kept_no)
  exact ⟨(blk_of_heap k2).trans hb, k1.trans ho⟩
theorem LS.sub {Ob : Own} {Wb : World} {bs : Nat} {m : Int} {s : Sv} {O : Own} {g : Nat} {V : World} (h : LS Ob Wb bs m s O g V) : Sub (core Ob Wb) (core O V) := h.kp.sub
/-- One request served in a law's loop. -/
theorem LS.serve {Ob : Own} {Wb : World} {bs : Nat} {m : Int} {s : Sv} {O : Own} {g : Nat} {V : World} (h : LS Ob Wb bs m s O g V) (hm : 1000 ≤ m ∧ m ≤ 900000000) (x : Sl) (raw : List UInt8) (hX : Dec2 (core O V) x raw) (hrl : raw.length ≤ 65536) : Calls Tryz.prog 17 #[.pointer (some ⟨bs, 0, none⟩), .slice x.a x.len x.cap] V fun e V' => ∃ a n c q s' O' g', e = .returned (.slice a n c) ∧ svR s raw q s' ∧ RepB q ∧ Kp O V O' V' ∧ LS Ob Wb bs (m + 10) s' O' g' V' ∧ Bs (core O' V') a n (encR' q) ∧ n ≤ c ∧ c ≤ maxLen := by
  refine (serve_any h.sv h.lo h.fr h.inv hm x raw hX hrl).mono ?_
  rintro e V' ⟨a, n, c, q, s', O', g', h1, h2, h3, h4, h5, h6, h7, h8, h9, h10⟩
  exact ⟨a, n, c, q, s', O', g', h1, h2, h3, h4, ⟨h.kp.trans h4, h5, h6, h7, h2.inv h.inv hm.1 hrl⟩, h8, h9, h10⟩
theorem kp_ext {w W V : World} {Ob O : Own} (h : Kp Ob W O V) (hx : w.Extends W) (ho : ∀ k, k < w.heap.size → Ob k = .no) : w.Extends V := by
  refine ext_of (h.os.trans hx.os) (h.tape.trans hx.tape) (h.output.trans hx.output) (Nat.le_trans hx.size h.size) (fun k hk => ?_)
  exact ((h.keep k (Nat.lt_of_lt_of_le hk hx.size) (by rw [ho k hk]; exact kept_no)).2).trans (hx.block k hk)
/-- The service laws begin alike: a new service at bs, and the requests. -/
structure Beg (w : World) (bs : Nat) (len : Nat) (g : Nat → GOp) (dt : Nat → List UInt8) (A : Option Addr) (N Cp : Nat) (L : List Sl) (Ob : Own) (Wb : World) : Prop where
  ls : LS Ob Wb bs 1000 Sv.zero Ob 0 Wb
  ex : w.Extends Wb
  old : ∀ k, k < w.heap.size → Ob k = .no
  row : Rw encR 1 (core Ob Wb) A N L
  nn : N ≤ 65536
  raw : ∀ s ∈ L, ∃ j, j < len ∧ s = (g j).raw ∧ (g j).raw.len ≤ 65536 ∧ BytesIn w (g j).raw (dt j)
theorem beg_of {w : World} {a : Option Addr} {len cap : Nat} {g : Nat → GOp} {dt : Nat → List UInt8} (hS : ScriptAt w a len cap g dt) (hlen : len ≤ 65536) (hsz : ∀ i, i < len → (g i).raw.len ≤ 65536) {W1 : World} {A : Option Addr} {N Cp : Nat} {L : List Sl} (hat : SendsAt (w.alloc (.cells newE.toArray 114)) W1 len g A N Cp L) : Beg w w.heap.size len g dt A N Cp L (lab (lab (fun _ => .no) w.heap.size (.a 0 0)) (w.heap.size + 1) .no) W1 := by
  have hx : w.Extends (w.alloc (.cells newE.toArray 114)) := extends_alloc (ext_Ext (Ext.refl _)) _
  have hs1 : (w.alloc (.cells newE.toArray 114)).heap.size = w.heap.size + 1 := World.size_alloc _ _
  have hF : Fr (fun _ => False) (lab (fun _ => .no) w.heap.size (.a 0 0)) (w.alloc (.cells newE.toArray 114)) (lab (lab (fun _ => .no) w.heap.size (.a 0 0)) (w.heap.size + 1) .no) W1 := by
    have h9 := Fr.grow (L := fun _ => False) (O := lab (fun _ => .no) w.heap.size (.a 0 0)) hat.2.2.2.2
    rw [hs1] at h9
    exact h9
  obtain ⟨CS, ip, ia, iN, ic, hv⟩ := new_at (fun _ => .no) (W := w) 0 (by omega)
  have hlow : Low (lab (lab (fun _ => .no) w.heap.size (.a 0 0)) (w.heap.size + 1) .no) := fun k i j e => by
    by_cases h1 : k < w.heap.size + 1
    · rw [lab_lt h1] at e
      by_cases h2 : k < w.heap.size
      · rw [lab_lt h2] at e; cases e
      · rw [lab_ge (by omega)] at e
        have := (Lab.a.inj e).1
        omega
    · rw [lab_ge (by omega)] at e; cases e
  refine ⟨⟨Kp.refl _ _, ⟨CS, ip, ia, iN, ic, hv.frF hF⟩, fun k => ?_, hlow, svI_zero⟩, hx.trans hat.2.2.2.2, fun k hk => ?_, ?_, by have := hat.2.2.1; omega, fun s hs => ?_⟩
  · by_cases h1 : k < w.heap.size + 1
    · rw [lab_lt h1]
      by_cases h2 : k < w.heap.size
      · rw [lab_lt h2]; exact ⟨isI_no _, fun e => by cases e⟩
      · rw [lab_ge (by omega)]; exact ⟨isI_0 _, fun e => by cases e⟩
    · rw [lab_ge (by omega)]; exact ⟨isI_no _, fun e => by cases e⟩
  · rw [lab_lt (by omega), lab_lt hk]
  · refine (rw_own encR_len hat.1).1.tocore (fun b C e _ => ?_)
    have h9 := (row_at hat.1 b (by rw [e]; rfl)).1
    rw [hs1] at h9
    exact lab_ge h9
  · obtain ⟨j, hj, e⟩ := hat.2.2.2.1 s hs
    exact ⟨j, hj, e, hsz j hj, (hS.2.2.1 j hj).1⟩
theorem Beg.at {w : World} {bs len : Nat} {g : Nat → GOp} {dt : Nat → List UInt8} {A : Option Addr} {N Cp : Nat} {L : List Sl} {Ob : Own} {Wb : World} (h : Beg w bs len g dt A N Cp L Ob Wb) {i : Nat} (hi : i < N) : ∃ s raw b C, A = some ⟨b, 0, none⟩ ∧ blk Wb b = some C ∧ Ob b = .no ∧ i + 1 ≤ C.length ∧ nth C i = some (.slice s.a s.len s.cap) ∧ raw.length ≤ 65536 ∧ Dec2 (core Ob Wb) s raw := by
  obtain ⟨s, hs⟩ : ∃ s, L[i]? = some s := ⟨_, List.getElem?_eq_getElem (by rw [h.row.1]; exact hi)⟩
  obtain ⟨b, C, e1, e2, e3, e4, e5⟩ := rw_cell h.row hs (show encR s = [Sl.val s] from rfl)
  obtain ⟨j, hj, rfl, h1, h2⟩ := h.raw s (List.mem_of_getElem? hs)
  have hd := dec2_of h2 h1
  have hsub : Sub w (core Ob Wb) := fun b C hb => blk_core ((h.ex.blk (blk_lt hb)).trans hb) (h.old b (blk_lt hb))
  refine ⟨(g j).raw, dt j, b, C, e1, (core_blk e2).1, (core_blk e2).2, e3, e5, ?_, hd.sub hsub⟩
  rcases hd with ⟨_, h⟩ | ⟨h1, _, _, h4⟩
  · rw [h]; simp
  · rw [h1.1]; exact h4
end Go.Proofs.Qxb6500787aGreat
