
import Derived.Test.Qxb6500787aGreatTg
import Derived.StillTailTactics
import Derived.Deep.QuietTactic
import Derived.BigQuiet
import Derived.Deep.RegionHeld
import Derived.Deep.CutRange
import Derived.Laws.ResultCell
import Derived.Laws.Rows
import Derived.DeepKeys
import Derived.DataBytes
import Derived.Laws.StructEq
import Derived.Laws.AppendOwn
import Derived.Laws.MakeOwn
import Derived.Lib.AppendStr
set_option linter.unusedSimpArgs false
set_option linter.unusedVariables false
namespace Go.Proofs.Qxb6500787aGreat
open Go.RowKit Go.Blk
attribute [local go_sem ↓] execOp_load execOp_store execOp_alloc
attribute [local go_sem] Tryz.ld26 Tryz.st26 Tryz.ld27 Tryz.st27 Tryz.ld28 Tryz.st28 Tryz.ld3 Tryz.st3 Tryz.ld29 Tryz.st29 Tryz.ld44 Tryz.st44 Tryz.ld4 Tryz.st4 Tryz.ld50 Tryz.st50 Tryz.ld32 Tryz.st32 Tryz.ld49 Tryz.st49 Tryz.ld68 Tryz.st68 Tryz.ld9 Tryz.st9 Tryz.ld40 Tryz.st40 Tryz.ld138 Tryz.st138 Tryz.ld139 Tryz.st139 Tryz.ld146 Tryz.st146 Tryz.ld183 Tryz.st183 Tryz.ld184 Tryz.st184 Tryz.ld192 Tryz.st192 Tryz.ld195 Tryz.st195 Tryz.ld217 Tryz.st217 Tryz.ld159 Tryz.st159 Tryz.ld142 Tryz.st142 Tryz.ld2 Tryz.st2 Tryz.ld5 Tryz.st5 Tryz.ld12 Tryz.st12 Tryz.ld21 Tryz.st21 Tryz.ld22 Tryz.st22 Tryz.ld24 Tryz.st24 Tryz.ld58 Tryz.st58 Tryz.ld97 Tryz.st97 Tryz.ld101 Tryz.st101 Tryz.ld116 Tryz.st116 Tryz.ld121 Tryz.st121 Tryz.ld135 Tryz.st135 Tryz.ld136 Tryz.st136 Tryz.ld143 Tryz.st143 Tryz.ld148 Tryz.st148 Tryz.ld154 Tryz.st154 Tryz.ld173 Tryz.st173 Tryz.ld187 Tryz.st187 Tryz.ld222 Tryz.st222 Tryz.ld241 Tryz.st241 Tryz.ld248 Tryz.st248 Tryz.ld268 Tryz.st268 Tryz.ld272 Tryz.st272 Tryz.ld153 Tryz.st153 Tryz.ld255 Tryz.st255 Tryz.ld256 Tryz.st256 Tryz.ld129 Tryz.st129 Tryz.ld152 Tryz.st152 Tryz.ld31 Tryz.st31 Tryz.ld46 Tryz.st46 Tryz.ld52 Tryz.st52 Tryz.ld54 Tryz.st54 Tryz.ld60 Tryz.st60 Tryz.ld70 Tryz.st70 Tryz.ld74 Tryz.st74 Tryz.ld93 Tryz.st93 Tryz.ld141 Tryz.st141 Tryz.ld151 Tryz.st151 Tryz.ld170 Tryz.st170 Tryz.ld186 Tryz.st186 Tryz.ld189 Tryz.st189 Tryz.ld194 Tryz.st194 Tryz.ld197 Tryz.st197 Tryz.ld219 Tryz.st219 Tryz.ld224 Tryz.st224 Tryz.ld230 Tryz.st230 Tryz.ld235 Tryz.st235 Tryz.ld243 Tryz.st243 Tryz.ld247 Tryz.st247 Tryz.ld252 Tryz.st252 Tryz.ld258 Tryz.st258 Tryz.al153 Tryz.al255 Tryz.al256 Tryz.al129 Tryz.al152 Tryz.al31 Tryz.al46 Tryz.al52 Tryz.al54 Tryz.al60 Tryz.al70 Tryz.al74 Tryz.al93 Tryz.al141 Tryz.al151 Tryz.al170 Tryz.al186 Tryz.al189 Tryz.al194 Tryz.al197 Tryz.al219 Tryz.al224 Tryz.al230 Tryz.al235 Tryz.al243 Tryz.al247 Tryz.al252 Tryz.al258
attribute [local go_sem] Request.length_enc Request.ok_enc Request.all_get Request.all_set Request.kind_get Request.kind_set Request.blob_get Request.blob_set Request.items_get Request.items_set Request.pred_get Request.pred_set Request.slots_get Request.slots_set Trace.length_enc Trace.ok_enc Trace.all_get Trace.all_set Trace.op_get Trace.op_set Trace.calls_get Trace.calls_set Item.length_enc Item.ok_enc Item.all_get Item.all_set Item.del_get Item.del_set Item.pred_get Item.pred_set Item.args_get Item.args_set Reply.length_enc Reply.ok_enc Reply.all_get Reply.all_set Reply.code_get Reply.code_set Reply.kind_get Reply.kind_set Reply.index_get Reply.index_set Reply.yes_get Reply.yes_set Reply.preds_get Reply.preds_set Reply.rules_get Reply.rules_set Reply.arity_get Reply.arity_set Reply.rows_get Reply.rows_set Reply.fact_get Reply.fact_set Reply.fact_del_get Reply.fact_del_set Reply.fact_pred_get Reply.fact_pred_set Reply.fact_args_get Reply.fact_args_set GEntry.length_enc GEntry.ok_enc GEntry.all_get GEntry.all_set GEntry.seq_get GEntry.seq_set GEntry.kind_get GEntry.kind_set GEntry.code_get GEntry.code_set GOp.length_enc GOp.ok_enc GOp.all_get GOp.all_set GOp.kind_get GOp.kind_set GOp.raw_get GOp.raw_set Reader.length_enc Reader.ok_enc Reader.all_get Reader.all_set Reader.buf_get Reader.buf_set Reader.at__get Reader.at__set Slot.length_enc Slot.ok_enc Slot.all_get Slot.all_set Slot.bound_get Slot.bound_set Slot.name_get Slot.name_set Session.length_enc Session.ok_enc Session.all_get Session.all_set Session.svc_get Session.svc_set Session.buf_get Session.buf_set Session.closed_get Session.closed_set GProgram.length_enc GProgram.ok_enc GProgram.all_get GProgram.all_set GProgram.pool_get GProgram.pool_set GProgram.preds_get GProgram.preds_set GProgram.rules_get GProgram.rules_set GProgram.strata_get GProgram.strata_set PredInfo.length_enc PredInfo.ok_enc PredInfo.all_get PredInfo.all_set PredInfo.arity_get PredInfo.arity_set PredInfo.base_get PredInfo.base_set PredInfo.stratum_get PredInfo.stratum_set Change.length_enc Change.ok_enc Change.all_get Change.all_set Change.del_get Change.del_set Change.pred_get Change.pred_set Change.t_get Change.t_set Store.length_enc Store.ok_enc Store.all_get Store.all_set Store.names_get Store.names_set Store.arity_get Store.arity_set Store.rows_get Store.rows_set Src.length_enc Src.ok_enc Src.all_get Src.all_set Src.b_get Src.b_set Src.at__get Src.at__set Atom.length_enc Atom.ok_enc Atom.all_get Atom.all_set Atom.pred_get Atom.pred_set Atom.args_get Atom.args_set GRule.length_enc GRule.ok_enc GRule.all_get GRule.all_set GRule.head_get GRule.head_set GRule.body_get GRule.body_set GRule.head_pred_get GRule.head_pred_set GRule.head_args_get GRule.head_args_set Cert.length_enc Cert.ok_enc Cert.all_get Cert.all_set Cert.names_get Cert.names_set Cert.nodes_get Cert.nodes_set Fact.length_enc Fact.ok_enc Fact.all_get Fact.all_set Fact.pred_get Fact.pred_set Fact.t_get Fact.t_set Literal.length_enc Literal.ok_enc Literal.all_get Literal.all_set Literal.neg_get Literal.neg_set Literal.atom_get Literal.atom_set Literal.atom_pred_get Literal.atom_pred_set Literal.atom_args_get Literal.atom_args_set Engine.length_enc Engine.ok_enc Engine.all_get Engine.all_set Engine.prog_get Engine.prog_set Engine.st_get Engine.st_set SrcCertm.length_enc SrcCertm.ok_enc SrcCertm.all_get SrcCertm.all_set SrcCertm.b_get SrcCertm.b_set SrcCertm.at__get SrcCertm.at__set GNode.length_enc GNode.ok_enc GNode.all_get GNode.all_set GNode.rule_get GNode.rule_set GNode.pred_get GNode.pred_set GNode.vals_get GNode.vals_set GNode.refs_get GNode.refs_set Term.length_enc Term.ok_enc Term.all_get Term.all_set Term.var_get Term.var_set Term.n_get Term.n_set Env.length_enc Env.ok_enc Env.all_get Env.all_set Env.val_get Env.val_set Env.set_get Env.set_set
attribute [local go_sem] size_put size_ext blk_put free_put blk_alloc free_alloc blk_drew free_drew blk_ext free_ext lookOr_some putOr_some segAt_some cellAt_some storeIn_some put_put put_alloc_new length_arr ok_arr_u8 ok_arr_u32 ok_arr_u64 ok_arr_i64 ok_arr_sl cellsV_agg cellsV_int cellsV_bool cellsV_string cellsV_pointer cellsV_slice cellsV_sl ok_int ok_bool ok_string ok_pointer ok_slice ok_sl toList_arr seg_arr set_arr nth_splice nth_splice0 seg_splice seg_splice0 splice_splice splice_splice0 length_splice_if
attribute [local go_sem ↓] execOp_box
attribute [local go_sem] box_run nth_arr_u8 put_arr_u8 blk_drewN free_drewN put_drewN blk_raw free_raw
theorem extd (V : World) : V.Extends V.drew := extends_drew (ext_Ext (Ext.refl _))
theorem dropA_at {α : Type} {L : List α} {i : Nat} {x : α} (h : L[i]? = some x) : L.drop i = x :: L.drop (i + 1) := by
  obtain ⟨hi, e⟩ := List.getElem?_eq_some_iff.1 h
  rw [← e]; exact List.drop_eq_getElem_cons hi
theorem rowsAt_some {S : List (List Tup)} {r : Nat} {L : List Tup} (h : S[r]? = some L) : rowsAt S r = L := by
  unfold rowsAt
  rw [List.getD_eq_getElem?_getD, h]; rfl
theorem own_lt {W0 W : World} {a : Option Addr} {n c : Nat} {ts : List Tup} (h : Outs W0 W a n c ts) {b : Nat} (hb : W.heap.size ≤ b) : (Value.slice a n c).ownBlock ≠ some b := fun e => by
  have := (row_at h.1 b e).2.1; omega
/-- A literal and a rule in memory. -/
def LitC (W : World) (l : Literal) (p : PL) : Prop := l.neg = p.neg ∧ AtomC W l.atom p.atom
def RuleC (W : World) (x : GRule) (r : PR) : Prop := AtomC W x.head r.head ∧ ∃ Ls : List Literal, Rw Literal.enc 3 W x.body.a x.body.len Ls ∧ Ls.length = r.body.length ∧ ∀ (i : Nat) (l : Literal) (p : PL), Ls[i]? = some l → r.body[i]? = some p → LitC W l p
theorem RuleC.sub {W W' : World} {x : GRule} {r : PR} (h : RuleC W x r) (hs : Sub W W') : RuleC W' x r := by
  obtain ⟨h1, Ls, h2, h3, h4⟩ := h
  exact ⟨h1.sub hs, Ls, h2.sub hs, h3, fun i l p hl hp => ⟨(h4 i l p hl hp).1, (h4 i l p hl hp).2.sub hs⟩⟩
theorem RuleC.ext {W W' : World} {x : GRule} {r : PR} (h : RuleC W x r) (hs : W.Extends W') : RuleC W' x r := h.sub (Sub.ext hs)
theorem lit_at {W : World} {x : GRule} {r : PR} (h : RuleC W x r) {i : Nat} {p : PL} (hp : r.body[i]? = some p) : ∃ b C l, x.body.a = some ⟨b, 0, none⟩ ∧ blk W b = some C ∧ i * 3 + 3 ≤ C.length ∧ nth C (i * 3) = some (.bool p.neg) ∧ nth C (i * 3 + 1) = some (.int .i64 (p.atom.pred : Int)) ∧ seg C (i * 3 + 1) 2 = l.enc ∧ AtomC W l p.atom := by
  obtain ⟨h1, Ls, h2, h3, h4⟩ := h
  obtain ⟨l, hl⟩ : ∃ l, Ls[i]? = some l := ⟨_, List.getElem?_eq_getElem (by rw [h3]; exact (List.getElem?_eq_some_iff.1 hp).1)⟩
  obtain ⟨g1, g2⟩ := h4 i l p hl hp
  obtain ⟨b, C, k1, k2, k3, k4⟩ := h2.2 i l hl
  have hl2 := h2.1
  have hi : i < Ls.length := (List.getElem?_eq_some_iff.1 hl).1
  have h5 : (i + 1) * 3 ≤ x.body.len * 3 := Nat.mul_le_mul_right _ (by omega)
  refine ⟨b, C, l.atom, k1, k2, by omega, ?_, ?_, ?_, g2⟩
  · have := nth_in (j := 0) k4 (Literal.neg_get l) (by omega)
    rw [g1] at this; exact this
  · have := nth_in (j := 1) k4 (Literal.atom_pred_get l) (by omega)
    rw [g2.1] at this; exact this
  · have := seg_in (p := 1) (m := 2) k4 (by omega)
    rw [this]; exact Literal.atom_get l
/-- A rule that fits N relations. -/
def RFit (N : Nat) (r : PR) : Prop := Fit r.head ∧ r.body.length ≤ 1000 ∧ ∀ z ∈ r.body, Fit z.atom ∧ z.atom.pred < N
theorem negs_true {S : List (List Tup)} {Z : List PL} {e : Env} (h : ∀ (j : Nat) (z : PL), Z[j]? = some z → (z.neg && decide (gA z.atom e ∈ rowsAt S z.atom.pred)) = false) : negs S Z e = true := by
  unfold negs
  rw [List.all_eq_true]
  intro z hz
  obtain ⟨j, hj⟩ := List.mem_iff_getElem?.1 hz
  rw [h j z hj]; rfl
theorem negs_false {S : List (List Tup)} {Z : List PL} {e : Env} {z : PL} (hz : z ∈ Z) (h : (z.neg && decide (gA z.atom e ∈ rowsAt S z.atom.pred)) = true) : negs S Z e = false := by
  unfold negs
  rw [List.all_eq_false]
  exact ⟨z, hz, by rw [h]; decide⟩
def MPost (W0 W : World) (a : Option Addr) (n c : Nat) (out' : List Tup) (e : Ending) (W' : World) : Prop := ∃ a' n' c', e = .returned (.slice a' n' c') ∧ Outs W0 W' a' n' c' out' ∧ Gro W W' (.slice a n c) (.slice a' n' c')
def m1I (W0 W : World) (ra : Option Addr) (rn rc i b5 b8 : Nat) (v0 : Value) (wa : Option Addr) (wn wc : Nat) (X5 X8 : List Value) (fo : Nat → List Tup) (f : Nat → Value) (V : World) : Prop := f 1 = .slice ra rn rc ∧ f 2 = .int .i64 (i : Int) ∧ f 5 = .pointer (some ⟨b5, 0, none⟩) ∧ f 8 = .pointer (some ⟨b8, 0, none⟩) ∧ f 11 = .slice wa wn wc ∧ ∃ (k : Nat) (a : Option Addr) (n c : Nat), k ≤ wn ∧ f 12 = .int .i64 (k : Nat) ∧ f 4 = .slice a n c ∧ Hid (Outs W0 V a n c (fo k) ∧ Gro W V v0 (.slice a n c) ∧ (blk V b5 = some X5 ∧ (Value.slice a n c).ownBlock ≠ some b5) ∧ (blk V b8 = some X8 ∧ (Value.slice a n c).ownBlock ≠ some b8))
def m2I (V2 : World) (ra : Option Addr) (rn rc b5 b8 nn : Nat) (a : Option Addr) (n c : Nat) (ok : Nat → Prop) (f : Nat → Value) (V : World) : Prop := f 1 = .slice ra rn rc ∧ f 4 = .slice a n c ∧ f 5 = .pointer (some ⟨b5, 0, none⟩) ∧ f 8 = .pointer (some ⟨b8, 0, none⟩) ∧ ∃ (j : Nat), j ≤ nn ∧ f 15 = .int .i64 (j : Nat) ∧ Hid (V2.Extends V) ∧ Hid (ok j)
set_option maxRecDepth 100000 in
theorem frame131h (f : Nat → Value) : frameN 131 f = #[f 0, f 1, f 2, f 3, f 4, f 5, f 6, f 7, f 8, f 9, f 10, f 11, f 12, f 13, f 14, f 15, f 16, f 17, f 18, f 19, f 20, f 21, f 22, f 23, f 24, f 25, f 26, f 27, f 28, f 29, f 30, f 31, f 32, f 33, f 34, f 35, f 36, f 37, f 38, f 39, f 40, f 41, f 42, f 43, f 44, f 45, f 46, f 47, f 48, f 49, f 50, f 51, f 52, f 53, f 54, f 55, f 56, f 57, f 58, f 59, f 60, f 61, f 62, f 63, f 64, f 65, f 66, f 67, f 68, f 69, f 70, f 71, f 72, f 73, f 74, f 75, f 76, f 77, f 78, f 79, f 80, f 81, f 82, f 83, f 84, f 85, f 86, f 87, f 88, f 89, f 90, f 91, f 92, f 93, f 94, f 95, f 96, f 97, f 98, f 99, f 100, f 101, f 102, f 103, f 104, f 105, f 106, f 107, f 108, f 109, f 110, f 111, f 112, f 113, f 114, f 115, f 116, f 117, f 118, f 119, f 120, f 121, f 122, f 123, f 124, f 125, f 126, f 127, f 128, f 129, f 130] := by kernel_rfl
attribute [local go_sem] bslice148
attribute [local go_sem ↓] execOp_bslice execOp_build
set_option maxRecDepth 40000 in
set_option maxHeartbeats 8000000 in
theorem match_any (W0 : World) (x : GRule) (r : PR) (hr : RuleC W0 x r) (ra : Option Addr) (rn rc : Nat) (S : List (List Tup)) (hR : RelR W0 ra rn S) (hS : SOk S) (hf : RFit S.length r) :
    ∀ (m i : Nat), i + m = r.body.length → ∀ (W : World) (e : Env) (a : Option Addr) (n c : Nat) (out : List Tup), Outs W0 W a n c out → EOk e → OutOk out →
      Calls Tryz.prog 174 #[.agg x.enc.toArray, .slice ra rn rc, .int .i64 (i : Int), .agg e.enc.toArray, .slice a n c] W (MPost W0 W a n c (goM S r.body r.head (r.body.drop i) e out)) := by
  intro m
  induction m with
  | zero =>
    intro i hi W e a n c out hout heok hook
    have HR := hid_of hr
    have HRL := hid_of hR
    have HS := hid_of hS
    have HF := hid_of hf
    have HEOK := hid_of heok
    have HOOK := hid_of hook
    obtain ⟨Z0, hZ0⟩ : ∃ Z0, Z0 = r.body := ⟨_, rfl⟩
    rw [← hZ0] at hi
    try rw [← hZ0] at HIH
    rw [← hZ0]
    have HZ0 := hid_of hZ0
    have h1000 : Z0.length ≤ 1000 := by rw [hZ0]; exact hf.2.1
    have hrn : rn = S.length := hR.len
    have HRN := hid_of hrn
    obtain ⟨Q, hQ⟩ : ∃ Q, Q = MPost W0 W a n c (goM S Z0 r.head (Z0.drop i) e out) := ⟨_, rfl⟩
    rw [← hQ]
    have HQ := hid_of hQ
    obtain ⟨Rc, hRc⟩ : ∃ Rc, Rc = x.enc := ⟨_, rfl⟩
    have r1 : nth Rc 2 = some (.slice x.body.a Z0.length x.body.cap) := by
      obtain ⟨_, Ls, h2, h3, _⟩ := hr
      rw [hRc, GRule.body_get, hZ0, ← h3, h2.1]; rfl
    have r2 : seg Rc 0 2 = x.head.enc := by rw [hRc]; exact GRule.head_get x
    have r3 : seg Rc 0 3 = Rc := by rw [hRc]; exact GRule.all_get x
    have r4 : Rc.length = 3 := by rw [hRc]; exact GRule.length_enc x
    have r5 : okCells 3 Rc = true := by rw [hRc]; exact GRule.ok_enc x
    try rw [← hRc] at HIH
    rw [← hRc]
    have r9 : 2 < Rc.length := by omega
    have r10 : 0 + 2 ≤ Rc.length := by omega
    have r11 : 0 + 3 ≤ Rc.length := by omega
    clear hRc hQ hZ0 hr hR hS hf hrn heok hook
    go_enter Tryz.func174, Tryz.ntmps174
    go_upto_region 1 with fail
    refine wp_world (fun V => W.Extends V ∧ blk V W.heap.size = some Rc ∧ blk V (W.heap.size + 1) = some e.enc) ?_ ?_
    · refine ⟨extends_alloc (extends_alloc (ext_Ext (Ext.refl _)) _) _, ?_, ?_⟩
      all_goals first
        | (repeat rw [blk_alloc, if_neg (by simp only [World.size_alloc]; omega)]
           rw [blk_alloc, if_pos (by simp only [World.size_alloc])]
           done)
        | (unfold free
           repeat rw [heap_alloc, if_neg (by simp only [World.size_alloc]; omega)]
           rw [heap_alloc, if_pos (by simp only [World.size_alloc])]
           rfl)
    intro V2 hV1
    try simp only [World.size_alloc]
    obtain ⟨b5, e_b5⟩ : ∃ b, b = W.heap.size := ⟨_, rfl⟩
    obtain ⟨b8, e_b8⟩ : ∃ b, b = W.heap.size + 1 := ⟨_, rfl⟩
    rw [← e_b8] at hV1 ⊢
    rw [← e_b5] at hV1 ⊢
    have hn_b5 : W.heap.size ≤ b5 := by omega
    have n_b5_b8 : ¬ b5 = b8 := by omega
    have n_b8_b5 : ¬ b8 = b5 := by omega
    have hn_b8 : W.heap.size ≤ b8 := by omega
    clear e_b5 e_b8
    obtain ⟨hx2, hb5, hb8⟩ := hV1
    have HXW := hid_of hx2
    have HOUT2 := hid_of (hout.ext hx2)
    have o5 := own_lt hout hn_b5
    have o8 := own_lt hout hn_b8
    clear hx2 hout
    have hie : i = Z0.length := by omega
    have hgo : goM S Z0 r.head (Z0.drop i) e out = if negs S Z0 e then addT out (gA r.head e) else out := by
      rw [List.drop_of_length_le (by omega)]; rfl
    have HGO := hid_of hgo
    have HFH := hid_of HF.out.1
    have HHD := hid_of HR.out.1
    have hn10 : n ≤ 10000000000 := by
      have := HOOK.out.len
      rw [HOUT2.out.2.2]; omega
    obtain ⟨ln, hln⟩ : ∃ ln, ln = Z0.length := ⟨_, rfl⟩
    rw [← hln] at r1 hie h1000
    have HLN := hid_of hln
    have HKB : Hid (blk V2 b5 = some Rc ∧ blk V2 b8 = some e.enc) := ⟨hb5, hb8⟩
    have hii : ¬ ((ln : Int) < (ln : Int)) := by omega
    have HIE := hid_of hie
    rw [hie]
    clear hi hln hgo hie
    go_wp2_with fail
    have HK0 : Hid (V2.Extends V2) := ext_Ext (Ext.refl _)
    have HN0 : Hid (∀ j', j' < 0 → ∀ z, Z0[j']? = some z → (z.neg && decide (gA z.atom e ∈ rowsAt S z.atom.pred)) = false) := fun j' h => absurd h (Nat.not_lt_zero _)
    refine wp_loop_f 131 (m2I V2 ra rn rc b5 b8 ln a n c (fun j => (∀ j', j' < j → ∀ z, Z0[j']? = some z → (z.neg && decide (gA z.atom e ∈ rowsAt S z.atom.pred)) = false))) (fun f _ => ln - (intOf (f 15)).toNat) rfl ⟨rfl, rfl, rfl, rfl, 0, by omega, rfl, HK0, HN0⟩ ?_
    clear HK0 HN0 hb5 hb8
    intro F V hrel
    obtain ⟨f1, f4, f5, f8, j, hj, f15, HX, HOK⟩ := hrel
    have H15 := hid_of f15
    rw [frame131h, f1, f4, f5, f8, f15]
    clear f1 f4 f5 f8 f15
    have hb5 : blk V b5 = some Rc := (HX.out.blk (blk_lt HKB.out.1)).trans HKB.out.1
    have hb8 : blk V b8 = some e.enc := (HX.out.blk (blk_lt HKB.out.2)).trans HKB.out.2
    have xv : W0.Extends V := HOUT2.out.2.1.trans HX.out
    have HRET : Hid (∀ V', V.Extends V' → goM S Z0 r.head (Z0.drop i) e out = out → Q (.returned (.slice a n c)) V') := by
      intro V' hx hg
      rw [HQ.out, hg]
      exact ⟨a, n, c, rfl, HOUT2.out.ext (HX.out.trans hx), Gro.of_ext (HXW.out.trans (HX.out.trans hx)) _⟩
    by_cases hin : j < ln
    · have hin' : (j : Int) < (ln : Int) := by omega
      obtain ⟨l, hl⟩ : ∃ l, Z0[j]? = some l := ⟨_, List.getElem?_eq_getElem (by rw [← HLN.out]; exact hin)⟩
      obtain ⟨hfit, hpN⟩ := HF.out.2.2 l (by rw [← HZ0.out]; exact List.mem_of_getElem? hl)
      rw [← HRN.out] at hpN
      obtain ⟨bL, CL, la, xa, l2, l3, l4, l5, l6, l7⟩ := lit_at HR.out (by rw [← HZ0.out]; exact hl)
      rw [xa] at r1
      have hbL : blk V bL = some CL := (xv.blk (blk_lt l2)).trans l2
      have l8 : j * 3 < CL.length := by omega
      have l9 : j * 3 + 1 < CL.length := by omega
      have l10 : j * 3 + 1 + 2 ≤ CL.length := by omega
      have p0 : (0 : Int) ≤ (j : Int) := by omega
      have p2 : ((j : Int)).toNat = j := by omega
      have HZ := hid_of hl
      have hnext : ∀ {b : Bool}, (l.neg && decide (gA l.atom e ∈ rowsAt S l.atom.pred)) = b → b = false → (∀ j', j' < j + 1 → ∀ z, Z0[j']? = some z → (z.neg && decide (gA z.atom e ∈ rowsAt S z.atom.pred)) = false) := by
        intro b h1 h2 j' h3 z h4
        by_cases h5 : j' = j
        · subst h5
          rw [HZ.out] at h4
          have := Option.some.inj h4
          subst this
          rw [h1, h2]
        · exact HOK.out j' (by omega) z h4
      by_cases hneg : l.neg = true
      rotate_left 1
      · have hnegf : l.neg = false := by simpa using hneg
        have HOK' : Hid (∀ j', j' < j + 1 → ∀ z, Z0[j']? = some z → (z.neg && decide (gA z.atom e ∈ rowsAt S z.atom.pred)) = false) := hnext rfl (by rw [hnegf]; rfl)
        rw [hnegf] at l4
        have HX' : Hid (V2.Extends V.drew) := extends_drew HX.out
        clear hnext HOK HRET xv xa l7 l2 hl
        go_upto_region 15 with fail
        refine wp_region_held_drew (S := fun W' => blk W' b5 = some Rc ∧ blk W' bL = some CL) (by kernel_rfl) ⟨hb5, hbL⟩ (fun hHeld => ?_)
        refine wpAnyH_take (i := 0) (oi := ⟨_, _, _, _, _, _⟩) (v := ?_) rfl (by kernel_rfl) (by kernel_rfl) (by kernel_rfl) (fun _ _ _ h => h) (Or.inl ⟨by rfl, ?_⟩) (by assumption) ?_
        rotate_left 1
        · intro W' hSw
          obtain ⟨hS1, hS2⟩ := hSw
          go_simp
          try with_reducible rfl
        try simp only [Act.put, List.setIfInBounds_toArray, List.set_cons_zero, List.set_cons_succ]
        refine wpAnyH_take (i := 1) (oi := ⟨_, _, _, _, _, _⟩) (v := ?_) rfl (by kernel_rfl) (by kernel_rfl) (by kernel_rfl) (fun _ _ _ h => h) (Or.inl ⟨by rfl, ?_⟩) (by assumption) ?_
        rotate_left 1
        · intro W' hSw
          obtain ⟨hS1, hS2⟩ := hSw
          go_simp
          try with_reducible rfl
        try simp only [Act.put, List.setIfInBounds_toArray, List.set_cons_zero, List.set_cons_succ]
        refine wpAnyH_take (i := 2) (oi := ⟨_, _, _, _, _, _⟩) (v := ?_) rfl (by kernel_rfl) (by kernel_rfl) (by kernel_rfl) (fun _ _ _ h => h) (Or.inl ⟨by rfl, ?_⟩) (by assumption) ?_
        rotate_left 1
        · intro W' hSw
          obtain ⟨hS1, hS2⟩ := hSw
          go_simp
          try with_reducible rfl
        try simp only [Act.put, List.setIfInBounds_toArray, List.set_cons_zero, List.set_cons_succ]
        refine wpAnyH_take (i := 3) (oi := ⟨_, _, _, _, _, _⟩) (v := ?_) rfl (by kernel_rfl) (by kernel_rfl) (by kernel_rfl) (fun _ _ _ h => h) (Or.inl ⟨by rfl, ?_⟩) (by assumption) ?_
        rotate_left 1
        · intro W' hSw
          obtain ⟨hS1, hS2⟩ := hSw
          go_simp
          try with_reducible rfl
        try simp only [Act.put, List.setIfInBounds_toArray, List.set_cons_zero, List.set_cons_succ]
        refine wpAnyH_take (i := 4) (oi := ⟨_, _, _, _, _, _⟩) (v := ?_) rfl (by kernel_rfl) (by kernel_rfl) (by kernel_rfl) (fun _ _ _ h => h) (Or.inl ⟨by rfl, ?_⟩) (by assumption) ?_
        rotate_left 1
        · intro W' hSw
          obtain ⟨hS1, hS2⟩ := hSw
          go_simp
          try with_reducible rfl
        try simp only [Act.put, List.setIfInBounds_toArray, List.set_cons_zero, List.set_cons_succ]
        refine wpAnyH_take (i := 5) (oi := ⟨_, _, _, _, _, _⟩) (v := ?_) rfl (by kernel_rfl) (by kernel_rfl) (by kernel_rfl) (fun _ _ _ h => h) (Or.inl ⟨by rfl, ?_⟩) (by assumption) ?_
        rotate_left 1
        · intro W' hSw
          obtain ⟨hS1, hS2⟩ := hSw
          go_simp
          try with_reducible rfl
        try simp only [Act.put, List.setIfInBounds_toArray, List.set_cons_zero, List.set_cons_succ]
        refine wpAnyH_take (i := 6) (oi := ⟨_, _, _, _, _, _⟩) (v := ?_) rfl (by kernel_rfl) (by kernel_rfl) (by kernel_rfl) (fun _ _ _ h => h) (Or.inl ⟨by rfl, ?_⟩) (by assumption) ?_
        rotate_left 1
        · intro W' hSw
          obtain ⟨hS1, hS2⟩ := hSw
          go_simp
          try with_reducible rfl
        try simp only [Act.put, List.setIfInBounds_toArray, List.set_cons_zero, List.set_cons_succ]
        refine wpAnyH_take (i := 7) (oi := ⟨_, _, _, _, _, _⟩) (v := undef) rfl (by kernel_rfl) (by kernel_rfl) (by kernel_rfl) (fun _ _ _ h => h) (Or.inr ⟨by rfl, rfl⟩) (by assumption) ?_
        try simp only [Act.put, List.setIfInBounds_toArray, List.set_cons_zero, List.set_cons_succ]
        refine wpAnyH_take (i := 8) (oi := ⟨_, _, _, _, _, _⟩) (v := undef) rfl (by kernel_rfl) (by kernel_rfl) (by kernel_rfl) (fun _ _ _ h => h) (Or.inr ⟨by rfl, rfl⟩) (by assumption) ?_
        try simp only [Act.put, List.setIfInBounds_toArray, List.set_cons_zero, List.set_cons_succ]
        refine wpAnyH_take (i := 9) (oi := ⟨_, _, _, _, _, _⟩) (v := undef) rfl (by kernel_rfl) (by kernel_rfl) (by kernel_rfl) (fun _ _ _ h => h) (Or.inr ⟨by rfl, rfl⟩) (by assumption) ?_
        try simp only [Act.put, List.setIfInBounds_toArray, List.set_cons_zero, List.set_cons_succ]
        refine wpAnyH_take (i := 10) (oi := ⟨_, _, _, _, _, _⟩) (v := undef) rfl (by kernel_rfl) (by kernel_rfl) (by kernel_rfl) (fun _ _ _ h => h) (Or.inr ⟨by rfl, rfl⟩) (by assumption) ?_
        try simp only [Act.put, List.setIfInBounds_toArray, List.set_cons_zero, List.set_cons_succ]
        refine wpAnyH_take (i := 11) (oi := ⟨_, _, _, _, _, _⟩) (v := undef) rfl (by kernel_rfl) (by kernel_rfl) (by kernel_rfl) (fun _ _ _ h => h) (Or.inr ⟨by rfl, rfl⟩) (by assumption) ?_
        try simp only [Act.put, List.setIfInBounds_toArray, List.set_cons_zero, List.set_cons_succ]
        refine wpAnyH_take (i := 12) (oi := ⟨_, _, _, _, _, _⟩) (v := undef) rfl (by kernel_rfl) (by kernel_rfl) (by kernel_rfl) (fun _ _ _ h => h) (Or.inr ⟨by rfl, rfl⟩) (by assumption) ?_
        try simp only [Act.put, List.setIfInBounds_toArray, List.set_cons_zero, List.set_cons_succ]
        refine wpAnyH_take (i := 13) (oi := ⟨_, _, _, _, _, _⟩) (v := undef) rfl (by kernel_rfl) (by kernel_rfl) (by kernel_rfl) (fun _ _ _ h => h) (Or.inr ⟨by rfl, rfl⟩) (by assumption) ?_
        try simp only [Act.put, List.setIfInBounds_toArray, List.set_cons_zero, List.set_cons_succ]
        refine wpAnyH_take (i := 14) (oi := ⟨_, _, _, _, _, _⟩) (v := undef) rfl (by kernel_rfl) (by kernel_rfl) (by kernel_rfl) (fun _ _ _ h => h) (Or.inr ⟨by rfl, rfl⟩) (by assumption) ?_
        try simp only [Act.put, List.setIfInBounds_toArray, List.set_cons_zero, List.set_cons_succ]
        refine wpAnyH_take (i := 15) (oi := ⟨_, _, _, _, _, _⟩) (v := undef) rfl (by kernel_rfl) (by kernel_rfl) (by kernel_rfl) (fun _ _ _ h => h) (Or.inr ⟨by rfl, rfl⟩) (by assumption) ?_
        try simp only [Act.put, List.setIfInBounds_toArray, List.set_cons_zero, List.set_cons_succ]
        refine wpAnyH_take (i := 16) (oi := ⟨_, _, _, _, _, _⟩) (v := undef) rfl (by kernel_rfl) (by kernel_rfl) (by kernel_rfl) (fun _ _ _ h => h) (Or.inr ⟨by rfl, rfl⟩) (by assumption) ?_
        try simp only [Act.put, List.setIfInBounds_toArray, List.set_cons_zero, List.set_cons_succ]
        refine wpAnyH_take (i := 17) (oi := ⟨_, _, _, _, _, _⟩) (v := undef) rfl (by kernel_rfl) (by kernel_rfl) (by kernel_rfl) (fun _ _ _ h => h) (Or.inr ⟨by rfl, rfl⟩) (by assumption) ?_
        try simp only [Act.put, List.setIfInBounds_toArray, List.set_cons_zero, List.set_cons_succ]
        refine wpAnyH_take (i := 18) (oi := ⟨_, _, _, _, _, _⟩) (v := undef) rfl (by kernel_rfl) (by kernel_rfl) (by kernel_rfl) (fun _ _ _ h => h) (Or.inr ⟨by rfl, rfl⟩) (by assumption) ?_
        try simp only [Act.put, List.setIfInBounds_toArray, List.set_cons_zero, List.set_cons_succ]
        refine wpAnyH_take (i := 19) (oi := ⟨_, _, _, _, _, _⟩) (v := undef) rfl (by kernel_rfl) (by kernel_rfl) (by kernel_rfl) (fun _ _ _ h => h) (Or.inr ⟨by rfl, rfl⟩) (by assumption) ?_
        try simp only [Act.put, List.setIfInBounds_toArray, List.set_cons_zero, List.set_cons_succ]
        refine wpAnyH_take (i := 20) (oi := ⟨_, _, _, _, _, _⟩) (v := undef) rfl (by kernel_rfl) (by kernel_rfl) (by kernel_rfl) (fun _ _ _ h => h) (Or.inr ⟨by rfl, rfl⟩) (by assumption) ?_
        try simp only [Act.put, List.setIfInBounds_toArray, List.set_cons_zero, List.set_cons_succ]
        refine wpAnyH_take (i := 21) (oi := ⟨_, _, _, _, _, _⟩) (v := undef) rfl (by kernel_rfl) (by kernel_rfl) (by kernel_rfl) (fun _ _ _ h => h) (Or.inr ⟨by rfl, rfl⟩) (by assumption) ?_
        try simp only [Act.put, List.setIfInBounds_toArray, List.set_cons_zero, List.set_cons_succ]
        refine wpAnyH_take (i := 22) (oi := ⟨_, _, _, _, _, _⟩) (v := undef) rfl (by kernel_rfl) (by kernel_rfl) (by kernel_rfl) (fun _ _ _ h => h) (Or.inr ⟨by rfl, rfl⟩) (by assumption) ?_
        try simp only [Act.put, List.setIfInBounds_toArray, List.set_cons_zero, List.set_cons_succ]
        refine wpAnyH_take (i := 23) (oi := ⟨_, _, _, _, _, _⟩) (v := undef) rfl (by kernel_rfl) (by kernel_rfl) (by kernel_rfl) (fun _ _ _ h => h) (Or.inr ⟨by rfl, rfl⟩) (by assumption) ?_
        try simp only [Act.put, List.setIfInBounds_toArray, List.set_cons_zero, List.set_cons_succ]
        refine wpAnyH_take (i := 24) (oi := ⟨_, _, _, _, _, _⟩) (v := undef) rfl (by kernel_rfl) (by kernel_rfl) (by kernel_rfl) (fun _ _ _ h => h) (Or.inr ⟨by rfl, rfl⟩) (by assumption) ?_
        try simp only [Act.put, List.setIfInBounds_toArray, List.set_cons_zero, List.set_cons_succ]
        refine wpAnyH_take (i := 25) (oi := ⟨_, _, _, _, _, _⟩) (v := undef) rfl (by kernel_rfl) (by kernel_rfl) (by kernel_rfl) (fun _ _ _ h => h) (Or.inr ⟨by rfl, rfl⟩) (by assumption) ?_
        try simp only [Act.put, List.setIfInBounds_toArray, List.set_cons_zero, List.set_cons_succ]
        refine wpAnyH_take (i := 26) (oi := ⟨_, _, _, _, _, _⟩) (v := ?_) rfl (by kernel_rfl) (by kernel_rfl) (by kernel_rfl) (fun _ _ _ h => h) (Or.inl ⟨by rfl, ?_⟩) (by assumption) ?_
        rotate_left 1
        · intro W' hSw
          obtain ⟨hS1, hS2⟩ := hSw
          go_simp
          try with_reducible rfl
        try simp only [Act.put, List.setIfInBounds_toArray, List.set_cons_zero, List.set_cons_succ]
        refine wpAnyH_done (by kernel_rfl) ?_ _
        go_wp2_with fail
        refine ⟨rfl, rfl, ⟨rfl, rfl, rfl, rfl, j + 1, by omega, ?_, HX', HOK'⟩, ?_⟩
        · show Value.int .i64 _ = _
          go_num
        · show ln - (intOf (Value.int .i64 _)).toNat < ln - (intOf (F 15)).toNat
          rw [H15.out]
          simp [intOf]; omega
      rw [hneg] at l4
      obtain ⟨pq, hpq⟩ : ∃ pq, pq = l.atom.pred := ⟨_, rfl⟩
      rw [← hpq] at hpN l5
      obtain ⟨rows, hrows⟩ : ∃ rows, S[pq]? = some rows := ⟨_, List.getElem?_eq_getElem (by rw [← HRN.out]; exact hpN)⟩
      have hlen := (HS.out rows (List.mem_of_getElem? hrows)).len
      obtain ⟨bq, Cq, wa, wc, rfl, q2, q3, q4, q5⟩ := (HRL.out.ext xv).at hrows
      have hra : rowsAt S l.atom.pred = rows := by rw [← hpq]; exact rowsAt_some hrows
      have y0 : (0 : Int) ≤ (pq : Int) := by omega
      have y1 : (pq : Int) < (rn : Int) := by omega
      have y2 : ((pq : Int)).toNat = pq := by omega
      obtain ⟨T, hT⟩ : ∃ T, T = gA l.atom e := ⟨_, rfl⟩
      have hgr : ∀ V', V.Extends V' → _ := fun V' (hx : V.Extends V') => ground_any V' la l.atom (l7.ext (xv.trans hx)) e hfit
      have hgT : gT l.atom e l.atom.args.length = T := hT.symm
      rw [hgT] at hgr
      have hct := fun V' (hx : V.Extends V') => member_any V' wa rows.length wc rows (q5.ext' hx) (by omega) T
      have hcond : (l.neg && decide (gA l.atom e ∈ rowsAt S l.atom.pred)) = decide (T ∈ rows) := by rw [hneg, hra, ← hT]; rfl
      have HCOND := hid_of hcond
      have HNEXT : Hid (∀ b : Bool, (l.neg && decide (gA l.atom e ∈ rowsAt S l.atom.pred)) = b → b = false → (∀ j', j' < j + 1 → ∀ z, Z0[j']? = some z → (z.neg && decide (gA z.atom e ∈ rowsAt S z.atom.pred)) = false)) := fun b => hnext
      have HSX : Hid (∀ V', V.Extends V' → blk V' b5 = some Rc ∧ blk V' bL = some CL ∧ blk V' bq = some Cq ∧ blk V' b8 = some e.enc) := fun V' hx => ⟨(hx.blk (blk_lt hb5)).trans hb5, (hx.blk (blk_lt hbL)).trans hbL, (hx.blk (blk_lt q2)).trans q2, (hx.blk (blk_lt hb8)).trans hb8⟩
      have HGR := hid_of hgr
      have HCT := hid_of hct
      obtain ⟨wn, hwn⟩ : ∃ wn, wn = rows.length := ⟨_, rfl⟩
      rw [← hwn] at q4 HCT hlen
      clear hnext hcond hra hrows xv hT hgT hgr hct q5 l7 hwn l2 xa hl hpq
      go_upto_region 15 with fail
      refine wp_region_held_drew (S := fun W' => blk W' b5 = some Rc ∧ blk W' bL = some CL ∧ blk W' bq = some Cq ∧ blk W' b8 = some e.enc) (by kernel_rfl) (HSX.out _ (extd V)) (fun hHeld => ?_)
      refine wpAnyH_take (i := 0) (oi := ⟨_, _, _, _, _, _⟩) (v := ?_) rfl (by kernel_rfl) (by kernel_rfl) (by kernel_rfl) (fun _ _ _ h => h) (Or.inl ⟨by rfl, ?_⟩) (by assumption) ?_
      rotate_left 1
      · intro W' hSw
        obtain ⟨hS1, hS2, hS3, hS4⟩ := hSw
        go_simp
        try with_reducible rfl
      try simp only [Act.put, List.setIfInBounds_toArray, List.set_cons_zero, List.set_cons_succ]
      refine wpAnyH_take (i := 1) (oi := ⟨_, _, _, _, _, _⟩) (v := ?_) rfl (by kernel_rfl) (by kernel_rfl) (by kernel_rfl) (fun _ _ _ h => h) (Or.inl ⟨by rfl, ?_⟩) (by assumption) ?_
      rotate_left 1
      · intro W' hSw
        obtain ⟨hS1, hS2, hS3, hS4⟩ := hSw
        go_simp
        try with_reducible rfl
      try simp only [Act.put, List.setIfInBounds_toArray, List.set_cons_zero, List.set_cons_succ]
      refine wpAnyH_take (i := 2) (oi := ⟨_, _, _, _, _, _⟩) (v := ?_) rfl (by kernel_rfl) (by kernel_rfl) (by kernel_rfl) (fun _ _ _ h => h) (Or.inl ⟨by rfl, ?_⟩) (by assumption) ?_
      rotate_left 1
      · intro W' hSw
        obtain ⟨hS1, hS2, hS3, hS4⟩ := hSw
        go_simp
        try with_reducible rfl
      try simp only [Act.put, List.setIfInBounds_toArray, List.set_cons_zero, List.set_cons_succ]
      refine wpAnyH_take (i := 3) (oi := ⟨_, _, _, _, _, _⟩) (v := ?_) rfl (by kernel_rfl) (by kernel_rfl) (by kernel_rfl) (fun _ _ _ h => h) (Or.inl ⟨by rfl, ?_⟩) (by assumption) ?_
      rotate_left 1
      · intro W' hSw
        obtain ⟨hS1, hS2, hS3, hS4⟩ := hSw
        go_simp
        try with_reducible rfl
      try simp only [Act.put, List.setIfInBounds_toArray, List.set_cons_zero, List.set_cons_succ]
      refine wpAnyH_take (i := 4) (oi := ⟨_, _, _, _, _, _⟩) (v := ?_) rfl (by kernel_rfl) (by kernel_rfl) (by kernel_rfl) (fun _ _ _ h => h) (Or.inl ⟨by rfl, ?_⟩) (by assumption) ?_
      rotate_left 1
      · intro W' hSw
        obtain ⟨hS1, hS2, hS3, hS4⟩ := hSw
        go_simp
        try with_reducible rfl
      try simp only [Act.put, List.setIfInBounds_toArray, List.set_cons_zero, List.set_cons_succ]
      refine wpAnyH_take (i := 5) (oi := ⟨_, _, _, _, _, _⟩) (v := ?_) rfl (by kernel_rfl) (by kernel_rfl) (by kernel_rfl) (fun _ _ _ h => h) (Or.inl ⟨by rfl, ?_⟩) (by assumption) ?_
      rotate_left 1
      · intro W' hSw
        obtain ⟨hS1, hS2, hS3, hS4⟩ := hSw
        go_simp
        try with_reducible rfl
      try simp only [Act.put, List.setIfInBounds_toArray, List.set_cons_zero, List.set_cons_succ]
      refine wpAnyH_take (i := 6) (oi := ⟨_, _, _, _, _, _⟩) (v := ?_) rfl (by kernel_rfl) (by kernel_rfl) (by kernel_rfl) (fun _ _ _ h => h) (Or.inl ⟨by rfl, ?_⟩) (by assumption) ?_
      rotate_left 1
      · intro W' hSw
        obtain ⟨hS1, hS2, hS3, hS4⟩ := hSw
        go_simp
        try with_reducible rfl
      try simp only [Act.put, List.setIfInBounds_toArray, List.set_cons_zero, List.set_cons_succ]
      refine wpAnyH_take (i := 7) (oi := ⟨_, _, _, _, _, _⟩) (v := ?_) rfl (by kernel_rfl) (by kernel_rfl) (by kernel_rfl) (fun _ _ _ h => h) (Or.inl ⟨by rfl, ?_⟩) (by assumption) ?_
      rotate_left 1
      · intro W' hSw
        obtain ⟨hS1, hS2, hS3, hS4⟩ := hSw
        go_simp
        try with_reducible rfl
      try simp only [Act.put, List.setIfInBounds_toArray, List.set_cons_zero, List.set_cons_succ]
      refine wpAnyH_take (i := 8) (oi := ⟨_, _, _, _, _, _⟩) (v := ?_) rfl (by kernel_rfl) (by kernel_rfl) (by kernel_rfl) (fun _ _ _ h => h) (Or.inl ⟨by rfl, ?_⟩) (by assumption) ?_
      rotate_left 1
      · intro W' hSw
        obtain ⟨hS1, hS2, hS3, hS4⟩ := hSw
        go_simp
        try with_reducible rfl
      try simp only [Act.put, List.setIfInBounds_toArray, List.set_cons_zero, List.set_cons_succ]
      refine wpAnyH_take (i := 9) (oi := ⟨_, _, _, _, _, _⟩) (v := ?_) rfl (by kernel_rfl) (by kernel_rfl) (by kernel_rfl) (fun _ _ _ h => h) (Or.inl ⟨by rfl, ?_⟩) (by assumption) ?_
      rotate_left 1
      · intro W' hSw
        obtain ⟨hS1, hS2, hS3, hS4⟩ := hSw
        go_simp
        try with_reducible rfl
      try simp only [Act.put, List.setIfInBounds_toArray, List.set_cons_zero, List.set_cons_succ]
      refine wpAnyH_take (i := 10) (oi := ⟨_, _, _, _, _, _⟩) (v := ?_) rfl (by kernel_rfl) (by kernel_rfl) (by kernel_rfl) (fun _ _ _ h => h) (Or.inl ⟨by rfl, ?_⟩) (by assumption) ?_
      rotate_left 1
      · intro W' hSw
        obtain ⟨hS1, hS2, hS3, hS4⟩ := hSw
        go_simp
        try with_reducible rfl
      try simp only [Act.put, List.setIfInBounds_toArray, List.set_cons_zero, List.set_cons_succ]
      refine wpAnyH_take (i := 11) (oi := ⟨_, _, _, _, _, _⟩) (v := ?_) rfl (by kernel_rfl) (by kernel_rfl) (by kernel_rfl) (fun _ _ _ h => h) (Or.inl ⟨by rfl, ?_⟩) (by assumption) ?_
      rotate_left 1
      · intro W' hSw
        obtain ⟨hS1, hS2, hS3, hS4⟩ := hSw
        go_simp
        try with_reducible rfl
      try simp only [Act.put, List.setIfInBounds_toArray, List.set_cons_zero, List.set_cons_succ]
      refine wpAnyH_take (i := 12) (oi := ⟨_, _, _, _, _, _⟩) (v := ?_) rfl (by kernel_rfl) (by kernel_rfl) (by kernel_rfl) (fun _ _ _ h => h) (Or.inl ⟨by rfl, ?_⟩) (by assumption) ?_
      rotate_left 1
      · intro W' hSw
        obtain ⟨hS1, hS2, hS3, hS4⟩ := hSw
        go_simp
        try with_reducible rfl
      try simp only [Act.put, List.setIfInBounds_toArray, List.set_cons_zero, List.set_cons_succ]
      refine wpAnyH_take (i := 13) (oi := ⟨_, _, _, _, _, _⟩) (v := ?_) rfl (by kernel_rfl) (by kernel_rfl) (by kernel_rfl) (fun _ _ _ h => h) (Or.inl ⟨by rfl, ?_⟩) (by assumption) ?_
      rotate_left 1
      · intro W' hSw
        obtain ⟨hS1, hS2, hS3, hS4⟩ := hSw
        go_simp
        try with_reducible rfl
      try simp only [Act.put, List.setIfInBounds_toArray, List.set_cons_zero, List.set_cons_succ]
      refine wpAnyH_take (i := 14) (oi := ⟨_, _, _, _, _, _⟩) (v := ?_) rfl (by kernel_rfl) (by kernel_rfl) (by kernel_rfl) (fun _ _ _ h => h) (Or.inl ⟨by rfl, ?_⟩) (by assumption) ?_
      rotate_left 1
      · intro W' hSw
        obtain ⟨hS1, hS2, hS3, hS4⟩ := hSw
        go_simp
        try with_reducible rfl
      try simp only [Act.put, List.setIfInBounds_toArray, List.set_cons_zero, List.set_cons_succ]
      refine wpAnyH_take (i := 15) (oi := ⟨_, _, _, _, _, _⟩) (v := ?_) rfl (by kernel_rfl) (by kernel_rfl) (by kernel_rfl) (fun _ _ _ h => h) (Or.inl ⟨by rfl, ?_⟩) (by assumption) ?_
      rotate_left 1
      · intro W' hSw
        obtain ⟨hS1, hS2, hS3, hS4⟩ := hSw
        go_simp
        try with_reducible rfl
      try simp only [Act.put, List.setIfInBounds_toArray, List.set_cons_zero, List.set_cons_succ]
      refine wpAnyH_take (i := 16) (oi := ⟨_, _, _, _, _, _⟩) (v := ?_) rfl (by kernel_rfl) (by kernel_rfl) (by kernel_rfl) (fun _ _ _ h => h) (Or.inl ⟨by rfl, ?_⟩) (by assumption) ?_
      rotate_left 1
      · intro W' hSw
        obtain ⟨hS1, hS2, hS3, hS4⟩ := hSw
        go_simp
        try with_reducible rfl
      try simp only [Act.put, List.setIfInBounds_toArray, List.set_cons_zero, List.set_cons_succ]
      refine wpAnyH_take (i := 17) (oi := ⟨_, _, _, _, _, _⟩) (v := ?_) rfl (by kernel_rfl) (by kernel_rfl) (by kernel_rfl) (fun _ _ _ h => h) (Or.inl ⟨by rfl, ?_⟩) (by assumption) ?_
      rotate_left 1
      · intro W' hSw
        obtain ⟨hS1, hS2, hS3, hS4⟩ := hSw
        go_simp
        try with_reducible rfl
      try simp only [Act.put, List.setIfInBounds_toArray, List.set_cons_zero, List.set_cons_succ]
      refine wpAnyH_take (i := 18) (oi := ⟨_, _, _, _, _, _⟩) (v := ?_) rfl (by kernel_rfl) (by kernel_rfl) (by kernel_rfl) (fun _ _ _ h => h) (Or.inl ⟨by rfl, ?_⟩) (by assumption) ?_
      rotate_left 1
      · intro W' hSw
        obtain ⟨hS1, hS2, hS3, hS4⟩ := hSw
        go_simp
        try with_reducible rfl
      try simp only [Act.put, List.setIfInBounds_toArray, List.set_cons_zero, List.set_cons_succ]
      refine wpAnyH_take (i := 19) (oi := ⟨_, _, _, _, _, _⟩) (v := ?_) rfl (by kernel_rfl) (by kernel_rfl) (by kernel_rfl) (fun _ _ _ h => h) (Or.inl ⟨by rfl, ?_⟩) (by assumption) ?_
      rotate_left 1
      · intro W' hSw
        obtain ⟨hS1, hS2, hS3, hS4⟩ := hSw
        go_simp
        try with_reducible rfl
      try simp only [Act.put, List.setIfInBounds_toArray, List.set_cons_zero, List.set_cons_succ]
      refine wpAnyH_take (i := 20) (oi := ⟨_, _, _, _, _, _⟩) (v := ?_) rfl (by kernel_rfl) (by kernel_rfl) (by kernel_rfl) (fun _ _ _ h => h) (Or.inl ⟨by rfl, ?_⟩) (by assumption) ?_
      rotate_left 1
      · intro W' hSw
        obtain ⟨hS1, hS2, hS3, hS4⟩ := hSw
        go_simp
        try with_reducible rfl
      try simp only [Act.put, List.setIfInBounds_toArray, List.set_cons_zero, List.set_cons_succ]
      refine wpAnyH_take (i := 21) (oi := ⟨_, _, _, _, _, _⟩) (v := ?_) rfl (by kernel_rfl) (by kernel_rfl) (by kernel_rfl) (fun _ _ _ h => h) (Or.inl ⟨by rfl, ?_⟩) (by assumption) ?_
      rotate_left 1
      · intro W' hSw
        obtain ⟨hS1, hS2, hS3, hS4⟩ := hSw
        go_simp
        try with_reducible rfl
      try simp only [Act.put, List.setIfInBounds_toArray, List.set_cons_zero, List.set_cons_succ]
      refine wpAnyH_take (i := 22) (oi := ⟨_, _, _, _, _, _⟩) (v := ?_) rfl (by kernel_rfl) (by kernel_rfl) (by kernel_rfl) (fun _ _ _ h => h) (Or.inl ⟨by rfl, ?_⟩) (by assumption) ?_
      rotate_left 1
      · intro W' hSw
        obtain ⟨hS1, hS2, hS3, hS4⟩ := hSw
        go_simp
        try with_reducible rfl
      try simp only [Act.put, List.setIfInBounds_toArray, List.set_cons_zero, List.set_cons_succ]
      refine wpAnyH_take (i := 23) (oi := ⟨_, _, _, _, _, _⟩) (v := ?_) rfl (by kernel_rfl) (by kernel_rfl) (by kernel_rfl) (fun _ _ _ h => h) (Or.inl ⟨by rfl, ?_⟩) (by assumption) ?_
      rotate_left 1
      · intro W' hSw
        obtain ⟨hS1, hS2, hS3, hS4⟩ := hSw
        go_simp
        try with_reducible rfl
      try simp only [Act.put, List.setIfInBounds_toArray, List.set_cons_zero, List.set_cons_succ]
      refine wpAnyH_ready (rs := [24]) (by kernel_rfl) (by simp) ?_
      refine AllReadyH.cons (o := ⟨_, _, _, _, _, _⟩) rfl (fun K' hK => ?_) AllReadyH.nil
      go_simp
      refine (HGR.out _ (extd V)).mono ?_
      rintro en V5 ⟨rfl, hx5⟩
      have hx5' : V.Extends V5 := (extd V).trans hx5
      dsimp only
      refine hK.out _ _ (HSX.out _ hx5') (fun hHeld => ?_)
      clear hK K'
      try simp only [Act.put, List.setIfInBounds_toArray, List.set_cons_zero, List.set_cons_succ]
      refine wpAnyH_ready (rs := [25]) (by kernel_rfl) (by simp) ?_
      refine AllReadyH.cons (o := ⟨_, _, _, _, _, _⟩) rfl (fun K' hK => ?_) AllReadyH.nil
      go_simp
      refine (HCT.out _ hx5').mono ?_
      rintro en V6 ⟨rfl, hx6⟩
      have hx6' : V.Extends V6 := hx5'.trans hx6
      dsimp only
      refine hK.out _ _ (HSX.out _ hx6') (fun hHeld => ?_)
      clear hK K'
      try simp only [Act.put, List.setIfInBounds_toArray, List.set_cons_zero, List.set_cons_succ]
      refine wpAnyH_take (i := 26) (oi := ⟨_, _, _, _, _, _⟩) (v := ?_) rfl (by kernel_rfl) (by kernel_rfl) (by kernel_rfl) (fun _ _ _ h => h) (Or.inl ⟨by rfl, ?_⟩) (by assumption) ?_
      rotate_left 1
      · intro W' hSw
        obtain ⟨hS1, hS2, hS3, hS4⟩ := hSw
        go_simp
        try with_reducible rfl
      try simp only [Act.put, List.setIfInBounds_toArray, List.set_cons_zero, List.set_cons_succ]
      refine wpAnyH_done (by kernel_rfl) ?_ _
      by_cases hres : T ∈ rows
      · have hde : decide (T ∈ rows) = true := decide_eq_true hres
        have HP : Hid (Q (.returned (.slice a n c)) V6) := by
          refine HRET.out V6 hx6' ?_
          rw [HGO.out, negs_false (List.mem_of_getElem? HZ.out) (by show (l.neg && decide (gA l.atom e ∈ rowsAt S l.atom.pred)) = true; rw [HCOND.out, hde])]; rfl
        clear HRET HCOND HNEXT HOK
        go_wp2_with fail
        try go_ret
        exact HP.out
      · have hde : decide (T ∈ rows) = false := decide_eq_false hres
        have HOK' : Hid (∀ j', j' < j + 1 → ∀ z, Z0[j']? = some z → (z.neg && decide (gA z.atom e ∈ rowsAt S z.atom.pred)) = false) := HNEXT.out _ HCOND.out hde
        have HX' : Hid (V2.Extends V6) := HX.out.trans hx6'
        clear HRET HCOND HNEXT HOK
        go_wp2_with fail
        refine ⟨rfl, rfl, ⟨rfl, rfl, rfl, rfl, j + 1, by omega, ?_, HX', HOK'⟩, ?_⟩
        · show Value.int .i64 _ = _
          go_num
        · show ln - (intOf (Value.int .i64 _)).toNat < ln - (intOf (F 15)).toNat
          rw [H15.out]
          simp [intOf]; omega
    have hin' : ¬ (j : Int) < (ln : Int) := by omega
    have hnt : negs S Z0 e = true := negs_true (fun j' z hz => HOK.out j' (by
      have h1 := (List.getElem?_eq_some_iff.1 hz).1
      have h2 := HLN.out
      omega) z hz)
    have hgo := HGO.out
    rw [hnt, if_pos rfl] at hgo
    obtain ⟨T, hT⟩ : ∃ T, T = gA r.head e := ⟨_, rfl⟩
    have hgT : gT r.head e r.head.args.length = T := hT.symm
    have hgr := fun V' (hx : V.Extends V') => ground_any V' x.head r.head (HHD.out.ext (xv.trans hx)) e HFH.out
    rw [hgT] at hgr
    rw [← hT] at hgo
    have HGO2 := hid_of hgo
    have HGR := hid_of hgr
    clear hgo hT hgT hnt hgr HOK
    go_upto_region 17 with fail
    repeat go_step
    refine (HGR.out _ (ext_Ext (Ext.refl _))).mono ?_
    rintro en V4 ⟨rfl, hx4⟩
    have ho4 := HOUT2.out.ext (HX.out.trans hx4)
    have hme := member_any V4 a n c out (outs_rw ho4).1 hn10 T
    have HX4 := hid_of hx4
    have HO4 := hid_of ho4
    have hb5' : blk V4 b5 = some Rc := (hx4.blk (blk_lt hb5)).trans hb5
    have hb8' : blk V4 b8 = some e.enc := (hx4.blk (blk_lt hb8)).trans hb8
    clear hx4 ho4 hb5 hb8
    dsimp only
    repeat go_step
    refine hme.mono ?_
    rintro en V5 ⟨rfl, hx5⟩
    clear hme
    dsimp only
    by_cases hm : T ∈ out
    · have hde : decide (T ∈ out) = true := decide_eq_true hm
      have HP : Hid (Q (.returned (.slice a n c)) V5) := by
        refine HRET.out V5 (HX4.out.trans hx5) ?_
        rw [HGO2.out]
        exact if_pos hm
      clear HRET hx5
      go_wp2_with fail
      try go_ret
      exact HP.out
    · have hde : decide (T ∈ out) = false := decide_eq_false hm
      have hb5 : blk V5 b5 = some Rc := (hx5.blk (blk_lt hb5')).trans hb5'
      have hb8 : blk V5 b8 = some e.enc := (hx5.blk (blk_lt hb8')).trans hb8'
      have hcc := HGR.out V5 (HX4.out.trans hx5)
      have HX5 := hid_of (HX4.out.trans hx5)
      have HO5 := hid_of (HO4.out.ext hx5)
      clear hx5 hb5' hb8' HX4 HO4
      go_upto_region 18 with fail
      repeat go_step
      refine hcc.mono ?_
      rintro en V6 ⟨rfl, hx6⟩
      obtain ⟨a', c', W3, hrun, ho3, hg3⟩ := (HO5.out.ext hx6).app2 T (by have := HOOK.out.len; omega)
      have HP : Hid (Q (.returned (.slice a' (n + 1) c')) W3) := by
        show Q _ _
        rw [HQ.out, HGO2.out]
        refine ⟨a', n + 1, c', rfl, ?_, (Gro.of_ext (HXW.out.trans (HX.out.trans (HX5.out.trans hx6))) _).trans hg3⟩
        have e1 : addT out T = out ++ [T] := if_neg hm
        rw [e1]; exact ho3
      clear HRET hx6 ho3 hg3 HX5 HO5 hcc
      dsimp only
      go_wp2_with (at_builtin; refine wpList_append_run rfl _ _ 257 rfl _ _ _ _ rfl rfl hrun ?_)
      try go_ret
      exact HP.out
  | succ m ih =>
    intro i hi W e a n c out hout heok hook
    have HIH := hid_of ih
    clear ih
    have HR := hid_of hr
    have HRL := hid_of hR
    have HS := hid_of hS
    have HF := hid_of hf
    have HEOK := hid_of heok
    have HOOK := hid_of hook
    obtain ⟨Z0, hZ0⟩ : ∃ Z0, Z0 = r.body := ⟨_, rfl⟩
    rw [← hZ0] at hi
    try rw [← hZ0] at HIH
    rw [← hZ0]
    have HZ0 := hid_of hZ0
    have h1000 : Z0.length ≤ 1000 := by rw [hZ0]; exact hf.2.1
    have hrn : rn = S.length := hR.len
    have HRN := hid_of hrn
    obtain ⟨Q, hQ⟩ : ∃ Q, Q = MPost W0 W a n c (goM S Z0 r.head (Z0.drop i) e out) := ⟨_, rfl⟩
    rw [← hQ]
    have HQ := hid_of hQ
    obtain ⟨Rc, hRc⟩ : ∃ Rc, Rc = x.enc := ⟨_, rfl⟩
    have r1 : nth Rc 2 = some (.slice x.body.a Z0.length x.body.cap) := by
      obtain ⟨_, Ls, h2, h3, _⟩ := hr
      rw [hRc, GRule.body_get, hZ0, ← h3, h2.1]; rfl
    have r2 : seg Rc 0 2 = x.head.enc := by rw [hRc]; exact GRule.head_get x
    have r3 : seg Rc 0 3 = Rc := by rw [hRc]; exact GRule.all_get x
    have r4 : Rc.length = 3 := by rw [hRc]; exact GRule.length_enc x
    have r5 : okCells 3 Rc = true := by rw [hRc]; exact GRule.ok_enc x
    try rw [← hRc] at HIH
    rw [← hRc]
    have r9 : 2 < Rc.length := by omega
    have r10 : 0 + 2 ≤ Rc.length := by omega
    have r11 : 0 + 3 ≤ Rc.length := by omega
    clear hRc hQ hZ0 hr hR hS hf hrn heok hook
    go_enter Tryz.func174, Tryz.ntmps174
    go_upto_region 1 with fail
    refine wp_world (fun V => W.Extends V ∧ blk V W.heap.size = some Rc ∧ blk V (W.heap.size + 1) = some e.enc) ?_ ?_
    · refine ⟨extends_alloc (extends_alloc (ext_Ext (Ext.refl _)) _) _, ?_, ?_⟩
      all_goals first
        | (repeat rw [blk_alloc, if_neg (by simp only [World.size_alloc]; omega)]
           rw [blk_alloc, if_pos (by simp only [World.size_alloc])]
           done)
        | (unfold free
           repeat rw [heap_alloc, if_neg (by simp only [World.size_alloc]; omega)]
           rw [heap_alloc, if_pos (by simp only [World.size_alloc])]
           rfl)
    intro V2 hV1
    try simp only [World.size_alloc]
    obtain ⟨b5, e_b5⟩ : ∃ b, b = W.heap.size := ⟨_, rfl⟩
    obtain ⟨b8, e_b8⟩ : ∃ b, b = W.heap.size + 1 := ⟨_, rfl⟩
    rw [← e_b8] at hV1 ⊢
    rw [← e_b5] at hV1 ⊢
    have hn_b5 : W.heap.size ≤ b5 := by omega
    have n_b5_b8 : ¬ b5 = b8 := by omega
    have n_b8_b5 : ¬ b8 = b5 := by omega
    have hn_b8 : W.heap.size ≤ b8 := by omega
    clear e_b5 e_b8
    obtain ⟨hx2, hb5, hb8⟩ := hV1
    have HXW := hid_of hx2
    have HOUT2 := hid_of (hout.ext hx2)
    have o5 := own_lt hout hn_b5
    have o8 := own_lt hout hn_b8
    clear hx2 hout
    have hiL : i < Z0.length := by omega
    obtain ⟨l, hl⟩ : ∃ l, Z0[i]? = some l := ⟨_, List.getElem?_eq_getElem hiL⟩
    have hdr : Z0.drop i = l :: Z0.drop (i + 1) := dropA_at hl
    obtain ⟨hfit, hpN⟩ := HF.out.2.2 l (by rw [← HZ0.out]; exact List.mem_of_getElem? hl)
    rw [← HRN.out] at hpN
    obtain ⟨bL, CL, la, xa, l2, l3, l4, l5, l6, l7⟩ := lit_at HR.out (by rw [← HZ0.out]; exact hl)
    rw [xa] at r1
    have HLA := hid_of l7
    have HW0 := hid_of l2
    have x0 : W0.Extends V2 := HOUT2.out.2.1
    have hbL : blk V2 bL = some CL := (x0.blk (blk_lt l2)).trans l2
    have i0 : (0 : Int) ≤ (i : Int) := by omega
    have i1 : (i : Int) < (Z0.length : Int) := by omega
    have i2 : ((i : Int)).toNat = i := by omega
    have i3 : (i : Int) + 1 = ((i + 1 : Nat) : Int) := by omega
    have l8 : i * 3 < CL.length := by omega
    have l9 : i * 3 + 1 < CL.length := by omega
    have l10 : i * 3 + 1 + 2 ≤ CL.length := by omega
    have HDR := hid_of hdr
    clear l2 hl hdr l7 xa
    obtain ⟨ln, hln⟩ : ∃ ln, ln = Z0.length := ⟨_, rfl⟩
    rw [← hln] at r1 i1 hi hiL h1000
    have HLN := hid_of hln
    clear hln
    by_cases hneg : l.neg = true
    · rw [hneg] at l4
      have hrec := HIH.out (i + 1) (by rw [← HLN.out]; omega) V2 e a n c out HOUT2.out HEOK.out HOOK.out
      rw [← i3] at hrec
      clear i3
      have HREC := hid_of hrec
      clear hrec x0
      go_wp2_with fail
      refine HREC.out.mono ?_
      rintro en V3 ⟨a', n', c', rfl, ho3, hg3⟩
      have HP : Hid (Q (.returned (.slice a' n' c')) V3) := by
        show Q _ _
        rw [HQ.out]
        refine ⟨a', n', c', rfl, ?_, (Gro.of_ext HXW.out _).trans hg3⟩
        rw [HDR.out, goM_cons, if_pos hneg]; exact ho3
      clear ho3 hg3 HREC
      dsimp only
      go_wp2_with fail
      try go_ret
      exact HP.out
    have hnegf : l.neg = false := by simpa using hneg
    rw [hnegf] at l4
    obtain ⟨pq, hpq⟩ : ∃ pq, pq = l.atom.pred := ⟨_, rfl⟩
    rw [← hpq] at hpN l5
    obtain ⟨rows, hrows⟩ : ∃ rows, S[pq]? = some rows := ⟨_, List.getElem?_eq_getElem (by rw [← HRN.out]; exact hpN)⟩
    have hok := HS.out rows (List.mem_of_getElem? hrows)
    have hlen := hok.len
    obtain ⟨bq, Cq, wa, wc, rfl, q2, q3, q4, q5⟩ := HRL.out.at hrows
    have hra : rowsAt S l.atom.pred = rows := by rw [← hpq]; exact rowsAt_some hrows
    have HRA := hid_of hra
    have HRT := hid_of hok.2
    have HRW := hid_of q5
    have hbq : blk V2 bq = some Cq := (x0.blk (blk_lt q2)).trans q2
    have y0 : (0 : Int) ≤ (pq : Int) := by omega
    have y1 : (pq : Int) < (rn : Int) := by omega
    have y2 : ((pq : Int)).toNat = pq := by omega
    obtain ⟨wn, hwn⟩ : ∃ wn, wn = rows.length := ⟨_, rfl⟩
    rw [← hwn] at hlen q4
    have HWN := hid_of hwn
    have HST : Hid (Outs W0 V2 a n c ((rows.take 0).foldl (stM S Z0 r.head l (Z0.drop (i + 1)) e) out) ∧ Gro W V2 (.slice a n c) (.slice a n c) ∧ (blk V2 b5 = some Rc ∧ (Value.slice a n c).ownBlock ≠ some b5) ∧ (blk V2 b8 = some e.enc ∧ (Value.slice a n c).ownBlock ≠ some b8)) := ⟨HOUT2.out, Gro.of_ext HXW.out _, ⟨hb5, o5⟩, ⟨hb8, o8⟩⟩
    have HQ2 := hid_of q2
    clear x0 hrows hra hwn q5 q2 o5 o8 hok hpq
    go_wp2_with fail
    clear hb5 hb8 hbL hbq
    refine wp_loop_f 131 (m1I W0 W (some ⟨bq, 0, none⟩) rn rc i b5 b8 (.slice a n c) wa wn wc Rc e.enc (fun k => (rows.take k).foldl (stM S Z0 r.head l (Z0.drop (i + 1)) e) out)) (fun f _ => wn - (intOf (f 12)).toNat) rfl ⟨rfl, rfl, rfl, rfl, rfl, 0, a, n, c, by omega, rfl, rfl, HST⟩ ?_
    clear HST
    intro F V hrel
    obtain ⟨f1, f2, f5, f8, f11, kk, a1, n1, c1, hkk, f12, f4, HV⟩ := hrel
    have H12 := hid_of f12
    rw [frame131h, f1, f2, f4, f5, f8, f11, f12]
    clear f1 f2 f4 f5 f8 f11 f12
    obtain ⟨hO, hG, ⟨hb5, o5⟩, ⟨hb8, o8⟩⟩ := HV.out
    dsimp only at hO
    by_cases hin : kk < wn
    rotate_left 1
    · have hin' : ¬ (kk : Int) < (wn : Int) := by omega
      have HP : Hid (Q (.returned (.slice a1 n1 c1)) V) := by
        show Q _ _
        rw [HQ.out]
        refine ⟨a1, n1, c1, rfl, ?_, hG⟩
        rw [HDR.out, goM_cons, if_neg hneg, HRA.out]
        rw [List.take_of_length_le (by rw [← HWN.out]; omega)] at hO
        exact hO
      clear hO hG HV
      go_wp2_with fail
      try go_ret
      exact HP.out
    have hin' : (kk : Int) < (wn : Int) := by omega
    obtain ⟨tx, hx⟩ : ∃ x, rows[kk]? = some x := ⟨_, List.getElem?_eq_getElem (by rw [← HWN.out]; exact hin)⟩
    have xv := hO.2.1
    obtain ⟨bn, Cn, rfl, hCn, un1, _, un⟩ := tup_at (HRW.out.ext' xv) hx
    have hbL : blk V bL = some CL := (xv.blk (blk_lt HW0.out)).trans HW0.out
    have p0 : (0 : Int) ≤ (kk : Int) := by omega
    have p2 : ((kk : Int)).toNat = kk := by omega
    have p5 : kk * 4 < Cn.length := by omega
    have HSX : Hid (∀ V', V.Extends V' → blk V' b5 = some Rc ∧ blk V' bL = some CL ∧ blk V' bn = some Cn ∧ blk V' b8 = some e.enc) := fun V' hx => ⟨(hx.blk (blk_lt hb5)).trans hb5, (hx.blk (blk_lt hbL)).trans hbL, (hx.blk (blk_lt hCn)).trans hCn, (hx.blk (blk_lt hb8)).trans hb8⟩
    have hfo : (rows.take (kk + 1)).foldl (stM S Z0 r.head l (Z0.drop (i + 1)) e) out = stM S Z0 r.head l (Z0.drop (i + 1)) e ((rows.take kk).foldl (stM S Z0 r.head l (Z0.drop (i + 1)) e) out) tx := by rw [take_at hx, List.foldl_append]; rfl
    have hxt : TOk tx := HRT.out tx (List.mem_of_getElem? hx)
    obtain ⟨u, hu⟩ : ∃ u, u = uniF l.atom tx l.atom.args.length e := ⟨_, rfl⟩
    have HU := hid_of hu
    have HXT := hid_of hxt
    have HFO := hid_of hfo
    have hun := fun V' (hx : V.Extends V') => unify_any V' la l.atom (HLA.out.ext (xv.trans hx)) tx e hfit
    rw [← hu] at hun
    have HUN := hid_of hun
    clear hO hG hx hfo hxt xv hu hun
    go_upto_region 8 with fail
    obtain ⟨R9, hR9⟩ : ∃ R9 : Act → Act → World → Prop, R9 = fun a0 a' w' => ∃ b13 s', ∃ f : Nat → Value, a' = ⟨frameN 131 f, []⟩ ∧ f 1 = .slice (some ⟨bq, 0, none⟩) rn rc ∧ f 2 = .int .i64 (i : Int) ∧ f 4 = .slice a1 n1 c1 ∧ f 5 = .pointer (some ⟨b5, 0, none⟩) ∧ f 8 = .pointer (some ⟨b8, 0, none⟩) ∧ f 11 = .slice (some ⟨bn, 0, none⟩) wn wc ∧ f 12 = .int .i64 (kk : Nat) ∧ f 13 = .pointer (some ⟨b13, 0, none⟩) ∧ f 14 = .bool u.isSome ∧ Hid (blk w' b13 = some (Env.enc s') ∧ V.Extends w' ∧ ∀ x, u = some x → s' = x) := ⟨_, rfl⟩
    have HR9 := hid_of hR9
    clear hR9
    refine wp_cutR R9 ?_ ?_
    · rw [HR9.out]
      clear HR9 HV HFO HXT HRA HRT HOUT2 HQ HIH HW0 HU HRW HR HRL HS HF HQ2
      refine wp_region_held_drew (S := fun W' => blk W' b5 = some Rc ∧ blk W' bL = some CL ∧ blk W' bn = some Cn ∧ blk W' b8 = some e.enc) (by kernel_rfl) (HSX.out _ (extd V)) (fun hHeld => ?_)
      refine wpAnyH_take (i := 0) (oi := ⟨_, _, _, _, _, _⟩) (v := ?_) rfl (by kernel_rfl) (by kernel_rfl) (by kernel_rfl) (fun _ _ _ h => nomatch h.1) (Or.inl ⟨by rfl, ?_⟩) (by assumption) ?_
      rotate_left 1
      · intro W' hSw
        obtain ⟨hS1, hS2, hS3, hS4⟩ := hSw
        go_simp
        try with_reducible rfl
      try simp only [Act.put, List.setIfInBounds_toArray, List.set_cons_zero, List.set_cons_succ]
      refine wpAnyH_take (i := 1) (oi := ⟨_, _, _, _, _, _⟩) (v := ?_) rfl (by kernel_rfl) (by kernel_rfl) (by kernel_rfl) (fun _ _ _ h => nomatch h.1) (Or.inl ⟨by rfl, ?_⟩) (by assumption) ?_
      rotate_left 1
      · intro W' hSw
        obtain ⟨hS1, hS2, hS3, hS4⟩ := hSw
        go_simp
        try with_reducible rfl
      try simp only [Act.put, List.setIfInBounds_toArray, List.set_cons_zero, List.set_cons_succ]
      refine wpAnyH_take (i := 2) (oi := ⟨_, _, _, _, _, _⟩) (v := ?_) rfl (by kernel_rfl) (by kernel_rfl) (by kernel_rfl) (fun _ _ _ h => nomatch h.1) (Or.inl ⟨by rfl, ?_⟩) (by assumption) ?_
      rotate_left 1
      · intro W' hSw
        obtain ⟨hS1, hS2, hS3, hS4⟩ := hSw
        go_simp
        try with_reducible rfl
      try simp only [Act.put, List.setIfInBounds_toArray, List.set_cons_zero, List.set_cons_succ]
      refine wpAnyH_take (i := 3) (oi := ⟨_, _, _, _, _, _⟩) (v := ?_) rfl (by kernel_rfl) (by kernel_rfl) (by kernel_rfl) (fun _ _ _ h => nomatch h.1) (Or.inl ⟨by rfl, ?_⟩) (by assumption) ?_
      rotate_left 1
      · intro W' hSw
        obtain ⟨hS1, hS2, hS3, hS4⟩ := hSw
        go_simp
        try with_reducible rfl
      try simp only [Act.put, List.setIfInBounds_toArray, List.set_cons_zero, List.set_cons_succ]
      refine wpAnyH_take (i := 4) (oi := ⟨_, _, _, _, _, _⟩) (v := ?_) rfl (by kernel_rfl) (by kernel_rfl) (by kernel_rfl) (fun _ _ _ h => nomatch h.1) (Or.inl ⟨by rfl, ?_⟩) (by assumption) ?_
      rotate_left 1
      · intro W' hSw
        obtain ⟨hS1, hS2, hS3, hS4⟩ := hSw
        go_simp
        try with_reducible rfl
      try simp only [Act.put, List.setIfInBounds_toArray, List.set_cons_zero, List.set_cons_succ]
      refine wpAnyH_take (i := 5) (oi := ⟨_, _, _, _, _, _⟩) (v := ?_) rfl (by kernel_rfl) (by kernel_rfl) (by kernel_rfl) (fun _ _ _ h => nomatch h.1) (Or.inl ⟨by rfl, ?_⟩) (by assumption) ?_
      rotate_left 1
      · intro W' hSw
        obtain ⟨hS1, hS2, hS3, hS4⟩ := hSw
        go_simp
        try with_reducible rfl
      try simp only [Act.put, List.setIfInBounds_toArray, List.set_cons_zero, List.set_cons_succ]
      refine wpAnyH_take (i := 6) (oi := ⟨_, _, _, _, _, _⟩) (v := ?_) rfl (by kernel_rfl) (by kernel_rfl) (by kernel_rfl) (fun _ _ _ h => nomatch h.1) (Or.inl ⟨by rfl, ?_⟩) (by assumption) ?_
      rotate_left 1
      · intro W' hSw
        obtain ⟨hS1, hS2, hS3, hS4⟩ := hSw
        go_simp
        try with_reducible rfl
      try simp only [Act.put, List.setIfInBounds_toArray, List.set_cons_zero, List.set_cons_succ]
      refine wpAnyH_take (i := 7) (oi := ⟨_, _, _, _, _, _⟩) (v := ?_) rfl (by kernel_rfl) (by kernel_rfl) (by kernel_rfl) (fun _ _ _ h => nomatch h.1) (Or.inl ⟨by rfl, ?_⟩) (by assumption) ?_
      rotate_left 1
      · intro W' hSw
        obtain ⟨hS1, hS2, hS3, hS4⟩ := hSw
        go_simp
        try with_reducible rfl
      try simp only [Act.put, List.setIfInBounds_toArray, List.set_cons_zero, List.set_cons_succ]
      refine wpAnyH_take (i := 8) (oi := ⟨_, _, _, _, _, _⟩) (v := ?_) rfl (by kernel_rfl) (by kernel_rfl) (by kernel_rfl) (fun _ _ _ h => nomatch h.1) (Or.inl ⟨by rfl, ?_⟩) (by assumption) ?_
      rotate_left 1
      · intro W' hSw
        obtain ⟨hS1, hS2, hS3, hS4⟩ := hSw
        go_simp
        try with_reducible rfl
      try simp only [Act.put, List.setIfInBounds_toArray, List.set_cons_zero, List.set_cons_succ]
      refine wpAnyH_take (i := 9) (oi := ⟨_, _, _, _, _, _⟩) (v := ?_) rfl (by kernel_rfl) (by kernel_rfl) (by kernel_rfl) (fun _ _ _ h => nomatch h.1) (Or.inl ⟨by rfl, ?_⟩) (by assumption) ?_
      rotate_left 1
      · intro W' hSw
        obtain ⟨hS1, hS2, hS3, hS4⟩ := hSw
        go_simp
        try with_reducible rfl
      try simp only [Act.put, List.setIfInBounds_toArray, List.set_cons_zero, List.set_cons_succ]
      refine wpAnyH_take (i := 10) (oi := ⟨_, _, _, _, _, _⟩) (v := ?_) rfl (by kernel_rfl) (by kernel_rfl) (by kernel_rfl) (fun _ _ _ h => nomatch h.1) (Or.inl ⟨by rfl, ?_⟩) (by assumption) ?_
      rotate_left 1
      · intro W' hSw
        obtain ⟨hS1, hS2, hS3, hS4⟩ := hSw
        go_simp
        try with_reducible rfl
      try simp only [Act.put, List.setIfInBounds_toArray, List.set_cons_zero, List.set_cons_succ]
      refine wpAnyH_ready (rs := [11, 15]) (by kernel_rfl) (by simp) ?_
      refine AllReadyH.cons (o := ⟨_, _, _, _, _, _⟩) rfl (fun K' hK => ?_) (AllReadyH.cons (o := ⟨_, _, _, _, _, _⟩) rfl (fun K' hK => ?_) AllReadyH.nil)
      · go_simp
        refine (HUN.out _ ?_).mono ?_
        · exact (by (repeat (first | assumption | exact ext_Ext (Ext.refl _) | apply extends_drew | apply extends_alloc | (refine extends_put ?_ (by first | exact Nat.le_refl _ | assumption | omega) _))))
        rintro en V5 ⟨s', rfl, hs5, hx5⟩
        have hx5' : V.Extends V5 := Go.World.Extends.trans (by (repeat (first | assumption | exact ext_Ext (Ext.refl _) | apply extends_drew | apply extends_alloc | (refine extends_put ?_ (by first | exact Nat.le_refl _ | assumption | omega) _)))) hx5
        have hz5 := hx5'.size
        dsimp only
        refine hK.out _ _ (HSX.out _ (by (repeat (first | assumption | exact ext_Ext (Ext.refl _) | apply extends_drew | apply extends_alloc | (refine extends_put ?_ (by first | exact Nat.le_refl _ | assumption | omega) _))))) (fun hHeld => ?_)
        clear hK K'
        try simp only [Act.put, List.setIfInBounds_toArray, List.set_cons_zero, List.set_cons_succ]
        refine wpAnyH_take (i := 12) (oi := ⟨_, _, _, _, _, _⟩) (v := ?_) rfl (by kernel_rfl) (by kernel_rfl) (by kernel_rfl) (fun _ _ _ h => nomatch h.1) (Or.inl ⟨by rfl, ?_⟩) (by assumption) ?_
        rotate_left 1
        · intro W' hSw
          obtain ⟨hS1, hS2, hS3, hS4⟩ := hSw
          go_simp
          try with_reducible rfl
        try simp only [Act.put, List.setIfInBounds_toArray, List.set_cons_zero, List.set_cons_succ]
        refine wpAnyH_take (i := 13) (oi := ⟨_, _, _, _, _, _⟩) (v := ?_) rfl (by kernel_rfl) (by kernel_rfl) (by kernel_rfl) (fun _ _ _ h => nomatch h.1) (Or.inl ⟨by rfl, ?_⟩) (by assumption) ?_
        rotate_left 1
        · intro W' hSw
          obtain ⟨hS1, hS2, hS3, hS4⟩ := hSw
          go_simp
          try with_reducible rfl
        try simp only [Act.put, List.setIfInBounds_toArray, List.set_cons_zero, List.set_cons_succ]
        refine wpAnyH_take (i := 14) (oi := ⟨_, _, _, _, _, _⟩) (v := ?_) rfl (by kernel_rfl) (by kernel_rfl) (by kernel_rfl) (fun _ _ _ h => nomatch h.1) (Or.inl ⟨by rfl, ?_⟩) (by assumption) ?_
        rotate_left 1
        · intro W' hSw
          obtain ⟨hS1, hS2, hS3, hS4⟩ := hSw
          go_simp
          try with_reducible rfl
        try simp only [Act.put, List.setIfInBounds_toArray, List.set_cons_zero, List.set_cons_succ]
        refine wpAnyH_ready (rs := [15]) (by kernel_rfl) (by simp) ?_
        refine AllReadyH.cons (o := ⟨_, _, _, _, _, _⟩) rfl (fun K' hK => ?_) AllReadyH.nil
        go_simp
        refine hK.out _ _ (HSX.out _ (by (repeat (first | assumption | exact ext_Ext (Ext.refl _) | apply extends_drew | apply extends_alloc | (refine extends_put ?_ (by first | exact Nat.le_refl _ | assumption | omega) _))))) (fun hHeld => ?_)
        clear hK K'
        try simp only [Act.put, List.setIfInBounds_toArray, List.set_cons_zero, List.set_cons_succ]
        refine wpAnyH_ready (rs := [16]) (by kernel_rfl) (by simp) ?_
        refine AllReadyH.cons (o := ⟨_, _, _, _, _, _⟩) rfl (fun K' hK => ?_) AllReadyH.nil
        go_simp
        refine hK.out _ _ (HSX.out _ (by (repeat (first | assumption | exact ext_Ext (Ext.refl _) | apply extends_drew | apply extends_alloc | (refine extends_put ?_ (by first | exact Nat.le_refl _ | assumption | omega) _))))) (fun hHeld => ?_)
        clear hK K'
        try simp only [Act.put, List.setIfInBounds_toArray, List.set_cons_zero, List.set_cons_succ]
        refine wpAnyH_take (i := 17) (oi := ⟨_, _, _, _, _, _⟩) (v := ?_) rfl (by kernel_rfl) (by kernel_rfl) (by kernel_rfl) (fun _ _ _ h => nomatch h.1) (Or.inl ⟨by rfl, ?_⟩) (by assumption) ?_
        rotate_left 1
        · intro W' hSw
          obtain ⟨hS1, hS2, hS3, hS4⟩ := hSw
          go_simp
          try with_reducible rfl
        try simp only [Act.put, List.setIfInBounds_toArray, List.set_cons_zero, List.set_cons_succ]
        refine wpAnyH_done (by kernel_rfl) ?_ _
        refine ⟨rfl, _, s', cut_intro _ rfl ⟨rfl, rfl, rfl, rfl, rfl, rfl, rfl, rfl, rfl, ?_⟩⟩
        refine ⟨?_, ?_, hs5⟩
        · first
            | (rw [blk_put, if_pos rfl, blk_alloc, if_pos rfl]; rfl)
            | (rw [blk_put, if_pos rfl, HBZ.out]; rfl)
            | (rw [blk_alloc, if_pos rfl])
            | (rw [blk_drew, blk_alloc, if_pos rfl])
        · exact (by (repeat (first | assumption | exact ext_Ext (Ext.refl _) | apply extends_drew | apply extends_alloc | (refine extends_put ?_ (by first | exact Nat.le_refl _ | assumption | omega) _))))
      · go_simp
        have HFZ0 : Hid (free (V.alloc (.cells Env.zero.enc.toArray 308)) V.heap.size = true) := by show free _ _ = _; unfold free; rw [heap_alloc, if_pos rfl]; rfl
        have HBZ0 : Hid (blk (V.alloc (.cells Env.zero.enc.toArray 308)) V.heap.size = some Env.zero.enc) := by show blk _ _ = _; rw [blk_alloc, if_pos rfl]
        refine hK.out _ _ (HSX.out _ (by (repeat (first | assumption | exact ext_Ext (Ext.refl _) | apply extends_drew | apply extends_alloc | (refine extends_put ?_ (by first | exact Nat.le_refl _ | assumption | omega) _))))) (fun hHeld => ?_)
        clear hK K'
        try simp only [Act.put, List.setIfInBounds_toArray, List.set_cons_zero, List.set_cons_succ]
        refine wpAnyH_ready (rs := [11]) (by kernel_rfl) (by simp) ?_
        refine AllReadyH.cons (o := ⟨_, _, _, _, _, _⟩) rfl (fun K' hK => ?_) AllReadyH.nil
        go_simp
        refine (HUN.out _ ?_).mono ?_
        · exact (by (repeat (first | assumption | exact ext_Ext (Ext.refl _) | apply extends_drew | apply extends_alloc | (refine extends_put ?_ (by first | exact Nat.le_refl _ | assumption | omega) _))))
        rintro en V5 ⟨s', rfl, hs5, hx5⟩
        have hx5' : V.Extends V5 := Go.World.Extends.trans (by (repeat (first | assumption | exact ext_Ext (Ext.refl _) | apply extends_drew | apply extends_alloc | (refine extends_put ?_ (by first | exact Nat.le_refl _ | assumption | omega) _)))) hx5
        have hz5 := hx5'.size
        dsimp only
        have HBZ : Hid (blk V5 V.heap.size = some Env.zero.enc) := (hx5.blk (blk_lt HBZ0.out)).trans HBZ0.out
        have hbz := HBZ.out
        have hfz : free V5 V.heap.size = true := (free_of_heap (hx5.block V.heap.size (blk_lt HBZ0.out))).trans HFZ0.out
        refine hK.out _ _ (HSX.out _ (by (repeat (first | assumption | exact ext_Ext (Ext.refl _) | apply extends_drew | apply extends_alloc | (refine extends_put ?_ (by first | exact Nat.le_refl _ | assumption | omega) _))))) (fun hHeld => ?_)
        clear hK K'
        try simp only [Act.put, List.setIfInBounds_toArray, List.set_cons_zero, List.set_cons_succ]
        refine wpAnyH_take (i := 12) (oi := ⟨_, _, _, _, _, _⟩) (v := ?_) rfl (by kernel_rfl) (by kernel_rfl) (by kernel_rfl) (fun _ _ _ h => nomatch h.1) (Or.inl ⟨by rfl, ?_⟩) (by assumption) ?_
        rotate_left 1
        · intro W' hSw
          obtain ⟨hS1, hS2, hS3, hS4⟩ := hSw
          go_simp
          try with_reducible rfl
        try simp only [Act.put, List.setIfInBounds_toArray, List.set_cons_zero, List.set_cons_succ]
        refine wpAnyH_take (i := 13) (oi := ⟨_, _, _, _, _, _⟩) (v := ?_) rfl (by kernel_rfl) (by kernel_rfl) (by kernel_rfl) (fun _ _ _ h => nomatch h.1) (Or.inl ⟨by rfl, ?_⟩) (by assumption) ?_
        rotate_left 1
        · intro W' hSw
          obtain ⟨hS1, hS2, hS3, hS4⟩ := hSw
          go_simp
          try with_reducible rfl
        try simp only [Act.put, List.setIfInBounds_toArray, List.set_cons_zero, List.set_cons_succ]
        refine wpAnyH_take (i := 14) (oi := ⟨_, _, _, _, _, _⟩) (v := ?_) rfl (by kernel_rfl) (by kernel_rfl) (by kernel_rfl) (fun _ _ _ h => nomatch h.1) (Or.inl ⟨by rfl, ?_⟩) (by assumption) ?_
        rotate_left 1
        · intro W' hSw
          obtain ⟨hS1, hS2, hS3, hS4⟩ := hSw
          go_simp
          try with_reducible rfl
        try simp only [Act.put, List.setIfInBounds_toArray, List.set_cons_zero, List.set_cons_succ]
        refine wpAnyH_ready (rs := [16]) (by kernel_rfl) (by simp) ?_
        refine AllReadyH.cons (o := ⟨_, _, _, _, _, _⟩) rfl (fun K' hK => ?_) AllReadyH.nil
        go_simp
        refine hK.out _ _ (HSX.out _ (by (repeat (first | assumption | exact ext_Ext (Ext.refl _) | apply extends_drew | apply extends_alloc | (refine extends_put ?_ (by first | exact Nat.le_refl _ | assumption | omega) _))))) (fun hHeld => ?_)
        clear hK K'
        try simp only [Act.put, List.setIfInBounds_toArray, List.set_cons_zero, List.set_cons_succ]
        refine wpAnyH_take (i := 17) (oi := ⟨_, _, _, _, _, _⟩) (v := ?_) rfl (by kernel_rfl) (by kernel_rfl) (by kernel_rfl) (fun _ _ _ h => nomatch h.1) (Or.inl ⟨by rfl, ?_⟩) (by assumption) ?_
        rotate_left 1
        · intro W' hSw
          obtain ⟨hS1, hS2, hS3, hS4⟩ := hSw
          go_simp
          try with_reducible rfl
        try simp only [Act.put, List.setIfInBounds_toArray, List.set_cons_zero, List.set_cons_succ]
        refine wpAnyH_done (by kernel_rfl) ?_ _
        refine ⟨rfl, _, s', cut_intro _ rfl ⟨rfl, rfl, rfl, rfl, rfl, rfl, rfl, rfl, rfl, ?_⟩⟩
        refine ⟨?_, ?_, hs5⟩
        · first
            | (rw [blk_put, if_pos rfl, blk_alloc, if_pos rfl]; rfl)
            | (rw [blk_put, if_pos rfl, HBZ.out]; rfl)
            | (rw [blk_alloc, if_pos rfl])
            | (rw [blk_drew, blk_alloc, if_pos rfl])
        · exact (by (repeat (first | assumption | exact ext_Ext (Ext.refl _) | apply extends_drew | apply extends_alloc | (refine extends_put ?_ (by first | exact Nat.le_refl _ | assumption | omega) _))))
    rw [HR9.out]
    rintro _ V4 ⟨b13, s', f4, rfl, f1, f2, f4', f5, f8, f11, f12, f13, f14, H4⟩
    rw [frame131h, f1, f2, f4', f5, f8, f11, f12, f13, f14]
    clear f1 f2 f4' f5 f8 f11 f12 f13 f14
    obtain ⟨h13, hx4, hs4⟩ := H4.out
    obtain ⟨hO, hG, _, _⟩ := HV.out
    dsimp only at hO
    have hb5' : blk V4 b5 = some Rc := (hx4.blk (blk_lt hb5)).trans hb5
    have hb8' : blk V4 b8 = some e.enc := (hx4.blk (blk_lt hb8)).trans hb8
    have hg4 := Gro.of_ext hx4 (.slice a1 n1 c1)
    cases u with
    | none =>
      have e1 := HFO.out
      have e2 : stM S Z0 r.head l (Z0.drop (i + 1)) e ((rows.take kk).foldl (stM S Z0 r.head l (Z0.drop (i + 1)) e) out) tx = (rows.take kk).foldl (stM S Z0 r.head l (Z0.drop (i + 1)) e) out := by
        show (match uniF l.atom tx l.atom.args.length e with | some e' => _ | none => _) = _
        rw [← HU.out]
      rw [e2] at e1
      have HST : Hid (Outs W0 V4 a1 n1 c1 ((rows.take (kk + 1)).foldl (stM S Z0 r.head l (Z0.drop (i + 1)) e) out) ∧ Gro W V4 (.slice a n c) (.slice a1 n1 c1) ∧ (blk V4 b5 = some Rc ∧ (Value.slice a1 n1 c1).ownBlock ≠ some b5) ∧ (blk V4 b8 = some e.enc ∧ (Value.slice a1 n1 c1).ownBlock ≠ some b8)) := by
        refine ⟨?_, hG.trans hg4, ⟨hb5', o5⟩, ⟨hb8', o8⟩⟩
        rw [e1]; exact hO.ext hx4
      clear e1 e2 hO hG hg4 HV H4 HFO hx4 hs4
      go_wp2_with fail
      refine ⟨rfl, rfl, ⟨rfl, rfl, rfl, rfl, rfl, kk + 1, _, _, _, by omega, ?_, rfl, HST⟩, ?_⟩
      · show Value.int .i64 _ = _
        go_num
      · show wn - (intOf (Value.int .i64 _)).toNat < wn - (intOf (F 12)).toNat
        rw [H12.out]
        simp [intOf]; omega
    | some e' =>
      obtain rfl := hs4 e' rfl
      have hfk : OutOk ((rows.take kk).foldl (stM S Z0 r.head l (Z0.drop (i + 1)) e) out) := by
        refine stM_ok HS.out HF.out.1 (z := l) (Z := Z0.drop (i + 1)) ?_ HEOK.out _ out (fun t ht => HRT.out t (List.mem_of_mem_take ht)) HOOK.out
        rw [← HDR.out]
        exact fun z h => (HF.out.2.2 z (by rw [← HZ0.out]; exact List.mem_of_mem_drop h)).1
      have hee : EOk s' := EOk.uni HXT.out hfit.1 HEOK.out HU.out.symm
      have e1 := HFO.out
      have e2 : stM S Z0 r.head l (Z0.drop (i + 1)) e ((rows.take kk).foldl (stM S Z0 r.head l (Z0.drop (i + 1)) e) out) tx = goM S Z0 r.head (Z0.drop (i + 1)) s' ((rows.take kk).foldl (stM S Z0 r.head l (Z0.drop (i + 1)) e) out) := by
        show (match uniF l.atom tx l.atom.args.length e with | some e' => _ | none => _) = _
        rw [← HU.out]
      rw [e2] at e1
      have hrec := HIH.out (i + 1) (by rw [← HLN.out]; omega) V4 s' a1 n1 c1 _ (hO.ext hx4) hee hfk
      rw [← i3, ← e1] at hrec
      have HREC := hid_of hrec
      have HGG : Hid (Gro W V4 (.slice a n c) (.slice a1 n1 c1)) := hG.trans hg4
      clear i3 hrec e1 e2 hO hG hg4 HV H4 HFO hx4 hs4 hfk hee
      go_wp2_with fail
      refine HREC.out.mono ?_
      rintro en V5 ⟨a2, n2, c2, rfl, ho5, hg5⟩
      have HST : Hid (Outs W0 V5 a2 n2 c2 ((rows.take (kk + 1)).foldl (stM S Z0 r.head l (Z0.drop (i + 1)) e) out) ∧ Gro W V5 (.slice a n c) (.slice a2 n2 c2) ∧ (blk V5 b5 = some Rc ∧ (Value.slice a2 n2 c2).ownBlock ≠ some b5) ∧ (blk V5 b8 = some e.enc ∧ (Value.slice a2 n2 c2).ownBlock ≠ some b8)) := ⟨ho5, HGG.out.trans hg5, hg5.blk hb5' o5, hg5.blk hb8' o8⟩
      clear ho5 hg5 HREC
      dsimp only
      go_wp2_with fail
      refine ⟨rfl, rfl, ⟨rfl, rfl, rfl, rfl, rfl, kk + 1, _, _, _, by omega, ?_, rfl, HST⟩, ?_⟩
      · show Value.int .i64 _ = _
        go_num
      · show wn - (intOf (Value.int .i64 _)).toNat < wn - (intOf (F 12)).toNat
        rw [H12.out]
        simp [intOf]; omega
end Go.Proofs.Qxb6500787aGreat
