import Derived.Test.Qxb6500787aYj
import Derived.StillTailTactics
import Derived.Deep.QuietTactic
import Derived.BigQuiet
import Derived.Deep.RegionHeld
import Derived.Deep.CutRange
import Derived.Laws.ResultCell
import Derived.Laws.Rows
import Derived.DeepKeys
import Derived.DataBytes
import Derived.Laws.StructEq
import Derived.Laws.AppendOwn
import Derived.Laws.MakeOwn
import Derived.Lib.AppendStr
set_option linter.unusedSimpArgs false
set_option linter.unusedVariables false
namespace Go.Proofs.Qxb6500787a
open Go.RowKit Go.Blk
attribute [local go_sem ↓] execOp_load execOp_store execOp_alloc
attribute [local go_sem] Try.ld26 Try.st26 Try.ld27 Try.st27 Try.ld28 Try.st28 Try.ld3 Try.st3 Try.ld29 Try.st29 Try.ld44 Try.st44 Try.ld4 Try.st4 Try.ld50 Try.st50 Try.ld32 Try.st32 Try.ld49 Try.st49 Try.ld68 Try.st68 Try.ld9 Try.st9 Try.ld40 Try.st40 Try.ld138 Try.st138 Try.ld139 Try.st139 Try.ld146 Try.st146 Try.ld183 Try.st183 Try.ld184 Try.st184 Try.ld192 Try.st192 Try.ld195 Try.st195 Try.ld217 Try.st217 Try.ld159 Try.st159 Try.ld142 Try.st142 Try.ld2 Try.st2 Try.ld5 Try.st5 Try.ld12 Try.st12 Try.ld21 Try.st21 Try.ld22 Try.st22 Try.ld24 Try.st24 Try.ld58 Try.st58 Try.ld63 Try.st63 Try.ld97 Try.st97 Try.ld101 Try.st101 Try.ld116 Try.st116 Try.ld121 Try.st121 Try.ld135 Try.st135 Try.ld136 Try.st136 Try.ld143 Try.st143 Try.ld148 Try.st148 Try.ld154 Try.st154 Try.ld173 Try.st173 Try.ld187 Try.st187 Try.ld222 Try.st222 Try.ld241 Try.st241 Try.ld248 Try.st248 Try.ld268 Try.st268 Try.ld272 Try.st272 Try.ld153 Try.st153 Try.ld255 Try.st255 Try.ld256 Try.st256 Try.ld129 Try.st129 Try.ld152 Try.st152 Try.ld31 Try.st31 Try.ld46 Try.st46 Try.ld52 Try.st52 Try.ld54 Try.st54 Try.ld60 Try.st60 Try.ld70 Try.st70 Try.ld74 Try.st74 Try.ld93 Try.st93 Try.ld119 Try.st119 Try.ld141 Try.st141 Try.ld151 Try.st151 Try.ld170 Try.st170 Try.ld186 Try.st186 Try.ld189 Try.st189 Try.ld194 Try.st194 Try.ld197 Try.st197 Try.ld219 Try.st219 Try.ld224 Try.st224 Try.ld230 Try.st230 Try.ld235 Try.st235 Try.ld243 Try.st243 Try.ld247 Try.st247 Try.ld252 Try.st252 Try.ld258 Try.st258 Try.al153 Try.al255 Try.al256 Try.al129 Try.al152 Try.al31 Try.al46 Try.al52 Try.al54 Try.al60 Try.al70 Try.al74 Try.al93 Try.al119 Try.al141 Try.al151 Try.al170 Try.al186 Try.al189 Try.al194 Try.al197 Try.al219 Try.al224 Try.al230 Try.al235 Try.al243 Try.al247 Try.al252 Try.al258
attribute [local go_sem] Request.length_enc Request.ok_enc Request.all_get Request.all_set Request.kind_get Request.kind_set Request.blob_get Request.blob_set Request.items_get Request.items_set Request.pred_get Request.pred_set Request.slots_get Request.slots_set Trace.length_enc Trace.ok_enc Trace.all_get Trace.all_set Trace.op_get Trace.op_set Trace.calls_get Trace.calls_set Item.length_enc Item.ok_enc Item.all_get Item.all_set Item.del_get Item.del_set Item.pred_get Item.pred_set Item.args_get Item.args_set Reply.length_enc Reply.ok_enc Reply.all_get Reply.all_set Reply.code_get Reply.code_set Reply.kind_get Reply.kind_set Reply.index_get Reply.index_set Reply.yes_get Reply.yes_set Reply.preds_get Reply.preds_set Reply.rules_get Reply.rules_set Reply.arity_get Reply.arity_set Reply.rows_get Reply.rows_set Reply.fact_get Reply.fact_set Reply.fact_del_get Reply.fact_del_set Reply.fact_pred_get Reply.fact_pred_set Reply.fact_args_get Reply.fact_args_set GEntry.length_enc GEntry.ok_enc GEntry.all_get GEntry.all_set GEntry.seq_get GEntry.seq_set GEntry.kind_get GEntry.kind_set GEntry.code_get GEntry.code_set GOp.length_enc GOp.ok_enc GOp.all_get GOp.all_set GOp.kind_get GOp.kind_set GOp.raw_get GOp.raw_set Reader.length_enc Reader.ok_enc Reader.all_get Reader.all_set Reader.buf_get Reader.buf_set Reader.at__get Reader.at__set Slot.length_enc Slot.ok_enc Slot.all_get Slot.all_set Slot.bound_get Slot.bound_set Slot.name_get Slot.name_set Session.length_enc Session.ok_enc Session.all_get Session.all_set Session.svc_get Session.svc_set Session.buf_get Session.buf_set Session.closed_get Session.closed_set GProgram.length_enc GProgram.ok_enc GProgram.all_get GProgram.all_set GProgram.pool_get GProgram.pool_set GProgram.preds_get GProgram.preds_set GProgram.rules_get GProgram.rules_set GProgram.strata_get GProgram.strata_set PredInfo.length_enc PredInfo.ok_enc PredInfo.all_get PredInfo.all_set PredInfo.arity_get PredInfo.arity_set PredInfo.base_get PredInfo.base_set PredInfo.stratum_get PredInfo.stratum_set Change.length_enc Change.ok_enc Change.all_get Change.all_set Change.del_get Change.del_set Change.pred_get Change.pred_set Change.t_get Change.t_set Store.length_enc Store.ok_enc Store.all_get Store.all_set Store.names_get Store.names_set Store.arity_get Store.arity_set Store.rows_get Store.rows_set Src.length_enc Src.ok_enc Src.all_get Src.all_set Src.b_get Src.b_set Src.at__get Src.at__set Atom.length_enc Atom.ok_enc Atom.all_get Atom.all_set Atom.pred_get Atom.pred_set Atom.args_get Atom.args_set GRule.length_enc GRule.ok_enc GRule.all_get GRule.all_set GRule.head_get GRule.head_set GRule.body_get GRule.body_set GRule.head_pred_get GRule.head_pred_set GRule.head_args_get GRule.head_args_set Cert.length_enc Cert.ok_enc Cert.all_get Cert.all_set Cert.names_get Cert.names_set Cert.nodes_get Cert.nodes_set Fact.length_enc Fact.ok_enc Fact.all_get Fact.all_set Fact.pred_get Fact.pred_set Fact.t_get Fact.t_set Literal.length_enc Literal.ok_enc Literal.all_get Literal.all_set Literal.neg_get Literal.neg_set Literal.atom_get Literal.atom_set Literal.atom_pred_get Literal.atom_pred_set Literal.atom_args_get Literal.atom_args_set Engine.length_enc Engine.ok_enc Engine.all_get Engine.all_set Engine.prog_get Engine.prog_set Engine.st_get Engine.st_set SrcCertm.length_enc SrcCertm.ok_enc SrcCertm.all_get SrcCertm.all_set SrcCertm.b_get SrcCertm.b_set SrcCertm.at__get SrcCertm.at__set GNode.length_enc GNode.ok_enc GNode.all_get GNode.all_set GNode.rule_get GNode.rule_set GNode.pred_get GNode.pred_set GNode.vals_get GNode.vals_set GNode.refs_get GNode.refs_set Term.length_enc Term.ok_enc Term.all_get Term.all_set Term.var_get Term.var_set Term.n_get Term.n_set Env.length_enc Env.ok_enc Env.all_get Env.all_set Env.val_get Env.val_set Env.set_get Env.set_set
attribute [local go_sem] size_put size_ext blk_put free_put blk_alloc free_alloc blk_drew free_drew blk_ext free_ext lookOr_some putOr_some segAt_some cellAt_some storeIn_some put_put put_alloc_new length_arr ok_arr_u8 ok_arr_u32 ok_arr_u64 ok_arr_i64 ok_arr_sl cellsV_agg cellsV_int cellsV_bool cellsV_string cellsV_pointer cellsV_slice cellsV_sl ok_int ok_bool ok_string ok_pointer ok_slice ok_sl toList_arr seg_arr set_arr nth_splice nth_splice0 seg_splice seg_splice0 splice_splice splice_splice0 length_splice_if
attribute [local go_sem ↓] execOp_box
attribute [local go_sem] box_run nth_arr_u8 put_arr_u8 blk_drewN free_drewN put_drewN blk_raw free_raw
/-- The bytes to come begin with whole frames, each short enough. -/
def FB (buf data : List UInt8) : Prop := ∃ (L : List (List UInt8)) (more : List UInt8), (∀ raw ∈ L, raw.length = 4 + fld raw ∧ raw.length ≤ 65536) ∧ buf ++ (data ++ more) = L.flatten ∧ (∀ raw L', L = raw :: L' → buf.length < raw.length)
theorem FB.step {buf data : List UInt8} (h : FB buf data) (h0 : data ≠ []) {b' : List UInt8} (hb : b' = buf ++ data.take (wantN buf)) : (frmN b' = 0 → FB b' (data.drop (wantN buf))) ∧ (frmN b' ≠ 0 → frmN b' ≤ 65536 ∧ FB [] (data.drop (wantN buf))) := by
  obtain ⟨L, more, hL, hfl, hhd⟩ := h
  cases L with
  | nil =>
    have e : buf ++ (data ++ more) = [] := hfl
    simp at e
    exact absurd e.2.1 h0
  | cons raw L' =>
    have g6 := hhd raw L' rfl
    obtain ⟨g4, g4'⟩ := hL raw (List.mem_cons_self ..)
    rw [List.flatten_cons] at hfl
    have g5 : buf = raw.take buf.length := by
      have h7 := congrArg (List.take buf.length) hfl
      rw [List.take_left, List.take_append_of_le_length (by omega)] at h7
      exact h7
    have g8 : data ++ more = raw.drop buf.length ++ L'.flatten := by
      have h7 := congrArg (List.drop buf.length) hfl
      rw [List.drop_left, List.drop_append_of_le_length (by omega)] at h7
      exact h7
    obtain ⟨w0, w1, w2, w3⟩ := want_le g4 g5 g6
    have e1 : data.take (wantN buf) = (raw.drop buf.length).take (data.take (wantN buf)).length := by
      have h9 := congrArg (List.take (data.take (wantN buf)).length) g8
      rw [List.take_append_of_le_length (by rw [List.length_take]; omega), List.take_append_of_le_length (by rw [List.length_take, List.length_drop]; omega)] at h9
      rw [← h9, List.length_take]
      rw [List.take_eq_take_iff]; omega
    have e2 : b'.length = buf.length + (data.take (wantN buf)).length := by rw [hb, List.length_append]
    have hbr : b' = raw.take b'.length := by
      rw [e2, List.take_add, ← g5, ← e1]
      exact hb
    have hbl : b'.length ≤ raw.length := by rw [hbr, List.length_take]; omega
    constructor
    · intro h2
      have hlt : b'.length < raw.length := by
        unfold frmN at h2
        by_cases h4 : b'.length < 4
        · omega
        · rw [if_neg h4] at h2
          have e : fld b' = fld raw := by rw [hbr, fld_take (by omega)]
          rw [e] at h2
          by_cases h5 : b'.length < 4 + fld raw
          · omega
          · rw [if_neg h5] at h2; omega
      refine ⟨raw :: L', more, hL, ?_, fun r l e => ?_⟩
      · rw [hb, List.append_assoc, ← List.append_assoc (data.take _), List.take_append_drop, g8, List.flatten_cons, ← List.append_assoc]
        congr 1
        conv => lhs; arg 1; rw [g5]
        exact List.take_append_drop _ _
      · have e' := (List.cons.inj e).1
        subst e'
        exact hlt
    · intro h2
      have h4 : ¬ b'.length < 4 := fun h => h2 (by unfold frmN; rw [if_pos h])
      have ef : fld b' = fld raw := by rw [hbr, fld_take (by omega)]
      have h5 : ¬ b'.length < 4 + fld raw := fun h => h2 (by unfold frmN; rw [if_neg h4, ef, if_pos h])
      have hfn : frmN b' = raw.length := by unfold frmN; rw [if_neg h4, ef, if_neg h5]; omega
      have hl : b'.length = raw.length := by omega
      refine ⟨by omega, L', more, fun r hr => hL r (List.mem_cons_of_mem _ hr), ?_, fun r l e => ?_⟩
      · rw [List.nil_append]
        have h9 := congrArg (List.drop (wantN buf)) g8
        have hdl : (data.take (wantN buf)).length = raw.length - buf.length := by omega
        rw [List.length_take] at hdl
        have hw : wantN buf = raw.length - buf.length := by omega
        have hz : (raw.drop buf.length).drop (wantN buf) = [] := List.drop_eq_nil_of_le (by rw [List.length_drop]; omega)
        rw [List.drop_append_of_le_length (by omega), List.drop_append_of_le_length (by rw [List.length_drop]; omega), hz, List.nil_append] at h9
        exact h9
      · have := (hL r (by rw [e]; exact List.mem_cons_of_mem _ (List.mem_cons_self ..))).1
        show 0 < r.length
        omega
theorem SI.fb {Fs : List (List UInt8)} (hF : ∀ raw ∈ Fs, raw.length = 4 + fld raw ∧ raw.length ≤ 65536) {data more : List UInt8} {s : Sv} {buf : List UInt8} {cl : Bool} {out : List UInt8} (h : SI Fs (data ++ more) s buf cl out) : cl = true ∨ FB buf data := by
  rcases h with ⟨-, j, h1, h2, h3, h4, h5, h6⟩ | ⟨h, -⟩
  · refine .inr ⟨Fs.drop j, more, fun r hr => hF r (List.mem_of_mem_drop hr), h3, fun r l e => h4 r ?_⟩
    have h7 := congrArg (fun l => l[0]?) e
    simpa using h7
  · exact .inl h
theorem frmN_le (xs : List UInt8) : frmN xs ≤ xs.length := by
  unfold frmN
  split
  · omega
  · split <;> omega
theorem inc_of {xs : List UInt8} (h : frmN xs = 0) : Inc xs := by
  unfold frmN at h
  split at h
  · exact .inl ‹_›
  · split at h
    · exact .inr ‹_›
    · omega
def slN : Value → Nat
  | .slice _ n _ => n
  | _ => 0
/-- Feed's loop. -/
structure FD (Ob : Own) (Wb : World) (bs bc : Nat) (s0 : Sv) (buf0 : List UInt8) (cl0 : Bool) (data0 : List UInt8) (O0 : Own) (V0 : World) (da : Option Addr) (dn : Nat) (oa : Option Addr) (on oc : Nat) (s : Sv) (O : Own) (g : Nat) (ba : Option Addr) (bn bk : Nat) (buf data out : List UInt8) (V : World) : Prop where
  fs : FS Ob Wb bs bc s O g V ba bn bk buf cl0
  dat : Bs V da dn data
  dlab : dn ≠ 0 → ∀ b o, da = some ⟨b, o, none⟩ → O b = .no
  row : RB Wb.heap.size O (.a 5 3) V oa on oc out
  kq : Kq O0 V0 O V
  inc : cl0 = true ∨ Inc buf
  fb : cl0 = true ∨ FB buf data
  cnt : 0 ≤ s.rst 196 ∧ s.rst 196 + (dn : Int) ≤ s0.rst 196 + (data0.length : Int)
  ol : out.length + 200000 * dn ≤ 200000 * data0.length
  go : ∀ o2 s2 b2 c2, FdTo s buf cl0 data o2 s2 b2 c2 → FdTo s0 buf0 cl0 data0 (out ++ o2) s2 b2 c2
def fdI (Ob : Own) (Wb : World) (bs bc : Nat) (s0 : Sv) (buf0 : List UInt8) (cl0 : Bool) (data0 : List UInt8) (O0 : Own) (V0 : World) (f : Nat → Value) (V : World) : Prop := f 0 = .pointer (some ⟨bc, 0, none⟩) ∧ ∃ da dn dc oa on oc, f 1 = .slice da dn dc ∧ f 5 = .slice oa on oc ∧ dn ≤ dc ∧ dc ≤ 9223372036854775807 ∧ dn ≤ 1000 ∧ Hid (∃ s O g ba bn bk buf data out, FD Ob Wb bs bc s0 buf0 cl0 data0 O0 V0 da dn oa on oc s O g ba bn bk buf data out V)
/-- What Feed answers. -/
def FdPost (Ob : Own) (Wb : World) (bs bc : Nat) (s : Sv) (buf : List UInt8) (cl : Bool) (data : List UInt8) (O : Own) (V : World) (e : Ending) (V' : World) : Prop := ∃ oa on oc out s' O' g' ba bn bk buf' cl', e = .returned (.slice oa on oc) ∧ FS Ob Wb bs bc s' O' g' V' ba bn bk buf' cl' ∧ RB Wb.heap.size O' (.a 5 3) V' oa on oc out ∧ Kq O V O' V' ∧ FdTo s buf cl data out s' buf' cl' ∧ out.length ≤ 200000 * data.length
structure FE (Ob : Own) (Wb : World) (bs bc : Nat) (O0 : Own) (V0 : World) (da : Option Addr) (dn : Nat) (oa : Option Addr) (on oc : Nat) (s : Sv) (O : Own) (g : Nat) (ba : Option Addr) (bn bk : Nat) (buf data out : List UInt8) (V : World) : Prop where
  fs : FS Ob Wb bs bc s O g V ba bn bk buf false
  dat : Bs V da dn data
  dlab : dn ≠ 0 → ∀ b o, da = some ⟨b, o, none⟩ → O b = .no
  row : RB Wb.heap.size O (.a 5 3) V oa on oc out
  kq : Kq O0 V0 O V
theorem flat_le {L : List (List UInt8)} (h : ∀ x ∈ L, x.length ≤ 64) : (L.flatMap encN).length ≤ 65 * L.length := flat_len L h
theorem encR'_len {q : PRep} (h : RepB q) : 2 ≤ (encR' q).length ∧ (encR' q).length ≤ 199990 := by
  have h1 := rows_len h.rows.2
  have h2 := flat_le h.fargs.2
  have h3 := h.rows.1
  have h4 := h.fargs.1
  unfold encR'
  rw [List.length_append]
  have h5 : (encBd q).length ≤ 199988 := by
    unfold encBd
    split
    · split <;> simp
    · split
      · simp
      · split
        · simp
        · split
          · rw [List.length_append]; show 3 + _ ≤ _; omega
          · split
            · rw [List.length_append]; show 2 + _ ≤ _; omega
            · simp
  show 2 ≤ 2 + _ ∧ 2 + _ ≤ _
  omega
theorem take_min {data : List UInt8} {w : Nat} : data.take w = data.take (min w data.length) := by
  rw [List.take_eq_take_iff]; omega
theorem drop_min {data : List UInt8} {w : Nat} : data.drop w = data.drop (min w data.length) := by
  by_cases h : w ≤ data.length
  · rw [Nat.min_eq_left h]
  · rw [List.drop_eq_nil_of_le (by omega), List.drop_eq_nil_of_le (by omega)]
attribute [local go_sem ↓] execOp_slice
attribute [local go_sem] se_len se0 se1 se2 se_set1 se_set2
set_option maxRecDepth 100000 in
theorem frame127f (f : Nat → Value) : frameN 127 f = #[f 0, f 1, f 2, f 3, f 4, f 5, f 6, f 7, f 8, f 9, f 10, f 11, f 12, f 13, f 14, f 15, f 16, f 17, f 18, f 19, f 20, f 21, f 22, f 23, f 24, f 25, f 26, f 27, f 28, f 29, f 30, f 31, f 32, f 33, f 34, f 35, f 36, f 37, f 38, f 39, f 40, f 41, f 42, f 43, f 44, f 45, f 46, f 47, f 48, f 49, f 50, f 51, f 52, f 53, f 54, f 55, f 56, f 57, f 58, f 59, f 60, f 61, f 62, f 63, f 64, f 65, f 66, f 67, f 68, f 69, f 70, f 71, f 72, f 73, f 74, f 75, f 76, f 77, f 78, f 79, f 80, f 81, f 82, f 83, f 84, f 85, f 86, f 87, f 88, f 89, f 90, f 91, f 92, f 93, f 94, f 95, f 96, f 97, f 98, f 99, f 100, f 101, f 102, f 103, f 104, f 105, f 106, f 107, f 108, f 109, f 110, f 111, f 112, f 113, f 114, f 115, f 116, f 117, f 118, f 119, f 120, f 121, f 122, f 123, f 124, f 125, f 126] := by kernel_rfl
set_option maxRecDepth 40000 in
set_option maxHeartbeats 2000000 in
theorem feed_any {Ob : Own} {Wb : World} {bs bc : Nat} {s : Sv} {O : Own} {g : Nat} {V : World} {ba : Option Addr} {bn bk : Nat} {buf : List UInt8} {cl : Bool} (h : FS Ob Wb bs bc s O g V ba bn bk buf cl) (h57 : ∀ k, k < Wb.heap.size → ¬ ∃ j, Ob k = .a 5 j) {da : Option Addr} {dn dc : Nat} {data : List UInt8} (hd : Bs V da dn data) (hdl : ∀ b o, da = some ⟨b, o, none⟩ → O b = .no) (hdc : dn ≤ dc ∧ dc ≤ 9223372036854775807) (hdn : dn ≤ 1000) (hinc : cl = true ∨ Inc buf) (hfb : cl = true ∨ FB buf data) (hm : 0 ≤ s.rst 196 ∧ s.rst 196 ≤ 70000000) : Calls Try.prog 29 #[.pointer (some ⟨bc, 0, none⟩), .slice da dn dc] V (FdPost Ob Wb bs bc s buf cl data O V) := by
  obtain ⟨Q, hQ⟩ : ∃ Q, Q = FdPost Ob Wb bs bc s buf cl data O V := ⟨_, rfl⟩
  rw [← hQ]
  have HQ := hid_of hQ
  have H57 := hid_of h57
  have HM := hid_of hm
  have hdl0 : data.length = dn := hd.1
  have HDL : Hid (data.length ≤ 1000) := by show _ ≤ _; omega
  have HJ0 : Hid (∃ s' O' g' ba' bn' bk' buf' data' out, FD Ob Wb bs bc s buf cl data O V da dn none 0 0 s' O' g' ba' bn' bk' buf' data' out V) := ⟨s, O, g, ba, bn, bk, buf, data, [], h, hd, fun _ => hdl, RB.nil _ _ _ _, Kq.refl _ _, hinc, hfb, ⟨hm.1, by rw [hdl0]; omega⟩, by rw [hdl0]; show 0 + 200000 * dn ≤ _; omega, fun o2 s2 b2 c2 h => h⟩
  obtain ⟨hdc1, hdc2⟩ := hdc
  clear hQ h h57 hd hdl hinc hfb hm hdl0
  go_enter Try.func29, Try.ntmps29
  go_upto_region 2 with fail
  refine wp_loop_f 127 (fdI Ob Wb bs bc s buf cl data O V) (fun f _ => slN (f 1)) rfl ⟨rfl, da, dn, dc, none, 0, 0, rfl, rfl, hdc1, hdc2, hdn, HJ0⟩ ?_
  clear hdc1 hdc2 hdn HJ0
  intro F W hrel
  obtain ⟨f0, da, dn, dc, oa, on, oc, f1, f5, hdc1, hdc2, hdn, HJ⟩ := hrel
  have H1 := hid_of f1
  rw [frame127f, f0, f1, f5]
  clear f0 f1 f5
  obtain ⟨s1, O1, g1, ba1, bn1, bk1, buf1, data1, out1, hFD⟩ := HJ.out
  have HFD := hid_of hFD
  have hdl1 : data1.length = dn := hFD.dat.1
  have hcb := hFD.fs.cell
  clear HJ hFD
  have HEXIT : Hid ((data1 = [] ∨ cl = true) → Q (.returned (.slice oa on oc)) W) := fun h0 => by
    have hf := HFD.out.go _ _ _ _ (FdTo.stop h0)
    rw [List.append_nil] at hf
    rw [HQ.out]
    exact ⟨oa, on, oc, out1, s1, O1, g1, ba1, bn1, bk1, buf1, cl, rfl, HFD.out.fs, HFD.out.row, HFD.out.kq, hf, by have := HFD.out.ol; omega⟩
  by_cases hz : dn = 0
  · have HP := hid_of (HEXIT.out (.inl (List.eq_nil_of_length_eq_zero (by omega))))
    subst hz
    clear hdl1
    go_wp2_with fail
    all_goals first | exact HP.out | (go_ret; exact HP.out)
  have hz' : (0 : Int) < (dn : Int) := by omega
  have hz'' : (dn : Int) > 0 := by omega
  cases cl with
  | true =>
    have HP := hid_of (HEXIT.out (.inr rfl))
    clear hdl1
    go_wp2_with fail
    all_goals first | exact HP.out | (go_ret; exact HP.out)
  | false =>
    clear HEXIT
    have hI : Inc buf1 := by
      rcases HFD.out.inc with h | h
      · cases h
      · exact h
    obtain ⟨hBb, hbk1, hbk2⟩ := HFD.out.fs.row.bs
    have hbl : buf1.length = bn1 := hBb.1
    have hfl : fld buf1 < 65536 := by
      have b2 := byt_lt buf1 2
      have b3 := byt_lt buf1 3
      unfold fld; omega
    obtain ⟨w0, hw0⟩ : ∃ w0, w0 = wantN buf1 := ⟨_, rfl⟩
    have hw0a : 0 < w0 ∧ w0 ≤ 65540 ∧ bn1 + w0 ≤ 65540 := by
      rw [hw0]
      unfold wantN
      unfold Inc at hI
      split <;> omega
    obtain ⟨w, hw⟩ : ∃ w, w = min w0 dn := ⟨_, rfl⟩
    have HW0 := hid_of hw0
    have HW := hid_of hw
    have HI := hid_of hI
    have hbn : bn1 ≤ 65540 := by omega
    have HBL := hid_of hbl
    have HBB := hid_of hBb
    clear hw0 hw hI hbl hBb
    go_upto_if 25 with fail
    go_cut [6] from 8 to 125 (fun s6 wx => s6 = .int .i64 (w0 : Int) ∧ ∃ k, wx = W.drewN k)
    case first =>
      by_cases h4 : bn1 < 4
      · have e1 : ¬ (4 : Int) - (bn1 : Int) ≤ 0 := by omega
        have e2 : (4 : Int) - (bn1 : Int) = (w0 : Int) := by
          have h1 := HW0.out
          unfold wantN at h1
          rw [if_pos (by rw [HBL.out]; exact h4), HBL.out] at h1
          omega
        go_wp2_with fail
        go_meet
        exact ⟨by first | rfl | (show Value.int .i64 _ = Value.int .i64 _; congr 1), 0, rfl⟩
      · have e1 : (4 : Int) - (bn1 : Int) ≤ 0 := by omega
        obtain ⟨b, o, C, rfl, hC, hCl, hby⟩ := HBB.out.byt (by omega)
        have v2 := hby 2 (by omega)
        have v3 := hby 3 (by omega)
        have b2 := byt_lt buf1 2
        have b3 := byt_lt buf1 3
        obtain ⟨y2, hy2⟩ : ∃ y, y = byt buf1 2 := ⟨_, rfl⟩
        obtain ⟨y3, hy3⟩ : ∃ y, y = byt buf1 3 := ⟨_, rfl⟩
        have hfd : fld buf1 = y2 * 256 + y3 := by unfold fld; rw [← hy2, ← hy3]
        rw [← hy2] at v2 b2
        rw [← hy3] at v3 b3
        obtain ⟨fl, hf⟩ : ∃ fl, fl = y2 * 256 + y3 := ⟨_, rfl⟩
        have hfb : fl < 65536 := by omega
        have hor := or_i64 y2 y3 b2 b3
        rw [← hf] at hor hfd
        have q3 : (2 : Int) < (bn1 : Int) := by omega
        have q4 : (3 : Int) < (bn1 : Int) := by omega
        have w2 : IntKind.i64.wrap (y2 : Int) = (y2 : Int) := by rw [IntKind.wrap_i64]; omega
        have w3 : IntKind.i64.wrap (y3 : Int) = (y3 : Int) := by rw [IntKind.wrap_i64]; omega
        have q5 : o + 2 < C.length := by omega
        have q6 : o + 3 < C.length := by omega
        have e2 : (4 : Int) + (fl : Int) - (bn1 : Int) = (w0 : Int) := by
          have h1 := HW0.out
          unfold wantN at h1
          rw [if_neg (by rw [HBL.out]; exact h4), HBL.out, hfd] at h1
          omega
        clear hf hy2 hy3 hby hfd hfl
        go_upto_region 5 with fail
        go_quiet (fail)
        go_wp2_with fail
        go_meet
        exact ⟨by first | rfl | (show Value.int .i64 _ = Value.int .i64 _; congr 1), _, rfl⟩
    case rest =>
    obtain ⟨rfl, k1, rfl⟩ := hcut
    go_upto_if 52 with fail
    go_cut [6] from 8 to 125 (fun s6 wx => s6 = .int .i64 (w : Int) ∧ wx = W.drewN k1)
    case first =>
      by_cases h4 : dn < w0
      · have e1 : (dn : Int) < (w0 : Int) := by omega
        have e2 : w = dn := by have := HW.out; omega
        subst e2
        go_wp2_with fail
        go_meet
        exact ⟨rfl, rfl⟩
      · have e1 : ¬ (dn : Int) < (w0 : Int) := by omega
        have e2 : w = w0 := by have := HW.out; omega
        subst e2
        go_wp2_with fail
        go_meet
        exact ⟨rfl, rfl⟩
    case rest =>
    obtain ⟨rfl, rfl⟩ := hcut
    have hw1 : w ≤ dn ∧ 0 < w ∧ w ≤ w0 := by have := HW.out; omega
    have hX := HFD.out.fs.drewN (k1 + 1)
    have hcutb : Bs (W.drewN (k1 + 1)) da w (data1.take w) := by
      have h1 := HFD.out.dat.cut (l := 0) (k := w) (cap := dc) (by omega) hdc1
      rw [cutA_zero, List.drop_zero] at h1
      exact h1
    obtain ⟨a2, c2, V2, hrun, hr2, hF2⟩ := appBL 27 hX.row dc hcutb hX.ls.kp.size (by rw [HBL.out, List.length_take]; omega)
    obtain ⟨hb2, hf2, hFS3, hF3⟩ := hX.buf' H57.out hF2 hr2
    have hrun' : (Builtin.append_ #[27, 27] 27 #[.slice ba1 bn1 bk1, .slice da w dc]).run Try.prog (W.drewN k1).drew = .ok (.slice a2 (bn1 + w) c2) V2 := hrun
    have hsl8 : ∀ W', (sliceOp 27 (.slice da dn dc) none (some (.int .i64 (w : Int))) none).run Try.prog W' = .ok (.value (.slice da w dc)) W' := fun W' => slice_hi Try.underlying27 (by kernel_rfl) W' da dn dc w (by omega)
    have hsl9 : ∀ W', (sliceOp 27 (.slice da dn dc) (some (.int .i64 (w : Int))) none none).run Try.prog W' = .ok (.value (.slice (cutA da w dc) (dn - w) (dc - w))) W' := fun W' => slice_lo Try.underlying27 (by kernel_rfl) W' da dn dc w (by omega)
    have HFS3 := hid_of hFS3
    have HF3 := hid_of hF3
    have hcbd : blk (W.drewN k1).drew bc = some (sesE bs ba1 bn1 bk1 false) := hcb
    clear hX hcutb hr2 hF2 hrun hFS3 hF3
    go_upto_region 8 with fail
    refine wp_region_held_drew (S := fun W' => True ∧ True) (by kernel_rfl) ⟨trivial, trivial⟩ (fun hHeld => ?_)
    refine wpAnyH_take (i := 0) (oi := ⟨_, _, _, _, _, _⟩) (v := ?_) rfl (by kernel_rfl) (by kernel_rfl) (by kernel_rfl) (fun _ _ _ h => h) (Or.inl ⟨by rfl, ?_⟩) (by assumption) ?_
    rotate_left 1
    · intro W' hSw
      obtain ⟨hS1, hS2⟩ := hSw
      go_simp
      try with_reducible rfl
    try simp only [Act.put, List.setIfInBounds_toArray, List.set_cons_zero, List.set_cons_succ]
    refine wpAnyH_take (i := 1) (oi := ⟨_, _, _, _, _, _⟩) (v := ?_) rfl (by kernel_rfl) (by kernel_rfl) (by kernel_rfl) (fun _ _ _ h => h) (Or.inl ⟨by rfl, ?_⟩) (by assumption) ?_
    rotate_left 1
    · intro W' hSw
      obtain ⟨hS1, hS2⟩ := hSw
      go_simp
      try with_reducible rfl
    try simp only [Act.put, List.setIfInBounds_toArray, List.set_cons_zero, List.set_cons_succ]
    refine wpAnyH_take (i := 2) (oi := ⟨_, _, _, _, _, _⟩) (v := ?_) rfl (by kernel_rfl) (by kernel_rfl) (by kernel_rfl) (fun _ _ _ h => h) (Or.inl ⟨by rfl, ?_⟩) (by assumption) ?_
    rotate_left 1
    · intro W' hSw
      obtain ⟨hS1, hS2⟩ := hSw
      go_simp
      try with_reducible rfl
    try simp only [Act.put, List.setIfInBounds_toArray, List.set_cons_zero, List.set_cons_succ]
    refine wpAnyH_take (i := 3) (oi := ⟨_, _, _, _, _, _⟩) (v := ?_) rfl (by kernel_rfl) (by kernel_rfl) (by kernel_rfl) (fun _ _ _ h => h) (Or.inl ⟨by rfl, ?_⟩) (by assumption) ?_
    rotate_left 1
    · intro W' hSw
      obtain ⟨hS1, hS2⟩ := hSw
      go_simp
      try with_reducible rfl
    try simp only [Act.put, List.setIfInBounds_toArray, List.set_cons_zero, List.set_cons_succ]
    refine wpAnyH_take (i := 5) (oi := ⟨_, _, _, _, _, _⟩) (v := ?_) rfl (by kernel_rfl) (by kernel_rfl) (by kernel_rfl) (fun _ _ _ h => h) (Or.inl ⟨by rfl, ?_⟩) (by assumption) ?_
    rotate_left 1
    · intro W' hSw
      obtain ⟨hS1, hS2⟩ := hSw
      go_simp
      try with_reducible rfl
    try simp only [Act.put, List.setIfInBounds_toArray, List.set_cons_zero, List.set_cons_succ]
    refine wpAnyH_take (i := 6) (oi := ⟨_, _, _, _, _, _⟩) (v := ?_) rfl (by kernel_rfl) (by kernel_rfl) (by kernel_rfl) (fun _ _ _ h => h) (Or.inl ⟨by rfl, ?_⟩) (by assumption) ?_
    rotate_left 1
    · intro W' hSw
      obtain ⟨hS1, hS2⟩ := hSw
      go_simp
      try with_reducible rfl
    try simp only [Act.put, List.setIfInBounds_toArray, List.set_cons_zero, List.set_cons_succ]
    refine wpAnyH_take (i := 7) (oi := ⟨_, _, _, _, _, _⟩) (v := ?_) rfl (by kernel_rfl) (by kernel_rfl) (by kernel_rfl) (fun _ _ _ h => h) (Or.inl ⟨by rfl, ?_⟩) (by assumption) ?_
    rotate_left 1
    · intro W' hSw
      obtain ⟨hS1, hS2⟩ := hSw
      go_simp
      try with_reducible rfl
    try simp only [Act.put, List.setIfInBounds_toArray, List.set_cons_zero, List.set_cons_succ]
    refine wpAnyH_ready (rs := [4]) (by kernel_rfl) (by simp) ?_
    refine AllReadyH.cons (o := ⟨_, _, _, _, _, _⟩) rfl (fun K' hK => ?_) AllReadyH.nil
    go_simp
    refine hK.out _ _ ⟨trivial, trivial⟩ (fun hHeld => ?_)
    clear hK K'
    try simp only [Act.put, List.setIfInBounds_toArray, List.set_cons_zero, List.set_cons_succ]
    refine wpAnyH_ready (rs := [8]) (by kernel_rfl) (by simp) ?_
    refine AllReadyH.cons (o := ⟨_, _, _, _, _, _⟩) rfl (fun K' hK => ?_) AllReadyH.nil
    refine wp_append_run _ _ 27 rfl _ _ _ _ rfl rfl hrun' ?_
    refine hK.out _ _ ⟨trivial, trivial⟩ (fun hHeld => ?_)
    clear hK K'
    try simp only [Act.put, List.setIfInBounds_toArray, List.set_cons_zero, List.set_cons_succ]
    refine wpAnyH_take (i := 9) (oi := ⟨_, _, _, _, _, _⟩) (v := ?_) rfl (by kernel_rfl) (by kernel_rfl) (by kernel_rfl) (fun _ _ _ h => h) (Or.inl ⟨by rfl, ?_⟩) (by assumption) ?_
    rotate_left 1
    · intro W' hSw
      obtain ⟨hS1, hS2⟩ := hSw
      go_simp
      try with_reducible rfl
    try simp only [Act.put, List.setIfInBounds_toArray, List.set_cons_zero, List.set_cons_succ]
    refine wpAnyH_take (i := 10) (oi := ⟨_, _, _, _, _, _⟩) (v := ?_) rfl (by kernel_rfl) (by kernel_rfl) (by kernel_rfl) (fun _ _ _ h => h) (Or.inl ⟨by rfl, ?_⟩) (by assumption) ?_
    rotate_left 1
    · intro W' hSw
      obtain ⟨hS1, hS2⟩ := hSw
      go_simp
      try with_reducible rfl
    try simp only [Act.put, List.setIfInBounds_toArray, List.set_cons_zero, List.set_cons_succ]
    refine wpAnyH_ready (rs := [11]) (by kernel_rfl) (by simp) ?_
    refine AllReadyH.cons (o := ⟨_, _, _, _, _, _⟩) rfl (fun K' hK => ?_) AllReadyH.nil
    go_simp
    refine hK.out _ _ ⟨trivial, trivial⟩ (fun hHeld => ?_)
    clear hK K'
    try simp only [Act.put, List.setIfInBounds_toArray, List.set_cons_zero, List.set_cons_succ]
    refine wpAnyH_done (by kernel_rfl) ?_ _
    obtain ⟨n2, hn2⟩ : ∃ n2, n2 = bn1 + w := ⟨_, rfl⟩
    rw [← hn2] at HFS3 HF3 ⊢
    have hFE : FE Ob Wb bs bc O V (cutA da w dc) (dn - w) oa on oc s1 (lab O1 (W.drewN (k1 + 1)).heap.size (.a 5 2)) g1 a2 n2 c2 (buf1 ++ data1.take w) (data1.drop w) out1 (put V2 bc (sesE bs a2 n2 c2 false)) := by
      have hF := HF3.out
      have hd4 : ∀ b o, da = some ⟨b, o, none⟩ → ¬ (O1 b = .a 5 2 ∨ O1 b = .a 5 1) := fun b o e => by
        rw [HFD.out.dlab hz b o e]
        rintro (e | e) <;> cases e
      have hdat : Bs (put V2 bc (sesE bs a2 n2 c2 false)) da dn data1 := by
        refine ⟨HFD.out.dat.1, fun h0 => ?_, HFD.out.dat.2.2⟩
        obtain ⟨b, o, C, e1, e2, e3, e4⟩ := HFD.out.dat.2.1 h0
        exact ⟨b, o, C, e1, hF.blk (W := W.drewN (k1 + 1)) e2 (hd4 b o e1), e3, e4⟩
      have hkq8 := Kq.fr hF (by rintro l (e | e); exact ⟨2, by omega, e⟩; exact ⟨1, by omega, e⟩)
      have hkq9 : Kq O1 W (lab O1 (W.drewN (k1 + 1)).heap.size (.a 5 2)) (put V2 bc (sesE bs a2 n2 c2 false)) := ⟨hkq8.size, hkq8.keep⟩
      refine ⟨HFS3.out, ?_, fun _ b o e => ?_, HFD.out.row.fr (W := W.drewN (k1 + 1)) hF (by rintro (e | e) <;> (have := (Lab.a.inj e).2; omega)), HFD.out.kq.trans hkq9⟩
      · have h1 := hdat.cut (l := w) (k := dn - w) (cap := dc) (by omega) hdc1
        rw [List.take_of_length_le (by rw [List.length_drop, hdl1]; exact Nat.le_refl _)] at h1
        exact h1
      · have hda : ∃ o', da = some ⟨b, o', none⟩ := by
          unfold cutA at e
          split at e
          · exact ⟨o, e⟩
          · cases hda : da with
            | none => rw [hda] at e; cases e
            | some ad =>
              rw [hda] at e
              have e' : ad.add w = ⟨b, o, none⟩ := Option.some.inj e
              rcases HFD.out.dat.2.2 with h | ⟨b', o', h⟩
              · rw [hda] at h; cases h
              · rw [hda] at h
                have h' := Option.some.inj h
                rw [h', add_addr] at e'
                injection e' with e1
                subst e1
                exact ⟨o', by rw [h']⟩
        obtain ⟨o', hda⟩ := hda
        have hlab := HFD.out.dlab hz b o' hda
        obtain ⟨b'', o'', C, e1, e2, e3, e4⟩ := HFD.out.dat.2.1 (by omega)
        rw [hda] at e1
        have eb : b = b'' := congrArg Addr.block (Option.some.inj e1)
        subst eb
        exact (hF.keep b (blk_lt e2)).trans hlab
    go_upto_region 9 with fail
    refine wp_world (fun V => FE Ob Wb bs bc _ _ (cutA da w dc) (dn - w) oa on oc s1 (lab O1 (W.drewN (k1 + 1)).heap.size (.a 5 2)) g1 a2 n2 c2 (buf1 ++ data1.take w) (data1.drop w) out1 V) hFE ?_
    clear hFE HFS3 HF3 hb2 hf2 hrun' hcbd hcb
    intro V3 hFE
    obtain ⟨O3, hO3⟩ : ∃ O3, O3 = lab O1 (W.drewN (k1 + 1)).heap.size (.a 5 2) := ⟨_, rfl⟩
    rw [← hO3] at hFE
    obtain ⟨b3, hb3⟩ : ∃ b3, b3 = buf1 ++ data1.take w := ⟨_, rfl⟩
    obtain ⟨d3, hd3⟩ : ∃ d3, d3 = data1.drop w := ⟨_, rfl⟩
    rw [← hb3, ← hd3] at hFE
    have hl3 : b3.length = n2 := (hFE.fs.row.bs).1.1
    have hb3' : b3 = buf1 ++ data1.take (wantN buf1) := by rw [hb3, take_min (w := wantN buf1), ← HW0.out, hdl1, ← HW.out]
    have hd3' : d3 = data1.drop (wantN buf1) := by rw [hd3, drop_min (w := wantN buf1), ← HW0.out, hdl1, ← HW.out]
    have hd0 : data1 ≠ [] := fun e => by rw [e] at hdl1; exact hz hdl1.symm
    obtain ⟨da3, hda3⟩ : ∃ da3, da3 = cutA da w dc := ⟨_, rfl⟩
    obtain ⟨dn3, hdn3⟩ : ∃ dn3, dn3 = dn - w := ⟨_, rfl⟩
    obtain ⟨dc3, hdc3⟩ : ∃ dc3, dc3 = dc - w := ⟨_, rfl⟩
    rw [← hda3, ← hdn3] at hFE
    rw [← hda3, ← hdn3, ← hdc3] at hsl9
    have hdnl : dn3 < dn := by omega
    have hdc3a : dn3 ≤ dc3 := by omega
    have hdc3b : dc3 ≤ 9223372036854775807 := by omega
    have hn2b : n2 ≤ 65540 ∧ 0 < n2 := by omega
    have HB3 := hid_of hb3'
    have HD3 := hid_of hd3'
    have HD0 := hid_of hd0
    have HFE := hid_of hFE
    have HL3 := hid_of hl3
    have hcb3 := hFE.fs.cell
    have hfb3 := hFE.fs.fre
    obtain ⟨bb, bo, BC, ea2, hbb, hbbl, hby⟩ := (hFE.fs.row.bs).1.byt (by omega)
    have hck := (hFE.fs.row.bs).2
    subst ea2
    have v0 := hby 0 (by omega)
    rw [Nat.add_zero] at v0
    have HVB := hid_of hby
    obtain ⟨y0, hy0⟩ : ∃ y0, y0 = byt b3 0 := ⟨_, rfl⟩
    rw [← hy0] at v0
    have HY0 := hid_of hy0
    have v0l : bo < BC.length := by omega
    have v0n : (0 : Int) < (n2 : Int) := by omega
    clear hsl8 hO3 hb3 hd3 hl3 hb3' hd3' hd0 hda3 hdn3 hdc3 hFE hby hy0 hn2 hw0a hw1 hbk1 hbk2
    by_cases hbad : n2 = 4 ∧ y0 ≠ 1
    · have b1 : (n2 : Int) = 4 := by omega
      have b1b : ((n2 : Int) == 4) = true := by rw [b1]; rfl
      have b2 : ¬ (y0 : Int) = 1 := by omega
      have b2b : ((y0 : Int) != 1) = true := by simp; omega
      have HBAD : Hid (b3.length = 4 ∧ byt b3 0 ≠ 1) := by
        show _ ∧ _
        rw [HL3.out, ← HY0.out]; exact hbad
      have HNR : Hid (n2 ≤ n2 ∧ 0 < n2 ∧ n2 ≤ 65536) := ⟨Nat.le_refl _, hn2b.2, by omega⟩
      clear hbad
      have hX : FS Ob Wb bs bc s1 O3 g1 V3.drew (some ⟨bb, bo, none⟩) n2 c2 b3 false := HFE.out.fs.drewN 1
      have hS0 : blk V3.drew bc = some (sesE bs (some ⟨bb, bo, none⟩) n2 c2 false) ∧ True := ⟨hcb3, trivial⟩
      have hsrv := hX.serve (by have := HFE.out; have h1 := HFD.out.cnt; have h2 := HM.out; have h3 := HDL.out; omega) HNR.out.1 HNR.out.2.1 HNR.out.2.2
      clear hX
      go_upto_region 11 with fail
      refine wp_region_held_drew (S := fun W' => blk W' bc = some (sesE bs (some ⟨bb, bo, none⟩) n2 c2 false) ∧ True) (by kernel_rfl) hS0 (fun hHeld => ?_)
      refine wpAnyH_take (i := 0) (oi := ⟨_, _, _, _, _, _⟩) (v := ?_) rfl (by kernel_rfl) (by kernel_rfl) (by kernel_rfl) (fun _ _ _ h => h) (Or.inl ⟨by rfl, ?_⟩) (by assumption) ?_
      rotate_left 1
      · intro W' hSw
        obtain ⟨hS1, hS2⟩ := hSw
        go_simp
        try with_reducible rfl
      try simp only [Act.put, List.setIfInBounds_toArray, List.set_cons_zero, List.set_cons_succ]
      refine wpAnyH_take (i := 1) (oi := ⟨_, _, _, _, _, _⟩) (v := ?_) rfl (by kernel_rfl) (by kernel_rfl) (by kernel_rfl) (fun _ _ _ h => h) (Or.inl ⟨by rfl, ?_⟩) (by assumption) ?_
      rotate_left 1
      · intro W' hSw
        obtain ⟨hS1, hS2⟩ := hSw
        go_simp
        try with_reducible rfl
      try simp only [Act.put, List.setIfInBounds_toArray, List.set_cons_zero, List.set_cons_succ]
      refine wpAnyH_take (i := 2) (oi := ⟨_, _, _, _, _, _⟩) (v := ?_) rfl (by kernel_rfl) (by kernel_rfl) (by kernel_rfl) (fun _ _ _ h => h) (Or.inl ⟨by rfl, ?_⟩) (by assumption) ?_
      rotate_left 1
      · intro W' hSw
        obtain ⟨hS1, hS2⟩ := hSw
        go_simp
        try with_reducible rfl
      try simp only [Act.put, List.setIfInBounds_toArray, List.set_cons_zero, List.set_cons_succ]
      refine wpAnyH_take (i := 3) (oi := ⟨_, _, _, _, _, _⟩) (v := ?_) rfl (by kernel_rfl) (by kernel_rfl) (by kernel_rfl) (fun _ _ _ h => h) (Or.inl ⟨by rfl, ?_⟩) (by assumption) ?_
      rotate_left 1
      · intro W' hSw
        obtain ⟨hS1, hS2⟩ := hSw
        go_simp
        try with_reducible rfl
      try simp only [Act.put, List.setIfInBounds_toArray, List.set_cons_zero, List.set_cons_succ]
      refine wpAnyH_take (i := 4) (oi := ⟨_, _, _, _, _, _⟩) (v := ?_) rfl (by kernel_rfl) (by kernel_rfl) (by kernel_rfl) (fun _ _ _ h => h) (Or.inl ⟨by rfl, ?_⟩) (by assumption) ?_
      rotate_left 1
      · intro W' hSw
        obtain ⟨hS1, hS2⟩ := hSw
        go_simp
        try with_reducible rfl
      try simp only [Act.put, List.setIfInBounds_toArray, List.set_cons_zero, List.set_cons_succ]
      refine wpAnyH_take (i := 5) (oi := ⟨_, _, _, _, _, _⟩) (v := ?_) rfl (by kernel_rfl) (by kernel_rfl) (by kernel_rfl) (fun _ _ _ h => h) (Or.inl ⟨by rfl, ?_⟩) (by assumption) ?_
      rotate_left 1
      · intro W' hSw
        obtain ⟨hS1, hS2⟩ := hSw
        go_simp
        try with_reducible rfl
      try simp only [Act.put, List.setIfInBounds_toArray, List.set_cons_zero, List.set_cons_succ]
      refine wpAnyH_take (i := 6) (oi := ⟨_, _, _, _, _, _⟩) (v := ?_) rfl (by kernel_rfl) (by kernel_rfl) (by kernel_rfl) (fun _ _ _ h => h) (Or.inl ⟨by rfl, ?_⟩) (by assumption) ?_
      rotate_left 1
      · intro W' hSw
        obtain ⟨hS1, hS2⟩ := hSw
        go_simp
        try with_reducible rfl
      try simp only [Act.put, List.setIfInBounds_toArray, List.set_cons_zero, List.set_cons_succ]
      refine wpAnyH_take (i := 7) (oi := ⟨_, _, _, _, _, _⟩) (v := ?_) rfl (by kernel_rfl) (by kernel_rfl) (by kernel_rfl) (fun _ _ _ h => h) (Or.inl ⟨by rfl, ?_⟩) (by assumption) ?_
      rotate_left 1
      · intro W' hSw
        obtain ⟨hS1, hS2⟩ := hSw
        go_simp
        try with_reducible rfl
      try simp only [Act.put, List.setIfInBounds_toArray, List.set_cons_zero, List.set_cons_succ]
      refine wpAnyH_take (i := 8) (oi := ⟨_, _, _, _, _, _⟩) (v := ?_) rfl (by kernel_rfl) (by kernel_rfl) (by kernel_rfl) (fun _ _ _ h => h) (Or.inl ⟨by rfl, ?_⟩) (by assumption) ?_
      rotate_left 1
      · intro W' hSw
        obtain ⟨hS1, hS2⟩ := hSw
        go_simp
        try with_reducible rfl
      try simp only [Act.put, List.setIfInBounds_toArray, List.set_cons_zero, List.set_cons_succ]
      refine wpAnyH_ready (rs := [9]) (by kernel_rfl) (by simp) ?_
      refine AllReadyH.cons (o := ⟨_, _, _, _, _, _⟩) rfl (fun K' hK => ?_) AllReadyH.nil
      go_simp
      refine hsrv.mono ?_
      rintro e V4 ⟨ra, rn, rc, q, s4, O4, g4, rfl, hsr, hRB, hK4, hFS4, hBs4, hrc1, hrc2⟩
      dsimp only
      have HSR := hid_of hsr
      have HFS4 := hid_of hFS4
      have hR4 := HFE.out.row.kp (W := V3.drew) (.inr ⟨5, 3, rfl, by omega⟩) hK4
      have hlq := encR'_len hRB
      have hln : (encR' q).length = rn := hBs4.1
      have hne : ∀ b o, ra = some ⟨b, o, none⟩ → O4 b ≠ .a 5 3 := fun b o e => by
        obtain ⟨b', o', C, f1, f2, -⟩ := hBs4.2.1 (by rw [← hln]; omega)
        rw [e] at f1
        have eb : b = b' := congrArg Addr.block (Option.some.inj f1)
        rw [eb, (core_blk f2).2]
        exact fun e => by cases e
      have hpr := putReply_any (rc := rc) hR4 hFS4.ls.kp.size (hBs4.sub (Sub.core _ _)) hne (by have h1 := HFD.out.ol; have h2 := HDL.out; omega)
      have HKQ4 : Hid (Kq O3 V3 O4 V4) := by
        have h9 := Kq.kp hK4
        exact ⟨h9.size, h9.keep⟩
      have HLQ : Hid (2 ≤ (encR' q).length ∧ (encR' q).length ≤ 199990) := by show _ ∧ _; omega
      have HLN := hid_of hln
      have hcb4 := hFS4.cell
      clear hsr hRB hK4 hFS4 hBs4 hrc1 hrc2 hR4 hlq hln hne
      refine hK.out _ _ ⟨hcb4, trivial⟩ (fun hHeld => ?_)
      clear hK K'
      try simp only [Act.put, List.setIfInBounds_toArray, List.set_cons_zero, List.set_cons_succ]
      refine wpAnyH_ready (rs := [10]) (by kernel_rfl) (by simp) ?_
      refine AllReadyH.cons (o := ⟨_, _, _, _, _, _⟩) rfl (fun K' hK => ?_) AllReadyH.nil
      go_simp
      refine hpr.mono ?_
      rintro e V5 ⟨oa5, oc5, rfl, hR5, hF5⟩
      dsimp only
      have hFS5 := HFS4.out.out H57.out hF5
      obtain ⟨O5, hO5⟩ : ∃ O5, O5 = lab O4 V4.heap.size (.a 5 3) := ⟨_, rfl⟩
      rw [← hO5] at hFS5 hR5 hF5
      have HFS5 := hid_of hFS5
      have HR5 := hid_of hR5
      have HKQ5 : Hid (Kq O3 V3 O5 V5) := HKQ4.out.trans (Kq.fr hF5 (fun l e => ⟨3, by omega, e⟩))
      have HOL : Hid ((out1 ++ frm (encR' q)).length ≤ out1.length + 199994) := by
        show _ ≤ _
        have h1 := HLQ.out
        rw [List.length_append]
        unfold frm
        rw [List.length_append]
        show out1.length + (4 + (encR' q).length) ≤ _
        omega
      have hcb5 := hFS5.cell
      clear hFS5 hR5 hF5 hO5 hpr
      refine hK.out _ _ ⟨hcb5, trivial⟩ (fun hHeld => ?_)
      clear hK K'
      try simp only [Act.put, List.setIfInBounds_toArray, List.set_cons_zero, List.set_cons_succ]
      refine wpAnyH_take (i := 11) (oi := ⟨_, _, _, _, _, _⟩) (v := ?_) rfl (by kernel_rfl) (by kernel_rfl) (by kernel_rfl) (fun _ _ _ h => h) (Or.inl ⟨by rfl, ?_⟩) (by assumption) ?_
      rotate_left 1
      · intro W' hSw
        obtain ⟨hS1, hS2⟩ := hSw
        go_simp
        try with_reducible rfl
      try simp only [Act.put, List.setIfInBounds_toArray, List.set_cons_zero, List.set_cons_succ]
      refine wpAnyH_done (by kernel_rfl) ?_ _
      clear hHeld hcb4 hcb5
      have hset := (HFS5.out.set H57.out (cl' := true) (RB.nil _ _ _ _))
      have HP : Hid (Q (.returned (.slice oa5 (on + 4 + rn) oc5)) (put V5 bc (sesE bs none 0 0 true))) := by
        have hf := HFD.out.go _ _ _ _ (FdTo.bad HD0.out HB3.out HBAD.out (by have h9 := HSR.out; rw [← HL3.out, List.take_of_length_le (Nat.le_refl _)] at h9; exact h9))
        rw [HQ.out]
        refine ⟨oa5, on + 4 + rn, oc5, out1 ++ frm (encR' q), s4, O5, g4, none, 0, 0, [], true, rfl, hset.1, HR5.out.fr hset.2 (fun e => by have := (Lab.a.inj e).2; omega), (HFE.out.kq.trans HKQ5.out).trans (Kq.fr hset.2 (fun l e => ⟨1, by omega, e⟩)), hf, ?_⟩
        have h1 := HFD.out.ol
        have h2 := HOL.out
        omega
      have hcb5 := HFS5.out.cell
      have hfb5 := HFS5.out.fre
      clear hset
      go_wp2_with fail
      all_goals first | exact HP.out | (go_ret; exact HP.out)
    · have HNB : Hid (¬ (b3.length = 4 ∧ byt b3 0 ≠ 1)) := by
        show ¬ _
        rw [HL3.out, ← HY0.out]; exact hbad
      have HFB : Hid ((frmN b3 = 0 → FB b3 d3) ∧ (frmN b3 ≠ 0 → frmN b3 ≤ 65536 ∧ FB [] d3)) := by
        show _ ∧ _
        rw [HD3.out]
        rcases HFD.out.fb with h | h
        · cases h
        · exact h.step HD0.out HB3.out
      have hfrl : frmN b3 ≤ n2 := by rw [← HL3.out]; exact frmN_le _
      have hfrm := frame_any hcb3 (HFE.out.fs.row.bs).1 (by omega)
      obtain ⟨fn, hfn⟩ : ∃ fn, fn = frmN b3 := ⟨_, rfl⟩
      rw [← hfn] at hfrm hfrl HFB
      have HFN := hid_of hfn
      clear hfn
      by_cases h4 : n2 = 4
      · have hy1 : y0 = 1 := by omega
        have b1 : (n2 : Int) = 4 := by omega
        have b1b : ((n2 : Int) == 4) = true := by rw [b1]; rfl
        have b2 : (y0 : Int) = 1 := by omega
        have b2b : ((y0 : Int) != 1) = false := by rw [b2]; rfl
        clear hbad h4 hy1
        go_wp2_with fail
        refine hfrm.mono ?_
        rintro e V4 ⟨rfl, k, rfl⟩
        dsimp only
        clear hfrm
        by_cases hf0 : fn = 0
        · have HF0 := hid_of (HFN.out.symm.trans hf0)
          have HFB0 := hid_of (HFB.out.1 hf0)
          subst hf0
          go_wp2_with fail
          refine ⟨rfl, rfl, ⟨rfl, da3, dn3, dc3, oa, on, oc, rfl, rfl, hdc3a, hdc3b, by omega, ?_⟩, ?_⟩
          · have hk := HFE.out.kq
            refine ⟨s1, O3, g1, some ⟨bb, bo, none⟩, n2, c2, b3, d3, out1, HFE.out.fs.drewN k, HFE.out.dat, HFE.out.dlab, HFE.out.row, ⟨hk.size, hk.keep⟩, .inr (inc_of HF0.out), .inr HFB0.out, ?_, ?_, fun o2 s2 b2 c2 h => HFD.out.go _ _ _ _ (FdTo.part HD0.out HB3.out HNB.out HF0.out (by rw [← HD3.out]; exact h))⟩
            · have := HFD.out.cnt; omega
            · have := HFD.out.ol; omega
          · show dn3 < slN (F 1)
            rw [H1.out]; exact hdnl
        have HF0 : Hid (frmN b3 ≠ 0) := by show _ ≠ _; rw [← HFN.out]; exact hf0
        have HFB0 := hid_of (HFB.out.2 hf0)
        have HNR : Hid (fn ≤ n2 ∧ 0 < fn ∧ fn ≤ 65536) := ⟨hfrl, by omega, HFB0.out.1⟩
        have hf1 : (0 : Int) < (fn : Int) := by omega
        have hf2 : (fn : Int) > 0 := by omega
        have hX : FS Ob Wb bs bc s1 O3 g1 (V3.drewN k).drew (some ⟨bb, bo, none⟩) n2 c2 b3 false := HFE.out.fs.drewN (k + 1)
        have hS0 : blk (V3.drewN k).drew bc = some (sesE bs (some ⟨bb, bo, none⟩) n2 c2 false) ∧ True := ⟨hcb3, trivial⟩
        have hsrv := hX.serve (by have := HFE.out; have h1 := HFD.out.cnt; have h2 := HM.out; have h3 := HDL.out; omega) HNR.out.1 HNR.out.2.1 HNR.out.2.2
        have hsl16 : ∀ W', (sliceOp 27 (.slice (some ⟨bb, bo, none⟩) n2 c2) none (some (.int .i64 (fn : Int))) none).run Try.prog W' = .ok (.value (.slice (some ⟨bb, bo, none⟩) fn c2)) W' := fun W' => slice_hi Try.underlying27 (by kernel_rfl) W' _ n2 c2 fn (by omega)
        have hsl17 : ∀ W', (sliceOp 27 (.slice (some ⟨bb, bo, none⟩) n2 c2) none (some (.int .i64 0)) none).run Try.prog W' = .ok (.value (.slice (some ⟨bb, bo, none⟩) 0 c2)) W' := fun W' => slice_hi Try.underlying27 (by kernel_rfl) W' _ n2 c2 0 (by omega)
        clear hX hf0 hfrl
        go_upto_region 16 with fail
        refine wp_region_held_drew (S := fun W' => blk W' bc = some (sesE bs (some ⟨bb, bo, none⟩) n2 c2 false) ∧ True) (by kernel_rfl) hS0 (fun hHeld => ?_)
        refine wpAnyH_take (i := 0) (oi := ⟨_, _, _, _, _, _⟩) (v := ?_) rfl (by kernel_rfl) (by kernel_rfl) (by kernel_rfl) (fun _ _ _ h => h) (Or.inl ⟨by rfl, ?_⟩) (by assumption) ?_
        rotate_left 1
        · intro W' hSw
          obtain ⟨hS1, hS2⟩ := hSw
          go_simp
          try with_reducible rfl
        try simp only [Act.put, List.setIfInBounds_toArray, List.set_cons_zero, List.set_cons_succ]
        refine wpAnyH_take (i := 1) (oi := ⟨_, _, _, _, _, _⟩) (v := ?_) rfl (by kernel_rfl) (by kernel_rfl) (by kernel_rfl) (fun _ _ _ h => h) (Or.inl ⟨by rfl, ?_⟩) (by assumption) ?_
        rotate_left 1
        · intro W' hSw
          obtain ⟨hS1, hS2⟩ := hSw
          go_simp
          try with_reducible rfl
        try simp only [Act.put, List.setIfInBounds_toArray, List.set_cons_zero, List.set_cons_succ]
        refine wpAnyH_take (i := 2) (oi := ⟨_, _, _, _, _, _⟩) (v := ?_) rfl (by kernel_rfl) (by kernel_rfl) (by kernel_rfl) (fun _ _ _ h => h) (Or.inl ⟨by rfl, ?_⟩) (by assumption) ?_
        rotate_left 1
        · intro W' hSw
          obtain ⟨hS1, hS2⟩ := hSw
          go_simp
          try with_reducible rfl
        try simp only [Act.put, List.setIfInBounds_toArray, List.set_cons_zero, List.set_cons_succ]
        refine wpAnyH_take (i := 3) (oi := ⟨_, _, _, _, _, _⟩) (v := ?_) rfl (by kernel_rfl) (by kernel_rfl) (by kernel_rfl) (fun _ _ _ h => h) (Or.inl ⟨by rfl, ?_⟩) (by assumption) ?_
        rotate_left 1
        · intro W' hSw
          obtain ⟨hS1, hS2⟩ := hSw
          go_simp
          try with_reducible rfl
        try simp only [Act.put, List.setIfInBounds_toArray, List.set_cons_zero, List.set_cons_succ]
        refine wpAnyH_take (i := 4) (oi := ⟨_, _, _, _, _, _⟩) (v := ?_) rfl (by kernel_rfl) (by kernel_rfl) (by kernel_rfl) (fun _ _ _ h => h) (Or.inl ⟨by rfl, ?_⟩) (by assumption) ?_
        rotate_left 1
        · intro W' hSw
          obtain ⟨hS1, hS2⟩ := hSw
          go_simp
          try with_reducible rfl
        try simp only [Act.put, List.setIfInBounds_toArray, List.set_cons_zero, List.set_cons_succ]
        refine wpAnyH_take (i := 5) (oi := ⟨_, _, _, _, _, _⟩) (v := ?_) rfl (by kernel_rfl) (by kernel_rfl) (by kernel_rfl) (fun _ _ _ h => h) (Or.inl ⟨by rfl, ?_⟩) (by assumption) ?_
        rotate_left 1
        · intro W' hSw
          obtain ⟨hS1, hS2⟩ := hSw
          go_simp
          try with_reducible rfl
        try simp only [Act.put, List.setIfInBounds_toArray, List.set_cons_zero, List.set_cons_succ]
        refine wpAnyH_take (i := 6) (oi := ⟨_, _, _, _, _, _⟩) (v := ?_) rfl (by kernel_rfl) (by kernel_rfl) (by kernel_rfl) (fun _ _ _ h => h) (Or.inl ⟨by rfl, ?_⟩) (by assumption) ?_
        rotate_left 1
        · intro W' hSw
          obtain ⟨hS1, hS2⟩ := hSw
          go_simp
          try with_reducible rfl
        try simp only [Act.put, List.setIfInBounds_toArray, List.set_cons_zero, List.set_cons_succ]
        refine wpAnyH_take (i := 7) (oi := ⟨_, _, _, _, _, _⟩) (v := ?_) rfl (by kernel_rfl) (by kernel_rfl) (by kernel_rfl) (fun _ _ _ h => h) (Or.inl ⟨by rfl, ?_⟩) (by assumption) ?_
        rotate_left 1
        · intro W' hSw
          obtain ⟨hS1, hS2⟩ := hSw
          go_simp
          try with_reducible rfl
        try simp only [Act.put, List.setIfInBounds_toArray, List.set_cons_zero, List.set_cons_succ]
        refine wpAnyH_take (i := 8) (oi := ⟨_, _, _, _, _, _⟩) (v := ?_) rfl (by kernel_rfl) (by kernel_rfl) (by kernel_rfl) (fun _ _ _ h => h) (Or.inl ⟨by rfl, ?_⟩) (by assumption) ?_
        rotate_left 1
        · intro W' hSw
          obtain ⟨hS1, hS2⟩ := hSw
          go_simp
          try with_reducible rfl
        try simp only [Act.put, List.setIfInBounds_toArray, List.set_cons_zero, List.set_cons_succ]
        refine wpAnyH_take (i := 9) (oi := ⟨_, _, _, _, _, _⟩) (v := ?_) rfl (by kernel_rfl) (by kernel_rfl) (by kernel_rfl) (fun _ _ _ h => h) (Or.inl ⟨by rfl, ?_⟩) (by assumption) ?_
        rotate_left 1
        · intro W' hSw
          obtain ⟨hS1, hS2⟩ := hSw
          go_simp
          try with_reducible rfl
        try simp only [Act.put, List.setIfInBounds_toArray, List.set_cons_zero, List.set_cons_succ]
        refine wpAnyH_take (i := 10) (oi := ⟨_, _, _, _, _, _⟩) (v := ?_) rfl (by kernel_rfl) (by kernel_rfl) (by kernel_rfl) (fun _ _ _ h => h) (Or.inl ⟨by rfl, ?_⟩) (by assumption) ?_
        rotate_left 1
        · intro W' hSw
          obtain ⟨hS1, hS2⟩ := hSw
          go_simp
          try with_reducible rfl
        try simp only [Act.put, List.setIfInBounds_toArray, List.set_cons_zero, List.set_cons_succ]
        refine wpAnyH_ready (rs := [11]) (by kernel_rfl) (by simp) ?_
        refine AllReadyH.cons (o := ⟨_, _, _, _, _, _⟩) rfl (fun K' hK => ?_) AllReadyH.nil
        go_simp
        refine hsrv.mono ?_
        rintro e V4 ⟨ra, rn, rc, q, s4, O4, g4, rfl, hsr, hRB, hK4, hFS4, hBs4, hrc1, hrc2⟩
        dsimp only
        have HSR := hid_of hsr
        have HFS4 := hid_of hFS4
        have hR4 := HFE.out.row.kp (W := (V3.drewN k).drew) (.inr ⟨5, 3, rfl, by omega⟩) hK4
        have hlq := encR'_len hRB
        have hln : (encR' q).length = rn := hBs4.1
        have hne : ∀ b o, ra = some ⟨b, o, none⟩ → O4 b ≠ .a 5 3 := fun b o e => by
          obtain ⟨b', o', C, f1, f2, -⟩ := hBs4.2.1 (by rw [← hln]; omega)
          rw [e] at f1
          have eb : b = b' := congrArg Addr.block (Option.some.inj f1)
          rw [eb, (core_blk f2).2]
          exact fun e => by cases e
        have hpr := putReply_any (rc := rc) hR4 hFS4.ls.kp.size (hBs4.sub (Sub.core _ _)) hne (by have h1 := HFD.out.ol; have h2 := HDL.out; omega)
        have HKQ4 : Hid (Kq O3 V3 O4 V4) := by
          have h9 := Kq.kp hK4
          exact ⟨h9.size, h9.keep⟩
        have HLQ : Hid (2 ≤ (encR' q).length ∧ (encR' q).length ≤ 199990) := by show _ ∧ _; omega
        have HLN := hid_of hln
        have hcb4 := hFS4.cell
        clear hsr hRB hK4 hFS4 hBs4 hrc1 hrc2 hR4 hlq hln hne
        refine hK.out _ _ ⟨hcb4, trivial⟩ (fun hHeld => ?_)
        clear hK K'
        try simp only [Act.put, List.setIfInBounds_toArray, List.set_cons_zero, List.set_cons_succ]
        refine wpAnyH_ready (rs := [12]) (by kernel_rfl) (by simp) ?_
        refine AllReadyH.cons (o := ⟨_, _, _, _, _, _⟩) rfl (fun K' hK => ?_) AllReadyH.nil
        go_simp
        refine hpr.mono ?_
        rintro e V5 ⟨oa5, oc5, rfl, hR5, hF5⟩
        dsimp only
        have hFS5 := HFS4.out.out H57.out hF5
        obtain ⟨O5, hO5⟩ : ∃ O5, O5 = lab O4 V4.heap.size (.a 5 3) := ⟨_, rfl⟩
        rw [← hO5] at hFS5 hR5 hF5
        have HFS5 := hid_of hFS5
        have HR5 := hid_of hR5
        have HKQ5 : Hid (Kq O3 V3 O5 V5) := HKQ4.out.trans (Kq.fr hF5 (fun l e => ⟨3, by omega, e⟩))
        have HOL : Hid ((out1 ++ frm (encR' q)).length ≤ out1.length + 199994) := by
          show _ ≤ _
          have h1 := HLQ.out
          rw [List.length_append]
          unfold frm
          rw [List.length_append]
          show out1.length + (4 + (encR' q).length) ≤ _
          omega
        have hcb5 := hFS5.cell
        clear hFS5 hR5 hF5 hO5 hpr
        refine hK.out _ _ ⟨hcb5, trivial⟩ (fun hHeld => ?_)
        clear hK K'
        try simp only [Act.put, List.setIfInBounds_toArray, List.set_cons_zero, List.set_cons_succ]
        refine wpAnyH_take (i := 13) (oi := ⟨_, _, _, _, _, _⟩) (v := ?_) rfl (by kernel_rfl) (by kernel_rfl) (by kernel_rfl) (fun _ _ _ h => h) (Or.inl ⟨by rfl, ?_⟩) (by assumption) ?_
        rotate_left 1
        · intro W' hSw
          obtain ⟨hS1, hS2⟩ := hSw
          go_simp
          try with_reducible rfl
        try simp only [Act.put, List.setIfInBounds_toArray, List.set_cons_zero, List.set_cons_succ]
        refine wpAnyH_done (by kernel_rfl) ?_ _
        clear hHeld hcb4 hcb5
        have hset := HFS5.out.set H57.out (cl' := false) (HFS5.out.row.cut0)
        have HKQ6 : Hid (Kq O3 V3 O5 (put V5 bc (sesE bs (some ⟨bb, bo, none⟩) 0 c2 false))) := HKQ5.out.trans (Kq.fr hset.2 (fun l e => ⟨1, by omega, e⟩))
        have HFD6 : Hid (FD Ob Wb bs bc s buf false data O V da3 dn3 oa5 (on + 4 + rn) oc5 s4 O5 g4 (some ⟨bb, bo, none⟩) 0 c2 [] d3 (out1 ++ frm (encR' q)) (put V5 bc (sesE bs (some ⟨bb, bo, none⟩) 0 c2 false))) := by
          have hdt := HFE.out.dat
          refine ⟨hset.1, ⟨hdt.1, fun h0 => ?_, hdt.2.2⟩, fun h0 b o e => ?_, HR5.out.fr hset.2 (fun e => by have := (Lab.a.inj e).2; omega), HFE.out.kq.trans HKQ6.out, .inr inc_nil, .inr HFB0.out.2, ?_, ?_, fun o2 s2 b2 c2 h => ?_⟩
          · obtain ⟨b, o, C, e1, e2, e3, e4⟩ := hdt.2.1 h0
            exact ⟨b, o, C, e1, (HKQ6.out.blk e2 (.inl (HFE.out.dlab h0 b o e1))).1, e3, e4⟩
          · obtain ⟨b', o', C, e1, e2, e3, e4⟩ := hdt.2.1 h0
            have e9 := e
            rw [e1] at e
            have eb : b' = b := congrArg Addr.block (Option.some.inj e)
            subst eb
            have hl := HFE.out.dlab h0 _ o e9
            exact (HKQ6.out.blk e2 (.inl hl)).2.trans hl
          · have h1 := HFD.out.cnt
            have h2 := HSR.out.n196
            rw [h2]; omega
          · have h1 := HFD.out.ol
            have h2 := HOL.out
            omega
          · have hf := HFD.out.go _ _ _ _ (FdTo.full HD0.out HB3.out HNB.out HF0.out (by rw [← HFN.out]; exact HSR.out) (by rw [← HD3.out]; exact h))
            rw [List.append_assoc]
            exact hf
        have hcb5 := HFS5.out.cell
        have hfb5 := HFS5.out.fre
        clear hset
        go_wp2_with fail
        refine ⟨rfl, rfl, ⟨rfl, da3, dn3, dc3, oa5, on + 4 + rn, oc5, rfl, rfl, hdc3a, hdc3b, by omega, ⟨_, _, _, _, _, _, _, _, _, HFD6.out⟩⟩, ?_⟩
        show dn3 < slN (F 1)
        rw [H1.out]; exact hdnl
      · have b1 : ¬ (n2 : Int) = 4 := by omega
        have b1b : ((n2 : Int) == 4) = false := by simp; omega
        clear hbad h4
        go_wp2_with fail
        refine hfrm.mono ?_
        rintro e V4 ⟨rfl, k, rfl⟩
        dsimp only
        clear hfrm
        by_cases hf0 : fn = 0
        · have HF0 := hid_of (HFN.out.symm.trans hf0)
          have HFB0 := hid_of (HFB.out.1 hf0)
          subst hf0
          go_wp2_with fail
          refine ⟨rfl, rfl, ⟨rfl, da3, dn3, dc3, oa, on, oc, rfl, rfl, hdc3a, hdc3b, by omega, ?_⟩, ?_⟩
          · have hk := HFE.out.kq
            refine ⟨s1, O3, g1, some ⟨bb, bo, none⟩, n2, c2, b3, d3, out1, HFE.out.fs.drewN k, HFE.out.dat, HFE.out.dlab, HFE.out.row, ⟨hk.size, hk.keep⟩, .inr (inc_of HF0.out), .inr HFB0.out, ?_, ?_, fun o2 s2 b2 c2 h => HFD.out.go _ _ _ _ (FdTo.part HD0.out HB3.out HNB.out HF0.out (by rw [← HD3.out]; exact h))⟩
            · have := HFD.out.cnt; omega
            · have := HFD.out.ol; omega
          · show dn3 < slN (F 1)
            rw [H1.out]; exact hdnl
        have HF0 : Hid (frmN b3 ≠ 0) := by show _ ≠ _; rw [← HFN.out]; exact hf0
        have HFB0 := hid_of (HFB.out.2 hf0)
        have HNR : Hid (fn ≤ n2 ∧ 0 < fn ∧ fn ≤ 65536) := ⟨hfrl, by omega, HFB0.out.1⟩
        have hf1 : (0 : Int) < (fn : Int) := by omega
        have hf2 : (fn : Int) > 0 := by omega
        have hX : FS Ob Wb bs bc s1 O3 g1 (V3.drewN k).drew (some ⟨bb, bo, none⟩) n2 c2 b3 false := HFE.out.fs.drewN (k + 1)
        have hS0 : blk (V3.drewN k).drew bc = some (sesE bs (some ⟨bb, bo, none⟩) n2 c2 false) ∧ True := ⟨hcb3, trivial⟩
        have hsrv := hX.serve (by have := HFE.out; have h1 := HFD.out.cnt; have h2 := HM.out; have h3 := HDL.out; omega) HNR.out.1 HNR.out.2.1 HNR.out.2.2
        have hsl16 : ∀ W', (sliceOp 27 (.slice (some ⟨bb, bo, none⟩) n2 c2) none (some (.int .i64 (fn : Int))) none).run Try.prog W' = .ok (.value (.slice (some ⟨bb, bo, none⟩) fn c2)) W' := fun W' => slice_hi Try.underlying27 (by kernel_rfl) W' _ n2 c2 fn (by omega)
        have hsl17 : ∀ W', (sliceOp 27 (.slice (some ⟨bb, bo, none⟩) n2 c2) none (some (.int .i64 0)) none).run Try.prog W' = .ok (.value (.slice (some ⟨bb, bo, none⟩) 0 c2)) W' := fun W' => slice_hi Try.underlying27 (by kernel_rfl) W' _ n2 c2 0 (by omega)
        clear hX hf0 hfrl
        go_upto_region 16 with fail
        refine wp_region_held_drew (S := fun W' => blk W' bc = some (sesE bs (some ⟨bb, bo, none⟩) n2 c2 false) ∧ True) (by kernel_rfl) hS0 (fun hHeld => ?_)
        refine wpAnyH_take (i := 0) (oi := ⟨_, _, _, _, _, _⟩) (v := ?_) rfl (by kernel_rfl) (by kernel_rfl) (by kernel_rfl) (fun _ _ _ h => h) (Or.inl ⟨by rfl, ?_⟩) (by assumption) ?_
        rotate_left 1
        · intro W' hSw
          obtain ⟨hS1, hS2⟩ := hSw
          go_simp
          try with_reducible rfl
        try simp only [Act.put, List.setIfInBounds_toArray, List.set_cons_zero, List.set_cons_succ]
        refine wpAnyH_take (i := 1) (oi := ⟨_, _, _, _, _, _⟩) (v := ?_) rfl (by kernel_rfl) (by kernel_rfl) (by kernel_rfl) (fun _ _ _ h => h) (Or.inl ⟨by rfl, ?_⟩) (by assumption) ?_
        rotate_left 1
        · intro W' hSw
          obtain ⟨hS1, hS2⟩ := hSw
          go_simp
          try with_reducible rfl
        try simp only [Act.put, List.setIfInBounds_toArray, List.set_cons_zero, List.set_cons_succ]
        refine wpAnyH_take (i := 2) (oi := ⟨_, _, _, _, _, _⟩) (v := ?_) rfl (by kernel_rfl) (by kernel_rfl) (by kernel_rfl) (fun _ _ _ h => h) (Or.inl ⟨by rfl, ?_⟩) (by assumption) ?_
        rotate_left 1
        · intro W' hSw
          obtain ⟨hS1, hS2⟩ := hSw
          go_simp
          try with_reducible rfl
        try simp only [Act.put, List.setIfInBounds_toArray, List.set_cons_zero, List.set_cons_succ]
        refine wpAnyH_take (i := 3) (oi := ⟨_, _, _, _, _, _⟩) (v := ?_) rfl (by kernel_rfl) (by kernel_rfl) (by kernel_rfl) (fun _ _ _ h => h) (Or.inl ⟨by rfl, ?_⟩) (by assumption) ?_
        rotate_left 1
        · intro W' hSw
          obtain ⟨hS1, hS2⟩ := hSw
          go_simp
          try with_reducible rfl
        try simp only [Act.put, List.setIfInBounds_toArray, List.set_cons_zero, List.set_cons_succ]
        refine wpAnyH_take (i := 4) (oi := ⟨_, _, _, _, _, _⟩) (v := ?_) rfl (by kernel_rfl) (by kernel_rfl) (by kernel_rfl) (fun _ _ _ h => h) (Or.inl ⟨by rfl, ?_⟩) (by assumption) ?_
        rotate_left 1
        · intro W' hSw
          obtain ⟨hS1, hS2⟩ := hSw
          go_simp
          try with_reducible rfl
        try simp only [Act.put, List.setIfInBounds_toArray, List.set_cons_zero, List.set_cons_succ]
        refine wpAnyH_take (i := 5) (oi := ⟨_, _, _, _, _, _⟩) (v := ?_) rfl (by kernel_rfl) (by kernel_rfl) (by kernel_rfl) (fun _ _ _ h => h) (Or.inl ⟨by rfl, ?_⟩) (by assumption) ?_
        rotate_left 1
        · intro W' hSw
          obtain ⟨hS1, hS2⟩ := hSw
          go_simp
          try with_reducible rfl
        try simp only [Act.put, List.setIfInBounds_toArray, List.set_cons_zero, List.set_cons_succ]
        refine wpAnyH_take (i := 6) (oi := ⟨_, _, _, _, _, _⟩) (v := ?_) rfl (by kernel_rfl) (by kernel_rfl) (by kernel_rfl) (fun _ _ _ h => h) (Or.inl ⟨by rfl, ?_⟩) (by assumption) ?_
        rotate_left 1
        · intro W' hSw
          obtain ⟨hS1, hS2⟩ := hSw
          go_simp
          try with_reducible rfl
        try simp only [Act.put, List.setIfInBounds_toArray, List.set_cons_zero, List.set_cons_succ]
        refine wpAnyH_take (i := 7) (oi := ⟨_, _, _, _, _, _⟩) (v := ?_) rfl (by kernel_rfl) (by kernel_rfl) (by kernel_rfl) (fun _ _ _ h => h) (Or.inl ⟨by rfl, ?_⟩) (by assumption) ?_
        rotate_left 1
        · intro W' hSw
          obtain ⟨hS1, hS2⟩ := hSw
          go_simp
          try with_reducible rfl
        try simp only [Act.put, List.setIfInBounds_toArray, List.set_cons_zero, List.set_cons_succ]
        refine wpAnyH_take (i := 8) (oi := ⟨_, _, _, _, _, _⟩) (v := ?_) rfl (by kernel_rfl) (by kernel_rfl) (by kernel_rfl) (fun _ _ _ h => h) (Or.inl ⟨by rfl, ?_⟩) (by assumption) ?_
        rotate_left 1
        · intro W' hSw
          obtain ⟨hS1, hS2⟩ := hSw
          go_simp
          try with_reducible rfl
        try simp only [Act.put, List.setIfInBounds_toArray, List.set_cons_zero, List.set_cons_succ]
        refine wpAnyH_take (i := 9) (oi := ⟨_, _, _, _, _, _⟩) (v := ?_) rfl (by kernel_rfl) (by kernel_rfl) (by kernel_rfl) (fun _ _ _ h => h) (Or.inl ⟨by rfl, ?_⟩) (by assumption) ?_
        rotate_left 1
        · intro W' hSw
          obtain ⟨hS1, hS2⟩ := hSw
          go_simp
          try with_reducible rfl
        try simp only [Act.put, List.setIfInBounds_toArray, List.set_cons_zero, List.set_cons_succ]
        refine wpAnyH_take (i := 10) (oi := ⟨_, _, _, _, _, _⟩) (v := ?_) rfl (by kernel_rfl) (by kernel_rfl) (by kernel_rfl) (fun _ _ _ h => h) (Or.inl ⟨by rfl, ?_⟩) (by assumption) ?_
        rotate_left 1
        · intro W' hSw
          obtain ⟨hS1, hS2⟩ := hSw
          go_simp
          try with_reducible rfl
        try simp only [Act.put, List.setIfInBounds_toArray, List.set_cons_zero, List.set_cons_succ]
        refine wpAnyH_ready (rs := [11]) (by kernel_rfl) (by simp) ?_
        refine AllReadyH.cons (o := ⟨_, _, _, _, _, _⟩) rfl (fun K' hK => ?_) AllReadyH.nil
        go_simp
        refine hsrv.mono ?_
        rintro e V4 ⟨ra, rn, rc, q, s4, O4, g4, rfl, hsr, hRB, hK4, hFS4, hBs4, hrc1, hrc2⟩
        dsimp only
        have HSR := hid_of hsr
        have HFS4 := hid_of hFS4
        have hR4 := HFE.out.row.kp (W := (V3.drewN k).drew) (.inr ⟨5, 3, rfl, by omega⟩) hK4
        have hlq := encR'_len hRB
        have hln : (encR' q).length = rn := hBs4.1
        have hne : ∀ b o, ra = some ⟨b, o, none⟩ → O4 b ≠ .a 5 3 := fun b o e => by
          obtain ⟨b', o', C, f1, f2, -⟩ := hBs4.2.1 (by rw [← hln]; omega)
          rw [e] at f1
          have eb : b = b' := congrArg Addr.block (Option.some.inj f1)
          rw [eb, (core_blk f2).2]
          exact fun e => by cases e
        have hpr := putReply_any (rc := rc) hR4 hFS4.ls.kp.size (hBs4.sub (Sub.core _ _)) hne (by have h1 := HFD.out.ol; have h2 := HDL.out; omega)
        have HKQ4 : Hid (Kq O3 V3 O4 V4) := by
          have h9 := Kq.kp hK4
          exact ⟨h9.size, h9.keep⟩
        have HLQ : Hid (2 ≤ (encR' q).length ∧ (encR' q).length ≤ 199990) := by show _ ∧ _; omega
        have HLN := hid_of hln
        have hcb4 := hFS4.cell
        clear hsr hRB hK4 hFS4 hBs4 hrc1 hrc2 hR4 hlq hln hne
        refine hK.out _ _ ⟨hcb4, trivial⟩ (fun hHeld => ?_)
        clear hK K'
        try simp only [Act.put, List.setIfInBounds_toArray, List.set_cons_zero, List.set_cons_succ]
        refine wpAnyH_ready (rs := [12]) (by kernel_rfl) (by simp) ?_
        refine AllReadyH.cons (o := ⟨_, _, _, _, _, _⟩) rfl (fun K' hK => ?_) AllReadyH.nil
        go_simp
        refine hpr.mono ?_
        rintro e V5 ⟨oa5, oc5, rfl, hR5, hF5⟩
        dsimp only
        have hFS5 := HFS4.out.out H57.out hF5
        obtain ⟨O5, hO5⟩ : ∃ O5, O5 = lab O4 V4.heap.size (.a 5 3) := ⟨_, rfl⟩
        rw [← hO5] at hFS5 hR5 hF5
        have HFS5 := hid_of hFS5
        have HR5 := hid_of hR5
        have HKQ5 : Hid (Kq O3 V3 O5 V5) := HKQ4.out.trans (Kq.fr hF5 (fun l e => ⟨3, by omega, e⟩))
        have HOL : Hid ((out1 ++ frm (encR' q)).length ≤ out1.length + 199994) := by
          show _ ≤ _
          have h1 := HLQ.out
          rw [List.length_append]
          unfold frm
          rw [List.length_append]
          show out1.length + (4 + (encR' q).length) ≤ _
          omega
        have hcb5 := hFS5.cell
        clear hFS5 hR5 hF5 hO5 hpr
        refine hK.out _ _ ⟨hcb5, trivial⟩ (fun hHeld => ?_)
        clear hK K'
        try simp only [Act.put, List.setIfInBounds_toArray, List.set_cons_zero, List.set_cons_succ]
        refine wpAnyH_take (i := 13) (oi := ⟨_, _, _, _, _, _⟩) (v := ?_) rfl (by kernel_rfl) (by kernel_rfl) (by kernel_rfl) (fun _ _ _ h => h) (Or.inl ⟨by rfl, ?_⟩) (by assumption) ?_
        rotate_left 1
        · intro W' hSw
          obtain ⟨hS1, hS2⟩ := hSw
          go_simp
          try with_reducible rfl
        try simp only [Act.put, List.setIfInBounds_toArray, List.set_cons_zero, List.set_cons_succ]
        refine wpAnyH_done (by kernel_rfl) ?_ _
        clear hHeld hcb4 hcb5
        have hset := HFS5.out.set H57.out (cl' := false) (HFS5.out.row.cut0)
        have HKQ6 : Hid (Kq O3 V3 O5 (put V5 bc (sesE bs (some ⟨bb, bo, none⟩) 0 c2 false))) := HKQ5.out.trans (Kq.fr hset.2 (fun l e => ⟨1, by omega, e⟩))
        have HFD6 : Hid (FD Ob Wb bs bc s buf false data O V da3 dn3 oa5 (on + 4 + rn) oc5 s4 O5 g4 (some ⟨bb, bo, none⟩) 0 c2 [] d3 (out1 ++ frm (encR' q)) (put V5 bc (sesE bs (some ⟨bb, bo, none⟩) 0 c2 false))) := by
          have hdt := HFE.out.dat
          refine ⟨hset.1, ⟨hdt.1, fun h0 => ?_, hdt.2.2⟩, fun h0 b o e => ?_, HR5.out.fr hset.2 (fun e => by have := (Lab.a.inj e).2; omega), HFE.out.kq.trans HKQ6.out, .inr inc_nil, .inr HFB0.out.2, ?_, ?_, fun o2 s2 b2 c2 h => ?_⟩
          · obtain ⟨b, o, C, e1, e2, e3, e4⟩ := hdt.2.1 h0
            exact ⟨b, o, C, e1, (HKQ6.out.blk e2 (.inl (HFE.out.dlab h0 b o e1))).1, e3, e4⟩
          · obtain ⟨b', o', C, e1, e2, e3, e4⟩ := hdt.2.1 h0
            have e9 := e
            rw [e1] at e
            have eb : b' = b := congrArg Addr.block (Option.some.inj e)
            subst eb
            have hl := HFE.out.dlab h0 _ o e9
            exact (HKQ6.out.blk e2 (.inl hl)).2.trans hl
          · have h1 := HFD.out.cnt
            have h2 := HSR.out.n196
            rw [h2]; omega
          · have h1 := HFD.out.ol
            have h2 := HOL.out
            omega
          · have hf := HFD.out.go _ _ _ _ (FdTo.full HD0.out HB3.out HNB.out HF0.out (by rw [← HFN.out]; exact HSR.out) (by rw [← HD3.out]; exact h))
            rw [List.append_assoc]
            exact hf
        have hcb5 := HFS5.out.cell
        have hfb5 := HFS5.out.fre
        clear hset
        go_wp2_with fail
        refine ⟨rfl, rfl, ⟨rfl, da3, dn3, dc3, oa5, on + 4 + rn, oc5, rfl, rfl, hdc3a, hdc3b, by omega, ⟨_, _, _, _, _, _, _, _, _, HFD6.out⟩⟩, ?_⟩
        show dn3 < slN (F 1)
        rw [H1.out]; exact hdnl
end Go.Proofs.Qxb6500787a
