import Derived.Test.Qxb6500787aYh
import Derived.StillTailTactics
import Derived.Deep.QuietTactic
import Derived.BigQuiet
import Derived.Deep.RegionHeld
import Derived.Deep.CutRange
import Derived.Laws.ResultCell
import Derived.Laws.Rows
import Derived.DeepKeys
import Derived.DataBytes
import Derived.Laws.StructEq
import Derived.Laws.AppendOwn
import Derived.Laws.MakeOwn
import Derived.Lib.AppendStr
set_option linter.unusedSimpArgs false
set_option linter.unusedVariables false
namespace Go.Proofs.Qxb6500787a
open Go.RowKit Go.Blk
attribute [local go_sem ↓] execOp_load execOp_store execOp_alloc
attribute [local go_sem] Try.ld26 Try.st26 Try.ld27 Try.st27 Try.ld28 Try.st28 Try.ld3 Try.st3 Try.ld29 Try.st29 Try.ld44 Try.st44 Try.ld4 Try.st4 Try.ld50 Try.st50 Try.ld32 Try.st32 Try.ld49 Try.st49 Try.ld68 Try.st68 Try.ld9 Try.st9 Try.ld40 Try.st40 Try.ld138 Try.st138 Try.ld139 Try.st139 Try.ld146 Try.st146 Try.ld183 Try.st183 Try.ld184 Try.st184 Try.ld192 Try.st192 Try.ld195 Try.st195 Try.ld217 Try.st217 Try.ld159 Try.st159 Try.ld142 Try.st142 Try.ld2 Try.st2 Try.ld5 Try.st5 Try.ld12 Try.st12 Try.ld21 Try.st21 Try.ld22 Try.st22 Try.ld24 Try.st24 Try.ld58 Try.st58 Try.ld63 Try.st63 Try.ld97 Try.st97 Try.ld101 Try.st101 Try.ld116 Try.st116 Try.ld121 Try.st121 Try.ld135 Try.st135 Try.ld136 Try.st136 Try.ld143 Try.st143 Try.ld148 Try.st148 Try.ld154 Try.st154 Try.ld173 Try.st173 Try.ld187 Try.st187 Try.ld222 Try.st222 Try.ld241 Try.st241 Try.ld248 Try.st248 Try.ld268 Try.st268 Try.ld272 Try.st272 Try.ld153 Try.st153 Try.ld255 Try.st255 Try.ld256 Try.st256 Try.ld129 Try.st129 Try.ld152 Try.st152 Try.ld31 Try.st31 Try.ld46 Try.st46 Try.ld52 Try.st52 Try.ld54 Try.st54 Try.ld60 Try.st60 Try.ld70 Try.st70 Try.ld74 Try.st74 Try.ld93 Try.st93 Try.ld119 Try.st119 Try.ld141 Try.st141 Try.ld151 Try.st151 Try.ld170 Try.st170 Try.ld186 Try.st186 Try.ld189 Try.st189 Try.ld194 Try.st194 Try.ld197 Try.st197 Try.ld219 Try.st219 Try.ld224 Try.st224 Try.ld230 Try.st230 Try.ld235 Try.st235 Try.ld243 Try.st243 Try.ld247 Try.st247 Try.ld252 Try.st252 Try.ld258 Try.st258 Try.al153 Try.al255 Try.al256 Try.al129 Try.al152 Try.al31 Try.al46 Try.al52 Try.al54 Try.al60 Try.al70 Try.al74 Try.al93 Try.al119 Try.al141 Try.al151 Try.al170 Try.al186 Try.al189 Try.al194 Try.al197 Try.al219 Try.al224 Try.al230 Try.al235 Try.al243 Try.al247 Try.al252 Try.al258
attribute [local go_sem] Request.length_enc Request.ok_enc Request.all_get Request.all_set Request.kind_get Request.kind_set Request.blob_get Request.blob_set Request.items_get Request.items_set Request.pred_get Request.pred_set Request.slots_get Request.slots_set Trace.length_enc Trace.ok_enc Trace.all_get Trace.all_set Trace.op_get Trace.op_set Trace.calls_get Trace.calls_set Item.length_enc Item.ok_enc Item.all_get Item.all_set Item.del_get Item.del_set Item.pred_get Item.pred_set Item.args_get Item.args_set Reply.length_enc Reply.ok_enc Reply.all_get Reply.all_set Reply.code_get Reply.code_set Reply.kind_get Reply.kind_set Reply.index_get Reply.index_set Reply.yes_get Reply.yes_set Reply.preds_get Reply.preds_set Reply.rules_get Reply.rules_set Reply.arity_get Reply.arity_set Reply.rows_get Reply.rows_set Reply.fact_get Reply.fact_set Reply.fact_del_get Reply.fact_del_set Reply.fact_pred_get Reply.fact_pred_set Reply.fact_args_get Reply.fact_args_set GEntry.length_enc GEntry.ok_enc GEntry.all_get GEntry.all_set GEntry.seq_get GEntry.seq_set GEntry.kind_get GEntry.kind_set GEntry.code_get GEntry.code_set GOp.length_enc GOp.ok_enc GOp.all_get GOp.all_set GOp.kind_get GOp.kind_set GOp.raw_get GOp.raw_set Reader.length_enc Reader.ok_enc Reader.all_get Reader.all_set Reader.buf_get Reader.buf_set Reader.at__get Reader.at__set Slot.length_enc Slot.ok_enc Slot.all_get Slot.all_set Slot.bound_get Slot.bound_set Slot.name_get Slot.name_set Session.length_enc Session.ok_enc Session.all_get Session.all_set Session.svc_get Session.svc_set Session.buf_get Session.buf_set Session.closed_get Session.closed_set GProgram.length_enc GProgram.ok_enc GProgram.all_get GProgram.all_set GProgram.pool_get GProgram.pool_set GProgram.preds_get GProgram.preds_set GProgram.rules_get GProgram.rules_set GProgram.strata_get GProgram.strata_set PredInfo.length_enc PredInfo.ok_enc PredInfo.all_get PredInfo.all_set PredInfo.arity_get PredInfo.arity_set PredInfo.base_get PredInfo.base_set PredInfo.stratum_get PredInfo.stratum_set Change.length_enc Change.ok_enc Change.all_get Change.all_set Change.del_get Change.del_set Change.pred_get Change.pred_set Change.t_get Change.t_set Store.length_enc Store.ok_enc Store.all_get Store.all_set Store.names_get Store.names_set Store.arity_get Store.arity_set Store.rows_get Store.rows_set Src.length_enc Src.ok_enc Src.all_get Src.all_set Src.b_get Src.b_set Src.at__get Src.at__set Atom.length_enc Atom.ok_enc Atom.all_get Atom.all_set Atom.pred_get Atom.pred_set Atom.args_get Atom.args_set GRule.length_enc GRule.ok_enc GRule.all_get GRule.all_set GRule.head_get GRule.head_set GRule.body_get GRule.body_set GRule.head_pred_get GRule.head_pred_set GRule.head_args_get GRule.head_args_set Cert.length_enc Cert.ok_enc Cert.all_get Cert.all_set Cert.names_get Cert.names_set Cert.nodes_get Cert.nodes_set Fact.length_enc Fact.ok_enc Fact.all_get Fact.all_set Fact.pred_get Fact.pred_set Fact.t_get Fact.t_set Literal.length_enc Literal.ok_enc Literal.all_get Literal.all_set Literal.neg_get Literal.neg_set Literal.atom_get Literal.atom_set Literal.atom_pred_get Literal.atom_pred_set Literal.atom_args_get Literal.atom_args_set Engine.length_enc Engine.ok_enc Engine.all_get Engine.all_set Engine.prog_get Engine.prog_set Engine.st_get Engine.st_set SrcCertm.length_enc SrcCertm.ok_enc SrcCertm.all_get SrcCertm.all_set SrcCertm.b_get SrcCertm.b_set SrcCertm.at__get SrcCertm.at__set GNode.length_enc GNode.ok_enc GNode.all_get GNode.all_set GNode.rule_get GNode.rule_set GNode.pred_get GNode.pred_set GNode.vals_get GNode.vals_set GNode.refs_get GNode.refs_set Term.length_enc Term.ok_enc Term.all_get Term.all_set Term.var_get Term.var_set Term.n_get Term.n_set Env.length_enc Env.ok_enc Env.all_get Env.all_set Env.val_get Env.val_set Env.set_get Env.set_set
attribute [local go_sem] size_put size_ext blk_put free_put blk_alloc free_alloc blk_drew free_drew blk_ext free_ext lookOr_some putOr_some segAt_some cellAt_some storeIn_some put_put put_alloc_new length_arr ok_arr_u8 ok_arr_u32 ok_arr_u64 ok_arr_i64 ok_arr_sl cellsV_agg cellsV_int cellsV_bool cellsV_string cellsV_pointer cellsV_slice cellsV_sl ok_int ok_bool ok_string ok_pointer ok_slice ok_sl toList_arr seg_arr set_arr nth_splice nth_splice0 seg_splice seg_splice0 splice_splice splice_splice0 length_splice_if
attribute [local go_sem ↓] execOp_box
attribute [local go_sem] box_run nth_arr_u8 put_arr_u8 blk_drewN free_drewN put_drewN blk_raw free_raw
theorem svR.n196 {s s' : Sv} {raw : List UInt8} {q : PRep} (h : svR s raw q s') : s'.rst 196 = s.rst 196 + 1 := by
  obtain ⟨s1, h, rfl⟩ := h
  have h1 : s1.rst 196 = s.rst 196 := by
    rcases h with ⟨-, -, rfl⟩ | ⟨-, h⟩
    · rfl
    · obtain ⟨co, -, e⟩ := h.rsu
      rw [e]
      unfold upR
      rw [if_neg (by omega)]
      rfl
  show trF (cntF s1.rst q.kind.toNat q.code.toNat) q.kind q.code 196 = _
  unfold trF
  rw [if_pos rfl, cntF_lo _ _ _ (by omega), h1]
/-- A request is at the front, but not all of it. -/
def Inc (buf : List UInt8) : Prop := buf.length < 4 ∨ buf.length < 4 + fld buf
/-- What the request at the front still lacks. -/
def wantN (buf : List UInt8) : Nat := if buf.length < 4 then 4 - buf.length else 4 + fld buf - buf.length
theorem inc_nil : Inc [] := .inl (by show 0 < 4; omega)
/-- Feed, plainly: service, buffer, closed; the piece; the output; then service, buffer, closed. -/
inductive FdTo : Sv → List UInt8 → Bool → List UInt8 → List UInt8 → Sv → List UInt8 → Bool → Prop
  | stop {s : Sv} {buf : List UInt8} {cl : Bool} {data : List UInt8} (h : data = [] ∨ cl = true) : FdTo s buf cl data [] s buf cl
  | part {s : Sv} {buf data b' out : List UInt8} {s' : Sv} {buf' : List UInt8} {cl' : Bool} (h0 : data ≠ []) (hb : b' = buf ++ data.take (wantN buf)) (h1 : ¬ (b'.length = 4 ∧ byt b' 0 ≠ 1)) (h2 : frmN b' = 0) (h : FdTo s b' false (data.drop (wantN buf)) out s' buf' cl') : FdTo s buf false data out s' buf' cl'
  | full {s : Sv} {buf data b' out : List UInt8} {q : PRep} {s1 s' : Sv} {buf' : List UInt8} {cl' : Bool} (h0 : data ≠ []) (hb : b' = buf ++ data.take (wantN buf)) (h1 : ¬ (b'.length = 4 ∧ byt b' 0 ≠ 1)) (h2 : frmN b' ≠ 0) (hs : svR s (b'.take (frmN b')) q s1) (h : FdTo s1 [] false (data.drop (wantN buf)) out s' buf' cl') : FdTo s buf false data (frm (encR' q) ++ out) s' buf' cl'
  | bad {s : Sv} {buf data b' : List UInt8} {q : PRep} {s1 : Sv} (h0 : data ≠ []) (hb : b' = buf ++ data.take (wantN buf)) (h1 : b'.length = 4 ∧ byt b' 0 ≠ 1) (hs : svR s b' q s1) : FdTo s buf false data (frm (encR' q)) s1 [] true
/-- Frames served one by one. -/
inductive Run : List (List UInt8) → Sv → Bool → List UInt8 → Prop
  | nil : Run [] Sv.zero true []
  | ok {Fs : List (List UInt8)} {s s' : Sv} {out raw : List UInt8} {q : PRep} (h : Run Fs s true out) (h1 : byt raw 0 = 1) (hs : svR s raw q s') : Run (Fs ++ [raw]) s' true (out ++ frm (encR' q))
  | bad {Fs : List (List UInt8)} {s s' : Sv} {out raw : List UInt8} {q : PRep} (h : Run Fs s true out) (h1 : byt raw 0 ≠ 1) (hs : svR s (raw.take 4) q s') : Run (Fs ++ [raw]) s' false (out ++ frm (encR' q))
  | shut {Fs : List (List UInt8)} {s : Sv} {out raw : List UInt8} (h : Run Fs s false out) : Run (Fs ++ [raw]) s false out
theorem Run.inv {L : List (List UInt8)} {s : Sv} {o : Bool} {out : List UInt8} (h : Run L s o out) : (L = [] ∧ s = Sv.zero ∧ o = true ∧ out = []) ∨ ∃ Fs raw, L = Fs ++ [raw] ∧ ((∃ s0 out0 q, Run Fs s0 true out0 ∧ byt raw 0 = 1 ∧ svR s0 raw q s ∧ o = true ∧ out = out0 ++ frm (encR' q)) ∨ (∃ s0 out0 q, Run Fs s0 true out0 ∧ byt raw 0 ≠ 1 ∧ svR s0 (raw.take 4) q s ∧ o = false ∧ out = out0 ++ frm (encR' q)) ∨ (Run Fs s false out ∧ o = false)) := by
  cases h with
  | nil => exact .inl ⟨rfl, rfl, rfl, rfl⟩
  | ok h h1 hs => exact .inr ⟨_, _, rfl, .inl ⟨_, _, _, h, h1, hs, rfl, rfl⟩⟩
  | bad h h1 hs => exact .inr ⟨_, _, rfl, .inr (.inl ⟨_, _, _, h, h1, hs, rfl, rfl⟩)⟩
  | shut h => exact .inr ⟨_, _, rfl, .inr (.inr ⟨h, rfl⟩)⟩
theorem snoc_inj {α : Type} {A B : List α} {x y : α} (h : A ++ [x] = B ++ [y]) : A = B ∧ x = y := by
  have := List.append_inj' h rfl
  exact ⟨this.1, by simpa using this.2⟩
theorem Run.det {L : List (List UInt8)} {s : Sv} {o : Bool} {out : List UInt8} (h : Run L s o out) : ∀ {s' : Sv} {o' : Bool} {out' : List UInt8}, Run L s' o' out' → s = s' ∧ o = o' ∧ out = out' := by
  induction h with
  | nil =>
    intro s' o' out' h'
    rcases h'.inv with ⟨-, h2, h3, h4⟩ | ⟨Fs, raw, e, -⟩
    · exact ⟨h2.symm, h3.symm, h4.symm⟩
    · exact absurd e (by simp)
  | ok h h1 hs ih =>
    intro s' o' out' h'
    rcases h'.inv with ⟨e, -⟩ | ⟨Fs, raw, e, hc⟩
    · exact absurd e (by simp)
    obtain ⟨e1, e2⟩ := snoc_inj e
    subst e1 e2
    rcases hc with ⟨s0, out0, q, g1, g2, g3, g4, g5⟩ | ⟨s0, out0, q, g1, g2, -⟩ | ⟨g1, -⟩
    · obtain ⟨e3, -, e4⟩ := ih g1
      subst e3 e4
      obtain ⟨e5, e6⟩ := hs.det g3
      subst e5 e6
      exact ⟨rfl, g4.symm, g5.symm⟩
    · exact absurd h1 g2
    · obtain ⟨-, e3, -⟩ := ih g1
      cases e3
  | bad h h1 hs ih =>
    intro s' o' out' h'
    rcases h'.inv with ⟨e, -⟩ | ⟨Fs, raw, e, hc⟩
    · exact absurd e (by simp)
    obtain ⟨e1, e2⟩ := snoc_inj e
    subst e1 e2
    rcases hc with ⟨s0, out0, q, g1, g2, -⟩ | ⟨s0, out0, q, g1, g2, g3, g4, g5⟩ | ⟨g1, -⟩
    · exact absurd g2 h1
    · obtain ⟨e3, -, e4⟩ := ih g1
      subst e3 e4
      obtain ⟨e5, e6⟩ := hs.det g3
      subst e5 e6
      exact ⟨rfl, g4.symm, g5.symm⟩
    · obtain ⟨-, e3, -⟩ := ih g1
      cases e3
  | shut h ih =>
    intro s' o' out' h'
    rcases h'.inv with ⟨e, -⟩ | ⟨Fs, raw, e, hc⟩
    · exact absurd e (by simp)
    obtain ⟨e1, e2⟩ := snoc_inj e
    subst e1 e2
    rcases hc with ⟨s0, out0, q, g1, -⟩ | ⟨s0, out0, q, g1, -⟩ | ⟨g1, g2⟩
    · obtain ⟨-, e3, -⟩ := ih g1
      cases e3
    · obtain ⟨-, e3, -⟩ := ih g1
      cases e3
    · obtain ⟨e3, e4, e5⟩ := ih g1
      exact ⟨e3, g2.symm, e5⟩
theorem Run.n196 {L : List (List UInt8)} {s : Sv} {o : Bool} {out : List UInt8} (h : Run L s o out) : 0 ≤ s.rst 196 ∧ s.rst 196 ≤ (L.length : Int) := by
  induction h with
  | nil => exact ⟨Int.le_refl _, Int.le_refl _⟩
  | ok h h1 hs ih => rw [hs.n196, List.length_append, List.length_singleton]; omega
  | bad h h1 hs ih => rw [hs.n196, List.length_append, List.length_singleton]; omega
  | shut h ih => rw [List.length_append, List.length_singleton]; omega
theorem Run.on {L : List (List UInt8)} {s : Sv} {out : List UInt8} (h : Run L s false out) : ∀ M, Run (L ++ M) s false out := by
  intro M
  induction M generalizing L with
  | nil => rw [List.append_nil]; exact h
  | cons x M ih =>
    have h1 := ih (Run.shut (raw := x) h)
    rw [List.append_assoc] at h1
    exact h1
/-- The session while the frames Fs come in; rest is what has not yet come. -/
def SI (Fs : List (List UInt8)) (rest : List UInt8) (s : Sv) (buf : List UInt8) (cl : Bool) (out : List UInt8) : Prop :=
  (cl = false ∧ ∃ j, j ≤ Fs.length ∧ Run (Fs.take j) s true out ∧ buf ++ rest = (Fs.drop j).flatten ∧ (∀ raw, Fs[j]? = some raw → buf.length < raw.length) ∧ (j = Fs.length → buf = []) ∧ (4 ≤ buf.length → byt buf 0 = 1)) ∨
  (cl = true ∧ buf = [] ∧ ∃ j, Run (Fs.take j) s false out)
theorem byt_take {xs : List UInt8} {n i : Nat} (h : i < n) : byt (xs.take n) i = byt xs i := by
  unfold byt
  rw [List.getD_eq_getElem?_getD, List.getD_eq_getElem?_getD, List.getElem?_take, if_pos h]
theorem fld_take {xs : List UInt8} {n : Nat} (h : 4 ≤ n) : fld (xs.take n) = fld xs := by
  unfold fld
  rw [byt_take (by omega), byt_take (by omega)]
/-- Where the buffer stands in its frame. -/
theorem SI.head {Fs : List (List UInt8)} (hF : ∀ raw ∈ Fs, raw.length = 4 + fld raw) {data more : List UInt8} (h0 : data ≠ []) {s : Sv} {buf out : List UInt8} (h : SI Fs (data ++ more) s buf false out) : ∃ j raw rest, Fs[j]? = some raw ∧ Fs.drop j = raw :: Fs.drop (j + 1) ∧ Run (Fs.take j) s true out ∧ raw.length = 4 + fld raw ∧ buf = raw.take buf.length ∧ buf.length < raw.length ∧ (4 ≤ buf.length → byt raw 0 = 1) ∧ data ++ more = raw.drop buf.length ++ rest ∧ rest = (Fs.drop (j + 1)).flatten := by
  rcases h with ⟨-, j, h1, h2, h3, h4, h5, h6⟩ | ⟨h, -⟩
  rotate_left 1
  · cases h
  have hj : j < Fs.length := by
    rcases Nat.lt_or_ge j Fs.length with h | h
    · exact h
    · rw [List.drop_eq_nil_of_le h] at h3
      have e : buf ++ (data ++ more) = [] := h3
      simp at e
      exact absurd e.2.1 h0
  obtain ⟨raw, hraw⟩ : ∃ raw, raw = Fs[j] := ⟨_, rfl⟩
  have hget : Fs[j]? = some raw := by rw [hraw]; exact List.getElem?_eq_getElem hj
  have hd : Fs.drop j = raw :: Fs.drop (j + 1) := by rw [hraw]; exact List.drop_eq_getElem_cons hj
  have hlt := h4 raw hget
  have hl := hF raw (List.mem_of_getElem? hget)
  rw [hd, List.flatten_cons] at h3
  have e1 : buf = raw.take buf.length := by
    have h7 := congrArg (List.take buf.length) h3
    rw [List.take_left, List.take_append_of_le_length (by omega)] at h7
    exact h7
  have e2 : data ++ more = raw.drop buf.length ++ (Fs.drop (j + 1)).flatten := by
    have h7 := congrArg (List.drop buf.length) h3
    rw [List.drop_left, List.drop_append_of_le_length (by omega)] at h7
    exact h7
  refine ⟨j, raw, _, hget, hd, h2, hl, e1, hlt, fun h => ?_, e2, rfl⟩
  have h8 := h6 h
  rw [e1, byt_take (by omega)] at h8
  exact h8
theorem want_le {raw buf : List UInt8} (hl : raw.length = 4 + fld raw) (hb : buf = raw.take buf.length) (hlt : buf.length < raw.length) : 0 < wantN buf ∧ buf.length + wantN buf ≤ raw.length ∧ (4 ≤ buf.length → buf.length + wantN buf = raw.length) ∧ (buf.length < 4 → buf.length + wantN buf = 4) := by
  unfold wantN
  by_cases h : buf.length < 4
  · rw [if_pos h]; omega
  · rw [if_neg h]
    have e : fld buf = fld raw := by rw [hb, fld_take (by omega)]
    rw [e]; omega
theorem SI.step {Fs : List (List UInt8)} (hF : ∀ raw ∈ Fs, raw.length = 4 + fld raw) {s : Sv} {buf : List UInt8} {cl : Bool} {data o : List UInt8} {s' : Sv} {buf' : List UInt8} {cl' : Bool} (h : FdTo s buf cl data o s' buf' cl') : ∀ {out more : List UInt8}, SI Fs (data ++ more) s buf cl out → SI Fs more s' buf' cl' (out ++ o) := by
  induction h with
  | stop h =>
    intro out more hS
    rw [List.append_nil]
    rcases h with rfl | rfl
    · exact hS
    · rcases hS with ⟨e, -⟩ | hS
      · cases e
      · exact .inr hS
  | @part s buf data b' o s' buf' cl' h0 hb h1 h2 h ih =>
    intro out more hS
    obtain ⟨j, raw, rest, g1, g2, g3, g4, g5, g6, g7, g8, g9⟩ := hS.head hF h0
    obtain ⟨w0, w1, w2, w3⟩ := want_le g4 g5 g6
    have hbr : b' = raw.take b'.length := by
      have e1 : data.take (wantN buf) = (raw.drop buf.length).take (data.take (wantN buf)).length := by
        have h9 := congrArg (List.take (data.take (wantN buf)).length) g8
        rw [List.take_append_of_le_length (by rw [List.length_take]; omega), List.take_append_of_le_length (by rw [List.length_take, List.length_drop]; omega)] at h9
        rw [← h9, List.length_take]
        rw [List.take_eq_take_iff]; omega
      have e2 : b'.length = buf.length + (data.take (wantN buf)).length := by rw [hb, List.length_append]
      rw [e2, List.take_add, ← g5, ← e1]
      exact hb
    have hbl : b'.length ≤ raw.length := by rw [hbr, List.length_take]; omega
    have hb4 : buf.length < 4 → b'.length ≤ 4 := fun h => by
      rw [hb, List.length_append, List.length_take]; have := w3 h; omega
    have hlt : b'.length < raw.length := by
      unfold frmN at h2
      by_cases h4 : b'.length < 4
      · omega
      · rw [if_neg h4] at h2
        have e : fld b' = fld raw := by rw [hbr, fld_take (by omega)]
        rw [e] at h2
        by_cases h5 : b'.length < 4 + fld raw
        · omega
        · rw [if_neg h5] at h2; omega
    have hv : 4 ≤ b'.length → byt b' 0 = 1 := fun h => by
      by_cases h5 : 4 ≤ buf.length
      · rw [hbr, byt_take (by omega)]; exact g7 h5
      · have e4 : b'.length = 4 := by have := hb4 (by omega); omega
        by_cases h6 : byt b' 0 = 1
        · exact h6
        · exact absurd ⟨e4, h6⟩ h1
    have hjl : j < Fs.length := (List.getElem?_eq_some_iff.1 g1).1
    refine ih (.inl ⟨rfl, j, by omega, g3, ?_, fun r hr => ?_, fun e => by omega, hv⟩)
    · rw [hb, List.append_assoc, ← List.append_assoc (data.take _), List.take_append_drop, g8, g2, List.flatten_cons, g9, ← List.append_assoc]
      congr 1
      conv => lhs; arg 1; rw [g5]
      exact List.take_append_drop _ _
    · rw [g1] at hr
      have e := Option.some.inj hr
      subst e
      exact hlt
  | @full s buf data b' o q s1 s' buf' cl' h0 hb h1 h2 hs h ih =>
    intro out more hS
    obtain ⟨j, raw, rest, g1, g2, g3, g4, g5, g6, g7, g8, g9⟩ := hS.head hF h0
    obtain ⟨w0, w1, w2, w3⟩ := want_le g4 g5 g6
    have e1 : data.take (wantN buf) = (raw.drop buf.length).take (data.take (wantN buf)).length := by
      have h9 := congrArg (List.take (data.take (wantN buf)).length) g8
      rw [List.take_append_of_le_length (by rw [List.length_take]; omega), List.take_append_of_le_length (by rw [List.length_take, List.length_drop]; omega)] at h9
      rw [← h9, List.length_take]
      rw [List.take_eq_take_iff]; omega
    have e2 : b'.length = buf.length + (data.take (wantN buf)).length := by rw [hb, List.length_append]
    have hbr : b' = raw.take b'.length := by
      rw [e2, List.take_add, ← g5, ← e1]
      exact hb
    have hbl : b'.length ≤ raw.length := by rw [hbr, List.length_take]; omega
    have h4 : ¬ b'.length < 4 := fun h => h2 (by unfold frmN; rw [if_pos h])
    have ef : fld b' = fld raw := by rw [hbr, fld_take (by omega)]
    have h5 : ¬ b'.length < 4 + fld raw := fun h => h2 (by unfold frmN; rw [if_neg h4, ef, if_pos h])
    have hfn : frmN b' = raw.length := by unfold frmN; rw [if_neg h4, ef, if_neg h5]; omega
    have hl : b'.length = raw.length := by omega
    have hbe : b' = raw := by rw [hbr, hl, List.take_of_length_le (Nat.le_refl _)]
    rw [hfn, hbe, List.take_of_length_le (Nat.le_refl _)] at hs
    have hv : byt raw 0 = 1 := by
      by_cases h6 : 4 ≤ buf.length
      · exact g7 h6
      · have e4 : b'.length = 4 := by
          have := w3 (by omega)
          rw [e2, List.length_take] at *
          omega
        by_cases h7 : byt b' 0 = 1
        · rw [← hbe]; exact h7
        · exact absurd ⟨e4, h7⟩ h1
    have hjl : j < Fs.length := (List.getElem?_eq_some_iff.1 g1).1
    have htk : Fs.take (j + 1) = Fs.take j ++ [raw] := by
      rw [List.take_add_one, g1]; rfl
    have hR := Run.ok g3 hv hs
    rw [← htk] at hR
    rw [← List.append_assoc]
    refine ih (.inl ⟨rfl, j + 1, by omega, hR, ?_, fun r hr => ?_, fun _ => rfl, fun h => by have h9 : 4 ≤ 0 := h; omega⟩)
    · rw [List.nil_append, ← g9]
      have h9 := congrArg (List.drop (wantN buf)) g8
      have hdl : (data.take (wantN buf)).length = raw.length - buf.length := by omega
      rw [List.length_take] at hdl
      have hw : wantN buf = raw.length - buf.length := by omega
      have hz : (raw.drop buf.length).drop (wantN buf) = [] := List.drop_eq_nil_of_le (by rw [List.length_drop]; omega)
      rw [List.drop_append_of_le_length (by omega), List.drop_append_of_le_length (by rw [List.length_drop]; omega), hz, List.nil_append] at h9
      exact h9
    · have := hF r (List.mem_of_getElem? hr)
      show 0 < r.length
      omega
  | @bad s buf data b' q s1 h0 hb h1 hs =>
    intro out more hS
    obtain ⟨j, raw, rest, g1, g2, g3, g4, g5, g6, g7, g8, g9⟩ := hS.head hF h0
    obtain ⟨w0, w1, w2, w3⟩ := want_le g4 g5 g6
    have e1 : data.take (wantN buf) = (raw.drop buf.length).take (data.take (wantN buf)).length := by
      have h9 := congrArg (List.take (data.take (wantN buf)).length) g8
      rw [List.take_append_of_le_length (by rw [List.length_take]; omega), List.take_append_of_le_length (by rw [List.length_take, List.length_drop]; omega)] at h9
      rw [← h9, List.length_take]
      rw [List.take_eq_take_iff]; omega
    have e2 : b'.length = buf.length + (data.take (wantN buf)).length := by rw [hb, List.length_append]
    have hbr : b' = raw.take b'.length := by
      rw [e2, List.take_add, ← g5, ← e1]
      exact hb
    rw [h1.1] at hbr
    rw [hbr] at hs
    have hv : byt raw 0 ≠ 1 := by
      have h9 := h1.2
      rw [hbr, byt_take (by omega)] at h9
      exact h9
    have hR := Run.bad g3 hv hs
    have htk : Fs.take (j + 1) = Fs.take j ++ [raw] := by
      rw [List.take_add_one, g1]; rfl
    rw [← htk] at hR
    exact .inr ⟨rfl, rfl, j + 1, hR⟩
theorem SI.end {Fs : List (List UInt8)} (hF : ∀ raw ∈ Fs, raw.length = 4 + fld raw) {s : Sv} {buf : List UInt8} {cl : Bool} {out : List UInt8} (h : SI Fs [] s buf cl out) {t : Sv} {op : Bool} {want : List UInt8} (hR : Run Fs t op want) : want = out ∧ cl = !op ∧ buf = [] := by
  rcases h with ⟨rfl, j, h1, h2, h3, h4, h5, h6⟩ | ⟨rfl, hb, j, h2⟩
  · have hj : j = Fs.length := by
      rcases Nat.lt_or_ge j Fs.length with h | h
      · have hd : Fs.drop j = Fs[j] :: Fs.drop (j + 1) := List.drop_eq_getElem_cons h
        have h7 := h4 _ (List.getElem?_eq_getElem h)
        rw [hd, List.flatten_cons, List.append_nil] at h3
        have h8 := congrArg List.length h3
        rw [List.length_append] at h8
        omega
      · omega
    rw [hj, List.take_of_length_le (Nat.le_refl _)] at h2
    obtain ⟨-, e1, e2⟩ := hR.det h2
    rw [e1]
    exact ⟨e2, rfl, h5 hj⟩
  · have h3 := h2.on (Fs.drop j)
    rw [List.take_append_drop] at h3
    obtain ⟨-, e1, e2⟩ := hR.det h3
    rw [e1]
    exact ⟨e2, rfl, hb⟩
theorem SI.zero (Fs : List (List UInt8)) (hF : ∀ raw ∈ Fs, raw.length = 4 + fld raw) : SI Fs Fs.flatten Sv.zero [] false [] := by
  refine .inl ⟨rfl, 0, Nat.zero_le _, Run.nil, rfl, fun raw hr => ?_, fun _ => rfl, fun h => by have h9 : 4 ≤ 0 := h; omega⟩
  have := hF raw (List.mem_of_getElem? hr)
  show 0 < raw.length
  omega
theorem SI.n196 {Fs : List (List UInt8)} {rest : List UInt8} {s : Sv} {buf : List UInt8} {cl : Bool} {out : List UInt8} (h : SI Fs rest s buf cl out) : 0 ≤ s.rst 196 ∧ s.rst 196 ≤ (Fs.length : Int) := by
  rcases h with ⟨-, j, -, h2, -⟩ | ⟨-, -, j, h2⟩ <;> (have h3 := h2.n196; rw [List.length_take] at h3; omega)
theorem SI.inc {Fs : List (List UInt8)} (hF : ∀ raw ∈ Fs, raw.length = 4 + fld raw) {rest : List UInt8} {s : Sv} {buf : List UInt8} {cl : Bool} {out : List UInt8} (h : SI Fs rest s buf cl out) : cl = true ∨ Inc buf := by
  rcases h with ⟨-, j, h1, h2, h3, h4, h5, h6⟩ | ⟨h, -⟩
  · right
    rcases Nat.lt_or_ge j Fs.length with h | h
    · have hd : Fs.drop j = Fs[j] :: Fs.drop (j + 1) := List.drop_eq_getElem_cons h
      have h7 := h4 _ (List.getElem?_eq_getElem h)
      have h8 := hF _ (List.getElem_mem h)
      by_cases h9 : buf.length < 4
      · exact .inl h9
      · right
        rw [hd, List.flatten_cons] at h3
        have e1 : buf = Fs[j].take buf.length := by
          have h7' := congrArg (List.take buf.length) h3
          rw [List.take_left, List.take_append_of_le_length (by omega)] at h7'
          exact h7'
        have e : fld buf = fld Fs[j] := by
          conv => lhs; rw [e1]
          exact fld_take (by omega)
        omega
    · rw [h5 (by omega)]; exact inc_nil
  · exact .inl h
end Go.Proofs.Qxb6500787a
