import Derived.Test.Qxb6500787aGreatGl

import Derived.StillTailTactics
import Derived.Deep.QuietTactic
import Derived.BigQuiet
import Derived.Deep.RegionHeld
import Derived.Deep.CutRange
import Derived.Laws.ResultCell
import Derived.Laws.Rows
import Derived.DeepKeys
import Derived.DataBytes
import Derived.Laws.StructEq
import Derived.Laws.AppendOwn
import Derived.Laws.MakeOwn
import Derived.Lib.AppendStr
set_option linter.unusedSimpArgs false
set_option linter.unusedVariables false
namespace Go.Proofs.Qxb6500787aGreat
open Go.RowKit Go.Blk
attribute [local go_sem ↓] execOp_load execOp_store execOp_alloc
attribute [local go_sem] Tryz.ld26 Tryz.st26 Tryz.ld27 Tryz.st27 Tryz.ld28 Tryz.st28 Tryz.ld3 Tryz.st3 Tryz.ld29 Tryz.st29 Tryz.ld44 Tryz.st44 Tryz.ld4 Tryz.st4 Tryz.ld50 Tryz.st50 Tryz.ld32 Tryz.st32 Tryz.ld49 Tryz.st49 Tryz.ld68 Tryz.st68 Tryz.ld9 Tryz.st9 Tryz.ld40 Tryz.st40 Tryz.ld138 Tryz.st138 Tryz.ld139 Tryz.st139 Tryz.ld146 Tryz.st146 Tryz.ld183 Tryz.st183 Tryz.ld184 Tryz.st184 Tryz.ld192 Tryz.st192 Tryz.ld195 Tryz.st195 Tryz.ld217 Tryz.st217 Tryz.ld159 Tryz.st159 Tryz.ld142 Tryz.st142 Tryz.ld2 Tryz.st2 Tryz.ld5 Tryz.st5 Tryz.ld12 Tryz.st12 Tryz.ld21 Tryz.st21 Tryz.ld22 Tryz.st22 Tryz.ld24 Tryz.st24 Tryz.ld58 Tryz.st58 Tryz.ld97 Tryz.st97 Tryz.ld101 Tryz.st101 Tryz.ld116 Tryz.st116 Tryz.ld121 Tryz.st121 Tryz.ld135 Tryz.st135 Tryz.ld136 Tryz.st136 Tryz.ld143 Tryz.st143 Tryz.ld148 Tryz.st148 Tryz.ld154 Tryz.st154 Tryz.ld173 Tryz.st173 Tryz.ld187 Tryz.st187 Tryz.ld222 Tryz.st222 Tryz.ld241 Tryz.st241 Tryz.ld248 Tryz.st248 Tryz.ld268 Tryz.st268 Tryz.ld272 Tryz.st272 Tryz.ld153 Tryz.st153 Tryz.ld255 Tryz.st255 Tryz.ld256 Tryz.st256 Tryz.ld129 Tryz.st129 Tryz.ld152 Tryz.st152 Tryz.ld31 Tryz.st31 Tryz.ld46 Tryz.st46 Tryz.ld52 Tryz.st52 Tryz.ld54 Tryz.st54 Tryz.ld60 Tryz.st60 Tryz.ld70 Tryz.st70 Tryz.ld74 Tryz.st74 Tryz.ld93 Tryz.st93 Tryz.ld141 Tryz.st141 Tryz.ld151 Tryz.st151 Tryz.ld170 Tryz.st170 Tryz.ld186 Tryz.st186 Tryz.ld189 Tryz.st189 Tryz.ld194 Tryz.st194 Tryz.ld197 Tryz.st197 Tryz.ld219 Tryz.st219 Tryz.ld224 Tryz.st224 Tryz.ld230 Tryz.st230 Tryz.ld235 Tryz.st235 Tryz.ld243 Tryz.st243 Tryz.ld247 Tryz.st247 Tryz.ld252 Tryz.st252 Tryz.ld258 Tryz.st258 Tryz.al153 Tryz.al255 Tryz.al256 Tryz.al129 Tryz.al152 Tryz.al31 Tryz.al46 Tryz.al52 Tryz.al54 Tryz.al60 Tryz.al70 Tryz.al74 Tryz.al93 Tryz.al141 Tryz.al151 Tryz.al170 Tryz.al186 Tryz.al189 Tryz.al194 Tryz.al197 Tryz.al219 Tryz.al224 Tryz.al230 Tryz.al235 Tryz.al243 Tryz.al247 Tryz.al252 Tryz.al258
attribute [local go_sem] Request.length_enc Request.ok_enc Request.all_get Request.all_set Request.kind_get Request.kind_set Request.blob_get Request.blob_set Request.items_get Request.items_set Request.pred_get Request.pred_set Request.slots_get Request.slots_set Trace.length_enc Trace.ok_enc Trace.all_get Trace.all_set Trace.op_get Trace.op_set Trace.calls_get Trace.calls_set Item.length_enc Item.ok_enc Item.all_get Item.all_set Item.del_get Item.del_set Item.pred_get Item.pred_set Item.args_get Item.args_set Reply.length_enc Reply.ok_enc Reply.all_get Reply.all_set Reply.code_get Reply.code_set Reply.kind_get Reply.kind_set Reply.index_get Reply.index_set Reply.yes_get Reply.yes_set Reply.preds_get Reply.preds_set Reply.rules_get Reply.rules_set Reply.arity_get Reply.arity_set Reply.rows_get Reply.rows_set Reply.fact_get Reply.fact_set Reply.fact_del_get Reply.fact_del_set Reply.fact_pred_get Reply.fact_pred_set Reply.fact_args_get Reply.fact_args_set GEntry.length_enc GEntry.ok_enc GEntry.all_get GEntry.all_set GEntry.seq_get GEntry.seq_set GEntry.kind_get GEntry.kind_set GEntry.code_get GEntry.code_set GOp.length_enc GOp.ok_enc GOp.all_get GOp.all_set GOp.kind_get GOp.kind_set GOp.raw_get GOp.raw_set Reader.length_enc Reader.ok_enc Reader.all_get Reader.all_set Reader.buf_get Reader.buf_set Reader.at__get Reader.at__set Slot.length_enc Slot.ok_enc Slot.all_get Slot.all_set Slot.bound_get Slot.bound_set Slot.name_get Slot.name_set Session.length_enc Session.ok_enc Session.all_get Session.all_set Session.svc_get Session.svc_set Session.buf_get Session.buf_set Session.closed_get Session.closed_set GProgram.length_enc GProgram.ok_enc GProgram.all_get GProgram.all_set GProgram.pool_get GProgram.pool_set GProgram.preds_get GProgram.preds_set GProgram.rules_get GProgram.rules_set GProgram.strata_get GProgram.strata_set PredInfo.length_enc PredInfo.ok_enc PredInfo.all_get PredInfo.all_set PredInfo.arity_get PredInfo.arity_set PredInfo.base_get PredInfo.base_set PredInfo.stratum_get PredInfo.stratum_set Change.length_enc Change.ok_enc Change.all_get Change.all_set Change.del_get Change.del_set Change.pred_get Change.pred_set Change.t_get Change.t_set Store.length_enc Store.ok_enc Store.all_get Store.all_set Store.names_get Store.names_set Store.arity_get Store.arity_set Store.rows_get Store.rows_set Src.length_enc Src.ok_enc Src.all_get Src.all_set Src.b_get Src.b_set Src.at__get Src.at__set Atom.length_enc Atom.ok_enc Atom.all_get Atom.all_set Atom.pred_get Atom.pred_set Atom.args_get Atom.args_set GRule.length_enc GRule.ok_enc GRule.all_get GRule.all_set GRule.head_get GRule.head_set GRule.body_get GRule.body_set GRule.head_pred_get GRule.head_pred_set GRule.head_args_get GRule.head_args_set Cert.length_enc Cert.ok_enc Cert.all_get Cert.all_set Cert.names_get Cert.names_set Cert.nodes_get Cert.nodes_set Fact.length_enc Fact.ok_enc Fact.all_get Fact.all_set Fact.pred_get Fact.pred_set Fact.t_get Fact.t_set Literal.length_enc Literal.ok_enc Literal.all_get Literal.all_set Literal.neg_get Literal.neg_set Literal.atom_get Literal.atom_set Literal.atom_pred_get Literal.atom_pred_set Literal.atom_args_get Literal.atom_args_set Engine.length_enc Engine.ok_enc Engine.all_get Engine.all_set Engine.prog_get Engine.prog_set Engine.st_get Engine.st_set SrcCertm.length_enc SrcCertm.ok_enc SrcCertm.all_get SrcCertm.all_set SrcCertm.b_get SrcCertm.b_set SrcCertm.at__get SrcCertm.at__set GNode.length_enc GNode.ok_enc GNode.all_get GNode.all_set GNode.rule_get GNode.rule_set GNode.pred_get GNode.pred_set GNode.vals_get GNode.vals_set GNode.refs_get GNode.refs_set Term.length_enc Term.ok_enc Term.all_get Term.all_set Term.var_get Term.var_set Term.n_get Term.n_set Env.length_enc Env.ok_enc Env.all_get Env.all_set Env.val_get Env.val_set Env.set_get Env.set_set
attribute [local go_sem] size_put size_ext blk_put free_put blk_alloc free_alloc blk_drew free_drew blk_ext free_ext lookOr_some putOr_some segAt_some cellAt_some storeIn_some put_put put_alloc_new length_arr ok_arr_u8 ok_arr_u32 ok_arr_u64 ok_arr_i64 ok_arr_sl cellsV_agg cellsV_int cellsV_bool cellsV_string cellsV_pointer cellsV_slice cellsV_sl ok_int ok_bool ok_string ok_pointer ok_slice ok_sl toList_arr seg_arr set_arr nth_splice nth_splice0 seg_splice seg_splice0 splice_splice splice_splice0 length_splice_if
attribute [local go_sem ↓] execOp_box
attribute [local go_sem] box_run nth_arr_u8 put_arr_u8 blk_drewN free_drewN put_drewN blk_raw free_raw
/-- A premise is provided for. -/
def PmO (p : PP) (T : List NStep) (u : NStep) (X : NX) (z : PL) : Prop := z.neg = false → ((pI p z.atom.pred).base = false → ∃ k : Nat, plcF T z.atom.pred (instF p.pool u.vals z.atom) = (k : Int) ∧ X.1.getD k false = true) ∧ ((pI p z.atom.pred).base = true → ∃ (m : Nat) (v : NStep), X.2[m]? = some v ∧ v.pred = z.atom.pred ∧ v.row = instF p.pool u.vals z.atom)
/-- More is needed, but nothing from place i on. -/
structure NMo (Lf : NStep → Prop) (i : Nat) (X Y : NX) : Prop where
  len : Y.1.length = X.1.length
  up : ∀ k, X.1.getD k false = true → Y.1.getD k false = true
  hi : ∀ k, i ≤ k → Y.1.getD k false = true → X.1.getD k false = true
  lv : X.2 <+: Y.2
  lf : (∀ s ∈ X.2, Lf s) → ∀ s ∈ Y.2, Lf s
theorem NMo.refl (Lf : NStep → Prop) (i : Nat) (X : NX) : NMo Lf i X X := ⟨rfl, fun _ h => h, fun _ _ h => h, List.prefix_refl _, fun h => h⟩
theorem NMo.trans {Lf : NStep → Prop} {i : Nat} {X Y Z : NX} (h : NMo Lf i X Y) (h' : NMo Lf i Y Z) : NMo Lf i X Z := ⟨h'.len.trans h.len, fun k e => h'.up k (h.up k e), fun k hk e => h.hi k hk (h'.hi k hk e), h.lv.trans h'.lv, fun e => h'.lf (h.lf e)⟩
theorem PmO.mono {p : PP} {T : List NStep} {u : NStep} {Lf : NStep → Prop} {i : Nat} {X Y : NX} (h : NMo Lf i X Y) {z : PL} (hz : PmO p T u X z) : PmO p T u Y z := fun hn => ⟨fun hb => by
    obtain ⟨k, h1, h2⟩ := (hz hn).1 hb
    exact ⟨k, h1, h.up k h2⟩, fun hb => by
    obtain ⟨m, v, h1, h2⟩ := (hz hn).2 hb
    obtain ⟨E, hE⟩ := h.lv
    exact ⟨m, v, by rw [← hE, List.getElem?_append_left (List.getElem?_eq_some_iff.1 h1).1]; exact h1, h2⟩⟩
theorem getD_setT {L : List Bool} {k j : Nat} : (L.set k true).getD j false = true → j = k ∨ L.getD j false = true := fun h => by
  rw [List.getD_eq_getElem?_getD, List.getElem?_set] at h
  split at h
  · rename_i e; exact .inl e.symm
  · right; rw [List.getD_eq_getElem?_getD]; exact h
theorem getD_setS {L : List Bool} {k : Nat} (hk : k < L.length) : (L.set k true).getD k false = true := by
  rw [List.getD_eq_getElem?_getD, List.getElem?_set, if_pos rfl, if_pos hk]; rfl
theorem ndZ_mo {p : PP} {T : List NStep} {u : NStep} {Lf : NStep → Prop} {i : Nat} {X : NX} {z : PL} (hT : X.1.length = T.length) (hiT : i < T.length) (hz : z.neg = false → ((pI p z.atom.pred).base = false → ∃ k : Nat, plcF T z.atom.pred (instF p.pool u.vals z.atom) = (k : Int) ∧ k < i) ∧ ((pI p z.atom.pred).base = true → Lf ⟨z.atom.pred, instF p.pool u.vals z.atom, 0, []⟩)) : NMo Lf i X (ndZ p T u X z) ∧ PmO p T u (ndZ p T u X z) z := by
  unfold ndZ
  cases hn : z.neg with
  | true => rw [if_pos rfl]; exact ⟨NMo.refl _ _ _, fun e => by rw [hn] at e; cases e⟩
  | false =>
    rw [if_neg (by decide)]
    obtain ⟨z1, z2⟩ := hz hn
    cases hb : (pI p z.atom.pred).base with
    | false =>
      rw [if_pos rfl]
      obtain ⟨k, hk, hki⟩ := z1 hb
      rw [hk, Int.toNat_natCast]
      refine ⟨⟨List.length_set, fun j hj => ?_, fun j hj hh => ?_, List.prefix_refl _, fun h => h⟩, fun _ => ⟨fun _ => ⟨k, hk, getD_setS (by omega)⟩, fun e => by rw [hb] at e; cases e⟩⟩
      · by_cases e : j = k
        · subst e; exact getD_setS (by omega)
        · show (X.1.set k true).getD j false = true
          rw [List.getD_eq_getElem?_getD, List.getElem?_set, if_neg (fun h9 => e h9.symm), ← List.getD_eq_getElem?_getD]; exact hj
      · rcases getD_setT hh with e | e
        · omega
        · exact e
    | true =>
      rw [if_neg (by decide)]
      rcases plc_cases X.2 z.atom.pred (instF p.pool u.vals z.atom) with ⟨e1, -⟩ | ⟨m, v, e1, e2, e3, e4, -⟩
      · rw [if_pos (by rw [e1]; decide)]
        refine ⟨⟨rfl, fun j hj => hj, fun j _ hj => hj, List.prefix_append _ _, fun h s hs => ?_⟩, fun _ => ⟨fun e => (by rw [hb] at e; cases e), fun _ => ⟨X.2.length, _, List.getElem?_concat_length, rfl, rfl⟩⟩⟩
        rcases List.mem_append.1 hs with h1 | h1
        · exact h s h1
        · rw [List.mem_singleton.1 h1]; exact z2 hb
      · rw [if_neg (by omega)]
        exact ⟨NMo.refl _ _ _, fun _ => ⟨fun e => (by rw [hb] at e; cases e), fun _ => ⟨m, v, e2, e3, e4⟩⟩⟩
theorem ndF_mo {p : PP} {T : List NStep} {u : NStep} {Lf : NStep → Prop} {i : Nat} (hiT : i < T.length) : ∀ (Z : List PL) (X : NX), X.1.length = T.length → (∀ z ∈ Z, z.neg = false → ((pI p z.atom.pred).base = false → ∃ k : Nat, plcF T z.atom.pred (instF p.pool u.vals z.atom) = (k : Int) ∧ k < i) ∧ ((pI p z.atom.pred).base = true → Lf ⟨z.atom.pred, instF p.pool u.vals z.atom, 0, []⟩)) → NMo Lf i X (Z.foldl (ndZ p T u) X) ∧ ∀ z ∈ Z, PmO p T u (Z.foldl (ndZ p T u) X) z
  | [], X, _, _ => ⟨NMo.refl _ _ _, fun z hz => by cases hz⟩
  | z :: Z, X, hl, h => by
    obtain ⟨h1, h2⟩ := ndZ_mo (p := p) (T := T) (u := u) (Lf := Lf) hl hiT (h z List.mem_cons_self)
    obtain ⟨h3, h4⟩ := ndF_mo hiT Z (ndZ p T u X z) (h1.len.trans hl) (fun y hy => h y (List.mem_cons_of_mem _ hy))
    rw [List.foldl_cons]
    refine ⟨h1.trans h3, fun y hy => ?_⟩
    rcases List.mem_cons.1 hy with rfl | hy
    · exact h2.mono h3
    · exact h4 y hy
/-- What the steps rest on, plainly. -/
def TRest (p : PP) (Lf : NStep → Prop) (T : List NStep) : Prop := ∀ (i : Nat) (u : NStep), T[i]? = some u → ∀ z ∈ bodyOf p u, z.neg = false → ((pI p z.atom.pred).base = false → ∃ k : Nat, plcF T z.atom.pred (instF p.pool u.vals z.atom) = (k : Int) ∧ k < i) ∧ ((pI p z.atom.pred).base = true → Lf ⟨z.atom.pred, instF p.pool u.vals z.atom, 0, []⟩)
structure NdIv (p : PP) (Lf : NStep → Prop) (T : List NStep) (top i : Nat) (X : NX) : Prop where
  len : X.1.length = T.length
  top : ∀ j, X.1.getD j false = true → j ≤ top
  lf : ∀ s ∈ X.2, Lf s
  cl : ∀ (j : Nat) (u : NStep), i ≤ j → T[j]? = some u → X.1.getD j false = true → ∀ z ∈ bodyOf p u, PmO p T u X z
theorem ndL_iv {p : PP} {Lf : NStep → Prop} {T : List NStep} (hT : TRest p Lf T) {top : Nat} : ∀ (i : Nat) (X : NX), i ≤ T.length → NdIv p Lf T top i X → NdIv p Lf T top 0 (ndL p T i X) ∧ (∀ k, X.1.getD k false = true → (ndL p T i X).1.getD k false = true) ∧ X.2 <+: (ndL p T i X).2
  | 0, X, _, h => ⟨h, fun _ e => e, List.prefix_refl _⟩
  | i + 1, X, hi, h => by
    have hil : i < T.length := by omega
    have hu : T[i]? = some T[i] := List.getElem?_eq_getElem hil
    rw [ndL_succ hu]
    have hm : NMo Lf i X (ndI p T i T[i] X) ∧ (X.1.getD i false = true → ∀ z ∈ bodyOf p T[i], PmO p T T[i] (ndI p T i T[i] X) z) := by
      unfold ndI
      by_cases hn : X.1.getD i false = true
      · rw [if_pos hn]
        have h9 := ndF_mo (p := p) (T := T) (u := T[i]) (Lf := Lf) hil (bodyOf p T[i]) X h.len (hT i _ hu)
        exact ⟨h9.1, fun _ => h9.2⟩
      · rw [if_neg hn]
        exact ⟨NMo.refl _ _ _, fun e => absurd e hn⟩
    obtain ⟨m1, m2⟩ := hm
    have hiv : NdIv p Lf T top i (ndI p T i T[i] X) := by
      refine ⟨m1.len.trans h.len, fun j hj => ?_, m1.lf h.lf, fun j u hj hu' hn z hz => ?_⟩
      · by_cases hji : i ≤ j
        · exact h.top j (m1.hi j hji hj)
        · by_cases hn : X.1.getD i false = true
          · have := h.top i hn; omega
          · have e : ndI p T i T[i] X = X := by unfold ndI; rw [if_neg hn]
            rw [e] at hj
            exact h.top j hj
      · have hn' := m1.hi j hj hn
        by_cases e : j = i
        · subst e
          rw [hu] at hu'
          obtain rfl := Option.some.inj hu'
          exact m2 hn' z hz
        · exact (h.cl j u (by omega) hu' hn' z hz).mono m1
    obtain ⟨r1, r2, r3⟩ := ndL_iv hT i _ (by omega) hiv
    exact ⟨r1, fun k e => r2 k (m1.up k e), m1.lv.trans r3⟩
/-- The needed steps, one after the other. -/
structure RuIv (p : PP) (Lf : NStep → Prop) (Rl : List NStep → NStep → Prop) (Nm : List UInt8 → Prop) (T Ls : List NStep) (need : List Bool) (top n : Nat) (X : CC × List NStep) : Prop where
  cx : CxI p Lf Rl Nm X.1 X.2
  lv : Ls <+: X.2
  has : ∀ (j : Nat) (u : NStep), j < n → T[j]? = some u → need.getD j false = true → ∃ m : Nat, X.2[m]? = some u
  last : ∀ u, T[top]? = some u → need.getD top false = true → top < n → ∃ E, X.2 = E ++ [u]
theorem ru_iv {p : PP} {Lf : NStep → Prop} {Rl : List NStep → NStep → Prop} {Nm : List UInt8 → Prop} {T Ls : List NStep} {need : List Bool} {top : Nat} (hI : NdIv p Lf T top 0 (need, Ls)) (hrest : TRest p Lf T) (hnm : ∀ u ∈ T, ∀ y ∈ u.vals, Nm y) (hRl : ∀ (i : Nat) (u : NStep) (D : List NStep), T[i]? = some u → (∀ z ∈ bodyOf p u, z.neg = false → ∃ (j : Nat) (v : NStep), D[j]? = some v ∧ v.pred = z.atom.pred ∧ v.row = instF p.pool u.vals z.atom) → Rl D u) {X0 : CC} (h0 : CxI p Lf Rl Nm X0 Ls) : ∀ n, n ≤ T.length → RuIv p Lf Rl Nm T Ls need top n (ruN p T need n (X0, Ls))
  | 0, _ => ⟨h0, List.prefix_refl _, fun j u hj => by omega, fun u _ _ hj => by omega⟩
  | n + 1, hn => by
    have ih := ru_iv hI hrest hnm hRl h0 n (by omega)
    have hnl : n < T.length := by omega
    have hu : T[n]? = some T[n] := List.getElem?_eq_getElem hnl
    rw [ruN_succ]
    have e0 : ruI p T need (ruN p T need n (X0, Ls)) n = if need.getD n false = true then ruS p (ruN p T need n (X0, Ls)) T[n] else ruN p T need n (X0, Ls) := by
      show (match T[n]? with | some u => if need.getD n false = true then ruS p (ruN p T need n (X0, Ls)) u else ruN p T need n (X0, Ls) | none => ruN p T need n (X0, Ls)) = _
      rw [hu]
    rw [e0]
    by_cases hd : need.getD n false = true
    · rw [if_pos hd]
      have hpm : ∀ z ∈ bodyOf p T[n], z.neg = false → ∃ (j : Nat) (v : NStep), (ruN p T need n (X0, Ls)).2[j]? = some v ∧ v.pred = z.atom.pred ∧ v.row = instF p.pool T[n].vals z.atom := fun z hz hzn => by
        have h1 := hI.cl n T[n] (Nat.zero_le _) hu hd z hz hzn
        cases hb : (pI p z.atom.pred).base with
        | true =>
          obtain ⟨m, v, e1, e2, e3⟩ := h1.2 hb
          obtain ⟨E, hE⟩ := ih.lv
          exact ⟨m, v, by rw [← hE, List.getElem?_append_left (List.getElem?_eq_some_iff.1 e1).1]; exact e1, e2, e3⟩
        | false =>
          obtain ⟨k, e1, e2⟩ := h1.1 hb
          obtain ⟨k', e3, hk⟩ := (hrest n T[n] hu z hz hzn).1 hb
          have ek : k = k' := by rw [e1] at e3; omega
          subst ek
          rcases plc_cases T z.atom.pred (instF p.pool T[n].vals z.atom) with ⟨e9, -⟩ | ⟨i, w, g1, g2, g3, g4, -⟩
          · rw [e1] at e9; omega
          · have ei : i = k := by rw [e1] at g1; omega
            subst ei
            obtain ⟨m, hm⟩ := ih.has i w hk g2 e2
            exact ⟨m, w, hm, g3, g4⟩
      refine ⟨ih.cx.rule (hRl n T[n] _ hu hpm) (hnm _ (List.getElem_mem hnl)), ih.lv.trans (List.prefix_append _ _), fun j u hj hju hjn => ?_, fun u hju hjn hj => ?_⟩
      · by_cases e : j = n
        · subst e
          rw [hu] at hju
          obtain rfl := Option.some.inj hju
          exact ⟨(ruN p T need j (X0, Ls)).2.length, List.getElem?_concat_length⟩
        · obtain ⟨m, hm⟩ := ih.has j u (by omega) hju hjn
          refine ⟨m, ?_⟩
          show ((ruN p T need n (X0, Ls)).2 ++ [T[n]])[m]? = some u
          rw [List.getElem?_append_left (List.getElem?_eq_some_iff.1 hm).1]; exact hm
      · have ht := hI.top n hd
        have e : top = n := by omega
        subst e
        rw [hu] at hju
        obtain rfl := Option.some.inj hju
        exact ⟨_, rfl⟩
    · rw [if_neg hd]
      refine ⟨ih.cx, ih.lv, fun j u hj hju hjn => ?_, fun u hju hjn hj => ?_⟩
      · by_cases e : j = n
        · subst e; exact absurd hjn hd
        · exact ih.has j u (by omega) hju hjn
      · by_cases e : top = n
        · subst e; exact absurd hjn hd
        · exact ih.last u hju hjn (by omega)
theorem replF_no (n j : Nat) : (List.replicate n false).getD j false = false := by
  rw [List.getD_eq_getElem?_getD, List.getElem?_replicate]
  split <;> rfl
/-- The certificate that is built speaks of the fact. -/
theorem bc_cx {p : PP} {Lf : NStep → Prop} {Rl : List NStep → NStep → Prop} {Nm : List UInt8 → Prop} {T : List NStep} (hrest : TRest p Lf T) (hnm : ∀ u ∈ T, ∀ y ∈ u.vals, Nm y) (hlf : ∀ s, Lf s → ∀ y ∈ s.row, Nm y) (hRl : ∀ (i : Nat) (u : NStep) (D : List NStep), T[i]? = some u → (∀ z ∈ bodyOf p u, z.neg = false → ∃ (j : Nat) (v : NStep), D[j]? = some v ∧ v.pred = z.atom.pred ∧ v.row = instF p.pool u.vals z.atom) → Rl D u) {q : Nat} {r : NRow} (hb : (pI p q).base = true → Lf ⟨q, r, 0, []⟩) (hd : (pI p q).base = false → ∃ k : Nat, plcF T q r = (k : Int) ∧ k < T.length) : ∃ D E u, CxI p Lf Rl Nm (bcC p T q r) D ∧ D = E ++ [u] ∧ u.pred = q ∧ u.row = r := by
  cases hq : (pI p q).base with
  | true =>
    have e0 : bcX0 p T q r = (List.replicate T.length false, [⟨q, r, 0, []⟩]) := by unfold bcX0; rw [if_pos hq]
    have hno : ∀ (i : Nat), ndL p T i (List.replicate T.length false, [⟨q, r, 0, []⟩]) = (List.replicate T.length false, [⟨q, r, 0, []⟩]) := by
      intro i
      induction i with
      | zero => rfl
      | succ i ih =>
        show ndL p T i (match T[i]? with | some u => ndI p T i u (List.replicate T.length false, [⟨q, r, 0, []⟩]) | none => (List.replicate T.length false, [⟨q, r, 0, []⟩])) = _
        have e1 : (match T[i]? with | some u => ndI p T i u (List.replicate T.length false, [⟨q, r, 0, []⟩]) | none => (List.replicate T.length false, [⟨q, r, 0, []⟩])) = (List.replicate T.length false, [⟨q, r, 0, []⟩]) := by
          cases T[i]? with
          | none => rfl
          | some u =>
            show ndI p T i u (List.replicate T.length false, [⟨q, r, 0, []⟩]) = _
            unfold ndI
            rw [if_neg (by rw [replF_no]; decide)]
        rw [e1]; exact ih
    have e1 : bcX p T q r = (List.replicate T.length false, [⟨q, r, 0, []⟩]) := by unfold bcX; rw [e0, hno]
    have hiv : NdIv p Lf T 0 0 (List.replicate T.length false, [⟨q, r, 0, []⟩]) := ⟨List.length_replicate .., fun j hj => (by rw [replF_no] at hj; cases hj), fun s hs => by rw [List.mem_singleton.1 hs]; exact hb hq, fun j u _ _ hj => by rw [replF_no] at hj; cases hj⟩
    have hc0 : CxI p Lf Rl Nm ([], []) [] := ⟨rfl, List.nodup_nil, fun y hy => (by cases hy), fun i d u h1 => by cases h1⟩
    have hc1 := hc0.leaves [⟨q, r, 0, []⟩] (fun s hs => by rw [List.mem_singleton.1 hs]; exact ⟨hb hq, hlf _ (hb hq)⟩)
    have hr : ∀ n X, ruN p T (List.replicate T.length false) n X = X := by
      intro n X
      induction n with
      | zero => rfl
      | succ n ih =>
        rw [ruN_succ, ih]
        unfold ruI
        split
        · rw [if_neg (by rw [replF_no]; decide)]
        · rfl
    refine ⟨[⟨q, r, 0, []⟩], [], ⟨q, r, 0, []⟩, ?_, rfl, rfl, rfl⟩
    unfold bcC
    rw [e1, hr]
    exact hc1
  | false =>
    obtain ⟨k, hk, hkl⟩ := hd hq
    have e0 : bcX0 p T q r = ((List.replicate T.length false).set k true, []) := by unfold bcX0; rw [if_neg (by rw [hq]; decide), hk, Int.toNat_natCast]
    have hiv : NdIv p Lf T k T.length ((List.replicate T.length false).set k true, []) := by
      refine ⟨by rw [List.length_set, List.length_replicate], fun j hj => ?_, fun s hs => (by cases hs), fun j u hj hu => ?_⟩
      · rcases getD_setT hj with e | e
        · omega
        · rw [replF_no] at e; cases e
      · have := (List.getElem?_eq_some_iff.1 hu).1; omega
    obtain ⟨r1, r2, r3⟩ := ndL_iv hrest T.length _ (Nat.le_refl _) hiv
    have e1 : bcX p T q r = ndL p T T.length ((List.replicate T.length false).set k true, []) := by unfold bcX; rw [e0]
    rw [← e1] at r1 r2
    have hkn : (bcX p T q r).1.getD k false = true := r2 k (getD_setS (by rw [List.length_replicate]; exact hkl))
    have hc0 : CxI p Lf Rl Nm ([], []) [] := ⟨rfl, List.nodup_nil, fun y hy => (by cases hy), fun i d u h1 => by cases h1⟩
    have hc1 := hc0.leaves (bcX p T q r).2 (fun s hs => ⟨r1.lf s hs, hlf s (r1.lf s hs)⟩)
    rw [List.nil_append] at hc1
    have hR := ru_iv (need := (bcX p T q r).1) (Ls := (bcX p T q r).2) r1 hrest hnm hRl hc1 T.length (Nat.le_refl _)
    rcases plc_cases T q r with ⟨e9, -⟩ | ⟨i, w, g1, g2, g3, g4, -⟩
    · rw [hk] at e9; omega
    · have ei : i = k := by rw [hk] at g1; omega
      subst ei
      obtain ⟨E, hE⟩ := hR.last w g2 hkn hkl
      exact ⟨_, E, w, hR.cx, hE, g3, g4⟩
/-- The certificate that is built is accepted, and is for the fact. -/
theorem bc_check {p : PP} {N : List (List UInt8)} (hn : N.Nodup) (hpre : p.pool <+: N) {R : List (List Tup)} {Nm : List UInt8 → Prop} {T : List NStep} {q : Nat} {r : NRow} {D E : List NStep} {u : NStep} (h : CxI p (LfO p N R) (RlO p N R) Nm (bcC p T q r) D) (hD : D = E ++ [u]) (h1 : u.pred = q) (h2 : u.row = r) (hk : (bcC p T q r).1.length ≤ 300) (h64 : ∀ y ∈ (bcC p T q r).1, y.length ≤ 64) (hl : (bcC p T q r).2.length ≤ 256) (hc : ∀ d ∈ (bcC p T q r).2, CNok d) : chkF p N R (encCt (bcC p T q r)) = (0, ⟨(q : Int), mkT (resV N r) r.length⟩) := by
  have hge : 1 ≤ (bcC p T q r).2.length := by rw [h.len, hD, List.length_append, List.length_singleton]; omega
  have e := decC_enc (c := bcC p T q r) (by omega) h64 ⟨hge, hl⟩ hc
  unfold chkF
  rw [e]
  dsimp only
  rw [if_neg (fun e => e rfl), h.check hn hpre, if_neg (fun e => e rfl), hD]
  unfold lastF
  dsimp only
  rw [List.map_append, List.map_singleton, List.length_append, List.length_singleton, Nat.add_sub_cancel, List.getD_eq_getElem?_getD, List.getElem?_concat_length]
  show (0, fcS N u) = _
  unfold fcS
  rw [h1, h2]
/-- It can be written down. -/
theorem bc_cn {p : PP} {N : List (List UInt8)} {R : List (List Tup)} {Nm : List UInt8 → Prop} {X : CC} {D : List NStep} (h : CxI p (LfO p N R) (RlO p N R) Nm X D) (hp : PPok p) (hk : X.1.length ≤ 300) (hl : X.2.length ≤ 256) (hlr : ∀ s, LfO p N R s → s.row.length ≤ 4) (hbl : ∀ r ∈ p.rules, r.body.length ≤ 8) : ∀ d ∈ X.2, CNok d ∧ d.vals.length ≤ 32 ∧ d.refs.length ≤ 8 := fun d hd => by
  obtain ⟨i, hi⟩ := List.mem_iff_getElem?.1 hd
  have hil := (List.getElem?_eq_some_iff.1 hi).1
  obtain ⟨w, hu⟩ : ∃ w, D[i]? = some w := ⟨_, List.getElem?_eq_getElem (by rw [← h.len]; exact hil)⟩
  obtain ⟨vs, ⟨h1, rfl, h2⟩ | ⟨h1, rfl, h2⟩⟩ := h.nd i d _ hi hu
  · obtain ⟨r1, r2⟩ := h1.rng hk
    have h3 := hlr _ h2
    have h4 := h2.1
    have h5 := hp.nD
    exact ⟨⟨by show vs.length ≤ 255; omega, r2, Nat.zero_le _, fun x hx => (by cases hx), .inl ⟨rfl, by show (0 : Int) ≤ ((_ : Nat) : Int); omega, by show ((_ : Nat) : Int) ≤ 255; omega, rfl⟩⟩, by show vs.length ≤ 32; omega, Nat.zero_le _⟩
  · obtain ⟨r1, r2⟩ := h1.rng hk
    obtain ⟨rr, g1, g2, g3, g4, g5, g6, g7⟩ := h2
    have hrl := (List.getElem?_eq_some_iff.1 g1).1
    have h5 := hp.nR
    have eb : bodyOf p w = rr.body := by unfold bodyOf; rw [List.getD_eq_getElem?_getD, g1]; rfl
    have hf : ∀ (Z : List PL) (acc : List Int), (∀ z ∈ Z, z ∈ rr.body) → (∀ x ∈ acc, 0 ≤ x ∧ x ≤ 65535) → (Z.foldl (rfS p w (D.take i)) acc).length ≤ acc.length + Z.length ∧ ∀ x ∈ Z.foldl (rfS p w (D.take i)) acc, 0 ≤ x ∧ x ≤ 65535 := by
      intro Z
      induction Z with
      | nil => exact fun acc _ ha => ⟨Nat.le_refl _, ha⟩
      | cons z Z ih =>
        intro acc hz ha
        rw [List.foldl_cons]
        unfold rfS
        split
        · have h9 := ih acc (fun y hy => hz y (List.mem_cons_of_mem _ hy)) ha
          refine ⟨?_, h9.2⟩
          have h8 := h9.1
          rw [List.length_cons]
          unfold rfS at h8
          omega
        · rename_i hzn
          have hzf : z.neg = false := by cases e : z.neg with | true => exact absurd e hzn | false => rfl
          obtain ⟨j, v, k1, k2, k3⟩ := g6 z (hz z List.mem_cons_self) hzf
          have h9 := ih (acc ++ [plcF (D.take i) z.atom.pred (instF p.pool w.vals z.atom)]) (fun y hy => hz y (List.mem_cons_of_mem _ hy)) (fun x hx => by
            rcases List.mem_append.1 hx with hx | hx
            · exact ha x hx
            · rw [List.mem_singleton.1 hx]
              rcases plc_cases (D.take i) z.atom.pred (instF p.pool w.vals z.atom) with ⟨-, e9⟩ | ⟨m, w', e1, e2, -⟩
              · exact absurd ⟨k2, k3⟩ (e9 j v k1)
              · have e3 := (List.getElem?_eq_some_iff.1 e2).1
                rw [List.length_take] at e3
                rw [e1]; omega)
          refine ⟨?_, h9.2⟩
          have h8 := h9.1
          rw [List.length_append, List.length_singleton] at h8
          rw [List.length_cons]
          unfold rfS at h8
          omega
    have h9 := hf rr.body [] (fun z hz => hz) (fun x hx => by cases hx)
    have h8 := hbl rr (List.mem_of_getElem? g1)
    rw [eb]
    have h10 : (rr.body.foldl (rfS p w (D.take i)) []).length ≤ 8 := by have := h9.1; rw [List.length_nil] at this; omega
    exact ⟨⟨by show vs.length ≤ 255; omega, r2, Nat.le_trans h10 (by decide), h9.2, .inr ⟨by show (0 : Int) ≤ ((_ : Nat) : Int); omega, by show ((_ : Nat) : Int) ≤ 255; omega, rfl⟩⟩, by show vs.length ≤ 32; omega, h10⟩
end Go.Proofs.Qxb6500787aGreat
