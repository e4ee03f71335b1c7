import Derived.Test.Qxb6500787aGreatEn
import Derived.Test.Qxb6500787aGreatBa
import Derived.Test.Qxb6500787aGreatNb
import Derived.Test.Qxb6500787aGreatZf

import Derived.StillTailTactics
import Derived.Deep.QuietTactic
import Derived.BigQuiet
import Derived.Deep.RegionHeld
import Derived.Deep.CutRange
import Derived.Laws.ResultCell
import Derived.Laws.Rows
import Derived.DeepKeys
import Derived.DataBytes
import Derived.Laws.StructEq
import Derived.Laws.AppendOwn
import Derived.Laws.MakeOwn
import Derived.Lib.AppendStr
set_option linter.unusedSimpArgs false
set_option linter.unusedVariables false
namespace Go.Proofs.Qxb6500787aGreat
open Go.RowKit Go.Blk
attribute [local go_sem ↓] execOp_load execOp_store execOp_alloc
attribute [local go_sem] Tryz.ld26 Tryz.st26 Tryz.ld27 Tryz.st27 Tryz.ld28 Tryz.st28 Tryz.ld3 Tryz.st3 Tryz.ld29 Tryz.st29 Tryz.ld44 Tryz.st44 Tryz.ld4 Tryz.st4 Tryz.ld50 Tryz.st50 Tryz.ld32 Tryz.st32 Tryz.ld49 Tryz.st49 Tryz.ld68 Tryz.st68 Tryz.ld9 Tryz.st9 Tryz.ld40 Tryz.st40 Tryz.ld138 Tryz.st138 Tryz.ld139 Tryz.st139 Tryz.ld146 Tryz.st146 Tryz.ld183 Tryz.st183 Tryz.ld184 Tryz.st184 Tryz.ld192 Tryz.st192 Tryz.ld195 Tryz.st195 Tryz.ld217 Tryz.st217 Tryz.ld159 Tryz.st159 Tryz.ld142 Tryz.st142 Tryz.ld2 Tryz.st2 Tryz.ld5 Tryz.st5 Tryz.ld12 Tryz.st12 Tryz.ld21 Tryz.st21 Tryz.ld22 Tryz.st22 Tryz.ld24 Tryz.st24 Tryz.ld58 Tryz.st58 Tryz.ld97 Tryz.st97 Tryz.ld101 Tryz.st101 Tryz.ld116 Tryz.st116 Tryz.ld121 Tryz.st121 Tryz.ld135 Tryz.st135 Tryz.ld136 Tryz.st136 Tryz.ld143 Tryz.st143 Tryz.ld148 Tryz.st148 Tryz.ld154 Tryz.st154 Tryz.ld173 Tryz.st173 Tryz.ld187 Tryz.st187 Tryz.ld222 Tryz.st222 Tryz.ld241 Tryz.st241 Tryz.ld248 Tryz.st248 Tryz.ld268 Tryz.st268 Tryz.ld272 Tryz.st272 Tryz.ld153 Tryz.st153 Tryz.ld255 Tryz.st255 Tryz.ld256 Tryz.st256 Tryz.ld129 Tryz.st129 Tryz.ld152 Tryz.st152 Tryz.ld31 Tryz.st31 Tryz.ld46 Tryz.st46 Tryz.ld52 Tryz.st52 Tryz.ld54 Tryz.st54 Tryz.ld60 Tryz.st60 Tryz.ld70 Tryz.st70 Tryz.ld74 Tryz.st74 Tryz.ld93 Tryz.st93 Tryz.ld141 Tryz.st141 Tryz.ld151 Tryz.st151 Tryz.ld170 Tryz.st170 Tryz.ld186 Tryz.st186 Tryz.ld189 Tryz.st189 Tryz.ld194 Tryz.st194 Tryz.ld197 Tryz.st197 Tryz.ld219 Tryz.st219 Tryz.ld224 Tryz.st224 Tryz.ld230 Tryz.st230 Tryz.ld235 Tryz.st235 Tryz.ld243 Tryz.st243 Tryz.ld247 Tryz.st247 Tryz.ld252 Tryz.st252 Tryz.ld258 Tryz.st258 Tryz.al153 Tryz.al255 Tryz.al256 Tryz.al129 Tryz.al152 Tryz.al31 Tryz.al46 Tryz.al52 Tryz.al54 Tryz.al60 Tryz.al70 Tryz.al74 Tryz.al93 Tryz.al141 Tryz.al151 Tryz.al170 Tryz.al186 Tryz.al189 Tryz.al194 Tryz.al197 Tryz.al219 Tryz.al224 Tryz.al230 Tryz.al235 Tryz.al243 Tryz.al247 Tryz.al252 Tryz.al258
attribute [local go_sem] Request.length_enc Request.ok_enc Request.all_get Request.all_set Request.kind_get Request.kind_set Request.blob_get Request.blob_set Request.items_get Request.items_set Request.pred_get Request.pred_set Request.slots_get Request.slots_set Trace.length_enc Trace.ok_enc Trace.all_get Trace.all_set Trace.op_get Trace.op_set Trace.calls_get Trace.calls_set Item.length_enc Item.ok_enc Item.all_get Item.all_set Item.del_get Item.del_set Item.pred_get Item.pred_set Item.args_get Item.args_set Reply.length_enc Reply.ok_enc Reply.all_get Reply.all_set Reply.code_get Reply.code_set Reply.kind_get Reply.kind_set Reply.index_get Reply.index_set Reply.yes_get Reply.yes_set Reply.preds_get Reply.preds_set Reply.rules_get Reply.rules_set Reply.arity_get Reply.arity_set Reply.rows_get Reply.rows_set Reply.fact_get Reply.fact_set Reply.fact_del_get Reply.fact_del_set Reply.fact_pred_get Reply.fact_pred_set Reply.fact_args_get Reply.fact_args_set GEntry.length_enc GEntry.ok_enc GEntry.all_get GEntry.all_set GEntry.seq_get GEntry.seq_set GEntry.kind_get GEntry.kind_set GEntry.code_get GEntry.code_set GOp.length_enc GOp.ok_enc GOp.all_get GOp.all_set GOp.kind_get GOp.kind_set GOp.raw_get GOp.raw_set Reader.length_enc Reader.ok_enc Reader.all_get Reader.all_set Reader.buf_get Reader.buf_set Reader.at__get Reader.at__set Slot.length_enc Slot.ok_enc Slot.all_get Slot.all_set Slot.bound_get Slot.bound_set Slot.name_get Slot.name_set Session.length_enc Session.ok_enc Session.all_get Session.all_set Session.svc_get Session.svc_set Session.buf_get Session.buf_set Session.closed_get Session.closed_set GProgram.length_enc GProgram.ok_enc GProgram.all_get GProgram.all_set GProgram.pool_get GProgram.pool_set GProgram.preds_get GProgram.preds_set GProgram.rules_get GProgram.rules_set GProgram.strata_get GProgram.strata_set PredInfo.length_enc PredInfo.ok_enc PredInfo.all_get PredInfo.all_set PredInfo.arity_get PredInfo.arity_set PredInfo.base_get PredInfo.base_set PredInfo.stratum_get PredInfo.stratum_set Change.length_enc Change.ok_enc Change.all_get Change.all_set Change.del_get Change.del_set Change.pred_get Change.pred_set Change.t_get Change.t_set Store.length_enc Store.ok_enc Store.all_get Store.all_set Store.names_get Store.names_set Store.arity_get Store.arity_set Store.rows_get Store.rows_set Src.length_enc Src.ok_enc Src.all_get Src.all_set Src.b_get Src.b_set Src.at__get Src.at__set Atom.length_enc Atom.ok_enc Atom.all_get Atom.all_set Atom.pred_get Atom.pred_set Atom.args_get Atom.args_set GRule.length_enc GRule.ok_enc GRule.all_get GRule.all_set GRule.head_get GRule.head_set GRule.body_get GRule.body_set GRule.head_pred_get GRule.head_pred_set GRule.head_args_get GRule.head_args_set Cert.length_enc Cert.ok_enc Cert.all_get Cert.all_set Cert.names_get Cert.names_set Cert.nodes_get Cert.nodes_set Fact.length_enc Fact.ok_enc Fact.all_get Fact.all_set Fact.pred_get Fact.pred_set Fact.t_get Fact.t_set Literal.length_enc Literal.ok_enc Literal.all_get Literal.all_set Literal.neg_get Literal.neg_set Literal.atom_get Literal.atom_set Literal.atom_pred_get Literal.atom_pred_set Literal.atom_args_get Literal.atom_args_set Engine.length_enc Engine.ok_enc Engine.all_get Engine.all_set Engine.prog_get Engine.prog_set Engine.st_get Engine.st_set SrcCertm.length_enc SrcCertm.ok_enc SrcCertm.all_get SrcCertm.all_set SrcCertm.b_get SrcCertm.b_set SrcCertm.at__get SrcCertm.at__set GNode.length_enc GNode.ok_enc GNode.all_get GNode.all_set GNode.rule_get GNode.rule_set GNode.pred_get GNode.pred_set GNode.vals_get GNode.vals_set GNode.refs_get GNode.refs_set Term.length_enc Term.ok_enc Term.all_get Term.all_set Term.var_get Term.var_set Term.n_get Term.n_set Env.length_enc Env.ok_enc Env.all_get Env.all_set Env.val_get Env.val_set Env.set_get Env.set_set
attribute [local go_sem] size_put size_ext blk_put free_put blk_alloc free_alloc blk_drew free_drew blk_ext free_ext lookOr_some putOr_some segAt_some cellAt_some storeIn_some put_put put_alloc_new length_arr ok_arr_u8 ok_arr_u32 ok_arr_u64 ok_arr_i64 ok_arr_sl cellsV_agg cellsV_int cellsV_bool cellsV_string cellsV_pointer cellsV_slice cellsV_sl ok_int ok_bool ok_string ok_pointer ok_slice ok_sl toList_arr seg_arr set_arr nth_splice nth_splice0 seg_splice seg_splice0 splice_splice splice_splice0 length_splice_if
attribute [local go_sem ↓] execOp_box
attribute [local go_sem] box_run nth_arr_u8 put_arr_u8 blk_drewN free_drewN put_drewN blk_raw free_raw

/-- The code of a reply, out of its bytes. -/
theorem code_of {q : PRep} (hB : RepB q) {out : List UInt8} (e : encR' q = out) : q.code = ((out.getD 0 0).toNat : Int) := by
  rw [← e]
  show q.code = (((bI q.code :: bI q.kind :: encBd q).getD 0 0).toNat : Int)
  have h1 : (bI q.code :: bI q.kind :: encBd q).getD 0 0 = bI q.code := rfl
  rw [h1, bI_nat hB.code]
  have := hB.code.1
  omega
theorem cap_dec {s s' : Sv} {raw : List UInt8} {q : PRep} (hv : svR s raw q s') (h0 : (decF raw).1 ≠ 0) : q.code = (decF raw).1 := by
  obtain ⟨s1, hv, -⟩ := hv
  rcases hv with ⟨-, rfl, -⟩ | ⟨h1, -⟩
  · rfl
  · exact absurd h1 h0
/-- A load: when capacity is answered. -/
theorem cap_load {s s' : Sv} {raw : List UInt8} {q : PRep} (hv : svR s raw q s') (h0 : (decF raw).1 = 0) (hk : (decF raw).2.kind = 1) : ((decP (decF raw).2.blob).1 ≠ 0 → q.code ≠ 16) ∧ ((decP (decF raw).2.blob).1 = 0 → ∀ c, AcR (decP (decF raw).2.blob).2 c → (c ≠ 0 → q.code ≠ 16) ∧ (c = 0 → ∀ p', VerR (decP (decF raw).2.blob).2 0 p' → ∀ F1 T1, PfTo p' (constF p'.pool (List.replicate p'.preds.length [])) 0 (List.replicate p'.preds.length []) [] F1 T1 → (q.code = 16 ↔ overN F1 = true))) := by
  obtain ⟨s1, hv, -⟩ := hv
  rcases hv with ⟨h1, -⟩ | ⟨-, hv⟩
  · exact absurd h0 h1
  rcases hv with ⟨-, rep, hP, rfl⟩ | ⟨h1, -⟩ | ⟨t, -, h1⟩
  rotate_left 1
  · exact absurd hk h1
  · rcases h1 with ⟨e, -⟩ | ⟨e, -⟩ | ⟨e, -⟩ | ⟨e, -⟩ | ⟨e, -⟩ | ⟨e, -⟩ <;> (rw [hk] at e; cases e)
  have hcode : ∀ c k i, (plR (repZ c k i)).code = c := fun _ _ _ => rfl
  rcases hP with ⟨h1, rfl, rfl⟩ | ⟨h1, vc, p', hv, hP⟩
  · exact ⟨fun _ => by rw [hcode]; exact (decP_cx _).2.2, fun e => absurd e h1⟩
  have hdk := decP_ok h1
  refine ⟨fun e => absurd h1 e, fun _ c hc => ?_⟩
  have hcv := ac_ver hdk hc hv
  subst hcv
  rcases hP with ⟨h2, rfl, rfl⟩ | ⟨rfl, P, hF, hP⟩
  · exact ⟨fun _ => by rw [hcode]; exact hv.cx.2.2, fun e => absurd e h2⟩
  · refine ⟨fun e => absurd rfl e, fun _ p2 hv2 F1 T1 hQ => ?_⟩
    have he := (hv.det hv2).2 rfl
    subst he
    obtain ⟨k1, -⟩ := fst_same (verR_pgV hdk hv) hF hQ
    rcases hP with ⟨ho, rfl, rfl⟩ | ⟨ho, rfl, rfl⟩
    · rw [hcode]
      exact ⟨fun _ => by rw [← k1]; exact ho, fun _ => rfl⟩
    · have hc0 : (plR (ldP p')).code = 0 := rfl
      rw [hc0, ← k1, ho]
      exact ⟨fun e => (by cases e), fun e => (by cases e)⟩
/-- Requests that are never refused for capacity. -/
theorem cap_not {s s' : Sv} {raw : List UInt8} {q : PRep} (hv : svR s raw q s') (h0 : (decF raw).1 = 0) (hk : (decF raw).2.kind ≠ 1) (hn : s.inst = none ∨ ¬ ((decF raw).2.kind = 2 ∨ (decF raw).2.kind = 3 ∨ (decF raw).2.kind = 4)) : q.code ≠ 16 := by
  obtain ⟨s1, hv, -⟩ := hv
  rcases hv with ⟨h1, -⟩ | ⟨-, hv⟩
  · exact absurd h0 h1
  rcases hv with ⟨h1, -⟩ | ⟨-, -, rfl, -⟩ | ⟨t, hti, hv⟩
  · exact absurd h1 hk
  · show (10 : Int) ≠ 16
    decide
  have hti' : s.inst = some t := hti
  have hn' : ¬ ((decF raw).2.kind = 2 ∨ (decF raw).2.kind = 3 ∨ (decF raw).2.kind = 4) := by
    rcases hn with h | h
    · rw [hti'] at h; cases h
    · exact h
  rcases hv with ⟨e, -⟩ | ⟨e, -⟩ | ⟨e, -⟩ | ⟨-, rep, hP, rfl⟩ | ⟨-, hP⟩ | ⟨-, hP⟩
  · exact absurd (.inl e) hn'
  · exact absurd (.inr (.inl e)) hn'
  · exact absurd (.inr (.inr e)) hn'
  · have h9 : rep = (qyF s.clr t (itP (decF raw).2) (itA (decF raw).2)).1 := congrArg Prod.fst hP
    rw [h9]
    unfold qyF
    split
    · exact (crF_cx _ _ _).2.2
    · show (0 : Int) ≠ 16
      decide
  · rw [hP.1]
    unfold ptQ
    split
    · exact (crF_cx _ _ _).2.2
    · show (0 : Int) ≠ 16
      decide
  · rw [hP.1]
    unfold grQ
    split
    · exact (chkF_cx _ _ _ _).2.2
    · show (0 : Int) ≠ 16
      decide
/-- An update: when capacity is answered. -/
theorem cap_upd {s s' : Sv} {m : MS} {M : Int} (hI : SvI M s) (hF : SvF s) (hA : AgS s m) {raw : List UInt8} (hr : raw.length ≤ 65536) {q : PRep} (hB : RepB q) (hv : svR s raw q s') (h0 : (decF raw).1 = 0) (hk : (decF raw).2.kind = 2 ∨ (decF raw).2.kind = 3 ∨ (decF raw).2.kind = 4) (hl : m.ld = true) : (ckL m.p (decF raw).2.items 0 ≠ none → q.code ≠ 16) ∧ (ckL m.p (decF raw).2.items 0 = none → (256 < (wanF m.p.pool m.F (decF raw).2.items).length → q.code = 16) ∧ ((wanF m.p.pool m.F (decF raw).2.items).length ≤ 256 → ((aftF m.F 0 (decF raw).2.items).1 ≠ 0 → q.code ≠ 16) ∧ ((aftF m.F 0 (decF raw).2.items).1 = 0 → ∀ F1 T1, PfTo m.p (constF m.p.pool (aftF m.F 0 (decF raw).2.items).2.2) 0 (aftF m.F 0 (decF raw).2.items).2.2 [] F1 T1 → (q.code = 16 ↔ overN F1 = true)))) := by
  obtain ⟨Q, eQ⟩ : ∃ Q, Q = (decF raw).2 := ⟨_, rfl⟩
  have hk1 : (decF raw).2.kind ≠ 1 := by omega
  have key : ∀ out m', UpR m (decF raw).2.kind.toNat (decF raw).2.items out m' → q.code = ((out.getD 0 0).toNat : Int) := fun out m' hu => code_of hB (step_mod hI hF hA hr hv (.inr ⟨h0, .inr (.inr ⟨hk1, hl, .inl ⟨hk, hu⟩⟩)⟩)).1
  have hd0 : ∀ c kd i, (rfA c kd i).getD 0 0 = UInt8.ofNat c := fun c kd i => by unfold rfA; split <;> rfl
  have hn : ∀ n : Nat, n < 256 → ((UInt8.ofNat n).toNat : Int) = (n : Int) := fun n hn => by rw [UInt8.toNat_ofNat']; omega
  refine ⟨fun h => ?_, fun h => ⟨fun hw => ?_, fun hw => ⟨fun ha => ?_, fun ha F1 T1 hQ => ?_⟩⟩⟩
  · cases hc : ckL m.p (decF raw).2.items 0 with
    | none => exact absurd hc h
    | some x =>
      obtain ⟨c, i⟩ := x
      have h1 := key _ _ (.inl ⟨c, i, hc, rfl, rfl⟩)
      have h2 := ckL_own hc
      rw [hd0, hn _ (by omega)] at h1
      omega
  · have h1 := key _ _ (.inr ⟨h, .inl ⟨hw, rfl, rfl⟩⟩)
    exact h1
  · have h1 := key _ _ (.inr ⟨h, .inr ⟨hw, .inl ⟨ha, rfl, rfl⟩⟩⟩)
    have h2 := (aftF_ix _ _ _ ha).2
    rw [hd0, hn _ (by omega)] at h1
    omega
  · cases ho : overN F1 with
    | true =>
      have h1 := key _ _ (.inr ⟨h, .inr ⟨hw, .inr ⟨ha, F1, T1, hQ, .inl ⟨ho, rfl, rfl⟩⟩⟩⟩)
      exact ⟨fun _ => rfl, fun _ => h1⟩
    | false =>
      have h1 := key _ _ (.inr ⟨h, .inr ⟨hw, .inr ⟨ha, F1, T1, hQ, .inr ⟨ho, rfl, rfl⟩⟩⟩⟩)
      have h2 : q.code = 0 := h1
      refine ⟨fun e => ?_, fun e => by cases e⟩
      rw [h2] at e
      cases e
/-- The constants in use. -/
theorem use_mod {s : Sv} {m : MS} {M : Int} (hI : SvI M s) (hA : AgS s m) : (m.ld = true → inUse s = ((constF m.p.pool m.F).length : Int)) ∧ inUse s ≤ 256 := by
  rcases hA with ⟨h1, h2⟩ | ⟨t, ht, h⟩
  · refine ⟨fun e => (by rw [h2] at e; cases e), ?_⟩
    unfold inUse
    rw [h1]
    decide
  · have hG := hI.ins t ht
    have h3 := live_const hG h.a
    have h4 := (h.msi hG).con
    rw [h.p] at h3
    have h5 : inUse s = t.live := by unfold inUse; rw [ht]
    rw [h5, h3]
    exact ⟨fun _ => rfl, by omega⟩
end Go.Proofs.Qxb6500787aGreat
