
import Derived.Test.Qxb6500787aGreatZu
import Derived.StillTailTactics
import Derived.Deep.QuietTactic
import Derived.BigQuiet
import Derived.Deep.RegionHeld
import Derived.Deep.CutRange
import Derived.Laws.ResultCell
import Derived.Laws.Rows
import Derived.DeepKeys
import Derived.DataBytes
import Derived.Laws.StructEq
import Derived.Laws.AppendOwn
import Derived.Laws.MakeOwn
import Derived.Lib.AppendStr
set_option linter.unusedSimpArgs false
set_option linter.unusedVariables false
namespace Go.Proofs.Qxb6500787aGreat
open Go.RowKit Go.Blk
attribute [local go_sem ↓] execOp_load execOp_store execOp_alloc
attribute [local go_sem] Tryz.ld26 Tryz.st26 Tryz.ld27 Tryz.st27 Tryz.ld28 Tryz.st28 Tryz.ld3 Tryz.st3 Tryz.ld29 Tryz.st29 Tryz.ld44 Tryz.st44 Tryz.ld4 Tryz.st4 Tryz.ld50 Tryz.st50 Tryz.ld32 Tryz.st32 Tryz.ld49 Tryz.st49 Tryz.ld68 Tryz.st68 Tryz.ld9 Tryz.st9 Tryz.ld40 Tryz.st40 Tryz.ld138 Tryz.st138 Tryz.ld139 Tryz.st139 Tryz.ld146 Tryz.st146 Tryz.ld183 Tryz.st183 Tryz.ld184 Tryz.st184 Tryz.ld192 Tryz.st192 Tryz.ld195 Tryz.st195 Tryz.ld217 Tryz.st217 Tryz.ld159 Tryz.st159 Tryz.ld142 Tryz.st142 Tryz.ld2 Tryz.st2 Tryz.ld5 Tryz.st5 Tryz.ld12 Tryz.st12 Tryz.ld21 Tryz.st21 Tryz.ld22 Tryz.st22 Tryz.ld24 Tryz.st24 Tryz.ld58 Tryz.st58 Tryz.ld97 Tryz.st97 Tryz.ld101 Tryz.st101 Tryz.ld116 Tryz.st116 Tryz.ld121 Tryz.st121 Tryz.ld135 Tryz.st135 Tryz.ld136 Tryz.st136 Tryz.ld143 Tryz.st143 Tryz.ld148 Tryz.st148 Tryz.ld154 Tryz.st154 Tryz.ld173 Tryz.st173 Tryz.ld187 Tryz.st187 Tryz.ld222 Tryz.st222 Tryz.ld241 Tryz.st241 Tryz.ld248 Tryz.st248 Tryz.ld268 Tryz.st268 Tryz.ld272 Tryz.st272 Tryz.ld153 Tryz.st153 Tryz.ld255 Tryz.st255 Tryz.ld256 Tryz.st256 Tryz.ld129 Tryz.st129 Tryz.ld152 Tryz.st152 Tryz.ld31 Tryz.st31 Tryz.ld46 Tryz.st46 Tryz.ld52 Tryz.st52 Tryz.ld54 Tryz.st54 Tryz.ld60 Tryz.st60 Tryz.ld70 Tryz.st70 Tryz.ld74 Tryz.st74 Tryz.ld93 Tryz.st93 Tryz.ld141 Tryz.st141 Tryz.ld151 Tryz.st151 Tryz.ld170 Tryz.st170 Tryz.ld186 Tryz.st186 Tryz.ld189 Tryz.st189 Tryz.ld194 Tryz.st194 Tryz.ld197 Tryz.st197 Tryz.ld219 Tryz.st219 Tryz.ld224 Tryz.st224 Tryz.ld230 Tryz.st230 Tryz.ld235 Tryz.st235 Tryz.ld243 Tryz.st243 Tryz.ld247 Tryz.st247 Tryz.ld252 Tryz.st252 Tryz.ld258 Tryz.st258 Tryz.al153 Tryz.al255 Tryz.al256 Tryz.al129 Tryz.al152 Tryz.al31 Tryz.al46 Tryz.al52 Tryz.al54 Tryz.al60 Tryz.al70 Tryz.al74 Tryz.al93 Tryz.al141 Tryz.al151 Tryz.al170 Tryz.al186 Tryz.al189 Tryz.al194 Tryz.al197 Tryz.al219 Tryz.al224 Tryz.al230 Tryz.al235 Tryz.al243 Tryz.al247 Tryz.al252 Tryz.al258
attribute [local go_sem] Request.length_enc Request.ok_enc Request.all_get Request.all_set Request.kind_get Request.kind_set Request.blob_get Request.blob_set Request.items_get Request.items_set Request.pred_get Request.pred_set Request.slots_get Request.slots_set Trace.length_enc Trace.ok_enc Trace.all_get Trace.all_set Trace.op_get Trace.op_set Trace.calls_get Trace.calls_set Item.length_enc Item.ok_enc Item.all_get Item.all_set Item.del_get Item.del_set Item.pred_get Item.pred_set Item.args_get Item.args_set Reply.length_enc Reply.ok_enc Reply.all_get Reply.all_set Reply.code_get Reply.code_set Reply.kind_get Reply.kind_set Reply.index_get Reply.index_set Reply.yes_get Reply.yes_set Reply.preds_get Reply.preds_set Reply.rules_get Reply.rules_set Reply.arity_get Reply.arity_set Reply.rows_get Reply.rows_set Reply.fact_get Reply.fact_set Reply.fact_del_get Reply.fact_del_set Reply.fact_pred_get Reply.fact_pred_set Reply.fact_args_get Reply.fact_args_set GEntry.length_enc GEntry.ok_enc GEntry.all_get GEntry.all_set GEntry.seq_get GEntry.seq_set GEntry.kind_get GEntry.kind_set GEntry.code_get GEntry.code_set GOp.length_enc GOp.ok_enc GOp.all_get GOp.all_set GOp.kind_get GOp.kind_set GOp.raw_get GOp.raw_set Reader.length_enc Reader.ok_enc Reader.all_get Reader.all_set Reader.buf_get Reader.buf_set Reader.at__get Reader.at__set Slot.length_enc Slot.ok_enc Slot.all_get Slot.all_set Slot.bound_get Slot.bound_set Slot.name_get Slot.name_set Session.length_enc Session.ok_enc Session.all_get Session.all_set Session.svc_get Session.svc_set Session.buf_get Session.buf_set Session.closed_get Session.closed_set GProgram.length_enc GProgram.ok_enc GProgram.all_get GProgram.all_set GProgram.pool_get GProgram.pool_set GProgram.preds_get GProgram.preds_set GProgram.rules_get GProgram.rules_set GProgram.strata_get GProgram.strata_set PredInfo.length_enc PredInfo.ok_enc PredInfo.all_get PredInfo.all_set PredInfo.arity_get PredInfo.arity_set PredInfo.base_get PredInfo.base_set PredInfo.stratum_get PredInfo.stratum_set Change.length_enc Change.ok_enc Change.all_get Change.all_set Change.del_get Change.del_set Change.pred_get Change.pred_set Change.t_get Change.t_set Store.length_enc Store.ok_enc Store.all_get Store.all_set Store.names_get Store.names_set Store.arity_get Store.arity_set Store.rows_get Store.rows_set Src.length_enc Src.ok_enc Src.all_get Src.all_set Src.b_get Src.b_set Src.at__get Src.at__set Atom.length_enc Atom.ok_enc Atom.all_get Atom.all_set Atom.pred_get Atom.pred_set Atom.args_get Atom.args_set GRule.length_enc GRule.ok_enc GRule.all_get GRule.all_set GRule.head_get GRule.head_set GRule.body_get GRule.body_set GRule.head_pred_get GRule.head_pred_set GRule.head_args_get GRule.head_args_set Cert.length_enc Cert.ok_enc Cert.all_get Cert.all_set Cert.names_get Cert.names_set Cert.nodes_get Cert.nodes_set Fact.length_enc Fact.ok_enc Fact.all_get Fact.all_set Fact.pred_get Fact.pred_set Fact.t_get Fact.t_set Literal.length_enc Literal.ok_enc Literal.all_get Literal.all_set Literal.neg_get Literal.neg_set Literal.atom_get Literal.atom_set Literal.atom_pred_get Literal.atom_pred_set Literal.atom_args_get Literal.atom_args_set Engine.length_enc Engine.ok_enc Engine.all_get Engine.all_set Engine.prog_get Engine.prog_set Engine.st_get Engine.st_set SrcCertm.length_enc SrcCertm.ok_enc SrcCertm.all_get SrcCertm.all_set SrcCertm.b_get SrcCertm.b_set SrcCertm.at__get SrcCertm.at__set GNode.length_enc GNode.ok_enc GNode.all_get GNode.all_set GNode.rule_get GNode.rule_set GNode.pred_get GNode.pred_set GNode.vals_get GNode.vals_set GNode.refs_get GNode.refs_set Term.length_enc Term.ok_enc Term.all_get Term.all_set Term.var_get Term.var_set Term.n_get Term.n_set Env.length_enc Env.ok_enc Env.all_get Env.all_set Env.val_get Env.val_set Env.set_get Env.set_set
attribute [local go_sem] size_put size_ext blk_put free_put blk_alloc free_alloc blk_drew free_drew blk_ext free_ext lookOr_some putOr_some segAt_some cellAt_some storeIn_some put_put put_alloc_new length_arr ok_arr_u8 ok_arr_u32 ok_arr_u64 ok_arr_i64 ok_arr_sl cellsV_agg cellsV_int cellsV_bool cellsV_string cellsV_pointer cellsV_slice cellsV_sl ok_int ok_bool ok_string ok_pointer ok_slice ok_sl toList_arr seg_arr set_arr nth_splice nth_splice0 seg_splice seg_splice0 splice_splice splice_splice0 length_splice_if
attribute [local go_sem ↓] execOp_box
attribute [local go_sem] box_run nth_arr_u8 put_arr_u8 blk_drewN free_drewN put_drewN blk_raw free_raw
/-- One request, seen by two services. -/
theorem svR.sim {s w s' : Sv} {m mw : Int} (hI : SvI m s) (hF : SvF s) (hIw : SvI mw w) (h : SvSim s w) {raw : List UInt8} (hr : raw.length ≤ 65536) {q : PRep} (hv : svR s raw q s') : (¬ (q.code = 0 ∧ 1 ≤ q.kind ∧ q.kind ≤ 4) → SvSim s' w) ∧ (q.code = 0 → 1 ≤ q.kind → q.kind ≤ 4 → ∀ q2 w', svR w raw q2 w' → q2 = q ∧ SvSim s' w') := by
  obtain ⟨s1, hv, rfl⟩ := hv
  have hsame : ∀ (s0 : Sv) (k c : Int), SvSim s0 w → SvSim (s0.fil k c) w := fun s0 k c h9 => ⟨h9.img, h9.ins⟩
  have hsame2 : ∀ (s0 w0 : Sv) (k c k' c' : Int), SvSim s0 w0 → SvSim (s0.fil k c) (w0.fil k' c') := fun s0 w0 k c k' c' h9 => ⟨h9.img, h9.ins⟩
  have hclr : SvSim s.clr w := ⟨h.img, h.ins⟩
  rcases hv with ⟨h0, rfl, rfl⟩ | ⟨h0, hd⟩
  · exact ⟨fun _ => hsame _ _ _ hclr, fun e => absurd e h0⟩
  have hw := decF_wf hr h0
  have hww : ∀ q2 w', svR w raw q2 w' → ∃ w1, dsR w.clr (decF raw).2 q2 w1 ∧ w' = w1.fil q2.kind q2.code := fun q2 w' hv2 => by
    obtain ⟨w1, hv2, rfl⟩ := hv2
    rcases hv2 with ⟨k0, -⟩ | ⟨-, hd2⟩
    · exact absurd h0 k0
    · exact ⟨w1, hd2, rfl⟩
  have hgI : ∀ t, s.clr.inst = some t → InG t := fun t ht => hI.ins t ht
  rcases hd with ⟨hk, rep, hP, rfl⟩ | ⟨hk, hn, rfl, rfl⟩ | ⟨t, ht, hd⟩
  · -- a load
    have hkk : (plR rep).kind = 1 := hP.k.kind
    refine ⟨fun hne => hsame _ _ _ ?_, fun hc _ _ q2 w' hv2 => ?_⟩
    · have hc : rep.code ≠ 0 := fun e => hne ⟨e, by omega, by omega⟩
      rcases hP with ⟨-, -, rfl⟩ | ⟨-, vc, p', hvr, ⟨-, -, rfl⟩ | ⟨-, P, hFs, ⟨-, -, rfl⟩ | ⟨-, e, -⟩⟩⟩
      · exact ⟨h.img, h.ins⟩
      · exact ⟨h.img, h.ins⟩
      · exact ⟨h.img, h.ins⟩
      · rw [e] at hc; exact absurd rfl hc
    · obtain ⟨w1, hd2, rfl⟩ := hww q2 w' hv2
      rcases hd2 with ⟨-, rep2, hP2, rfl⟩ | ⟨hk2, -⟩ | ⟨u, -, hd2⟩
      · obtain ⟨e1, e2, t, e3, e4⟩ := ld_sim hP hc hP2
        exact ⟨by rw [e1], hsame2 _ _ _ _ _ _ ⟨e2.symm, .inr ⟨t, t, e3, e4, Sim.refl t⟩⟩⟩
      · exact absurd hk hk2
      · rcases hd2 with ⟨e, -⟩ | ⟨e, -⟩ | ⟨e, -⟩ | ⟨e, -⟩ | ⟨e, -⟩ | ⟨e, -⟩ <;> omega
  · exact ⟨fun _ => hsame _ _ _ hclr, fun e => absurd (show (10 : Int) = 0 from e) (by decide)⟩
  have hG := hgI t ht
  have hFt : FstO t.p := hF t ht
  obtain ⟨u, hu, hS⟩ : ∃ u, w.clr.inst = some u ∧ Sim t u := by
    rcases h.ins with ⟨e, -⟩ | ⟨t0, u, e1, e2, e3⟩
    · have ht' : s.inst = some t := ht
      rw [e] at ht'; cases ht'
    · have ht' : s.inst = some t := ht
      rw [e1] at ht'; cases ht'
      exact ⟨u, e2, e3⟩
  have hGu : InG u := hIw.ins u hu
  have hit : (decF raw).2.kind = 2 ∨ (decF raw).2.kind = 3 ∨ (decF raw).2.kind = 5 → ∀ x ∈ itA (decF raw).2, x.length ≤ 64 := fun hk x hx => by
    obtain ⟨p, args, e⟩ := hw.one hk
    unfold itA at hx
    rw [e] at hx
    exact (hw.its (decide ((decF raw).2.kind = 3), p, args) (by rw [e]; exact List.mem_cons_self)).2.2 x hx
  -- from what a handler says to the two services
  have fin : ∀ {rep : Reply} {s1 : Sv}, s1.img = s.clr.img → ∀ {t' : InsS}, s1.inst = some t' → (rep.code ≠ 0 → Sim t t') → ¬ ((plR rep).code = 0 ∧ 1 ≤ (plR rep).kind ∧ (plR rep).kind ≤ 4) → 1 ≤ (plR rep).kind ∧ (plR rep).kind ≤ 4 → SvSim (s1.fil (plR rep).kind (plR rep).code) w := fun {rep s1} h1 {t'} h2 h3 h4 h5 => by
    have hc : rep.code ≠ 0 := fun e => h4 ⟨e, h5.1, h5.2⟩
    refine hsame _ _ _ ⟨h1.trans h.img, .inr ⟨t', u, h2, hu, (h3 hc).symm.trans hS⟩⟩
  rcases hd with ⟨hk, rep, hP, rfl⟩ | ⟨hk, rep, hP, rfl⟩ | ⟨hk, rep, hP, rfl⟩ | ⟨hk, rep, hP, rfl⟩ | ⟨hk, rfl, e⟩ | ⟨hk, rfl, e⟩
  · have hkk : (plR rep).kind = 2 := hP.k.kind
    obtain ⟨h1, t', h2, h3, -⟩ := in_sim (w1 := w) ht hu hS hG hGu hFt (hit (.inl hk)) hP
    refine ⟨fun hne => fin h1 h2 h3 hne (by omega), fun hc _ _ q2 w' hv2 => ?_⟩
    obtain ⟨w1, hd2, rfl⟩ := hww q2 w' hv2
    obtain ⟨-, t'', h2', -, h4⟩ := in_sim (w1 := w1) ht hu hS hG hGu hFt (hit (.inl hk)) hP
    rcases hd2 with ⟨hk2, -⟩ | ⟨-, hn2, -⟩ | ⟨u2, hu2, hd2⟩
    · omega
    · rw [hu] at hn2; cases hn2
    · rw [hu] at hu2; cases hu2
      rcases hd2 with ⟨-, rep2, hP2, rfl⟩ | ⟨e, -⟩ | ⟨e, -⟩ | ⟨e, -⟩ | ⟨e, -⟩ | ⟨e, -⟩
      · obtain ⟨e1, e2, u', e3, e4⟩ := h4 hc rep2 hP2
        exact ⟨by rw [e1], hsame2 _ _ _ _ _ _ ⟨(h1.trans h.img).trans e2.symm, .inr ⟨t'', u', h2', e3, e4⟩⟩⟩
      all_goals omega
  · have hkk : (plR rep).kind = 3 := hP.k.kind
    obtain ⟨h1, t', h2, h3, -⟩ := rm_sim (w1 := w) ht hu hS hG hGu (hit (.inr (.inl hk))) hP
    refine ⟨fun hne => fin h1 h2 h3 hne (by omega), fun hc _ _ q2 w' hv2 => ?_⟩
    obtain ⟨w1, hd2, rfl⟩ := hww q2 w' hv2
    obtain ⟨-, t'', h2', -, h4⟩ := rm_sim (w1 := w1) ht hu hS hG hGu (hit (.inr (.inl hk))) hP
    rcases hd2 with ⟨hk2, -⟩ | ⟨-, hn2, -⟩ | ⟨u2, hu2, hd2⟩
    · omega
    · rw [hu] at hn2; cases hn2
    · rw [hu] at hu2; cases hu2
      rcases hd2 with ⟨e, -⟩ | ⟨-, rep2, hP2, rfl⟩ | ⟨e, -⟩ | ⟨e, -⟩ | ⟨e, -⟩ | ⟨e, -⟩
      rotate_left 1
      · obtain ⟨e1, e2, u', e3, e4⟩ := h4 hc rep2 hP2
        exact ⟨by rw [e1], hsame2 _ _ _ _ _ _ ⟨(h1.trans h.img).trans e2.symm, .inr ⟨t'', u', h2', e3, e4⟩⟩⟩
      all_goals omega
  · have hkk : (plR rep).kind = 4 := (btR.k hw.len hP).kind
    have hL : ∀ it ∈ (decF raw).2.items, 0 ≤ it.2.1 ∧ ∀ x ∈ it.2.2, x.length ≤ 64 := fun it hi => ⟨(hw.its it hi).1, (hw.its it hi).2.2⟩
    obtain ⟨h1, t', h2, h3, -⟩ := bt_h_sim (w1 := w) ht hu hS hG hGu hFt hL hP
    refine ⟨fun hne => fin h1 h2 h3 hne (by omega), fun hc _ _ q2 w' hv2 => ?_⟩
    obtain ⟨w1, hd2, rfl⟩ := hww q2 w' hv2
    obtain ⟨-, t'', h2', -, h4⟩ := bt_h_sim (w1 := w1) ht hu hS hG hGu hFt hL hP
    rcases hd2 with ⟨hk2, -⟩ | ⟨-, hn2, -⟩ | ⟨u2, hu2, hd2⟩
    · omega
    · rw [hu] at hn2; cases hn2
    · rw [hu] at hu2; cases hu2
      rcases hd2 with ⟨e, -⟩ | ⟨e, -⟩ | ⟨-, rep2, hP2, rfl⟩ | ⟨e, -⟩ | ⟨e, -⟩ | ⟨e, -⟩
      rotate_left 2
      · obtain ⟨e1, e2, u', e3, e4⟩ := h4 hc rep2 hP2
        exact ⟨by rw [e1], hsame2 _ _ _ _ _ _ ⟨(h1.trans h.img).trans e2.symm, .inr ⟨t'', u', h2', e3, e4⟩⟩⟩
      all_goals omega
  · have e1 : rep = (qyF s.clr t (itP (decF raw).2) (itA (decF raw).2)).1 := congrArg Prod.fst hP
    have e : s1 = (qyF s.clr t (itP (decF raw).2) (itA (decF raw).2)).2 := congrArg Prod.snd hP
    have hkk : (plR rep).kind = 5 := by rw [e1]; exact (qyF.k s.clr t _ _).kind
    refine ⟨fun _ => hsame _ _ _ ?_, fun _ _ h4 => by omega⟩
    rw [e]; unfold qyF
    by_cases h9 : crF t.p (itP (decF raw).2) (itA (decF raw).2).length ≠ 0
    · rw [if_pos h9]; exact hclr
    · rw [if_neg h9]; exact ⟨h.img, h.ins⟩
  · have hkk : (ptQ t (decF raw).2.pred.toNat (decF raw).2.slots).kind = 6 := (ptQ.k hG _ _ hw.slots).kind
    refine ⟨fun _ => hsame _ _ _ ?_, fun _ _ h4 => by omega⟩
    rw [e]
    by_cases h9 : crF t.p (decF raw).2.pred.toNat (decF raw).2.slots.length ≠ 0
    · rw [if_pos h9]; exact hclr
    · rw [if_neg h9]; exact ⟨h.img, .inr ⟨t, u, rfl, hu, hS⟩⟩
  · have hkk : (grQ t (decF raw).2.blob).kind = 7 := (grQ.k hG _).kind
    refine ⟨fun _ => hsame _ _ _ ?_, fun _ _ h4 => by omega⟩
    rw [e]; exact ⟨h.img, .inr ⟨t, u, rfl, hu, hS⟩⟩
/-- Listings tell the same. -/
theorem pt_sim {t u : InsS} (h : Sim t u) (ht : InG t) (hu : InG u) {pr : Nat} {L : List Slt} (hL : ∀ x ∈ L, x.1 = false) : ptQ t pr L = ptQ u pr L := by
  unfold ptQ
  rw [← h.p]
  by_cases hc : crF t.p pr L.length ≠ 0
  · rw [if_pos hc, if_pos hc]
  · rw [if_neg hc, if_neg hc]
    have hl : L.length = arP t.p pr := by
      have hc' : crF t.p pr L.length = 0 := Decidable.of_not_not hc
      unfold crF at hc'
      by_cases h1 : t.p.preds.length ≤ pr
      · rw [if_pos h1] at hc'; cases hc'
      · rw [if_neg h1] at hc'
        by_cases h2 : (L.length : Int) ≠ (pI t.p pr).arity
        · rw [if_pos h2] at hc'; cases hc'
        · have h3 : (L.length : Int) = (pI t.p pr).arity := Decidable.of_not_not h2
          have h4 := (pI_ar ht.pg.pok (q := pr) (by omega)).1
          omega
    have hm : ∀ c, ptM L c = 0 := fun c => by
      induction c with
      | zero => rfl
      | succ c ih =>
        unfold ptM
        have e : (L.getD c (false, [])).1 = false := by
          rw [List.getD_eq_getElem?_getD]
          cases hx : L[c]? with
          | none => rfl
          | some x => exact hL x (List.mem_of_getElem? hx)
        rw [e, ih]; rfl
    have hrow : ∀ (v : InsS), ptRows v pr L = rowsAt v.R pr := fun v => by
      unfold ptRows prL
      rw [hm, List.filter_eq_self]
      intro x _
      rw [decide_eq_true_eq]
      intro c _ hb
      rw [Nat.zero_testBit] at hb
      cases hb
    have hall := h.all ht hu pr
    unfold nmB at hall
    rw [hrow, hrow, hl, hall]
end Go.Proofs.Qxb6500787aGreat
