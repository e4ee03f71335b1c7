
import Derived.Test.Qxb6500787aGreatZn
import Derived.Test.Qxb6500787aGreatYa
import Derived.StillTailTactics
import Derived.Deep.QuietTactic
import Derived.BigQuiet
import Derived.Deep.RegionHeld
import Derived.Deep.CutRange
import Derived.Laws.ResultCell
import Derived.Laws.Rows
import Derived.DeepKeys
import Derived.DataBytes
import Derived.Laws.StructEq
import Derived.Laws.AppendOwn
import Derived.Laws.MakeOwn
import Derived.Lib.AppendStr
set_option linter.unusedSimpArgs false
set_option linter.unusedVariables false
namespace Go.Proofs.Qxb6500787aGreat
open Go.RowKit Go.Blk
attribute [local go_sem ↓] execOp_load execOp_store execOp_alloc
attribute [local go_sem] Tryz.ld26 Tryz.st26 Tryz.ld27 Tryz.st27 Tryz.ld28 Tryz.st28 Tryz.ld3 Tryz.st3 Tryz.ld29 Tryz.st29 Tryz.ld44 Tryz.st44 Tryz.ld4 Tryz.st4 Tryz.ld50 Tryz.st50 Tryz.ld32 Tryz.st32 Tryz.ld49 Tryz.st49 Tryz.ld68 Tryz.st68 Tryz.ld9 Tryz.st9 Tryz.ld40 Tryz.st40 Tryz.ld138 Tryz.st138 Tryz.ld139 Tryz.st139 Tryz.ld146 Tryz.st146 Tryz.ld183 Tryz.st183 Tryz.ld184 Tryz.st184 Tryz.ld192 Tryz.st192 Tryz.ld195 Tryz.st195 Tryz.ld217 Tryz.st217 Tryz.ld159 Tryz.st159 Tryz.ld142 Tryz.st142 Tryz.ld2 Tryz.st2 Tryz.ld5 Tryz.st5 Tryz.ld12 Tryz.st12 Tryz.ld21 Tryz.st21 Tryz.ld22 Tryz.st22 Tryz.ld24 Tryz.st24 Tryz.ld58 Tryz.st58 Tryz.ld97 Tryz.st97 Tryz.ld101 Tryz.st101 Tryz.ld116 Tryz.st116 Tryz.ld121 Tryz.st121 Tryz.ld135 Tryz.st135 Tryz.ld136 Tryz.st136 Tryz.ld143 Tryz.st143 Tryz.ld148 Tryz.st148 Tryz.ld154 Tryz.st154 Tryz.ld173 Tryz.st173 Tryz.ld187 Tryz.st187 Tryz.ld222 Tryz.st222 Tryz.ld241 Tryz.st241 Tryz.ld248 Tryz.st248 Tryz.ld268 Tryz.st268 Tryz.ld272 Tryz.st272 Tryz.ld153 Tryz.st153 Tryz.ld255 Tryz.st255 Tryz.ld256 Tryz.st256 Tryz.ld129 Tryz.st129 Tryz.ld152 Tryz.st152 Tryz.ld31 Tryz.st31 Tryz.ld46 Tryz.st46 Tryz.ld52 Tryz.st52 Tryz.ld54 Tryz.st54 Tryz.ld60 Tryz.st60 Tryz.ld70 Tryz.st70 Tryz.ld74 Tryz.st74 Tryz.ld93 Tryz.st93 Tryz.ld141 Tryz.st141 Tryz.ld151 Tryz.st151 Tryz.ld170 Tryz.st170 Tryz.ld186 Tryz.st186 Tryz.ld189 Tryz.st189 Tryz.ld194 Tryz.st194 Tryz.ld197 Tryz.st197 Tryz.ld219 Tryz.st219 Tryz.ld224 Tryz.st224 Tryz.ld230 Tryz.st230 Tryz.ld235 Tryz.st235 Tryz.ld243 Tryz.st243 Tryz.ld247 Tryz.st247 Tryz.ld252 Tryz.st252 Tryz.ld258 Tryz.st258 Tryz.al153 Tryz.al255 Tryz.al256 Tryz.al129 Tryz.al152 Tryz.al31 Tryz.al46 Tryz.al52 Tryz.al54 Tryz.al60 Tryz.al70 Tryz.al74 Tryz.al93 Tryz.al141 Tryz.al151 Tryz.al170 Tryz.al186 Tryz.al189 Tryz.al194 Tryz.al197 Tryz.al219 Tryz.al224 Tryz.al230 Tryz.al235 Tryz.al243 Tryz.al247 Tryz.al252 Tryz.al258
attribute [local go_sem] Request.length_enc Request.ok_enc Request.all_get Request.all_set Request.kind_get Request.kind_set Request.blob_get Request.blob_set Request.items_get Request.items_set Request.pred_get Request.pred_set Request.slots_get Request.slots_set Trace.length_enc Trace.ok_enc Trace.all_get Trace.all_set Trace.op_get Trace.op_set Trace.calls_get Trace.calls_set Item.length_enc Item.ok_enc Item.all_get Item.all_set Item.del_get Item.del_set Item.pred_get Item.pred_set Item.args_get Item.args_set Reply.length_enc Reply.ok_enc Reply.all_get Reply.all_set Reply.code_get Reply.code_set Reply.kind_get Reply.kind_set Reply.index_get Reply.index_set Reply.yes_get Reply.yes_set Reply.preds_get Reply.preds_set Reply.rules_get Reply.rules_set Reply.arity_get Reply.arity_set Reply.rows_get Reply.rows_set Reply.fact_get Reply.fact_set Reply.fact_del_get Reply.fact_del_set Reply.fact_pred_get Reply.fact_pred_set Reply.fact_args_get Reply.fact_args_set GEntry.length_enc GEntry.ok_enc GEntry.all_get GEntry.all_set GEntry.seq_get GEntry.seq_set GEntry.kind_get GEntry.kind_set GEntry.code_get GEntry.code_set GOp.length_enc GOp.ok_enc GOp.all_get GOp.all_set GOp.kind_get GOp.kind_set GOp.raw_get GOp.raw_set Reader.length_enc Reader.ok_enc Reader.all_get Reader.all_set Reader.buf_get Reader.buf_set Reader.at__get Reader.at__set Slot.length_enc Slot.ok_enc Slot.all_get Slot.all_set Slot.bound_get Slot.bound_set Slot.name_get Slot.name_set Session.length_enc Session.ok_enc Session.all_get Session.all_set Session.svc_get Session.svc_set Session.buf_get Session.buf_set Session.closed_get Session.closed_set GProgram.length_enc GProgram.ok_enc GProgram.all_get GProgram.all_set GProgram.pool_get GProgram.pool_set GProgram.preds_get GProgram.preds_set GProgram.rules_get GProgram.rules_set GProgram.strata_get GProgram.strata_set PredInfo.length_enc PredInfo.ok_enc PredInfo.all_get PredInfo.all_set PredInfo.arity_get PredInfo.arity_set PredInfo.base_get PredInfo.base_set PredInfo.stratum_get PredInfo.stratum_set Change.length_enc Change.ok_enc Change.all_get Change.all_set Change.del_get Change.del_set Change.pred_get Change.pred_set Change.t_get Change.t_set Store.length_enc Store.ok_enc Store.all_get Store.all_set Store.names_get Store.names_set Store.arity_get Store.arity_set Store.rows_get Store.rows_set Src.length_enc Src.ok_enc Src.all_get Src.all_set Src.b_get Src.b_set Src.at__get Src.at__set Atom.length_enc Atom.ok_enc Atom.all_get Atom.all_set Atom.pred_get Atom.pred_set Atom.args_get Atom.args_set GRule.length_enc GRule.ok_enc GRule.all_get GRule.all_set GRule.head_get GRule.head_set GRule.body_get GRule.body_set GRule.head_pred_get GRule.head_pred_set GRule.head_args_get GRule.head_args_set Cert.length_enc Cert.ok_enc Cert.all_get Cert.all_set Cert.names_get Cert.names_set Cert.nodes_get Cert.nodes_set Fact.length_enc Fact.ok_enc Fact.all_get Fact.all_set Fact.pred_get Fact.pred_set Fact.t_get Fact.t_set Literal.length_enc Literal.ok_enc Literal.all_get Literal.all_set Literal.neg_get Literal.neg_set Literal.atom_get Literal.atom_set Literal.atom_pred_get Literal.atom_pred_set Literal.atom_args_get Literal.atom_args_set Engine.length_enc Engine.ok_enc Engine.all_get Engine.all_set Engine.prog_get Engine.prog_set Engine.st_get Engine.st_set SrcCertm.length_enc SrcCertm.ok_enc SrcCertm.all_get SrcCertm.all_set SrcCertm.b_get SrcCertm.b_set SrcCertm.at__get SrcCertm.at__set GNode.length_enc GNode.ok_enc GNode.all_get GNode.all_set GNode.rule_get GNode.rule_set GNode.pred_get GNode.pred_set GNode.vals_get GNode.vals_set GNode.refs_get GNode.refs_set Term.length_enc Term.ok_enc Term.all_get Term.all_set Term.var_get Term.var_set Term.n_get Term.n_set Env.length_enc Env.ok_enc Env.all_get Env.all_set Env.val_get Env.val_set Env.set_get Env.set_set
attribute [local go_sem] size_put size_ext blk_put free_put blk_alloc free_alloc blk_drew free_drew blk_ext free_ext lookOr_some putOr_some segAt_some cellAt_some storeIn_some put_put put_alloc_new length_arr ok_arr_u8 ok_arr_u32 ok_arr_u64 ok_arr_i64 ok_arr_sl cellsV_agg cellsV_int cellsV_bool cellsV_string cellsV_pointer cellsV_slice cellsV_sl ok_int ok_bool ok_string ok_pointer ok_slice ok_sl toList_arr seg_arr set_arr nth_splice nth_splice0 seg_splice seg_splice0 splice_splice splice_splice0 length_splice_if
attribute [local go_sem ↓] execOp_box
attribute [local go_sem] box_run nth_arr_u8 put_arr_u8 blk_drewN free_drewN put_drewN blk_raw free_raw
/-- What the trace tells of a request that was handed on. -/
def TrO (kind code : Int) (s : Sv) : Prop := (s.calls = 1 ∧ s.op = kind) ∨ (s.calls = 0 ∧ s.op = 0 ∧ (code = 11 ∨ code = 12 ∨ code = 13 ∨ code = 16))
theorem cuF_own {p : PP} {pr n : Nat} (h : cuF p pr n ≠ 0) : cuF p pr n = 11 ∨ cuF p pr n = 12 ∨ cuF p pr n = 13 := by
  unfold cuF at h ⊢
  split
  · exact .inl rfl
  · rename_i h1
    rw [if_neg h1] at h
    split
    · exact .inr (.inl rfl)
    · rename_i h2
      rw [if_neg h2] at h
      split
      · exact .inr (.inr rfl)
      · rename_i h3
        rw [if_neg h3] at h
        exact absurd rfl h
theorem crF_own {p : PP} {pr n : Nat} (h : crF p pr n ≠ 0) : crF p pr n = 11 ∨ crF p pr n = 13 := by
  unfold crF at h ⊢
  split
  · exact .inl rfl
  · rename_i h1
    rw [if_neg h1] at h
    split
    · exact .inr rfl
    · rename_i h3
      rw [if_neg h3] at h
      exact absurd rfl h
theorem ckL_own {p : PP} : ∀ {L : List It} {i : Nat} {c : Int} {j : Nat}, ckL p L i = some (c, j) → c = 11 ∨ c = 12 ∨ c = 13
  | [], _, _, _, h => by cases h
  | x :: L, i, c, j, h => by
    unfold ckL at h
    by_cases e : cuF p x.2.1.toNat x.2.2.length ≠ 0
    · rw [if_pos e] at h
      have e2 := (Prod.mk.inj (Option.some.inj h)).1
      rw [← e2]
      exact cuF_own e
    · rw [if_neg e] at h
      exact ckL_own h
theorem own3 {c : Int} (h : c = 11 ∨ c = 12 ∨ c = 13) : c = 11 ∨ c = 12 ∨ c = 13 ∨ c = 16 := by omega
theorem dsR.tr {s s' : Sv} {q : Rq} {r : PRep} (h : dsR s q r s') (h0 : s.op = 0 ∧ s.calls = 0) (hI : ∀ t, s.inst = some t → InG t ∧ FstO t.p) : (s.inst = none → q.kind ≠ 1 → s'.calls = 0 ∧ s'.op = 0) ∧ (s.inst ≠ none ∨ q.kind = 1 → TrO q.kind r.code s') := by
  have hc1 : s.calls + 1 = 1 := by omega
  rcases h with ⟨hk, rep, hP, rfl⟩ | ⟨hk, hn, rfl, rfl⟩ | ⟨t, ht, h⟩
  · refine ⟨fun _ h => absurd hk h, fun _ => .inl ?_⟩
    rw [hk]
    rcases hP with ⟨-, -, rfl⟩ | ⟨-, vc, p', hv, ⟨-, -, rfl⟩ | ⟨rfl, P, hF, ⟨-, -, rfl⟩ | ⟨-, -, rfl⟩⟩⟩ <;> exact ⟨hc1, rfl⟩
  · refine ⟨fun _ _ => ⟨h0.2, h0.1⟩, fun h => ?_⟩
    rcases h with h | h
    · exact absurd hn h
    · exact absurd h hk
  · obtain ⟨hG, hF⟩ := hI t ht
    refine ⟨fun h => by rw [ht] at h; (cases h), fun _ => ?_⟩
    rcases h with ⟨hk, rep, hP, rfl⟩ | ⟨hk, rep, hP, rfl⟩ | ⟨hk, rep, hP, rfl⟩ | ⟨hk, rep, hP, rfl⟩ | ⟨hk, rfl, e⟩ | ⟨hk, rfl, e⟩
    · rw [hk]
      rcases hP with ⟨h1, rfl, rfl⟩ | ⟨-, mc, t1, co, hm, h⟩
      · exact .inr ⟨h0.2, h0.1, own3 (cuF_own h1)⟩
      · obtain ⟨m1, m2⟩ := mr_room hG hF hm
        rcases h with ⟨h1, rfl, rfl⟩ | ⟨h1, h⟩
        · rcases m1 with m1 | m1
          · exact absurd m1 h1
          · exact .inr ⟨h0.2, h0.1, .inr (.inr (.inr m1))⟩
        · obtain ⟨G, g1, g2, g3⟩ := m2 h1
          have hi := (intF_fits g1 g2 (args := itA q) (fun x hx => g3 _ List.mem_cons_self rfl x hx)).1
          rcases h with ⟨h2, -, -⟩ | ⟨-, code, ix, R', hB, ⟨-, -, rfl⟩ | ⟨-, -, rfl⟩⟩
          · exact absurd hi h2
          · exact .inl ⟨hc1, rfl⟩
          · exact .inl ⟨hc1, rfl⟩
    · rw [hk]
      rcases hP with ⟨h1, rfl, rfl⟩ | ⟨-, code, ix, R', hB, ⟨-, -, rfl⟩ | ⟨-, -, rfl⟩⟩
      · exact .inr ⟨h0.2, h0.1, own3 (cuF_own h1)⟩
      · exact .inl ⟨hc1, rfl⟩
      · exact .inl ⟨hc1, rfl⟩
    · rw [hk]
      rcases hP with ⟨c, i, h1, rfl, rfl⟩ | ⟨-, mc, t1, co, hm, h⟩
      · exact .inr ⟨h0.2, h0.1, own3 (ckL_own h1)⟩
      · obtain ⟨m1, m2⟩ := mr_room hG hF hm
        rcases h with ⟨h1, rfl, rfl⟩ | ⟨h1, h⟩
        · rcases m1 with m1 | m1
          · exact absurd m1 h1
          · exact .inr ⟨h0.2, h0.1, .inr (.inr (.inr m1))⟩
        · obtain ⟨G, g1, g2, g3⟩ := m2 h1
          have hi := btF_fits g1 q.items (0, t1.N, []) rfl g2 g3
          rcases h with ⟨h2, -, -⟩ | ⟨-, code, ix, R', hB, ⟨-, -, rfl⟩ | ⟨-, -, rfl⟩⟩
          · exact absurd hi h2
          · exact .inl ⟨hc1, rfl⟩
          · exact .inl ⟨hc1, rfl⟩
    · rw [hk]
      have e1 : rep = (qyF s t (itP q) (itA q)).1 := congrArg Prod.fst hP
      have e2 : s' = (qyF s t (itP q) (itA q)).2 := congrArg Prod.snd hP
      rw [e1, e2]; unfold qyF
      by_cases h9 : crF t.p (itP q) (itA q).length ≠ 0
      · rw [if_pos h9]
        refine .inr ⟨h0.2, h0.1, ?_⟩
        rcases crF_own h9 with h | h
        · exact .inl h
        · exact .inr (.inr (.inl h))
      · rw [if_neg h9]; exact .inl ⟨hc1, rfl⟩
    · rw [hk, e]
      by_cases h9 : crF t.p q.pred.toNat q.slots.length ≠ 0
      · rw [if_pos h9]
        refine .inr ⟨h0.2, h0.1, ?_⟩
        have e3 : (ptQ t q.pred.toNat q.slots).code = crF t.p q.pred.toNat q.slots.length := by unfold ptQ; rw [if_pos h9]; rfl
        rw [e3]
        rcases crF_own h9 with h | h
        · exact .inl h
        · exact .inr (.inr (.inl h))
      · rw [if_neg h9]; exact .inl ⟨hc1, rfl⟩
    · rw [hk, e]; exact .inl ⟨hc1, rfl⟩
/-- The policy's model fits. -/
def SvF (s : Sv) : Prop := ∀ t, s.inst = some t → FstO t.p
theorem dsR.fst {s s' : Sv} {q : Rq} {r : PRep} (h : dsR s q r s') (hI : ∀ t, s.inst = some t → InG t) (hF : SvF s) : SvF s' := by
  have one : ∀ {t' : InsS}, s'.inst = some t' → FstO t'.p → SvF s' := fun h1 h2 t'' h3 => by
    rw [h1] at h3; cases h3; exact h2
  rcases h with ⟨hk, rep, hP, rfl⟩ | ⟨hk, hn, rfl, rfl⟩ | ⟨t, ht, h⟩
  · rcases hP with ⟨-, -, rfl⟩ | ⟨-, vc, p', hv, ⟨-, -, rfl⟩ | ⟨rfl, P, hFs, ⟨-, -, rfl⟩ | ⟨ho, -, rfl⟩⟩⟩
    · exact hF
    · exact hF
    · exact hF
    · exact one (t' := newS p' P p'.pool.length) rfl ⟨P, hFs, ho⟩
  · exact hF
  · have hG := hI t ht
    have hFt := hF t ht
    rcases h with ⟨hk, rep, hP, rfl⟩ | ⟨hk, rep, hP, rfl⟩ | ⟨hk, rep, hP, rfl⟩ | ⟨hk, rep, hP, rfl⟩ | ⟨hk, rfl, e⟩ | ⟨hk, rfl, e⟩
    · rcases hP with ⟨-, -, rfl⟩ | ⟨-, mc, t1, co, hm, h⟩
      · exact hF
      · have h2 := (hm.ing hG).2
        rcases h with ⟨-, -, rfl⟩ | ⟨-, ⟨-, -, rfl⟩ | ⟨-, code, ix, R', hB, ⟨-, -, rfl⟩ | ⟨-, -, rfl⟩⟩⟩
        · exact one (t' := t1) rfl (by rw [h2]; exact hFt)
        · exact one rfl (by show FstO t1.p; rw [h2]; exact hFt)
        · exact one rfl (by show FstO t1.p; rw [h2]; exact hFt)
        · refine one rfl ?_
          have h3 := (setsS_p [inC t1 (itP q) (itA q)] ((t1.tab (intF t1.N (itA q)).2.2).rel R')).1
          have h4 : (setS ((t1.tab (intF t1.N (itA q)).2.2).rel R') (inC t1 (itP q) (itA q))).p = t1.p := h3
          rw [h4, h2]; exact hFt
    · rcases hP with ⟨-, -, rfl⟩ | ⟨-, code, ix, R', hB, ⟨-, -, rfl⟩ | ⟨-, -, rfl⟩⟩
      · exact hF
      · exact one (t' := t) rfl hFt
      · refine one rfl ?_
        have h3 := (setsS_p [rmC t (itP q) (itA q)] ⟨t.p, t.N, R', t.U, t.live⟩).1
        have h4 : (setS ⟨t.p, t.N, R', t.U, t.live⟩ (rmC t (itP q) (itA q))).p = t.p := h3
        rw [h4]; exact hFt
    · rcases hP with ⟨c, i, -, -, rfl⟩ | ⟨-, mc, t1, co, hm, h⟩
      · exact hF
      · have h2 := (hm.ing hG).2
        rcases h with ⟨-, -, rfl⟩ | ⟨-, ⟨-, -, rfl⟩ | ⟨-, code, ix, R', hB, ⟨-, -, rfl⟩ | ⟨-, -, rfl⟩⟩⟩
        · exact one (t' := t1) rfl (by rw [h2]; exact hFt)
        · exact one rfl (by show FstO t1.p; rw [h2]; exact hFt)
        · exact one rfl (by show FstO t1.p; rw [h2]; exact hFt)
        · refine one rfl ?_
          rw [(setsS_p (btF t1.N q.items).2.2 _).1]
          show FstO t1.p
          rw [h2]; exact hFt
    · have e : s' = (qyF s t (itP q) (itA q)).2 := congrArg Prod.snd hP
      have e2 : s'.inst = s.inst := by
        rw [e]; unfold qyF
        by_cases h9 : crF t.p (itP q) (itA q).length ≠ 0
        · rw [if_pos h9]
        · rw [if_neg h9]
      intro t' h9
      rw [e2] at h9
      exact hF t' h9
    · have e2 : s'.inst = some t := by
        rw [e]
        by_cases h9 : crF t.p q.pred.toNat q.slots.length ≠ 0
        · rw [if_pos h9]; exact ht
        · rw [if_neg h9]; rfl
      exact one e2 hFt
    · exact one (t' := t) (by rw [e]; rfl) hFt
/-- Law 4, plainly. -/
structure EkL (s s' : Sv) (raw : List UInt8) (q : PRep) : Prop where
  no : (decF raw).1 ≠ 0 ∨ (s.inst.isSome = false ∧ (decF raw).2.kind ≠ 1) → s'.calls = 0 ∧ s'.op = 0
  yes : (decF raw).1 = 0 → (s.inst.isSome = true ∨ (decF raw).2.kind = 1) → TrO (decF raw).2.kind q.code s' ∧ 1 ≤ (decF raw).2.kind ∧ (decF raw).2.kind ≤ 7
  fst : SvF s'
theorem svR.ek {s s' : Sv} {m : Int} (hI : SvI m s) (hF : SvF s) {raw : List UInt8} (hr : raw.length ≤ 65536) {q : PRep} (h : svR s raw q s') : EkL s s' raw q := by
  obtain ⟨s1, h, rfl⟩ := h
  rcases h with ⟨h0, rfl, rfl⟩ | ⟨h0, h⟩
  · exact ⟨fun _ => ⟨rfl, rfl⟩, fun e => absurd e h0, hF⟩
  · have hw := decF_wf hr h0
    have ht := h.tr (s := s.clr) ⟨rfl, rfl⟩ (fun t ht => ⟨hI.ins t ht, hF t ht⟩)
    have hf := h.fst (s := s.clr) (fun t ht => hI.ins t ht) hF
    refine ⟨fun hc => ?_, fun _ hc => ⟨?_, hw.kind⟩, hf⟩
    · rcases hc with hc | ⟨h1, h2⟩
      · exact absurd h0 hc
      · refine ht.1 ?_ h2
        cases hx : s.inst with
        | none => show s.inst = none; exact hx
        | some t => rw [hx] at h1; cases h1
    · refine ht.2 ?_
      rcases hc with hc | hc
      · left
        intro h9
        have h9' : s.inst = none := h9
        rw [h9'] at hc; cases hc
      · exact .inr hc
end Go.Proofs.Qxb6500787aGreat
