
import Derived.Test.Qxb6500787aGreatXd
import Derived.StillTailTactics
import Derived.Deep.QuietTactic
import Derived.BigQuiet
import Derived.Deep.RegionHeld
import Derived.Deep.CutRange
import Derived.Laws.ResultCell
import Derived.Laws.Rows
import Derived.DeepKeys
import Derived.DataBytes
import Derived.Laws.StructEq
import Derived.Laws.AppendOwn
import Derived.Laws.MakeOwn
import Derived.Lib.AppendStr
set_option linter.unusedSimpArgs false
set_option linter.unusedVariables false
namespace Go.Proofs.Qxb6500787aGreat
open Go.RowKit Go.Blk
attribute [local go_sem ↓] execOp_load execOp_store execOp_alloc
attribute [local go_sem] Tryz.ld26 Tryz.st26 Tryz.ld27 Tryz.st27 Tryz.ld28 Tryz.st28 Tryz.ld3 Tryz.st3 Tryz.ld29 Tryz.st29 Tryz.ld44 Tryz.st44 Tryz.ld4 Tryz.st4 Tryz.ld50 Tryz.st50 Tryz.ld32 Tryz.st32 Tryz.ld49 Tryz.st49 Tryz.ld68 Tryz.st68 Tryz.ld9 Tryz.st9 Tryz.ld40 Tryz.st40 Tryz.ld138 Tryz.st138 Tryz.ld139 Tryz.st139 Tryz.ld146 Tryz.st146 Tryz.ld183 Tryz.st183 Tryz.ld184 Tryz.st184 Tryz.ld192 Tryz.st192 Tryz.ld195 Tryz.st195 Tryz.ld217 Tryz.st217 Tryz.ld159 Tryz.st159 Tryz.ld142 Tryz.st142 Tryz.ld2 Tryz.st2 Tryz.ld5 Tryz.st5 Tryz.ld12 Tryz.st12 Tryz.ld21 Tryz.st21 Tryz.ld22 Tryz.st22 Tryz.ld24 Tryz.st24 Tryz.ld58 Tryz.st58 Tryz.ld97 Tryz.st97 Tryz.ld101 Tryz.st101 Tryz.ld116 Tryz.st116 Tryz.ld121 Tryz.st121 Tryz.ld135 Tryz.st135 Tryz.ld136 Tryz.st136 Tryz.ld143 Tryz.st143 Tryz.ld148 Tryz.st148 Tryz.ld154 Tryz.st154 Tryz.ld173 Tryz.st173 Tryz.ld187 Tryz.st187 Tryz.ld222 Tryz.st222 Tryz.ld241 Tryz.st241 Tryz.ld248 Tryz.st248 Tryz.ld268 Tryz.st268 Tryz.ld272 Tryz.st272 Tryz.ld153 Tryz.st153 Tryz.ld255 Tryz.st255 Tryz.ld256 Tryz.st256 Tryz.ld129 Tryz.st129 Tryz.ld152 Tryz.st152 Tryz.ld31 Tryz.st31 Tryz.ld46 Tryz.st46 Tryz.ld52 Tryz.st52 Tryz.ld54 Tryz.st54 Tryz.ld60 Tryz.st60 Tryz.ld70 Tryz.st70 Tryz.ld74 Tryz.st74 Tryz.ld93 Tryz.st93 Tryz.ld141 Tryz.st141 Tryz.ld151 Tryz.st151 Tryz.ld170 Tryz.st170 Tryz.ld186 Tryz.st186 Tryz.ld189 Tryz.st189 Tryz.ld194 Tryz.st194 Tryz.ld197 Tryz.st197 Tryz.ld219 Tryz.st219 Tryz.ld224 Tryz.st224 Tryz.ld230 Tryz.st230 Tryz.ld235 Tryz.st235 Tryz.ld243 Tryz.st243 Tryz.ld247 Tryz.st247 Tryz.ld252 Tryz.st252 Tryz.ld258 Tryz.st258 Tryz.al153 Tryz.al255 Tryz.al256 Tryz.al129 Tryz.al152 Tryz.al31 Tryz.al46 Tryz.al52 Tryz.al54 Tryz.al60 Tryz.al70 Tryz.al74 Tryz.al93 Tryz.al141 Tryz.al151 Tryz.al170 Tryz.al186 Tryz.al189 Tryz.al194 Tryz.al197 Tryz.al219 Tryz.al224 Tryz.al230 Tryz.al235 Tryz.al243 Tryz.al247 Tryz.al252 Tryz.al258
attribute [local go_sem] Request.length_enc Request.ok_enc Request.all_get Request.all_set Request.kind_get Request.kind_set Request.blob_get Request.blob_set Request.items_get Request.items_set Request.pred_get Request.pred_set Request.slots_get Request.slots_set Trace.length_enc Trace.ok_enc Trace.all_get Trace.all_set Trace.op_get Trace.op_set Trace.calls_get Trace.calls_set Item.length_enc Item.ok_enc Item.all_get Item.all_set Item.del_get Item.del_set Item.pred_get Item.pred_set Item.args_get Item.args_set Reply.length_enc Reply.ok_enc Reply.all_get Reply.all_set Reply.code_get Reply.code_set Reply.kind_get Reply.kind_set Reply.index_get Reply.index_set Reply.yes_get Reply.yes_set Reply.preds_get Reply.preds_set Reply.rules_get Reply.rules_set Reply.arity_get Reply.arity_set Reply.rows_get Reply.rows_set Reply.fact_get Reply.fact_set Reply.fact_del_get Reply.fact_del_set Reply.fact_pred_get Reply.fact_pred_set Reply.fact_args_get Reply.fact_args_set GEntry.length_enc GEntry.ok_enc GEntry.all_get GEntry.all_set GEntry.seq_get GEntry.seq_set GEntry.kind_get GEntry.kind_set GEntry.code_get GEntry.code_set GOp.length_enc GOp.ok_enc GOp.all_get GOp.all_set GOp.kind_get GOp.kind_set GOp.raw_get GOp.raw_set Reader.length_enc Reader.ok_enc Reader.all_get Reader.all_set Reader.buf_get Reader.buf_set Reader.at__get Reader.at__set Slot.length_enc Slot.ok_enc Slot.all_get Slot.all_set Slot.bound_get Slot.bound_set Slot.name_get Slot.name_set Session.length_enc Session.ok_enc Session.all_get Session.all_set Session.svc_get Session.svc_set Session.buf_get Session.buf_set Session.closed_get Session.closed_set GProgram.length_enc GProgram.ok_enc GProgram.all_get GProgram.all_set GProgram.pool_get GProgram.pool_set GProgram.preds_get GProgram.preds_set GProgram.rules_get GProgram.rules_set GProgram.strata_get GProgram.strata_set PredInfo.length_enc PredInfo.ok_enc PredInfo.all_get PredInfo.all_set PredInfo.arity_get PredInfo.arity_set PredInfo.base_get PredInfo.base_set PredInfo.stratum_get PredInfo.stratum_set Change.length_enc Change.ok_enc Change.all_get Change.all_set Change.del_get Change.del_set Change.pred_get Change.pred_set Change.t_get Change.t_set Store.length_enc Store.ok_enc Store.all_get Store.all_set Store.names_get Store.names_set Store.arity_get Store.arity_set Store.rows_get Store.rows_set Src.length_enc Src.ok_enc Src.all_get Src.all_set Src.b_get Src.b_set Src.at__get Src.at__set Atom.length_enc Atom.ok_enc Atom.all_get Atom.all_set Atom.pred_get Atom.pred_set Atom.args_get Atom.args_set GRule.length_enc GRule.ok_enc GRule.all_get GRule.all_set GRule.head_get GRule.head_set GRule.body_get GRule.body_set GRule.head_pred_get GRule.head_pred_set GRule.head_args_get GRule.head_args_set Cert.length_enc Cert.ok_enc Cert.all_get Cert.all_set Cert.names_get Cert.names_set Cert.nodes_get Cert.nodes_set Fact.length_enc Fact.ok_enc Fact.all_get Fact.all_set Fact.pred_get Fact.pred_set Fact.t_get Fact.t_set Literal.length_enc Literal.ok_enc Literal.all_get Literal.all_set Literal.neg_get Literal.neg_set Literal.atom_get Literal.atom_set Literal.atom_pred_get Literal.atom_pred_set Literal.atom_args_get Literal.atom_args_set Engine.length_enc Engine.ok_enc Engine.all_get Engine.all_set Engine.prog_get Engine.prog_set Engine.st_get Engine.st_set SrcCertm.length_enc SrcCertm.ok_enc SrcCertm.all_get SrcCertm.all_set SrcCertm.b_get SrcCertm.b_set SrcCertm.at__get SrcCertm.at__set GNode.length_enc GNode.ok_enc GNode.all_get GNode.all_set GNode.rule_get GNode.rule_set GNode.pred_get GNode.pred_set GNode.vals_get GNode.vals_set GNode.refs_get GNode.refs_set Term.length_enc Term.ok_enc Term.all_get Term.all_set Term.var_get Term.var_set Term.n_get Term.n_set Env.length_enc Env.ok_enc Env.all_get Env.all_set Env.val_get Env.val_set Env.set_get Env.set_set
attribute [local go_sem] size_put size_ext blk_put free_put blk_alloc free_alloc blk_drew free_drew blk_ext free_ext lookOr_some putOr_some segAt_some cellAt_some storeIn_some put_put put_alloc_new length_arr ok_arr_u8 ok_arr_u32 ok_arr_u64 ok_arr_i64 ok_arr_sl cellsV_agg cellsV_int cellsV_bool cellsV_string cellsV_pointer cellsV_slice cellsV_sl ok_int ok_bool ok_string ok_pointer ok_slice ok_sl toList_arr seg_arr set_arr nth_splice nth_splice0 seg_splice seg_splice0 splice_splice splice_splice0 length_splice_if
attribute [local go_sem ↓] execOp_box
attribute [local go_sem] box_run nth_arr_u8 put_arr_u8 blk_drewN free_drewN put_drewN blk_raw free_raw
/-- A fact that a certificate proves. -/
def FOk (t : InsS) (f : Fact) : Prop := 0 ≤ f.pred ∧ f.pred.toNat < t.p.preds.length ∧ TD t.p (InT t.N.length) f.pred.toNat f.t
theorem nbF_ok {t : InsS} {i : Nat} {vals refs : List Int} {bef : List Fact} (hb : ∀ f ∈ bef, FOk t f) (hi : bef.length = i) (hr : ∀ v ∈ refs, 0 ≤ v) : ∀ (ls : List PL) (u : Nat), (nbF t.R i vals refs bef ls u).1 = 0 → ∀ z ∈ ls, z.neg = false → FOk t ⟨(z.atom.pred : Int), insT z.atom vals⟩ ∧ insOk z.atom vals = true
  | [], _, _, z, hz, _ => by cases hz
  | l :: ls, u, h, z, hz, hn => by
    unfold nbF at h
    by_cases e1 : insOk l.atom vals = false
    · rw [if_pos e1] at h; cases h
    · rw [if_neg e1] at h
      cases hl : l.neg with
      | true =>
        rw [hl, if_pos rfl] at h
        by_cases e2 : insT l.atom vals ∈ rowsAt t.R l.atom.pred
        · rw [if_pos e2] at h; cases h
        · rw [if_neg e2] at h
          rcases List.mem_cons.1 hz with h1 | h1
          · rw [h1, hl] at hn; cases hn
          · exact nbF_ok hb hi hr ls u h z h1 hn
      | false =>
        rw [hl, if_neg (by decide)] at h
        by_cases e2 : refs.length ≤ u
        · rw [if_pos e2] at h; cases h
        · rw [if_neg e2] at h
          by_cases e3 : (i : Int) ≤ refs.getD u 0
          · rw [if_pos e3] at h; cases h
          · rw [if_neg e3] at h
            by_cases e4 : bef.getD (refs.getD u 0).toNat Fact.zero ≠ ⟨(l.atom.pred : Int), insT l.atom vals⟩
            · rw [if_pos e4] at h; cases h
            · rw [if_neg e4] at h
              rcases List.mem_cons.1 hz with h1 | h1
              · subst h1
                have h0 : 0 ≤ refs.getD u 0 := by
                  rw [List.getD_eq_getElem?_getD, List.getElem?_eq_getElem (by omega)]
                  exact hr _ (List.getElem_mem _)
                have hlt : (refs.getD u 0).toNat < bef.length := by omega
                have e5 : bef.getD (refs.getD u 0).toNat Fact.zero = ⟨(z.atom.pred : Int), insT z.atom vals⟩ := Decidable.of_not_not e4
                rw [← e5, List.getD_eq_getElem?_getD, List.getElem?_eq_getElem hlt]
                exact ⟨hb _ (List.getElem_mem _), by simpa using e1⟩
              · exact nbF_ok hb hi hr ls (u + 1) h z h1 hn
theorem ndF_ok {t : InsS} (ht : InG t) {nms : List (List UInt8)} {i : Nat} {d : CNode} (hd : NdOk d) {bef : List Fact} (hb : ∀ f ∈ bef, FOk t f) (hi : bef.length = i) (h : (ndF t.p t.N t.R nms i d bef).1 = 0) : FOk t (ndF t.p t.N t.R nms i d bef).2 := by
  rw [ndF_eq] at h ⊢
  cases hv : nvF t.N nms d.vals [] with
  | none => rw [hv] at h; cases h
  | some vals =>
    rw [hv] at h
    simp only [ndG] at h ⊢
    by_cases e : d.rule < 0
    · rw [if_pos e] at h ⊢
      unfold nlF at h ⊢
      by_cases e1 : (t.p.preds.length : Int) ≤ d.pred ∨ (pI t.p d.pred.toNat).base = false
      · rw [if_pos e1] at h; cases h
      · rw [if_neg e1] at h ⊢
        by_cases e2 : (vals.length : Int) ≠ (pI t.p d.pred.toNat).arity
        · rw [if_pos e2] at h; cases h
        · rw [if_neg e2] at h ⊢
          by_cases e3 : mkT (fun c => vals.getD c 0) vals.length ∉ rowsAt t.R d.pred.toNat
          · rw [if_pos e3] at h; cases h
          · rw [if_neg e3]
            have h1 := hd.pred
            exact ⟨h1, by show d.pred.toNat < _; omega, ht.rd _ _ (Decidable.of_not_not e3)⟩
    · rw [if_neg e] at h ⊢
      unfold nrF at h ⊢
      by_cases e1 : (t.p.rules.length : Int) ≤ d.rule
      · rw [if_pos e1] at h; cases h
      · rw [if_neg e1] at h ⊢
        have hrl : d.rule.toNat < t.p.rules.length := by omega
        have hrg : t.p.rules.getD d.rule.toNat ⟨⟨0, []⟩, []⟩ ∈ t.p.rules := by
          rw [List.getD_eq_getElem?_getD, List.getElem?_eq_getElem hrl]; exact List.getElem_mem _
        obtain ⟨r, hr⟩ : ∃ r, r = t.p.rules.getD d.rule.toNat ⟨⟨0, []⟩, []⟩ := ⟨_, rfl⟩
        rw [← hr] at h hrg ⊢
        by_cases e2 : (nbF t.R i vals d.refs bef r.body 0).1 ≠ 0
        · rw [if_pos e2] at h; exact absurd h e2
        · rw [if_neg e2] at h ⊢
          by_cases e3 : insOk r.head vals = false ∨ (nbF t.R i vals d.refs bef r.body 0).2 ≠ d.refs.length
          · rw [if_pos e3] at h; cases h
          · rw [if_neg e3]
            have hbody := nbF_ok (t := t) (vals := vals) hb hi hd.refs r.body 0 (Decidable.of_not_not e2)
            have hru := ht.pg.rul r hrg
            have hio : insOk r.head vals = true := by
              cases hx : insOk r.head vals with
              | true => rfl
              | false => exact absurd (.inl hx) e3
            refine ⟨by show (0 : Int) ≤ (r.head.pred : Int); omega, ?_, ?_⟩
            · show ((r.head.pred : Int)).toNat < _
              have := (ht.pg.pok.rl r hrg).2
              omega
            · show TD t.p (InT t.N.length) ((r.head.pred : Int)).toNat (insT r.head vals)
              rw [show ((r.head.pred : Int)).toNat = r.head.pred from by omega]
              have hhd := hru.1
              refine ⟨fun c hc => ?_, fun c h1 h2 => ?_⟩
              · rw [← hhd.1] at hc
                unfold insT
                rw [tg_mkT _ _ _ (by have := hhd.2.1; omega), if_pos hc]
                unfold insV
                cases hvr : (tA r.head c).var with
                | false =>
                  rw [if_neg (by decide)]
                  exact ((hhd.2.2 c hc).2 hvr).mono ht.pre.length_le
                | true =>
                  rw [if_pos rfl]
                  have hres := hru.2.2
                  unfold resB at hres
                  rw [Bool.and_eq_true] at hres
                  have hcv := hres.1
                  unfold covB at hcv
                  have h1 := List.all_eq_true.1 hcv _ (List.mem_of_getElem? (tA_at hc))
                  rw [hvr] at h1
                  have h2 : posB r (tA r.head c).n = true := by simpa using h1
                  unfold posB at h2
                  obtain ⟨l, hl, h3⟩ := List.any_eq_true.1 h2
                  rw [Bool.and_eq_true] at h3
                  obtain ⟨x, hx, h4⟩ := List.any_eq_true.1 h3.2
                  rw [Bool.and_eq_true] at h4
                  have h5 : x.n = (tA r.head c).n := by simpa using h4.2
                  obtain ⟨j, hj⟩ := List.getElem?_of_mem hx
                  have hjl : j < l.atom.args.length := (List.getElem?_eq_some_iff.1 hj).1
                  have e5 : tA l.atom j = x := Option.some.inj ((tA_at hjl).symm.trans hj)
                  have h6 := (hbody l hl (by simpa using h3.1)).1.2.2.1 j (by
                    show j < arP t.p ((l.atom.pred : Int)).toNat
                    rw [show ((l.atom.pred : Int)).toNat = l.atom.pred from by omega, ← (hru.2.1 l hl).1]; exact hjl)
                  have h7 : tg (insT l.atom vals) j = vals.getD (tA r.head c).n.toNat 0 := by
                    unfold insT
                    rw [tg_mkT _ _ _ (by have := (hru.2.1 l hl).2.1; omega), if_pos hjl]
                    unfold insV
                    rw [e5, h4.1, if_pos rfl, h5]
                  rw [h7] at h6
                  exact h6
              · unfold insT
                rw [tg_mkT _ _ _ h2, if_neg (by rw [hhd.1]; omega)]
theorem goK_ok {t : InsS} (ht : InG t) {nms : List (List UInt8)} : ∀ (ds : List CNode) (i : Nat) (bef : List Fact), (∀ d ∈ ds, NdOk d) → (∀ f ∈ bef, FOk t f) → bef.length = i → (goK t.p t.N t.R nms ds i bef).1 = 0 → (∀ f ∈ (goK t.p t.N t.R nms ds i bef).2, FOk t f) ∧ (goK t.p t.N t.R nms ds i bef).2.length = bef.length + ds.length
  | [], _, bef, _, hb, _, _ => ⟨hb, by simp [goK]⟩
  | d :: ds, i, bef, hd, hb, hi, h => by
    unfold goK at h ⊢
    by_cases e : (ndF t.p t.N t.R nms i d bef).1 ≠ 0
    · rw [if_pos e] at h; exact absurd h e
    · rw [if_neg e] at h ⊢
      have hf := ndF_ok ht (hd d List.mem_cons_self) hb hi (Decidable.of_not_not e)
      obtain ⟨h1, h2⟩ := goK_ok ht ds (i + 1) _ (fun x hx => hd x (List.mem_cons_of_mem _ hx)) (fun f hf' => by
        rcases List.mem_append.1 hf' with h1 | h1
        · exact hb f h1
        · rw [List.mem_singleton.1 h1]; exact hf) (by rw [List.length_append, hi]; rfl) h
      refine ⟨h1, ?_⟩
      rw [h2, List.length_append, List.length_cons]
      simp; omega
/-- The fact that an accepted certificate proves can be named. -/
theorem chkF_ok {t : InsS} (ht : InG t) {xs : List UInt8} (h : (chkF t.p t.N t.R xs).1 = 0) : FOk t (chkF t.p t.N t.R xs).2 := by
  unfold chkF at h ⊢
  by_cases e : (decC xs).1 ≠ 0
  · rw [if_pos e] at h; exact absurd h e
  · rw [if_neg e] at h ⊢
    by_cases e2 : (goK t.p t.N t.R (decC xs).2.1 (decC xs).2.2 0 []).1 ≠ 0
    · rw [if_pos e2] at h; exact absurd h e2
    · rw [if_neg e2]
      obtain ⟨d1, d2, d3, d4⟩ := decC_ok (xs := xs) (q := (decC xs).2) (by
        have : (decC xs).1 = 0 := Decidable.of_not_not e
        rw [← this])
      obtain ⟨h1, h2⟩ := goK_ok ht (decC xs).2.2 0 [] d4 (fun f hf => by cases hf) rfl (Decidable.of_not_not e2)
      have hl : 0 < (goK t.p t.N t.R (decC xs).2.1 (decC xs).2.2 0 []).2.length := by rw [h2]; simp; omega
      show FOk t (lastF _)
      unfold lastF
      rw [List.getD_eq_getElem?_getD, List.getElem?_eq_getElem (by omega)]
      exact h1 _ (List.getElem_mem _)
end Go.Proofs.Qxb6500787aGreat
