import Derived.Test.Qxb6500787aGreatEj

import Derived.StillTailTactics
import Derived.Deep.QuietTactic
import Derived.BigQuiet
import Derived.Deep.RegionHeld
import Derived.Deep.CutRange
import Derived.Laws.ResultCell
import Derived.Laws.Rows
import Derived.DeepKeys
import Derived.DataBytes
import Derived.Laws.StructEq
import Derived.Laws.AppendOwn
import Derived.Laws.MakeOwn
import Derived.Lib.AppendStr
set_option linter.unusedSimpArgs false
set_option linter.unusedVariables false
namespace Go.Proofs.Qxb6500787aGreat
open Go.RowKit Go.Blk
attribute [local go_sem ↓] execOp_load execOp_store execOp_alloc
attribute [local go_sem] Tryz.ld26 Tryz.st26 Tryz.ld27 Tryz.st27 Tryz.ld28 Tryz.st28 Tryz.ld3 Tryz.st3 Tryz.ld29 Tryz.st29 Tryz.ld44 Tryz.st44 Tryz.ld4 Tryz.st4 Tryz.ld50 Tryz.st50 Tryz.ld32 Tryz.st32 Tryz.ld49 Tryz.st49 Tryz.ld68 Tryz.st68 Tryz.ld9 Tryz.st9 Tryz.ld40 Tryz.st40 Tryz.ld138 Tryz.st138 Tryz.ld139 Tryz.st139 Tryz.ld146 Tryz.st146 Tryz.ld183 Tryz.st183 Tryz.ld184 Tryz.st184 Tryz.ld192 Tryz.st192 Tryz.ld195 Tryz.st195 Tryz.ld217 Tryz.st217 Tryz.ld159 Tryz.st159 Tryz.ld142 Tryz.st142 Tryz.ld2 Tryz.st2 Tryz.ld5 Tryz.st5 Tryz.ld12 Tryz.st12 Tryz.ld21 Tryz.st21 Tryz.ld22 Tryz.st22 Tryz.ld24 Tryz.st24 Tryz.ld58 Tryz.st58 Tryz.ld97 Tryz.st97 Tryz.ld101 Tryz.st101 Tryz.ld116 Tryz.st116 Tryz.ld121 Tryz.st121 Tryz.ld135 Tryz.st135 Tryz.ld136 Tryz.st136 Tryz.ld143 Tryz.st143 Tryz.ld148 Tryz.st148 Tryz.ld154 Tryz.st154 Tryz.ld173 Tryz.st173 Tryz.ld187 Tryz.st187 Tryz.ld222 Tryz.st222 Tryz.ld241 Tryz.st241 Tryz.ld248 Tryz.st248 Tryz.ld268 Tryz.st268 Tryz.ld272 Tryz.st272 Tryz.ld153 Tryz.st153 Tryz.ld255 Tryz.st255 Tryz.ld256 Tryz.st256 Tryz.ld129 Tryz.st129 Tryz.ld152 Tryz.st152 Tryz.ld31 Tryz.st31 Tryz.ld46 Tryz.st46 Tryz.ld52 Tryz.st52 Tryz.ld54 Tryz.st54 Tryz.ld60 Tryz.st60 Tryz.ld70 Tryz.st70 Tryz.ld74 Tryz.st74 Tryz.ld93 Tryz.st93 Tryz.ld141 Tryz.st141 Tryz.ld151 Tryz.st151 Tryz.ld170 Tryz.st170 Tryz.ld186 Tryz.st186 Tryz.ld189 Tryz.st189 Tryz.ld194 Tryz.st194 Tryz.ld197 Tryz.st197 Tryz.ld219 Tryz.st219 Tryz.ld224 Tryz.st224 Tryz.ld230 Tryz.st230 Tryz.ld235 Tryz.st235 Tryz.ld243 Tryz.st243 Tryz.ld247 Tryz.st247 Tryz.ld252 Tryz.st252 Tryz.ld258 Tryz.st258 Tryz.al153 Tryz.al255 Tryz.al256 Tryz.al129 Tryz.al152 Tryz.al31 Tryz.al46 Tryz.al52 Tryz.al54 Tryz.al60 Tryz.al70 Tryz.al74 Tryz.al93 Tryz.al141 Tryz.al151 Tryz.al170 Tryz.al186 Tryz.al189 Tryz.al194 Tryz.al197 Tryz.al219 Tryz.al224 Tryz.al230 Tryz.al235 Tryz.al243 Tryz.al247 Tryz.al252 Tryz.al258
attribute [local go_sem] Request.length_enc Request.ok_enc Request.all_get Request.all_set Request.kind_get Request.kind_set Request.blob_get Request.blob_set Request.items_get Request.items_set Request.pred_get Request.pred_set Request.slots_get Request.slots_set Trace.length_enc Trace.ok_enc Trace.all_get Trace.all_set Trace.op_get Trace.op_set Trace.calls_get Trace.calls_set Item.length_enc Item.ok_enc Item.all_get Item.all_set Item.del_get Item.del_set Item.pred_get Item.pred_set Item.args_get Item.args_set Reply.length_enc Reply.ok_enc Reply.all_get Reply.all_set Reply.code_get Reply.code_set Reply.kind_get Reply.kind_set Reply.index_get Reply.index_set Reply.yes_get Reply.yes_set Reply.preds_get Reply.preds_set Reply.rules_get Reply.rules_set Reply.arity_get Reply.arity_set Reply.rows_get Reply.rows_set Reply.fact_get Reply.fact_set Reply.fact_del_get Reply.fact_del_set Reply.fact_pred_get Reply.fact_pred_set Reply.fact_args_get Reply.fact_args_set GEntry.length_enc GEntry.ok_enc GEntry.all_get GEntry.all_set GEntry.seq_get GEntry.seq_set GEntry.kind_get GEntry.kind_set GEntry.code_get GEntry.code_set GOp.length_enc GOp.ok_enc GOp.all_get GOp.all_set GOp.kind_get GOp.kind_set GOp.raw_get GOp.raw_set Reader.length_enc Reader.ok_enc Reader.all_get Reader.all_set Reader.buf_get Reader.buf_set Reader.at__get Reader.at__set Slot.length_enc Slot.ok_enc Slot.all_get Slot.all_set Slot.bound_get Slot.bound_set Slot.name_get Slot.name_set Session.length_enc Session.ok_enc Session.all_get Session.all_set Session.svc_get Session.svc_set Session.buf_get Session.buf_set Session.closed_get Session.closed_set GProgram.length_enc GProgram.ok_enc GProgram.all_get GProgram.all_set GProgram.pool_get GProgram.pool_set GProgram.preds_get GProgram.preds_set GProgram.rules_get GProgram.rules_set GProgram.strata_get GProgram.strata_set PredInfo.length_enc PredInfo.ok_enc PredInfo.all_get PredInfo.all_set PredInfo.arity_get PredInfo.arity_set PredInfo.base_get PredInfo.base_set PredInfo.stratum_get PredInfo.stratum_set Change.length_enc Change.ok_enc Change.all_get Change.all_set Change.del_get Change.del_set Change.pred_get Change.pred_set Change.t_get Change.t_set Store.length_enc Store.ok_enc Store.all_get Store.all_set Store.names_get Store.names_set Store.arity_get Store.arity_set Store.rows_get Store.rows_set Src.length_enc Src.ok_enc Src.all_get Src.all_set Src.b_get Src.b_set Src.at__get Src.at__set Atom.length_enc Atom.ok_enc Atom.all_get Atom.all_set Atom.pred_get Atom.pred_set Atom.args_get Atom.args_set GRule.length_enc GRule.ok_enc GRule.all_get GRule.all_set GRule.head_get GRule.head_set GRule.body_get GRule.body_set GRule.head_pred_get GRule.head_pred_set GRule.head_args_get GRule.head_args_set Cert.length_enc Cert.ok_enc Cert.all_get Cert.all_set Cert.names_get Cert.names_set Cert.nodes_get Cert.nodes_set Fact.length_enc Fact.ok_enc Fact.all_get Fact.all_set Fact.pred_get Fact.pred_set Fact.t_get Fact.t_set Literal.length_enc Literal.ok_enc Literal.all_get Literal.all_set Literal.neg_get Literal.neg_set Literal.atom_get Literal.atom_set Literal.atom_pred_get Literal.atom_pred_set Literal.atom_args_get Literal.atom_args_set Engine.length_enc Engine.ok_enc Engine.all_get Engine.all_set Engine.prog_get Engine.prog_set Engine.st_get Engine.st_set SrcCertm.length_enc SrcCertm.ok_enc SrcCertm.all_get SrcCertm.all_set SrcCertm.b_get SrcCertm.b_set SrcCertm.at__get SrcCertm.at__set GNode.length_enc GNode.ok_enc GNode.all_get GNode.all_set GNode.rule_get GNode.rule_set GNode.pred_get GNode.pred_set GNode.vals_get GNode.vals_set GNode.refs_get GNode.refs_set Term.length_enc Term.ok_enc Term.all_get Term.all_set Term.var_get Term.var_set Term.n_get Term.n_set Env.length_enc Env.ok_enc Env.all_get Env.all_set Env.val_get Env.val_set Env.set_get Env.set_set
attribute [local go_sem] size_put size_ext blk_put free_put blk_alloc free_alloc blk_drew free_drew blk_ext free_ext lookOr_some putOr_some segAt_some cellAt_some storeIn_some put_put put_alloc_new length_arr ok_arr_u8 ok_arr_u32 ok_arr_u64 ok_arr_i64 ok_arr_sl cellsV_agg cellsV_int cellsV_bool cellsV_string cellsV_pointer cellsV_slice cellsV_sl ok_int ok_bool ok_string ok_pointer ok_slice ok_sl toList_arr seg_arr set_arr nth_splice nth_splice0 seg_splice seg_splice0 splice_splice splice_splice0 length_splice_if
attribute [local go_sem ↓] execOp_box
attribute [local go_sem] box_run nth_arr_u8 put_arr_u8 blk_drewN free_drewN put_drewN blk_raw free_raw

/-- The strata of a policy that the verifier lets through. -/
def LeaS (p : PP) : Prop := ∀ r ∈ p.rules, 0 ≤ (pI p r.head.pred).stratum ∧ ∀ z ∈ r.body, (pI p z.atom.pred).stratum + (if z.neg then 1 else 0) ≤ (pI p r.head.pred).stratum
theorem ver_lea {p p' : PP} (h : VerR p 0 p') (hl : ∀ r ∈ p.rules, r.head.pred < p.preds.length) : LeaS p' := by
  rcases h with ⟨h1, h2⟩ | ⟨h1, res, h2, h3⟩
  · exact absurd h2.symm h1
  · rcases h3 with ⟨-, h4⟩ | ⟨ps, rfl, h5, h6, -, rfl⟩
    · cases h4
    · have hfix := h2.fix ps rfl
      exact fun r hr => ⟨(h6 _ (List.mem_of_getElem? (pI_at (p := ⟨p.pool, ps, p.rules, maxS ps⟩) (by show r.head.pred < ps.length; rw [h5]; exact hl r hr)))).1, fun z hz => hfix r hr z hz⟩
def MsL (m : MS) : Prop := m.ld = true → LeaS m.p
theorem LdM.lea {m m' : MS} {xs out : List UInt8} (h : LdM m xs out m') (hm : MsL m) : MsL m' := by
  rcases h with ⟨-, -, rfl⟩ | ⟨h0, c, -, ⟨-, -, rfl⟩ | ⟨-, p', F1, T1, hv, -, ⟨-, -, rfl⟩ | ⟨-, -, rfl⟩⟩⟩
  · exact hm
  · exact hm
  · exact hm
  · intro _
    have hd := decP_ok h0
    obtain ⟨-, -, hr, hs, hv2⟩ := verR_ok hd hv
    refine ver_lea hv ?_
    have h2 : (decP xs).2.rules.all (rlB (decP xs).2) = true := by
      cases hb : (decP xs).2.rules.all (rlB (decP xs).2) with
      | true => rfl
      | false =>
        unfold verC at hv2
        by_cases e : limB (decP xs).2 = false
        · rw [if_pos e] at hv2; cases hv2
        · rw [if_neg e, if_pos hb] at hv2; cases hv2
    exact (rlB_preds h2).1
theorem MvR.lea {m m' : MS} {raw out : List UInt8} (h : MvR m raw out m') (hm : MsL m) : MsL m' := by
  rcases h with ⟨-, -, rfl⟩ | ⟨-, ⟨-, h⟩ | ⟨-, -, -, rfl⟩ | ⟨-, hl, ⟨-, h⟩ | ⟨-, -, rfl⟩ | ⟨-, -, rfl⟩ | ⟨-, -, rfl⟩⟩⟩
  · exact hm
  · exact h.lea hm
  · exact hm
  · rcases h with ⟨c, i, -, -, rfl⟩ | ⟨-, ⟨-, -, rfl⟩ | ⟨-, ⟨-, -, rfl⟩ | ⟨-, F1, T1, -, ⟨-, -, rfl⟩ | ⟨-, -, rfl⟩⟩⟩⟩
    · exact hm
    · exact hm
    · exact hm
    · exact hm
    · exact fun _ => hm hl
  · exact hm
  · exact hm
  · exact hm
theorem lm_down {α β : Type} {g : PA → (Nat → β) → α} {p : PP} {B : Nat → α → Prop} {s q : Nat} {x : α} (hq : (pI p q).stratum < (s : Int)) : ∀ d, LM g p B (s + d) q x → LM g p B s q x
  | 0, h => h
  | d + 1, h => lm_down hq d (lm_other (s := s + d) (by omega) h)
/-- The least model is closed under the rules. -/
theorem lm_closed {α β : Type} {g : PA → (Nat → β) → α} {p : PP} {B : Nat → α → Prop} (hL : LeaS p) (hT : TopS p) {r : PR} (hr : r ∈ p.rules) {σ : Nat → β} (hb : BodG g (LM g p B p.strata.toNat) r σ) : LM g p B p.strata.toNat r.head.pred (g r.head σ) := by
  obtain ⟨h0, h1⟩ := hL r hr
  have h2 := hT r hr
  obtain ⟨s, hs⟩ : ∃ s : Nat, (pI p r.head.pred).stratum = (s : Int) := ⟨(pI p r.head.pred).stratum.toNat, by omega⟩
  rw [hs] at h1 h2
  have hlt : s + 1 ≤ p.strata.toNat := by omega
  refine LM.le (s := s + 1) (Der.rule r σ hr hs (fun z hz hn => ?_) (fun z hz hn hm => ?_)) hlt
  · have h3 := h1 z hz
    rw [hn] at h3
    have h4 : (pI p z.atom.pred).stratum < ((s + 1 : Nat) : Int) := by simp at h3; omega
    have h5 := hb.1 z hz hn
    rw [show p.strata.toNat = (s + 1) + (p.strata.toNat - (s + 1)) from by omega] at h5
    exact lm_down h4 _ h5
  · exact hb.2 z hz hn (LM.le hm (by omega))
/-- What the service holds is closed under the rules. -/
theorem ing_closed {t : InsS} (ht : InG t) (hv : PgV t.p) (hL : LeaS t.p) {r : PR} (hr : r ∈ t.p.rules) {σ : Nat → Int} (hb : BodG gS (memI t.R) r σ) : memI t.R r.head.pred (gS r.head σ) := by
  obtain ⟨k1, k2⟩ := ht.der.lm (D := InT t.N.length) (B := memI (basR t.p t.R)) (fun r hr => (ht.pg.rul r hr).mono (fun y hy => hy.mono ht.pre.length_le)) (fun r hr => (ht.pg.pok.rl r hr).2) hv.neg hv.top (basR_len _ _) ht.dom ⟨fun q x hx => LM.up hx, fun q x hx => hx⟩ (Nat.zero_le _)
  refine k2 ht.cap _ _ (lm_closed hL hv.top hr ⟨fun z hz hn => k1 _ _ (hb.1 z hz hn), fun z hz hn hm => hb.2 z hz hn (k2 ht.cap _ _ hm)⟩)
theorem insT_gS (a : PA) (vals : List Int) : insT a vals = gS a (fun v => vals.getD v 0) := by
  unfold insT gS mkT insV vS
  rfl
theorem nb_snd {R : List (List Tup)} {i : Nat} {vals refs : List Int} {bef : List Fact} (hb : ∀ f ∈ bef, memI R f.pred.toNat f.t) (hi : bef.length = i) (hr : ∀ v ∈ refs, 0 ≤ v) : ∀ (ls : List PL) (u : Nat), (nbF R i vals refs bef ls u).1 = 0 → ∀ z ∈ ls, (z.neg = false → memI R z.atom.pred (insT z.atom vals)) ∧ (z.neg = true → ¬ memI R z.atom.pred (insT z.atom vals))
  | [], _, _, z, hz => by cases hz
  | l :: ls, u, h, z, hz => by
    unfold nbF at h
    by_cases e1 : insOk l.atom vals = false
    · rw [if_pos e1] at h; cases h
    · rw [if_neg e1] at h
      cases hl : l.neg with
      | true =>
        rw [hl, if_pos rfl] at h
        by_cases e2 : insT l.atom vals ∈ rowsAt R l.atom.pred
        · rw [if_pos e2] at h; cases h
        · rw [if_neg e2] at h
          rcases List.mem_cons.1 hz with h1 | h1
          · rw [h1]
            exact ⟨fun e => (by rw [hl] at e; cases e), fun _ => e2⟩
          · exact nb_snd hb hi hr ls u h z h1
      | false =>
        rw [hl, if_neg (by decide)] at h
        by_cases e2 : refs.length ≤ u
        · rw [if_pos e2] at h; cases h
        · rw [if_neg e2] at h
          by_cases e3 : (i : Int) ≤ refs.getD u 0
          · rw [if_pos e3] at h; cases h
          · rw [if_neg e3] at h
            by_cases e4 : bef.getD (refs.getD u 0).toNat Fact.zero ≠ ⟨(l.atom.pred : Int), insT l.atom vals⟩
            · rw [if_pos e4] at h; cases h
            · rw [if_neg e4] at h
              rcases List.mem_cons.1 hz with h1 | h1
              · subst h1
                refine ⟨fun _ => ?_, fun e => (by rw [hl] at e; cases e)⟩
                have h0 : 0 ≤ refs.getD u 0 := by
                  rw [List.getD_eq_getElem?_getD, List.getElem?_eq_getElem (by omega)]
                  exact hr _ (List.getElem_mem _)
                have hlt : (refs.getD u 0).toNat < bef.length := by omega
                have e5 : bef.getD (refs.getD u 0).toNat Fact.zero = ⟨(z.atom.pred : Int), insT z.atom vals⟩ := Decidable.of_not_not e4
                rw [List.getD_eq_getElem?_getD, List.getElem?_eq_getElem hlt] at e5
                have h6 := hb _ (List.getElem_mem hlt)
                have e6 : bef[(refs.getD u 0).toNat] = ⟨(z.atom.pred : Int), insT z.atom vals⟩ := e5
                rw [e6] at h6
                have h7 : memI R ((z.atom.pred : Int)).toNat (insT z.atom vals) := h6
                rw [Int.toNat_natCast] at h7
                exact h7
              · exact nb_snd hb hi hr ls (u + 1) h z h1
theorem nd_snd {t : InsS} (ht : InG t) (hv : PgV t.p) (hL : LeaS t.p) {nms : List (List UInt8)} {i : Nat} {d : CNode} (hd : NdOk d) {bef : List Fact} (hb : ∀ f ∈ bef, memI t.R f.pred.toNat f.t) (hi : bef.length = i) (h : (ndF t.p t.N t.R nms i d bef).1 = 0) : memI t.R (ndF t.p t.N t.R nms i d bef).2.pred.toNat (ndF t.p t.N t.R nms i d bef).2.t := by
  rw [ndF_eq] at h ⊢
  cases hvv : nvF t.N nms d.vals [] with
  | none => rw [hvv] at h; cases h
  | some vals =>
    rw [hvv] at h
    simp only [ndG] at h ⊢
    by_cases e : d.rule < 0
    · rw [if_pos e] at h ⊢
      unfold nlF at h ⊢
      by_cases e1 : (t.p.preds.length : Int) ≤ d.pred ∨ (pI t.p d.pred.toNat).base = false
      · rw [if_pos e1] at h; cases h
      · rw [if_neg e1] at h ⊢
        by_cases e2 : (vals.length : Int) ≠ (pI t.p d.pred.toNat).arity
        · rw [if_pos e2] at h; cases h
        · rw [if_neg e2] at h ⊢
          by_cases e3 : mkT (fun c => vals.getD c 0) vals.length ∉ rowsAt t.R d.pred.toNat
          · rw [if_pos e3] at h; cases h
          · rw [if_neg e3]
            have e4 : mkT (fun c => vals.getD c 0) vals.length ∈ rowsAt t.R d.pred.toNat := Decidable.of_not_not e3
            exact e4
    · rw [if_neg e] at h ⊢
      unfold nrF at h ⊢
      by_cases e1 : (t.p.rules.length : Int) ≤ d.rule
      · rw [if_pos e1] at h; cases h
      · rw [if_neg e1] at h ⊢
        have hrl : d.rule.toNat < t.p.rules.length := by omega
        have hrg : t.p.rules.getD d.rule.toNat ⟨⟨0, []⟩, []⟩ ∈ t.p.rules := by
          rw [List.getD_eq_getElem?_getD, List.getElem?_eq_getElem hrl]; exact List.getElem_mem _
        obtain ⟨r, hr⟩ : ∃ r, r = t.p.rules.getD d.rule.toNat ⟨⟨0, []⟩, []⟩ := ⟨_, rfl⟩
        rw [← hr] at h hrg ⊢
        by_cases e2 : (nbF t.R i vals d.refs bef r.body 0).1 ≠ 0
        · rw [if_pos e2] at h; exact absurd h e2
        · rw [if_neg e2] at h ⊢
          by_cases e3 : insOk r.head vals = false ∨ (nbF t.R i vals d.refs bef r.body 0).2 ≠ d.refs.length
          · rw [if_pos e3] at h; cases h
          · rw [if_neg e3]
            have hbody := nb_snd hb hi hd.refs r.body 0 (Decidable.of_not_not e2)
            show memI t.R ((r.head.pred : Int)).toNat (insT r.head vals)
            rw [Int.toNat_natCast, insT_gS]
            refine ing_closed ht hv hL hrg ⟨fun z hz hn => ?_, fun z hz hn => ?_⟩
            · rw [← insT_gS]; exact (hbody z hz).1 hn
            · rw [← insT_gS]; exact (hbody z hz).2 hn
theorem gok_snd {t : InsS} (ht : InG t) (hv : PgV t.p) (hL : LeaS t.p) {nms : List (List UInt8)} : ∀ (ds : List CNode) (i : Nat) (bef : List Fact), (∀ d ∈ ds, NdOk d) → (∀ f ∈ bef, memI t.R f.pred.toNat f.t) → bef.length = i → (goK t.p t.N t.R nms ds i bef).1 = 0 → ∀ f ∈ (goK t.p t.N t.R nms ds i bef).2, memI t.R f.pred.toNat f.t
  | [], _, bef, _, hb, _, _ => hb
  | d :: ds, i, bef, hd, hb, hi, h => by
    unfold goK at h ⊢
    by_cases e : (ndF t.p t.N t.R nms i d bef).1 ≠ 0
    · rw [if_pos e] at h; exact absurd h e
    · rw [if_neg e] at h ⊢
      have hf := nd_snd ht hv hL (hd d List.mem_cons_self) hb hi (Decidable.of_not_not e)
      exact gok_snd ht hv hL ds (i + 1) _ (fun x hx => hd x (List.mem_cons_of_mem _ hx)) (fun f hf' => by
        rcases List.mem_append.1 hf' with h1 | h1
        · exact hb f h1
        · rw [List.mem_singleton.1 h1]; exact hf) (by rw [List.length_append, hi]; rfl) h
/-- An accepted certificate proves a fact of the perfect model. -/
theorem chk_snd {t : InsS} (ht : InG t) (hv : PgV t.p) (hL : LeaS t.p) {xs : List UInt8} (h : (chkF t.p t.N t.R xs).1 = 0) : memI t.R (chkF t.p t.N t.R xs).2.pred.toNat (chkF t.p t.N t.R xs).2.t := by
  unfold chkF at h ⊢
  by_cases e : (decC xs).1 ≠ 0
  · rw [if_pos e] at h; exact absurd h e
  · rw [if_neg e] at h ⊢
    by_cases e2 : (goK t.p t.N t.R (decC xs).2.1 (decC xs).2.2 0 []).1 ≠ 0
    · rw [if_pos e2] at h; exact absurd h e2
    · rw [if_neg e2]
      obtain ⟨d1, d2, d3, d4⟩ := decC_ok (xs := xs) (q := (decC xs).2) (by
        have : (decC xs).1 = 0 := Decidable.of_not_not e
        rw [← this])
      have h1 := gok_snd ht hv hL (decC xs).2.2 0 [] d4 (fun f hf => by cases hf) rfl (Decidable.of_not_not e2)
      have h2 := (goK_ok ht (decC xs).2.2 0 [] d4 (fun f hf => by cases hf) rfl (Decidable.of_not_not e2)).2
      have hl : 0 < (goK t.p t.N t.R (decC xs).2.1 (decC xs).2.2 0 []).2.length := by rw [h2]; simp; omega
      show memI t.R (lastF _).pred.toNat (lastF _).t
      unfold lastF
      rw [List.getD_eq_getElem?_getD, List.getElem?_eq_getElem (by omega)]
      exact h1 _ (List.getElem_mem _)
/-- A certificate answered OK, told by names. -/
theorem gr_snd {s s' : Sv} {m m' : MS} {M : Int} (hI : SvI M s) (hA : AgS s m) (hL : MsL m) {raw : List UInt8} {q : PRep} (hv : svR s raw q s') {out : List UInt8} (hm : MvR m raw out m') (hk : q.kind = 7) (hc : q.code = 0) : m' = m ∧ m.ld = true ∧ ∀ F1 T1, PfTo m.p (constF m.p.pool m.F) 0 m.F [] F1 T1 → 0 ≤ q.fpred ∧ q.fpred.toNat < F1.length ∧ q.fargs ∈ F1.getD q.fpred.toNat [] := by
  obtain ⟨s1, hv, -⟩ := hv
  rcases hv with ⟨h0, rfl, -⟩ | ⟨h0, hv⟩
  · cases hk
  rcases hm with ⟨h1, -⟩ | ⟨-, hm⟩
  · exact absurd h0 h1
  have hkk : ∀ {k : Int} {P : Reply → Sv → Prop}, PZ P q s1 → (∀ rep s', P rep s' → rep.kind = k) → q.kind = k := fun hP h => by
    obtain ⟨rep, h1, rfl⟩ := hP
    exact h rep _ h1
  rcases hv with ⟨-, hP⟩ | ⟨h1, -, rfl, -⟩ | ⟨t, hti, hv⟩
  · have := hkk (k := 1) hP (fun rep s' h => by
      rcases h with ⟨-, rfl, -⟩ | ⟨-, vc, p', -, ⟨-, rfl, -⟩ | ⟨-, P, -, ⟨-, rfl, -⟩ | ⟨-, rfl, -⟩⟩⟩ <;> rfl)
    rw [hk] at this; cases this
  · cases hc
  · have hti' : s.inst = some t := hti
    have hAT : AgT t m := by
      rcases hA with ⟨h, -⟩ | ⟨t', ht', h⟩
      · rw [hti'] at h; cases h
      · rw [hti'] at ht'; cases ht'; exact h
    have hG := hI.ins t hti'
    rcases hv with ⟨-, hP⟩ | ⟨-, hP⟩ | ⟨-, hP⟩ | ⟨-, hP⟩ | ⟨-, hP⟩ | ⟨hk7, hP⟩
    · have := hkk (k := 2) hP (fun rep s' h => by
        rcases h with ⟨-, rfl, -⟩ | ⟨-, mc, t1, co, -, ⟨-, rfl, -⟩ | ⟨-, ⟨-, rfl, -⟩ | ⟨-, code, ix, R', -, ⟨-, rfl, -⟩ | ⟨-, rfl, -⟩⟩⟩⟩ <;> rfl)
      rw [hk] at this; cases this
    · have := hkk (k := 3) hP (fun rep s' h => by
        rcases h with ⟨-, rfl, -⟩ | ⟨-, code, ix, R', -, ⟨-, rfl, -⟩ | ⟨-, rfl, -⟩⟩ <;> rfl)
      rw [hk] at this; cases this
    · have := hkk (k := 4) hP (fun rep s' h => by
        rcases h with ⟨c, i, -, rfl, -⟩ | ⟨-, mc, t1, co, -, ⟨-, rfl, -⟩ | ⟨-, ⟨-, rfl, -⟩ | ⟨-, code, ix, R', -, ⟨-, rfl, -⟩ | ⟨-, rfl, -⟩⟩⟩⟩ <;> rfl)
      rw [hk] at this; cases this
    · have := hkk (k := 5) hP (fun rep s' h => by
        have h9 : rep = (qyF s.clr t (itP (decF raw).2) (itA (decF raw).2)).1 := congrArg Prod.fst h
        rw [h9]
        unfold qyF
        split <;> rfl)
      rw [hk] at this; cases this
    · have h9 := hP.1
      rw [h9] at hk
      unfold ptQ at hk
      split at hk <;> cases hk
    · obtain ⟨hq, -⟩ := hP
      have hm7 : m' = m := by
        rw [hk7] at hm
        rcases hm with ⟨h1, -⟩ | ⟨-, -, -, h1⟩ | ⟨-, -, ⟨h1, -⟩ | ⟨h1, -⟩ | ⟨h1, -⟩ | ⟨-, -, h1⟩⟩
        · cases h1
        · exact h1
        · rcases h1 with h1 | h1 | h1 <;> cases h1
        · cases h1
        · cases h1
        · exact h1
      refine ⟨hm7, hAT.ld, fun F1 T1 hQ => ?_⟩
      have hLt : LeaS t.p := by rw [hAT.p]; exact hL hAT.ld
      obtain ⟨k1, k2, k3⟩ := hAT.all hG hQ
      have hFl := ((hAT.msi hG).perf hQ).2.1
      unfold grQ at hq
      by_cases e : (chkF t.p t.N t.R (decF raw).2.blob).1 ≠ 0
      · rw [if_pos e] at hq
        rw [hq] at hc
        exact absurd hc e
      · rw [if_neg e] at hq
        have e' := Decidable.of_not_not e
        have h1 := chk_snd hG hAT.v hLt e'
        have h2 := chkF_ok hG e'
        rw [hq]
        refine ⟨h2.1, ?_, (k1 _ _).2 ⟨_, h1, rfl⟩⟩
        show (chkF t.p t.N t.R (decF raw).2.blob).2.pred.toNat < F1.length
        rw [hFl, ← hAT.p]; exact h2.2.1
end Go.Proofs.Qxb6500787aGreat
