import Derived.Test.Qxb6500787aGreatEg

import Derived.StillTailTactics
import Derived.Deep.QuietTactic
import Derived.BigQuiet
import Derived.Deep.RegionHeld
import Derived.Deep.CutRange
import Derived.Laws.ResultCell
import Derived.Laws.Rows
import Derived.DeepKeys
import Derived.DataBytes
import Derived.Laws.StructEq
import Derived.Laws.AppendOwn
import Derived.Laws.MakeOwn
import Derived.Lib.AppendStr
set_option linter.unusedSimpArgs false
set_option linter.unusedVariables false
namespace Go.Proofs.Qxb6500787aGreat
open Go.RowKit Go.Blk
attribute [local go_sem ↓] execOp_load execOp_store execOp_alloc
attribute [local go_sem] Tryz.ld26 Tryz.st26 Tryz.ld27 Tryz.st27 Tryz.ld28 Tryz.st28 Tryz.ld3 Tryz.st3 Tryz.ld29 Tryz.st29 Tryz.ld44 Tryz.st44 Tryz.ld4 Tryz.st4 Tryz.ld50 Tryz.st50 Tryz.ld32 Tryz.st32 Tryz.ld49 Tryz.st49 Tryz.ld68 Tryz.st68 Tryz.ld9 Tryz.st9 Tryz.ld40 Tryz.st40 Tryz.ld138 Tryz.st138 Tryz.ld139 Tryz.st139 Tryz.ld146 Tryz.st146 Tryz.ld183 Tryz.st183 Tryz.ld184 Tryz.st184 Tryz.ld192 Tryz.st192 Tryz.ld195 Tryz.st195 Tryz.ld217 Tryz.st217 Tryz.ld159 Tryz.st159 Tryz.ld142 Tryz.st142 Tryz.ld2 Tryz.st2 Tryz.ld5 Tryz.st5 Tryz.ld12 Tryz.st12 Tryz.ld21 Tryz.st21 Tryz.ld22 Tryz.st22 Tryz.ld24 Tryz.st24 Tryz.ld58 Tryz.st58 Tryz.ld97 Tryz.st97 Tryz.ld101 Tryz.st101 Tryz.ld116 Tryz.st116 Tryz.ld121 Tryz.st121 Tryz.ld135 Tryz.st135 Tryz.ld136 Tryz.st136 Tryz.ld143 Tryz.st143 Tryz.ld148 Tryz.st148 Tryz.ld154 Tryz.st154 Tryz.ld173 Tryz.st173 Tryz.ld187 Tryz.st187 Tryz.ld222 Tryz.st222 Tryz.ld241 Tryz.st241 Tryz.ld248 Tryz.st248 Tryz.ld268 Tryz.st268 Tryz.ld272 Tryz.st272 Tryz.ld153 Tryz.st153 Tryz.ld255 Tryz.st255 Tryz.ld256 Tryz.st256 Tryz.ld129 Tryz.st129 Tryz.ld152 Tryz.st152 Tryz.ld31 Tryz.st31 Tryz.ld46 Tryz.st46 Tryz.ld52 Tryz.st52 Tryz.ld54 Tryz.st54 Tryz.ld60 Tryz.st60 Tryz.ld70 Tryz.st70 Tryz.ld74 Tryz.st74 Tryz.ld93 Tryz.st93 Tryz.ld141 Tryz.st141 Tryz.ld151 Tryz.st151 Tryz.ld170 Tryz.st170 Tryz.ld186 Tryz.st186 Tryz.ld189 Tryz.st189 Tryz.ld194 Tryz.st194 Tryz.ld197 Tryz.st197 Tryz.ld219 Tryz.st219 Tryz.ld224 Tryz.st224 Tryz.ld230 Tryz.st230 Tryz.ld235 Tryz.st235 Tryz.ld243 Tryz.st243 Tryz.ld247 Tryz.st247 Tryz.ld252 Tryz.st252 Tryz.ld258 Tryz.st258 Tryz.al153 Tryz.al255 Tryz.al256 Tryz.al129 Tryz.al152 Tryz.al31 Tryz.al46 Tryz.al52 Tryz.al54 Tryz.al60 Tryz.al70 Tryz.al74 Tryz.al93 Tryz.al141 Tryz.al151 Tryz.al170 Tryz.al186 Tryz.al189 Tryz.al194 Tryz.al197 Tryz.al219 Tryz.al224 Tryz.al230 Tryz.al235 Tryz.al243 Tryz.al247 Tryz.al252 Tryz.al258
attribute [local go_sem] Request.length_enc Request.ok_enc Request.all_get Request.all_set Request.kind_get Request.kind_set Request.blob_get Request.blob_set Request.items_get Request.items_set Request.pred_get Request.pred_set Request.slots_get Request.slots_set Trace.length_enc Trace.ok_enc Trace.all_get Trace.all_set Trace.op_get Trace.op_set Trace.calls_get Trace.calls_set Item.length_enc Item.ok_enc Item.all_get Item.all_set Item.del_get Item.del_set Item.pred_get Item.pred_set Item.args_get Item.args_set Reply.length_enc Reply.ok_enc Reply.all_get Reply.all_set Reply.code_get Reply.code_set Reply.kind_get Reply.kind_set Reply.index_get Reply.index_set Reply.yes_get Reply.yes_set Reply.preds_get Reply.preds_set Reply.rules_get Reply.rules_set Reply.arity_get Reply.arity_set Reply.rows_get Reply.rows_set Reply.fact_get Reply.fact_set Reply.fact_del_get Reply.fact_del_set Reply.fact_pred_get Reply.fact_pred_set Reply.fact_args_get Reply.fact_args_set GEntry.length_enc GEntry.ok_enc GEntry.all_get GEntry.all_set GEntry.seq_get GEntry.seq_set GEntry.kind_get GEntry.kind_set GEntry.code_get GEntry.code_set GOp.length_enc GOp.ok_enc GOp.all_get GOp.all_set GOp.kind_get GOp.kind_set GOp.raw_get GOp.raw_set Reader.length_enc Reader.ok_enc Reader.all_get Reader.all_set Reader.buf_get Reader.buf_set Reader.at__get Reader.at__set Slot.length_enc Slot.ok_enc Slot.all_get Slot.all_set Slot.bound_get Slot.bound_set Slot.name_get Slot.name_set Session.length_enc Session.ok_enc Session.all_get Session.all_set Session.svc_get Session.svc_set Session.buf_get Session.buf_set Session.closed_get Session.closed_set GProgram.length_enc GProgram.ok_enc GProgram.all_get GProgram.all_set GProgram.pool_get GProgram.pool_set GProgram.preds_get GProgram.preds_set GProgram.rules_get GProgram.rules_set GProgram.strata_get GProgram.strata_set PredInfo.length_enc PredInfo.ok_enc PredInfo.all_get PredInfo.all_set PredInfo.arity_get PredInfo.arity_set PredInfo.base_get PredInfo.base_set PredInfo.stratum_get PredInfo.stratum_set Change.length_enc Change.ok_enc Change.all_get Change.all_set Change.del_get Change.del_set Change.pred_get Change.pred_set Change.t_get Change.t_set Store.length_enc Store.ok_enc Store.all_get Store.all_set Store.names_get Store.names_set Store.arity_get Store.arity_set Store.rows_get Store.rows_set Src.length_enc Src.ok_enc Src.all_get Src.all_set Src.b_get Src.b_set Src.at__get Src.at__set Atom.length_enc Atom.ok_enc Atom.all_get Atom.all_set Atom.pred_get Atom.pred_set Atom.args_get Atom.args_set GRule.length_enc GRule.ok_enc GRule.all_get GRule.all_set GRule.head_get GRule.head_set GRule.body_get GRule.body_set GRule.head_pred_get GRule.head_pred_set GRule.head_args_get GRule.head_args_set Cert.length_enc Cert.ok_enc Cert.all_get Cert.all_set Cert.names_get Cert.names_set Cert.nodes_get Cert.nodes_set Fact.length_enc Fact.ok_enc Fact.all_get Fact.all_set Fact.pred_get Fact.pred_set Fact.t_get Fact.t_set Literal.length_enc Literal.ok_enc Literal.all_get Literal.all_set Literal.neg_get Literal.neg_set Literal.atom_get Literal.atom_set Literal.atom_pred_get Literal.atom_pred_set Literal.atom_args_get Literal.atom_args_set Engine.length_enc Engine.ok_enc Engine.all_get Engine.all_set Engine.prog_get Engine.prog_set Engine.st_get Engine.st_set SrcCertm.length_enc SrcCertm.ok_enc SrcCertm.all_get SrcCertm.all_set SrcCertm.b_get SrcCertm.b_set SrcCertm.at__get SrcCertm.at__set GNode.length_enc GNode.ok_enc GNode.all_get GNode.all_set GNode.rule_get GNode.rule_set GNode.pred_get GNode.pred_set GNode.vals_get GNode.vals_set GNode.refs_get GNode.refs_set Term.length_enc Term.ok_enc Term.all_get Term.all_set Term.var_get Term.var_set Term.n_get Term.n_set Env.length_enc Env.ok_enc Env.all_get Env.all_set Env.val_get Env.val_set Env.set_get Env.set_set
attribute [local go_sem] size_put size_ext blk_put free_put blk_alloc free_alloc blk_drew free_drew blk_ext free_ext lookOr_some putOr_some segAt_some cellAt_some storeIn_some put_put put_alloc_new length_arr ok_arr_u8 ok_arr_u32 ok_arr_u64 ok_arr_i64 ok_arr_sl cellsV_agg cellsV_int cellsV_bool cellsV_string cellsV_pointer cellsV_slice cellsV_sl ok_int ok_bool ok_string ok_pointer ok_slice ok_sl toList_arr seg_arr set_arr nth_splice nth_splice0 seg_splice seg_splice0 splice_splice splice_splice0 length_splice_if
attribute [local go_sem ↓] execOp_box
attribute [local go_sem] box_run nth_arr_u8 put_arr_u8 blk_drewN free_drewN put_drewN blk_raw free_raw

/-- Tables that a certificate is checked against. -/
structure CkD (p : PP) (D : Int → Prop) (R : List (List Tup)) : Prop where
  pg : PgG p
  pl : ∀ y, InT p.pool.length y → D y
  rd : RD' p D R
def FOkD (p : PP) (D : Int → Prop) (f : Fact) : Prop := 0 ≤ f.pred ∧ f.pred.toNat < p.preds.length ∧ TD p D f.pred.toNat f.t
theorem nbF_okD {p : PP} {D : Int → Prop} {R : List (List Tup)} {i : Nat} {vals refs : List Int} {bef : List Fact} (hb : ∀ f ∈ bef, FOkD p D f) (hi : bef.length = i) (hr : ∀ v ∈ refs, 0 ≤ v) : ∀ (ls : List PL) (u : Nat), (nbF R i vals refs bef ls u).1 = 0 → ∀ z ∈ ls, z.neg = false → FOkD p D ⟨(z.atom.pred : Int), insT z.atom vals⟩ ∧ insOk z.atom vals = true
  | [], _, _, z, hz, _ => by cases hz
  | l :: ls, u, h, z, hz, hn => by
    unfold nbF at h
    by_cases e1 : insOk l.atom vals = false
    · rw [if_pos e1] at h; cases h
    · rw [if_neg e1] at h
      cases hl : l.neg with
      | true =>
        rw [hl, if_pos rfl] at h
        by_cases e2 : insT l.atom vals ∈ rowsAt R l.atom.pred
        · rw [if_pos e2] at h; cases h
        · rw [if_neg e2] at h
          rcases List.mem_cons.1 hz with h1 | h1
          · rw [h1, hl] at hn; cases hn
          · exact nbF_okD hb hi hr ls u h z h1 hn
      | false =>
        rw [hl, if_neg (by decide)] at h
        by_cases e2 : refs.length ≤ u
        · rw [if_pos e2] at h; cases h
        · rw [if_neg e2] at h
          by_cases e3 : (i : Int) ≤ refs.getD u 0
          · rw [if_pos e3] at h; cases h
          · rw [if_neg e3] at h
            by_cases e4 : bef.getD (refs.getD u 0).toNat Fact.zero ≠ ⟨(l.atom.pred : Int), insT l.atom vals⟩
            · rw [if_pos e4] at h; cases h
            · rw [if_neg e4] at h
              rcases List.mem_cons.1 hz with h1 | h1
              · subst h1
                have h0 : 0 ≤ refs.getD u 0 := by
                  rw [List.getD_eq_getElem?_getD, List.getElem?_eq_getElem (by omega)]
                  exact hr _ (List.getElem_mem _)
                have hlt : (refs.getD u 0).toNat < bef.length := by omega
                have e5 : bef.getD (refs.getD u 0).toNat Fact.zero = ⟨(z.atom.pred : Int), insT z.atom vals⟩ := Decidable.of_not_not e4
                rw [← e5, List.getD_eq_getElem?_getD, List.getElem?_eq_getElem hlt]
                exact ⟨hb _ (List.getElem_mem _), by simpa using e1⟩
              · exact nbF_okD hb hi hr ls (u + 1) h z h1 hn
theorem ndF_okD {p : PP} {D : Int → Prop} {N : List (List UInt8)} {R : List (List Tup)} (ht : CkD p D R) {nms : List (List UInt8)} {i : Nat} {d : CNode} (hd : NdOk d) {bef : List Fact} (hb : ∀ f ∈ bef, FOkD p D f) (hi : bef.length = i) (h : (ndF p N R nms i d bef).1 = 0) : FOkD p D (ndF p N R nms i d bef).2 := by
  rw [ndF_eq] at h ⊢
  cases hv : nvF N nms d.vals [] with
  | none => rw [hv] at h; cases h
  | some vals =>
    rw [hv] at h
    simp only [ndG] at h ⊢
    by_cases e : d.rule < 0
    · rw [if_pos e] at h ⊢
      unfold nlF at h ⊢
      by_cases e1 : (p.preds.length : Int) ≤ d.pred ∨ (pI p d.pred.toNat).base = false
      · rw [if_pos e1] at h; cases h
      · rw [if_neg e1] at h ⊢
        by_cases e2 : (vals.length : Int) ≠ (pI p d.pred.toNat).arity
        · rw [if_pos e2] at h; cases h
        · rw [if_neg e2] at h ⊢
          by_cases e3 : mkT (fun c => vals.getD c 0) vals.length ∉ rowsAt R d.pred.toNat
          · rw [if_pos e3] at h; cases h
          · rw [if_neg e3]
            have h1 := hd.pred
            exact ⟨h1, by show d.pred.toNat < _; omega, ht.rd _ _ (Decidable.of_not_not e3)⟩
    · rw [if_neg e] at h ⊢
      unfold nrF at h ⊢
      by_cases e1 : (p.rules.length : Int) ≤ d.rule
      · rw [if_pos e1] at h; cases h
      · rw [if_neg e1] at h ⊢
        have hrl : d.rule.toNat < p.rules.length := by omega
        have hrg : p.rules.getD d.rule.toNat ⟨⟨0, []⟩, []⟩ ∈ p.rules := by
          rw [List.getD_eq_getElem?_getD, List.getElem?_eq_getElem hrl]; exact List.getElem_mem _
        obtain ⟨r, hr⟩ : ∃ r, r = p.rules.getD d.rule.toNat ⟨⟨0, []⟩, []⟩ := ⟨_, rfl⟩
        rw [← hr] at h hrg ⊢
        by_cases e2 : (nbF R i vals d.refs bef r.body 0).1 ≠ 0
        · rw [if_pos e2] at h; exact absurd h e2
        · rw [if_neg e2] at h ⊢
          by_cases e3 : insOk r.head vals = false ∨ (nbF R i vals d.refs bef r.body 0).2 ≠ d.refs.length
          · rw [if_pos e3] at h; cases h
          · rw [if_neg e3]
            have hbody := nbF_okD (R := R) (vals := vals) hb hi hd.refs r.body 0 (Decidable.of_not_not e2)
            have hru := ht.pg.rul r hrg
            have hio : insOk r.head vals = true := by
              cases hx : insOk r.head vals with
              | true => rfl
              | false => exact absurd (.inl hx) e3
            refine ⟨by show (0 : Int) ≤ (r.head.pred : Int); omega, ?_, ?_⟩
            · show ((r.head.pred : Int)).toNat < _
              have := (ht.pg.pok.rl r hrg).2
              omega
            · show TD p D ((r.head.pred : Int)).toNat (insT r.head vals)
              rw [show ((r.head.pred : Int)).toNat = r.head.pred from by omega]
              have hhd := hru.1
              refine ⟨fun c hc => ?_, fun c h1 h2 => ?_⟩
              · rw [← hhd.1] at hc
                unfold insT
                rw [tg_mkT _ _ _ (by have := hhd.2.1; omega), if_pos hc]
                unfold insV
                cases hvr : (tA r.head c).var with
                | false =>
                  rw [if_neg (by decide)]
                  exact ht.pl _ ((hhd.2.2 c hc).2 hvr)
                | true =>
                  rw [if_pos rfl]
                  have hres := hru.2.2
                  unfold resB at hres
                  rw [Bool.and_eq_true] at hres
                  have hcv := hres.1
                  unfold covB at hcv
                  have h1 := List.all_eq_true.1 hcv _ (List.mem_of_getElem? (tA_at hc))
                  rw [hvr] at h1
                  have h2 : posB r (tA r.head c).n = true := by simpa using h1
                  unfold posB at h2
                  obtain ⟨l, hl, h3⟩ := List.any_eq_true.1 h2
                  rw [Bool.and_eq_true] at h3
                  obtain ⟨x, hx, h4⟩ := List.any_eq_true.1 h3.2
                  rw [Bool.and_eq_true] at h4
                  have h5 : x.n = (tA r.head c).n := by simpa using h4.2
                  obtain ⟨j, hj⟩ := List.getElem?_of_mem hx
                  have hjl : j < l.atom.args.length := (List.getElem?_eq_some_iff.1 hj).1
                  have e5 : tA l.atom j = x := Option.some.inj ((tA_at hjl).symm.trans hj)
                  have h6 := (hbody l hl (by simpa using h3.1)).1.2.2.1 j (by
                    show j < arP p ((l.atom.pred : Int)).toNat
                    rw [show ((l.atom.pred : Int)).toNat = l.atom.pred from by omega, ← (hru.2.1 l hl).1]; exact hjl)
                  have h7 : tg (insT l.atom vals) j = vals.getD (tA r.head c).n.toNat 0 := by
                    unfold insT
                    rw [tg_mkT _ _ _ (by have := (hru.2.1 l hl).2.1; omega), if_pos hjl]
                    unfold insV
                    rw [e5, h4.1, if_pos rfl, h5]
                  rw [h7] at h6
                  exact h6
              · unfold insT
                rw [tg_mkT _ _ _ h2, if_neg (by rw [hhd.1]; omega)]
theorem goK_okD {p : PP} {D : Int → Prop} {N : List (List UInt8)} {R : List (List Tup)} (ht : CkD p D R) {nms : List (List UInt8)} : ∀ (ds : List CNode) (i : Nat) (bef : List Fact), (∀ d ∈ ds, NdOk d) → (∀ f ∈ bef, FOkD p D f) → bef.length = i → (goK p N R nms ds i bef).1 = 0 → (∀ f ∈ (goK p N R nms ds i bef).2, FOkD p D f) ∧ (goK p N R nms ds i bef).2.length = bef.length + ds.length
  | [], _, bef, _, hb, _, _ => ⟨hb, by simp [goK]⟩
  | d :: ds, i, bef, hd, hb, hi, h => by
    unfold goK at h ⊢
    by_cases e : (ndF p N R nms i d bef).1 ≠ 0
    · rw [if_pos e] at h; exact absurd h e
    · rw [if_neg e] at h ⊢
      have hf := ndF_okD ht (hd d List.mem_cons_self) hb hi (Decidable.of_not_not e)
      obtain ⟨h1, h2⟩ := goK_okD ht ds (i + 1) _ (fun x hx => hd x (List.mem_cons_of_mem _ hx)) (fun f hf' => by
        rcases List.mem_append.1 hf' with h1 | h1
        · exact hb f h1
        · rw [List.mem_singleton.1 h1]; exact hf) (by rw [List.length_append, hi]; rfl) h
      refine ⟨h1, ?_⟩
      rw [h2, List.length_append, List.length_cons]
      simp; omega
/-- The fact that an accepted certificate proves can be named. -/
theorem chkF_okD {p : PP} {D : Int → Prop} {N : List (List UInt8)} {R : List (List Tup)} (ht : CkD p D R) {xs : List UInt8} (h : (chkF p N R xs).1 = 0) : FOkD p D (chkF p N R xs).2 := by
  unfold chkF at h ⊢
  by_cases e : (decC xs).1 ≠ 0
  · rw [if_pos e] at h; exact absurd h e
  · rw [if_neg e] at h ⊢
    by_cases e2 : (goK p N R (decC xs).2.1 (decC xs).2.2 0 []).1 ≠ 0
    · rw [if_pos e2] at h; exact absurd h e2
    · rw [if_neg e2]
      obtain ⟨d1, d2, d3, d4⟩ := decC_ok (xs := xs) (q := (decC xs).2) (by
        have : (decC xs).1 = 0 := Decidable.of_not_not e
        rw [← this])
      obtain ⟨h1, h2⟩ := goK_okD ht (decC xs).2.2 0 [] d4 (fun f hf => by cases hf) rfl (Decidable.of_not_not e2)
      have hl : 0 < (goK p N R (decC xs).2.1 (decC xs).2.2 0 []).2.length := by rw [h2]; simp; omega
      show FOkD p D (lastF _)
      unfold lastF
      rw [List.getD_eq_getElem?_getD, List.getElem?_eq_getElem (by omega)]
      exact h1 _ (List.getElem_mem _)
/-- Two tables that tell the same facts. -/
structure Two (p : PP) (N N' : List (List UInt8)) (R R' : List (List Tup)) : Prop where
  a : NB p N R
  b : NB p N' R'
  tell : ∀ q x, (∃ t, memI R q t ∧ x = nmsT N t (arP p q)) ↔ (∃ t, memI R' q t ∧ x = nmsT N' t (arP p q))
  ar : ∀ q, arP p q ≤ 4
theorem Two.symm {p : PP} {N N' : List (List UInt8)} {R R' : List (List Tup)} (h : Two p N N' R R') : Two p N' N R' R := ⟨h.b, h.a, fun q x => (h.tell q x).symm, h.ar⟩
theorem Two.us {p : PP} {N N' : List (List UInt8)} {R R' : List (List Tup)} (h : Two p N N' R R') {y : Int} (hy : UsB p R y) : ∃ y', UsB p R' y' ∧ N'.getD y'.toNat [] = N.getD y.toNat [] := by
  rcases hy with hy | ⟨q, x, c, h1, h2, h3⟩
  · exact ⟨y, .inl hy, by rw [h.b.pool hy, h.a.pool hy]⟩
  · obtain ⟨t, h4, h5⟩ := (h.tell q _).1 ⟨x, h1, rfl⟩
    refine ⟨tg t c, .inr ⟨q, t, c, h4, h2, rfl⟩, ?_⟩
    have h6 := congrArg (fun l => l.getD c []) h5
    try dsimp only at h6
    rw [nmsT_get _ _ h2, nmsT_get _ _ h2] at h6
    rw [← h3]; exact h6.symm
theorem us_inj {p : PP} {N : List (List UInt8)} {R : List (List Tup)} (h : NB p N R) {y z : Int} (hy : UsB p R y) (hz : UsB p R z) (e : N.getD y.toNat [] = N.getD z.toNat []) : y = z := by
  rw [← look_at h.nd (h.us hy), ← look_at h.nd (h.us hz), e]
/-- Values that name the same constant in use, or none. -/
def VR (p : PP) (N N' : List (List UInt8)) (R R' : List (List Tup)) (y y' : Int) : Prop := (UsB p R y ∧ UsB p R' y' ∧ N.getD y.toNat [] = N'.getD y'.toNat []) ∨ (¬ UsB p R y ∧ ¬ UsB p R' y')
theorem VR.symm {p : PP} {N N' : List (List UInt8)} {R R' : List (List Tup)} {y y' : Int} (h : VR p N N' R R' y y') : VR p N' N R' R y' y := by
  rcases h with ⟨h1, h2, h3⟩ | ⟨h1, h2⟩
  · exact .inl ⟨h2, h1, h3.symm⟩
  · exact .inr ⟨h2, h1⟩
theorem us_look {p : PP} {N : List (List UInt8)} {R : List (List Tup)} (h : NB p N R) {nm : List UInt8} : UsB p R (lookF N nm) ↔ ∃ y, UsB p R y ∧ N.getD y.toNat [] = nm := by
  constructor
  · intro hu
    have h1 := h.us hu
    have h2 : lookF N nm ≠ -1 := fun e => by have := h1.1; omega
    obtain ⟨i, e1, e2⟩ := lookF_get h2
    exact ⟨_, hu, by rw [e1, Int.toNat_natCast, List.getD_eq_getElem?_getD, e2]; rfl⟩
  · rintro ⟨y, hy, e⟩
    rw [← e, look_at h.nd (h.us hy)]; exact hy
theorem Two.look {p : PP} {N N' : List (List UInt8)} {R R' : List (List Tup)} (h : Two p N N' R R') (nm : List UInt8) : VR p N N' R R' (lookF N nm) (lookF N' nm) := by
  have key : ∀ {N N' : List (List UInt8)} {R R' : List (List Tup)}, Two p N N' R R' → UsB p R (lookF N nm) → UsB p R' (lookF N' nm) := fun h hu => by
    obtain ⟨y, h1, h2⟩ := (us_look h.a).1 hu
    obtain ⟨y', h3, h4⟩ := h.us h1
    exact (us_look h.b).2 ⟨y', h3, h4.trans h2⟩
  by_cases hu : UsB p R (lookF N nm)
  · refine .inl ⟨hu, key h hu, ?_⟩
    have e1 : ∀ {N : List (List UInt8)} {R : List (List Tup)}, NB p N R → UsB p R (lookF N nm) → N.getD (lookF N nm).toNat [] = nm := fun {N} {R} hn hu => by
      have h1 := (hn.us hu).1
      obtain ⟨i, e1, e2⟩ := lookF_get (N := N) (nm := nm) (fun e => by rw [e] at h1; omega)
      rw [e1, Int.toNat_natCast, List.getD_eq_getElem?_getD, e2]; rfl
    rw [e1 h.a hu, e1 h.b (key h hu)]
  · exact .inr ⟨hu, fun h2 => hu (key h.symm h2)⟩
theorem Two.pool {p : PP} {N N' : List (List UInt8)} {R R' : List (List Tup)} (h : Two p N N' R R') {y : Int} (hy : InT p.pool.length y) : VR p N N' R R' y y := .inl ⟨.inl hy, .inl hy, by rw [h.a.pool hy, h.b.pool hy]⟩
/-- Tuples that tell the same. -/
def TuR (p : PP) (N N' : List (List UInt8)) (R R' : List (List Tup)) (q : Nat) (t t' : Tup) : Prop := (∀ c, c < arP p q → VR p N N' R R' (tg t c) (tg t' c)) ∧ ∀ c, arP p q ≤ c → c < 4 → tg t c = 0 ∧ tg t' c = 0
theorem TuR.symm {p : PP} {N N' : List (List UInt8)} {R R' : List (List Tup)} {q : Nat} {t t' : Tup} (h : TuR p N N' R R' q t t') : TuR p N' N R' R q t' t := ⟨fun c hc => (h.1 c hc).symm, fun c h1 h2 => ⟨(h.2 c h1 h2).2, (h.2 c h1 h2).1⟩⟩
theorem TuR.names {p : PP} {N N' : List (List UInt8)} {R R' : List (List Tup)} {q : Nat} {t t' : Tup} (h : TuR p N N' R R' q t t') (hu : ∀ c, c < arP p q → UsB p R (tg t c)) : nmsT N t (arP p q) = nmsT N' t' (arP p q) ∧ ∀ c, c < arP p q → UsB p R' (tg t' c) := by
  have h1 : ∀ c, c < arP p q → UsB p R' (tg t' c) ∧ N.getD (tg t c).toNat [] = N'.getD (tg t' c).toNat [] := fun c hc => by
    rcases h.1 c hc with ⟨-, h2, h3⟩ | ⟨h2, -⟩
    · exact ⟨h2, h3⟩
    · exact absurd (hu c hc) h2
  exact ⟨List.map_congr_left fun c hc => (h1 c (List.mem_range.1 hc)).2, fun c hc => (h1 c hc).1⟩
theorem Two.mem1 {p : PP} {N N' : List (List UInt8)} {R R' : List (List Tup)} (h : Two p N N' R R') {q : Nat} {t t' : Tup} (hT : TuR p N N' R R' q t t') (hm : t ∈ rowsAt R q) : t' ∈ rowsAt R' q := by
  obtain ⟨e1, e2⟩ := hT.names (fun c hc => .inr ⟨q, t, c, hm, hc, rfl⟩)
  obtain ⟨u, hu, e3⟩ := (h.tell q _).1 ⟨t, hm, rfl⟩
  have hu' : u ∈ rowsAt R' q := hu
  have e4 : u = t' := nm_inj h.b (h.ar q) (h.b.td q u hu') ⟨fun c hc => h.b.us (e2 c hc), fun c h1 h2 => (hT.2 c h1 h2).2⟩ (by rw [← e3, e1])
  rw [← e4]; exact hu'
theorem Two.mem {p : PP} {N N' : List (List UInt8)} {R R' : List (List Tup)} (h : Two p N N' R R') {q : Nat} {t t' : Tup} (hT : TuR p N N' R R' q t t') : t ∈ rowsAt R q ↔ t' ∈ rowsAt R' q := ⟨h.mem1 hT, h.symm.mem1 hT.symm⟩
/-- Facts that tell the same. -/
def FaR (p : PP) (N N' : List (List UInt8)) (R R' : List (List Tup)) (f f' : Fact) : Prop := f.pred = f'.pred ∧ 0 ≤ f.pred ∧ TuR p N N' R R' f.pred.toNat f.t f'.t ∧ ∀ c, c < arP p f.pred.toNat → UsB p R (tg f.t c)
theorem FaR.symm {p : PP} {N N' : List (List UInt8)} {R R' : List (List Tup)} {f f' : Fact} (h : FaR p N N' R R' f f') : FaR p N' N R' R f' f := by
  obtain ⟨h1, h2, h3, h4⟩ := h
  refine ⟨h1.symm, by rw [← h1]; exact h2, by rw [← h1]; exact h3.symm, by rw [← h1]; exact (h3.names h4).2⟩
theorem Two.eq1 {p : PP} {N N' : List (List UInt8)} {R R' : List (List Tup)} (h : Two p N N' R R') {f f' : Fact} (hf : FaR p N N' R R' f f') {q : Nat} {w w' : Tup} (hw : TuR p N N' R R' q w w') (e : f = ⟨(q : Int), w⟩) : f' = ⟨(q : Int), w'⟩ := by
  obtain ⟨h1, h2, h3, h4⟩ := hf
  have hp : f.pred = (q : Int) := by rw [e]
  have ht : f.t = w := by rw [e]
  have hq : f.pred.toNat = q := by rw [hp, Int.toNat_natCast]
  rw [hq, ht] at h3 h4
  have e1 : f'.t = w' := tg_ext fun c hc => by
    by_cases hcq : c < arP p q
    · rcases h3.1 c hcq with ⟨-, a2, a3⟩ | ⟨a1, -⟩
      · rcases hw.1 c hcq with ⟨-, b2, b3⟩ | ⟨b1, -⟩
        · exact us_inj h.b a2 b2 (a3.symm.trans b3)
        · exact absurd (h4 c hcq) b1
      · exact absurd (h4 c hcq) a1
    · rw [(h3.2 c (by omega) hc).2, (hw.2 c (by omega) hc).2]
  obtain ⟨fp, ft⟩ := f'
  have e2 : fp = (q : Int) := h1.symm.trans hp
  have e3 : ft = w' := e1
  rw [e2, e3]
theorem Two.eq {p : PP} {N N' : List (List UInt8)} {R R' : List (List Tup)} (h : Two p N N' R R') {f f' : Fact} (hf : FaR p N N' R R' f f') {q : Nat} {w w' : Tup} (hw : TuR p N N' R R' q w w') : f = ⟨(q : Int), w⟩ ↔ f' = ⟨(q : Int), w'⟩ := ⟨h.eq1 hf hw, h.symm.eq1 hf.symm hw.symm⟩
/-- Values of a node. -/
def VsR (p : PP) (N N' : List (List UInt8)) (R R' : List (List Tup)) (l l' : List Int) : Prop := l.length = l'.length ∧ ∀ i, i < l.length → VR p N N' R R' (l.getD i 0) (l'.getD i 0)
theorem gd_snoc {α : Type} (l : List α) (x d : α) (i : Nat) : (l ++ [x]).getD i d = if i < l.length then l.getD i d else if i = l.length then x else d := by
  rw [List.getD_eq_getElem?_getD, List.getD_eq_getElem?_getD]
  by_cases h : i < l.length
  · rw [if_pos h, List.getElem?_append_left h]
  · rw [if_neg h, List.getElem?_append_right (by omega)]
    by_cases e : i = l.length
    · rw [if_pos e, e, Nat.sub_self]; rfl
    · rw [if_neg e, List.getElem?_eq_none (by simp; omega)]; rfl
theorem nv_two {p : PP} {N N' : List (List UInt8)} {R R' : List (List Tup)} (h : Two p N N' R R') (nms : List (List UInt8)) : ∀ (vs l l' : List Int), VsR p N N' R R' l l' → (nvF N nms vs l = none ∧ nvF N' nms vs l' = none) ∨ ∃ k k', nvF N nms vs l = some k ∧ nvF N' nms vs l' = some k' ∧ VsR p N N' R R' k k'
  | [], l, l', hl => .inr ⟨l, l', rfl, rfl, hl⟩
  | v :: vs, l, l', hl => by
    unfold nvF
    by_cases e : (nms.length : Int) ≤ v
    · rw [if_pos e, if_pos e]; exact .inl ⟨rfl, rfl⟩
    · rw [if_neg e, if_neg e]
      refine nv_two h nms vs _ _ ⟨by rw [List.length_append, List.length_append, hl.1]; rfl, fun i hi => ?_⟩
      rw [List.length_append] at hi
      rw [gd_snoc, gd_snoc, ← hl.1]
      by_cases hil : i < l.length
      · rw [if_pos hil, if_pos hil]; exact hl.2 i hil
      · have hil2 : i = l.length := by simp at hi; omega
        rw [if_neg hil, if_neg hil, if_pos hil2, if_pos hil2]
        exact h.look _
theorem insO_two {l l' : List Int} (hl : l.length = l'.length) (a : PA) : insOk a l = insOk a l' := by
  unfold insOk insO
  rw [hl]
theorem ins_two {p : PP} {N N' : List (List UInt8)} {R R' : List (List Tup)} (h : Two p N N' R R') {l l' : List Int} (hl : VsR p N N' R R' l l') {a : PA} (ha : AtD p (InT p.pool.length) a) (hio : insOk a l = true) : TuR p N N' R R' a.pred (insT a l) (insT a l') := by
  obtain ⟨h1, h2, h3⟩ := ha
  refine ⟨fun c hc => ?_, fun c g1 g2 => ?_⟩
  · rw [← h1] at hc
    unfold insT
    rw [tg_mkT _ _ _ (by omega), tg_mkT _ _ _ (by omega), if_pos hc, if_pos hc]
    unfold insV
    cases hv : (tA a c).var with
    | false =>
      rw [if_neg (by decide), if_neg (by decide)]
      exact h.pool ((h3 c hc).2 hv)
    | true =>
      rw [if_pos rfl, if_pos rfl]
      refine hl.2 _ ?_
      have h4 := (h3 c hc).1 hv
      have h5 := List.all_eq_true.1 hio _ (List.mem_of_getElem? (tA_at hc))
      unfold insO at h5
      rw [hv] at h5
      have h6 : (tA a c).n < (l.length : Int) := by simpa using h5
      omega
  · unfold insT
    rw [tg_mkT _ _ _ g2, tg_mkT _ _ _ g2, if_neg (by omega), if_neg (by omega)]
    exact ⟨rfl, rfl⟩
theorem nb_two {p : PP} {N N' : List (List UInt8)} {R R' : List (List Tup)} (h : Two p N N' R R') {l l' : List Int} (hl : VsR p N N' R R' l l') {i : Nat} {refs : List Int} (hr : ∀ v ∈ refs, 0 ≤ v) {bef bef' : List Fact} (hb : bef.length = i) (hb' : bef'.length = i) (hbb : ∀ j, j < i → FaR p N N' R R' (bef.getD j Fact.zero) (bef'.getD j Fact.zero)) : ∀ (ls : List PL) (u : Nat), (∀ z ∈ ls, AtD p (InT p.pool.length) z.atom) → nbF R i l refs bef ls u = nbF R' i l' refs bef' ls u
  | [], _, _ => rfl
  | z :: ls, u, ha => by
    have ha' : ∀ z ∈ ls, AtD p (InT p.pool.length) z.atom := fun y hy => ha y (List.mem_cons_of_mem _ hy)
    have hz := ha z List.mem_cons_self
    unfold nbF
    rw [insO_two hl.1 z.atom]
    by_cases e1 : insOk z.atom l' = false
    · rw [if_pos e1, if_pos e1]
    · rw [if_neg e1, if_neg e1]
      have hio : insOk z.atom l = true := by rw [insO_two hl.1]; simpa using e1
      have hT := ins_two h hl hz hio
      cases hn : z.neg with
      | true =>
        rw [if_pos rfl, if_pos rfl]
        by_cases e2 : insT z.atom l ∈ rowsAt R z.atom.pred
        · rw [if_pos e2, if_pos ((h.mem hT).1 e2)]
        · rw [if_neg e2, if_neg (fun e3 => e2 ((h.mem hT).2 e3))]
          exact nb_two h hl hr hb hb' hbb ls u ha'
      | false =>
        rw [if_neg Bool.false_ne_true, if_neg Bool.false_ne_true]
        by_cases e2 : refs.length ≤ u
        · rw [if_pos e2, if_pos e2]
        · rw [if_neg e2, if_neg e2]
          by_cases e3 : (i : Int) ≤ refs.getD u 0
          · rw [if_pos e3, if_pos e3]
          · rw [if_neg e3, if_neg e3]
            have h0 : 0 ≤ refs.getD u 0 := by
              rw [List.getD_eq_getElem?_getD, List.getElem?_eq_getElem (by omega)]
              exact hr _ (List.getElem_mem _)
            have hq := h.eq (hbb (refs.getD u 0).toNat (by omega)) hT
            by_cases e4 : bef.getD (refs.getD u 0).toNat Fact.zero = ⟨(z.atom.pred : Int), insT z.atom l⟩
            · rw [if_neg (fun e => e e4), if_neg (fun e => e (hq.1 e4))]
              exact nb_two h hl hr hb hb' hbb ls (u + 1) ha'
            · rw [if_pos e4, if_pos (fun e => e4 (hq.2 e))]
theorem nd_two {p : PP} {N N' : List (List UInt8)} {R R' : List (List Tup)} (h : Two p N N' R R') (hp : PgG p) (nms : List (List UInt8)) {i : Nat} {d : CNode} (hd : NdOk d) {bef bef' : List Fact} (hb : bef.length = i) (hb' : bef'.length = i) (hbb : ∀ j, j < i → FaR p N N' R R' (bef.getD j Fact.zero) (bef'.getD j Fact.zero)) (hbo : ∀ f ∈ bef, FOkD p (UsB p R) f) : (ndF p N R nms i d bef).1 = (ndF p N' R' nms i d bef').1 ∧ ((ndF p N R nms i d bef).1 = 0 → FaR p N N' R R' (ndF p N R nms i d bef).2 (ndF p N' R' nms i d bef').2 ∧ FOkD p (UsB p R) (ndF p N R nms i d bef).2) := by
  have hck : CkD p (UsB p R) R := ⟨hp, fun y hy => .inl hy, fun q t ht => ⟨fun c hc => .inr ⟨q, t, c, ht, hc, rfl⟩, (h.a.td q t ht).2⟩⟩
  have hok := fun h0 => ndF_okD (N := N) hck (nms := nms) hd hbo hb h0
  rw [ndF_eq, ndF_eq] at *
  rcases nv_two h nms d.vals [] [] ⟨rfl, fun i hi => absurd hi (Nat.not_lt_zero _)⟩ with ⟨e1, e2⟩ | ⟨k, k', e1, e2, hk⟩
  · rw [e1, e2]
    exact ⟨rfl, fun h0 => by cases h0⟩
  · rw [e1] at hok
    rw [e1, e2]
    simp only [ndG] at hok ⊢
    have fin : ∀ {x x' : Int × Fact}, x.1 = x'.1 → (x.1 = 0 → x.2.pred = x'.2.pred ∧ TuR p N N' R R' x.2.pred.toNat x.2.t x'.2.t) → (x.1 = 0 → FOkD p (UsB p R) x.2) → x.1 = x'.1 ∧ (x.1 = 0 → FaR p N N' R R' x.2 x'.2 ∧ FOkD p (UsB p R) x.2) := fun a b c => ⟨a, fun h0 => ⟨⟨(b h0).1, (c h0).1, (b h0).2, (c h0).2.2.1⟩, c h0⟩⟩
    by_cases er : d.rule < 0
    · rw [if_pos er] at hok
      rw [if_pos er, if_pos er]
      refine fin ?_ ?_ hok
      all_goals unfold nlF
      all_goals (
        by_cases e3 : (p.preds.length : Int) ≤ d.pred ∨ (pI p d.pred.toNat).base = false
        · rw [if_pos e3, if_pos e3] <;> first | rfl | (intro h0; cases h0)
        · rw [if_neg e3, if_neg e3, ← hk.1]
          by_cases e4 : (k.length : Int) ≠ (pI p d.pred.toNat).arity
          · rw [if_pos e4, if_pos e4] <;> first | rfl | (intro h0; cases h0)
          · rw [if_neg e4, if_neg e4]
            have har := (pI_ar hp.pok (q := d.pred.toNat) (by have := hd.pred; omega))
            have hkl : k.length = arP p d.pred.toNat := by have := har.1; omega
            have hT : TuR p N N' R R' d.pred.toNat (mkT (fun c => k.getD c 0) k.length) (mkT (fun c => k'.getD c 0) k.length) := by
              refine ⟨fun c hc => ?_, fun c g1 g2 => ?_⟩
              · have h4 := h.ar d.pred.toNat
                rw [tg_mkT _ _ _ (by omega), tg_mkT _ _ _ (by omega), if_pos (by omega), if_pos (by omega)]
                exact hk.2 c (by omega)
              · rw [tg_mkT _ _ _ g2, tg_mkT _ _ _ g2, if_neg (by omega), if_neg (by omega)]; exact ⟨rfl, rfl⟩
            by_cases e5 : mkT (fun c => k.getD c 0) k.length ∈ rowsAt R d.pred.toNat
            · rw [if_neg (fun e => e e5), if_neg (fun e => e ((h.mem hT).1 e5))] <;> first | rfl | exact fun _ => ⟨rfl, hT⟩
            · rw [if_pos e5, if_pos (fun e => e5 ((h.mem hT).2 e))] <;> first | rfl | (intro h0; cases h0))
    · rw [if_neg er] at hok
      rw [if_neg er, if_neg er]
      refine fin ?_ ?_ hok
      all_goals unfold nrF
      all_goals (
        by_cases e3 : (p.rules.length : Int) ≤ d.rule
        · rw [if_pos e3, if_pos e3] <;> first | rfl | (intro h0; cases h0)
        · rw [if_neg e3, if_neg e3]
          have hrl : d.rule.toNat < p.rules.length := by omega
          have hrg : p.rules.getD d.rule.toNat ⟨⟨0, []⟩, []⟩ ∈ p.rules := by
            rw [List.getD_eq_getElem?_getD, List.getElem?_eq_getElem hrl]; exact List.getElem_mem _
          obtain ⟨r, hr⟩ : ∃ r, r = p.rules.getD d.rule.toNat ⟨⟨0, []⟩, []⟩ := ⟨_, rfl⟩
          rw [← hr] at hrg ⊢
          have hru := hp.rul r hrg
          rw [← nb_two h hk hd.refs hb hb' hbb r.body 0 hru.2.1, ← insO_two hk.1 r.head]
          by_cases e4 : (nbF R i k d.refs bef r.body 0).1 ≠ 0
          · rw [if_pos e4, if_pos e4] <;> first | rfl | exact fun h0 => absurd h0 e4
          · rw [if_neg e4, if_neg e4]
            by_cases e5 : insOk r.head k = false ∨ (nbF R i k d.refs bef r.body 0).2 ≠ d.refs.length
            · rw [if_pos e5, if_pos e5] <;> first | rfl | (intro h0; cases h0)
            · have hio : insOk r.head k = true := by
                cases hx : insOk r.head k with
                | true => rfl
                | false => exact absurd (.inl hx) e5
              have hT := ins_two h hk hru.1 hio
              rw [if_neg e5, if_neg e5] <;> first | rfl | exact fun _ => ⟨rfl, by show TuR p N N' R R' ((r.head.pred : Int)).toNat _ _; rw [Int.toNat_natCast]; exact hT⟩)
theorem gok_two {p : PP} {N N' : List (List UInt8)} {R R' : List (List Tup)} (h : Two p N N' R R') (hp : PgG p) (nms : List (List UInt8)) : ∀ (ds : List CNode) (i : Nat) (bef bef' : List Fact), (∀ d ∈ ds, NdOk d) → bef.length = i → bef'.length = i → (∀ j, j < i → FaR p N N' R R' (bef.getD j Fact.zero) (bef'.getD j Fact.zero)) → (∀ f ∈ bef, FOkD p (UsB p R) f) → (goK p N R nms ds i bef).1 = (goK p N' R' nms ds i bef').1 ∧ ((goK p N R nms ds i bef).1 = 0 → (goK p N R nms ds i bef).2.length = i + ds.length ∧ (goK p N' R' nms ds i bef').2.length = i + ds.length ∧ ∀ j, j < i + ds.length → FaR p N N' R R' ((goK p N R nms ds i bef).2.getD j Fact.zero) ((goK p N' R' nms ds i bef').2.getD j Fact.zero))
  | [], i, bef, bef', _, hb, hb', hbb, _ => ⟨rfl, fun _ => ⟨by simpa [goK] using hb, by simpa [goK] using hb', hbb⟩⟩
  | d :: ds, i, bef, bef', hd, hb, hb', hbb, hbo => by
    obtain ⟨n1, n2⟩ := nd_two h hp nms (hd d List.mem_cons_self) hb hb' hbb hbo
    unfold goK
    by_cases e : (ndF p N R nms i d bef).1 ≠ 0
    · rw [if_pos e, if_pos (by rw [← n1]; exact e)]
      exact ⟨n1, fun h0 => absurd h0 e⟩
    · have e' : (ndF p N R nms i d bef).1 = 0 := Decidable.of_not_not e
      rw [if_neg e, if_neg (by rw [← n1]; exact e)]
      obtain ⟨m1, m2⟩ := n2 e'
      obtain ⟨g1, g2⟩ := gok_two h hp nms ds (i + 1) (bef ++ [(ndF p N R nms i d bef).2]) (bef' ++ [(ndF p N' R' nms i d bef').2]) (fun x hx => hd x (List.mem_cons_of_mem _ hx)) (by rw [List.length_append, hb]; rfl) (by rw [List.length_append, hb']; rfl) (fun j hj => by
        rw [gd_snoc, gd_snoc, hb, hb']
        by_cases hji : j < i
        · rw [if_pos hji, if_pos hji]; exact hbb j hji
        · have hji2 : j = i := by omega
          rw [if_neg hji, if_neg hji, if_pos hji2, if_pos hji2]
          exact m1) (fun f hf => by
        rcases List.mem_append.1 hf with h1 | h1
        · exact hbo f h1
        · rw [List.mem_singleton.1 h1]; exact m2)
      refine ⟨g1, fun h0 => ?_⟩
      rw [List.length_cons, show i + (ds.length + 1) = i + 1 + ds.length from by omega]
      exact g2 h0
/-- A certificate checked against two tables that tell the same facts. -/
theorem chk_two {p : PP} {N N' : List (List UInt8)} {R R' : List (List Tup)} (h : Two p N N' R R') (hp : PgG p) (xs : List UInt8) : (chkF p N R xs).1 = (chkF p N' R' xs).1 ∧ ((chkF p N R xs).1 = 0 → (chkF p N R xs).2.pred = (chkF p N' R' xs).2.pred ∧ nmsT N (chkF p N R xs).2.t (arP p (chkF p N R xs).2.pred.toNat) = nmsT N' (chkF p N' R' xs).2.t (arP p (chkF p N R xs).2.pred.toNat)) := by
  unfold chkF
  by_cases e : (decC xs).1 ≠ 0
  · rw [if_pos e, if_pos e]; exact ⟨rfl, fun h0 => absurd h0 e⟩
  · rw [if_neg e, if_neg e]
    obtain ⟨d1, d2, d3, d4⟩ := decC_ok (xs := xs) (q := (decC xs).2) (by
      have : (decC xs).1 = 0 := Decidable.of_not_not e
      rw [← this])
    obtain ⟨g1, g2⟩ := gok_two h hp (decC xs).2.1 (decC xs).2.2 0 [] [] d4 rfl rfl (fun j hj => absurd hj (Nat.not_lt_zero _)) (fun f hf => by cases hf)
    by_cases e2 : (goK p N R (decC xs).2.1 (decC xs).2.2 0 []).1 ≠ 0
    · rw [if_pos e2, if_pos (by rw [← g1]; exact e2)]
      exact ⟨g1, fun h0 => absurd h0 e2⟩
    · rw [if_neg e2, if_neg (by rw [← g1]; exact e2)]
      refine ⟨rfl, fun _ => ?_⟩
      obtain ⟨k1, k2, k3⟩ := g2 (Decidable.of_not_not e2)
      show (lastF _).pred = (lastF _).pred ∧ nmsT N (lastF _).t (arP p (lastF _).pred.toNat) = nmsT N' (lastF _).t (arP p (lastF _).pred.toNat)
      unfold lastF
      rw [k1, k2]
      obtain ⟨h1, h2, h3, h4⟩ := k3 (0 + (decC xs).2.2.length - 1) (by omega)
      exact ⟨h1, (h3.names h4).1⟩
/-- A certificate on both sides. -/
theorem gr_mod {s s1 : Sv} {t : InsS} {m : MS} (hs : s.inst = some t) (ht : InG t) (hA : AgT t m) {xs : List UInt8} {q : PRep} (hi : grR s t xs q s1) {out : List UInt8} (hu : GrM m xs out) : encR' q = out ∧ AgS s1 m := by
  obtain ⟨rfl, rfl⟩ := hi
  refine ⟨?_, .inr ⟨t, rfl, hA⟩⟩
  obtain ⟨F1, T1, hQ, -, hu⟩ := hu
  obtain ⟨k1, k2, k3⟩ := hA.all ht hQ
  obtain ⟨s1, s2, s3, s4, s5, s6⟩ := (hA.msi ht).sto hQ
  obtain ⟨N', eN⟩ : ∃ N', N' = (stoF m.p.pool F1).1 := ⟨_, rfl⟩
  obtain ⟨R', eR⟩ : ∃ R', R' = (stoF m.p.pool F1).2 := ⟨_, rfl⟩
  rw [← eN, ← eR] at s5 s6 hu
  rw [← eN] at s1
  rw [← hA.p] at s5 s6 hu
  have h2 : Two t.p t.N N' t.R R' := ⟨k3, ⟨s1, s6.pre, s6.rd⟩, fun q x => by
    rw [← k1 q x]
    unfold memN memI
    rw [← s5 q, List.mem_map]
    exact ⟨fun ⟨y, a, b⟩ => ⟨y, a, b.symm⟩, fun ⟨y, a, b⟩ => ⟨y, a, b.symm⟩⟩, ar4 ht.pg.pok⟩
  obtain ⟨c1, c2⟩ := chk_two h2 ht.pg xs
  unfold grQ
  rcases hu with ⟨h3, rfl⟩ | ⟨h3, rfl⟩
  · rw [← c1] at h3 ⊢
    rw [if_pos h3, encZ1 _ _ h3 (by decide)]; rfl
  · rw [← c1] at h3
    rw [if_neg (fun e => e h3)]
    obtain ⟨c3, c4⟩ := c2 h3
    rw [← c3, ← c4]
    obtain ⟨pd, epd⟩ : ∃ pd, pd = (chkF t.p t.N t.R xs).2.pred := ⟨_, rfl⟩
    rw [← epd]
    obtain ⟨L, eL⟩ : ∃ L, L = nmsT t.N (chkF t.p t.N t.R xs).2.t (arP t.p pd.toNat) := ⟨_, rfl⟩
    have hL : L.length = arP t.p pd.toNat := by rw [eL]; exact nmsT_len _ _ _
    rw [← eL, ← hL]
    rfl
end Go.Proofs.Qxb6500787aGreat
