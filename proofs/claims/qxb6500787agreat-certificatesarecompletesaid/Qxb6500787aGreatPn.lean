import Derived.Test.Qxb6500787aGreatPm
import Derived.Test.Qxb6500787aGreatXe

import Derived.StillTailTactics
import Derived.Deep.QuietTactic
import Derived.BigQuiet
import Derived.Deep.RegionHeld
import Derived.Deep.CutRange
import Derived.Laws.ResultCell
import Derived.Laws.Rows
import Derived.DeepKeys
import Derived.DataBytes
import Derived.Laws.StructEq
import Derived.Laws.AppendOwn
import Derived.Laws.MakeOwn
import Derived.Lib.AppendStr
set_option linter.unusedSimpArgs false
set_option linter.unusedVariables false
namespace Go.Proofs.Qxb6500787aGreat
open Go.RowKit Go.Blk
attribute [local go_sem ↓] execOp_load execOp_store execOp_alloc
attribute [local go_sem] Tryz.ld26 Tryz.st26 Tryz.ld27 Tryz.st27 Tryz.ld28 Tryz.st28 Tryz.ld3 Tryz.st3 Tryz.ld29 Tryz.st29 Tryz.ld44 Tryz.st44 Tryz.ld4 Tryz.st4 Tryz.ld50 Tryz.st50 Tryz.ld32 Tryz.st32 Tryz.ld49 Tryz.st49 Tryz.ld68 Tryz.st68 Tryz.ld9 Tryz.st9 Tryz.ld40 Tryz.st40 Tryz.ld138 Tryz.st138 Tryz.ld139 Tryz.st139 Tryz.ld146 Tryz.st146 Tryz.ld183 Tryz.st183 Tryz.ld184 Tryz.st184 Tryz.ld192 Tryz.st192 Tryz.ld195 Tryz.st195 Tryz.ld217 Tryz.st217 Tryz.ld159 Tryz.st159 Tryz.ld142 Tryz.st142 Tryz.ld2 Tryz.st2 Tryz.ld5 Tryz.st5 Tryz.ld12 Tryz.st12 Tryz.ld21 Tryz.st21 Tryz.ld22 Tryz.st22 Tryz.ld24 Tryz.st24 Tryz.ld58 Tryz.st58 Tryz.ld97 Tryz.st97 Tryz.ld101 Tryz.st101 Tryz.ld116 Tryz.st116 Tryz.ld121 Tryz.st121 Tryz.ld135 Tryz.st135 Tryz.ld136 Tryz.st136 Tryz.ld143 Tryz.st143 Tryz.ld148 Tryz.st148 Tryz.ld154 Tryz.st154 Tryz.ld173 Tryz.st173 Tryz.ld187 Tryz.st187 Tryz.ld222 Tryz.st222 Tryz.ld241 Tryz.st241 Tryz.ld248 Tryz.st248 Tryz.ld268 Tryz.st268 Tryz.ld272 Tryz.st272 Tryz.ld153 Tryz.st153 Tryz.ld255 Tryz.st255 Tryz.ld256 Tryz.st256 Tryz.ld129 Tryz.st129 Tryz.ld152 Tryz.st152 Tryz.ld31 Tryz.st31 Tryz.ld46 Tryz.st46 Tryz.ld52 Tryz.st52 Tryz.ld54 Tryz.st54 Tryz.ld60 Tryz.st60 Tryz.ld70 Tryz.st70 Tryz.ld74 Tryz.st74 Tryz.ld93 Tryz.st93 Tryz.ld141 Tryz.st141 Tryz.ld151 Tryz.st151 Tryz.ld170 Tryz.st170 Tryz.ld186 Tryz.st186 Tryz.ld189 Tryz.st189 Tryz.ld194 Tryz.st194 Tryz.ld197 Tryz.st197 Tryz.ld219 Tryz.st219 Tryz.ld224 Tryz.st224 Tryz.ld230 Tryz.st230 Tryz.ld235 Tryz.st235 Tryz.ld243 Tryz.st243 Tryz.ld247 Tryz.st247 Tryz.ld252 Tryz.st252 Tryz.ld258 Tryz.st258 Tryz.al153 Tryz.al255 Tryz.al256 Tryz.al129 Tryz.al152 Tryz.al31 Tryz.al46 Tryz.al52 Tryz.al54 Tryz.al60 Tryz.al70 Tryz.al74 Tryz.al93 Tryz.al141 Tryz.al151 Tryz.al170 Tryz.al186 Tryz.al189 Tryz.al194 Tryz.al197 Tryz.al219 Tryz.al224 Tryz.al230 Tryz.al235 Tryz.al243 Tryz.al247 Tryz.al252 Tryz.al258
attribute [local go_sem] Request.length_enc Request.ok_enc Request.all_get Request.all_set Request.kind_get Request.kind_set Request.blob_get Request.blob_set Request.items_get Request.items_set Request.pred_get Request.pred_set Request.slots_get Request.slots_set Trace.length_enc Trace.ok_enc Trace.all_get Trace.all_set Trace.op_get Trace.op_set Trace.calls_get Trace.calls_set Item.length_enc Item.ok_enc Item.all_get Item.all_set Item.del_get Item.del_set Item.pred_get Item.pred_set Item.args_get Item.args_set Reply.length_enc Reply.ok_enc Reply.all_get Reply.all_set Reply.code_get Reply.code_set Reply.kind_get Reply.kind_set Reply.index_get Reply.index_set Reply.yes_get Reply.yes_set Reply.preds_get Reply.preds_set Reply.rules_get Reply.rules_set Reply.arity_get Reply.arity_set Reply.rows_get Reply.rows_set Reply.fact_get Reply.fact_set Reply.fact_del_get Reply.fact_del_set Reply.fact_pred_get Reply.fact_pred_set Reply.fact_args_get Reply.fact_args_set GEntry.length_enc GEntry.ok_enc GEntry.all_get GEntry.all_set GEntry.seq_get GEntry.seq_set GEntry.kind_get GEntry.kind_set GEntry.code_get GEntry.code_set GOp.length_enc GOp.ok_enc GOp.all_get GOp.all_set GOp.kind_get GOp.kind_set GOp.raw_get GOp.raw_set Reader.length_enc Reader.ok_enc Reader.all_get Reader.all_set Reader.buf_get Reader.buf_set Reader.at__get Reader.at__set Slot.length_enc Slot.ok_enc Slot.all_get Slot.all_set Slot.bound_get Slot.bound_set Slot.name_get Slot.name_set Session.length_enc Session.ok_enc Session.all_get Session.all_set Session.svc_get Session.svc_set Session.buf_get Session.buf_set Session.closed_get Session.closed_set GProgram.length_enc GProgram.ok_enc GProgram.all_get GProgram.all_set GProgram.pool_get GProgram.pool_set GProgram.preds_get GProgram.preds_set GProgram.rules_get GProgram.rules_set GProgram.strata_get GProgram.strata_set PredInfo.length_enc PredInfo.ok_enc PredInfo.all_get PredInfo.all_set PredInfo.arity_get PredInfo.arity_set PredInfo.base_get PredInfo.base_set PredInfo.stratum_get PredInfo.stratum_set Change.length_enc Change.ok_enc Change.all_get Change.all_set Change.del_get Change.del_set Change.pred_get Change.pred_set Change.t_get Change.t_set Store.length_enc Store.ok_enc Store.all_get Store.all_set Store.names_get Store.names_set Store.arity_get Store.arity_set Store.rows_get Store.rows_set Src.length_enc Src.ok_enc Src.all_get Src.all_set Src.b_get Src.b_set Src.at__get Src.at__set Atom.length_enc Atom.ok_enc Atom.all_get Atom.all_set Atom.pred_get Atom.pred_set Atom.args_get Atom.args_set GRule.length_enc GRule.ok_enc GRule.all_get GRule.all_set GRule.head_get GRule.head_set GRule.body_get GRule.body_set GRule.head_pred_get GRule.head_pred_set GRule.head_args_get GRule.head_args_set Cert.length_enc Cert.ok_enc Cert.all_get Cert.all_set Cert.names_get Cert.names_set Cert.nodes_get Cert.nodes_set Fact.length_enc Fact.ok_enc Fact.all_get Fact.all_set Fact.pred_get Fact.pred_set Fact.t_get Fact.t_set Literal.length_enc Literal.ok_enc Literal.all_get Literal.all_set Literal.neg_get Literal.neg_set Literal.atom_get Literal.atom_set Literal.atom_pred_get Literal.atom_pred_set Literal.atom_args_get Literal.atom_args_set Engine.length_enc Engine.ok_enc Engine.all_get Engine.all_set Engine.prog_get Engine.prog_set Engine.st_get Engine.st_set SrcCertm.length_enc SrcCertm.ok_enc SrcCertm.all_get SrcCertm.all_set SrcCertm.b_get SrcCertm.b_set SrcCertm.at__get SrcCertm.at__set GNode.length_enc GNode.ok_enc GNode.all_get GNode.all_set GNode.rule_get GNode.rule_set GNode.pred_get GNode.pred_set GNode.vals_get GNode.vals_set GNode.refs_get GNode.refs_set Term.length_enc Term.ok_enc Term.all_get Term.all_set Term.var_get Term.var_set Term.n_get Term.n_set Env.length_enc Env.ok_enc Env.all_get Env.all_set Env.val_get Env.val_set Env.set_get Env.set_set
attribute [local go_sem] size_put size_ext blk_put free_put blk_alloc free_alloc blk_drew free_drew blk_ext free_ext lookOr_some putOr_some segAt_some cellAt_some storeIn_some put_put put_alloc_new length_arr ok_arr_u8 ok_arr_u32 ok_arr_u64 ok_arr_i64 ok_arr_sl cellsV_agg cellsV_int cellsV_bool cellsV_string cellsV_pointer cellsV_slice cellsV_sl ok_int ok_bool ok_string ok_pointer ok_slice ok_sl toList_arr seg_arr set_arr nth_splice nth_splice0 seg_splice seg_splice0 splice_splice splice_splice0 length_splice_if
attribute [local go_sem ↓] execOp_box
attribute [local go_sem] box_run nth_arr_u8 put_arr_u8 blk_drewN free_drewN put_drewN blk_raw free_raw

/-- Tables that a certificate is checked against. -/
structure CkS (p : PP) (N : List (List UInt8)) (R : List (List Tup)) : Prop where
  pg : PgG p
  pre : p.pool <+: N
  rd : RD' p (InT N.length) R
def FOkG (p : PP) (N : List (List UInt8)) (f : Fact) : Prop := 0 ≤ f.pred ∧ f.pred.toNat < p.preds.length ∧ TD p (InT N.length) f.pred.toNat f.t
theorem nbF_okG {p : PP} {N : List (List UInt8)} {R : List (List Tup)} {i : Nat} {vals refs : List Int} {bef : List Fact} (hb : ∀ f ∈ bef, FOkG p N f) (hi : bef.length = i) (hr : ∀ v ∈ refs, 0 ≤ v) : ∀ (ls : List PL) (u : Nat), (nbF R i vals refs bef ls u).1 = 0 → ∀ z ∈ ls, z.neg = false → FOkG p N ⟨(z.atom.pred : Int), insT z.atom vals⟩ ∧ insOk z.atom vals = true
  | [], _, _, z, hz, _ => by cases hz
  | l :: ls, u, h, z, hz, hn => by
    unfold nbF at h
    by_cases e1 : insOk l.atom vals = false
    · rw [if_pos e1] at h; cases h
    · rw [if_neg e1] at h
      cases hl : l.neg with
      | true =>
        rw [hl, if_pos rfl] at h
        by_cases e2 : insT l.atom vals ∈ rowsAt R l.atom.pred
        · rw [if_pos e2] at h; cases h
        · rw [if_neg e2] at h
          rcases List.mem_cons.1 hz with h1 | h1
          · rw [h1, hl] at hn; cases hn
          · exact nbF_okG hb hi hr ls u h z h1 hn
      | false =>
        rw [hl, if_neg (by decide)] at h
        by_cases e2 : refs.length ≤ u
        · rw [if_pos e2] at h; cases h
        · rw [if_neg e2] at h
          by_cases e3 : (i : Int) ≤ refs.getD u 0
          · rw [if_pos e3] at h; cases h
          · rw [if_neg e3] at h
            by_cases e4 : bef.getD (refs.getD u 0).toNat Fact.zero ≠ ⟨(l.atom.pred : Int), insT l.atom vals⟩
            · rw [if_pos e4] at h; cases h
            · rw [if_neg e4] at h
              rcases List.mem_cons.1 hz with h1 | h1
              · subst h1
                have h0 : 0 ≤ refs.getD u 0 := by
                  rw [List.getD_eq_getElem?_getD, List.getElem?_eq_getElem (by omega)]
                  exact hr _ (List.getElem_mem _)
                have hlt : (refs.getD u 0).toNat < bef.length := by omega
                have e5 : bef.getD (refs.getD u 0).toNat Fact.zero = ⟨(z.atom.pred : Int), insT z.atom vals⟩ := Decidable.of_not_not e4
                rw [← e5, List.getD_eq_getElem?_getD, List.getElem?_eq_getElem hlt]
                exact ⟨hb _ (List.getElem_mem _), by simpa using e1⟩
              · exact nbF_okG hb hi hr ls (u + 1) h z h1 hn
theorem ndF_okG {p : PP} {N : List (List UInt8)} {R : List (List Tup)} (ht : CkS p N R) {nms : List (List UInt8)} {i : Nat} {d : CNode} (hd : NdOk d) {bef : List Fact} (hb : ∀ f ∈ bef, FOkG p N f) (hi : bef.length = i) (h : (ndF p N R nms i d bef).1 = 0) : FOkG p N (ndF p N R nms i d bef).2 := by
  rw [ndF_eq] at h ⊢
  cases hv : nvF N nms d.vals [] with
  | none => rw [hv] at h; cases h
  | some vals =>
    rw [hv] at h
    simp only [ndG] at h ⊢
    by_cases e : d.rule < 0
    · rw [if_pos e] at h ⊢
      unfold nlF at h ⊢
      by_cases e1 : (p.preds.length : Int) ≤ d.pred ∨ (pI p d.pred.toNat).base = false
      · rw [if_pos e1] at h; cases h
      · rw [if_neg e1] at h ⊢
        by_cases e2 : (vals.length : Int) ≠ (pI p d.pred.toNat).arity
        · rw [if_pos e2] at h; cases h
        · rw [if_neg e2] at h ⊢
          by_cases e3 : mkT (fun c => vals.getD c 0) vals.length ∉ rowsAt R d.pred.toNat
          · rw [if_pos e3] at h; cases h
          · rw [if_neg e3]
            have h1 := hd.pred
            exact ⟨h1, by show d.pred.toNat < _; omega, ht.rd _ _ (Decidable.of_not_not e3)⟩
    · rw [if_neg e] at h ⊢
      unfold nrF at h ⊢
      by_cases e1 : (p.rules.length : Int) ≤ d.rule
      · rw [if_pos e1] at h; cases h
      · rw [if_neg e1] at h ⊢
        have hrl : d.rule.toNat < p.rules.length := by omega
        have hrg : p.rules.getD d.rule.toNat ⟨⟨0, []⟩, []⟩ ∈ p.rules := by
          rw [List.getD_eq_getElem?_getD, List.getElem?_eq_getElem hrl]; exact List.getElem_mem _
        obtain ⟨r, hr⟩ : ∃ r, r = p.rules.getD d.rule.toNat ⟨⟨0, []⟩, []⟩ := ⟨_, rfl⟩
        rw [← hr] at h hrg ⊢
        by_cases e2 : (nbF R i vals d.refs bef r.body 0).1 ≠ 0
        · rw [if_pos e2] at h; exact absurd h e2
        · rw [if_neg e2] at h ⊢
          by_cases e3 : insOk r.head vals = false ∨ (nbF R i vals d.refs bef r.body 0).2 ≠ d.refs.length
          · rw [if_pos e3] at h; cases h
          · rw [if_neg e3]
            have hbody := nbF_okG (R := R) (vals := vals) hb hi hd.refs r.body 0 (Decidable.of_not_not e2)
            have hru := ht.pg.rul r hrg
            have hio : insOk r.head vals = true := by
              cases hx : insOk r.head vals with
              | true => rfl
              | false => exact absurd (.inl hx) e3
            refine ⟨by show (0 : Int) ≤ (r.head.pred : Int); omega, ?_, ?_⟩
            · show ((r.head.pred : Int)).toNat < _
              have := (ht.pg.pok.rl r hrg).2
              omega
            · show TD p (InT N.length) ((r.head.pred : Int)).toNat (insT r.head vals)
              rw [show ((r.head.pred : Int)).toNat = r.head.pred from by omega]
              have hhd := hru.1
              refine ⟨fun c hc => ?_, fun c h1 h2 => ?_⟩
              · rw [← hhd.1] at hc
                unfold insT
                rw [tg_mkT _ _ _ (by have := hhd.2.1; omega), if_pos hc]
                unfold insV
                cases hvr : (tA r.head c).var with
                | false =>
                  rw [if_neg (by decide)]
                  exact ((hhd.2.2 c hc).2 hvr).mono ht.pre.length_le
                | true =>
                  rw [if_pos rfl]
                  have hres := hru.2.2
                  unfold resB at hres
                  rw [Bool.and_eq_true] at hres
                  have hcv := hres.1
                  unfold covB at hcv
                  have h1 := List.all_eq_true.1 hcv _ (List.mem_of_getElem? (tA_at hc))
                  rw [hvr] at h1
                  have h2 : posB r (tA r.head c).n = true := by simpa using h1
                  unfold posB at h2
                  obtain ⟨l, hl, h3⟩ := List.any_eq_true.1 h2
                  rw [Bool.and_eq_true] at h3
                  obtain ⟨x, hx, h4⟩ := List.any_eq_true.1 h3.2
                  rw [Bool.and_eq_true] at h4
                  have h5 : x.n = (tA r.head c).n := by simpa using h4.2
                  obtain ⟨j, hj⟩ := List.getElem?_of_mem hx
                  have hjl : j < l.atom.args.length := (List.getElem?_eq_some_iff.1 hj).1
                  have e5 : tA l.atom j = x := Option.some.inj ((tA_at hjl).symm.trans hj)
                  have h6 := (hbody l hl (by simpa using h3.1)).1.2.2.1 j (by
                    show j < arP p ((l.atom.pred : Int)).toNat
                    rw [show ((l.atom.pred : Int)).toNat = l.atom.pred from by omega, ← (hru.2.1 l hl).1]; exact hjl)
                  have h7 : tg (insT l.atom vals) j = vals.getD (tA r.head c).n.toNat 0 := by
                    unfold insT
                    rw [tg_mkT _ _ _ (by have := (hru.2.1 l hl).2.1; omega), if_pos hjl]
                    unfold insV
                    rw [e5, h4.1, if_pos rfl, h5]
                  rw [h7] at h6
                  exact h6
              · unfold insT
                rw [tg_mkT _ _ _ h2, if_neg (by rw [hhd.1]; omega)]
theorem goK_okG {p : PP} {N : List (List UInt8)} {R : List (List Tup)} (ht : CkS p N R) {nms : List (List UInt8)} : ∀ (ds : List CNode) (i : Nat) (bef : List Fact), (∀ d ∈ ds, NdOk d) → (∀ f ∈ bef, FOkG p N f) → bef.length = i → (goK p N R nms ds i bef).1 = 0 → (∀ f ∈ (goK p N R nms ds i bef).2, FOkG p N f) ∧ (goK p N R nms ds i bef).2.length = bef.length + ds.length
  | [], _, bef, _, hb, _, _ => ⟨hb, by simp [goK]⟩
  | d :: ds, i, bef, hd, hb, hi, h => by
    unfold goK at h ⊢
    by_cases e : (ndF p N R nms i d bef).1 ≠ 0
    · rw [if_pos e] at h; exact absurd h e
    · rw [if_neg e] at h ⊢
      have hf := ndF_okG ht (hd d List.mem_cons_self) hb hi (Decidable.of_not_not e)
      obtain ⟨h1, h2⟩ := goK_okG ht ds (i + 1) _ (fun x hx => hd x (List.mem_cons_of_mem _ hx)) (fun f hf' => by
        rcases List.mem_append.1 hf' with h1 | h1
        · exact hb f h1
        · rw [List.mem_singleton.1 h1]; exact hf) (by rw [List.length_append, hi]; rfl) h
      refine ⟨h1, ?_⟩
      rw [h2, List.length_append, List.length_cons]
      simp; omega
/-- The fact that an accepted certificate proves can be named. -/
theorem chkF_okG {p : PP} {N : List (List UInt8)} {R : List (List Tup)} (ht : CkS p N R) {xs : List UInt8} (h : (chkF p N R xs).1 = 0) : FOkG p N (chkF p N R xs).2 := by
  unfold chkF at h ⊢
  by_cases e : (decC xs).1 ≠ 0
  · rw [if_pos e] at h; exact absurd h e
  · rw [if_neg e] at h ⊢
    by_cases e2 : (goK p N R (decC xs).2.1 (decC xs).2.2 0 []).1 ≠ 0
    · rw [if_pos e2] at h; exact absurd h e2
    · rw [if_neg e2]
      obtain ⟨d1, d2, d3, d4⟩ := decC_ok (xs := xs) (q := (decC xs).2) (by
        have : (decC xs).1 = 0 := Decidable.of_not_not e
        rw [← this])
      obtain ⟨h1, h2⟩ := goK_okG ht (decC xs).2.2 0 [] d4 (fun f hf => by cases hf) rfl (Decidable.of_not_not e2)
      have hl : 0 < (goK p N R (decC xs).2.1 (decC xs).2.2 0 []).2.length := by rw [h2]; simp; omega
      show FOkG p N (lastF _)
      unfold lastF
      rw [List.getD_eq_getElem?_getD, List.getElem?_eq_getElem (by omega)]
      exact h1 _ (List.getElem_mem _)
/-- Names of a set of at most 256, each once. -/
def GN (G N : List (List UInt8)) : Prop := N.Nodup ∧ ∀ x ∈ N, x ∈ G
theorem in_ok {G N : List (List UInt8)} (hG : G.length ≤ 256) (h : GN G N) {x : List UInt8} (hx : x ∈ G) : N <+: inN N x ∧ GN G (inN N x) ∧ InT (inN N x).length (internF N x).1 ∧ (inN N x).getD (internF N x).1.toNat [] = x := by
  unfold inN internF
  by_cases h1 : lookF N x ≠ -1
  · rw [if_pos h1]
    obtain ⟨i, h2, h3⟩ := lookF_get h1
    dsimp only
    rw [h2]
    refine ⟨List.prefix_refl _, h, ⟨by omega, ?_⟩, ?_⟩
    · rw [Int.toNat_natCast]; exact (List.getElem?_eq_some_iff.1 h3).1
    · rw [Int.toNat_natCast, List.getD_eq_getElem?_getD, h3]; rfl
  · rw [if_neg h1]
    have hn : x ∉ N := lookF_mem (Decidable.of_not_not h1)
    have hl : N.length ≠ 256 := fun e => by
      have := nodup_subG (x :: N) G (List.nodup_cons.2 ⟨hn, h.1⟩) (fun y hy => by
        rcases List.mem_cons.1 hy with e1 | e1
        · rw [e1]; exact hx
        · exact h.2 y e1)
      rw [List.length_cons] at this
      omega
    rw [if_neg hl]
    dsimp only
    refine ⟨List.prefix_append _ _, ⟨?_, ?_⟩, ⟨by omega, by rw [Int.toNat_natCast, List.length_append]; simp⟩, ?_⟩
    · exact List.nodup_append.2 ⟨h.1, List.nodup_cons.2 ⟨by simp, List.nodup_nil⟩, fun a ha b hb e => by rw [List.mem_singleton.1 hb] at e; rw [e] at ha; exact hn ha⟩
    · intro y hy
      rcases List.mem_append.1 hy with e1 | e1
      · exact h.2 y e1
      · rw [List.mem_singleton.1 e1]; exact hx
    · rw [Int.toNat_natCast, List.getD_eq_getElem?_getD, List.getElem?_append_right (Nat.le_refl _), Nat.sub_self]; rfl
theorem pool_in : ∀ (P acc : List (List UInt8)), (acc ++ P).Nodup → (acc ++ P).length ≤ 256 → P.foldl inN acc = acc ++ P
  | [], acc, _, _ => (List.append_nil _).symm
  | x :: P, acc, h, hl => by
    have hx : x ∉ acc := fun e => (List.nodup_append.1 h).2.2 x e x List.mem_cons_self rfl
    have e1 : inN acc x = acc ++ [x] := by
      unfold inN internF
      have h9 : lookF acc x = -1 := lookF_no (fun j y hj e => by rw [e] at hj; exact hx (List.mem_of_getElem? hj))
      rw [if_neg (by rw [h9]; simp), if_neg (by rw [List.length_append, List.length_cons] at hl; omega)]
    rw [List.foldl_cons, e1, pool_in P (acc ++ [x]) (by rw [List.append_assoc]; exact h) (by rw [List.append_assoc]; exact hl), List.append_assoc]
    rfl
/-- A tuple that stands for a row. -/
def TuO (N : List (List UInt8)) (ar : Nat) (t : Tup) (r : NRow) : Prop := (∀ c, c < ar → InT N.length (tg t c)) ∧ (∀ c, ar ≤ c → c < 4 → tg t c = 0) ∧ nmsT N t ar = r
theorem TuO.pre {N N' : List (List UInt8)} {ar : Nat} {t : Tup} {r : NRow} (h : TuO N ar t r) (hp : N <+: N') : TuO N' ar t r := ⟨fun c hc => (h.1 c hc).mono hp.length_le, h.2.1, by
  rw [← h.2.2]
  unfold nmsT
  refine List.map_congr_left fun c hc => ?_
  exact pre_getD hp (h.1 c (List.mem_range.1 hc)).2⟩
theorem tuS_ok {G : List (List UInt8)} (hG : G.length ≤ 256) : ∀ (r : NRow) (X : List (List UInt8) × List Int), GN G X.1 → (∀ x ∈ r, x ∈ G) → X.1 <+: (r.foldl tuS X).1 ∧ GN G (r.foldl tuS X).1 ∧ ∀ c, c < r.length → InT (r.foldl tuS X).1.length ((r.foldl tuS X).2.getD (X.2.length + c) 0) ∧ (r.foldl tuS X).1.getD ((r.foldl tuS X).2.getD (X.2.length + c) 0).toNat [] = r.getD c []
  | [], X, h, _ => ⟨List.prefix_refl _, h, fun c hc => absurd hc (Nat.not_lt_zero _)⟩
  | x :: r, X, h, hr => by
    obtain ⟨a1, a2, a3, a4⟩ := in_ok hG h (hr x List.mem_cons_self)
    obtain ⟨b1, b2, b3⟩ := tuS_ok hG r (tuS X x) a2 (fun y hy => hr y (List.mem_cons_of_mem _ hy))
    have hp := (tuF_pre [] r (tuS X x)).2
    rw [List.foldl_cons]
    have e1 : (tuS X x).1 = inN X.1 x := rfl
    have e2 : (tuS X x).2 = X.2 ++ [(internF X.1 x).1] := rfl
    refine ⟨a1.trans b1, b2, fun c hc => ?_⟩
    cases c with
    | zero =>
      have e3 : (r.foldl tuS (tuS X x)).2.getD (X.2.length + 0) 0 = (internF X.1 x).1 := by
        obtain ⟨Z, hZ⟩ := hp
        rw [← hZ, e2, Nat.add_zero, List.getD_eq_getElem?_getD, List.append_assoc, List.getElem?_append_right (Nat.le_refl _), Nat.sub_self]; rfl
      rw [e3]
      exact ⟨a3.mono b1.length_le, by rw [pre_getD b1 a3.2, e1, a4]; rfl⟩
    | succ c =>
      have h9 := b3 c (by rw [List.length_cons] at hc; omega)
      rw [e2, List.length_append, List.length_singleton, show X.2.length + 1 + c = X.2.length + (c + 1) from by omega] at h9
      exact h9
theorem tuT_ok {G N : List (List UInt8)} (hG : G.length ≤ 256) (h : GN G N) {r : NRow} (hr : ∀ x ∈ r, x ∈ G) (h4 : r.length ≤ 4) : N <+: (tuF N r).1 ∧ GN G (tuF N r).1 ∧ TuO (tuF N r).1 r.length (tuT N r) r := by
  obtain ⟨b1, b2, b3⟩ := tuS_ok hG r (N, []) h hr
  refine ⟨b1, b2, fun c hc => ?_, fun c h1 h2 => ?_, ?_⟩
  · unfold tuT
    rw [tg_mkT _ _ _ (by omega), if_pos hc]
    have := (b3 c hc).1
    rw [show ([] : List Int).length + c = c from by simp] at this
    exact this
  · unfold tuT
    rw [tg_mkT _ _ _ h2, if_neg (by omega)]
  · refine List.ext_getElem? fun c => ?_
    by_cases hc : c < r.length
    · rw [nmsT_at _ _ hc]
      unfold tuT
      rw [tg_mkT _ _ _ (by omega), if_pos hc]
      have := (b3 c hc).2
      rw [show ([] : List Int).length + c = c from by simp] at this
      have e9 : (tuF N r).1.getD ((tuF N r).2.getD c 0).toNat [] = r.getD c [] := this
      rw [e9, List.getD_eq_getElem?_getD, List.getElem?_eq_getElem hc]; rfl
    · rw [List.getElem?_eq_none (by rw [nmsT_len]; omega), List.getElem?_eq_none (by omega)]
/-- Tuples that stand for rows. -/
def TsO (N : List (List UInt8)) (ar : Nat) (Ts : List Tup) (Ls : List NRow) : Prop := Ts.map (fun t => nmsT N t ar) = Ls ∧ ∀ t ∈ Ts, (∀ c, c < ar → InT N.length (tg t c)) ∧ (∀ c, ar ≤ c → c < 4 → tg t c = 0)
theorem TsO.pre {N N' : List (List UInt8)} {ar : Nat} {Ts : List Tup} {Ls : List NRow} (h : TsO N ar Ts Ls) (hp : N <+: N') : TsO N' ar Ts Ls := by
  refine ⟨?_, fun t ht => ⟨fun c hc => ((h.2 t ht).1 c hc).mono hp.length_le, (h.2 t ht).2⟩⟩
  rw [← h.1]
  refine List.map_congr_left fun t ht => ?_
  exact (TuO.pre ⟨(h.2 t ht).1, (h.2 t ht).2, rfl⟩ hp).2.2
theorem rwS_ok {G : List (List UInt8)} (hG : G.length ≤ 256) {ar : Nat} (h4 : ar ≤ 4) : ∀ (Ls Ms : List NRow) (X : List (List UInt8) × List Tup), GN G X.1 → TsO X.1 ar X.2 Ms → (∀ r ∈ Ls, r.length = ar ∧ ∀ x ∈ r, x ∈ G) → X.1 <+: (Ls.foldl rwS X).1 ∧ GN G (Ls.foldl rwS X).1 ∧ TsO (Ls.foldl rwS X).1 ar (Ls.foldl rwS X).2 (Ms ++ Ls)
  | [], Ms, X, h, hT, _ => ⟨List.prefix_refl _, h, by rw [List.append_nil]; exact hT⟩
  | r :: Ls, Ms, X, h, hT, hr => by
    obtain ⟨hl, hx⟩ := hr r List.mem_cons_self
    obtain ⟨a1, a2, a3⟩ := tuT_ok hG h hx (by omega)
    rw [hl] at a3
    have hT' := hT.pre a1
    have hT2 : TsO (rwS X r).1 ar (rwS X r).2 (Ms ++ [r]) := by
      refine ⟨?_, fun t ht => ?_⟩
      · show (X.2 ++ [tuT X.1 r]).map _ = _
        rw [List.map_append]
        have e1 : X.2.map (fun t => nmsT (rwS X r).1 t ar) = Ms := hT'.1
        rw [e1]
        show Ms ++ [nmsT (tuF X.1 r).1 (tuT X.1 r) ar] = _
        rw [a3.2.2]
      · rcases List.mem_append.1 ht with e1 | e1
        · exact hT'.2 t e1
        · rw [List.mem_singleton.1 e1]; exact ⟨a3.1, a3.2.1⟩
    obtain ⟨b1, b2, b3⟩ := rwS_ok hG h4 Ls (Ms ++ [r]) (rwS X r) a2 hT2 (fun z hz => hr z (List.mem_cons_of_mem _ hz))
    rw [List.foldl_cons]
    refine ⟨a1.trans b1, b2, ?_⟩
    rw [List.append_assoc] at b3
    exact b3
theorem prS_ok {p : PP} {G : List (List UInt8)} (hG : G.length ≤ 256) (h4 : ∀ q, arP p q ≤ 4) : ∀ (F M : List (List NRow)) (X : List (List UInt8) × List (List Tup)), GN G X.1 → X.2.length = M.length → (∀ q, q < M.length → TsO X.1 (arP p q) (rowsAt X.2 q) (M.getD q [])) → (∀ q, ∀ r ∈ F.getD q [], r.length = arP p (M.length + q) ∧ ∀ x ∈ r, x ∈ G) → X.1 <+: (F.foldl prS X).1 ∧ GN G (F.foldl prS X).1 ∧ (F.foldl prS X).2.length = M.length + F.length ∧ ∀ q, q < M.length + F.length → TsO (F.foldl prS X).1 (arP p q) (rowsAt (F.foldl prS X).2 q) ((M ++ F).getD q [])
  | [], M, X, h, hl, hT, _ => ⟨List.prefix_refl _, h, hl, by rw [List.append_nil]; exact hT⟩
  | Ls :: F, M, X, h, hl, hT, hF => by
    have h0 := hF 0
    obtain ⟨a1, a2, a3⟩ := rwS_ok hG (h4 M.length) Ls [] (X.1, []) h ⟨rfl, fun t ht => by cases ht⟩ (fun r hr => h0 r hr)
    rw [List.nil_append] at a3
    obtain ⟨b1, b2, b3, b4⟩ := prS_ok hG h4 F (M ++ [Ls]) (prS X Ls) a2 (by
      show (X.2 ++ _).length = _
      rw [List.length_append, List.length_append, hl]; rfl) (fun q hq => by
      show TsO (Ls.foldl rwS (X.1, [])).1 _ (rowsAt (X.2 ++ [(Ls.foldl rwS (X.1, [])).2]) q) _
      unfold rowsAt
      rw [List.getD_eq_getElem?_getD, List.getD_eq_getElem?_getD]
      by_cases hqm : q < M.length
      · rw [List.getElem?_append_left (by omega), List.getElem?_append_left hqm]
        have h9 := (hT q hqm).pre a1
        unfold rowsAt at h9
        rw [List.getD_eq_getElem?_getD, List.getD_eq_getElem?_getD] at h9
        exact h9
      · have e9 : q = M.length := by rw [List.length_append] at hq; simp at hq; omega
        rw [e9, List.getElem?_append_right (by omega), List.getElem?_append_right (by omega), hl, Nat.sub_self]
        exact a3) (fun q r hr => by
      have := hF (q + 1) r hr
      rw [List.length_append, show M.length + [Ls].length + q = M.length + (q + 1) from by simp; omega]
      exact this)
    rw [List.foldl_cons]
    rw [List.length_append, List.append_assoc] at b4
    rw [List.length_append] at b3
    refine ⟨a1.trans b1, b2, by rw [b3, List.length_cons]; simp; omega, fun q hq => b4 q (by rw [List.length_cons] at hq; simp; omega)⟩
/-- What the store holds. -/
theorem stoF_ok {p : PP} {F : List (List NRow)} {G : List (List UInt8)} (hp : PgG p) (hG : G.length ≤ 256) (hpG : ∀ x ∈ p.pool, x ∈ G) (hl : F.length = p.preds.length) (hF : ∀ q x, memN F q x → x.length = arP p q ∧ ∀ y ∈ x, y ∈ G) : (stoF p.pool F).1.Nodup ∧ (stoF p.pool F).1.length ≤ 256 ∧ (∀ x ∈ (stoF p.pool F).1, x ∈ G) ∧ (stoF p.pool F).2.length = p.preds.length ∧ (∀ q, (rowsAt (stoF p.pool F).2 q).map (fun t => nmsT (stoF p.pool F).1 t (arP p q)) = F.getD q []) ∧ CkS p (stoF p.pool F).1 (stoF p.pool F).2 := by
  have hpl : p.pool.length ≤ 256 := Nat.le_trans (nodup_subG _ _ hp.pool.1 hpG) hG
  have e0 : p.pool.foldl inN [] = p.pool := pool_in p.pool [] (by rw [List.nil_append]; exact hp.pool.1) (by rw [List.nil_append]; exact hpl)
  obtain ⟨a1, a2, a3, a4⟩ := prS_ok (p := p) hG (ar4 hp.pok) F [] (p.pool.foldl inN [], []) (by rw [e0]; exact ⟨hp.pool.1, hpG⟩) rfl (fun q hq => absurd hq (Nat.not_lt_zero _)) (fun q r hr => by
    have := hF q r hr
    rw [show ([] : List (List NRow)).length + q = q from by simp]
    exact this)
  rw [List.length_nil, Nat.zero_add] at a3 a4
  rw [List.nil_append] at a4
  have a1' : p.pool <+: (stoF p.pool F).1 := by
    have h9 : p.pool.foldl inN [] <+: (stoF p.pool F).1 := a1
    rw [e0] at h9
    exact h9
  have hall : ∀ q, TsO (stoF p.pool F).1 (arP p q) (rowsAt (stoF p.pool F).2 q) (F.getD q []) := fun q => by
    by_cases hq : q < F.length
    · exact a4 q hq
    · have e1 : rowsAt (stoF p.pool F).2 q = [] := by
        unfold rowsAt
        rw [List.getD_eq_getElem?_getD, List.getElem?_eq_none (by
          have e8 : (stoF p.pool F).2.length = F.length := a3
          omega)]; rfl
      have e2 : F.getD q [] = [] := by rw [List.getD_eq_getElem?_getD, List.getElem?_eq_none (by omega)]; rfl
      rw [e1, e2]
      exact ⟨rfl, fun t ht => by cases ht⟩
  exact ⟨a2.1, Nat.le_trans (nodup_subG _ _ a2.1 a2.2) hG, a2.2, by rw [← hl]; exact a3, fun q => (hall q).1, hp, a1', fun q t ht => (hall q).2 t ht⟩
/-- The model's names are constants in use. -/
theorem MsI.dom {m : MS} (h : MsI m) {F1 : List (List NRow)} {T1 : List NStep} (hP : PfTo m.p (constF m.p.pool m.F) 0 m.F [] F1 T1) : ∀ q x, memN F1 q x → ∀ y ∈ x, y ∈ constF m.p.pool m.F := by
  have hdom : ∀ q x, memN m.F q x → ∀ y ∈ x, y ∈ constF m.p.pool m.F := fun q x hx y hy => by
    refine constF_mem.2 (.inr ?_)
    have hx' : x ∈ m.F.getD q [] := hx
    rw [List.getD_eq_getElem?_getD] at hx'
    cases hq : m.F[q]? with
    | none => rw [hq] at hx'; cases hx'
    | some L => rw [hq] at hx'; exact ⟨L, List.mem_of_getElem? hq, x, hx', hy⟩
  obtain ⟨m1, m2, m3, m4, m5⟩ := hP.lm (N := m.p.preds.length) (B := memN m.F) (fun r hr => ⟨h.pg.g.fit hr, (h.pg.g.rul r hr).2.2⟩) (fun r hr => (h.pg.g.pok.rl r hr).2) (fun x hx => constF_mem.2 (.inl hx)) h.pg.neg h.pg.top h.len hdom h.nd ⟨fun q x hx => LM.up hx, fun q x hx => hx⟩ (Nat.zero_le _)
  exact m5
theorem MsI.sto {m : MS} (h : MsI m) {F1 : List (List NRow)} {T1 : List NStep} (hP : PfTo m.p (constF m.p.pool m.F) 0 m.F [] F1 T1) : (stoF m.p.pool F1).1.Nodup ∧ (stoF m.p.pool F1).1.length ≤ 256 ∧ (∀ x ∈ (stoF m.p.pool F1).1, x ∈ constF m.p.pool m.F) ∧ (stoF m.p.pool F1).2.length = m.p.preds.length ∧ (∀ q, (rowsAt (stoF m.p.pool F1).2 q).map (fun t => nmsT (stoF m.p.pool F1).1 t (arP m.p q)) = F1.getD q []) ∧ CkS m.p (stoF m.p.pool F1).1 (stoF m.p.pool F1).2 :=
  have ⟨h1, h2, h3, h4⟩ := h.perf hP
  stoF_ok h.pg.g h.con (fun x hx => constF_mem.2 (.inl hx)) h2 (fun q x hx => ⟨(h3 q x hx).1, h.dom hP q x hx⟩)
end Go.Proofs.Qxb6500787aGreat
