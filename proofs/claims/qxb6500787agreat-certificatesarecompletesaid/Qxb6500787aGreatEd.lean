import Derived.Test.Qxb6500787aGreatEc
import Derived.Test.Qxb6500787aGreatNb

import Derived.StillTailTactics
import Derived.Deep.QuietTactic
import Derived.BigQuiet
import Derived.Deep.RegionHeld
import Derived.Deep.CutRange
import Derived.Laws.ResultCell
import Derived.Laws.Rows
import Derived.DeepKeys
import Derived.DataBytes
import Derived.Laws.StructEq
import Derived.Laws.AppendOwn
import Derived.Laws.MakeOwn
import Derived.Lib.AppendStr
set_option linter.unusedSimpArgs false
set_option linter.unusedVariables false
namespace Go.Proofs.Qxb6500787aGreat
open Go.RowKit Go.Blk
attribute [local go_sem ↓] execOp_load execOp_store execOp_alloc
attribute [local go_sem] Tryz.ld26 Tryz.st26 Tryz.ld27 Tryz.st27 Tryz.ld28 Tryz.st28 Tryz.ld3 Tryz.st3 Tryz.ld29 Tryz.st29 Tryz.ld44 Tryz.st44 Tryz.ld4 Tryz.st4 Tryz.ld50 Tryz.st50 Tryz.ld32 Tryz.st32 Tryz.ld49 Tryz.st49 Tryz.ld68 Tryz.st68 Tryz.ld9 Tryz.st9 Tryz.ld40 Tryz.st40 Tryz.ld138 Tryz.st138 Tryz.ld139 Tryz.st139 Tryz.ld146 Tryz.st146 Tryz.ld183 Tryz.st183 Tryz.ld184 Tryz.st184 Tryz.ld192 Tryz.st192 Tryz.ld195 Tryz.st195 Tryz.ld217 Tryz.st217 Tryz.ld159 Tryz.st159 Tryz.ld142 Tryz.st142 Tryz.ld2 Tryz.st2 Tryz.ld5 Tryz.st5 Tryz.ld12 Tryz.st12 Tryz.ld21 Tryz.st21 Tryz.ld22 Tryz.st22 Tryz.ld24 Tryz.st24 Tryz.ld58 Tryz.st58 Tryz.ld97 Tryz.st97 Tryz.ld101 Tryz.st101 Tryz.ld116 Tryz.st116 Tryz.ld121 Tryz.st121 Tryz.ld135 Tryz.st135 Tryz.ld136 Tryz.st136 Tryz.ld143 Tryz.st143 Tryz.ld148 Tryz.st148 Tryz.ld154 Tryz.st154 Tryz.ld173 Tryz.st173 Tryz.ld187 Tryz.st187 Tryz.ld222 Tryz.st222 Tryz.ld241 Tryz.st241 Tryz.ld248 Tryz.st248 Tryz.ld268 Tryz.st268 Tryz.ld272 Tryz.st272 Tryz.ld153 Tryz.st153 Tryz.ld255 Tryz.st255 Tryz.ld256 Tryz.st256 Tryz.ld129 Tryz.st129 Tryz.ld152 Tryz.st152 Tryz.ld31 Tryz.st31 Tryz.ld46 Tryz.st46 Tryz.ld52 Tryz.st52 Tryz.ld54 Tryz.st54 Tryz.ld60 Tryz.st60 Tryz.ld70 Tryz.st70 Tryz.ld74 Tryz.st74 Tryz.ld93 Tryz.st93 Tryz.ld141 Tryz.st141 Tryz.ld151 Tryz.st151 Tryz.ld170 Tryz.st170 Tryz.ld186 Tryz.st186 Tryz.ld189 Tryz.st189 Tryz.ld194 Tryz.st194 Tryz.ld197 Tryz.st197 Tryz.ld219 Tryz.st219 Tryz.ld224 Tryz.st224 Tryz.ld230 Tryz.st230 Tryz.ld235 Tryz.st235 Tryz.ld243 Tryz.st243 Tryz.ld247 Tryz.st247 Tryz.ld252 Tryz.st252 Tryz.ld258 Tryz.st258 Tryz.al153 Tryz.al255 Tryz.al256 Tryz.al129 Tryz.al152 Tryz.al31 Tryz.al46 Tryz.al52 Tryz.al54 Tryz.al60 Tryz.al70 Tryz.al74 Tryz.al93 Tryz.al141 Tryz.al151 Tryz.al170 Tryz.al186 Tryz.al189 Tryz.al194 Tryz.al197 Tryz.al219 Tryz.al224 Tryz.al230 Tryz.al235 Tryz.al243 Tryz.al247 Tryz.al252 Tryz.al258
attribute [local go_sem] Request.length_enc Request.ok_enc Request.all_get Request.all_set Request.kind_get Request.kind_set Request.blob_get Request.blob_set Request.items_get Request.items_set Request.pred_get Request.pred_set Request.slots_get Request.slots_set Trace.length_enc Trace.ok_enc Trace.all_get Trace.all_set Trace.op_get Trace.op_set Trace.calls_get Trace.calls_set Item.length_enc Item.ok_enc Item.all_get Item.all_set Item.del_get Item.del_set Item.pred_get Item.pred_set Item.args_get Item.args_set Reply.length_enc Reply.ok_enc Reply.all_get Reply.all_set Reply.code_get Reply.code_set Reply.kind_get Reply.kind_set Reply.index_get Reply.index_set Reply.yes_get Reply.yes_set Reply.preds_get Reply.preds_set Reply.rules_get Reply.rules_set Reply.arity_get Reply.arity_set Reply.rows_get Reply.rows_set Reply.fact_get Reply.fact_set Reply.fact_del_get Reply.fact_del_set Reply.fact_pred_get Reply.fact_pred_set Reply.fact_args_get Reply.fact_args_set GEntry.length_enc GEntry.ok_enc GEntry.all_get GEntry.all_set GEntry.seq_get GEntry.seq_set GEntry.kind_get GEntry.kind_set GEntry.code_get GEntry.code_set GOp.length_enc GOp.ok_enc GOp.all_get GOp.all_set GOp.kind_get GOp.kind_set GOp.raw_get GOp.raw_set Reader.length_enc Reader.ok_enc Reader.all_get Reader.all_set Reader.buf_get Reader.buf_set Reader.at__get Reader.at__set Slot.length_enc Slot.ok_enc Slot.all_get Slot.all_set Slot.bound_get Slot.bound_set Slot.name_get Slot.name_set Session.length_enc Session.ok_enc Session.all_get Session.all_set Session.svc_get Session.svc_set Session.buf_get Session.buf_set Session.closed_get Session.closed_set GProgram.length_enc GProgram.ok_enc GProgram.all_get GProgram.all_set GProgram.pool_get GProgram.pool_set GProgram.preds_get GProgram.preds_set GProgram.rules_get GProgram.rules_set GProgram.strata_get GProgram.strata_set PredInfo.length_enc PredInfo.ok_enc PredInfo.all_get PredInfo.all_set PredInfo.arity_get PredInfo.arity_set PredInfo.base_get PredInfo.base_set PredInfo.stratum_get PredInfo.stratum_set Change.length_enc Change.ok_enc Change.all_get Change.all_set Change.del_get Change.del_set Change.pred_get Change.pred_set Change.t_get Change.t_set Store.length_enc Store.ok_enc Store.all_get Store.all_set Store.names_get Store.names_set Store.arity_get Store.arity_set Store.rows_get Store.rows_set Src.length_enc Src.ok_enc Src.all_get Src.all_set Src.b_get Src.b_set Src.at__get Src.at__set Atom.length_enc Atom.ok_enc Atom.all_get Atom.all_set Atom.pred_get Atom.pred_set Atom.args_get Atom.args_set GRule.length_enc GRule.ok_enc GRule.all_get GRule.all_set GRule.head_get GRule.head_set GRule.body_get GRule.body_set GRule.head_pred_get GRule.head_pred_set GRule.head_args_get GRule.head_args_set Cert.length_enc Cert.ok_enc Cert.all_get Cert.all_set Cert.names_get Cert.names_set Cert.nodes_get Cert.nodes_set Fact.length_enc Fact.ok_enc Fact.all_get Fact.all_set Fact.pred_get Fact.pred_set Fact.t_get Fact.t_set Literal.length_enc Literal.ok_enc Literal.all_get Literal.all_set Literal.neg_get Literal.neg_set Literal.atom_get Literal.atom_set Literal.atom_pred_get Literal.atom_pred_set Literal.atom_args_get Literal.atom_args_set Engine.length_enc Engine.ok_enc Engine.all_get Engine.all_set Engine.prog_get Engine.prog_set Engine.st_get Engine.st_set SrcCertm.length_enc SrcCertm.ok_enc SrcCertm.all_get SrcCertm.all_set SrcCertm.b_get SrcCertm.b_set SrcCertm.at__get SrcCertm.at__set GNode.length_enc GNode.ok_enc GNode.all_get GNode.all_set GNode.rule_get GNode.rule_set GNode.pred_get GNode.pred_set GNode.vals_get GNode.vals_set GNode.refs_get GNode.refs_set Term.length_enc Term.ok_enc Term.all_get Term.all_set Term.var_get Term.var_set Term.n_get Term.n_set Env.length_enc Env.ok_enc Env.all_get Env.all_set Env.val_get Env.val_set Env.set_get Env.set_set
attribute [local go_sem] size_put size_ext blk_put free_put blk_alloc free_alloc blk_drew free_drew blk_ext free_ext lookOr_some putOr_some segAt_some cellAt_some storeIn_some put_put put_alloc_new length_arr ok_arr_u8 ok_arr_u32 ok_arr_u64 ok_arr_i64 ok_arr_sl cellsV_agg cellsV_int cellsV_bool cellsV_string cellsV_pointer cellsV_slice cellsV_sl ok_int ok_bool ok_string ok_pointer ok_slice ok_sl toList_arr seg_arr set_arr nth_splice nth_splice0 seg_splice seg_splice0 splice_splice splice_splice0 length_splice_if
attribute [local go_sem ↓] execOp_box
attribute [local go_sem] box_run nth_arr_u8 put_arr_u8 blk_drewN free_drewN put_drewN blk_raw free_raw

theorem encZ1 (c kd : Int) (hc : c ≠ 0) (hk : kd ≠ 4) (ix : Int) : encR' (prZ c kd ix) = [bI c, bI kd] := by
  show [bI c, bI kd] ++ encBd (prZ c kd ix) = _
  unfold encBd prZ
  dsimp only
  rw [if_pos hc, if_neg (fun e => hk e.1)]; rfl
/-- A load on both sides. -/
theorem ld_mod {s s1 : Sv} {m : MS} (hA : AgS s m) {xs : List UInt8} {rep : Reply} (hi : ldR s xs rep s1) {out : List UInt8} {m' : MS} (hu : LdM m xs out m') : encR' (plR rep) = out ∧ AgS s1 m' := by
  have hkeep : AgS (s.lowN 1) m := hA
  rcases hi with ⟨h1, rfl, rfl⟩ | ⟨h1, vc, p', hv, hi⟩
  · rcases hu with ⟨-, rfl, rfl⟩ | ⟨h2, -⟩
    · exact ⟨by rw [plR_Z, encZ1 _ _ h1 (by decide)]; rfl, hkeep⟩
    · exact absurd h2 h1
  rcases hu with ⟨h2, -⟩ | ⟨-, c, hc, hu⟩
  · exact absurd h1 h2
  have hdk := decP_ok h1
  have hcv := ac_ver hdk hc hv
  subst hcv
  rcases hi with ⟨h2, rfl, rfl⟩ | ⟨rfl, P, hF, hi⟩
  · rcases hu with ⟨-, rfl, rfl⟩ | ⟨h3, -⟩
    · exact ⟨by rw [plR_Z, encZ1 _ _ h2 (by decide)]; rfl, hkeep⟩
    · exact absurd h3 h2
  rcases hu with ⟨h3, -⟩ | ⟨-, p2, F1, T1, hv2, hQ, hu⟩
  · exact absurd rfl h3
  have he := (hv.det hv2).2 rfl
  subst he
  have hpm := verR_pgV hdk hv
  obtain ⟨k1, -⟩ := fst_same hpm hF hQ
  rcases hi with ⟨ho, rfl, rfl⟩ | ⟨ho, rfl, rfl⟩
  · rcases hu with ⟨-, rfl, rfl⟩ | ⟨h3, -⟩
    · exact ⟨rfl, hkeep⟩
    · rw [ho, h3] at k1; cases k1
  · rcases hu with ⟨h3, -⟩ | ⟨-, rfl, rfl⟩
    · rw [ho, h3] at k1; cases k1
    · refine ⟨?_, .inr ⟨_, rfl, rfl, rfl, hpm, ?_⟩⟩
      · show [bI 0, bI 1] ++ encBd (plR (ldP p')) = _
        have eB : encBd (plR (ldP p')) = [bI (p'.preds.length : Int), bI (p'.rules.length : Int)] := rfl
        rw [eB]
        unfold bI
        rw [Int.toNat_natCast, Int.toNat_natCast]; rfl
      · have hemp : ∀ q, rowsAt (basR p' P) q = [] := fun q => by
          cases hx : rowsAt (basR p' P) q with
          | nil => rfl
          | cons x l =>
            have h9 := bas_mem (p := p') (R := P) (q := q) (x := x) (by rw [hx]; exact List.mem_cons_self)
            rw [fst_base hpm hF h9.2.2] at h9
            cases h9.1
        refine ⟨⟨hpm.g.pool.1, List.prefix_refl _, fun q t ht => ?_⟩, ?_, fun q => ?_, ar4 hpm.g.pok⟩
        · have ht' : t ∈ rowsAt (basR p' P) q := ht
          rw [hemp q] at ht'; cases ht'
        · show (List.replicate p'.preds.length ([] : List NRow)).length = (basR p' P).length
          rw [basR_len, List.length_replicate]
        · show (List.replicate p'.preds.length ([] : List NRow)).getD q [] = nmB p' p'.pool (basR p' P) q
          rw [fac_empty]
          unfold nmB
          rw [hemp q]; rfl
/-- A row looked up by its names. -/
theorem nb_find {p : PP} {N : List (List UInt8)} {R : List (List Tup)} (h : NB p N R) (h4 : ∀ q, arP p q ≤ 4) {q : Nat} {r : NRow} (hl : r.length = arP p q) : mkT (resV N r) r.length ∈ rowsAt R q ↔ ∃ x, memI R q x ∧ r = nmsT N x (arP p q) := by
  constructor
  · intro hm
    exact ⟨_, hm, ((res_known hl (h4 q) (res_back hl (h4 q) (h.td q _ hm))).2).symm⟩
  · rintro ⟨x, hx, e⟩
    have hk : ∀ c, c < arP p q → r.getD c [] ∈ N := fun c hc => by
      rw [e, nmsT_get _ _ hc]
      exact List.mem_of_getElem? (getD_at ((h.td q x hx).1 c hc).2)
    obtain ⟨r1, r2⟩ := res_known hl (h4 q) hk
    have := nm_inj h (h4 q) (h.td q x hx) r1 (by rw [r2]; exact e.symm)
    rw [← this]; exact hx
/-- All facts, base and derived, told by both. -/
theorem AgT.all {t : InsS} {m : MS} (h : AgT t m) (ht : InG t) {F1 : List (List NRow)} {T1 : List NStep} (hQ : PfTo m.p (constF m.p.pool m.F) 0 m.F [] F1 T1) : Tells t.p t.N t.R F1 ∧ (∀ q, (F1.getD q []).Nodup) ∧ NB t.p t.N t.R := by
  rw [← h.p] at hQ
  have h1 := perf_same h.v ht.nn.1 ht.pre ht.der (basR_inv ht.inv) ht.dom hQ (by rw [h.a.len, basR_len]) (h.a.nd (rinv_nd (basR_inv ht.inv))) h.a.tells
  exact ⟨h1.2.1 ht.cap, h1.2.2.1, ht.nn.1, ht.pre, ht.rd⟩
theorem crF_iff {p : PP} (hp : PPok p) (pr n : Nat) : (p.preds.length ≤ pr → crF p pr n = 11) ∧ (pr < p.preds.length → (n ≠ arP p pr → crF p pr n = 13) ∧ (n = arP p pr → crF p pr n = 0)) := by
  unfold crF
  refine ⟨fun h => by rw [if_pos h], fun h => ?_⟩
  rw [if_neg (by omega), (pI_ar hp h).1]
  refine ⟨fun e => by rw [if_pos (by omega)], fun e => by rw [if_neg (by omega)]⟩
/-- A query on both sides. -/
theorem qy_mod {s s1 : Sv} {t : InsS} {m : MS} (hs : s.inst = some t) (ht : InG t) (hA : AgT t m) {pr : Nat} {args : List (List UInt8)} {rep : Reply} (hi : (rep, s1) = qyF s t pr args) {out : List UInt8} (hu : QyR m pr args out) : encR' (plR rep) = out ∧ AgS s1 m := by
  obtain ⟨c1, c2⟩ := crF_iff ht.pg.pok pr args.length
  rw [hA.p] at c1 c2
  unfold qyF at hi
  rw [hA.p] at hi
  rcases hu with ⟨h1, rfl⟩ | ⟨h1, ⟨h2, rfl⟩ | ⟨h2, F1, T1, hQ, -, rfl⟩⟩
  · rw [c1 h1, if_pos (by decide)] at hi
    obtain ⟨rfl, rfl⟩ := Prod.mk.inj hi
    exact ⟨rfl, .inr ⟨t, hs, hA⟩⟩
  · rw [(c2 h1).1 h2, if_pos (by decide)] at hi
    obtain ⟨rfl, rfl⟩ := Prod.mk.inj hi
    exact ⟨rfl, .inr ⟨t, hs, hA⟩⟩
  · rw [(c2 h1).2 h2, if_neg (fun h => h rfl)] at hi
    obtain ⟨rfl, rfl⟩ := Prod.mk.inj hi
    refine ⟨?_, .inr ⟨t, hs, hA⟩⟩
    obtain ⟨k1, k2, k3⟩ := hA.all ht hQ
    have hm : mkT (resV t.N args) args.length ∈ rowsAt t.R pr ↔ args ∈ F1.getD pr [] := by
      rw [nb_find k3 (ar4 ht.pg.pok) (by rw [hA.p]; exact h2), ← k1 pr args]; rfl
    show [bI 0, bI 5] ++ encBd (plR (qyR t pr args)) = _
    have eB : encBd (plR (qyR t pr args)) = [if decide (mkT (resV t.N args) args.length ∈ rowsAt t.R pr) = true then 1 else 0] := rfl
    rw [eB]
    by_cases e : args ∈ F1.getD pr []
    · rw [if_pos e, if_pos (decide_eq_true (hm.2 e))]; rfl
    · rw [if_neg e, if_neg (by rw [decide_eq_true_eq]; exact fun h => e (hm.1 h))]; rfl
end Go.Proofs.Qxb6500787aGreat
