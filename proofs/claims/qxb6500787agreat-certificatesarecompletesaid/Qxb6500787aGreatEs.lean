import Derived.Test.Qxb6500787aGreatEi

import Derived.StillTailTactics
import Derived.Deep.QuietTactic
import Derived.BigQuiet
import Derived.Deep.RegionHeld
import Derived.Deep.CutRange
import Derived.Laws.ResultCell
import Derived.Laws.Rows
import Derived.DeepKeys
import Derived.DataBytes
import Derived.Laws.StructEq
import Derived.Laws.AppendOwn
import Derived.Laws.MakeOwn
import Derived.Lib.AppendStr
set_option linter.unusedSimpArgs false
set_option linter.unusedVariables false
namespace Go.Proofs.Qxb6500787aGreat
open Go.RowKit Go.Blk
attribute [local go_sem ↓] execOp_load execOp_store execOp_alloc
attribute [local go_sem] Tryz.ld26 Tryz.st26 Tryz.ld27 Tryz.st27 Tryz.ld28 Tryz.st28 Tryz.ld3 Tryz.st3 Tryz.ld29 Tryz.st29 Tryz.ld44 Tryz.st44 Tryz.ld4 Tryz.st4 Tryz.ld50 Tryz.st50 Tryz.ld32 Tryz.st32 Tryz.ld49 Tryz.st49 Tryz.ld68 Tryz.st68 Tryz.ld9 Tryz.st9 Tryz.ld40 Tryz.st40 Tryz.ld138 Tryz.st138 Tryz.ld139 Tryz.st139 Tryz.ld146 Tryz.st146 Tryz.ld183 Tryz.st183 Tryz.ld184 Tryz.st184 Tryz.ld192 Tryz.st192 Tryz.ld195 Tryz.st195 Tryz.ld217 Tryz.st217 Tryz.ld159 Tryz.st159 Tryz.ld142 Tryz.st142 Tryz.ld2 Tryz.st2 Tryz.ld5 Tryz.st5 Tryz.ld12 Tryz.st12 Tryz.ld21 Tryz.st21 Tryz.ld22 Tryz.st22 Tryz.ld24 Tryz.st24 Tryz.ld58 Tryz.st58 Tryz.ld97 Tryz.st97 Tryz.ld101 Tryz.st101 Tryz.ld116 Tryz.st116 Tryz.ld121 Tryz.st121 Tryz.ld135 Tryz.st135 Tryz.ld136 Tryz.st136 Tryz.ld143 Tryz.st143 Tryz.ld148 Tryz.st148 Tryz.ld154 Tryz.st154 Tryz.ld173 Tryz.st173 Tryz.ld187 Tryz.st187 Tryz.ld222 Tryz.st222 Tryz.ld241 Tryz.st241 Tryz.ld248 Tryz.st248 Tryz.ld268 Tryz.st268 Tryz.ld272 Tryz.st272 Tryz.ld153 Tryz.st153 Tryz.ld255 Tryz.st255 Tryz.ld256 Tryz.st256 Tryz.ld129 Tryz.st129 Tryz.ld152 Tryz.st152 Tryz.ld31 Tryz.st31 Tryz.ld46 Tryz.st46 Tryz.ld52 Tryz.st52 Tryz.ld54 Tryz.st54 Tryz.ld60 Tryz.st60 Tryz.ld70 Tryz.st70 Tryz.ld74 Tryz.st74 Tryz.ld93 Tryz.st93 Tryz.ld141 Tryz.st141 Tryz.ld151 Tryz.st151 Tryz.ld170 Tryz.st170 Tryz.ld186 Tryz.st186 Tryz.ld189 Tryz.st189 Tryz.ld194 Tryz.st194 Tryz.ld197 Tryz.st197 Tryz.ld219 Tryz.st219 Tryz.ld224 Tryz.st224 Tryz.ld230 Tryz.st230 Tryz.ld235 Tryz.st235 Tryz.ld243 Tryz.st243 Tryz.ld247 Tryz.st247 Tryz.ld252 Tryz.st252 Tryz.ld258 Tryz.st258 Tryz.al153 Tryz.al255 Tryz.al256 Tryz.al129 Tryz.al152 Tryz.al31 Tryz.al46 Tryz.al52 Tryz.al54 Tryz.al60 Tryz.al70 Tryz.al74 Tryz.al93 Tryz.al141 Tryz.al151 Tryz.al170 Tryz.al186 Tryz.al189 Tryz.al194 Tryz.al197 Tryz.al219 Tryz.al224 Tryz.al230 Tryz.al235 Tryz.al243 Tryz.al247 Tryz.al252 Tryz.al258
attribute [local go_sem] Request.length_enc Request.ok_enc Request.all_get Request.all_set Request.kind_get Request.kind_set Request.blob_get Request.blob_set Request.items_get Request.items_set Request.pred_get Request.pred_set Request.slots_get Request.slots_set Trace.length_enc Trace.ok_enc Trace.all_get Trace.all_set Trace.op_get Trace.op_set Trace.calls_get Trace.calls_set Item.length_enc Item.ok_enc Item.all_get Item.all_set Item.del_get Item.del_set Item.pred_get Item.pred_set Item.args_get Item.args_set Reply.length_enc Reply.ok_enc Reply.all_get Reply.all_set Reply.code_get Reply.code_set Reply.kind_get Reply.kind_set Reply.index_get Reply.index_set Reply.yes_get Reply.yes_set Reply.preds_get Reply.preds_set Reply.rules_get Reply.rules_set Reply.arity_get Reply.arity_set Reply.rows_get Reply.rows_set Reply.fact_get Reply.fact_set Reply.fact_del_get Reply.fact_del_set Reply.fact_pred_get Reply.fact_pred_set Reply.fact_args_get Reply.fact_args_set GEntry.length_enc GEntry.ok_enc GEntry.all_get GEntry.all_set GEntry.seq_get GEntry.seq_set GEntry.kind_get GEntry.kind_set GEntry.code_get GEntry.code_set GOp.length_enc GOp.ok_enc GOp.all_get GOp.all_set GOp.kind_get GOp.kind_set GOp.raw_get GOp.raw_set Reader.length_enc Reader.ok_enc Reader.all_get Reader.all_set Reader.buf_get Reader.buf_set Reader.at__get Reader.at__set Slot.length_enc Slot.ok_enc Slot.all_get Slot.all_set Slot.bound_get Slot.bound_set Slot.name_get Slot.name_set Session.length_enc Session.ok_enc Session.all_get Session.all_set Session.svc_get Session.svc_set Session.buf_get Session.buf_set Session.closed_get Session.closed_set GProgram.length_enc GProgram.ok_enc GProgram.all_get GProgram.all_set GProgram.pool_get GProgram.pool_set GProgram.preds_get GProgram.preds_set GProgram.rules_get GProgram.rules_set GProgram.strata_get GProgram.strata_set PredInfo.length_enc PredInfo.ok_enc PredInfo.all_get PredInfo.all_set PredInfo.arity_get PredInfo.arity_set PredInfo.base_get PredInfo.base_set PredInfo.stratum_get PredInfo.stratum_set Change.length_enc Change.ok_enc Change.all_get Change.all_set Change.del_get Change.del_set Change.pred_get Change.pred_set Change.t_get Change.t_set Store.length_enc Store.ok_enc Store.all_get Store.all_set Store.names_get Store.names_set Store.arity_get Store.arity_set Store.rows_get Store.rows_set Src.length_enc Src.ok_enc Src.all_get Src.all_set Src.b_get Src.b_set Src.at__get Src.at__set Atom.length_enc Atom.ok_enc Atom.all_get Atom.all_set Atom.pred_get Atom.pred_set Atom.args_get Atom.args_set GRule.length_enc GRule.ok_enc GRule.all_get GRule.all_set GRule.head_get GRule.head_set GRule.body_get GRule.body_set GRule.head_pred_get GRule.head_pred_set GRule.head_args_get GRule.head_args_set Cert.length_enc Cert.ok_enc Cert.all_get Cert.all_set Cert.names_get Cert.names_set Cert.nodes_get Cert.nodes_set Fact.length_enc Fact.ok_enc Fact.all_get Fact.all_set Fact.pred_get Fact.pred_set Fact.t_get Fact.t_set Literal.length_enc Literal.ok_enc Literal.all_get Literal.all_set Literal.neg_get Literal.neg_set Literal.atom_get Literal.atom_set Literal.atom_pred_get Literal.atom_pred_set Literal.atom_args_get Literal.atom_args_set Engine.length_enc Engine.ok_enc Engine.all_get Engine.all_set Engine.prog_get Engine.prog_set Engine.st_get Engine.st_set SrcCertm.length_enc SrcCertm.ok_enc SrcCertm.all_get SrcCertm.all_set SrcCertm.b_get SrcCertm.b_set SrcCertm.at__get SrcCertm.at__set GNode.length_enc GNode.ok_enc GNode.all_get GNode.all_set GNode.rule_get GNode.rule_set GNode.pred_get GNode.pred_set GNode.vals_get GNode.vals_set GNode.refs_get GNode.refs_set Term.length_enc Term.ok_enc Term.all_get Term.all_set Term.var_get Term.var_set Term.n_get Term.n_set Env.length_enc Env.ok_enc Env.all_get Env.all_set Env.val_get Env.val_set Env.set_get Env.set_set
attribute [local go_sem] size_put size_ext blk_put free_put blk_alloc free_alloc blk_drew free_drew blk_ext free_ext lookOr_some putOr_some segAt_some cellAt_some storeIn_some put_put put_alloc_new length_arr ok_arr_u8 ok_arr_u32 ok_arr_u64 ok_arr_i64 ok_arr_sl cellsV_agg cellsV_int cellsV_bool cellsV_string cellsV_pointer cellsV_slice cellsV_sl ok_int ok_bool ok_string ok_pointer ok_slice ok_sl toList_arr seg_arr set_arr nth_splice nth_splice0 seg_splice seg_splice0 splice_splice splice_splice0 length_splice_if
attribute [local go_sem ↓] execOp_box
attribute [local go_sem] box_run nth_arr_u8 put_arr_u8 blk_drewN free_drewN put_drewN blk_raw free_raw
theorem drF_pat {q : PRep} (hB : RepB q) (hc : q.code = 0) (h6 : q.kind = 6) (hR : RowsA q) : drF (encR' q) = (0, ⟨0, 6, -1, false, 0, 0, q.arity, q.rows, 0, []⟩) := by
  obtain ⟨ar, e1, e2, e3⟩ := hR
  have hr := hB.rows
  have ek : (bI q.arity).toNat = ar := by rw [bI_nat hB.arity]; omega
  have em : (UInt8.ofNat (q.rows.length / 256)).toNat * 256 + (UInt8.ofNat (q.rows.length % 256)).toNat = q.rows.length := by
    rw [UInt8.toNat_ofNat', UInt8.toNat_ofNat']; omega
  have eg := goRw_enc q.rows [] ar [] (fun r h => ⟨e3 r h, (hr.2 r h).2⟩)
  rw [List.append_nil, List.nil_append] at eg
  have e : rowsF ([bI q.arity, UInt8.ofNat (q.rows.length / 256), UInt8.ofNat (q.rows.length % 256)] ++ q.rows.flatMap encRow) = (0, ar, q.rows, []) := by
    show rowsF (bI q.arity :: (UInt8.ofNat (q.rows.length / 256) :: UInt8.ofNat (q.rows.length % 256) :: q.rows.flatMap encRow)) = _
    rw [rowsF_cons, ek, if_neg (by omega), if_neg (by simp)]
    show (if 512 < (UInt8.ofNat (q.rows.length / 256)).toNat * 256 + (UInt8.ofNat (q.rows.length % 256)).toNat then _ else if (goRw ((UInt8.ofNat (q.rows.length / 256)).toNat * 256 + (UInt8.ofNat (q.rows.length % 256)).toNat) ar [] (q.rows.flatMap encRow)).1 = 0 then ((0 : Int), ar, (goRw ((UInt8.ofNat (q.rows.length / 256)).toNat * 256 + (UInt8.ofNat (q.rows.length % 256)).toNat) ar [] (q.rows.flatMap encRow)).2.1, (goRw ((UInt8.ofNat (q.rows.length / 256)).toNat * 256 + (UInt8.ofNat (q.rows.length % 256)).toNat) ar [] (q.rows.flatMap encRow)).2.2) else _) = _
    rw [em, if_neg (by omega), eg, if_pos rfl]
  have hb : encBd q = [bI q.arity, UInt8.ofNat (q.rows.length / 256), UInt8.ofNat (q.rows.length % 256)] ++ q.rows.flatMap encRow := by
    unfold encBd
    rw [if_neg (fun h => h hc), if_neg (by omega), if_neg (by omega), if_pos h6]
  have hbd : bdF 6 (encBd q) = (0, ⟨0, 6, -1, false, 0, 0, q.arity, q.rows, 0, []⟩, []) := by
    rw [hb]
    unfold bdF
    rw [if_neg (by decide), if_neg (by decide), if_pos rfl, e, e2]
  have e0 : (bI q.code).toNat = 0 := by rw [bI_nat hB.code, hc]; rfl
  have e6 : (bI q.kind).toNat = 6 := by rw [bI_nat hB.kind, h6]; rfl
  show drF (bI q.code :: bI q.kind :: encBd q) = _
  rw [drF_cons, e0, e6, if_neg (by decide), if_neg (by decide), if_pos rfl, hbd, if_neg (fun h => h rfl), if_neg (fun h => h rfl)]
/-- An accepted pattern: what was asked and what is answered. -/
theorem pat_of {s s' : Sv} (hI : ∀ t, s.inst = some t → InG t) {raw : List UInt8} (hr : raw.length ≤ 65536) {q : PRep} (h : svR s raw q s') (h6 : q.kind = 6) (hc : q.code = 0) : (decF raw).1 = 0 ∧ (decF raw).2.kind = 6 ∧ RqWf (decF raw).2 ∧ ∃ t, s.inst = some t ∧ q = ptQ t (decF raw).2.pred.toNat (decF raw).2.slots := by
  obtain ⟨s1, h, -⟩ := h
  rcases h with ⟨h0, rfl, -⟩ | ⟨h0, h⟩
  · exact absurd hc h0
  have hw := decF_wf hr h0
  rcases h with ⟨hk, rep, hP, rfl⟩ | ⟨hk, hn, rfl, rfl⟩ | ⟨t, ht, h⟩
  · exact absurd (hP.k.kind.symm.trans h6) (by decide)
  · exact absurd (show (10 : Int) = 0 from hc) (by decide)
  · rcases h with ⟨hk, rep, hP, rfl⟩ | ⟨hk, rep, hP, rfl⟩ | ⟨hk, rep, hP, rfl⟩ | ⟨hk, rep, hP, rfl⟩ | ⟨hk, e, -⟩ | ⟨hk, rfl, -⟩
    · exact absurd (hP.k.kind.symm.trans h6) (by decide)
    · exact absurd (hP.k.kind.symm.trans h6) (by decide)
    · exact absurd ((btR.k hw.len hP).kind.symm.trans h6) (by decide)
    · have h8 := qyF.k s.clr t (itP (decF raw).2) (itA (decF raw).2)
      rw [← hP] at h8
      exact absurd (h8.kind.symm.trans h6) (by decide)
    · exact ⟨h0, hk, hw, t, ht, e⟩
    · exact absurd ((grQ.k (hI t ht) _).kind.symm.trans h6) (by decide)
theorem mv_pat {m m' : MS} {raw out : List UInt8} (h : MvR m raw out m') (h0 : (decF raw).1 = 0) (hk : (decF raw).2.kind = 6) : m' = m := by
  rcases h with ⟨h1, -⟩ | ⟨-, ⟨h1, -⟩ | ⟨-, -, -, h1⟩ | ⟨-, -, ⟨h1, -⟩ | ⟨h1, -⟩ | ⟨-, -, h1⟩ | ⟨h1, -⟩⟩⟩
  · exact absurd h0 h1
  · rw [hk] at h1; exact absurd h1 (by decide)
  · exact h1
  · rw [hk] at h1; exact absurd h1 (by decide)
  · rw [hk] at h1; exact absurd h1 (by decide)
  · exact h1
  · rw [hk] at h1; exact absurd h1 (by decide)
/-- Rows sorted, without repetition: strictly ascending. -/
theorem zsR_strict {n : Nat} {B : List NRow} (hB : ∀ r ∈ B, r.length = n) (nB : B.Nodup) : (zsR B).Perm B ∧ ∀ j x y, (zsR B)[j]? = some x → (zsR B)[j + 1]? = some y → rlF x y = true := by
  have lB : LenN n (B.map fun r => ((⟨none, 0, 0⟩ : Sl), r)) := fun x hx => by
    obtain ⟨r, hr, rfl⟩ := List.mem_map.1 hx
    exact hB r hr
  obtain ⟨h1, h2⟩ := zisF_ok (n := n) _ [] lB (fun x hx => by cases hx) List.Pairwise.nil
  rw [List.nil_append] at h1
  have hp : (zsR B).Perm B := by
    have h3 := h1.map (·.2)
    rw [List.map_map] at h3
    have e : B.map ((fun x : RD => x.2) ∘ fun r => ((⟨none, 0, 0⟩ : Sl), r)) = B := by
      have : ((fun x : RD => x.2) ∘ fun r => ((⟨none, 0, 0⟩ : Sl), r)) = id := rfl
      rw [this, List.map_id]
    rw [e] at h3
    exact h3
  refine ⟨hp, fun j x y hx hy => ?_⟩
  have hnd : (zsR B).Nodup := hp.symm.nodup nB
  have hs : (zsR B).Pairwise (fun a b => rlF b a = false) := by
    show (((B.map fun r => ((⟨none, 0, 0⟩ : Sl), r)).foldl zinsP []).map (·.2)).Pairwise _
    exact List.pairwise_map.2 h2
  obtain ⟨jx, ex⟩ := List.getElem?_eq_some_iff.1 hx
  obtain ⟨jy, ey⟩ := List.getElem?_eq_some_iff.1 hy
  have h3 := List.pairwise_iff_getElem.1 hs j (j + 1) jx jy (by omega)
  have h4 := List.pairwise_iff_getElem.1 hnd j (j + 1) jx jy (by omega)
  rw [ex, ey] at h3 h4
  have hlx : x.length = n := hB x (hp.mem_iff.1 (ex ▸ List.getElem_mem jx))
  have hly : y.length = n := hB y (hp.mem_iff.1 (ey ▸ List.getElem_mem jy))
  rcases rl_tot x y (hlx.trans hly.symm) h4 with h | h
  · exact h
  · rw [h] at h3; cases h3
/-- The plain law. -/
theorem pat_ok {s s' : Sv} {m : MS} {M : Int} (hI : SvI M s) (hA : AgS s m) {raw : List UInt8} (hr : raw.length ≤ 65536) {q : PRep} (h : svR s raw q s') (h6 : q.kind = 6) (hc : q.code = 0) : (decF raw).1 = 0 ∧ (decF raw).2.kind = 6 ∧ m.ld = true ∧ 0 ≤ (decF raw).2.pred ∧ (decF raw).2.pred.toNat < m.p.preds.length ∧ (decF raw).2.slots.length ≤ 4 ∧ RowsA q ∧ (∀ r ∈ q.rows, r.length = (decF raw).2.slots.length) ∧ ∀ F1 T1, PfTo m.p (constF m.p.pool m.F) 0 m.F [] F1 T1 → q.rows.length = ((F1.getD (decF raw).2.pred.toNat []).filter (fitB (decF raw).2.slots)).length ∧ (∀ r ∈ F1.getD (decF raw).2.pred.toNat [], r.length = (decF raw).2.slots.length ∧ (fitB (decF raw).2.slots r = true → r ∈ q.rows)) ∧ ∀ j x y, q.rows[j]? = some x → q.rows[j + 1]? = some y → rlF x y = true := by
  obtain ⟨h0, hk, hw, t, hti, eq⟩ := pat_of hI.ins hr h h6 hc
  have hG := hI.ins t hti
  have hAT : AgT t m := by
    rcases hA with ⟨h1, -⟩ | ⟨t', ht', h2⟩
    · rw [h1] at hti; cases hti
    · rw [ht'] at hti; cases hti; exact h2
  have hra : RowsA q := by rw [eq]; exact ptQ.ra t _ _ hw.slots
  obtain ⟨pr, epr⟩ : ∃ pr, pr = (decF raw).2.pred.toNat := ⟨_, rfl⟩
  obtain ⟨L, eL⟩ : ∃ L, L = (decF raw).2.slots := ⟨_, rfl⟩
  rw [← epr, ← eL] at eq
  rw [← epr, ← eL]
  have hc0 : crF t.p pr L.length = 0 := by
    by_cases e : crF t.p pr L.length = 0
    · exact e
    · unfold ptQ at eq
      rw [if_pos e] at eq
      rw [eq] at hc
      exact hc
  obtain ⟨c1, c2⟩ := crF_iff hG.pg.pok pr L.length
  have hpr : pr < t.p.preds.length := Nat.lt_of_not_le fun hle => by rw [c1 hle] at hc0; cases hc0
  have h2 : L.length = arP t.p pr := by
    by_cases e : L.length = arP t.p pr
    · exact e
    · rw [(c2 hpr).1 e] at hc0; cases hc0
  have erow : q.rows = srtR ((ptRows t pr L).map fun x => nmsT t.N x L.length) := by
    rw [eq]; unfold ptQ; rw [if_neg (fun e => e hc0)]
  have hlen : ∀ r ∈ q.rows, r.length = L.length := fun r hr => by
    rw [erow] at hr
    obtain ⟨x, hx, rfl⟩ := List.mem_map.1 (srtR_mem hr)
    exact nmsT_len _ _ _
  refine ⟨h0, hk, hAT.ld, hw.pred, by rw [← hAT.p]; exact hpr, by rw [eL]; exact hw.slots, hra, hlen, fun F1 T1 hQ => ?_⟩
  obtain ⟨k1, k2, k3⟩ := hAT.all hG hQ
  have h4 := ar4 hG.pg.pok pr
  have hl1 : ∀ r ∈ F1.getD pr [], r.length = L.length := fun r hr => by
    obtain ⟨x, -, e⟩ := (k1 pr r).1 hr
    rw [e, nmsT_len, h2]
  have hsame : srtR ((ptRows t pr L).map fun x => nmsT t.N x L.length) = zsR ((F1.getD pr []).filter (fitB L)) := by
    refine srt_same (n := L.length) (fun r hr => ?_) (fun r hr => hl1 r (List.mem_filter.1 hr).1) ?_ ((k2 pr).filter _) (fun r => ?_)
    · obtain ⟨x, -, rfl⟩ := List.mem_map.1 hr
      exact nmsT_len _ _ _
    · refine map_nd (fun x hx y hy e => ?_) ((rinv_nd hG.inv pr).filter _)
      rw [h2] at e
      exact nm_inj k3 h4 (k3.td pr x (List.mem_filter.1 hx).1) (k3.td pr y (List.mem_filter.1 hy).1) e
    · rw [List.mem_map, List.mem_filter]
      constructor
      · rintro ⟨x, hx, rfl⟩
        obtain ⟨x1, x2⟩ := List.mem_filter.1 hx
        refine ⟨(k1 pr _).2 ⟨x, x1, by rw [h2]⟩, ?_⟩
        exact (pt_fit k3 h2 h4 x1).1 (of_decide_eq_true x2)
      · rintro ⟨hr, hf⟩
        obtain ⟨x, x1, e⟩ := (k1 pr r).1 hr
        rw [← h2] at e
        rw [e] at hf
        exact ⟨x, List.mem_filter.2 ⟨x1, decide_eq_true ((pt_fit k3 h2 h4 x1).2 hf)⟩, e.symm⟩
  obtain ⟨z1, z2⟩ := zsR_strict (n := L.length) (B := (F1.getD pr []).filter (fitB L)) (fun r hr => hl1 r (List.mem_filter.1 hr).1) ((k2 pr).filter _)
  rw [erow, hsame]
  exact ⟨z1.length_eq, fun r hr => ⟨hl1 r hr, fun hf => z1.mem_iff.2 (List.mem_filter.2 ⟨hr, hf⟩)⟩, z2⟩
end Go.Proofs.Qxb6500787aGreat
