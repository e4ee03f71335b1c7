
import Derived.Test.Qxb6500787aGreatXc
import Derived.StillTailTactics
import Derived.Deep.QuietTactic
import Derived.BigQuiet
import Derived.Deep.RegionHeld
import Derived.Deep.CutRange
import Derived.Laws.ResultCell
import Derived.Laws.Rows
import Derived.DeepKeys
import Derived.DataBytes
import Derived.Laws.StructEq
import Derived.Laws.AppendOwn
import Derived.Laws.MakeOwn
import Derived.Lib.AppendStr
set_option linter.unusedSimpArgs false
set_option linter.unusedVariables false
namespace Go.Proofs.Qxb6500787aGreat
open Go.RowKit Go.Blk
attribute [local go_sem ↓] execOp_load execOp_store execOp_alloc
attribute [local go_sem] Tryz.ld26 Tryz.st26 Tryz.ld27 Tryz.st27 Tryz.ld28 Tryz.st28 Tryz.ld3 Tryz.st3 Tryz.ld29 Tryz.st29 Tryz.ld44 Tryz.st44 Tryz.ld4 Tryz.st4 Tryz.ld50 Tryz.st50 Tryz.ld32 Tryz.st32 Tryz.ld49 Tryz.st49 Tryz.ld68 Tryz.st68 Tryz.ld9 Tryz.st9 Tryz.ld40 Tryz.st40 Tryz.ld138 Tryz.st138 Tryz.ld139 Tryz.st139 Tryz.ld146 Tryz.st146 Tryz.ld183 Tryz.st183 Tryz.ld184 Tryz.st184 Tryz.ld192 Tryz.st192 Tryz.ld195 Tryz.st195 Tryz.ld217 Tryz.st217 Tryz.ld159 Tryz.st159 Tryz.ld142 Tryz.st142 Tryz.ld2 Tryz.st2 Tryz.ld5 Tryz.st5 Tryz.ld12 Tryz.st12 Tryz.ld21 Tryz.st21 Tryz.ld22 Tryz.st22 Tryz.ld24 Tryz.st24 Tryz.ld58 Tryz.st58 Tryz.ld97 Tryz.st97 Tryz.ld101 Tryz.st101 Tryz.ld116 Tryz.st116 Tryz.ld121 Tryz.st121 Tryz.ld135 Tryz.st135 Tryz.ld136 Tryz.st136 Tryz.ld143 Tryz.st143 Tryz.ld148 Tryz.st148 Tryz.ld154 Tryz.st154 Tryz.ld173 Tryz.st173 Tryz.ld187 Tryz.st187 Tryz.ld222 Tryz.st222 Tryz.ld241 Tryz.st241 Tryz.ld248 Tryz.st248 Tryz.ld268 Tryz.st268 Tryz.ld272 Tryz.st272 Tryz.ld153 Tryz.st153 Tryz.ld255 Tryz.st255 Tryz.ld256 Tryz.st256 Tryz.ld129 Tryz.st129 Tryz.ld152 Tryz.st152 Tryz.ld31 Tryz.st31 Tryz.ld46 Tryz.st46 Tryz.ld52 Tryz.st52 Tryz.ld54 Tryz.st54 Tryz.ld60 Tryz.st60 Tryz.ld70 Tryz.st70 Tryz.ld74 Tryz.st74 Tryz.ld93 Tryz.st93 Tryz.ld141 Tryz.st141 Tryz.ld151 Tryz.st151 Tryz.ld170 Tryz.st170 Tryz.ld186 Tryz.st186 Tryz.ld189 Tryz.st189 Tryz.ld194 Tryz.st194 Tryz.ld197 Tryz.st197 Tryz.ld219 Tryz.st219 Tryz.ld224 Tryz.st224 Tryz.ld230 Tryz.st230 Tryz.ld235 Tryz.st235 Tryz.ld243 Tryz.st243 Tryz.ld247 Tryz.st247 Tryz.ld252 Tryz.st252 Tryz.ld258 Tryz.st258 Tryz.al153 Tryz.al255 Tryz.al256 Tryz.al129 Tryz.al152 Tryz.al31 Tryz.al46 Tryz.al52 Tryz.al54 Tryz.al60 Tryz.al70 Tryz.al74 Tryz.al93 Tryz.al141 Tryz.al151 Tryz.al170 Tryz.al186 Tryz.al189 Tryz.al194 Tryz.al197 Tryz.al219 Tryz.al224 Tryz.al230 Tryz.al235 Tryz.al243 Tryz.al247 Tryz.al252 Tryz.al258
attribute [local go_sem] Request.length_enc Request.ok_enc Request.all_get Request.all_set Request.kind_get Request.kind_set Request.blob_get Request.blob_set Request.items_get Request.items_set Request.pred_get Request.pred_set Request.slots_get Request.slots_set Trace.length_enc Trace.ok_enc Trace.all_get Trace.all_set Trace.op_get Trace.op_set Trace.calls_get Trace.calls_set Item.length_enc Item.ok_enc Item.all_get Item.all_set Item.del_get Item.del_set Item.pred_get Item.pred_set Item.args_get Item.args_set Reply.length_enc Reply.ok_enc Reply.all_get Reply.all_set Reply.code_get Reply.code_set Reply.kind_get Reply.kind_set Reply.index_get Reply.index_set Reply.yes_get Reply.yes_set Reply.preds_get Reply.preds_set Reply.rules_get Reply.rules_set Reply.arity_get Reply.arity_set Reply.rows_get Reply.rows_set Reply.fact_get Reply.fact_set Reply.fact_del_get Reply.fact_del_set Reply.fact_pred_get Reply.fact_pred_set Reply.fact_args_get Reply.fact_args_set GEntry.length_enc GEntry.ok_enc GEntry.all_get GEntry.all_set GEntry.seq_get GEntry.seq_set GEntry.kind_get GEntry.kind_set GEntry.code_get GEntry.code_set GOp.length_enc GOp.ok_enc GOp.all_get GOp.all_set GOp.kind_get GOp.kind_set GOp.raw_get GOp.raw_set Reader.length_enc Reader.ok_enc Reader.all_get Reader.all_set Reader.buf_get Reader.buf_set Reader.at__get Reader.at__set Slot.length_enc Slot.ok_enc Slot.all_get Slot.all_set Slot.bound_get Slot.bound_set Slot.name_get Slot.name_set Session.length_enc Session.ok_enc Session.all_get Session.all_set Session.svc_get Session.svc_set Session.buf_get Session.buf_set Session.closed_get Session.closed_set GProgram.length_enc GProgram.ok_enc GProgram.all_get GProgram.all_set GProgram.pool_get GProgram.pool_set GProgram.preds_get GProgram.preds_set GProgram.rules_get GProgram.rules_set GProgram.strata_get GProgram.strata_set PredInfo.length_enc PredInfo.ok_enc PredInfo.all_get PredInfo.all_set PredInfo.arity_get PredInfo.arity_set PredInfo.base_get PredInfo.base_set PredInfo.stratum_get PredInfo.stratum_set Change.length_enc Change.ok_enc Change.all_get Change.all_set Change.del_get Change.del_set Change.pred_get Change.pred_set Change.t_get Change.t_set Store.length_enc Store.ok_enc Store.all_get Store.all_set Store.names_get Store.names_set Store.arity_get Store.arity_set Store.rows_get Store.rows_set Src.length_enc Src.ok_enc Src.all_get Src.all_set Src.b_get Src.b_set Src.at__get Src.at__set Atom.length_enc Atom.ok_enc Atom.all_get Atom.all_set Atom.pred_get Atom.pred_set Atom.args_get Atom.args_set GRule.length_enc GRule.ok_enc GRule.all_get GRule.all_set GRule.head_get GRule.head_set GRule.body_get GRule.body_set GRule.head_pred_get GRule.head_pred_set GRule.head_args_get GRule.head_args_set Cert.length_enc Cert.ok_enc Cert.all_get Cert.all_set Cert.names_get Cert.names_set Cert.nodes_get Cert.nodes_set Fact.length_enc Fact.ok_enc Fact.all_get Fact.all_set Fact.pred_get Fact.pred_set Fact.t_get Fact.t_set Literal.length_enc Literal.ok_enc Literal.all_get Literal.all_set Literal.neg_get Literal.neg_set Literal.atom_get Literal.atom_set Literal.atom_pred_get Literal.atom_pred_set Literal.atom_args_get Literal.atom_args_set Engine.length_enc Engine.ok_enc Engine.all_get Engine.all_set Engine.prog_get Engine.prog_set Engine.st_get Engine.st_set SrcCertm.length_enc SrcCertm.ok_enc SrcCertm.all_get SrcCertm.all_set SrcCertm.b_get SrcCertm.b_set SrcCertm.at__get SrcCertm.at__set GNode.length_enc GNode.ok_enc GNode.all_get GNode.all_set GNode.rule_get GNode.rule_set GNode.pred_get GNode.pred_set GNode.vals_get GNode.vals_set GNode.refs_get GNode.refs_set Term.length_enc Term.ok_enc Term.all_get Term.all_set Term.var_get Term.var_set Term.n_get Term.n_set Env.length_enc Env.ok_enc Env.all_get Env.all_set Env.val_get Env.val_set Env.set_get Env.set_set
attribute [local go_sem] size_put size_ext blk_put free_put blk_alloc free_alloc blk_drew free_drew blk_ext free_ext lookOr_some putOr_some segAt_some cellAt_some storeIn_some put_put put_alloc_new length_arr ok_arr_u8 ok_arr_u32 ok_arr_u64 ok_arr_i64 ok_arr_sl cellsV_agg cellsV_int cellsV_bool cellsV_string cellsV_pointer cellsV_slice cellsV_sl ok_int ok_bool ok_string ok_pointer ok_slice ok_sl toList_arr seg_arr set_arr nth_splice nth_splice0 seg_splice seg_splice0 splice_splice splice_splice0 length_splice_if
attribute [local go_sem ↓] execOp_box
attribute [local go_sem] box_run nth_arr_u8 put_arr_u8 blk_drewN free_drewN put_drewN blk_raw free_raw
theorem shp_pI {ps qs : List PredInfo} (h : shp ps = shp qs) (q : Nat) : (ps.getD q PredInfo.zero).arity = (qs.getD q PredInfo.zero).arity ∧ (ps.getD q PredInfo.zero).base = (qs.getD q PredInfo.zero).base := by
  have h1 : (shp ps)[q]? = (shp qs)[q]? := by rw [h]
  unfold shp at h1
  rw [List.getElem?_map, List.getElem?_map] at h1
  rw [List.getD_eq_getElem?_getD, List.getD_eq_getElem?_getD]
  cases hp : ps[q]? with
  | none =>
    cases hq : qs[q]? with
    | none => exact ⟨rfl, rfl⟩
    | some y => rw [hp, hq] at h1; cases h1
  | some x =>
    cases hq : qs[q]? with
    | none => rw [hp, hq] at h1; cases h1
    | some y =>
      rw [hp, hq] at h1
      have e : (x.arity, x.base) = (y.arity, y.base) := Option.some.inj h1
      exact ⟨congrArg Prod.fst e, congrArg Prod.snd e⟩
theorem atD_of {p p' : PP} (hl : limB p = true) (hs : shp p'.preds = shp p.preds) (hpl : p'.pool = p.pool) {a : PA} (ha : atB p a = true) (hw : AtW a) : AtD p' (InT p'.pool.length) a := by
  obtain ⟨⟨f1, f2⟩, -⟩ := fit_of hl ha hw
  unfold atB at ha
  rw [Bool.and_eq_true, Bool.and_eq_true] at ha
  obtain ⟨-, ha2, ha3⟩ := ha
  have har : (a.args.length : Int) = (pI p a.pred).arity := of_decide_eq_true ha2
  have hs2 := (shp_pI hs a.pred).1
  refine ⟨?_, f1, fun c hc => ⟨fun e => ⟨(f2 c hc).1, (f2 c hc).2.1 e⟩, fun e => ⟨(f2 c hc).1, ?_⟩⟩⟩
  · unfold arP pI
    rw [hs2]
    unfold pI at har
    omega
  · have ht := List.all_eq_true.1 ha3 _ (List.mem_of_getElem? (tA_at hc))
    unfold termB at ht
    rw [if_neg (by rw [e]; decide)] at ht
    have := of_decide_eq_true ht
    rw [hpl]
    have := (f2 c hc).1
    omega
/-- What the loader lets through. -/
theorem pgG_of {p p' : PP} (hd : DecOk p) (h : VerR p 0 p') : PgG p' := by
  obtain ⟨h1, h2, h3, h4, h5⟩ := verR_ok hd h
  have hv : limB p = true ∧ p.rules.all (rlB p) = true ∧ p.rules.all (fun r => !(pI p r.head.pred).base) = true ∧ p.rules.all resB = true := by
    unfold verC at h5
    by_cases e : limB p = false
    · rw [if_pos e] at h5; cases h5
    · rw [if_neg e] at h5
      by_cases e2 : p.rules.all (rlB p) = false
      · rw [if_pos e2] at h5; cases h5
      · rw [if_neg e2] at h5
        by_cases e3 : p.rules.all (fun r => !(pI p r.head.pred).base) = false
        · rw [if_pos e3] at h5; cases h5
        · rw [if_neg e3] at h5
          by_cases e4 : p.rules.all resB = false
          · rw [if_pos e4] at h5; cases h5
          · exact ⟨by simpa using e, by simpa using e2, by simpa using e3, by simpa using e4⟩
  refine ⟨h1, fun r hr => ?_, by rw [h2]; exact hd.pool, fun r hr => ?_⟩
  · rw [h3] at hr
    have h6 := List.all_eq_true.1 hv.2.2.1 r hr
    have h7 := (shp_pI h4 r.head.pred).2
    unfold pI at h6 ⊢
    rw [h7]
    simpa using h6
  · rw [h3] at hr
    have hb := rlB_ok (List.all_eq_true.1 hv.2.1 r hr)
    have hw := hd.rules.2 r hr
    exact ⟨atD_of hv.1 h4 h2 hb.1 hw.1, fun l hl => atD_of hv.1 h4 h2 (hb.2 l hl) (hw.2.2 l hl), List.all_eq_true.1 hv.2.2.2 r hr⟩
/-! ### Collecting -/
structure ColI (s : InsS) (X : Int × List (List UInt8) × List Change) : Prop where
  ex : NEx s.p.pool X.2.1
  ch : ∀ ch ∈ X.2.2, (ChB s.p ch ∧ ch.del = false) ∧ TD s.p (InT X.2.1.length) ch.pred.toNat ch.t
theorem nmsT_64 {t : InsS} (h : InG t) {q : Nat} {x : Tup} (hx : x ∈ rowsAt t.R q) : ∀ y ∈ nmsT t.N x (arP t.p q), y.length ≤ 64 := fun y hy => by
  unfold nmsT at hy
  obtain ⟨c, hc, rfl⟩ := List.mem_map.1 hy
  exact getD64 h.nn.2 _
theorem colS_I {s : InsS} (hs : InG s) {q : Nat} (hq : q < s.p.preds.length) (hb : (pI s.p q).base = true) {x : Tup} (hx : x ∈ rowsAt s.R q) {X : Int × List (List UInt8) × List Change} (h : ColI s X) : ColI s (colS s X (q, x)) := by
  unfold colS
  by_cases e : X.1 ≠ 0
  · rw [if_pos e]; exact h
  · rw [if_neg e]
    by_cases e2 : intCode X.2.1 (nmsT s.N (q, x).2 (arP s.p (q, x).1)) (arP s.p (q, x).1) ≠ 0
    · rw [if_pos e2]; exact ⟨h.ex, h.ch⟩
    · rw [if_neg e2]
      dsimp only at e2 ⊢
      have h64 := nmsT_64 hs hx
      have hl : (nmsT s.N x (arP s.p q)).length = arP s.p q := nmsT_len _ _ _
      obtain ⟨nms, hnms⟩ : ∃ nms, nms = nmsT s.N x (arP s.p q) := ⟨_, rfl⟩
      rw [← hnms] at h64 hl e2 ⊢
      have hz : intCode X.2.1 nms nms.length = 0 := by rw [hl]; exact Decidable.of_not_not e2
      have hex := nmS_ex h.ex.nn h.ex.nl h64 (arP s.p q)
      have htd := intT_td (p := s.p) (q := q) h.ex.nn h.ex.nl h64 hl (intCode_all hz)
      have htok : TOk (mkT (nmV X.2.1 nms) (arP s.p q)) := by
        have h9 := nmT_ok (N := X.2.1) (args := nms) h.ex.nl (n := arP s.p q) (pI_ar hs.pg.pok hq).2 (fun c hc => intCode_all hz c (by rw [hl]; exact hc))
        exact h9
      rw [hl] at htd
      have ha4 := (pI_ar hs.pg.pok hq).2
      refine ⟨h.ex.trans hex, fun ch hch => ?_⟩
      rcases List.mem_append.1 hch with h1 | h1
      · exact ⟨(h.ch ch h1).1, (h.ch ch h1).2.mono (fun y hy => hy.mono hex.pre.length_le)⟩
      · rw [List.mem_singleton.1 h1]
        have hq2 : ((q : Int)).toNat = q := by omega
        refine ⟨⟨⟨⟨by show (0 : Int) ≤ (q : Int); omega, by show ((q : Int)).toNat < _; rw [hq2]; exact hq, fun _ => ?_⟩, by show (pI s.p ((q : Int)).toNat).base = true; rw [hq2]; exact hb⟩, rfl⟩, ?_⟩
        · exact htok
        · show TD s.p _ ((q : Int)).toNat _
          rw [hq2]; exact htd
theorem colL_I {s : InsS} (hs : InG s) {q : Nat} (hq : q < s.p.preds.length) (hb : (pI s.p q).base = true) : ∀ (l : List Tup) (X : Int × List (List UInt8) × List Change), (∀ x ∈ l, x ∈ rowsAt s.R q) → ColI s X → ColI s (colL s q l X)
  | [], _, _, h => h
  | x :: l, X, hl, h => by
    show ColI s (colL s q l (colS s X (q, x)))
    exact colL_I hs hq hb l _ (fun y hy => hl y (List.mem_cons_of_mem _ hy)) (colS_I hs hq hb (hl x List.mem_cons_self) h)
theorem colQ_I {s : InsS} (hs : InG s) : ∀ q, q ≤ s.p.preds.length → ColI s (colQ s q)
  | 0, _ => ⟨NEx.refl hs.pg.pool hs.pg.pok.nP, fun ch h => by cases h⟩
  | q + 1, hq => by
    have ih := colQ_I hs q (by omega)
    show ColI s (colL s q (if (pI s.p q).base then rowsAt s.R q else []) (colQ s q))
    cases hb : (pI s.p q).base with
    | true => rw [if_pos rfl]; exact colL_I hs (by omega) hb _ _ (fun x hx => hx) ih
    | false => rw [if_neg (by decide)]; exact ih
theorem ColR.ing {s s' : InsS} (hs : InG s) (h : ColR s 0 s') : InG s' ∧ s'.p = s.p := by
  obtain ⟨P, hF, h | ⟨ho, h⟩⟩ := h
  · cases h.2
  · rcases h with ⟨-, h⟩ | ⟨h1, ix, R', h2, h3⟩
    · exact absurd rfl h
    · have hc := colQ_I hs s.p.preds.length (Nat.le_refl _)
      have hn := InG.new hs.pg hF ho
      have hg := hn.bat (N' := (colF s).2.1) hc.ex (cs := (colF s).2.2) (fun ch hch => ⟨(hc.ch ch hch).1.1, fun _ => (hc.ch ch hch).2⟩) h2
      have e := h3 rfl
      rw [e]
      exact ⟨hg, (setsS_p (colF s).2.2 _).1⟩
theorem MrR.ing {t t' : InsS} {L : List It} {code co : Int} (ht : InG t) (h : MrR t L code t' co) : InG t' ∧ t'.p = t.p := by
  rcases h with ⟨-, -, rfl, -⟩ | ⟨-, -, -, rfl, -⟩ | ⟨-, -, cc, s1, h1, h2⟩
  · exact ⟨ht, rfl⟩
  · exact ⟨ht, rfl⟩
  · rcases h2 with ⟨-, -, rfl, -⟩ | ⟨rfl, -, rfl, -⟩
    · exact ⟨ht, rfl⟩
    · exact h1.ing ht
theorem cuF_zero {p : PP} (hp : PPok p) {pr n : Nat} (h : cuF p pr n = 0) : pr < p.preds.length ∧ (pI p pr).base = true ∧ n = arP p pr := by
  unfold cuF at h
  by_cases e : p.preds.length ≤ pr
  · rw [if_pos e] at h; cases h
  · rw [if_neg e] at h
    by_cases e2 : (pI p pr).base = false
    · rw [if_pos e2] at h; cases h
    · rw [if_neg e2] at h
      by_cases e3 : (n : Int) ≠ (pI p pr).arity
      · rw [if_pos e3] at h; cases h
      · have e4 : (n : Int) = (pI p pr).arity := Decidable.of_not_not e3
        have e5 := (pI_ar hp (q := pr) (by omega)).1
        exact ⟨by omega, by simpa using e2, by omega⟩
theorem intF_ex {N args : List (List UInt8)} (hN : NmOk N) (hl : N.length ≤ 256) (ha : ∀ x ∈ args, x.length ≤ 64) : NEx N (intF N args).2.2 := nmS_ex hN hl ha _
theorem chB_ins {p : PP} (hp : PPok p) {N args : List (List UInt8)} (hl : N.length ≤ 256) {pr : Nat} (hc : cuF p pr args.length = 0) (h0 : (intF N args).1 = 0) : ChB p ⟨false, (pr : Int), (intF N args).2.1⟩ := by
  obtain ⟨c1, c2, c3⟩ := cuF_zero hp hc
  have hq2 : ((pr : Int)).toNat = pr := by omega
  have ha4 := (pI_ar hp c1).2
  refine ⟨⟨by show (0 : Int) ≤ (pr : Int); omega, by show ((pr : Int)).toNat < _; rw [hq2]; exact c1, fun _ => intF_tok hl (by rw [c3]; exact ha4) h0⟩, ?_⟩
  show (pI p ((pr : Int)).toNat).base = true
  rw [hq2]; exact c2
/-- After an insertion. -/
theorem inR.ing {s s' : Sv} {t : InsS} (ht : InG t) {pr : Nat} {args : List (List UInt8)} (ha : ∀ x ∈ args, x.length ≤ 64) {rep : Reply} (hs : s.inst = some t) (h : inR s t pr args rep s') : ∃ t', s'.inst = some t' ∧ InG t' := by
  rcases h with ⟨-, -, rfl⟩ | ⟨hcu, mc, t1, co, hm, h⟩
  · exact ⟨t, hs, ht⟩
  · obtain ⟨h1, h2⟩ := hm.ing ht
    have hcu1 : cuF t1.p pr args.length = 0 := by rw [h2]; exact hcu
    have hex := intF_ex h1.nn h1.nl ha
    rcases h with ⟨-, -, rfl⟩ | ⟨-, h⟩
    · exact ⟨t1, rfl, h1⟩
    · rcases h with ⟨-, -, rfl⟩ | ⟨h0, code, ix, R', hB, h⟩
      · exact ⟨_, rfl, h1.tab hex⟩
      · rcases h with ⟨-, -, rfl⟩ | ⟨rfl, -, rfl⟩
        · exact ⟨_, rfl, h1.tab hex⟩
        · refine ⟨_, rfl, ?_⟩
          have hq2 : ((pr : Int)).toNat = pr := by omega
          refine h1.bat hex (cs := [inC t1 pr args]) (fun ch hch => ?_) hB
          rw [List.mem_singleton.1 hch]
          refine ⟨chB_ins h1.pg.pok h1.nl hcu1 h0, fun _ => ?_⟩
          show TD t1.p _ ((pr : Int)).toNat _
          rw [hq2]
          exact intF_td h1.nn h1.nl ha (cuF_zero h1.pg.pok hcu1).2.2 h0
theorem chB_del {p : PP} (hp : PPok p) {pr n : Nat} (hc : cuF p pr n = 0) (T : Tup) : ChB p ⟨true, (pr : Int), T⟩ := by
  obtain ⟨c1, c2, c3⟩ := cuF_zero hp hc
  have hq2 : ((pr : Int)).toNat = pr := by omega
  refine ⟨⟨by show (0 : Int) ≤ (pr : Int); omega, by show ((pr : Int)).toNat < _; rw [hq2]; exact c1, fun e => nomatch e⟩, ?_⟩
  show (pI p ((pr : Int)).toNat).base = true
  rw [hq2]; exact c2
theorem rmR.ing {s s' : Sv} {t : InsS} (ht : InG t) {pr : Nat} {args : List (List UInt8)} {rep : Reply} (hs : s.inst = some t) (h : rmR s t pr args rep s') : ∃ t', s'.inst = some t' ∧ InG t' := by
  rcases h with ⟨-, -, rfl⟩ | ⟨hcu, code, ix, R', hB, h⟩
  · exact ⟨t, hs, ht⟩
  · rcases h with ⟨-, -, rfl⟩ | ⟨rfl, -, rfl⟩
    · exact ⟨t, rfl, ht⟩
    · refine ⟨_, rfl, ?_⟩
      exact ht.bat (NEx.refl ht.nn ht.nl) (cs := [rmC t pr args]) (fun ch hch => by
        rw [List.mem_singleton.1 hch]
        exact ⟨chB_del ht.pg.pok hcu _, fun e => nomatch e⟩) hB
/-- The items of a batch made changes. -/
structure BtI (p : PP) (N : List (List UInt8)) (X : Int × List (List UInt8) × List Change) : Prop where
  ex : NEx N X.2.1
  ch : ∀ ch ∈ X.2.2, ChB p ch ∧ (ch.del = false → TD p (InT X.2.1.length) ch.pred.toNat ch.t)
theorem btS_I {p : PP} (hp : PPok p) {N : List (List UInt8)} {it : It} (h0 : 0 ≤ it.2.1) (hc : cuF p it.2.1.toNat it.2.2.length = 0) (ha : ∀ x ∈ it.2.2, x.length ≤ 64) {X : Int × List (List UInt8) × List Change} (h : BtI p N X) : BtI p N (btS X it) := by
  have e0 : it.2.1 = ((it.2.1.toNat : Nat) : Int) := by omega
  unfold btS
  by_cases e : X.1 ≠ 0
  · rw [if_pos e]; exact h
  · rw [if_neg e]
    cases hd : it.1 with
    | true =>
      rw [if_pos rfl]
      refine ⟨h.ex, fun ch hch => ?_⟩
      rcases List.mem_append.1 hch with h1 | h1
      · exact h.ch ch h1
      · rw [List.mem_singleton.1 h1, e0]
        refine ⟨chB_del hp hc _, fun e => nomatch e⟩
    | false =>
      rw [if_neg (by decide)]
      have hex := intF_ex h.ex.nn h.ex.nl ha
      by_cases e2 : (intF X.2.1 it.2.2).1 ≠ 0
      · rw [if_pos e2]
        exact ⟨h.ex.trans hex, fun ch hch => ⟨(h.ch ch hch).1, fun e => ((h.ch ch hch).2 e).mono (fun y hy => hy.mono hex.pre.length_le)⟩⟩
      · rw [if_neg e2]
        refine ⟨h.ex.trans hex, fun ch hch => ?_⟩
        rcases List.mem_append.1 hch with h1 | h1
        · exact ⟨(h.ch ch h1).1, fun e => ((h.ch ch h1).2 e).mono (fun y hy => hy.mono hex.pre.length_le)⟩
        · rw [List.mem_singleton.1 h1]
          have hq2 : (((it.2.1.toNat : Nat) : Int)).toNat = it.2.1.toNat := by omega
          refine ⟨by rw [e0]; exact chB_ins hp h.ex.nl hc (Decidable.of_not_not e2), fun _ => ?_⟩
          exact intF_td h.ex.nn h.ex.nl ha (cuF_zero hp hc).2.2 (Decidable.of_not_not e2)
theorem btF_I {p : PP} (hp : PPok p) {N : List (List UInt8)} : ∀ (L : List It) (X : Int × List (List UInt8) × List Change), (∀ it ∈ L, 0 ≤ it.2.1 ∧ cuF p it.2.1.toNat it.2.2.length = 0 ∧ ∀ x ∈ it.2.2, x.length ≤ 64) → BtI p N X → BtI p N (L.foldl btS X)
  | [], _, _, h => h
  | it :: L, X, hL, h => by
    obtain ⟨h1, h2, h3⟩ := hL it List.mem_cons_self
    exact btF_I hp L _ (fun y hy => hL y (List.mem_cons_of_mem _ hy)) (btS_I hp h1 h2 h3 h)
theorem btR.ing {s s' : Sv} {t : InsS} (ht : InG t) {L : List It} (hL : ∀ it ∈ L, 0 ≤ it.2.1 ∧ ∀ x ∈ it.2.2, x.length ≤ 64) {rep : Reply} (hs : s.inst = some t) (h : btR s t L rep s') : ∃ t', s'.inst = some t' ∧ InG t' := by
  rcases h with ⟨c, i, -, -, rfl⟩ | ⟨hcu, mc, t1, co, hm, h⟩
  · exact ⟨t, hs, ht⟩
  · obtain ⟨h1, h2⟩ := hm.ing ht
    have hb : BtI t1.p t1.N (btF t1.N L) := btF_I h1.pg.pok L _ (fun it hit => ⟨(hL it hit).1, by rw [h2]; exact ckL_none hcu it hit, (hL it hit).2⟩) ⟨NEx.refl h1.nn h1.nl, fun ch hch => by cases hch⟩
    rcases h with ⟨-, -, rfl⟩ | ⟨-, h⟩
    · exact ⟨t1, rfl, h1⟩
    · rcases h with ⟨-, -, rfl⟩ | ⟨h0, code, ix, R', hB, h⟩
      · exact ⟨_, rfl, h1.tab hb.ex⟩
      · rcases h with ⟨-, -, rfl⟩ | ⟨rfl, -, rfl⟩
        · exact ⟨_, rfl, h1.tab hb.ex⟩
        · exact ⟨_, rfl, h1.bat hb.ex hb.ch hB⟩
theorem ldR.ing {s s' : Sv} {xs : List UInt8} (hs : ∀ t, s.inst = some t → InG t) {rep : Reply} (h : ldR s xs rep s') : ∀ t', s'.inst = some t' → InG t' := by
  rcases h with ⟨-, -, rfl⟩ | ⟨h0, vc, p', hv, h⟩
  · exact hs
  · rcases h with ⟨-, -, rfl⟩ | ⟨rfl, P, hF, h⟩
    · exact hs
    · rcases h with ⟨-, -, rfl⟩ | ⟨ho, -, rfl⟩
      · exact hs
      · intro t' e
        cases e
        exact InG.new (pgG_of (decP_ok h0) hv) hF ho
end Go.Proofs.Qxb6500787aGreat
