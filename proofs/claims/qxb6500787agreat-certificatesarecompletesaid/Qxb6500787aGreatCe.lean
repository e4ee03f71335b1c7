import Derived.Test.Qxb6500787aGreatCd
import Derived.Test.Qxb6500787aGreatZn

import Derived.StillTailTactics
import Derived.Deep.QuietTactic
import Derived.BigQuiet
import Derived.Deep.RegionHeld
import Derived.Deep.CutRange
import Derived.Laws.ResultCell
import Derived.Laws.Rows
import Derived.DeepKeys
import Derived.DataBytes
import Derived.Laws.StructEq
import Derived.Laws.AppendOwn
import Derived.Laws.MakeOwn
import Derived.Lib.AppendStr
set_option linter.unusedSimpArgs false
set_option linter.unusedVariables false
namespace Go.Proofs.Qxb6500787aGreat
open Go.RowKit Go.Blk
attribute [local go_sem ↓] execOp_load execOp_store execOp_alloc
attribute [local go_sem] Tryz.ld26 Tryz.st26 Tryz.ld27 Tryz.st27 Tryz.ld28 Tryz.st28 Tryz.ld3 Tryz.st3 Tryz.ld29 Tryz.st29 Tryz.ld44 Tryz.st44 Tryz.ld4 Tryz.st4 Tryz.ld50 Tryz.st50 Tryz.ld32 Tryz.st32 Tryz.ld49 Tryz.st49 Tryz.ld68 Tryz.st68 Tryz.ld9 Tryz.st9 Tryz.ld40 Tryz.st40 Tryz.ld138 Tryz.st138 Tryz.ld139 Tryz.st139 Tryz.ld146 Tryz.st146 Tryz.ld183 Tryz.st183 Tryz.ld184 Tryz.st184 Tryz.ld192 Tryz.st192 Tryz.ld195 Tryz.st195 Tryz.ld217 Tryz.st217 Tryz.ld159 Tryz.st159 Tryz.ld142 Tryz.st142 Tryz.ld2 Tryz.st2 Tryz.ld5 Tryz.st5 Tryz.ld12 Tryz.st12 Tryz.ld21 Tryz.st21 Tryz.ld22 Tryz.st22 Tryz.ld24 Tryz.st24 Tryz.ld58 Tryz.st58 Tryz.ld97 Tryz.st97 Tryz.ld101 Tryz.st101 Tryz.ld116 Tryz.st116 Tryz.ld121 Tryz.st121 Tryz.ld135 Tryz.st135 Tryz.ld136 Tryz.st136 Tryz.ld143 Tryz.st143 Tryz.ld148 Tryz.st148 Tryz.ld154 Tryz.st154 Tryz.ld173 Tryz.st173 Tryz.ld187 Tryz.st187 Tryz.ld222 Tryz.st222 Tryz.ld241 Tryz.st241 Tryz.ld248 Tryz.st248 Tryz.ld268 Tryz.st268 Tryz.ld272 Tryz.st272 Tryz.ld153 Tryz.st153 Tryz.ld255 Tryz.st255 Tryz.ld256 Tryz.st256 Tryz.ld129 Tryz.st129 Tryz.ld152 Tryz.st152 Tryz.ld31 Tryz.st31 Tryz.ld46 Tryz.st46 Tryz.ld52 Tryz.st52 Tryz.ld54 Tryz.st54 Tryz.ld60 Tryz.st60 Tryz.ld70 Tryz.st70 Tryz.ld74 Tryz.st74 Tryz.ld93 Tryz.st93 Tryz.ld141 Tryz.st141 Tryz.ld151 Tryz.st151 Tryz.ld170 Tryz.st170 Tryz.ld186 Tryz.st186 Tryz.ld189 Tryz.st189 Tryz.ld194 Tryz.st194 Tryz.ld197 Tryz.st197 Tryz.ld219 Tryz.st219 Tryz.ld224 Tryz.st224 Tryz.ld230 Tryz.st230 Tryz.ld235 Tryz.st235 Tryz.ld243 Tryz.st243 Tryz.ld247 Tryz.st247 Tryz.ld252 Tryz.st252 Tryz.ld258 Tryz.st258 Tryz.al153 Tryz.al255 Tryz.al256 Tryz.al129 Tryz.al152 Tryz.al31 Tryz.al46 Tryz.al52 Tryz.al54 Tryz.al60 Tryz.al70 Tryz.al74 Tryz.al93 Tryz.al141 Tryz.al151 Tryz.al170 Tryz.al186 Tryz.al189 Tryz.al194 Tryz.al197 Tryz.al219 Tryz.al224 Tryz.al230 Tryz.al235 Tryz.al243 Tryz.al247 Tryz.al252 Tryz.al258
attribute [local go_sem] Request.length_enc Request.ok_enc Request.all_get Request.all_set Request.kind_get Request.kind_set Request.blob_get Request.blob_set Request.items_get Request.items_set Request.pred_get Request.pred_set Request.slots_get Request.slots_set Trace.length_enc Trace.ok_enc Trace.all_get Trace.all_set Trace.op_get Trace.op_set Trace.calls_get Trace.calls_set Item.length_enc Item.ok_enc Item.all_get Item.all_set Item.del_get Item.del_set Item.pred_get Item.pred_set Item.args_get Item.args_set Reply.length_enc Reply.ok_enc Reply.all_get Reply.all_set Reply.code_get Reply.code_set Reply.kind_get Reply.kind_set Reply.index_get Reply.index_set Reply.yes_get Reply.yes_set Reply.preds_get Reply.preds_set Reply.rules_get Reply.rules_set Reply.arity_get Reply.arity_set Reply.rows_get Reply.rows_set Reply.fact_get Reply.fact_set Reply.fact_del_get Reply.fact_del_set Reply.fact_pred_get Reply.fact_pred_set Reply.fact_args_get Reply.fact_args_set GEntry.length_enc GEntry.ok_enc GEntry.all_get GEntry.all_set GEntry.seq_get GEntry.seq_set GEntry.kind_get GEntry.kind_set GEntry.code_get GEntry.code_set GOp.length_enc GOp.ok_enc GOp.all_get GOp.all_set GOp.kind_get GOp.kind_set GOp.raw_get GOp.raw_set Reader.length_enc Reader.ok_enc Reader.all_get Reader.all_set Reader.buf_get Reader.buf_set Reader.at__get Reader.at__set Slot.length_enc Slot.ok_enc Slot.all_get Slot.all_set Slot.bound_get Slot.bound_set Slot.name_get Slot.name_set Session.length_enc Session.ok_enc Session.all_get Session.all_set Session.svc_get Session.svc_set Session.buf_get Session.buf_set Session.closed_get Session.closed_set GProgram.length_enc GProgram.ok_enc GProgram.all_get GProgram.all_set GProgram.pool_get GProgram.pool_set GProgram.preds_get GProgram.preds_set GProgram.rules_get GProgram.rules_set GProgram.strata_get GProgram.strata_set PredInfo.length_enc PredInfo.ok_enc PredInfo.all_get PredInfo.all_set PredInfo.arity_get PredInfo.arity_set PredInfo.base_get PredInfo.base_set PredInfo.stratum_get PredInfo.stratum_set Change.length_enc Change.ok_enc Change.all_get Change.all_set Change.del_get Change.del_set Change.pred_get Change.pred_set Change.t_get Change.t_set Store.length_enc Store.ok_enc Store.all_get Store.all_set Store.names_get Store.names_set Store.arity_get Store.arity_set Store.rows_get Store.rows_set Src.length_enc Src.ok_enc Src.all_get Src.all_set Src.b_get Src.b_set Src.at__get Src.at__set Atom.length_enc Atom.ok_enc Atom.all_get Atom.all_set Atom.pred_get Atom.pred_set Atom.args_get Atom.args_set GRule.length_enc GRule.ok_enc GRule.all_get GRule.all_set GRule.head_get GRule.head_set GRule.body_get GRule.body_set GRule.head_pred_get GRule.head_pred_set GRule.head_args_get GRule.head_args_set Cert.length_enc Cert.ok_enc Cert.all_get Cert.all_set Cert.names_get Cert.names_set Cert.nodes_get Cert.nodes_set Fact.length_enc Fact.ok_enc Fact.all_get Fact.all_set Fact.pred_get Fact.pred_set Fact.t_get Fact.t_set Literal.length_enc Literal.ok_enc Literal.all_get Literal.all_set Literal.neg_get Literal.neg_set Literal.atom_get Literal.atom_set Literal.atom_pred_get Literal.atom_pred_set Literal.atom_args_get Literal.atom_args_set Engine.length_enc Engine.ok_enc Engine.all_get Engine.all_set Engine.prog_get Engine.prog_set Engine.st_get Engine.st_set SrcCertm.length_enc SrcCertm.ok_enc SrcCertm.all_get SrcCertm.all_set SrcCertm.b_get SrcCertm.b_set SrcCertm.at__get SrcCertm.at__set GNode.length_enc GNode.ok_enc GNode.all_get GNode.all_set GNode.rule_get GNode.rule_set GNode.pred_get GNode.pred_set GNode.vals_get GNode.vals_set GNode.refs_get GNode.refs_set Term.length_enc Term.ok_enc Term.all_get Term.all_set Term.var_get Term.var_set Term.n_get Term.n_set Env.length_enc Env.ok_enc Env.all_get Env.all_set Env.val_get Env.val_set Env.set_get Env.set_set
attribute [local go_sem] size_put size_ext blk_put free_put blk_alloc free_alloc blk_drew free_drew blk_ext free_ext lookOr_some putOr_some segAt_some cellAt_some storeIn_some put_put put_alloc_new length_arr ok_arr_u8 ok_arr_u32 ok_arr_u64 ok_arr_i64 ok_arr_sl cellsV_agg cellsV_int cellsV_bool cellsV_string cellsV_pointer cellsV_slice cellsV_sl ok_int ok_bool ok_string ok_pointer ok_slice ok_sl toList_arr seg_arr set_arr nth_splice nth_splice0 seg_splice seg_splice0 splice_splice splice_splice0 length_splice_if
attribute [local go_sem ↓] execOp_box
attribute [local go_sem] box_run nth_arr_u8 put_arr_u8 blk_drewN free_drewN put_drewN blk_raw free_raw
theorem pre_getD {P N : List (List UInt8)} (h : P <+: N) {n : Nat} (hn : n < P.length) : N.getD n [] = P.getD n [] := by
  obtain ⟨K, rfl⟩ := h
  rw [List.getD_eq_getElem?_getD, List.getD_eq_getElem?_getD, List.getElem?_append_left hn]
/-- An atom's row, by names. -/
theorem nm_gS {p : PP} {N : List (List UInt8)} (hpre : p.pool <+: N) {a : PA} (ha : AtD p (InT p.pool.length) a) {σ : Nat → Int} {τ : Nat → List UInt8} (h : ∀ t ∈ a.args, t.var = true → N.getD (σ t.n.toNat).toNat [] = τ t.n.toNat) : nmsT N (gS a σ) (arP p a.pred) = gN p.pool a τ := by
  have hlen : (gN p.pool a τ).length = a.args.length := List.length_map ..
  apply List.ext_getElem?
  intro c
  by_cases hc : c < a.args.length
  · rw [nmsT_at N _ (by rw [← ha.1]; exact hc), tg_gS _ _ (by have := ha.2.1; omega), if_pos hc]
    unfold gN
    rw [List.getElem?_map, tA_at hc]
    show some _ = some _
    congr 1
    dsimp only
    unfold vS
    by_cases hv : (tA a c).var = true
    · rw [if_pos hv, if_pos hv]
      exact h _ (List.mem_of_getElem? (tA_at hc)) hv
    · rw [if_neg hv, if_neg hv]
      exact pre_getD hpre ((ha.2.2 c hc).2 (by simpa using hv)).2
  · rw [List.getElem?_eq_none (by rw [nmsT_len, ← ha.1]; omega), List.getElem?_eq_none (by rw [hlen]; omega)]
theorem nmT_inj {p : PP} {N : List (List UInt8)} (hnd : N.Nodup) {q : Nat} (h4 : arP p q ≤ 4) {t u : Tup} (ht : TD p (InT N.length) q t) (hu : TD p (InT N.length) q u) (h : nmsT N t (arP p q) = nmsT N u (arP p q)) : t = u := by
  apply tg_ext
  intro c hc
  by_cases e : c < arP p q
  · have h1 := nmsT_at N t e
    rw [h, nmsT_at N u e] at h1
    have h2 := Option.some.inj h1
    have h3 := look_at hnd (ht.1 c e)
    rw [← h2, look_at hnd (hu.1 c e)] at h3
    exact h3.symm
  · rw [ht.2 c (by omega) hc, hu.2 c (by omega) hc]
/-- A covered variable stands in a positive literal. -/
theorem cov_pos {r : PR} {a : PA} (h : covB r a = true) {t : Term} (ht : t ∈ a.args) (hv : t.var = true) : ∃ z ∈ r.body, z.neg = false ∧ ∃ c, c < z.atom.args.length ∧ (tA z.atom c).var = true ∧ (tA z.atom c).n = t.n := by
  have h1 := List.all_eq_true.1 h t ht
  rw [hv] at h1
  have h2 : posB r t.n = true := by simpa using h1
  unfold posB at h2
  obtain ⟨l, hl, h3⟩ := List.any_eq_true.1 h2
  rw [Bool.and_eq_true] at h3
  obtain ⟨w, hw, h4⟩ := List.any_eq_true.1 h3.2
  rw [Bool.and_eq_true] at h4
  obtain ⟨c, hc⟩ := List.mem_iff_getElem?.1 hw
  have hcl := (List.getElem?_eq_some_iff.1 hc).1
  have e : w = tA l.atom c := by rw [tA_at hcl] at hc; exact (Option.some.inj hc).symm
  exact ⟨l, hl, by simpa using h3.1, c, hcl, by rw [← e]; exact h4.1, by rw [← e]; simpa using h4.2⟩
/-- Where the values of the rows of a rule come from. -/
theorem at_TD {p : PP} {N : List (List UInt8)} (hpre : p.pool <+: N) {r : PR} (hr : RuD p (InT p.pool.length) r) {σ : Nat → Int} (hpos : ∀ z ∈ r.body, z.neg = false → TD p (InT N.length) z.atom.pred (gS z.atom σ)) {a : PA} (ha : AtD p (InT p.pool.length) a) (hc : covB r a = true) : TD p (InT N.length) a.pred (gS a σ) := by
  refine ⟨fun c hc9 => ?_, fun c hc9 h4 => ?_⟩
  · have hcl : c < a.args.length := by rw [ha.1]; exact hc9
    rw [tg_gS _ _ (by have := ha.2.1; omega), if_pos hcl]
    unfold vS
    by_cases hv : (tA a c).var = true
    · rw [if_pos hv]
      obtain ⟨z, hz, hn, c', hc', hv', hn'⟩ := cov_pos hc (List.mem_of_getElem? (tA_at hcl)) hv
      have hz2 := hr.2.1 z hz
      have h1 := (hpos z hz hn).1 c' (by rw [← hz2.1]; exact hc')
      rw [tg_gS _ _ (by have := hz2.2.1; omega), if_pos hc'] at h1
      unfold vS at h1
      rw [if_pos hv', hn'] at h1
      exact h1
    · rw [if_neg hv]
      exact ((ha.2.2 c hcl).2 (by simpa using hv)).mono hpre.length_le
  · rw [tg_gS _ _ h4, if_neg (by rw [ha.1]; omega)]
/-- The least model over numbers keeps to the table. -/
theorem lm_TD {p : PP} {N : List (List UInt8)} (hpre : p.pool <+: N) (hp : ∀ r ∈ p.rules, RuD p (InT p.pool.length) r) {B : Nat → Tup → Prop} (hB : ∀ q t, B q t → TD p (InT N.length) q t) : ∀ (s q : Nat) (t : Tup), LM gS p B s q t → TD p (InT N.length) q t
  | 0, q, t, h => hB q t h
  | s + 1, q, t, h => by
    have ih := lm_TD hpre hp hB s
    induction h with
    | old q t h => exact ih q t h
    | rule r σ hr hs hpos hneg ih2 => exact at_TD hpre (hp r hr) ih2 (hp r hr).1 (res_cov (hp r hr).2.2).1
/-- Numbers and names tell the same model. -/
theorem lm_nm {p : PP} {N : List (List UInt8)} (hnd : N.Nodup) (hpre : p.pool <+: N) (hp : ∀ r ∈ p.rules, RuD p (InT p.pool.length) r) (h4 : ∀ q, arP p q ≤ 4) {B : Nat → Tup → Prop} (hB : ∀ q t, B q t → TD p (InT N.length) q t) {B' : Nat → NRow → Prop} (hBB : ∀ q x, B' q x ↔ ∃ t, B q t ∧ x = nmsT N t (arP p q)) : ∀ (s q : Nat), (∀ t, LM gS p B s q t → LM (gN p.pool) p B' s q (nmsT N t (arP p q))) ∧ (∀ x, LM (gN p.pool) p B' s q x → ∃ t, LM gS p B s q t ∧ x = nmsT N t (arP p q))
  | 0, q => ⟨fun t h => (hBB q _).2 ⟨t, h, rfl⟩, fun x h => (hBB q x).1 h⟩
  | s + 1, q => by
    have ih := lm_nm hnd hpre hp h4 hB hBB s
    have hTD := lm_TD hpre hp hB
    have sound : ∀ q t, Der gS p (LM gS p B s) s q t → Der (gN p.pool) p (LM (gN p.pool) p B' s) s q (nmsT N t (arP p q)) := by
      intro q t h
      induction h with
      | old q t h => exact Der.old _ _ ((ih q).1 t h)
      | rule r σ hr hs hpos hneg ih2 =>
        have hrr := hp r hr
        obtain ⟨hch, hcn⟩ := res_cov hrr.2.2
        have htd : ∀ z ∈ r.body, z.neg = false → TD p (InT N.length) z.atom.pred (gS z.atom σ) := fun z hz hn => hTD (s + 1) _ _ (hpos z hz hn)
        rw [nm_gS hpre hrr.1 (τ := fun v => N.getD (σ v).toNat []) (fun _ _ _ => rfl)]
        refine Der.rule r _ hr hs (fun z hz hn => ?_) (fun z hz hn hm => ?_)
        · have h1 := ih2 z hz hn
          rw [nm_gS hpre (hrr.2.1 z hz) (τ := fun v => N.getD (σ v).toNat []) (fun _ _ _ => rfl)] at h1
          exact h1
        · obtain ⟨t', ht', e⟩ := (ih _).2 _ hm
          rw [← nm_gS hpre (hrr.2.1 z hz) (σ := σ) (fun _ _ _ => rfl)] at e
          have e2 := nmT_inj hnd (h4 _) (at_TD hpre hrr htd (hrr.2.1 z hz) (hcn z hz hn)) (hTD s _ _ ht') e
          exact hneg z hz hn (e2 ▸ ht')
    have complete : ∀ q x, Der (gN p.pool) p (LM (gN p.pool) p B' s) s q x → ∃ t, Der gS p (LM gS p B s) s q t ∧ x = nmsT N t (arP p q) := by
      intro q x h
      induction h with
      | old q x h =>
        obtain ⟨t, h1, h2⟩ := (ih q).2 x h
        exact ⟨t, Der.old _ _ h1, h2⟩
      | rule r τ hr hs hpos hneg ih2 =>
        have hrr := hp r hr
        obtain ⟨hch, hcn⟩ := res_cov hrr.2.2
        -- the names of the positive literals' variables are in the table
        have hin : ∀ z ∈ r.body, z.neg = false → ∀ c, c < z.atom.args.length → (tA z.atom c).var = true → τ (tA z.atom c).n.toNat ∈ N := fun z hz hn c hc hv => by
          obtain ⟨t, h1, h2⟩ := ih2 z hz hn
          have hat := hrr.2.1 z hz
          have h3 : (gN p.pool z.atom τ)[c]? = (nmsT N t (arP p z.atom.pred))[c]? := by rw [h2]
          rw [nmsT_at N t (by rw [← hat.1]; exact hc)] at h3
          unfold gN at h3
          rw [List.getElem?_map, tA_at hc] at h3
          have h5 := Option.some.inj h3
          dsimp only at h5
          rw [if_pos hv] at h5
          rw [h5]
          exact List.mem_of_getElem? (getD_at ((hTD (s + 1) _ _ h1).1 c (by rw [← hat.1]; exact hc)).2)
        have hlook : ∀ y ∈ N, N.getD (lookF N y).toNat [] = y ∧ InT N.length (lookF N y) := fun y hy => by
          obtain ⟨i, hi, h1⟩ := lookF_get (N := N) (nm := y) (fun e => lookF_mem e hy)
          rw [hi]
          refine ⟨?_, by omega, ?_⟩
          · rw [List.getD_eq_getElem?_getD]
            show (N[(i : Int).toNat]?).getD [] = y
            rw [Int.toNat_natCast, h1]; rfl
          · rw [Int.toNat_natCast]; exact (List.getElem?_eq_some_iff.1 h1).1
        have hposn : ∀ z ∈ r.body, z.neg = false → nmsT N (gS z.atom (fun v => lookF N (τ v))) (arP p z.atom.pred) = gN p.pool z.atom τ := fun z hz hn => nm_gS hpre (hrr.2.1 z hz) (fun t ht hv => by
          obtain ⟨c, hc⟩ := List.mem_iff_getElem?.1 ht
          have hcl := (List.getElem?_eq_some_iff.1 hc).1
          have e : t = tA z.atom c := by rw [tA_at hcl] at hc; exact (Option.some.inj hc).symm
          rw [e]
          rw [e] at hv
          exact (hlook _ (hin z hz hn c hcl hv)).1)
        have hcovn : ∀ a : PA, AtD p (InT p.pool.length) a → covB r a = true → nmsT N (gS a (fun v => lookF N (τ v))) (arP p a.pred) = gN p.pool a τ := fun a ha hc => nm_gS hpre ha (fun t ht hv => by
          obtain ⟨z, hz, hn, c, hcl, hv', hn'⟩ := cov_pos hc ht hv
          have := (hlook _ (hin z hz hn c hcl hv')).1
          rw [hn'] at this
          exact this)
        have htd : ∀ z ∈ r.body, z.neg = false → TD p (InT N.length) z.atom.pred (gS z.atom (fun v => lookF N (τ v))) := fun z hz hn => by
          have hat := hrr.2.1 z hz
          refine ⟨fun c hc9 => ?_, fun c hc9 h49 => ?_⟩
          · have hcl : c < z.atom.args.length := by rw [hat.1]; exact hc9
            rw [tg_gS _ _ (by have := hat.2.1; omega), if_pos hcl]
            unfold vS
            by_cases hv : (tA z.atom c).var = true
            · rw [if_pos hv]
              exact (hlook _ (hin z hz hn c hcl hv)).2
            · rw [if_neg hv]
              exact ((hat.2.2 c hcl).2 (by simpa using hv)).mono hpre.length_le
          · rw [tg_gS _ _ h49, if_neg (by rw [hat.1]; omega)]
        refine ⟨gS r.head (fun v => lookF N (τ v)), Der.rule r _ hr hs (fun z hz hn => ?_) (fun z hz hn hm => ?_), (hcovn _ hrr.1 hch).symm⟩
        · obtain ⟨t, h1, h2⟩ := ih2 z hz hn
          rw [← hposn z hz hn] at h2
          rw [nmT_inj hnd (h4 _) (htd z hz hn) (hTD (s + 1) _ _ h1) h2]
          exact h1
        · have h1 := (ih _).1 _ hm
          rw [hcovn _ (hrr.2.1 z hz) (hcn z hz hn)] at h1
          exact hneg z hz hn h1
    exact ⟨sound q, complete q⟩
/-- What the service keeps and what the model keeps tell the same. -/
def Tells (p : PP) (N : List (List UInt8)) (R : List (List Tup)) (F : List (List NRow)) : Prop := ∀ q x, memN F q x ↔ ∃ t, memI R q t ∧ x = nmsT N t (arP p q)
theorem nodup_subG {α : Type} [DecidableEq α] : ∀ (N G : List α), N.Nodup → (∀ x ∈ N, x ∈ G) → N.length ≤ G.length
  | [], _, _, _ => Nat.zero_le _
  | x :: N, G, hn, hs => by
    rw [List.nodup_cons] at hn
    have hx := hs x List.mem_cons_self
    have h1 := nodup_subG N (G.erase x) hn.2 (fun y hy => by
      refine (List.mem_erase_of_ne (fun e => ?_)).2 (hs y (List.mem_cons_of_mem _ hy))
      exact hn.1 (e ▸ hy))
    rw [List.length_erase_of_mem hx] at h1
    have h2 := List.length_pos_of_mem hx
    rw [List.length_cons]
    omega
theorem tells_le {p : PP} {N : List (List UInt8)} {R : List (List Tup)} {F : List (List NRow)} {q : Nat} (hF : (F.getD q []).Nodup) (h : ∀ x, memN F q x → ∃ t, memI R q t ∧ x = nmsT N t (arP p q)) : (F.getD q []).length ≤ (rowsAt R q).length := by
  have h1 := nodup_subG (F.getD q []) ((rowsAt R q).map fun t => nmsT N t (arP p q)) hF (fun x hx => by
    obtain ⟨t, h1, h2⟩ := h x hx
    exact List.mem_map.2 ⟨t, h1, h2.symm⟩)
  rw [List.length_map] at h1
  exact h1
theorem map_nd {α β : Type} {f : α → β} : ∀ {l : List α}, (∀ x ∈ l, ∀ y ∈ l, f x = f y → x = y) → l.Nodup → (l.map f).Nodup
  | [], _, _ => List.nodup_nil
  | x :: l, hf, h => by
    rw [List.nodup_cons] at h
    rw [List.map_cons, List.nodup_cons]
    refine ⟨fun hm => ?_, map_nd (fun a ha b hb => hf a (List.mem_cons_of_mem _ ha) b (List.mem_cons_of_mem _ hb)) h.2⟩
    obtain ⟨y, hy, e⟩ := List.mem_map.1 hm
    rw [hf y (List.mem_cons_of_mem _ hy) x List.mem_cons_self e] at hy
    exact h.1 hy
theorem tells_ge {p : PP} {N : List (List UInt8)} (hnd : N.Nodup) (h4 : ∀ q, arP p q ≤ 4) {R : List (List Tup)} (hR : RD' p (InT N.length) R) {F : List (List NRow)} {q : Nat} (hn : (rowsAt R q).Nodup) (h : ∀ t, memI R q t → memN F q (nmsT N t (arP p q))) : (rowsAt R q).length ≤ (F.getD q []).length := by
  have h1 := nodup_subG ((rowsAt R q).map fun t => nmsT N t (arP p q)) (F.getD q []) (map_nd (fun t ht u hu e => nmT_inj hnd (h4 q) (hR q t ht) (hR q u hu) e) hn) (fun x hx => by
    obtain ⟨t, h1, rfl⟩ := List.mem_map.1 hx
    exact h t h1)
  rw [List.length_map] at h1
  exact h1
theorem overN_not {F : List (List NRow)} : overN F = false ↔ ∀ q, (F.getD q []).length ≤ 512 := by
  constructor
  · intro h q
    exact getD_len (overN_le h) q
  · intro h
    unfold overN
    rw [List.any_eq_false]
    intro L hL
    obtain ⟨q, hq⟩ := List.mem_iff_getElem?.1 hL
    have h1 := h q
    rw [List.getD_eq_getElem?_getD, hq] at h1
    have h2 : L.length ≤ 512 := h1
    rw [decide_eq_true_eq]
    omega
theorem overB_not {R : List (List Tup)} : overB R = false ↔ ∀ q, (rowsAt R q).length ≤ 512 := by
  unfold overB rowsAt
  rw [List.any_eq_false]
  constructor
  · intro h q
    rw [List.getD_eq_getElem?_getD]
    cases hx : R[q]? with
    | none => exact Nat.zero_le _
    | some L =>
      have h1 := h L (List.mem_of_getElem? hx)
      rw [decide_eq_true_eq] at h1
      show L.length ≤ 512
      omega
  · intro h L hL
    obtain ⟨q, hq⟩ := List.mem_iff_getElem?.1 hL
    have h1 := h q
    rw [List.getD_eq_getElem?_getD, hq] at h1
    have h2 : L.length ≤ 512 := h1
    rw [decide_eq_true_eq]
    omega
/-- A good policy's rules fit the model's tables. -/
theorem PgG.fit {p : PP} (h : PgG p) {r : PR} (hr : r ∈ p.rules) : RuFit p.pool r p.preds.length := by
  have h1 := h.pok.rl r hr
  have h2 := h.rul r hr
  have hat : ∀ a ∈ atomsOf r, AtD p (InT p.pool.length) a := fun a ha => by
    rcases List.mem_cons.1 ha with rfl | ha
    · exact h2.1
    · obtain ⟨z, hz, rfl⟩ := List.mem_map.1 ha
      exact h2.2.1 z hz
  refine ⟨h1.1.2.1, h1.2, fun z hz => (h1.1.2.2 z hz).2, fun a ha => (hat a ha).2.1, fun a ha c hc => ?_⟩
  have h3 := (hat a ha).2.2 c hc
  by_cases hv : (tA a c).var = true
  · have := h3.1 hv
    exact ⟨this.1, fun _ => this.2, fun e => by rw [hv] at e; cases e⟩
  · have hv' : (tA a c).var = false := by simpa using hv
    obtain ⟨h5, h6⟩ := h3.2 hv'
    exact ⟨h5, fun e => absurd e hv, fun _ => by omega⟩
/-- A policy in force. -/
structure PgV (p : PP) : Prop where
  g : PgG p
  neg : NegS p
  top : TopS p
/-- Service and model compute the same. -/
theorem perf_same {p : PP} (hp : PgV p) {N : List (List UInt8)} (hnd : N.Nodup) (hpre : p.pool <+: N) {Bs R1 : List (List Tup)} (hP : PerfTo p 0 Bs R1) (hI : RInv p Bs) (hD : RD' p (InT N.length) Bs) {F F1 : List (List NRow)} {T1 : List NStep} (hQ : PfTo p (constF p.pool F) 0 F [] F1 T1) (hFl : F.length = p.preds.length) (hFn : ∀ q, (F.getD q []).Nodup) (hT : Tells p N Bs F) : overB R1 = overN F1 ∧ (overB R1 = false → Tells p N R1 F1) ∧ (∀ q, (F1.getD q []).Nodup) ∧ F1.length = p.preds.length := by
  have h4 := ar4 hp.g.pok
  have hD1 : RD' p (InT N.length) R1 := hP.dom (fun r hr => (hp.g.rul r hr).mono (fun y hy => hy.mono hpre.length_le)) hD
  have hI1 := hP.inv hp.g.pok hI
  have hl : ∀ r ∈ p.rules, r.head.pred < p.preds.length := fun r hr => (hp.g.pok.rl r hr).2
  have hst : 0 ≤ p.strata.toNat := Nat.zero_le _
  obtain ⟨s1, s2⟩ := hP.lm (D := InT N.length) (B := memI Bs) (fun r hr => (hp.g.rul r hr).mono (fun y hy => hy.mono hpre.length_le)) hl hp.neg hp.top hI.2 hD ⟨fun q x hx => LM.up hx, fun q x hx => hx⟩ hst
  have hdom : ∀ q x, memN F q x → ∀ y ∈ x, y ∈ constF p.pool F := fun q x hx y hy => by
    refine constF_mem.2 (.inr ?_)
    have hx' : x ∈ F.getD q [] := hx
    rw [List.getD_eq_getElem?_getD] at hx'
    cases hq : F[q]? with
    | none => rw [hq] at hx'; cases hx'
    | some L => rw [hq] at hx'; exact ⟨L, List.mem_of_getElem? hq, x, hx', hy⟩
  obtain ⟨m1, m2, m3, m4, -⟩ := hQ.lm (N := p.preds.length) (B := memN F) (fun r hr => ⟨hp.g.fit hr, (hp.g.rul r hr).2.2⟩) hl (fun x hx => constF_mem.2 (.inl hx)) hp.neg hp.top hFl hdom hFn ⟨fun q x hx => LM.up hx, fun q x hx => hx⟩ hst
  have hnm := lm_nm hnd hpre hp.g.rul h4 (B := memI Bs) (fun q t ht => hD q t ht) (B' := memN F) hT p.strata.toNat
  have c1 : overB R1 = false → ∀ q x, memN F1 q x → ∃ t, memI R1 q t ∧ x = nmsT N t (arP p q) := fun ho q x hx => by
    obtain ⟨t, h1, h2⟩ := (hnm q).2 x (m1 q x hx)
    exact ⟨t, s2 ho q t h1, h2⟩
  have c2 : overN F1 = false → ∀ q t, memI R1 q t → memN F1 q (nmsT N t (arP p q)) := fun ho q t ht => m2 ho q _ ((hnm q).1 t (s1 q t ht))
  have hoo : overB R1 = false ↔ overN F1 = false := by
    constructor
    · intro ho
      rw [overN_not]
      intro q
      exact Nat.le_trans (tells_le (m3 q) (c1 ho q)) (overB_not.1 ho q)
    · intro ho
      rw [overB_not]
      intro q
      exact Nat.le_trans (tells_ge hnd h4 hD1 ((hI1.1.at q).1) (c2 ho q)) (overN_not.1 ho q)
  refine ⟨?_, fun ho q x => ⟨c1 ho q x, fun ⟨t, h1, h2⟩ => by rw [h2]; exact c2 (hoo.1 ho) q t h1⟩, m3, m4⟩
  cases hb : overB R1 with
  | false => exact (hoo.1 hb).symm
  | true =>
    cases hc : overN F1 with
    | true => rfl
    | false => rw [hoo.2 hc] at hb; cases hb
end Go.Proofs.Qxb6500787aGreat
