import Derived.Test.Qxb6500787aGreatCa

import Derived.StillTailTactics
import Derived.Deep.QuietTactic
import Derived.BigQuiet
import Derived.Deep.RegionHeld
import Derived.Deep.CutRange
import Derived.Laws.ResultCell
import Derived.Laws.Rows
import Derived.DeepKeys
import Derived.DataBytes
import Derived.Laws.StructEq
import Derived.Laws.AppendOwn
import Derived.Laws.MakeOwn
import Derived.Lib.AppendStr
set_option linter.unusedSimpArgs false
set_option linter.unusedVariables false
namespace Go.Proofs.Qxb6500787aGreat
open Go.RowKit Go.Blk
attribute [local go_sem ↓] execOp_load execOp_store execOp_alloc
attribute [local go_sem] Tryz.ld26 Tryz.st26 Tryz.ld27 Tryz.st27 Tryz.ld28 Tryz.st28 Tryz.ld3 Tryz.st3 Tryz.ld29 Tryz.st29 Tryz.ld44 Tryz.st44 Tryz.ld4 Tryz.st4 Tryz.ld50 Tryz.st50 Tryz.ld32 Tryz.st32 Tryz.ld49 Tryz.st49 Tryz.ld68 Tryz.st68 Tryz.ld9 Tryz.st9 Tryz.ld40 Tryz.st40 Tryz.ld138 Tryz.st138 Tryz.ld139 Tryz.st139 Tryz.ld146 Tryz.st146 Tryz.ld183 Tryz.st183 Tryz.ld184 Tryz.st184 Tryz.ld192 Tryz.st192 Tryz.ld195 Tryz.st195 Tryz.ld217 Tryz.st217 Tryz.ld159 Tryz.st159 Tryz.ld142 Tryz.st142 Tryz.ld2 Tryz.st2 Tryz.ld5 Tryz.st5 Tryz.ld12 Tryz.st12 Tryz.ld21 Tryz.st21 Tryz.ld22 Tryz.st22 Tryz.ld24 Tryz.st24 Tryz.ld58 Tryz.st58 Tryz.ld97 Tryz.st97 Tryz.ld101 Tryz.st101 Tryz.ld116 Tryz.st116 Tryz.ld121 Tryz.st121 Tryz.ld135 Tryz.st135 Tryz.ld136 Tryz.st136 Tryz.ld143 Tryz.st143 Tryz.ld148 Tryz.st148 Tryz.ld154 Tryz.st154 Tryz.ld173 Tryz.st173 Tryz.ld187 Tryz.st187 Tryz.ld222 Tryz.st222 Tryz.ld241 Tryz.st241 Tryz.ld248 Tryz.st248 Tryz.ld268 Tryz.st268 Tryz.ld272 Tryz.st272 Tryz.ld153 Tryz.st153 Tryz.ld255 Tryz.st255 Tryz.ld256 Tryz.st256 Tryz.ld129 Tryz.st129 Tryz.ld152 Tryz.st152 Tryz.ld31 Tryz.st31 Tryz.ld46 Tryz.st46 Tryz.ld52 Tryz.st52 Tryz.ld54 Tryz.st54 Tryz.ld60 Tryz.st60 Tryz.ld70 Tryz.st70 Tryz.ld74 Tryz.st74 Tryz.ld93 Tryz.st93 Tryz.ld141 Tryz.st141 Tryz.ld151 Tryz.st151 Tryz.ld170 Tryz.st170 Tryz.ld186 Tryz.st186 Tryz.ld189 Tryz.st189 Tryz.ld194 Tryz.st194 Tryz.ld197 Tryz.st197 Tryz.ld219 Tryz.st219 Tryz.ld224 Tryz.st224 Tryz.ld230 Tryz.st230 Tryz.ld235 Tryz.st235 Tryz.ld243 Tryz.st243 Tryz.ld247 Tryz.st247 Tryz.ld252 Tryz.st252 Tryz.ld258 Tryz.st258 Tryz.al153 Tryz.al255 Tryz.al256 Tryz.al129 Tryz.al152 Tryz.al31 Tryz.al46 Tryz.al52 Tryz.al54 Tryz.al60 Tryz.al70 Tryz.al74 Tryz.al93 Tryz.al141 Tryz.al151 Tryz.al170 Tryz.al186 Tryz.al189 Tryz.al194 Tryz.al197 Tryz.al219 Tryz.al224 Tryz.al230 Tryz.al235 Tryz.al243 Tryz.al247 Tryz.al252 Tryz.al258
attribute [local go_sem] Request.length_enc Request.ok_enc Request.all_get Request.all_set Request.kind_get Request.kind_set Request.blob_get Request.blob_set Request.items_get Request.items_set Request.pred_get Request.pred_set Request.slots_get Request.slots_set Trace.length_enc Trace.ok_enc Trace.all_get Trace.all_set Trace.op_get Trace.op_set Trace.calls_get Trace.calls_set Item.length_enc Item.ok_enc Item.all_get Item.all_set Item.del_get Item.del_set Item.pred_get Item.pred_set Item.args_get Item.args_set Reply.length_enc Reply.ok_enc Reply.all_get Reply.all_set Reply.code_get Reply.code_set Reply.kind_get Reply.kind_set Reply.index_get Reply.index_set Reply.yes_get Reply.yes_set Reply.preds_get Reply.preds_set Reply.rules_get Reply.rules_set Reply.arity_get Reply.arity_set Reply.rows_get Reply.rows_set Reply.fact_get Reply.fact_set Reply.fact_del_get Reply.fact_del_set Reply.fact_pred_get Reply.fact_pred_set Reply.fact_args_get Reply.fact_args_set GEntry.length_enc GEntry.ok_enc GEntry.all_get GEntry.all_set GEntry.seq_get GEntry.seq_set GEntry.kind_get GEntry.kind_set GEntry.code_get GEntry.code_set GOp.length_enc GOp.ok_enc GOp.all_get GOp.all_set GOp.kind_get GOp.kind_set GOp.raw_get GOp.raw_set Reader.length_enc Reader.ok_enc Reader.all_get Reader.all_set Reader.buf_get Reader.buf_set Reader.at__get Reader.at__set Slot.length_enc Slot.ok_enc Slot.all_get Slot.all_set Slot.bound_get Slot.bound_set Slot.name_get Slot.name_set Session.length_enc Session.ok_enc Session.all_get Session.all_set Session.svc_get Session.svc_set Session.buf_get Session.buf_set Session.closed_get Session.closed_set GProgram.length_enc GProgram.ok_enc GProgram.all_get GProgram.all_set GProgram.pool_get GProgram.pool_set GProgram.preds_get GProgram.preds_set GProgram.rules_get GProgram.rules_set GProgram.strata_get GProgram.strata_set PredInfo.length_enc PredInfo.ok_enc PredInfo.all_get PredInfo.all_set PredInfo.arity_get PredInfo.arity_set PredInfo.base_get PredInfo.base_set PredInfo.stratum_get PredInfo.stratum_set Change.length_enc Change.ok_enc Change.all_get Change.all_set Change.del_get Change.del_set Change.pred_get Change.pred_set Change.t_get Change.t_set Store.length_enc Store.ok_enc Store.all_get Store.all_set Store.names_get Store.names_set Store.arity_get Store.arity_set Store.rows_get Store.rows_set Src.length_enc Src.ok_enc Src.all_get Src.all_set Src.b_get Src.b_set Src.at__get Src.at__set Atom.length_enc Atom.ok_enc Atom.all_get Atom.all_set Atom.pred_get Atom.pred_set Atom.args_get Atom.args_set GRule.length_enc GRule.ok_enc GRule.all_get GRule.all_set GRule.head_get GRule.head_set GRule.body_get GRule.body_set GRule.head_pred_get GRule.head_pred_set GRule.head_args_get GRule.head_args_set Cert.length_enc Cert.ok_enc Cert.all_get Cert.all_set Cert.names_get Cert.names_set Cert.nodes_get Cert.nodes_set Fact.length_enc Fact.ok_enc Fact.all_get Fact.all_set Fact.pred_get Fact.pred_set Fact.t_get Fact.t_set Literal.length_enc Literal.ok_enc Literal.all_get Literal.all_set Literal.neg_get Literal.neg_set Literal.atom_get Literal.atom_set Literal.atom_pred_get Literal.atom_pred_set Literal.atom_args_get Literal.atom_args_set Engine.length_enc Engine.ok_enc Engine.all_get Engine.all_set Engine.prog_get Engine.prog_set Engine.st_get Engine.st_set SrcCertm.length_enc SrcCertm.ok_enc SrcCertm.all_get SrcCertm.all_set SrcCertm.b_get SrcCertm.b_set SrcCertm.at__get SrcCertm.at__set GNode.length_enc GNode.ok_enc GNode.all_get GNode.all_set GNode.rule_get GNode.rule_set GNode.pred_get GNode.pred_set GNode.vals_get GNode.vals_set GNode.refs_get GNode.refs_set Term.length_enc Term.ok_enc Term.all_get Term.all_set Term.var_get Term.var_set Term.n_get Term.n_set Env.length_enc Env.ok_enc Env.all_get Env.all_set Env.val_get Env.val_set Env.set_get Env.set_set
attribute [local go_sem] size_put size_ext blk_put free_put blk_alloc free_alloc blk_drew free_drew blk_ext free_ext lookOr_some putOr_some segAt_some cellAt_some storeIn_some put_put put_alloc_new length_arr ok_arr_u8 ok_arr_u32 ok_arr_u64 ok_arr_i64 ok_arr_sl cellsV_agg cellsV_int cellsV_bool cellsV_string cellsV_pointer cellsV_slice cellsV_sl ok_int ok_bool ok_string ok_pointer ok_slice ok_sl toList_arr seg_arr set_arr nth_splice nth_splice0 seg_splice seg_splice0 splice_splice splice_splice0 length_splice_if
attribute [local go_sem ↓] execOp_box
attribute [local go_sem] box_run nth_arr_u8 put_arr_u8 blk_drewN free_drewN put_drewN blk_raw free_raw
/-- What matching found, from which environment. -/
def MFit (S : List (List Tup)) (Z0 : List PL) (hd : PA) (Z : List PL) (e : Env) (t : Tup) : Prop := ∃ e', EnG e e' ∧ negs S Z0 e' = true ∧ t = gA hd e' ∧ ∀ z ∈ Z, z.neg = false → VSet z.atom z.atom.args.length e' ∧ ∃ row ∈ rowsAt S z.atom.pred, ∀ i, i < z.atom.args.length → tg row i = valT e' (tA z.atom i)
theorem valT_grow {a : PA} (ha : VFit a) {e e' : Env} (h : EnG e e') (hv : VSet a a.args.length e) {i : Nat} (hi : i < a.args.length) : valT e' (tA a i) = valT e (tA a i) := by
  unfold valT
  by_cases e1 : (tA a i).var = true
  · rw [if_pos e1, if_pos e1]
    have h1 := ha i hi e1
    exact (h _ (by omega) (hv i hi e1)).2
  · rw [if_neg e1, if_neg e1]
theorem foldl_fit {S : List (List Tup)} {Z0 : List PL} {hd : PA} {z : PL} {Z : List PL} {e : Env} (hn : z.neg = false) (hz : VFit z.atom) (ih : ∀ e out t, t ∈ goM S Z0 hd Z e out → t ∈ out ∨ MFit S Z0 hd Z e t) : ∀ (rows : List Tup) (out : List Tup) (t : Tup), (∀ r ∈ rows, r ∈ rowsAt S z.atom.pred) → t ∈ rows.foldl (stM S Z0 hd z Z e) out → t ∈ out ∨ MFit S Z0 hd (z :: Z) e t
  | [], out, t, _, h => .inl h
  | row :: rows, out, t, hr, h => by
    rw [List.foldl_cons] at h
    rcases foldl_fit hn hz ih rows _ t (fun r h9 => hr r (List.mem_cons_of_mem _ h9)) h with h | h
    · unfold stM at h
      split at h
      · rename_i e1 h1
        rcases ih _ _ t h with h | ⟨e', k1, k2, k3, k4⟩
        · exact .inl h
        · obtain ⟨g1, g2, g3⟩ := uni_fit hz _ _ _ (Nat.le_refl _) h1
          refine .inr ⟨e', g1.trans k1, k2, k3, fun y hy hyn => ?_⟩
          rcases List.mem_cons.1 hy with rfl | hy
          · refine ⟨fun i hi hv => ?_, row, hr row List.mem_cons_self, fun i hi => ?_⟩
            · have h6 := hz i hi hv
              exact (k1 _ (by omega) (g2 i hi hv)).1
            · rw [valT_grow hz k1 g2 hi]; exact g3 i hi
          · exact k4 y hy hyn
      · exact .inl h
    · exact .inr h
/-- Matching finds only heads whose body holds. -/
theorem goM_fit {S : List (List Tup)} {Z0 : List PL} {hd : PA} : ∀ (Z : List PL) (e : Env) (out : List Tup) (t : Tup), (∀ z ∈ Z, VFit z.atom) → t ∈ goM S Z0 hd Z e out → t ∈ out ∨ MFit S Z0 hd Z e t
  | [], e, out, t, _, h => by
    unfold goM at h
    split at h
    · rename_i hn
      rcases mem_addT.1 h with h | h
      · exact .inl h
      · exact .inr ⟨e, EnG.refl _, hn, h, fun z hz => by cases hz⟩
    · exact .inl h
  | z :: Z, e, out, t, hv, h => by
    have hv' : ∀ y ∈ Z, VFit y.atom := fun y hy => hv y (List.mem_cons_of_mem _ hy)
    rw [goM_cons] at h
    by_cases hn : z.neg = true
    · rw [if_pos hn] at h
      rcases goM_fit Z e out t hv' h with h | ⟨e', k1, k2, k3, k4⟩
      · exact .inl h
      · refine .inr ⟨e', k1, k2, k3, fun y hy hyn => ?_⟩
        rcases List.mem_cons.1 hy with rfl | hy
        · rw [hn] at hyn; cases hyn
        · exact k4 y hy hyn
    · rw [if_neg hn] at h
      exact foldl_fit (by simpa using hn) (hv z List.mem_cons_self) (fun e out t h => goM_fit Z e out t hv' h) _ _ t (fun _ h => h) h
theorem eS_zero (v : Nat) (h : v < 32) : eS Env.zero v = false := by
  rw [eS_at _ h]
  show (Vector.replicate 32 false)[v] = false
  exact Vector.getElem_replicate ..
theorem agr_zero (σ : Nat → Int) : Agr Env.zero σ := fun v hv h => by rw [eS_zero v hv] at h; cases h
theorem agr_self (e : Env) : Agr e (eV e) := fun _ _ _ => rfl
/-- The body of a rule holds under a substitution. -/
def BodS (R : List (List Tup)) (r : PR) (σ : Nat → Int) : Prop := (∀ z ∈ r.body, z.neg = false → gS z.atom σ ∈ rowsAt R z.atom.pred) ∧ ∀ z ∈ r.body, z.neg = true → gS z.atom σ ∉ rowsAt R z.atom.pred
theorem res_cov {r : PR} (h : resB r = true) : covB r r.head = true ∧ ∀ z ∈ r.body, z.neg = true → covB r z.atom = true := by
  unfold resB at h
  rw [Bool.and_eq_true, List.all_eq_true] at h
  refine ⟨h.1, fun z hz hn => ?_⟩
  have h9 := h.2 z hz
  rw [hn] at h9
  exact h9
/-- What a rule finds: the heads whose body holds. -/
theorem fnd_iff {p : PP} {D : Int → Prop} {R : List (List Tup)} (hR : RD' p D R) {r : PR} (hr : RuD p D r) {t : Tup} : t ∈ fnd R r ↔ ∃ σ, t = gS r.head σ ∧ BodS R r σ := by
  obtain ⟨hh, hb, hres⟩ := hr
  obtain ⟨hch, hcn⟩ := res_cov hres
  unfold fnd
  constructor
  · intro h
    rcases goM_fit r.body Env.zero [] t (fun z hz => (hb z hz).vfit) h with h | ⟨e', -, k2, k3, k4⟩
    · cases h
    have hset : ∀ z ∈ r.body, z.neg = false → VSet z.atom z.atom.args.length e' := fun z hz hn => (k4 z hz hn).1
    refine ⟨eV e', ?_, fun z hz hn => ?_, fun z hz hn hm => ?_⟩
    · rw [k3]
      exact gA_agr hh.vfit hh.2.1 (agr_self e') (cov_set hch hset)
    · obtain ⟨hv, row, hrow, hq⟩ := k4 z hz hn
      have e9 : gS z.atom (eV e') = row := by
        apply tg_ext
        intro c hc
        rw [tg_gS _ _ hc]
        by_cases e1 : c < z.atom.args.length
        · rw [if_pos e1, hq c e1]
          exact (valT_agr (hb z hz).vfit (agr_self e') (Nat.le_refl _) hv e1).symm
        · rw [if_neg e1]
          exact ((hR z.atom.pred row hrow).2 c (by rw [← (hb z hz).1]; omega) hc).symm
      rw [e9]; exact hrow
    · have hv := cov_set (hcn z hz hn) hset
      have h9 := List.all_eq_true.1 k2 z hz
      rw [hn, Bool.true_and] at h9
      rw [gA_agr (hb z hz).vfit (hb z hz).2.1 (agr_self e') hv, decide_eq_true hm] at h9
      cases h9
  · rintro ⟨σ, rfl, h1, h2⟩
    refine goM_all r.body Env.zero [] (fun z hz hn => ⟨(hb z hz).vfit, h1 z hz hn⟩) (fun z hz => (hb z hz).2.1) (agr_zero σ) (fun e' ha _ hs => ⟨?_, ?_⟩)
    · unfold negs
      rw [List.all_eq_true]
      intro z hz
      cases hn : z.neg with
      | false => rfl
      | true =>
        rw [Bool.true_and, gA_agr (hb z hz).vfit (hb z hz).2.1 ha (cov_set (hcn z hz hn) hs), decide_eq_false (h2 z hz hn)]
        rfl
    · exact gA_agr hh.vfit hh.2.1 ha (cov_set hch hs)
end Go.Proofs.Qxb6500787aGreat
