
import Derived.Test.Qxb6500787aGreatZm
import Derived.StillTailTactics
import Derived.Deep.QuietTactic
import Derived.BigQuiet
import Derived.Deep.RegionHeld
import Derived.Deep.CutRange
import Derived.Laws.ResultCell
import Derived.Laws.Rows
import Derived.DeepKeys
import Derived.DataBytes
import Derived.Laws.StructEq
import Derived.Laws.AppendOwn
import Derived.Laws.MakeOwn
import Derived.Lib.AppendStr
set_option linter.unusedSimpArgs false
set_option linter.unusedVariables false
namespace Go.Proofs.Qxb6500787aGreat
open Go.RowKit Go.Blk
attribute [local go_sem ↓] execOp_load execOp_store execOp_alloc
attribute [local go_sem] Tryz.ld26 Tryz.st26 Tryz.ld27 Tryz.st27 Tryz.ld28 Tryz.st28 Tryz.ld3 Tryz.st3 Tryz.ld29 Tryz.st29 Tryz.ld44 Tryz.st44 Tryz.ld4 Tryz.st4 Tryz.ld50 Tryz.st50 Tryz.ld32 Tryz.st32 Tryz.ld49 Tryz.st49 Tryz.ld68 Tryz.st68 Tryz.ld9 Tryz.st9 Tryz.ld40 Tryz.st40 Tryz.ld138 Tryz.st138 Tryz.ld139 Tryz.st139 Tryz.ld146 Tryz.st146 Tryz.ld183 Tryz.st183 Tryz.ld184 Tryz.st184 Tryz.ld192 Tryz.st192 Tryz.ld195 Tryz.st195 Tryz.ld217 Tryz.st217 Tryz.ld159 Tryz.st159 Tryz.ld142 Tryz.st142 Tryz.ld2 Tryz.st2 Tryz.ld5 Tryz.st5 Tryz.ld12 Tryz.st12 Tryz.ld21 Tryz.st21 Tryz.ld22 Tryz.st22 Tryz.ld24 Tryz.st24 Tryz.ld58 Tryz.st58 Tryz.ld97 Tryz.st97 Tryz.ld101 Tryz.st101 Tryz.ld116 Tryz.st116 Tryz.ld121 Tryz.st121 Tryz.ld135 Tryz.st135 Tryz.ld136 Tryz.st136 Tryz.ld143 Tryz.st143 Tryz.ld148 Tryz.st148 Tryz.ld154 Tryz.st154 Tryz.ld173 Tryz.st173 Tryz.ld187 Tryz.st187 Tryz.ld222 Tryz.st222 Tryz.ld241 Tryz.st241 Tryz.ld248 Tryz.st248 Tryz.ld268 Tryz.st268 Tryz.ld272 Tryz.st272 Tryz.ld153 Tryz.st153 Tryz.ld255 Tryz.st255 Tryz.ld256 Tryz.st256 Tryz.ld129 Tryz.st129 Tryz.ld152 Tryz.st152 Tryz.ld31 Tryz.st31 Tryz.ld46 Tryz.st46 Tryz.ld52 Tryz.st52 Tryz.ld54 Tryz.st54 Tryz.ld60 Tryz.st60 Tryz.ld70 Tryz.st70 Tryz.ld74 Tryz.st74 Tryz.ld93 Tryz.st93 Tryz.ld141 Tryz.st141 Tryz.ld151 Tryz.st151 Tryz.ld170 Tryz.st170 Tryz.ld186 Tryz.st186 Tryz.ld189 Tryz.st189 Tryz.ld194 Tryz.st194 Tryz.ld197 Tryz.st197 Tryz.ld219 Tryz.st219 Tryz.ld224 Tryz.st224 Tryz.ld230 Tryz.st230 Tryz.ld235 Tryz.st235 Tryz.ld243 Tryz.st243 Tryz.ld247 Tryz.st247 Tryz.ld252 Tryz.st252 Tryz.ld258 Tryz.st258 Tryz.al153 Tryz.al255 Tryz.al256 Tryz.al129 Tryz.al152 Tryz.al31 Tryz.al46 Tryz.al52 Tryz.al54 Tryz.al60 Tryz.al70 Tryz.al74 Tryz.al93 Tryz.al141 Tryz.al151 Tryz.al170 Tryz.al186 Tryz.al189 Tryz.al194 Tryz.al197 Tryz.al219 Tryz.al224 Tryz.al230 Tryz.al235 Tryz.al243 Tryz.al247 Tryz.al252 Tryz.al258
attribute [local go_sem] Request.length_enc Request.ok_enc Request.all_get Request.all_set Request.kind_get Request.kind_set Request.blob_get Request.blob_set Request.items_get Request.items_set Request.pred_get Request.pred_set Request.slots_get Request.slots_set Trace.length_enc Trace.ok_enc Trace.all_get Trace.all_set Trace.op_get Trace.op_set Trace.calls_get Trace.calls_set Item.length_enc Item.ok_enc Item.all_get Item.all_set Item.del_get Item.del_set Item.pred_get Item.pred_set Item.args_get Item.args_set Reply.length_enc Reply.ok_enc Reply.all_get Reply.all_set Reply.code_get Reply.code_set Reply.kind_get Reply.kind_set Reply.index_get Reply.index_set Reply.yes_get Reply.yes_set Reply.preds_get Reply.preds_set Reply.rules_get Reply.rules_set Reply.arity_get Reply.arity_set Reply.rows_get Reply.rows_set Reply.fact_get Reply.fact_set Reply.fact_del_get Reply.fact_del_set Reply.fact_pred_get Reply.fact_pred_set Reply.fact_args_get Reply.fact_args_set GEntry.length_enc GEntry.ok_enc GEntry.all_get GEntry.all_set GEntry.seq_get GEntry.seq_set GEntry.kind_get GEntry.kind_set GEntry.code_get GEntry.code_set GOp.length_enc GOp.ok_enc GOp.all_get GOp.all_set GOp.kind_get GOp.kind_set GOp.raw_get GOp.raw_set Reader.length_enc Reader.ok_enc Reader.all_get Reader.all_set Reader.buf_get Reader.buf_set Reader.at__get Reader.at__set Slot.length_enc Slot.ok_enc Slot.all_get Slot.all_set Slot.bound_get Slot.bound_set Slot.name_get Slot.name_set Session.length_enc Session.ok_enc Session.all_get Session.all_set Session.svc_get Session.svc_set Session.buf_get Session.buf_set Session.closed_get Session.closed_set GProgram.length_enc GProgram.ok_enc GProgram.all_get GProgram.all_set GProgram.pool_get GProgram.pool_set GProgram.preds_get GProgram.preds_set GProgram.rules_get GProgram.rules_set GProgram.strata_get GProgram.strata_set PredInfo.length_enc PredInfo.ok_enc PredInfo.all_get PredInfo.all_set PredInfo.arity_get PredInfo.arity_set PredInfo.base_get PredInfo.base_set PredInfo.stratum_get PredInfo.stratum_set Change.length_enc Change.ok_enc Change.all_get Change.all_set Change.del_get Change.del_set Change.pred_get Change.pred_set Change.t_get Change.t_set Store.length_enc Store.ok_enc Store.all_get Store.all_set Store.names_get Store.names_set Store.arity_get Store.arity_set Store.rows_get Store.rows_set Src.length_enc Src.ok_enc Src.all_get Src.all_set Src.b_get Src.b_set Src.at__get Src.at__set Atom.length_enc Atom.ok_enc Atom.all_get Atom.all_set Atom.pred_get Atom.pred_set Atom.args_get Atom.args_set GRule.length_enc GRule.ok_enc GRule.all_get GRule.all_set GRule.head_get GRule.head_set GRule.body_get GRule.body_set GRule.head_pred_get GRule.head_pred_set GRule.head_args_get GRule.head_args_set Cert.length_enc Cert.ok_enc Cert.all_get Cert.all_set Cert.names_get Cert.names_set Cert.nodes_get Cert.nodes_set Fact.length_enc Fact.ok_enc Fact.all_get Fact.all_set Fact.pred_get Fact.pred_set Fact.t_get Fact.t_set Literal.length_enc Literal.ok_enc Literal.all_get Literal.all_set Literal.neg_get Literal.neg_set Literal.atom_get Literal.atom_set Literal.atom_pred_get Literal.atom_pred_set Literal.atom_args_get Literal.atom_args_set Engine.length_enc Engine.ok_enc Engine.all_get Engine.all_set Engine.prog_get Engine.prog_set Engine.st_get Engine.st_set SrcCertm.length_enc SrcCertm.ok_enc SrcCertm.all_get SrcCertm.all_set SrcCertm.b_get SrcCertm.b_set SrcCertm.at__get SrcCertm.at__set GNode.length_enc GNode.ok_enc GNode.all_get GNode.all_set GNode.rule_get GNode.rule_set GNode.pred_get GNode.pred_set GNode.vals_get GNode.vals_set GNode.refs_get GNode.refs_set Term.length_enc Term.ok_enc Term.all_get Term.all_set Term.var_get Term.var_set Term.n_get Term.n_set Env.length_enc Env.ok_enc Env.all_get Env.all_set Env.val_get Env.val_set Env.set_get Env.set_set
attribute [local go_sem] size_put size_ext blk_put free_put blk_alloc free_alloc blk_drew free_drew blk_ext free_ext lookOr_some putOr_some segAt_some cellAt_some storeIn_some put_put put_alloc_new length_arr ok_arr_u8 ok_arr_u32 ok_arr_u64 ok_arr_i64 ok_arr_sl cellsV_agg cellsV_int cellsV_bool cellsV_string cellsV_pointer cellsV_slice cellsV_sl ok_int ok_bool ok_string ok_pointer ok_slice ok_sl toList_arr seg_arr set_arr nth_splice nth_splice0 seg_splice seg_splice0 splice_splice splice_splice0 length_splice_if
attribute [local go_sem ↓] execOp_box
attribute [local go_sem] box_run nth_arr_u8 put_arr_u8 blk_drewN free_drewN put_drewN blk_raw free_raw
/-- The new number of an old symbol. -/
def reN (t : InsS) (N1 : List (List UInt8)) (y : Int) : Int := lookF N1 (t.N.getD y.toNat [])
def chM (t : InsS) (N1 : List (List UInt8)) (x : Nat × Tup) : Change := ⟨false, (x.1 : Int), mT (reN t N1) (arP t.p x.1) x.2⟩
structure CoI (t : InsS) (L : List (Nat × Tup)) (X : Int × List (List UInt8) × List Change) : Prop where
  z : X.1 = 0
  fit : Fits (usedL t 256) X.2.1
  pre : t.p.pool <+: X.2.1
  nms : ∀ x ∈ L, ∀ c, c < arP t.p x.1 → t.N.getD (tg x.2 c).toNat [] ∈ X.2.1
  ch : ∀ N1, X.2.1 <+: N1 → N1.Nodup → X.2.2 = L.map (chM t N1)
theorem used_len {t : InsS} : (usedL t 256).length ≤ 256 := by rw [usedL_len]; exact cntB_le _ _
theorem nmsT_get (N : List (List UInt8)) (x : Tup) {ar c : Nat} (h : c < ar) : (nmsT N x ar).getD c [] = N.getD (tg x c).toNat [] := by
  rw [List.getD_eq_getElem?_getD, nmsT_at N x h]; rfl
theorem colS_C {t : InsS} (h : InG t) {q : Nat} (hq : q < t.p.preds.length) {x : Tup} (hx : x ∈ rowsAt t.R q) {L : List (Nat × Tup)} {X : Int × List (List UInt8) × List Change} (hC : CoI t L X) : CoI t (L ++ [(q, x)]) (colS t X (q, x)) := by
  have htd := usd_rd h q x hx
  have hl : (nmsT t.N x (arP t.p q)).length = arP t.p q := nmsT_len _ _ _
  have hsub : ∀ y ∈ nmsT t.N x (arP t.p q), y ∈ usedL t 256 := fun y hy => by
    unfold nmsT at hy
    obtain ⟨c, hc, rfl⟩ := List.mem_map.1 hy
    have hu := (htd.1 c (List.mem_range.1 hc)).u h
    exact usedL_mem t hu.1 256 hu.2.2
  obtain ⟨g1, g2, g3, g4⟩ := nmS_fits used_len hC.fit hsub (arP t.p q) (by rw [hl]; exact Nat.le_refl _)
  unfold colS
  rw [if_neg (fun e => e hC.z)]
  dsimp only
  rw [if_neg (fun e => e g1)]
  refine ⟨rfl, g2, hC.pre.trans g3, fun y hy c hc => ?_, fun N1 hp hn => ?_⟩
  · rcases List.mem_append.1 hy with h1 | h1
    · exact g3.subset (hC.nms y h1 c hc)
    · rw [List.mem_singleton.1 h1] at hc ⊢
      have h2 := (g4 c hc).1
      rw [nmsT_get _ _ hc] at h2
      exact h2
  · rw [List.map_append, hC.ch N1 (g3.trans hp) hn]
    have e : mkT (nmV X.2.1 (nmsT t.N x (arP t.p q))) (arP t.p q) = mT (reN t N1) (arP t.p q) x := by
      refine tg_ext fun c hc => ?_
      rw [tg_mkT _ _ _ hc, tg_mT _ _ _ hc]
      by_cases e : c < arP t.p q
      · rw [if_pos e, if_pos e, (g4 c e).2]
        have h2 := (g4 c e).1
        rw [nmsT_get _ _ e] at h2 ⊢
        exact (look_pre hp hn h2).symm
      · rw [if_neg e, if_neg e]
        exact (htd.2 c (by omega) hc).symm
    rw [e]; rfl
theorem colL_C {t : InsS} (h : InG t) {q : Nat} (hq : q < t.p.preds.length) : ∀ (l : List Tup) (L : List (Nat × Tup)) (X : Int × List (List UInt8) × List Change), (∀ x ∈ l, x ∈ rowsAt t.R q) → CoI t L X → CoI t (L ++ l.map (fun x => (q, x))) (colL t q l X)
  | [], L, X, _, hC => by rw [List.map_nil, List.append_nil]; exact hC
  | x :: l, L, X, hl, hC => by
    have h1 := colL_C h hq l _ _ (fun y hy => hl y (List.mem_cons_of_mem _ hy)) (colS_C h hq (hl x List.mem_cons_self) hC)
    rw [List.append_assoc] at h1
    exact h1
/-- The base facts. -/
def prs (t : InsS) : Nat → List (Nat × Tup)
  | 0 => []
  | q + 1 => prs t q ++ if (pI t.p q).base then (rowsAt t.R q).map (fun x => (q, x)) else []
theorem colQ_C {t : InsS} (h : InG t) : ∀ q, q ≤ t.p.preds.length → CoI t (prs t q) (colQ t q)
  | 0, _ => by
    refine ⟨rfl, ⟨h.pg.pool.1, fun x hx => ?_⟩, List.prefix_refl _, (fun x hx => by cases hx), fun _ _ _ => rfl⟩
    obtain ⟨i, hi⟩ := List.getElem?_of_mem (show x ∈ t.p.pool from hx)
    have hil := (List.getElem?_eq_some_iff.1 hi).1
    have hu := (usd_pool h (y := (i : Int)) ⟨by omega, by omega⟩).u h
    have e : t.N.getD ((i : Int)).toNat [] = x := by
      obtain ⟨Y, hY⟩ := h.pre
      rw [Int.toNat_natCast, List.getD_eq_getElem?_getD, ← hY, List.getElem?_append_left hil, hi]; rfl
    rw [← e]
    exact usedL_mem t hu.1 256 hu.2.2
  | q + 1, hq => by
    have ih := colQ_C h q (by omega)
    show CoI t (prs t q ++ if (pI t.p q).base then (rowsAt t.R q).map (fun x => (q, x)) else []) (colL t q (if (pI t.p q).base then rowsAt t.R q else []) (colQ t q))
    cases hb : (pI t.p q).base with
    | true => rw [if_pos rfl, if_pos rfl]; exact colL_C h (by omega) _ _ _ (fun x hx => hx) ih
    | false => rw [if_neg (by decide), if_neg (by decide), List.append_nil]; exact ih
theorem prs_mem {t : InsS} {x : Nat × Tup} : ∀ {n : Nat}, x ∈ prs t n ↔ x.1 < n ∧ (pI t.p x.1).base = true ∧ x.2 ∈ rowsAt t.R x.1
  | 0 => ⟨(fun h => by cases h), fun h => by omega⟩
  | n + 1 => by
    unfold prs
    rw [List.mem_append, prs_mem]
    constructor
    · rintro (⟨h1, h2, h3⟩ | h)
      · exact ⟨by omega, h2, h3⟩
      · cases hb : (pI t.p n).base with
        | true =>
          rw [hb, if_pos rfl] at h
          obtain ⟨y, hy, rfl⟩ := List.mem_map.1 h
          exact ⟨by show n < n + 1; omega, hb, hy⟩
        | false => rw [hb, if_neg (by decide)] at h; cases h
    · rintro ⟨h1, h2, h3⟩
      by_cases e : x.1 = n
      · right
        rw [e] at h2 h3
        rw [h2, if_pos rfl]
        exact List.mem_map.2 ⟨x.2, h3, by rw [← e]⟩
      · exact .inl ⟨by omega, h2, h3⟩
theorem prs_nodup {t : InsS} (h : InG t) : ∀ n, (prs t n).Nodup
  | 0 => List.nodup_nil
  | n + 1 => by
    unfold prs
    rw [List.nodup_append]
    refine ⟨prs_nodup h n, ?_, fun a h1 b h2 e => ?_⟩
    · cases hb : (pI t.p n).base with
      | true =>
        rw [if_pos rfl]
        have hnd : (rowsAt t.R n).Nodup := by
          by_cases hl : n < t.R.length
          · have h9 := h.inv.1 (rowsAt t.R n) (by unfold rowsAt; rw [List.getD_eq_getElem?_getD, List.getElem?_eq_getElem hl]; exact List.getElem_mem hl)
            exact h9.1
          · unfold rowsAt; rw [List.getD_eq_getElem?_getD, List.getElem?_eq_none (by omega)]; exact List.nodup_nil
        exact List.pairwise_map.2 (hnd.imp (fun h1 h2 => h1 (Prod.mk.inj h2).2))
      | false => rw [if_neg (by decide)]; exact List.nodup_nil
    · have h3 := (prs_mem.1 h1).1
      cases hb : (pI t.p n).base with
      | true =>
        rw [hb, if_pos rfl] at h2
        obtain ⟨y, -, rfl⟩ := List.mem_map.1 h2
        rw [e] at h3
        exact absurd h3 (by show ¬ n < n; omega)
      | false => rw [hb, if_neg (by decide)] at h2; cases h2
theorem prs_filter {t : InsS} (q : Nat) : ∀ n, (prs t n).filter (fun x => decide (x.1 = q)) = if q < n ∧ (pI t.p q).base = true then (rowsAt t.R q).map (fun x => (q, x)) else []
  | 0 => by rw [if_neg (by omega)]; rfl
  | n + 1 => by
    unfold prs
    rw [List.filter_append, prs_filter q n]
    have key : (if (pI t.p n).base then (rowsAt t.R n).map (fun x => (n, x)) else []).filter (fun x => decide (x.1 = q)) = if n = q ∧ (pI t.p n).base = true then (rowsAt t.R q).map (fun x => (q, x)) else [] := by
      cases hb : (pI t.p n).base with
      | false => rw [if_neg (by decide), if_neg (by simp)]; rfl
      | true =>
        rw [if_pos rfl]
        by_cases e : n = q
        · subst e
          rw [if_pos ⟨rfl, rfl⟩, List.filter_eq_self.2]
          intro x hx
          obtain ⟨y, -, rfl⟩ := List.mem_map.1 hx
          simp
        · rw [if_neg (fun h => e h.1), List.filter_eq_nil_iff.2]
          intro x hx
          obtain ⟨y, -, rfl⟩ := List.mem_map.1 hx
          simp [e]
    rw [key]
    by_cases e : n = q
    · subst e
      rw [if_neg (by omega), List.nil_append]
      by_cases hb : (pI t.p n).base = true
      · rw [if_pos ⟨rfl, hb⟩, if_pos ⟨by omega, hb⟩]
      · rw [if_neg (fun h => hb h.2), if_neg (fun h => hb h.2)]
    · rw [if_neg (show ¬ (n = q ∧ (pI t.p n).base = true) from fun h => e h.1), List.append_nil]
      by_cases h : q < n ∧ (pI t.p q).base = true
      · rw [if_pos h, if_pos ⟨by omega, h.2⟩]
      · rw [if_neg h, if_neg (fun h9 => h ⟨by omega, h9.2⟩)]
theorem chgs_M {t : InsS} {N1 : List (List UInt8)} : ∀ (L : List (Nat × Tup)) (i : Nat) (B : List (List Tup)), (∀ x ∈ L, x.1 < B.length) → L.Nodup → (∀ x ∈ L, (chM t N1 x).t ∉ rowsAt B x.1) → (∀ x ∈ L, ∀ y ∈ L, x.1 = y.1 → (chM t N1 x).t = (chM t N1 y).t → x = y) → (chgs (L.map (chM t N1)) i B).1 = 0 ∧ (chgs (L.map (chM t N1)) i B).2.2.length = B.length ∧ ∀ q, rowsAt (chgs (L.map (chM t N1)) i B).2.2 q = rowsAt B q ++ (L.filter (fun x => decide (x.1 = q))).map (fun x => (chM t N1 x).t)
  | [], i, B, _, _, _, _ => ⟨rfl, rfl, fun q => by show rowsAt B q = rowsAt B q ++ []; rw [List.append_nil]⟩
  | x :: L, i, B, hq, hnd, hnew, hinj => by
    rw [List.nodup_cons] at hnd
    have hxq := hq x List.mem_cons_self
    have hpt : ((x.1 : Int)).toNat = x.1 := Int.toNat_natCast _
    have hch : changeF B (chM t N1 x) = (0, addR B x.1 (chM t N1 x).t) := by
      unfold changeF
      show (if false = true then _ else if (chM t N1 x).t ∈ rowsAt B ((x.1 : Int)).toNat then (14, B) else ((0 : Int), addR B ((x.1 : Int)).toNat (chM t N1 x).t)) = _
      rw [if_neg (by decide), hpt, if_neg (hnew x List.mem_cons_self)]
    have hrows : ∀ q, rowsAt (addR B x.1 (chM t N1 x).t) q = if q = x.1 then rowsAt B x.1 ++ [(chM t N1 x).t] else rowsAt B q := fun q => by
      unfold addR; exact rowsAt_set hxq _ q
    have hlen : (addR B x.1 (chM t N1 x).t).length = B.length := by unfold addR; exact List.length_set ..
    obtain ⟨h1, h2, h3⟩ := chgs_M L (i + 1) (addR B x.1 (chM t N1 x).t) (fun y hy => by rw [hlen]; exact hq y (List.mem_cons_of_mem _ hy)) hnd.2 (fun y hy => by
      rw [hrows]
      have hyn := hnew y (List.mem_cons_of_mem _ hy)
      by_cases e : y.1 = x.1
      · rw [if_pos e]
        intro hm
        rcases List.mem_append.1 hm with h | h
        · rw [e] at hyn; exact hyn h
        · have e2 := hinj y (List.mem_cons_of_mem _ hy) x List.mem_cons_self e (List.mem_singleton.1 h)
          exact hnd.1 (e2 ▸ hy)
      · rw [if_neg e]; exact hyn) (fun a ha b hb => hinj a (List.mem_cons_of_mem _ ha) b (List.mem_cons_of_mem _ hb))
    rw [List.map_cons]
    unfold chgs
    rw [hch]
    dsimp only
    rw [if_neg (fun h => h rfl)]
    refine ⟨h1, h2.trans hlen, fun q => ?_⟩
    rw [h3 q, hrows q]
    by_cases e : x.1 = q
    · rw [if_pos e.symm, List.filter_cons_of_pos (by simpa using e), List.map_cons, List.append_assoc, e]; rfl
    · rw [if_neg (fun h => e h.symm), List.filter_cons_of_neg (by simpa using e)]
/-- The policy fits even with no facts. -/
def FstO (p : PP) : Prop := ∃ P, Fst p P ∧ overB P = false
theorem lookF_in {N : List (List UInt8)} {nm : List UInt8} (h : nm ∈ N) : lookF N nm ≠ -1 := fun e => lookF_mem e h
theorem col_all {t : InsS} (h : InG t) (hF : FstO t.p) {cc : Int} {s1 : InsS} (hc : ColR t cc s1) : cc = 0 ∧ s1.N = (colF t).2.1 ∧ (s1.N.length : Int) ≤ t.live ∧ s1.N.Nodup ∧ (∀ y, UsD t y → t.N.getD y.toNat [] ∈ s1.N) ∧ s1.p = t.p ∧ ∀ q, rowsAt (basR t.p s1.R) q = (rowsAt (basR t.p t.R) q).map (mT (reN t s1.N) (arP t.p q)) := by
  have hC := colQ_C h t.p.preds.length (Nat.le_refl _)
  obtain ⟨N1, hN1⟩ : ∃ N1, N1 = (colF t).2.1 := ⟨_, rfl⟩
  have hfit : Fits (usedL t 256) N1 := by rw [hN1]; exact hC.fit
  have hpre : t.p.pool <+: N1 := by rw [hN1]; exact hC.pre
  have hnms : ∀ x ∈ prs t t.p.preds.length, ∀ c, c < arP t.p x.1 → t.N.getD (tg x.2 c).toNat [] ∈ N1 := by rw [hN1]; exact hC.nms
  have hcs : (colF t).2.2 = (prs t t.p.preds.length).map (chM t N1) := hC.ch N1 (by rw [hN1]; exact List.prefix_refl _) hfit.nn
  have hused : ∀ y, UsD t y → t.N.getD y.toNat [] ∈ N1 := fun y hy => by
    have h1 := hy.2.1
    unfold useN at h1
    by_cases e : y.toNat < t.p.pool.length
    · have e2 : t.N.getD y.toNat [] ∈ t.p.pool := by
        obtain ⟨Y, hY⟩ := h.pre
        rw [List.getD_eq_getElem?_getD, ← hY, List.getElem?_append_left e, List.getElem?_eq_getElem e]; exact List.getElem_mem e
      exact hpre.subset e2
    · rw [if_neg e, Nat.zero_add] at h1
      obtain ⟨q, hq, hb, x, hx, c, hcc, e2⟩ := occ_pos.1 h1
      have := hnms (q, x) (prs_mem.2 ⟨hq, hb, (bas_mem hx).1⟩) c hcc
      rw [← e2]; exact this
  have hren : Ren (UsD t) (reN t N1) := fun x y hx hy e => by
    have hx1 := hused x hx
    have hy1 := hused y hy
    obtain ⟨i, e1, e2⟩ := lookF_get (lookF_in hx1)
    obtain ⟨j, e3, e4⟩ := lookF_get (lookF_in hy1)
    have e5 : lookF N1 (t.N.getD x.toNat []) = lookF N1 (t.N.getD y.toNat []) := e
    have e6 : i = j := by omega
    rw [e6] at e2
    have e7 : t.N.getD x.toNat [] = t.N.getD y.toNat [] := Option.some.inj (e2.symm.trans e4)
    have hxg := (hx.u h).2.1
    have hyg := (hy.u h).2.1
    rw [e7] at hxg
    have k1 := look_nodup h.nn.1 hxg
    have k2 := look_nodup h.nn.1 hyg
    have := hx.1
    have := hy.1
    omega
  obtain ⟨P0, hF0, ho0⟩ := hF
  obtain ⟨P, hFP, hc⟩ := hc
  have eP : P = P0 := hFP.1.det hF0.1
  subst eP
  rcases hc with ⟨h1, -⟩ | ⟨-, hc⟩
  · rw [ho0] at h1; cases h1
  rcases hc with ⟨h1, h2⟩ | ⟨-, ix, R', hB, hs⟩
  · exact absurd (h1.trans hC.z) h2
  have hb0 : basR t.p P = basR t.p (List.replicate t.p.preds.length []) := hFP.1.basR h.pg.nob basR_ok
  have hb0r : ∀ q, rowsAt (basR t.p P) q = [] := fun q => by
    rw [hb0]
    cases hx : rowsAt (basR t.p (List.replicate t.p.preds.length [])) q with
    | nil => rfl
    | cons x l =>
      have h1 := (bas_mem (p := t.p) (R := List.replicate t.p.preds.length []) (q := q) (x := x) (by rw [hx]; exact List.mem_cons_self)).1
      unfold rowsAt at h1
      rw [List.getD_eq_getElem?_getD, List.getElem?_replicate] at h1
      split at h1 <;> cases h1
  have hcf : ∀ r ∈ t.p.rules, CFix (reN t N1) r.head ∧ ∀ l ∈ r.body, CFix (reN t N1) l.atom := by
    have hfix : ∀ y, InT t.p.pool.length y → reN t N1 y = y := fun y hy => by
      obtain ⟨Y, hY⟩ := h.pre
      have e1 : t.p.pool[y.toNat]? = some (t.N.getD y.toNat []) := by
        rw [List.getD_eq_getElem?_getD, ← hY, List.getElem?_append_left hy.2, List.getElem?_eq_getElem hy.2]; rfl
      obtain ⟨Z, hZ⟩ := hpre
      have e2 : N1[y.toNat]? = some (t.N.getD y.toNat []) := by rw [← hZ, List.getElem?_append_left hy.2]; exact e1
      unfold reN
      rw [look_nodup hfit.nn e2]
      have := hy.1
      omega
    exact fun r hr => ⟨fun c hcc hv => hfix _ (((h.pg.rul r hr).1.2.2 c hcc).2 hv), fun l hl c hcc hv => hfix _ ((((h.pg.rul r hr).2.1 l hl).2.2 c hcc).2 hv)⟩
  obtain ⟨g1, g2, g3⟩ := chgs_M (t := t) (N1 := N1) (prs t t.p.preds.length) 0 (basR t.p P) (fun x hx => by rw [basR_len]; exact (prs_mem.1 hx).1) (prs_nodup h _) (fun x _ => by rw [hb0r]; exact fun hm => by cases hm) (fun x hx y hy e1 e2 => by
    obtain ⟨x1, x2⟩ := x
    obtain ⟨y1, y2⟩ := y
    have e1' : x1 = y1 := e1
    subst e1'
    have e3 : x2 = y2 := mT_inj hren (usd_rd h x1 x2 (prs_mem.1 hx).2.2) (usd_rd h x1 y2 (prs_mem.1 hy).2.2) e2
    rw [e3])
  rw [← hcs] at g1 g2 g3
  have hMR : MR (reN t N1) t.p (basR t.p t.R) (chgs (colF t).2.2 0 (basR t.p P)).2.2 := by
    refine ⟨by rw [g2, basR_len, basR_len], fun q => ?_⟩
    rw [g3 q, hb0r q, List.nil_append, prs_filter]
    by_cases hq : q < t.p.preds.length ∧ (pI t.p q).base = true
    · rw [if_pos hq, rowsAt_some (basR_at t.p t.R hq.1), if_pos hq.2, List.map_map]; rfl
    · rw [if_neg hq]
      cases hx : rowsAt (basR t.p t.R) q with
      | nil => rfl
      | cons x l =>
        have h1 := bas_mem (p := t.p) (R := t.R) (q := q) (x := x) (by rw [hx]; exact List.mem_cons_self)
        exact absurd h1.2 hq
  obtain ⟨R1, hP1, hM1⟩ := h.der.ren hren (fun r hr => (h.pg.rul r hr).mono (fun y hy => usd_pool h hy)) hcf (fun q x hx => usd_rd h q x (bas_mem hx).1) hMR
  have hcode : cc = 0 := by
    rcases hB with ⟨b1, -⟩ | ⟨-, P2, b2, -, b4, -, -⟩
    · exact absurd g1 b1
    · have e := b2.det hP1
      rw [b4, e, hM1.over, h.cap]; rfl
  have hs' := hs hcode
  have hsN : s1.N = N1 := by rw [hs', (setsS_p (colF t).2.2 _).2.1, hN1]
  have hsR : s1.R = R' := by rw [hs', (setsS_p (colF t).2.2 _).2.2]
  have hsP : s1.p = t.p := by rw [hs', (setsS_p (colF t).2.2 _).1]
  have hbas : basR t.p R' = (chgs (colF t).2.2 0 (basR t.p P)).2.2 := by
    rcases hB with ⟨b1, -⟩ | ⟨-, P2, b2, -, b4, -, b6⟩
    · exact absurd g1 b1
    · have ho2 : overB P2 = false := by rw [b2.det hP1, hM1.over]; exact h.cap
      rw [ho2, if_neg (by decide)] at b6
      rw [b6]
      refine b2.basR h.pg.nob ⟨by rw [g2, basR_len], fun q hq => ?_⟩
      rw [hMR.row q]
      have e : rowsAt (basR t.p t.R) q = [] := basR_ok.2 q hq
      rw [e]; rfl
  refine ⟨hcode, by rw [hsN, hN1], ?_, by rw [hsN]; exact hfit.nn, by rw [hsN]; exact hused, hsP, fun q => by rw [hsR, hbas, hsN]; exact hMR.row q⟩
  rw [hsN, h.cnt.lv]
  have h9 := nodup_sub N1 (usedL t 256) hfit.nn hfit.sub
  rw [usedL_len] at h9
  unfold livN
  omega
theorem mr_room {t t1 : InsS} (h : InG t) (hF : FstO t.p) {L : List It} {code co : Int} (hm : MrR t L code t1 co) : (code = 0 ∨ code = 16) ∧ (code = 0 → ∃ G : List (List UInt8), G.length ≤ 256 ∧ Fits G t1.N ∧ ∀ it ∈ L, it.1 = false → ∀ nm ∈ it.2.2, nm ∈ G) := by
  have hd := demF_in (N := t.N) (U := t.U) L ([], 0)
  have hd2 := hd.2.2 rfl
  rcases hm with ⟨-, rfl, -, -⟩ | ⟨-, h1, rfl, rfl, -⟩ | ⟨h1, -, cc, s1, hc, h2⟩
  · exact ⟨.inr rfl, fun e => by cases e⟩
  · refine ⟨.inl rfl, fun _ => ⟨t1.N ++ ((demF t1.N t1.U L).1.filter fun x => decide (lookF t1.N x = -1)), ?_, ⟨h.nn.1, fun x hx => List.mem_append_left _ hx⟩, fun it hi hdl nm hnm => ?_⟩⟩
    · rw [List.length_append]
      have e : ((demF t1.N t1.U L).1.filter fun x => decide (lookF t1.N x = -1)).length = (demF t1.N t1.U L).2 := hd2
      rw [e]; exact h1
    · by_cases e : lookF t1.N nm = -1
      · rcases hd.2.1 it hi hdl nm hnm with h3 | h3
        · exact absurd e h3.1
        · exact List.mem_append_right _ (List.mem_filter.2 ⟨h3, by simpa using e⟩)
      · obtain ⟨i, -, hi2⟩ := lookF_get e
        exact List.mem_append_left _ (List.mem_of_getElem? hi2)
  · obtain ⟨c0, c1, c2, c3, c4, -, -⟩ := col_all h hF hc
    rcases h2 with ⟨h2, -⟩ | ⟨-, rfl, rfl, -⟩
    · exact absurd c0 h2
    · refine ⟨.inl rfl, fun _ => ⟨t1.N ++ (demF t.N t.U L).1, ?_, ⟨c3, fun x hx => List.mem_append_left _ hx⟩, fun it hi hdl nm hnm => ?_⟩⟩
      · rw [List.length_append]; omega
      · rcases hd.2.1 it hi hdl nm hnm with ⟨h3, h4⟩ | h3
        · obtain ⟨i, e1, e2⟩ := lookF_get h3
          have hil := (List.getElem?_eq_some_iff.1 e2).1
          rw [e1, Int.toNat_natCast] at h4
          have hu : UsD t (i : Int) := ⟨by omega, by
            rw [h.cnt.us i (by have := h.nl; omega)] at h4
            rw [Int.toNat_natCast]; omega, by rw [Int.toNat_natCast]; exact hil⟩
          have h5 := c4 _ hu
          rw [Int.toNat_natCast, List.getD_eq_getElem?_getD, e2] at h5
          exact List.mem_append_left _ h5
        · exact List.mem_append_right _ h3
end Go.Proofs.Qxb6500787aGreat
