import Derived.Test.Qxb6500787aGreatEa

import Derived.StillTailTactics
import Derived.Deep.QuietTactic
import Derived.BigQuiet
import Derived.Deep.RegionHeld
import Derived.Deep.CutRange
import Derived.Laws.ResultCell
import Derived.Laws.Rows
import Derived.DeepKeys
import Derived.DataBytes
import Derived.Laws.StructEq
import Derived.Laws.AppendOwn
import Derived.Laws.MakeOwn
import Derived.Lib.AppendStr
set_option linter.unusedSimpArgs false
set_option linter.unusedVariables false
namespace Go.Proofs.Qxb6500787aGreat
open Go.RowKit Go.Blk
attribute [local go_sem ↓] execOp_load execOp_store execOp_alloc
attribute [local go_sem] Tryz.ld26 Tryz.st26 Tryz.ld27 Tryz.st27 Tryz.ld28 Tryz.st28 Tryz.ld3 Tryz.st3 Tryz.ld29 Tryz.st29 Tryz.ld44 Tryz.st44 Tryz.ld4 Tryz.st4 Tryz.ld50 Tryz.st50 Tryz.ld32 Tryz.st32 Tryz.ld49 Tryz.st49 Tryz.ld68 Tryz.st68 Tryz.ld9 Tryz.st9 Tryz.ld40 Tryz.st40 Tryz.ld138 Tryz.st138 Tryz.ld139 Tryz.st139 Tryz.ld146 Tryz.st146 Tryz.ld183 Tryz.st183 Tryz.ld184 Tryz.st184 Tryz.ld192 Tryz.st192 Tryz.ld195 Tryz.st195 Tryz.ld217 Tryz.st217 Tryz.ld159 Tryz.st159 Tryz.ld142 Tryz.st142 Tryz.ld2 Tryz.st2 Tryz.ld5 Tryz.st5 Tryz.ld12 Tryz.st12 Tryz.ld21 Tryz.st21 Tryz.ld22 Tryz.st22 Tryz.ld24 Tryz.st24 Tryz.ld58 Tryz.st58 Tryz.ld97 Tryz.st97 Tryz.ld101 Tryz.st101 Tryz.ld116 Tryz.st116 Tryz.ld121 Tryz.st121 Tryz.ld135 Tryz.st135 Tryz.ld136 Tryz.st136 Tryz.ld143 Tryz.st143 Tryz.ld148 Tryz.st148 Tryz.ld154 Tryz.st154 Tryz.ld173 Tryz.st173 Tryz.ld187 Tryz.st187 Tryz.ld222 Tryz.st222 Tryz.ld241 Tryz.st241 Tryz.ld248 Tryz.st248 Tryz.ld268 Tryz.st268 Tryz.ld272 Tryz.st272 Tryz.ld153 Tryz.st153 Tryz.ld255 Tryz.st255 Tryz.ld256 Tryz.st256 Tryz.ld129 Tryz.st129 Tryz.ld152 Tryz.st152 Tryz.ld31 Tryz.st31 Tryz.ld46 Tryz.st46 Tryz.ld52 Tryz.st52 Tryz.ld54 Tryz.st54 Tryz.ld60 Tryz.st60 Tryz.ld70 Tryz.st70 Tryz.ld74 Tryz.st74 Tryz.ld93 Tryz.st93 Tryz.ld141 Tryz.st141 Tryz.ld151 Tryz.st151 Tryz.ld170 Tryz.st170 Tryz.ld186 Tryz.st186 Tryz.ld189 Tryz.st189 Tryz.ld194 Tryz.st194 Tryz.ld197 Tryz.st197 Tryz.ld219 Tryz.st219 Tryz.ld224 Tryz.st224 Tryz.ld230 Tryz.st230 Tryz.ld235 Tryz.st235 Tryz.ld243 Tryz.st243 Tryz.ld247 Tryz.st247 Tryz.ld252 Tryz.st252 Tryz.ld258 Tryz.st258 Tryz.al153 Tryz.al255 Tryz.al256 Tryz.al129 Tryz.al152 Tryz.al31 Tryz.al46 Tryz.al52 Tryz.al54 Tryz.al60 Tryz.al70 Tryz.al74 Tryz.al93 Tryz.al141 Tryz.al151 Tryz.al170 Tryz.al186 Tryz.al189 Tryz.al194 Tryz.al197 Tryz.al219 Tryz.al224 Tryz.al230 Tryz.al235 Tryz.al243 Tryz.al247 Tryz.al252 Tryz.al258
attribute [local go_sem] Request.length_enc Request.ok_enc Request.all_get Request.all_set Request.kind_get Request.kind_set Request.blob_get Request.blob_set Request.items_get Request.items_set Request.pred_get Request.pred_set Request.slots_get Request.slots_set Trace.length_enc Trace.ok_enc Trace.all_get Trace.all_set Trace.op_get Trace.op_set Trace.calls_get Trace.calls_set Item.length_enc Item.ok_enc Item.all_get Item.all_set Item.del_get Item.del_set Item.pred_get Item.pred_set Item.args_get Item.args_set Reply.length_enc Reply.ok_enc Reply.all_get Reply.all_set Reply.code_get Reply.code_set Reply.kind_get Reply.kind_set Reply.index_get Reply.index_set Reply.yes_get Reply.yes_set Reply.preds_get Reply.preds_set Reply.rules_get Reply.rules_set Reply.arity_get Reply.arity_set Reply.rows_get Reply.rows_set Reply.fact_get Reply.fact_set Reply.fact_del_get Reply.fact_del_set Reply.fact_pred_get Reply.fact_pred_set Reply.fact_args_get Reply.fact_args_set GEntry.length_enc GEntry.ok_enc GEntry.all_get GEntry.all_set GEntry.seq_get GEntry.seq_set GEntry.kind_get GEntry.kind_set GEntry.code_get GEntry.code_set GOp.length_enc GOp.ok_enc GOp.all_get GOp.all_set GOp.kind_get GOp.kind_set GOp.raw_get GOp.raw_set Reader.length_enc Reader.ok_enc Reader.all_get Reader.all_set Reader.buf_get Reader.buf_set Reader.at__get Reader.at__set Slot.length_enc Slot.ok_enc Slot.all_get Slot.all_set Slot.bound_get Slot.bound_set Slot.name_get Slot.name_set Session.length_enc Session.ok_enc Session.all_get Session.all_set Session.svc_get Session.svc_set Session.buf_get Session.buf_set Session.closed_get Session.closed_set GProgram.length_enc GProgram.ok_enc GProgram.all_get GProgram.all_set GProgram.pool_get GProgram.pool_set GProgram.preds_get GProgram.preds_set GProgram.rules_get GProgram.rules_set GProgram.strata_get GProgram.strata_set PredInfo.length_enc PredInfo.ok_enc PredInfo.all_get PredInfo.all_set PredInfo.arity_get PredInfo.arity_set PredInfo.base_get PredInfo.base_set PredInfo.stratum_get PredInfo.stratum_set Change.length_enc Change.ok_enc Change.all_get Change.all_set Change.del_get Change.del_set Change.pred_get Change.pred_set Change.t_get Change.t_set Store.length_enc Store.ok_enc Store.all_get Store.all_set Store.names_get Store.names_set Store.arity_get Store.arity_set Store.rows_get Store.rows_set Src.length_enc Src.ok_enc Src.all_get Src.all_set Src.b_get Src.b_set Src.at__get Src.at__set Atom.length_enc Atom.ok_enc Atom.all_get Atom.all_set Atom.pred_get Atom.pred_set Atom.args_get Atom.args_set GRule.length_enc GRule.ok_enc GRule.all_get GRule.all_set GRule.head_get GRule.head_set GRule.body_get GRule.body_set GRule.head_pred_get GRule.head_pred_set GRule.head_args_get GRule.head_args_set Cert.length_enc Cert.ok_enc Cert.all_get Cert.all_set Cert.names_get Cert.names_set Cert.nodes_get Cert.nodes_set Fact.length_enc Fact.ok_enc Fact.all_get Fact.all_set Fact.pred_get Fact.pred_set Fact.t_get Fact.t_set Literal.length_enc Literal.ok_enc Literal.all_get Literal.all_set Literal.neg_get Literal.neg_set Literal.atom_get Literal.atom_set Literal.atom_pred_get Literal.atom_pred_set Literal.atom_args_get Literal.atom_args_set Engine.length_enc Engine.ok_enc Engine.all_get Engine.all_set Engine.prog_get Engine.prog_set Engine.st_get Engine.st_set SrcCertm.length_enc SrcCertm.ok_enc SrcCertm.all_get SrcCertm.all_set SrcCertm.b_get SrcCertm.b_set SrcCertm.at__get SrcCertm.at__set GNode.length_enc GNode.ok_enc GNode.all_get GNode.all_set GNode.rule_get GNode.rule_set GNode.pred_get GNode.pred_set GNode.vals_get GNode.vals_set GNode.refs_get GNode.refs_set Term.length_enc Term.ok_enc Term.all_get Term.all_set Term.var_get Term.var_set Term.n_get Term.n_set Env.length_enc Env.ok_enc Env.all_get Env.all_set Env.val_get Env.val_set Env.set_get Env.set_set
attribute [local go_sem] size_put size_ext blk_put free_put blk_alloc free_alloc blk_drew free_drew blk_ext free_ext lookOr_some putOr_some segAt_some cellAt_some storeIn_some put_put put_alloc_new length_arr ok_arr_u8 ok_arr_u32 ok_arr_u64 ok_arr_i64 ok_arr_sl cellsV_agg cellsV_int cellsV_bool cellsV_string cellsV_pointer cellsV_slice cellsV_sl ok_int ok_bool ok_string ok_pointer ok_slice ok_sl toList_arr seg_arr set_arr nth_splice nth_splice0 seg_splice seg_splice0 splice_splice splice_splice0 length_splice_if
attribute [local go_sem ↓] execOp_box
attribute [local go_sem] box_run nth_arr_u8 put_arr_u8 blk_drewN free_drewN put_drewN blk_raw free_raw

theorem Agm.tells {p : PP} {N : List (List UInt8)} {B : List (List Tup)} {F : List (List NRow)} (h : Agm p N B F) : Tells p N B F := fun q x => by
  unfold memN memI
  rw [h.nm q]
  unfold nmB
  rw [List.mem_map]
  constructor
  · rintro ⟨t, h1, h2⟩; exact ⟨t, h1, h2.symm⟩
  · rintro ⟨t, h1, h2⟩; exact ⟨t, h1, h2.symm⟩
theorem Agm.nd {p : PP} {N : List (List UInt8)} {B : List (List Tup)} {F : List (List NRow)} (h : Agm p N B F) (hB : ∀ q, (rowsAt B q).Nodup) (q : Nat) : (F.getD q []).Nodup := by
  rw [h.nm q]
  exact map_nd (fun x hx y hy e => nm_inj h.nb (h.ar q) (h.nb.td q x hx) (h.nb.td q y hy) e) (hB q)
theorem rinv_nd {p : PP} {B : List (List Tup)} (h : RInv p B) (q : Nat) : (rowsAt B q).Nodup := by
  unfold rowsAt
  rw [List.getD_eq_getElem?_getD]
  cases hq : B[q]? with
  | none => exact List.nodup_nil
  | some L => exact (h.1 L (List.mem_of_getElem? hq)).1
theorem nd_of_map {α β : Type} {f : α → β} : ∀ {l : List α}, (l.map f).Nodup → l.Nodup
  | [], _ => List.nodup_nil
  | x :: l, h => by
    rw [List.map_cons, List.nodup_cons] at h
    exact List.nodup_cons.2 ⟨fun hx => h.1 (List.mem_map.2 ⟨x, hx, rfl⟩), nd_of_map h.2⟩
theorem Agm.rinv {p : PP} {N : List (List UInt8)} {B : List (List Tup)} {F : List (List NRow)} (h : Agm p N B F) (hN : N.length ≤ 256) (hF : ∀ q, (F.getD q []).Nodup) (hl : B.length = p.preds.length) : RInv p B := by
  refine ⟨fun L hL => ?_, hl⟩
  obtain ⟨q, hq⟩ := List.mem_iff_getElem?.1 hL
  have e : rowsAt B q = L := by unfold rowsAt; rw [List.getD_eq_getElem?_getD, hq]; rfl
  refine ⟨?_, fun t ht c hc => ?_⟩
  · have h1 := hF q
    rw [h.nm q] at h1
    unfold nmB at h1
    rw [e] at h1
    exact nd_of_map h1
  · rw [← e] at ht
    obtain ⟨h1, h2⟩ := h.nb.td q t ht
    by_cases hq' : c < arP p q
    · have := h1 c hq'
      exact ⟨this.1, by have := this.2; omega⟩
    · rw [h2 c (by omega) hc]; exact ⟨by omega, by omega⟩
theorem memN_set {F : List (List NRow)} {q z : Nat} {L : List NRow} {x : NRow} (h : memN (F.set q L) z x) : (z = q ∧ x ∈ L) ∨ memN F z x := by
  unfold memN at h ⊢
  by_cases hq : q < F.length
  · rw [getD_set hq] at h
    by_cases e : z = q
    · rw [if_pos e] at h; exact .inl ⟨e, h⟩
    · rw [if_neg e] at h; exact .inr h
  · rw [List.set_eq_of_length_le (by omega)] at h
    exact .inr h
theorem aftF_pr {P : Nat → NRow → Prop} : ∀ (L : List It) (F : List (List NRow)) (i : Nat), (∀ q r, memN F q r → P q r) → (∀ it ∈ L, it.1 = false → P it.2.1.toNat it.2.2) → (aftF F i L).1 = 0 → ∀ q r, memN (aftF F i L).2.2 q r → P q r
  | [], F, i, hF, _, _ => hF
  | it :: L, F, i, hF, hL, h => by
    have hL' : ∀ y ∈ L, y.1 = false → P y.2.1.toNat y.2.2 := fun y hy => hL y (List.mem_cons_of_mem _ hy)
    rw [aftF] at h ⊢
    cases hd : it.1 with
    | false =>
      rw [hd, if_pos rfl] at h
      rw [if_pos rfl]
      by_cases e : it.2.2 ∈ F.getD it.2.1.toNat []
      · rw [if_pos e] at h; cases h
      · rw [if_neg e] at h ⊢
        refine aftF_pr L _ _ (fun q r hr => ?_) hL' h
        rcases memN_set hr with ⟨e1, e2⟩ | e1
        · rw [e1]
          rcases List.mem_append.1 e2 with e3 | e3
          · exact hF _ _ e3
          · rw [List.mem_singleton.1 e3]; exact hL it List.mem_cons_self hd
        · exact hF _ _ e1
    | true =>
      rw [hd, if_neg (by decide)] at h
      rw [if_neg (by decide)]
      by_cases e : it.2.2 ∈ F.getD it.2.1.toNat []
      · rw [if_pos e] at h ⊢
        refine aftF_pr L _ _ (fun q r hr => ?_) hL' h
        rcases memN_set hr with ⟨e1, e2⟩ | e1
        · rw [e1]; exact hF _ _ (List.mem_filter.1 e2).1
        · exact hF _ _ e1
      · rw [if_neg e] at h; cases h
theorem nd_set {F : List (List NRow)} (hF : ∀ q, (F.getD q []).Nodup) {q : Nat} {L : List NRow} (hL : L.Nodup) : ∀ z, ((F.set q L).getD z []).Nodup := fun z => by
  by_cases hq : q < F.length
  · rw [getD_set hq]
    by_cases e : z = q
    · rw [if_pos e]; exact hL
    · rw [if_neg e]; exact hF z
  · rw [List.set_eq_of_length_le (by omega)]; exact hF z
theorem aftF_nd : ∀ (L : List It) (F : List (List NRow)) (i : Nat), (∀ q, (F.getD q []).Nodup) → (aftF F i L).1 = 0 → (∀ q, ((aftF F i L).2.2.getD q []).Nodup) ∧ (aftF F i L).2.2.length = F.length
  | [], F, i, hF, _ => ⟨hF, rfl⟩
  | it :: L, F, i, hF, h => by
    rw [aftF] at h ⊢
    cases hd : it.1 with
    | false =>
      rw [hd, if_pos rfl] at h
      rw [if_pos rfl]
      by_cases e : it.2.2 ∈ F.getD it.2.1.toNat []
      · rw [if_pos e] at h; cases h
      · rw [if_neg e] at h ⊢
        have h9 := aftF_nd L _ _ (nd_set hF (q := it.2.1.toNat) (L := F.getD it.2.1.toNat [] ++ [it.2.2]) (List.nodup_append.2 ⟨hF _, List.nodup_cons.2 ⟨by simp, List.nodup_nil⟩, fun a ha b hb e9 => by rw [List.mem_singleton.1 hb] at e9; rw [e9] at ha; exact e ha⟩)) h
        exact ⟨h9.1, h9.2.trans (List.length_set ..)⟩
    | true =>
      rw [hd, if_neg (by decide)] at h
      rw [if_neg (by decide)]
      by_cases e : it.2.2 ∈ F.getD it.2.1.toNat []
      · rw [if_pos e] at h ⊢
        have h9 := aftF_nd L _ _ (nd_set hF (q := it.2.1.toNat) (L := (F.getD it.2.1.toNat []).filter fun x => decide (x ≠ it.2.2)) ((hF _).filter _)) h
        exact ⟨h9.1, h9.2.trans (List.length_set ..)⟩
      · rw [if_neg e] at h; cases h
/-- The model's state as the service's instance tells it. -/
theorem msi_of {t : InsS} (ht : InG t) (hv : PgV t.p) {F : List (List NRow)} (hA : Agm t.p t.N (basR t.p t.R) F) : MsI ⟨true, t.p, F⟩ where
  pg := hv
  len := by show F.length = _; rw [hA.len, basR_len]
  nd := hA.nd (rinv_nd (basR_inv ht.inv))
  cap := fun L hL => by
    have hL' : L ∈ F := hL
    obtain ⟨q, hq⟩ := List.mem_iff_getElem?.1 hL'
    have e : F.getD q [] = L := by rw [List.getD_eq_getElem?_getD, hq]; rfl
    rw [← e, hA.nm q]
    unfold nmB
    rw [List.length_map]
    have h1 : ∀ x ∈ rowsAt (basR t.p t.R) q, x ∈ rowsAt t.R q := fun x hx => (bas_mem hx).1
    exact Nat.le_trans (nodup_subG _ _ (rinv_nd (basR_inv ht.inv) q) h1) (overB_not.1 ht.cap q)
  row := fun q r hr => by
    have hr' : r ∈ F.getD q [] := hr
    rw [hA.nm q] at hr'
    obtain ⟨x, hx, e⟩ := List.mem_map.1 hr'
    refine ⟨by rw [← e, nmsT_len], (bas_mem hx).2.2, fun y hy => ?_⟩
    rw [← e] at hy
    obtain ⟨c, hc⟩ := List.getElem?_of_mem hy
    have hcl : c < arP t.p q := by have := (List.getElem?_eq_some_iff.1 hc).1; rwa [nmsT_len] at this
    rw [nmsT_at _ _ hcl] at hc
    rw [← Option.some.inj hc]
    exact ht.nn.2 _ (List.mem_of_getElem? (getD_at ((ht.dom q x hx).1 c hcl).2))
  con := by
    have h1 := live_const ht hA
    have h2 := ht.cnt.lv
    unfold livN at h2
    have h3 := cntB_le (fun y => decide (0 < t.U y)) 256
    show (constF t.p.pool F).length ≤ 256
    omega
  nov := fun F1 T1 hQ => by
    have h1 := perf_same hv ht.nn.1 ht.pre ht.der (basR_inv ht.inv) ht.dom hQ (by show F.length = _; rw [hA.len, basR_len]) (hA.nd (rinv_nd (basR_inv ht.inv))) hA.tells
    rw [← h1.1]; exact ht.cap
/-- A batch by numbers and by names. -/
theorem bat_mod {t : InsS} (ht : InG t) (hv : PgV t.p) {F : List (List NRow)} (hA : Agm t.p t.N (basR t.p t.R) F) {G : List (List UInt8)} (hG : G.length ≤ 256) (hF : Fits G t.N) {L : List It} (hL : ∀ it ∈ L, ItF t.p t.p.preds.length it ∧ (pI t.p it.2.1.toNat).base = true ∧ (it.1 = false → ∀ x ∈ it.2.2, x ∈ G)) {code ix : Int} {R' : List (List Tup)} (hB : BatR t.p t.R (btG t.N L) code ix R') : ((aftF F 0 L).1 ≠ 0 → code = (aftF F 0 L).1 ∧ ix = (aftF F 0 L).2.1) ∧ ((aftF F 0 L).1 = 0 → ∀ F1 T1, PfTo t.p (constF t.p.pool (aftF F 0 L).2.2) 0 (aftF F 0 L).2.2 [] F1 T1 → (overN F1 = true → code = 16 ∧ ix = -1) ∧ (overN F1 = false → code = 0 ∧ Agm t.p (btN t.N L) (basR t.p R') (aftF F 0 L).2.2)) := by
  obtain ⟨b1, b2, b3⟩ := bt_mod hG L t.N (basR t.p t.R) F 0 hA hF ht.nn (fun it hit => by
    have := hL it hit
    rw [basR_len]
    exact ⟨this.1, this.2.2⟩)
  rcases hB with ⟨h1, rfl, rfl, -⟩ | ⟨h1, P, hP, hI, rfl, rfl, rfl⟩
  · exact ⟨fun _ => ⟨b1, b2 h1⟩, fun e => absurd (b1.trans e) h1⟩
  refine ⟨fun e => absurd (b1.symm.trans h1) e, fun e F1 T1 hQ => ?_⟩
  obtain ⟨c1, c2⟩ := b3 h1
  obtain ⟨n1, n2⟩ := aftF_nd L F 0 (hA.nd (rinv_nd (basR_inv ht.inv))) e
  have hFl : (aftF F 0 L).2.2.length = t.p.preds.length := by rw [n2, hA.len, basR_len]
  have hBl : (chgs (btG t.N L) 0 (basR t.p t.R)).2.2.length = t.p.preds.length := by rw [← c1.len, hFl]
  have hri := c1.rinv c2.nl n1 hBl
  have hs := perf_same hv c1.nb.nd c1.nb.pre hP hri c1.nb.td hQ hFl n1 c1.tells
  refine ⟨fun eo => ?_, fun eo => ?_⟩
  · rw [hs.1, eo, if_pos rfl]; exact ⟨rfl, rfl⟩
  · rw [hs.1, eo, if_neg (by decide), if_neg (by decide)]
    refine ⟨rfl, ⟨c1.nb.nd, c1.nb.pre, fun q x hx => ?_⟩, by rw [hFl, basR_len], fun q => ?_, c1.ar⟩
    · exact hP.dom (fun r hr => (ht.pg.rul r hr).mono (fun y hy => hy.mono c1.nb.pre.length_le)) c1.nb.td q x (bas_mem hx).1
    · rw [bas_nm ht.pg.nob hP]
      by_cases hq : q < t.p.preds.length ∧ (pI t.p q).base = true
      · rw [if_pos hq]; exact c1.nm q
      · rw [if_neg hq]
        have hpr := aftF_pr (P := fun q _ => q < t.p.preds.length ∧ (pI t.p q).base = true) L F 0 (fun q r hr => by
          have hr' : r ∈ F.getD q [] := hr
          rw [hA.nm q] at hr'
          obtain ⟨x, hx, -⟩ := List.mem_map.1 hr'
          exact (bas_mem hx).2) (fun it hit _ => ⟨(hL it hit).1.lt, (hL it hit).2.1⟩) e
        cases hx : (aftF F 0 L).2.2.getD q [] with
        | nil => rfl
        | cons x l => exact absurd (hpr q x (by unfold memN; rw [hx]; exact List.mem_cons_self)) hq
end Go.Proofs.Qxb6500787aGreat
