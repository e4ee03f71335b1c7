import Derived.Test.Qxb6500789aZg
import Derived.StillTailTactics
import Derived.Deep.QuietTactic
import Derived.BigQuiet
import Derived.Deep.RegionHeld
import Derived.Deep.CutRange
import Derived.Laws.ResultCell
import Derived.Laws.Rows
import Derived.DeepKeys
import Derived.DataBytes
import Derived.Laws.StructEq
import Derived.Laws.AppendOwn
import Derived.Laws.MakeOwn
import Derived.Lib.AppendStr
set_option linter.unusedSimpArgs false
set_option linter.unusedVariables false
namespace Go.Proofs.Qxb6500789a
open Go.RowKit Go.Blk
attribute [local go_sem ↓] execOp_load execOp_store execOp_alloc
attribute [local go_sem] Try.ld29 Try.st29 Try.ld3 Try.st3 Try.ld9 Try.st9 Try.ld30 Try.st30 Try.ld34 Try.st34 Try.ld35 Try.st35 Try.ld36 Try.st36 Try.ld37 Try.st37 Try.ld44 Try.st44 Try.ld45 Try.st45 Try.ld54 Try.st54 Try.ld55 Try.st55 Try.ld74 Try.st74 Try.ld80 Try.st80 Try.ld84 Try.st84 Try.ld106 Try.st106 Try.ld107 Try.st107 Try.ld4 Try.st4 Try.ld121 Try.st121 Try.ld2 Try.st2 Try.ld5 Try.st5 Try.ld12 Try.st12 Try.ld21 Try.st21 Try.ld22 Try.st22 Try.ld24 Try.st24 Try.ld26 Try.st26 Try.ld63 Try.st63 Try.ld71 Try.st71 Try.ld103 Try.st103 Try.ld130 Try.st130 Try.ld133 Try.st133 Try.ld140 Try.st140 Try.ld152 Try.st152 Try.ld39 Try.st39 Try.ld32 Try.st32 Try.ld41 Try.st41 Try.ld47 Try.st47 Try.ld57 Try.st57 Try.ld62 Try.st62 Try.ld76 Try.st76 Try.ld82 Try.st82 Try.ld86 Try.st86 Try.ld109 Try.st109 Try.ld115 Try.st115 Try.ld123 Try.st123 Try.ld135 Try.st135 Try.al39 Try.al32 Try.al41 Try.al47 Try.al57 Try.al62 Try.al76 Try.al82 Try.al86 Try.al109 Try.al115 Try.al123 Try.al135
attribute [local go_sem] Answer.length_enc Answer.ok_enc Answer.all_get Answer.all_set Answer.code_get Answer.code_set Answer.n_get Answer.n_set Answer.name_get Answer.name_set Answer.rows_get Answer.rows_set GOp.length_enc GOp.ok_enc GOp.all_get GOp.all_set GOp.kind_get GOp.kind_set GOp.rel_get GOp.rel_set GOp.mask_get GOp.mask_set GOp.t_get GOp.t_set GOp.n_get GOp.n_set GOp.name_get GOp.name_set Store.length_enc Store.ok_enc Store.all_get Store.all_set Store.names_get Store.names_set Store.rels_get Store.rels_set GRel.length_enc GRel.ok_enc GRel.all_get GRel.all_set GRel.arity_get GRel.arity_set GRel.masks_get GRel.masks_set GRel.rows_get GRel.rows_set Row.length_enc Row.ok_enc Row.all_get Row.all_set Row.t_get Row.t_set Row.mark_get Row.mark_set View.length_enc View.ok_enc View.all_get View.all_set View.names_get View.names_set View.rels_get View.rels_set Symtab.length_enc Symtab.ok_enc Symtab.all_get Symtab.all_set Symtab.names_get Symtab.names_set Symtab.table_get Symtab.table_set StoreTuplestore.length_enc StoreTuplestore.ok_enc StoreTuplestore.all_get StoreTuplestore.all_set StoreTuplestore.syms_get StoreTuplestore.syms_set StoreTuplestore.rels_get StoreTuplestore.rels_set StoreTuplestore.syms_names_get StoreTuplestore.syms_names_set StoreTuplestore.syms_table_get StoreTuplestore.syms_table_set Relation.length_enc Relation.ok_enc Relation.all_get Relation.all_set Relation.arity_get Relation.arity_set Relation.slots_get Relation.slots_set Relation.live_get Relation.live_set Relation.idx_get Relation.idx_set Slot.length_enc Slot.ok_enc Slot.all_get Slot.all_set Slot.t_get Slot.t_set Slot.mark_get Slot.mark_set Slot.live_get Slot.live_set RelView.length_enc RelView.ok_enc RelView.all_get RelView.all_set RelView.arity_get RelView.arity_set RelView.rows_get RelView.rows_set RelView.marks_get RelView.marks_set RelView.indexed_get RelView.indexed_set Index.length_enc Index.ok_enc Index.all_get Index.all_set Index.mask_get Index.mask_set Index.heads_get Index.heads_set Index.next_get Index.next_set
attribute [local go_sem] size_put size_ext blk_put free_put blk_alloc free_alloc blk_drew free_drew blk_ext free_ext lookOr_some putOr_some segAt_some cellAt_some storeIn_some put_put put_alloc_new length_arr ok_arr_u8 ok_arr_u32 ok_arr_u64 ok_arr_i64 ok_arr_sl cellsV_agg cellsV_int cellsV_bool cellsV_string cellsV_pointer cellsV_slice cellsV_sl ok_int ok_bool ok_string ok_pointer ok_slice ok_sl toList_arr seg_arr set_arr nth_splice nth_splice0 seg_splice seg_splice0 splice_splice splice_splice0 length_splice_if
attribute [local go_sem ↓] execOp_box
attribute [local go_sem] box_run nth_arr_u8 put_arr_u8 blk_drewN free_drewN put_drewN blk_raw free_raw
/-- Two stores that tell the same, but for the order of rows. -/
def RelE (s s' : RelS) : Prop := s'.ar = s.ar ∧ s'.M = s.M ∧ (rowsOf s'.L).Perm (rowsOf s.L)
structure Eqv (st sm : StS) : Prop where
  names : sm.names = st.names
  len : sm.rels.length = st.rels.length
  rel : ∀ (i : Nat) (s s' : RelS), st.rels[i]? = some s → sm.rels[i]? = some s' → RelE s s'
theorem Eqv.relF' {st sm : StS} (h : Eqv st sm) (id : Int) : (relF st id = none ∧ relF sm id = none) ∨ ∃ s s', relF st id = some s ∧ relF sm id = some s' ∧ RelE s s' := by
  by_cases hid : 0 ≤ id ∧ id < (st.rels.length : Int)
  · obtain ⟨n, rfl⟩ : ∃ n : Nat, id = (n : Int) := ⟨id.toNat, by omega⟩
    obtain ⟨s, hs⟩ : ∃ s, st.rels[n]? = some s := ⟨_, List.getElem?_eq_getElem (by omega)⟩
    obtain ⟨s', hs'⟩ : ∃ s', sm.rels[n]? = some s' := ⟨_, List.getElem?_eq_getElem (by rw [h.len]; omega)⟩
    exact .inr ⟨s, s', relF_some hs, relF_some hs', h.rel n s s' hs hs'⟩
  · exact .inl ⟨relF_none hid, relF_none (by rw [h.len]; exact hid)⟩
theorem Eqv.relCode {st sm : StS} (h : Eqv st sm) (id : Int) : relCode sm id = relCode st id := by
  unfold Go.Proofs.Qxb6500789a.relCode
  rcases h.relF' id with ⟨h1, h2⟩ | ⟨s, s', h1, h2, _⟩ <;> rw [h1, h2]
theorem Eqv.rowCode {st sm : StS} (h : Eqv st sm) (id : Int) (t : Tup) : rowCode sm id t = rowCode st id t := by
  unfold Go.Proofs.Qxb6500789a.rowCode
  rcases h.relF' id with ⟨h1, h2⟩ | ⟨s, s', h1, h2, h3⟩
  · rw [h1, h2]
  · rw [h1, h2]; dsimp only; rw [h.names, h3.1]
theorem Eqv.colCode {st sm : StS} (h : Eqv st sm) (id m : Int) : colCode sm id m = colCode st id m := by
  unfold Go.Proofs.Qxb6500789a.colCode
  rcases h.relF' id with ⟨h1, h2⟩ | ⟨s, s', h1, h2, h3⟩
  · rw [h1, h2]
  · rw [h1, h2]; dsimp only; rw [h3.1]
theorem Eqv.probeCode {st sm : StS} (h : Eqv st sm) (id m : Int) (t : Tup) : probeCode sm id m t = probeCode st id m t := by
  unfold Go.Proofs.Qxb6500789a.probeCode
  rcases h.relF' id with ⟨h1, h2⟩ | ⟨s, s', h1, h2, h3⟩
  · rw [h1, h2]
  · rw [h1, h2]; dsimp only; rw [h.names, h3.1]
theorem Eqv.masksS {st sm : StS} (h : Eqv st sm) (id : Int) : masksS sm id = masksS st id := by
  unfold Go.Proofs.Qxb6500789a.masksS
  rcases h.relF' id with ⟨h1, h2⟩ | ⟨s, s', h1, h2, h3⟩
  · rw [h1, h2]
  · rw [h1, h2]; exact h3.2.1
theorem Eqv.rowsS {st sm : StS} (h : Eqv st sm) (id : Int) : (rowsS sm id).Perm (rowsS st id) := by
  unfold Go.Proofs.Qxb6500789a.rowsS
  rcases h.relF' id with ⟨h1, h2⟩ | ⟨s, s', h1, h2, h3⟩
  · rw [h1, h2]
  · rw [h1, h2]; exact h3.2.2
theorem Eqv.mem {st sm : StS} (h : Eqv st sm) (id : Int) (t : Tup) : (t ∈ (Go.Proofs.Qxb6500789a.rowsS sm id).map (·.1)) ↔ (t ∈ (Go.Proofs.Qxb6500789a.rowsS st id).map (·.1)) := ((h.rowsS id).map _).mem_iff
theorem find_nr {L : List (Tup × Int)} {t : Tup} (h : t ∉ L.map (·.1)) : L.find? (fun r => decide (r.1 = t)) = none :=
  List.find?_eq_none.2 (fun r hr e => h (List.mem_map.2 ⟨r, hr, of_decide_eq_true e⟩))
theorem find_perm {t : Tup} {L L' : List (Tup × Int)} (hp : L'.Perm L) (hN : (L.map (·.1)).Nodup) : L'.find? (fun r => decide (r.1 = t)) = L.find? (fun r => decide (r.1 = t)) := by
  by_cases ht : t ∈ L.map (·.1)
  · obtain ⟨r, hr, e⟩ := List.mem_map.1 ht
    obtain ⟨k, hk⟩ := List.mem_iff_getElem?.1 hr
    obtain ⟨k', hk'⟩ := List.mem_iff_getElem?.1 (hp.mem_iff.2 hr)
    rw [← e, find_at hN hk, find_at ((hp.map _).nodup_iff.2 hN) hk']
  · rw [find_nr ht, find_nr (fun h => ht (((hp.map _).mem_iff).1 h))]
theorem Eqv.insF {st sm : StS} (h : Eqv st sm) (id : Int) (t : Tup) : insF sm id t = insF st id t := by
  unfold Go.Proofs.Qxb6500789a.insF
  rw [h.rowCode, (h.rowsS id).length_eq]
  simp only [h.mem]
theorem Eqv.delF {st sm : StS} (h : Eqv st sm) (id : Int) (t : Tup) : delF sm id t = delF st id t := by
  unfold Go.Proofs.Qxb6500789a.delF
  rw [h.rowCode]
  simp only [h.mem]
theorem Eqv.setF {st sm : StS} (h : Eqv st sm) (id : Int) (t : Tup) (mk : Int) : setF sm id t mk = setF st id t mk := by
  unfold Go.Proofs.Qxb6500789a.setF
  rw [h.rowCode]
  simp only [h.mem]
theorem Eqv.containsF {st sm : StS} (h : Eqv st sm) (id : Int) (t : Tup) : containsF sm id t = containsF st id t := by
  unfold Go.Proofs.Qxb6500789a.containsF
  rw [h.rowCode]
  simp only [h.mem]
theorem Eqv.markF {st sm : StS} (h : Eqv st sm) (id : Int) (t : Tup) (hN : ((Go.Proofs.Qxb6500789a.rowsS st id).map (·.1)).Nodup) : markF sm id t = markF st id t := by
  unfold Go.Proofs.Qxb6500789a.markF
  rw [h.rowCode, find_perm (h.rowsS id) hN]
theorem Eqv.lenF {st sm : StS} (h : Eqv st sm) (id : Int) : lenF sm id = lenF st id := by
  unfold Go.Proofs.Qxb6500789a.lenF
  rcases h.relF' id with ⟨h1, h2⟩ | ⟨s, s', h1, h2, h3⟩
  · rw [h1, h2]
  · rw [h1, h2]; dsimp only; rw [h3.2.2.length_eq]
theorem Eqv.arityF {st sm : StS} (h : Eqv st sm) (id : Int) : arityF sm id = arityF st id := by
  unfold Go.Proofs.Qxb6500789a.arityF
  rcases h.relF' id with ⟨h1, h2⟩ | ⟨s, s', h1, h2, h3⟩
  · rw [h1, h2]
  · rw [h1, h2]; dsimp only; rw [h3.1]
theorem Eqv.hasIxF {st sm : StS} (h : Eqv st sm) (id m : Int) : hasIxF sm id m = hasIxF st id m := by
  unfold Go.Proofs.Qxb6500789a.hasIxF
  rw [h.colCode, h.masksS]
theorem Eqv.addIxF {st sm : StS} (h : Eqv st sm) (id m : Int) : addIxF sm id m = addIxF st id m := by
  unfold Go.Proofs.Qxb6500789a.addIxF
  rw [h.colCode, h.masksS]
theorem Eqv.probeR {st sm : StS} (h : Eqv st sm) (id m : Int) (t : Tup) : (probeR sm id m t).Perm (probeR st id m t) := by
  unfold Go.Proofs.Qxb6500789a.probeR
  rw [h.probeCode]
  by_cases hc : Go.Proofs.Qxb6500789a.probeCode st id m t = 0
  · rw [if_pos hc, if_pos hc]
    exact ((h.rowsS id).map _).filter _
  · rw [if_neg hc, if_neg hc]
/-- One relation changed in both. -/
theorem Eqv.upd {st sm st' sm' : StS} (h : Eqv st sm) {id : Int} {P : RelS → RelS → Prop} (hu : Upd st id P st') (hu' : Upd sm id P sm') (hP : ∀ s t s' t', relF st id = some s → RelE s t → P s s' → P t t' → s'.ar = s.ar → t'.ar = t.ar → RelE s' t') : Eqv st' sm' := by
  obtain ⟨s, s', h1, rfl, h3, h4⟩ := hu
  obtain ⟨t, t', g1, rfl, g3, g4⟩ := hu'
  rcases h.relF' id with ⟨e1, _⟩ | ⟨s0, t0, e1, e2, e3⟩
  · rw [e1] at h1; cases h1
  rw [e1] at h1
  rw [e2] at g1
  obtain rfl := Option.some.inj h1
  obtain rfl := Option.some.inj g1
  refine ⟨h.names, by simp [h.len], fun i x y hx hy => ?_⟩
  rw [List.getElem?_set] at hx hy
  by_cases hi : id.toNat = i
  · rw [if_pos hi] at hx hy
    by_cases hl : id.toNat < st.rels.length
    · rw [if_pos hl] at hx
      rw [if_pos (by rw [h.len]; exact hl)] at hy
      rw [← Option.some.inj hx, ← Option.some.inj hy]
      exact hP _ _ _ _ e1 e3 h4 g4 h3 g3
    · rw [if_neg hl] at hx; cases hx
  · rw [if_neg hi] at hx hy
    exact h.rel i x y hx hy
theorem Eqv.act {st sm st' sm' : StS} (h : Eqv st sm) {c : Int} {id : Int} {P : RelS → RelS → Prop} (hu : ActR c st id P st') (hu' : ActR c sm id P sm') (hP : ∀ s t s' t', relF st id = some s → RelE s t → P s s' → P t t' → s'.ar = s.ar → t'.ar = t.ar → RelE s' t') : Eqv st' sm' := by
  by_cases hc : c = 0
  · exact h.upd (hu.2 hc) (hu'.2 hc) hP
  · rw [hu.1 hc, hu'.1 hc]; exact h
theorem insE {t : Tup} {s s' r r' : RelS} (h : RelE s r) (h1 : insP t s s') (h2 : insP t r r') (h3 : s'.ar = s.ar) (h4 : r'.ar = r.ar) : RelE s' r' :=
  ⟨by rw [h4, h3, h.1], by rw [h2.1, h1.1, h.2.1], h2.2.trans ((h.2.2.cons _).trans h1.2.symm)⟩
theorem setE {t : Tup} {mk : Int} {s s' r r' : RelS} (h : RelE s r) (h1 : setP t mk s s') (h2 : setP t mk r r') (h3 : s'.ar = s.ar) (h4 : r'.ar = r.ar) : RelE s' r' :=
  ⟨by rw [h4, h3, h.1], by rw [h2.1, h1.1, h.2.1], by rw [h2.2, h1.2]; exact h.2.2.map _⟩
theorem compE {s s' r r' : RelS} (h : RelE s r) (h1 : compP s s') (h2 : compP r r') (h3 : s'.ar = s.ar) (h4 : r'.ar = r.ar) : RelE s' r' :=
  ⟨by rw [h4, h3, h.1], by rw [h2.1, h1.1, h.2.1], by rw [h2.2, h1.2]; exact h.2.2⟩
theorem clearE {s s' r r' : RelS} (h : RelE s r) (h1 : clearP s s') (h2 : clearP r r') (h3 : s'.ar = s.ar) (h4 : r'.ar = r.ar) : RelE s' r' :=
  ⟨by rw [h4, h3, h.1], by rw [h2.1, h1.1, h.2.1], by rw [h2.2, h1.2]⟩
theorem ixE' {m : Int} {s s' r r' : RelS} (h : RelE s r) (h1 : addIxP m s s') (h2 : addIxP m r r') (h3 : s'.ar = s.ar) (h4 : r'.ar = r.ar) : RelE s' r' :=
  ⟨by rw [h4, h3, h.1], by rw [h2.1, h1.1, h.2.1], by rw [h2.2, h1.2]; exact h.2.2⟩
theorem key_one {L : List (Tup × Int)} (hN : (L.map (·.1)).Nodup) {t : Tup} {a b : Int} (ha : (t, a) ∈ L) (hb : (t, b) ∈ L) : a = b := by
  obtain ⟨i, hi⟩ := List.mem_iff_getElem?.1 ha
  obtain ⟨j, hj⟩ := List.mem_iff_getElem?.1 hb
  have h1 := find_at hN hi
  have h2 := find_at hN hj
  rw [h1] at h2
  have := Option.some.inj h2
  exact congrArg Prod.snd this
theorem delE {t : Tup} {s s' r r' : RelS} (hN : ((rowsOf s.L).map (·.1)).Nodup) (h : RelE s r) (h1 : delP t s s') (h2 : delP t r r') (h3 : s'.ar = s.ar) (h4 : r'.ar = r.ar) : RelE s' r' := by
  obtain ⟨m1, mk1, p1⟩ := h1
  obtain ⟨m2, mk2, p2⟩ := h2
  have hm1 : (t, mk1) ∈ rowsOf s.L := p1.mem_iff.2 (List.mem_cons_self)
  have hm2 : (t, mk2) ∈ rowsOf s.L := h.2.2.mem_iff.1 (p2.mem_iff.2 (List.mem_cons_self))
  have e := key_one hN hm1 hm2
  subst e
  exact ⟨by rw [h4, h3, h.1], by rw [m2, m1, h.2.1], List.Perm.cons_inv (p2.symm.trans (h.2.2.trans p1))⟩
theorem Eqv.def {st sm : StS} (h : Eqv st sm) (a : Int) : (defF sm a).1 = (defF st a).1 ∧ (defF sm a).2.1 = (defF st a).2.1 ∧ Eqv (defF st a).2.2 (defF sm a).2.2 := by
  unfold defF
  by_cases ha : 0 ≤ a ∧ a ≤ 4
  · rw [if_pos ha, if_pos ha, h.len]
    by_cases hf : 192 ≤ st.rels.length
    · rw [if_pos hf, if_pos hf]; exact ⟨rfl, rfl, h⟩
    · rw [if_neg hf, if_neg hf]
      refine ⟨rfl, rfl, h.names, by simp [h.len], fun i x y hx hy => ?_⟩
      by_cases hi : i < st.rels.length
      · rw [List.getElem?_append_left hi] at hx
        rw [List.getElem?_append_left (by rw [h.len]; exact hi)] at hy
        exact h.rel i x y hx hy
      · rw [List.getElem?_append_right (by omega)] at hx
        rw [List.getElem?_append_right (by rw [h.len]; omega), h.len] at hy
        rw [hx] at hy
        have e := Option.some.inj hy
        rw [← e]
        exact ⟨rfl, rfl, List.Perm.refl _⟩
  · rw [if_neg ha, if_neg ha]; exact ⟨rfl, rfl, h⟩
/-- The step is determined, but for the order of rows. -/
theorem play_det {st sm st' sm' : StS} {op : GOp} {A A' : Answer} {ts ts' : List Tup} (h : Eqv st sm) (hN : ∀ id, ((rowsS st id).map (·.1)).Nodup) (h1 : PlayR st op st' A ts) (h2 : PlayR sm op sm' A' ts') : Eqv st' sm' ∧ A'.code = A.code ∧ A'.n = A.n ∧ A'.name = A.name ∧ ts'.Perm ts := by
  have hNs : ∀ (id : Int) (s : RelS), relF st id = some s → ((rowsOf s.L).map (·.1)).Nodup := fun id s hs => by
    have := hN id
    unfold rowsS at this
    rw [hs] at this; exact this
  cases h1 with
  | intern hk =>
    cases h2 with
    | intern hk' => rw [h.names]; exact ⟨⟨rfl, h.len, h.rel⟩, rfl, rfl, rfl, List.Perm.refl _⟩
    | bad hb => exact (hb 0 (by omega) hk).elim
    | _ => exfalso; omega
  | lookup hk =>
    cases h2 with
    | lookup hk' => rw [h.names]; exact ⟨h, rfl, rfl, rfl, List.Perm.refl _⟩
    | bad hb => exact (hb 1 (by omega) hk).elim
    | _ => exfalso; omega
  | name hk =>
    cases h2 with
    | name hk' => rw [h.names]; exact ⟨h, rfl, rfl, rfl, List.Perm.refl _⟩
    | bad hb => exact (hb 2 (by omega) hk).elim
    | _ => exfalso; omega
  | define hk =>
    cases h2 with
    | define hk' => obtain ⟨d1, d2, d3⟩ := h.def op.n; exact ⟨d3, d2, d1, rfl, List.Perm.refl _⟩
    | bad hb => exact (hb 3 (by omega) hk).elim
    | _ => exfalso; omega
  | index hk hR =>
    cases h2 with
    | index hk' hR' => rw [h.addIxF] at hR'; exact ⟨h.act hR hR' (fun s r s' r' _ hE h1 h2 h3 h4 => ixE' hE h1 h2 h3 h4), h.addIxF _ _, rfl, rfl, List.Perm.refl _⟩
    | bad hb => exact (hb 4 (by omega) hk).elim
    | _ => exfalso; omega
  | hasIx hk =>
    cases h2 with
    | hasIx hk' => rw [h.hasIxF]; exact ⟨h, rfl, rfl, rfl, List.Perm.refl _⟩
    | bad hb => exact (hb 5 (by omega) hk).elim
    | _ => exfalso; omega
  | insert hk hR =>
    cases h2 with
    | insert hk' hR' => rw [h.insF] at hR'; exact ⟨h.act hR hR' (fun s r s' r' _ hE h1 h2 h3 h4 => insE hE h1 h2 h3 h4), h.insF _ _, rfl, rfl, List.Perm.refl _⟩
    | bad hb => exact (hb 6 (by omega) hk).elim
    | _ => exfalso; omega
  | delete hk hR =>
    cases h2 with
    | delete hk' hR' => rw [h.delF] at hR'; exact ⟨h.act hR hR' (fun s r s' r' hs hE h1 h2 h3 h4 => delE (hNs _ s hs) hE h1 h2 h3 h4), h.delF _ _, rfl, rfl, List.Perm.refl _⟩
    | bad hb => exact (hb 7 (by omega) hk).elim
    | _ => exfalso; omega
  | contains hk =>
    cases h2 with
    | contains hk' => rw [h.containsF]; exact ⟨h, rfl, rfl, rfl, List.Perm.refl _⟩
    | bad hb => exact (hb 8 (by omega) hk).elim
    | _ => exfalso; omega
  | probe hk r hp =>
    cases h2 with
    | probe hk' r' hp' => exact ⟨h, h.probeCode _ _ _, rfl, rfl, hp'.trans ((h.probeR _ _ _).trans hp.symm)⟩
    | bad hb => exact (hb 9 (by omega) hk).elim
    | _ => exfalso; omega
  | compact hk hR =>
    cases h2 with
    | compact hk' hR' => rw [h.relCode] at hR'; exact ⟨h.act hR hR' (fun s r s' r' _ hE h1 h2 h3 h4 => compE hE h1 h2 h3 h4), h.relCode _, rfl, rfl, List.Perm.refl _⟩
    | bad hb => exact (hb 10 (by omega) hk).elim
    | _ => exfalso; omega
  | clear hk hR =>
    cases h2 with
    | clear hk' hR' => rw [h.relCode] at hR'; exact ⟨h.act hR hR' (fun s r s' r' _ hE h1 h2 h3 h4 => clearE hE h1 h2 h3 h4), h.relCode _, rfl, rfl, List.Perm.refl _⟩
    | bad hb => exact (hb 11 (by omega) hk).elim
    | _ => exfalso; omega
  | setMark hk hR =>
    cases h2 with
    | setMark hk' hR' => rw [h.setF] at hR'; exact ⟨h.act hR hR' (fun s r s' r' _ hE h1 h2 h3 h4 => setE hE h1 h2 h3 h4), h.setF _ _ _, rfl, rfl, List.Perm.refl _⟩
    | bad hb => exact (hb 12 (by omega) hk).elim
    | _ => exfalso; omega
  | mark hk =>
    cases h2 with
    | mark hk' => rw [h.markF _ _ (hN _)]; exact ⟨h, rfl, rfl, rfl, List.Perm.refl _⟩
    | bad hb => exact (hb 13 (by omega) hk).elim
    | _ => exfalso; omega
  | len hk =>
    cases h2 with
    | len hk' => rw [h.lenF]; exact ⟨h, rfl, rfl, rfl, List.Perm.refl _⟩
    | bad hb => exact (hb 14 (by omega) hk).elim
    | _ => exfalso; omega
  | list hk r hp =>
    cases h2 with
    | list hk' r' hp' => rw [hp, hp']; exact ⟨h, h.relCode _, rfl, rfl, (h.rowsS _).map _⟩
    | bad hb => exact (hb 15 (by omega) hk).elim
    | _ => exfalso; omega
  | bad hb =>
    cases h2 with
    | bad hb' => exact ⟨h, rfl, rfl, rfl, List.Perm.refl _⟩
    | intern hk' => exact (hb 0 (by omega) hk').elim
    | lookup hk' => exact (hb 1 (by omega) hk').elim
    | name hk' => exact (hb 2 (by omega) hk').elim
    | define hk' => exact (hb 3 (by omega) hk').elim
    | index hk' hR' => exact (hb 4 (by omega) hk').elim
    | hasIx hk' => exact (hb 5 (by omega) hk').elim
    | insert hk' hR' => exact (hb 6 (by omega) hk').elim
    | delete hk' hR' => exact (hb 7 (by omega) hk').elim
    | contains hk' => exact (hb 8 (by omega) hk').elim
    | probe hk' r' hp' => exact (hb 9 (by omega) hk').elim
    | compact hk' hR' => exact (hb 10 (by omega) hk').elim
    | clear hk' hR' => exact (hb 11 (by omega) hk').elim
    | setMark hk' hR' => exact (hb 12 (by omega) hk').elim
    | mark hk' => exact (hb 13 (by omega) hk').elim
    | len hk' => exact (hb 14 (by omega) hk').elim
    | list hk' r' hp' => exact (hb 15 (by omega) hk').elim
theorem StAt.msm {B : Nat} {O : Own} {W : World} {bs : Nat} {st sm : StS} (h : StAt B O W bs st) (hE : Eqv st sm) : MSm sm := by
  have hc := h.caps 0
  have hnd : st.names.Nodup := by obtain ⟨_, _, _, ⟨_, _, _, _, _, _, _, _, hni⟩, _⟩ := h.sym; exact hni.tinv.nodup
  refine ⟨by rw [hE.names]; exact hc.1, by rw [hE.names]; exact hnd, by rw [hE.len]; exact hc.2.1, fun s' hs' => ?_⟩
  obtain ⟨i, hi⟩ := List.mem_iff_getElem?.1 hs'
  have hil : i < st.rels.length := by rw [← hE.len]; exact (List.getElem?_eq_some_iff.1 hi).1
  obtain ⟨s, hs⟩ : ∃ s, st.rels[i]? = some s := ⟨_, List.getElem?_eq_getElem hil⟩
  obtain ⟨e1, e2, e3⟩ := hE.rel i s s' hs hi
  have hcap := (h.caps (i : Int)).2.2.2
  have hnd2 := h.nodup (i : Int)
  unfold lenF at hcap
  unfold rowsS at hnd2
  rw [relF_some hs] at hcap hnd2
  dsimp only at hcap hnd2
  obtain ⟨na, nn, nc, ta, tn, tc, gr, rn, rc, Cr, K, ho⟩ := stat_opn h hs
  have hfew := ho.inv.few
  have hml : s.M.length ≤ 16 := by rw [← ho.ms, List.length_map]; omega
  refine ⟨by rw [e1]; exact h.ar4 hs, by rw [e3.length_eq]; omega, ?_, (e3.map _).nodup_iff.2 hnd2⟩
  unfold mk0
  rw [e2]
  exact Nat.le_trans (List.length_filter_le _ _) (by omega)
theorem Eqv.nil : Eqv ⟨[], []⟩ ⟨[], []⟩ := ⟨rfl, rfl, fun i s s' h => by simp at h⟩
end Go.Proofs.Qxb6500789a
