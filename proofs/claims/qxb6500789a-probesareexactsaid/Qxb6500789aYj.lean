import Derived.Test.Qxb6500789aYi
import Derived.StillTailTactics
import Derived.Deep.QuietTactic
import Derived.BigQuiet
import Derived.Deep.RegionHeld
import Derived.Deep.CutRange
import Derived.Laws.ResultCell
import Derived.Laws.Rows
import Derived.DeepKeys
import Derived.DataBytes
import Derived.Laws.StructEq
import Derived.Laws.AppendOwn
import Derived.Laws.MakeOwn
import Derived.Lib.AppendStr
set_option linter.unusedSimpArgs false
set_option linter.unusedVariables false
namespace Go.Proofs.Qxb6500789a
open Go.RowKit Go.Blk
attribute [local go_sem ↓] execOp_load execOp_store execOp_alloc
attribute [local go_sem] Try.ld29 Try.st29 Try.ld3 Try.st3 Try.ld9 Try.st9 Try.ld30 Try.st30 Try.ld34 Try.st34 Try.ld35 Try.st35 Try.ld36 Try.st36 Try.ld37 Try.st37 Try.ld44 Try.st44 Try.ld45 Try.st45 Try.ld54 Try.st54 Try.ld55 Try.st55 Try.ld74 Try.st74 Try.ld80 Try.st80 Try.ld84 Try.st84 Try.ld106 Try.st106 Try.ld107 Try.st107 Try.ld4 Try.st4 Try.ld121 Try.st121 Try.ld2 Try.st2 Try.ld5 Try.st5 Try.ld12 Try.st12 Try.ld21 Try.st21 Try.ld22 Try.st22 Try.ld24 Try.st24 Try.ld26 Try.st26 Try.ld63 Try.st63 Try.ld71 Try.st71 Try.ld103 Try.st103 Try.ld130 Try.st130 Try.ld133 Try.st133 Try.ld140 Try.st140 Try.ld152 Try.st152 Try.ld39 Try.st39 Try.ld32 Try.st32 Try.ld41 Try.st41 Try.ld47 Try.st47 Try.ld57 Try.st57 Try.ld62 Try.st62 Try.ld76 Try.st76 Try.ld82 Try.st82 Try.ld86 Try.st86 Try.ld109 Try.st109 Try.ld115 Try.st115 Try.ld123 Try.st123 Try.ld135 Try.st135 Try.al39 Try.al32 Try.al41 Try.al47 Try.al57 Try.al62 Try.al76 Try.al82 Try.al86 Try.al109 Try.al115 Try.al123 Try.al135
attribute [local go_sem] Answer.length_enc Answer.ok_enc Answer.all_get Answer.all_set Answer.code_get Answer.code_set Answer.n_get Answer.n_set Answer.name_get Answer.name_set Answer.rows_get Answer.rows_set GOp.length_enc GOp.ok_enc GOp.all_get GOp.all_set GOp.kind_get GOp.kind_set GOp.rel_get GOp.rel_set GOp.mask_get GOp.mask_set GOp.t_get GOp.t_set GOp.n_get GOp.n_set GOp.name_get GOp.name_set Store.length_enc Store.ok_enc Store.all_get Store.all_set Store.names_get Store.names_set Store.rels_get Store.rels_set GRel.length_enc GRel.ok_enc GRel.all_get GRel.all_set GRel.arity_get GRel.arity_set GRel.masks_get GRel.masks_set GRel.rows_get GRel.rows_set Row.length_enc Row.ok_enc Row.all_get Row.all_set Row.t_get Row.t_set Row.mark_get Row.mark_set View.length_enc View.ok_enc View.all_get View.all_set View.names_get View.names_set View.rels_get View.rels_set Symtab.length_enc Symtab.ok_enc Symtab.all_get Symtab.all_set Symtab.names_get Symtab.names_set Symtab.table_get Symtab.table_set StoreTuplestore.length_enc StoreTuplestore.ok_enc StoreTuplestore.all_get StoreTuplestore.all_set StoreTuplestore.syms_get StoreTuplestore.syms_set StoreTuplestore.rels_get StoreTuplestore.rels_set StoreTuplestore.syms_names_get StoreTuplestore.syms_names_set StoreTuplestore.syms_table_get StoreTuplestore.syms_table_set Relation.length_enc Relation.ok_enc Relation.all_get Relation.all_set Relation.arity_get Relation.arity_set Relation.slots_get Relation.slots_set Relation.live_get Relation.live_set Relation.idx_get Relation.idx_set Slot.length_enc Slot.ok_enc Slot.all_get Slot.all_set Slot.t_get Slot.t_set Slot.mark_get Slot.mark_set Slot.live_get Slot.live_set RelView.length_enc RelView.ok_enc RelView.all_get RelView.all_set RelView.arity_get RelView.arity_set RelView.rows_get RelView.rows_set RelView.marks_get RelView.marks_set RelView.indexed_get RelView.indexed_set Index.length_enc Index.ok_enc Index.all_get Index.all_set Index.mask_get Index.mask_set Index.heads_get Index.heads_set Index.next_get Index.next_set
attribute [local go_sem] size_put size_ext blk_put free_put blk_alloc free_alloc blk_drew free_drew blk_ext free_ext lookOr_some putOr_some segAt_some cellAt_some storeIn_some put_put put_alloc_new length_arr ok_arr_u8 ok_arr_u32 ok_arr_u64 ok_arr_i64 ok_arr_sl cellsV_agg cellsV_int cellsV_bool cellsV_string cellsV_pointer cellsV_slice cellsV_sl ok_int ok_bool ok_string ok_pointer ok_slice ok_sl toList_arr seg_arr set_arr nth_splice nth_splice0 seg_splice seg_splice0 splice_splice splice_splice0 length_splice_if
attribute [local go_sem ↓] execOp_box
attribute [local go_sem] box_run nth_arr_u8 put_arr_u8 blk_drewN free_drewN put_drewN blk_raw free_raw
theorem FrS.extends {O O' : Own} {w0 W W' : World} (h : FrS O W O' W') (he : w0.Extends W) (hd : ∀ k, k < w0.heap.size → O k = .no) : w0.Extends W' := by
  have hb : ∀ i, i < w0.heap.size → W'.heap[i]? = w0.heap[i]? := fun i hi => ((h.keep i (Nat.lt_of_lt_of_le hi he.size) (by rw [hd i hi]; exact not_no)).2).trans (he.block i hi)
  exact ⟨h.os.trans he.os, h.tape.trans he.tape, h.output.trans he.output, Nat.le_trans he.size h.size, fun a ha => World.cell?_of_block (hb _ ha), fun a ha => World.frozen?_of_block (hb _ ha), hb⟩
theorem FrS.no {O O' : Own} {W W' : World} (h : FrS O W O' W') {k : Nat} (hk : k < W.heap.size) (ho : O k = .no) : O' k = .no := ((h.keep k hk (by rw [ho]; exact not_no)).1).trans ho
/-- The store under way in a law's loop. -/
def LI (W0 : World) (B bs : Nat) (W : World) (st : StS) : Prop := ∃ O, StAt B O W bs st ∧ W0.Extends W ∧ ∀ k, k < W0.heap.size → O k = .no
theorem LI.new {W0 : World} {B bs : Nat} {W W' : World} {st : StS} (h : LI W0 B bs W st) (he : W.Extends W') : ∃ O, StAt B O W' bs st ∧ W0.Extends W' ∧ (∀ k, k < W0.heap.size → O k = .no) ∧ ∀ k, W.heap.size ≤ k → O k = .no := by
  obtain ⟨O, h1, h2, h3⟩ := h
  refine ⟨lab O W.heap.size .no, (h1.relab (fun k hk => lab_lt hk)).ext he, h2.trans he, fun k hk => ?_, fun k hk => lab_ge hk⟩
  by_cases hk2 : k < W.heap.size
  · rw [lab_lt hk2]; exact h3 k hk
  · exact lab_ge (by omega)
theorem LI.ext {W0 : World} {B bs : Nat} {W W' : World} {st : StS} (h : LI W0 B bs W st) (he : W.Extends W') : LI W0 B bs W' st := by
  obtain ⟨O, h1, h2, h3⟩ := h
  exact ⟨O, h1.ext he, h2.trans he, h3⟩
theorem StAt.nodup {B : Nat} {O : Own} {W : World} {bs : Nat} {st : StS} (h : StAt B O W bs st) (id : Int) : ((rowsS st id).map (·.1)).Nodup := by
  unfold rowsS relF
  by_cases hid : 0 ≤ id ∧ id < (st.rels.length : Int)
  · rw [if_pos hid]
    obtain ⟨s, hs⟩ : ∃ s, st.rels[id.toNat]? = some s := ⟨_, List.getElem?_eq_getElem (by omega)⟩
    rw [hs]
    obtain ⟨_, _, _, _, _, _, _, _, _, _, K, ho⟩ := stat_opn h hs
    have := nodup_live ho.inv.nodup
    show ((rowsOf s.L).map (·.1)).Nodup
    unfold rowsOf
    rw [List.map_map]; exact this
  · rw [if_neg hid]; exact List.nodup_nil
theorem upd_rel {st st' : StS} {id : Int} {P : RelS → RelS → Prop} (h : Upd st id P st') : ∃ s s', relF st id = some s ∧ relF st' id = some s' ∧ s'.ar = s.ar ∧ P s s' ∧ st'.names = st.names := by
  obtain ⟨s, s', h1, h2, h3, h4⟩ := h
  refine ⟨s, s', h1, ?_, h3, h4, by rw [h2]⟩
  unfold relF at h1 ⊢
  rw [h2]
  by_cases hid : 0 ≤ id ∧ id < (st.rels.length : Int)
  · rw [if_pos (by simpa using hid)]
    show (st.rels.set id.toNat s')[id.toNat]? = some s'
    rw [List.getElem?_set, if_pos rfl, if_pos (by omega)]
  · rw [if_neg hid] at h1; cases h1
theorem upd_code {st st' : StS} {id : Int} {P : RelS → RelS → Prop} (h : Upd st id P st') (t : Tup) : rowCode st' id t = rowCode st id t := by
  obtain ⟨s, s', h1, h2, h3, h4, h5⟩ := upd_rel h
  unfold rowCode
  rw [h1, h2]
  show rowC st'.names.length s'.ar t = rowC st.names.length s.ar t
  rw [h3, h5]
theorem contains_code (st : StS) (id : Int) (t : Tup) : (containsF st id t).2 = rowCode st id t := by
  unfold containsF; split
  · rename_i h; exact h.symm
  · rfl
theorem contains_has {st : StS} {id : Int} {t : Tup} (h : rowCode st id t = 0) : (containsF st id t).1 = decide (t ∈ (rowsS st id).map (·.1)) := by unfold containsF; rw [if_pos h]
theorem len_rows {st : StS} {id : Int} {t : Tup} (h : rowCode st id t = 0) : (lenF st id).1 = ((rowsS st id).length : Int) := by
  unfold rowCode at h
  unfold lenF rowsS
  cases hr : relF st id with
  | none => rw [hr] at h; cases h
  | some s => rfl
theorem ins_law {st st' : StS} {id : Int} {t : Tup} (hR : ActR (insF st id t) st id (insP t) st') :
    ((containsF st id t).2 ≠ 0 → insF st id t = (containsF st id t).2) ∧ ((containsF st id t).2 = 0 → ((containsF st id t).1 = true → insF st id t = 1 ∧ (containsF st' id t).1 = true) ∧ ((containsF st id t).1 = false → ((512 ≤ (lenF st id).1 → insF st id t = 4 ∧ (containsF st' id t).1 = false) ∧ (¬ 512 ≤ (lenF st id).1 → insF st id t = 0 ∧ (containsF st' id t).1 = true)))) := by
  rw [contains_code]
  refine ⟨fun h => by unfold insF; rw [if_neg h], fun h => ?_⟩
  rw [contains_has h, len_rows h]
  refine ⟨fun hh => ?_, fun hh => ⟨fun hf => ?_, fun hf => ?_⟩⟩
  · have hm := of_decide_eq_true hh
    have hc : insF st id t = 1 := by unfold insF; rw [if_pos h, if_pos hm]
    refine ⟨hc, ?_⟩
    rw [hR.1 (by rw [hc]; decide), contains_has h]; exact hh
  · have hm := of_decide_eq_false hh
    have hc : insF st id t = 4 := by unfold insF; rw [if_pos h, if_neg hm, if_pos (by omega)]
    refine ⟨hc, ?_⟩
    rw [hR.1 (by rw [hc]; decide), contains_has h]; exact hh
  · have hm := of_decide_eq_false hh
    have hc : insF st id t = 0 := by unfold insF; rw [if_pos h, if_neg hm, if_neg (by omega)]
    refine ⟨hc, ?_⟩
    have hU := hR.2 hc
    obtain ⟨s, s', h1, h2, h3, ⟨_, hp⟩, h5⟩ := upd_rel hU
    rw [contains_has (by rw [upd_code hU]; exact h)]
    refine decide_eq_true ?_
    unfold rowsS; rw [h2]
    show t ∈ (rowsOf s'.L).map (·.1)
    exact List.mem_map.2 ⟨(t, 0), (hp.mem_iff).2 List.mem_cons_self, rfl⟩
theorem del_law {st st' : StS} {id : Int} {t : Tup} (hN : ((rowsS st id).map (·.1)).Nodup) (hR : ActR (delF st id t) st id (delP t) st') :
    ((containsF st id t).2 ≠ 0 → delF st id t = (containsF st id t).2) ∧ ((containsF st id t).2 = 0 → ((containsF st id t).1 = true → delF st id t = 0 ∧ (containsF st' id t).1 = false) ∧ ((containsF st id t).1 = false → delF st id t = 2 ∧ (containsF st' id t).1 = false)) := by
  rw [contains_code]
  refine ⟨fun h => by unfold delF; rw [if_neg h], fun h => ?_⟩
  rw [contains_has h]
  refine ⟨fun hh => ?_, fun hh => ?_⟩
  · have hm := of_decide_eq_true hh
    have hc : delF st id t = 0 := by unfold delF; rw [if_pos h, if_pos hm]
    refine ⟨hc, ?_⟩
    have hU := hR.2 hc
    obtain ⟨s, s', h1, h2, h3, ⟨_, mk, hp⟩, h5⟩ := upd_rel hU
    rw [contains_has (by rw [upd_code hU]; exact h)]
    refine decide_eq_false ?_
    unfold rowsS at hN ⊢; rw [h1] at hN; rw [h2]
    have hN' : (((t, mk) :: rowsOf s'.L).map (·.1)).Nodup := (hp.map _).nodup_iff.1 hN
    rw [List.map_cons, List.nodup_cons] at hN'
    exact hN'.1
  · have hm := of_decide_eq_false hh
    have hc : delF st id t = 2 := by unfold delF; rw [if_pos h, if_neg hm]
    refine ⟨hc, ?_⟩
    rw [hR.1 (by rw [hc]; decide), contains_has h]; exact hh
theorem play_kind6 {st st' : StS} {op : GOp} {A : Answer} {ts : List Tup} (h : PlayR st op st' A ts) (hk : op.kind = 6) : A = ans (insF st op.rel op.t) 0 ∧ ActR (insF st op.rel op.t) st op.rel (insP op.t) st' := by
  cases h with
  | insert h1 hR => exact ⟨rfl, hR⟩
  | bad h1 => exact absurd hk (h1 6 (by omega))
  | _ => exfalso; omega
theorem play_kind7 {st st' : StS} {op : GOp} {A : Answer} {ts : List Tup} (h : PlayR st op st' A ts) (hk : op.kind = 7) : A = ans (delF st op.rel op.t) 0 ∧ ActR (delF st op.rel op.t) st op.rel (delP op.t) st' := by
  cases h with
  | delete h1 hR => exact ⟨rfl, hR⟩
  | bad h1 => exact absurd hk (h1 7 (by omega))
  | _ => exfalso; omega
end Go.Proofs.Qxb6500789a
