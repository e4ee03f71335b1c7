import Derived.Test.Qxb6500789aYk
import Derived.StillTailTactics
import Derived.Deep.QuietTactic
import Derived.BigQuiet
import Derived.Deep.RegionHeld
import Derived.Deep.CutRange
import Derived.Laws.ResultCell
import Derived.Laws.Rows
import Derived.DeepKeys
import Derived.DataBytes
import Derived.Laws.StructEq
import Derived.Laws.AppendOwn
import Derived.Laws.MakeOwn
import Derived.Lib.AppendStr
set_option linter.unusedSimpArgs false
set_option linter.unusedVariables false
namespace Go.Proofs.Qxb6500789a
open Go.RowKit Go.Blk
attribute [local go_sem ↓] execOp_load execOp_store execOp_alloc
attribute [local go_sem] Try.ld29 Try.st29 Try.ld3 Try.st3 Try.ld9 Try.st9 Try.ld30 Try.st30 Try.ld34 Try.st34 Try.ld35 Try.st35 Try.ld36 Try.st36 Try.ld37 Try.st37 Try.ld44 Try.st44 Try.ld45 Try.st45 Try.ld54 Try.st54 Try.ld55 Try.st55 Try.ld74 Try.st74 Try.ld80 Try.st80 Try.ld84 Try.st84 Try.ld106 Try.st106 Try.ld107 Try.st107 Try.ld4 Try.st4 Try.ld121 Try.st121 Try.ld2 Try.st2 Try.ld5 Try.st5 Try.ld12 Try.st12 Try.ld21 Try.st21 Try.ld22 Try.st22 Try.ld24 Try.st24 Try.ld26 Try.st26 Try.ld63 Try.st63 Try.ld71 Try.st71 Try.ld103 Try.st103 Try.ld130 Try.st130 Try.ld133 Try.st133 Try.ld140 Try.st140 Try.ld152 Try.st152 Try.ld39 Try.st39 Try.ld32 Try.st32 Try.ld41 Try.st41 Try.ld47 Try.st47 Try.ld57 Try.st57 Try.ld62 Try.st62 Try.ld76 Try.st76 Try.ld82 Try.st82 Try.ld86 Try.st86 Try.ld109 Try.st109 Try.ld115 Try.st115 Try.ld123 Try.st123 Try.ld135 Try.st135 Try.al39 Try.al32 Try.al41 Try.al47 Try.al57 Try.al62 Try.al76 Try.al82 Try.al86 Try.al109 Try.al115 Try.al123 Try.al135
attribute [local go_sem] Answer.length_enc Answer.ok_enc Answer.all_get Answer.all_set Answer.code_get Answer.code_set Answer.n_get Answer.n_set Answer.name_get Answer.name_set Answer.rows_get Answer.rows_set GOp.length_enc GOp.ok_enc GOp.all_get GOp.all_set GOp.kind_get GOp.kind_set GOp.rel_get GOp.rel_set GOp.mask_get GOp.mask_set GOp.t_get GOp.t_set GOp.n_get GOp.n_set GOp.name_get GOp.name_set Store.length_enc Store.ok_enc Store.all_get Store.all_set Store.names_get Store.names_set Store.rels_get Store.rels_set GRel.length_enc GRel.ok_enc GRel.all_get GRel.all_set GRel.arity_get GRel.arity_set GRel.masks_get GRel.masks_set GRel.rows_get GRel.rows_set Row.length_enc Row.ok_enc Row.all_get Row.all_set Row.t_get Row.t_set Row.mark_get Row.mark_set View.length_enc View.ok_enc View.all_get View.all_set View.names_get View.names_set View.rels_get View.rels_set Symtab.length_enc Symtab.ok_enc Symtab.all_get Symtab.all_set Symtab.names_get Symtab.names_set Symtab.table_get Symtab.table_set StoreTuplestore.length_enc StoreTuplestore.ok_enc StoreTuplestore.all_get StoreTuplestore.all_set StoreTuplestore.syms_get StoreTuplestore.syms_set StoreTuplestore.rels_get StoreTuplestore.rels_set StoreTuplestore.syms_names_get StoreTuplestore.syms_names_set StoreTuplestore.syms_table_get StoreTuplestore.syms_table_set Relation.length_enc Relation.ok_enc Relation.all_get Relation.all_set Relation.arity_get Relation.arity_set Relation.slots_get Relation.slots_set Relation.live_get Relation.live_set Relation.idx_get Relation.idx_set Slot.length_enc Slot.ok_enc Slot.all_get Slot.all_set Slot.t_get Slot.t_set Slot.mark_get Slot.mark_set Slot.live_get Slot.live_set RelView.length_enc RelView.ok_enc RelView.all_get RelView.all_set RelView.arity_get RelView.arity_set RelView.rows_get RelView.rows_set RelView.marks_get RelView.marks_set RelView.indexed_get RelView.indexed_set Index.length_enc Index.ok_enc Index.all_get Index.all_set Index.mask_get Index.mask_set Index.heads_get Index.heads_set Index.next_get Index.next_set
attribute [local go_sem] size_put size_ext blk_put free_put blk_alloc free_alloc blk_drew free_drew blk_ext free_ext lookOr_some putOr_some segAt_some cellAt_some storeIn_some put_put put_alloc_new length_arr ok_arr_u8 ok_arr_u32 ok_arr_u64 ok_arr_i64 ok_arr_sl cellsV_agg cellsV_int cellsV_bool cellsV_string cellsV_pointer cellsV_slice cellsV_sl ok_int ok_bool ok_string ok_pointer ok_slice ok_sl toList_arr seg_arr set_arr nth_splice nth_splice0 seg_splice seg_splice0 splice_splice splice_splice0 length_splice_if
attribute [local go_sem ↓] execOp_box
attribute [local go_sem] box_run nth_arr_u8 put_arr_u8 blk_drewN free_drewN put_drewN blk_raw free_raw
theorem StAt.caps {B : Nat} {O : Own} {W : World} {bs : Nat} {st : StS} (h : StAt B O W bs st) (id : Int) : st.names.length ≤ 256 ∧ st.rels.length ≤ 192 ∧ 0 ≤ (lenF st id).1 ∧ (lenF st id).1 ≤ 512 := by
  have h0 := h
  obtain ⟨ra, rn, rc, R, ⟨T, na, nn, nc, ta, tn, tc, hsy, hni⟩, h2, h3, h4, h5, h6⟩ := h0
  refine ⟨hni.few, h4, ?_⟩
  unfold lenF relF
  by_cases hid : 0 ≤ id ∧ id < (st.rels.length : Int)
  · rw [if_pos hid]
    obtain ⟨s, hs⟩ : ∃ s, st.rels[id.toNat]? = some s := ⟨_, List.getElem?_eq_getElem (by omega)⟩
    rw [hs]
    obtain ⟨_, _, _, _, _, _, _, _, _, _, K, ho⟩ := stat_opn h hs
    have := ho.inv.live
    show 0 ≤ ((rowsOf s.L).length : Int) ∧ ((rowsOf s.L).length : Int) ≤ 512
    rw [rowsOf_len]; omega
  · rw [if_neg hid]; decide
theorem row_codes (st : StS) (id : Int) (t : Tup) : rowCode st id t = 0 ∨ rowCode st id t = 7 ∨ rowCode st id t = 8 ∨ rowCode st id t = 10 := by
  unfold rowCode rowC; split
  · exact .inr (.inl rfl)
  · split
    · split
      · exact .inl rfl
      · exact .inr (.inr (.inl rfl))
    · exact .inr (.inr (.inr rfl))
theorem col_codes (st : StS) (id m : Int) : colCode st id m = 0 ∨ colCode st id m = 7 ∨ colCode st id m = 9 := by
  unfold colCode colC; split
  · exact .inr (.inl rfl)
  · split
    · exact .inl rfl
    · exact .inr (.inr rfl)
theorem rel_codes (st : StS) (id : Int) : relCode st id = 0 ∨ relCode st id = 7 := by
  unfold relCode; split
  · exact .inr rfl
  · exact .inl rfl
theorem probe_codes (st : StS) (id m : Int) (t : Tup) : probeCode st id m t = 0 ∨ probeCode st id m t = 7 ∨ probeCode st id m t = 9 ∨ probeCode st id m t = 10 := by
  unfold probeCode; split
  · exact .inr (.inl rfl)
  · rename_i s _
    show probeC st.names.length s.ar m t = 0 ∨ _ ∨ _ ∨ _
    unfold probeC
    by_cases h : colC s.ar m = 0
    · rw [if_pos h]
      by_cases h2 : KeyOk st.names.length s.ar m.toNat t
      · exact .inl (if_pos h2)
      · exact .inr (.inr (.inr (if_neg h2)))
    · rw [if_neg h]
      unfold colC at h ⊢
      split at h
      · exact absurd rfl h
      · rename_i h3; rw [if_neg h3]; exact .inr (.inr (.inl rfl))
def NotFull (c : Int) : Prop := c ≠ 3 ∧ c ≠ 4 ∧ c ≠ 5
theorem nf0 : NotFull 0 := by unfold NotFull; decide
theorem nf2 : NotFull 2 := by unfold NotFull; decide
theorem nf7 : NotFull 7 := by unfold NotFull; decide
theorem nf10 : NotFull 10 := by unfold NotFull; decide
theorem play_codes {st st' : StS} {op : GOp} {A : Answer} {ts : List Tup} (h : PlayR st op st' A ts) (h0 : op.kind ≠ 0) (h6 : op.kind ≠ 6) (h3 : op.kind ≠ 3) : NotFull A.code := by
  cases h with
  | intern h => exact absurd h h0
  | define h => exact absurd h h3
  | insert h => exact absurd h h6
  | lookup h =>
    show NotFull (lookupG (lookF st.names (nmO op))).2
    cases lookF st.names (nmO op) with
    | none => exact nf2
    | some n => exact nf0
  | name h =>
    show NotFull (nameF st.names (tg op.t 0)).2
    unfold nameF; split
    · exact nf0
    · exact nf10
  | index h hR =>
    show NotFull (addIxF st op.rel op.mask)
    unfold addIxF NotFull
    have := col_codes st op.rel op.mask
    split
    · split
      · decide
      · split <;> decide
    · omega
  | hasIx h =>
    show NotFull (hasIxF st op.rel op.mask).2
    unfold hasIxF
    have := col_codes st op.rel op.mask
    split
    · exact nf0
    · unfold NotFull; dsimp only; omega
  | delete h hR =>
    show NotFull (delF st op.rel op.t)
    unfold delF NotFull
    have := row_codes st op.rel op.t
    split
    · split <;> decide
    · omega
  | contains h =>
    show NotFull (containsF st op.rel op.t).2
    rw [contains_code]
    have := row_codes st op.rel op.t
    unfold NotFull; omega
  | probe h r hp =>
    show NotFull (probeCode st op.rel op.mask op.t)
    have := probe_codes st op.rel op.mask op.t
    unfold NotFull; omega
  | compact h hR =>
    show NotFull (relCode st op.rel)
    have := rel_codes st op.rel
    unfold NotFull; omega
  | clear h hR =>
    show NotFull (relCode st op.rel)
    have := rel_codes st op.rel
    unfold NotFull; omega
  | setMark h hR =>
    show NotFull (setF st op.rel op.t op.n)
    unfold setF NotFull
    have := row_codes st op.rel op.t
    split
    · split
      · split <;> decide
      · decide
    · omega
  | mark h =>
    show NotFull (markF st op.rel op.t).2
    unfold markF
    have := row_codes st op.rel op.t
    split
    · split
      · exact nf0
      · exact nf2
    · unfold NotFull; dsimp only; omega
  | len h =>
    show NotFull (lenF st op.rel).2
    unfold lenF
    split
    · exact nf7
    · exact nf0
  | list h r hp =>
    show NotFull (relCode st op.rel)
    have := rel_codes st op.rel
    unfold NotFull; omega
  | bad h => show NotFull 13; unfold NotFull; decide
theorem play_kind0 {st st' : StS} {op : GOp} {A : Answer} {ts : List Tup} (h : PlayR st op st' A ts) (hk : op.kind = 0) : A = ans (internF st.names (nmO op)).2.1 (internF st.names (nmO op)).1 ∧ st' = ⟨(internF st.names (nmO op)).2.2, st.rels⟩ := by
  cases h with
  | intern h1 => exact ⟨rfl, rfl⟩
  | bad h1 => exact absurd hk (h1 0 (by omega))
  | _ => exfalso; omega
theorem play_kind3 {st st' : StS} {op : GOp} {A : Answer} {ts : List Tup} (h : PlayR st op st' A ts) (hk : op.kind = 3) : A = ans (defF st op.n).2.1 (defF st op.n).1 ∧ st' = (defF st op.n).2.2 := by
  cases h with
  | define h1 => exact ⟨rfl, rfl⟩
  | bad h1 => exact absurd hk (h1 3 (by omega))
  | _ => exfalso; omega
theorem full0 {names : List (List UInt8)} {nm : List UInt8} (h : names.length ≤ 256) : ((internF names nm).2.1 = 3 ∧ (lookupF names nm).2 = 2 ∧ nm.length ≤ 64 ∧ names.length = 256) ∨ ((internF names nm).2.1 ≠ 3 ∧ ((lookupF names nm).2 ≠ 2 ∨ 64 < nm.length ∨ names.length ≠ 256)) := by
  unfold internF lookupF
  by_cases h64 : 64 < nm.length
  · rw [if_pos h64]; exact .inr ⟨by show (6 : Int) ≠ 3; decide, .inr (.inl h64)⟩
  · rw [if_neg h64]
    cases lookF names nm with
    | some n => exact .inr ⟨by show (0 : Int) ≠ 3; decide, .inl (by show (0 : Int) ≠ 2; decide)⟩
    | none =>
      unfold internG lookupG
      by_cases hf : 256 ≤ names.length
      · exact .inl ⟨by rw [if_pos hf], rfl, by omega, by omega⟩
      · exact .inr ⟨by rw [if_neg hf]; show (0 : Int) ≠ 3; decide, .inr (.inr (by omega))⟩
theorem full6 {st : StS} {id : Int} {t : Tup} (h : (lenF st id).1 ≤ 512) : (insF st id t = 4 ∧ (containsF st id t).2 = 0 ∧ (containsF st id t).1 = false ∧ (lenF st id).1 = 512) ∨ (insF st id t ≠ 4 ∧ ((containsF st id t).2 ≠ 0 ∨ (containsF st id t).1 = true ∨ (lenF st id).1 ≠ 512)) := by
  rw [contains_code]
  have hc := row_codes st id t
  by_cases h0 : rowCode st id t = 0
  · rw [len_rows h0] at h ⊢
    rw [contains_has h0]
    by_cases hm : t ∈ (rowsS st id).map (·.1)
    · exact .inr ⟨by unfold insF; rw [if_pos h0, if_pos hm]; decide, .inr (.inl (decide_eq_true hm))⟩
    · by_cases hf : 512 ≤ (rowsS st id).length
      · exact .inl ⟨by unfold insF; rw [if_pos h0, if_neg hm, if_pos hf], h0, decide_eq_false hm, by omega⟩
      · exact .inr ⟨by unfold insF; rw [if_pos h0, if_neg hm, if_neg hf]; decide, .inr (.inr (by omega))⟩
  · exact .inr ⟨by unfold insF; rw [if_neg h0]; omega, .inl h0⟩
theorem full3 {st : StS} {a : Int} (h : st.rels.length ≤ 192) : ((defF st a).2.1 = 5 ∧ 0 ≤ a ∧ a ≤ 4 ∧ st.rels.length = 192) ∨ ((defF st a).2.1 ≠ 5 ∧ (a < 0 ∨ 4 < a ∨ st.rels.length ≠ 192)) := by
  unfold defF
  by_cases ha : 0 ≤ a ∧ a ≤ 4
  · rw [if_pos ha]
    by_cases hf : 192 ≤ st.rels.length
    · rw [if_pos hf]; exact .inl ⟨rfl, ha.1, ha.2, by omega⟩
    · rw [if_neg hf]; exact .inr ⟨by show (0 : Int) ≠ 5; decide, .inr (.inr (by omega))⟩
  · rw [if_neg ha]; exact .inr ⟨by show (8 : Int) ≠ 5; decide, by omega⟩
theorem relsS_any (B : Nat) (O : Own) (W : World) (bs : Nat) (st : StS) (hS : StAt B O W bs st) : Calls Try.prog 17 #[.pointer (some ⟨bs, 0, none⟩)] W fun e W' => e = .returned (.int .i64 (st.rels.length : Int)) ∧ W' = W := by
  obtain ⟨ra, rn, rc, h1, h2⟩ := hS.sym
  rw [← h2]
  exact relsN_any B O W bs st.names ra rn rc h1
theorem symsS_any (B : Nat) (O : Own) (W : World) (bs : Nat) (st : StS) (hS : StAt B O W bs st) : Calls Try.prog 16 #[.pointer (some ⟨bs, 0, none⟩)] W fun e W' => e = .returned (.int .i64 (st.names.length : Int)) ∧ W' = W := by
  obtain ⟨ra, rn, rc, h1, h2⟩ := hS.sym
  exact syms_any B O W bs st.names ra rn rc h1
theorem lookS_any (B : Nat) (O : Own) (W : World) (bs : Nat) (st : StS) (hS : StAt B O W bs st) (nm : List UInt8) (hl : nm.length ≤ 1000000) : Calls Try.prog 31 #[.pointer (some ⟨bs, 0, none⟩), .string ⟨nm.toArray⟩] W fun e W' => e = .returned (.tuple #[.int .i64 (lookupF st.names nm).1, .int .i64 (lookupF st.names nm).2]) ∧ W.Extends W' := by
  obtain ⟨ra, rn, rc, h1, h2⟩ := hS.sym
  refine (lookupS_any B O W bs st.names ra rn rc nm h1 hl).mono ?_
  rintro e W1 ⟨rfl, k, rfl⟩
  exact ⟨rfl, extends_drewN (ext_Ext (Ext.refl _)) k⟩
end Go.Proofs.Qxb6500789a
