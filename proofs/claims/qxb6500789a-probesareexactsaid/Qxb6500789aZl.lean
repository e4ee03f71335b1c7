import Derived.Test.Qxb6500789aZk
import Derived.StillTailTactics
import Derived.Deep.QuietTactic
import Derived.BigQuiet
import Derived.Deep.RegionHeld
import Derived.Deep.CutRange
import Derived.Laws.ResultCell
import Derived.Laws.Rows
import Derived.DeepKeys
import Derived.DataBytes
import Derived.Laws.StructEq
import Derived.Laws.AppendOwn
import Derived.Laws.MakeOwn
import Derived.Lib.AppendStr
set_option linter.unusedSimpArgs false
set_option linter.unusedVariables false
namespace Go.Proofs.Qxb6500789a
open Go.RowKit Go.Blk
attribute [local go_sem ↓] execOp_load execOp_store execOp_alloc
attribute [local go_sem] Try.ld29 Try.st29 Try.ld3 Try.st3 Try.ld9 Try.st9 Try.ld30 Try.st30 Try.ld34 Try.st34 Try.ld35 Try.st35 Try.ld36 Try.st36 Try.ld37 Try.st37 Try.ld44 Try.st44 Try.ld45 Try.st45 Try.ld54 Try.st54 Try.ld55 Try.st55 Try.ld74 Try.st74 Try.ld80 Try.st80 Try.ld84 Try.st84 Try.ld106 Try.st106 Try.ld107 Try.st107 Try.ld4 Try.st4 Try.ld121 Try.st121 Try.ld2 Try.st2 Try.ld5 Try.st5 Try.ld12 Try.st12 Try.ld21 Try.st21 Try.ld22 Try.st22 Try.ld24 Try.st24 Try.ld26 Try.st26 Try.ld63 Try.st63 Try.ld71 Try.st71 Try.ld103 Try.st103 Try.ld130 Try.st130 Try.ld133 Try.st133 Try.ld140 Try.st140 Try.ld152 Try.st152 Try.ld39 Try.st39 Try.ld32 Try.st32 Try.ld41 Try.st41 Try.ld47 Try.st47 Try.ld57 Try.st57 Try.ld62 Try.st62 Try.ld76 Try.st76 Try.ld82 Try.st82 Try.ld86 Try.st86 Try.ld109 Try.st109 Try.ld115 Try.st115 Try.ld123 Try.st123 Try.ld135 Try.st135 Try.al39 Try.al32 Try.al41 Try.al47 Try.al57 Try.al62 Try.al76 Try.al82 Try.al86 Try.al109 Try.al115 Try.al123 Try.al135
attribute [local go_sem] Answer.length_enc Answer.ok_enc Answer.all_get Answer.all_set Answer.code_get Answer.code_set Answer.n_get Answer.n_set Answer.name_get Answer.name_set Answer.rows_get Answer.rows_set GOp.length_enc GOp.ok_enc GOp.all_get GOp.all_set GOp.kind_get GOp.kind_set GOp.rel_get GOp.rel_set GOp.mask_get GOp.mask_set GOp.t_get GOp.t_set GOp.n_get GOp.n_set GOp.name_get GOp.name_set Store.length_enc Store.ok_enc Store.all_get Store.all_set Store.names_get Store.names_set Store.rels_get Store.rels_set GRel.length_enc GRel.ok_enc GRel.all_get GRel.all_set GRel.arity_get GRel.arity_set GRel.masks_get GRel.masks_set GRel.rows_get GRel.rows_set Row.length_enc Row.ok_enc Row.all_get Row.all_set Row.t_get Row.t_set Row.mark_get Row.mark_set View.length_enc View.ok_enc View.all_get View.all_set View.names_get View.names_set View.rels_get View.rels_set Symtab.length_enc Symtab.ok_enc Symtab.all_get Symtab.all_set Symtab.names_get Symtab.names_set Symtab.table_get Symtab.table_set StoreTuplestore.length_enc StoreTuplestore.ok_enc StoreTuplestore.all_get StoreTuplestore.all_set StoreTuplestore.syms_get StoreTuplestore.syms_set StoreTuplestore.rels_get StoreTuplestore.rels_set StoreTuplestore.syms_names_get StoreTuplestore.syms_names_set StoreTuplestore.syms_table_get StoreTuplestore.syms_table_set Relation.length_enc Relation.ok_enc Relation.all_get Relation.all_set Relation.arity_get Relation.arity_set Relation.slots_get Relation.slots_set Relation.live_get Relation.live_set Relation.idx_get Relation.idx_set Slot.length_enc Slot.ok_enc Slot.all_get Slot.all_set Slot.t_get Slot.t_set Slot.mark_get Slot.mark_set Slot.live_get Slot.live_set RelView.length_enc RelView.ok_enc RelView.all_get RelView.all_set RelView.arity_get RelView.arity_set RelView.rows_get RelView.rows_set RelView.marks_get RelView.marks_set RelView.indexed_get RelView.indexed_set Index.length_enc Index.ok_enc Index.all_get Index.all_set Index.mask_get Index.mask_set Index.heads_get Index.heads_set Index.next_get Index.next_set
attribute [local go_sem] size_put size_ext blk_put free_put blk_alloc free_alloc blk_drew free_drew blk_ext free_ext lookOr_some putOr_some segAt_some cellAt_some storeIn_some put_put put_alloc_new length_arr ok_arr_u8 ok_arr_u32 ok_arr_u64 ok_arr_i64 ok_arr_sl cellsV_agg cellsV_int cellsV_bool cellsV_string cellsV_pointer cellsV_slice cellsV_sl ok_int ok_bool ok_string ok_pointer ok_slice ok_sl toList_arr seg_arr set_arr nth_splice nth_splice0 seg_splice seg_splice0 splice_splice splice_splice0 length_splice_if
attribute [local go_sem ↓] execOp_box
attribute [local go_sem] box_run nth_arr_u8 put_arr_u8 blk_drewN free_drewN put_drewN blk_raw free_raw
/-- Every row is a row that the relation may hold. -/
def RowsOk (st : StS) : Prop := ∀ (id : Int) (t : Tup), t ∈ (rowsS st id).map (·.1) → rowCode st id t = 0
theorem rowsOk_upd {st st' : StS} {id : Int} {P : RelS → RelS → Prop} (h : RowsOk st) (hu : Upd st id P st') (hP : ∀ s s', relF st id = some s → P s s' → ∀ t, t ∈ (rowsOf s'.L).map (·.1) → t ∈ (rowsOf s.L).map (·.1) ∨ rowCode st id t = 0) : RowsOk st' := by
  intro id' t ht
  have hcode := fun t => upd_code hu t
  obtain ⟨s, s', h1, rfl, h3, h4⟩ := hu
  have hid : 0 ≤ id ∧ id < (st.rels.length : Int) := by
    by_cases hi : 0 ≤ id ∧ id < (st.rels.length : Int)
    · exact hi
    · rw [relF_none hi] at h1; cases h1
  by_cases he : id' = id
  · subst he
    rw [hcode t]
    have e : relF ⟨st.names, st.rels.set id'.toNat s'⟩ id' = some s' := by
      unfold relF
      dsimp only
      rw [List.length_set, if_pos hid, List.getElem?_set, if_pos rfl, if_pos (by omega)]
    unfold rowsS at ht
    rw [e] at ht
    rcases hP s s' h1 h4 t ht with hh | hh
    · refine h id' t ?_
      unfold rowsS
      rw [h1]; exact hh
    · exact hh
  · have e : relF ⟨st.names, st.rels.set id.toNat s'⟩ id' = relF st id' := by
      unfold relF
      dsimp only
      rw [List.length_set]
      by_cases hi : 0 ≤ id' ∧ id' < (st.rels.length : Int)
      · rw [if_pos hi, if_pos hi, List.getElem?_set, if_neg (by omega)]
      · rw [if_neg hi, if_neg hi]
    unfold rowsS at ht
    rw [e] at ht
    have := h id' t (by unfold rowsS; exact ht)
    unfold rowCode at this ⊢
    rw [e]; exact this
theorem rowsOk_act {st st' : StS} {c : Int} {id : Int} {P : RelS → RelS → Prop} (h : RowsOk st) (hu : ActR c st id P st') (hP : c = 0 → ∀ s s', relF st id = some s → P s s' → ∀ t, t ∈ (rowsOf s'.L).map (·.1) → t ∈ (rowsOf s.L).map (·.1) ∨ rowCode st id t = 0) : RowsOk st' := by
  by_cases hc : c = 0
  · exact rowsOk_upd h (hu.2 hc) (hP hc)
  · rw [hu.1 hc]; exact h
theorem knows_mono {n n' : Nat} (h : n ≤ n') {y : Int} (hk : knowsF n y = true) : knowsF n' y = true := by
  unfold knowsF at *
  simp only [Bool.and_eq_true, decide_eq_true_eq] at *
  omega
theorem rowC_mono {n n' ar : Nat} (h : n ≤ n') {t : Tup} (hc : rowC n ar t = 0) : rowC n' ar t = 0 := by
  unfold rowC at *
  by_cases h1 : KnowsAll n ar t
  · rw [if_pos h1] at hc
    have h2 : KnowsAll n' ar t := fun c hcc => knows_mono h (h1 c hcc)
    rw [if_pos h2]; exact hc
  · rw [if_neg h1] at hc; cases hc
theorem intern_grow (names : List (List UInt8)) (nm : List UInt8) : names.length ≤ (internF names nm).2.2.length := by
  unfold internF
  split
  · exact Nat.le_refl _
  · cases lookF names nm with
    | some n => exact Nat.le_refl _
    | none =>
      unfold internG
      dsimp only
      split
      · exact Nat.le_refl _
      · rw [List.length_append]; omega
theorem rowsOk_step {st st' : StS} {op : GOp} {A : Answer} {ts : List Tup} (h : RowsOk st) (hp : PlayR st op st' A ts) : RowsOk st' := by
  cases hp with
  | intern hk =>
    intro id t ht
    have := h id t ht
    unfold rowCode at this ⊢
    have e : relF ⟨(internF st.names (nmO op)).2.2, st.rels⟩ id = relF st id := rfl
    rw [e]
    cases hr : relF st id with
    | none => rw [hr] at this; cases this
    | some s =>
      rw [hr] at this
      exact rowC_mono (intern_grow _ _) this
  | lookup hk => exact h
  | name hk => exact h
  | define hk =>
    unfold defF
    split
    · split
      · exact h
      · intro id t ht
        by_cases hid : 0 ≤ id ∧ id < (st.rels.length : Int)
        · have e : relF ⟨st.names, st.rels ++ [newRel op.n.toNat]⟩ id = relF st id := by
            unfold relF
            dsimp only
            rw [if_pos hid, if_pos (by rw [List.length_append]; omega), List.getElem?_append_left (by omega)]
          unfold rowsS at ht
          rw [e] at ht
          have := h id t (by unfold rowsS; exact ht)
          unfold rowCode at this ⊢
          rw [e]; exact this
        · unfold rowsS relF at ht
          dsimp only at ht
          by_cases hid2 : 0 ≤ id ∧ id < (((st.rels ++ [newRel op.n.toNat]).length : Nat) : Int)
          · rw [if_pos hid2] at ht
            rw [List.length_append] at hid2
            have e : id.toNat = st.rels.length := by
              have := hid2.2
              simp at this
              omega
            rw [e, List.getElem?_append_right (Nat.le_refl _), Nat.sub_self] at ht
            simp [newRel, rowsOf, liveL] at ht
          · rw [if_neg hid2] at ht
            simp at ht
    · exact h
  | index hk hR => exact rowsOk_act h hR (fun _ s s' _ hP t ht => .inl (by rw [hP.2] at ht; exact ht))
  | hasIx hk => exact h
  | insert hk hR =>
    refine rowsOk_act h hR (fun hc s s' _ hP t ht => ?_)
    have hm := ((hP.2.map (·.1)).mem_iff).1 ht
    rw [List.map_cons, List.mem_cons] at hm
    rcases hm with e | hm
    · right
      rw [e]
      unfold insF at hc
      by_cases h0 : rowCode st op.rel op.t = 0
      · exact h0
      · rw [if_neg h0] at hc; exact hc
    · exact .inl hm
  | delete hk hR =>
    refine rowsOk_act h hR (fun hc s s' _ hP t ht => ?_)
    obtain ⟨_, mk, hp⟩ := hP
    exact .inl (((hp.map (·.1)).mem_iff).2 (by rw [List.map_cons]; exact List.mem_cons_of_mem _ ht))
  | contains hk => exact h
  | probe hk r hp => exact h
  | compact hk hR => exact rowsOk_act h hR (fun _ s s' _ hP t ht => .inl (by rw [hP.2] at ht; exact ht))
  | clear hk hR => exact rowsOk_act h hR (fun _ s s' _ hP t ht => by rw [hP.2] at ht; cases ht)
  | setMark hk hR =>
    refine rowsOk_act h hR (fun _ s s' _ hP t ht => .inl ?_)
    rw [hP.2, List.map_map] at ht
    obtain ⟨r, hr, e⟩ := List.mem_map.1 ht
    refine List.mem_map.2 ⟨r, hr, ?_⟩
    rw [← e]
    show r.1 = (if r.1 = op.t then (op.t, op.n) else r).1
    split
    · assumption
    · rfl
  | mark hk => exact h
  | len hk => exact h
  | list hk r hp => exact h
  | bad hk => exact h
theorem RowsOk.nil : RowsOk ⟨[], []⟩ := fun id t ht => by
  have e : relF ⟨[], []⟩ id = none := relF_none (fun h => by have := h.2; simp at this; omega)
  unfold rowsS at ht
  rw [e] at ht
  simp at ht
/-- Both, the store and the model, in one memory. -/
structure JM (W0 : World) (B bs bm : Nat) (O : Own) (W : World) (st sm : StS) : Prop where
  s : StAt B O W bs st
  m : MAt B O W bm sm
  x : W0.Extends W
  no : ∀ k, k < W0.heap.size → O k = .no
def L4 (W0 : World) (B bs bm : Nat) (W : World) : Prop := ∃ O st sm, JM W0 B bs bm O W st sm ∧ Eqv st sm ∧ RowsOk st
theorem JM.ext {W0 : World} {B bs bm : Nat} {O : Own} {W W' : World} {st sm : StS} (h : JM W0 B bs bm O W st sm) (he : W.Extends W') : JM W0 B bs bm O W' st sm := ⟨h.s.ext he, h.m.ext he, h.x.trans he, h.no⟩
theorem JM.new {W0 : World} {B bs bm : Nat} {O : Own} {W W' : World} {st sm : StS} (h : JM W0 B bs bm O W st sm) (he : W.Extends W') : JM W0 B bs bm (lab O W.heap.size .no) W' st sm :=
  ⟨(h.s.relab (fun k hk => lab_lt hk)).ext he, (h.m.relab (fun k hk => lab_lt hk)).ext he, h.x.trans he, fun k hk => by rw [lab_lt (Nat.lt_of_lt_of_le hk h.x.size)]; exact h.no k hk⟩
def KeepNo (O : Own) (V : World) (O' : Own) (V' : World) : Prop := ∀ k, k < V.heap.size → O k = .no → V'.heap[k]? = V.heap[k]? ∧ O' k = .no
theorem KeepNo.blk {O O' : Own} {V V' : World} (h : KeepNo O V O' V') {k : Nat} {C : List Value} (hb : blk V k = some C) (ho : O k = .no) : Blk.blk V' k = some C := (blk_of_heap (h k (blk_lt hb) ho).1).trans hb
theorem KeepNo.row {O O' : Own} {V V' : World} (h : KeepNo O V O' V') {B : Nat} {e : TypeId} {sz : Nat} {v : Value} {n : Nat} {xs : List Value} (hr : RowL B O .no V e sz v n xs) : RowL B O' .no V' e sz v n xs := hr.keep (fun k hk ho => ⟨(h k hk ho).1, ((h k hk ho).2).trans ho.symm⟩)
theorem not_isM_no : ¬ isM .no := by rintro ⟨n, e⟩; cases e
theorem j_play {W0 : World} {B bs bm : Nat} {O : Own} {V : World} {st sm : StS} (h : JM W0 B bs bm O V st sm) (op : GOp) (hm : op.mask ≤ 9223372036854775807) (hl : (nmO op).length ≤ 1000000) : Calls Try.prog 14 #[.pointer (some ⟨bs, 0, none⟩), .agg (GOp.enc op).toArray] V fun e V' => ∃ A : Answer, e = .returned (.agg A.enc.toArray) ∧ ∃ O' st' ts, JM W0 B bs bm O' V' st' sm ∧ RowL V.heap.size O' .no V' 39 4 (Sl.val A.rows) ts.length (ts.flatMap tpl) ∧ PlayR st op st' A ts ∧ KeepNo O V O' V' ∧ V.heap.size ≤ V'.heap.size := by
  refine (play_any B O V bs st h.s op hm hl).mono ?_
  rintro e V' ⟨A, rfl, O', st', ts, hF, hS, hr, hP⟩
  exact ⟨A, rfl, O', st', ts, ⟨hS, h.m.frS hF, hF.extends h.x h.no, fun k hk => hF.no (Nat.lt_of_lt_of_le hk h.x.size) (h.no k hk)⟩, hr, hP, fun k hk ho => ⟨(hF.keep k hk (by rw [ho]; exact not_no)).2, hF.no hk ho⟩, hF.size⟩
theorem j_step {W0 : World} {B bs bm : Nat} {O : Own} {V : World} {st sm : StS} (h : JM W0 B bs bm O V st sm) (hsm : MSm sm) (op : GOp) (hl : (nmO op).length ≤ 1000000) : Calls Try.prog 15 #[.pointer (some ⟨bm, 0, none⟩), .agg (GOp.enc op).toArray] V fun e V' => ∃ A : Answer, e = .returned (.agg A.enc.toArray) ∧ ∃ O' sm' ts, JM W0 B bs bm O' V' st sm' ∧ RowL V.heap.size O' .no V' 39 4 (Sl.val A.rows) ts.length (ts.flatMap tpl) ∧ PlayR sm op sm' A ts ∧ KeepNo O V O' V' ∧ V.heap.size ≤ V'.heap.size := by
  refine (mstep_any B O V bm sm h.m hsm op hl).mono ?_
  rintro e V' ⟨A, rfl, O', sm', ts, hF, hM, hr, hP⟩
  exact ⟨A, rfl, O', sm', ts, ⟨h.s.frM hF, hM, hF.extends h.x (fun k hk => by rw [h.no k hk]; exact not_isM_no), fun k hk => (hF.keep k (Nat.lt_of_lt_of_le hk h.x.size)).trans (h.no k hk)⟩, hr, hP, fun k hk ho => ⟨hF.block k hk (by rw [ho]; exact not_isM_no), (hF.keep k hk).trans ho⟩, hF.size⟩
theorem j_new {W0 : World} {B : Nat} (hB : B = W0.heap.size) {bs : Nat} {O : Own} {W : World} {st : StS} (hS : StAt B O W bs st) (hx : W0.Extends W) (hno : ∀ k, k < W0.heap.size → O k = .no) : Calls Try.prog 12 #[] W fun e W' => ∃ bm, e = .returned (.pointer (some ⟨bm, 0, none⟩)) ∧ ∃ O', JM W0 B bs bm O' W' st ⟨[], []⟩ := by
  refine (mnew_any B O W (by rw [hB]; exact hx.size)).mono ?_
  rintro e W' ⟨bm, O', rfl, hx', hk, _, hM⟩
  exact ⟨bm, rfl, O', (hS.relab hk).ext hx', hM, hx.trans hx', fun k hk' => (hk k (Nat.lt_of_lt_of_le hk' hx.size)).trans (hno k hk')⟩
theorem rows_rw {B : Nat} {O : Own} {l : Lab} {V : World} {s : Sl} {ts : List Tup} (h : RowL B O l V 39 4 (Sl.val s) ts.length (ts.flatMap tpl)) : Rw tpl 4 V s.a s.len ts := (rw_own tpl_len h.1).1
/-- How many rows an answer holds. -/
theorem play_small {B : Nat} {O : Own} {W : World} {bs : Nat} {st st' : StS} {op : GOp} {A : Answer} {ts : List Tup} (hS : StAt B O W bs st) (h : PlayR st op st' A ts) : ts.length ≤ 10000 := by
  have hc : ∀ id, (rowsS st id).length ≤ 512 := fun id => by
    have := (hS.caps id).2.2.2
    unfold lenF at this
    unfold rowsS
    cases hr : relF st id with
    | none => exact Nat.zero_le _
    | some s => rw [hr] at this; dsimp only at this ⊢; omega
  cases h with
  | probe hk r hp =>
    rw [hp.length_eq]
    unfold probeR
    split
    · refine Nat.le_trans (List.length_filter_le _ _) ?_
      rw [List.length_map]; have := hc op.rel; omega
    · exact Nat.zero_le _
  | list hk r hp => rw [hp, List.length_map]; have := hc op.rel; omega
  | _ => exact Nat.zero_le _
theorem wp_cutR {P : Program} {c : Code} {Qx : Exit → Act → World → Prop} {a : Act} {w : World} (R : Act → Act → World → Prop) (h1 : Code.wp P c (fun x a' w' => x = .normal ∧ R a a' w') a w) (h2 : ∀ a' w', R a a' w' → Qx .normal a' w') : Code.wp P c Qx a w :=
  Code.wp_mono (fun x a' w' h => by obtain ⟨rfl, h⟩ := h; exact h2 a' w' h) h1
end Go.Proofs.Qxb6500789a
