import Derived.Test.Qxb6500789aYp
import Derived.StillTailTactics
import Derived.Deep.QuietTactic
import Derived.BigQuiet
import Derived.Deep.RegionHeld
import Derived.Deep.CutRange
import Derived.Laws.ResultCell
import Derived.Laws.Rows
import Derived.DeepKeys
import Derived.DataBytes
import Derived.Laws.StructEq
import Derived.Laws.AppendOwn
import Derived.Laws.MakeOwn
import Derived.Lib.AppendStr
set_option linter.unusedSimpArgs false
set_option linter.unusedVariables false
namespace Go.Proofs.Qxb6500789a
open Go.RowKit Go.Blk
attribute [local go_sem ↓] execOp_load execOp_store execOp_alloc
attribute [local go_sem] Try.ld29 Try.st29 Try.ld3 Try.st3 Try.ld9 Try.st9 Try.ld30 Try.st30 Try.ld34 Try.st34 Try.ld35 Try.st35 Try.ld36 Try.st36 Try.ld37 Try.st37 Try.ld44 Try.st44 Try.ld45 Try.st45 Try.ld54 Try.st54 Try.ld55 Try.st55 Try.ld74 Try.st74 Try.ld80 Try.st80 Try.ld84 Try.st84 Try.ld106 Try.st106 Try.ld107 Try.st107 Try.ld4 Try.st4 Try.ld121 Try.st121 Try.ld2 Try.st2 Try.ld5 Try.st5 Try.ld12 Try.st12 Try.ld21 Try.st21 Try.ld22 Try.st22 Try.ld24 Try.st24 Try.ld26 Try.st26 Try.ld63 Try.st63 Try.ld71 Try.st71 Try.ld103 Try.st103 Try.ld130 Try.st130 Try.ld133 Try.st133 Try.ld140 Try.st140 Try.ld152 Try.st152 Try.ld39 Try.st39 Try.ld32 Try.st32 Try.ld41 Try.st41 Try.ld47 Try.st47 Try.ld57 Try.st57 Try.ld62 Try.st62 Try.ld76 Try.st76 Try.ld82 Try.st82 Try.ld86 Try.st86 Try.ld109 Try.st109 Try.ld115 Try.st115 Try.ld123 Try.st123 Try.ld135 Try.st135 Try.al39 Try.al32 Try.al41 Try.al47 Try.al57 Try.al62 Try.al76 Try.al82 Try.al86 Try.al109 Try.al115 Try.al123 Try.al135
attribute [local go_sem] Answer.length_enc Answer.ok_enc Answer.all_get Answer.all_set Answer.code_get Answer.code_set Answer.n_get Answer.n_set Answer.name_get Answer.name_set Answer.rows_get Answer.rows_set GOp.length_enc GOp.ok_enc GOp.all_get GOp.all_set GOp.kind_get GOp.kind_set GOp.rel_get GOp.rel_set GOp.mask_get GOp.mask_set GOp.t_get GOp.t_set GOp.n_get GOp.n_set GOp.name_get GOp.name_set Store.length_enc Store.ok_enc Store.all_get Store.all_set Store.names_get Store.names_set Store.rels_get Store.rels_set GRel.length_enc GRel.ok_enc GRel.all_get GRel.all_set GRel.arity_get GRel.arity_set GRel.masks_get GRel.masks_set GRel.rows_get GRel.rows_set Row.length_enc Row.ok_enc Row.all_get Row.all_set Row.t_get Row.t_set Row.mark_get Row.mark_set View.length_enc View.ok_enc View.all_get View.all_set View.names_get View.names_set View.rels_get View.rels_set Symtab.length_enc Symtab.ok_enc Symtab.all_get Symtab.all_set Symtab.names_get Symtab.names_set Symtab.table_get Symtab.table_set StoreTuplestore.length_enc StoreTuplestore.ok_enc StoreTuplestore.all_get StoreTuplestore.all_set StoreTuplestore.syms_get StoreTuplestore.syms_set StoreTuplestore.rels_get StoreTuplestore.rels_set StoreTuplestore.syms_names_get StoreTuplestore.syms_names_set StoreTuplestore.syms_table_get StoreTuplestore.syms_table_set Relation.length_enc Relation.ok_enc Relation.all_get Relation.all_set Relation.arity_get Relation.arity_set Relation.slots_get Relation.slots_set Relation.live_get Relation.live_set Relation.idx_get Relation.idx_set Slot.length_enc Slot.ok_enc Slot.all_get Slot.all_set Slot.t_get Slot.t_set Slot.mark_get Slot.mark_set Slot.live_get Slot.live_set RelView.length_enc RelView.ok_enc RelView.all_get RelView.all_set RelView.arity_get RelView.arity_set RelView.rows_get RelView.rows_set RelView.marks_get RelView.marks_set RelView.indexed_get RelView.indexed_set Index.length_enc Index.ok_enc Index.all_get Index.all_set Index.mask_get Index.mask_set Index.heads_get Index.heads_set Index.next_get Index.next_set
attribute [local go_sem] size_put size_ext blk_put free_put blk_alloc free_alloc blk_drew free_drew blk_ext free_ext lookOr_some putOr_some segAt_some cellAt_some storeIn_some put_put put_alloc_new length_arr ok_arr_u8 ok_arr_u32 ok_arr_u64 ok_arr_i64 ok_arr_sl cellsV_agg cellsV_int cellsV_bool cellsV_string cellsV_pointer cellsV_slice cellsV_sl ok_int ok_bool ok_string ok_pointer ok_slice ok_sl toList_arr seg_arr set_arr nth_splice nth_splice0 seg_splice seg_splice0 splice_splice splice_splice0 length_splice_if
attribute [local go_sem ↓] execOp_box
attribute [local go_sem] box_run nth_arr_u8 put_arr_u8 blk_drewN free_drewN put_drewN blk_raw free_raw
attribute [local go_sem ↓] execOp_eql39 execOp_neq39
attribute [local go_sem] eql39 neq39
/-- What the store's calls tell of one relation. -/
structure RvS where
  ar : Int
  rows : List Tup
  marks : List Int
  ixs : List Bool
def rvOf (st : StS) (id : Nat) : RvS := ⟨(arityF st (id : Int)).1, (rowsS st (id : Int)).map (·.1), ((rowsS st (id : Int)).map (·.1)).map (fun t => (markF st (id : Int) t).1), (List.range (2 ^ (arityF st (id : Int)).1.toNat)).map (fun m : Nat => (hasIxF st (id : Int) (m : Int)).1)⟩
def readsF (k : Int) : Bool := k == 1 || k == 2 || k == 5 || k == 8 || k == 9 || k == 13 || k == 14 || k == 15 || k == 10
theorem rv_congr {st st' : StS} {id : Nat} (h1 : arityF st' (id : Int) = arityF st (id : Int)) (h2 : rowsS st' (id : Int) = rowsS st (id : Int)) (h3 : ∀ t, rowCode st' (id : Int) t = rowCode st (id : Int) t) (h4 : ∀ m, colCode st' (id : Int) m = colCode st (id : Int) m) (h5 : masksS st' (id : Int) = masksS st (id : Int)) : rvOf st' id = rvOf st id := by
  unfold rvOf
  have e1 : ∀ t, markF st' (id : Int) t = markF st (id : Int) t := fun t => by unfold markF; rw [h2, h3]
  have e2 : ∀ m, hasIxF st' (id : Int) m = hasIxF st (id : Int) m := fun m => by unfold hasIxF; rw [h4, h5]
  simp only [e1, e2, h1, h2]
/-- What a compaction leaves as it was. -/
theorem rv_comp {st st' : StS} {rid : Int} (h : Upd st rid compP st') (id : Nat) : rvOf st' id = rvOf st id := by
  obtain ⟨s, s', h1, rfl, h3, h4, h5⟩ := h
  have hrel : relF ⟨st.names, st.rels.set rid.toNat s'⟩ (id : Int) = relF st (id : Int) ∨ (relF st (id : Int) = some s ∧ relF ⟨st.names, st.rels.set rid.toNat s'⟩ (id : Int) = some s') := by
    unfold relF at h1 ⊢
    dsimp only
    rw [List.length_set]
    by_cases hi : (0 ≤ (id : Int) ∧ (id : Int) < (st.rels.length : Int))
    · rw [if_pos hi, if_pos hi, Int.toNat_natCast, List.getElem?_set]
      by_cases he : rid.toNat = id
      · right
        by_cases hr : 0 ≤ rid ∧ rid < (st.rels.length : Int)
        · rw [if_pos hr, he] at h1
          exact ⟨h1, by rw [if_pos he, if_pos (by omega)]⟩
        · rw [if_neg hr] at h1; cases h1
      · left; rw [if_neg he]
    · left; rw [if_neg hi, if_neg hi]
  rcases hrel with e | ⟨e1, e2⟩
  · refine rv_congr ?_ ?_ ?_ ?_ ?_
    · unfold arityF; rw [e]
    · unfold rowsS; rw [e]
    · intro t; unfold rowCode; rw [e]
    · intro m; unfold colCode; rw [e]
    · unfold masksS; rw [e]
  · refine rv_congr ?_ ?_ ?_ ?_ ?_
    · unfold arityF; rw [e1, e2]; dsimp only; rw [h3]
    · unfold rowsS; rw [e1, e2]; exact h5
    · intro t; unfold rowCode; rw [e1, e2]; dsimp only; rw [h3]
    · intro m; unfold colCode; rw [e1, e2]; dsimp only; rw [h3]
    · unfold masksS; rw [e1, e2]; exact h4
def SameV (st st' : StS) : Prop := st'.names = st.names ∧ st'.rels.length = st.rels.length ∧ ∀ id, rvOf st' id = rvOf st id
theorem SameV.rfl' (st : StS) : SameV st st := ⟨rfl, rfl, fun _ => rfl⟩
theorem act_same {c : Int} {st st' : StS} {id : Int} {P : RelS → RelS → Prop} (h : ActR c st id P st') (hc : c ≠ 0) : SameV st st' := by
  rw [h.1 hc]; exact SameV.rfl' st
theorem play_view {st st' : StS} {op : GOp} {A : Answer} {ts : List Tup} (h : PlayR st op st' A ts) (hc : A.code ≠ 0 ∨ readsF op.kind = true) : SameV st st' := by
  have hk : ∀ k : Int, op.kind = k → readsF k = false → A.code ≠ 0 := fun k e hr => by
    rcases hc with hc | hc
    · exact hc
    · rw [e, hr] at hc; cases hc
  cases h with
  | intern h =>
    have := hk 0 h rfl
    refine ⟨intern_same this, rfl, fun id => ?_⟩
    have e := intern_same this
    show rvOf ⟨(internF st.names (nmO op)).2.2, st.rels⟩ id = _
    rw [e]
  | lookup h => exact SameV.rfl' st
  | name h => exact SameV.rfl' st
  | define h =>
    have := hk 3 h rfl
    have e : (defF st op.n).2.2 = st := by
      have h1 : (defF st op.n).2.1 ≠ 0 := this
      unfold defF at h1 ⊢
      by_cases h2 : 0 ≤ op.n ∧ op.n ≤ 4
      · rw [if_pos h2] at h1 ⊢
        by_cases h3 : 192 ≤ st.rels.length
        · rw [if_pos h3]
        · rw [if_neg h3] at h1; exact (h1 rfl).elim
      · rw [if_neg h2]
    rw [e]; exact SameV.rfl' st
  | index h hR => exact act_same hR (hk 4 h rfl)
  | hasIx h => exact SameV.rfl' st
  | insert h hR => exact act_same hR (hk 6 h rfl)
  | delete h hR => exact act_same hR (hk 7 h rfl)
  | contains h => exact SameV.rfl' st
  | probe h r hp => exact SameV.rfl' st
  | compact h hR =>
    by_cases hz : relCode st op.rel = 0
    · have hu := hR.2 hz
      refine ⟨?_, ?_, fun id => rv_comp hu id⟩
      · obtain ⟨s, s', _, rfl, _⟩ := hu; rfl
      · obtain ⟨s, s', _, rfl, _⟩ := hu; exact List.length_set
    · exact act_same hR hz
  | clear h hR => exact act_same hR (hk 11 h rfl)
  | setMark h hR => exact act_same hR (hk 12 h rfl)
  | mark h => exact SameV.rfl' st
  | len h => exact SameV.rfl' st
  | list h r hp => exact SameV.rfl' st
  | bad h => exact SameV.rfl' st
/-- reads 33. -/
theorem reads_any (W : World) (k : Int) : Calls Try.prog 33 #[.int .i64 k] W fun e W' => e = .returned (.bool (readsF k)) ∧ W' = W := by
  obtain ⟨Q, hQ⟩ : ∃ Q : Ending → World → Prop, Q = fun e W' => e = .returned (.bool (readsF k)) ∧ W' = W := ⟨_, rfl⟩
  rw [← hQ]
  have HQ : Hid (Q = fun e W' => e = .returned (.bool (readsF k)) ∧ W' = W) := hQ
  clear hQ
  by_cases h1 : k = 1
  · subst h1
    go_enter Try.func33, Try.ntmps33
    go_wp2_with fail
    try go_ret
    rw [HQ.out]
    exact ⟨rfl, rfl⟩
  have h1b : (k == 1) = false := by simp [h1]
  by_cases h2 : k = 2
  · subst h2
    go_enter Try.func33, Try.ntmps33
    go_wp2_with fail
    try go_ret
    rw [HQ.out]
    exact ⟨rfl, rfl⟩
  have h2b : (k == 2) = false := by simp [h2]
  by_cases h5 : k = 5
  · subst h5
    go_enter Try.func33, Try.ntmps33
    go_wp2_with fail
    try go_ret
    rw [HQ.out]
    exact ⟨rfl, rfl⟩
  have h5b : (k == 5) = false := by simp [h5]
  by_cases h8 : k = 8
  · subst h8
    go_enter Try.func33, Try.ntmps33
    go_wp2_with fail
    try go_ret
    rw [HQ.out]
    exact ⟨rfl, rfl⟩
  have h8b : (k == 8) = false := by simp [h8]
  by_cases h9 : k = 9
  · subst h9
    go_enter Try.func33, Try.ntmps33
    go_wp2_with fail
    try go_ret
    rw [HQ.out]
    exact ⟨rfl, rfl⟩
  have h9b : (k == 9) = false := by simp [h9]
  by_cases h13 : k = 13
  · subst h13
    go_enter Try.func33, Try.ntmps33
    go_wp2_with fail
    try go_ret
    rw [HQ.out]
    exact ⟨rfl, rfl⟩
  have h13b : (k == 13) = false := by simp [h13]
  by_cases h14 : k = 14
  · subst h14
    go_enter Try.func33, Try.ntmps33
    go_wp2_with fail
    try go_ret
    rw [HQ.out]
    exact ⟨rfl, rfl⟩
  have h14b : (k == 14) = false := by simp [h14]
  by_cases h15 : k = 15
  · subst h15
    go_enter Try.func33, Try.ntmps33
    go_wp2_with fail
    try go_ret
    rw [HQ.out]
    exact ⟨rfl, rfl⟩
  have h15b : (k == 15) = false := by simp [h15]
  by_cases h10 : k = 10
  · subst h10
    go_enter Try.func33, Try.ntmps33
    go_wp2_with fail
    try go_ret
    rw [HQ.out]
    exact ⟨rfl, rfl⟩
  have h10b : (k == 10) = false := by simp [h10]
  go_enter Try.func33, Try.ntmps33
  go_wp2_with fail
  try go_ret
  rw [HQ.out]
  refine ⟨?_, rfl⟩
  unfold readsF
  rw [h1b, h2b, h5b, h8b, h9b, h13b, h14b, h15b, h10b]
  rfl
def slI (W0 : World) (a : Option Addr) (n c : Nat) (a' : Option Addr) (c' : Nat) (f : Nat → Value) (W : World) : Prop := f 0 = .slice a n c ∧ f 1 = .slice a' n c' ∧ Hid (∃ k, W = W0.drewN k) ∧ ∃ i : Nat, i ≤ n ∧ f 5 = .int .i64 (i : Nat)
set_option maxRecDepth 100000 in
theorem frame26 (f : Nat → Value) : frameN 26 f = #[f 0, f 1, f 2, f 3, f 4, f 5, f 6, f 7, f 8, f 9, f 10, f 11, f 12, f 13, f 14, f 15, f 16, f 17, f 18, f 19, f 20, f 21, f 22, f 23, f 24, f 25] := by kernel_rfl
theorem tup_at {W : World} {a : Option Addr} {n : Nat} {ts : List Tup} (h : Rw tpl 4 W a n ts) {i : Nat} {t : Tup} (ht : ts[i]? = some t) : ∃ b C, a = some ⟨b, 0, none⟩ ∧ blk W b = some C ∧ i * 4 + 4 ≤ C.length ∧ i < n ∧ seg C (i * 4) 4 = arr i64v t := by
  obtain ⟨b, C, h1, h2, h3, h4⟩ := h.2 i t ht
  have hi : i < n := by rw [← h.1]; exact (List.getElem?_eq_some_iff.1 ht).1
  have : (i + 1) * 4 ≤ n * 4 := Nat.mul_le_mul_right _ hi
  exact ⟨b, C, h1, h2, by omega, hi, h4⟩
set_option maxRecDepth 20000 in
/-- sameList 60, on equal rows. -/
theorem sameList_eq (W : World) (a : Option Addr) (n c : Nat) (a' : Option Addr) (n' c' : Nat) (ts : List Tup) (h : Rw tpl 4 W a n ts) (h' : Rw tpl 4 W a' n' ts) (hn : n ≤ 1000000) : Calls Try.prog 60 #[.slice a n c, .slice a' n' c'] W fun e W' => e = .returned (.bool true) ∧ ∃ k, W' = W.drewN k := by
  obtain rfl : n' = n := by rw [← h.1, ← h'.1]
  have H1 := hid_of h
  have H2 := hid_of h'
  clear h h'
  go_enter Try.func60, Try.ntmps60
  go_wp2_with fail
  have HK0 : Hid (∃ k, W = W.drewN k) := ⟨0, rfl⟩
  refine wp_loop_f 26 (slI W a n' c a' c') (fun f _ => n' - (intOf (f 5)).toNat) rfl ⟨rfl, rfl, HK0, 0, by omega, rfl⟩ ?_
  clear HK0
  intro F V hrel
  obtain ⟨f0, f1, HK, i, hi, f5⟩ := hrel
  have H5 : Hid (F 5 = .int .i64 (i : Nat)) := f5
  rw [frame26, f0, f1, f5]
  clear f0 f1 f5
  by_cases hin : i < n'
  · obtain ⟨k0, hV⟩ := HK.out
    obtain ⟨t, ht⟩ : ∃ t, ts[i]? = some t := ⟨_, List.getElem?_eq_getElem (by rw [H1.out.1]; exact hin)⟩
    obtain ⟨b, C, rfl, hC, hl, _, hs⟩ := tup_at (H1.out.drewN k0) ht
    obtain ⟨b', C', rfl, hC', hl', _, hs'⟩ := tup_at (H2.out.drewN k0) ht
    rw [← hV] at hC hC'
    have HK' : Hid (∃ k, V.drew = W.drewN k) := ⟨k0 + 1, by rw [hV]; rfl⟩
    have hin' : (i : Int) < (n' : Int) := by omega
    have q0 : (0 : Int) ≤ (i : Int) := by omega
    have q2 : ((i : Int)).toNat = i := by omega
    have htt : decide (t = t) = true := by simp
    clear hV ht HK
    go_upto_region 6 with fail
    refine wp_region_held_drew (S := fun W' => blk W' b = some C ∧ blk W' b' = some C') (by kernel_rfl) ⟨hC, hC'⟩ (fun hHeld => ?_)
    refine wpAnyH_take (i := 0) (oi := ⟨_, _, _, _, _, _⟩) (v := ?_) rfl (by kernel_rfl) (by kernel_rfl) (by kernel_rfl) (fun _ _ _ h => h) (Or.inl ⟨by rfl, ?_⟩) (by assumption) ?_
    rotate_left 1
    · intro W' hSw
      obtain ⟨hS1, hS2⟩ := hSw
      go_simp
      try with_reducible rfl
    try simp only [Act.put, List.setIfInBounds_toArray, List.set_cons_zero, List.set_cons_succ]
    refine wpAnyH_take (i := 1) (oi := ⟨_, _, _, _, _, _⟩) (v := ?_) rfl (by kernel_rfl) (by kernel_rfl) (by kernel_rfl) (fun _ _ _ h => h) (Or.inl ⟨by rfl, ?_⟩) (by assumption) ?_
    rotate_left 1
    · intro W' hSw
      obtain ⟨hS1, hS2⟩ := hSw
      go_simp
      try with_reducible rfl
    try simp only [Act.put, List.setIfInBounds_toArray, List.set_cons_zero, List.set_cons_succ]
    refine wpAnyH_take (i := 2) (oi := ⟨_, _, _, _, _, _⟩) (v := ?_) rfl (by kernel_rfl) (by kernel_rfl) (by kernel_rfl) (fun _ _ _ h => h) (Or.inl ⟨by rfl, ?_⟩) (by assumption) ?_
    rotate_left 1
    · intro W' hSw
      obtain ⟨hS1, hS2⟩ := hSw
      go_simp
      try with_reducible rfl
    try simp only [Act.put, List.setIfInBounds_toArray, List.set_cons_zero, List.set_cons_succ]
    refine wpAnyH_take (i := 3) (oi := ⟨_, _, _, _, _, _⟩) (v := ?_) rfl (by kernel_rfl) (by kernel_rfl) (by kernel_rfl) (fun _ _ _ h => h) (Or.inl ⟨by rfl, ?_⟩) (by assumption) ?_
    rotate_left 1
    · intro W' hSw
      obtain ⟨hS1, hS2⟩ := hSw
      go_simp
      try with_reducible rfl
    try simp only [Act.put, List.setIfInBounds_toArray, List.set_cons_zero, List.set_cons_succ]
    refine wpAnyH_take (i := 4) (oi := ⟨_, _, _, _, _, _⟩) (v := ?_) rfl (by kernel_rfl) (by kernel_rfl) (by kernel_rfl) (fun _ _ _ h => h) (Or.inl ⟨by rfl, ?_⟩) (by assumption) ?_
    rotate_left 1
    · intro W' hSw
      obtain ⟨hS1, hS2⟩ := hSw
      go_simp
      try with_reducible rfl
    try simp only [Act.put, List.setIfInBounds_toArray, List.set_cons_zero, List.set_cons_succ]
    refine wpAnyH_take (i := 5) (oi := ⟨_, _, _, _, _, _⟩) (v := ?_) rfl (by kernel_rfl) (by kernel_rfl) (by kernel_rfl) (fun _ _ _ h => h) (Or.inl ⟨by rfl, ?_⟩) (by assumption) ?_
    rotate_left 1
    · intro W' hSw
      obtain ⟨hS1, hS2⟩ := hSw
      go_simp
      try with_reducible rfl
    try simp only [Act.put, List.setIfInBounds_toArray, List.set_cons_zero, List.set_cons_succ]
    refine wpAnyH_take (i := 6) (oi := ⟨_, _, _, _, _, _⟩) (v := ?_) rfl (by kernel_rfl) (by kernel_rfl) (by kernel_rfl) (fun _ _ _ h => h) (Or.inl ⟨by rfl, ?_⟩) (by assumption) ?_
    rotate_left 1
    · intro W' hSw
      obtain ⟨hS1, hS2⟩ := hSw
      go_simp
      try with_reducible rfl
    try simp only [Act.put, List.setIfInBounds_toArray, List.set_cons_zero, List.set_cons_succ]
    refine wpAnyH_take (i := 7) (oi := ⟨_, _, _, _, _, _⟩) (v := ?_) rfl (by kernel_rfl) (by kernel_rfl) (by kernel_rfl) (fun _ _ _ h => h) (Or.inl ⟨by rfl, ?_⟩) (by assumption) ?_
    rotate_left 1
    · intro W' hSw
      obtain ⟨hS1, hS2⟩ := hSw
      go_simp
      try with_reducible rfl
    try simp only [Act.put, List.setIfInBounds_toArray, List.set_cons_zero, List.set_cons_succ]
    refine wpAnyH_take (i := 8) (oi := ⟨_, _, _, _, _, _⟩) (v := ?_) rfl (by kernel_rfl) (by kernel_rfl) (by kernel_rfl) (fun _ _ _ h => h) (Or.inl ⟨by rfl, ?_⟩) (by assumption) ?_
    rotate_left 1
    · intro W' hSw
      obtain ⟨hS1, hS2⟩ := hSw
      go_simp
      try with_reducible rfl
    try simp only [Act.put, List.setIfInBounds_toArray, List.set_cons_zero, List.set_cons_succ]
    refine wpAnyH_done (by kernel_rfl) ?_ _
    go_wp2_with fail
    refine ⟨rfl, rfl, ⟨rfl, rfl, HK', i + 1, by omega, ?_⟩, ?_⟩
    · show Value.int .i64 _ = _
      go_num
    · show n' - (intOf (Value.int .i64 _)).toNat < n' - (intOf (F 5)).toNat
      rw [H5.out]
      simp [intOf]; omega
  · have hin' : ¬ (i : Int) < (n' : Int) := by omega
    go_wp2_with fail
    go_ret
    exact ⟨rfl, HK.out⟩
end Go.Proofs.Qxb6500789a
