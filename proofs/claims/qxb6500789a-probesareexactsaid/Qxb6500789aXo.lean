import Derived.Test.Qxb6500789aXn
import Derived.StillTailTactics
import Derived.Deep.QuietTactic
import Derived.BigQuiet
import Derived.Deep.RegionHeld
import Derived.Deep.CutRange
import Derived.Laws.ResultCell
import Derived.Laws.Rows
import Derived.DeepKeys
import Derived.DataBytes
import Derived.Laws.StructEq
import Derived.Laws.AppendOwn
import Derived.Laws.MakeOwn
import Derived.Lib.AppendStr
set_option linter.unusedSimpArgs false
set_option linter.unusedVariables false
namespace Go.Proofs.Qxb6500789a
open Go.RowKit Go.Blk
attribute [local go_sem ↓] execOp_load execOp_store execOp_alloc
attribute [local go_sem] Try.ld29 Try.st29 Try.ld3 Try.st3 Try.ld9 Try.st9 Try.ld30 Try.st30 Try.ld34 Try.st34 Try.ld35 Try.st35 Try.ld36 Try.st36 Try.ld37 Try.st37 Try.ld44 Try.st44 Try.ld45 Try.st45 Try.ld54 Try.st54 Try.ld55 Try.st55 Try.ld74 Try.st74 Try.ld80 Try.st80 Try.ld84 Try.st84 Try.ld106 Try.st106 Try.ld107 Try.st107 Try.ld4 Try.st4 Try.ld121 Try.st121 Try.ld2 Try.st2 Try.ld5 Try.st5 Try.ld12 Try.st12 Try.ld21 Try.st21 Try.ld22 Try.st22 Try.ld24 Try.st24 Try.ld26 Try.st26 Try.ld63 Try.st63 Try.ld71 Try.st71 Try.ld103 Try.st103 Try.ld130 Try.st130 Try.ld133 Try.st133 Try.ld140 Try.st140 Try.ld152 Try.st152 Try.ld39 Try.st39 Try.ld32 Try.st32 Try.ld41 Try.st41 Try.ld47 Try.st47 Try.ld57 Try.st57 Try.ld62 Try.st62 Try.ld76 Try.st76 Try.ld82 Try.st82 Try.ld86 Try.st86 Try.ld109 Try.st109 Try.ld115 Try.st115 Try.ld123 Try.st123 Try.ld135 Try.st135 Try.al39 Try.al32 Try.al41 Try.al47 Try.al57 Try.al62 Try.al76 Try.al82 Try.al86 Try.al109 Try.al115 Try.al123 Try.al135
attribute [local go_sem] Answer.length_enc Answer.ok_enc Answer.all_get Answer.all_set Answer.code_get Answer.code_set Answer.n_get Answer.n_set Answer.name_get Answer.name_set Answer.rows_get Answer.rows_set GOp.length_enc GOp.ok_enc GOp.all_get GOp.all_set GOp.kind_get GOp.kind_set GOp.rel_get GOp.rel_set GOp.mask_get GOp.mask_set GOp.t_get GOp.t_set GOp.n_get GOp.n_set GOp.name_get GOp.name_set Store.length_enc Store.ok_enc Store.all_get Store.all_set Store.names_get Store.names_set Store.rels_get Store.rels_set GRel.length_enc GRel.ok_enc GRel.all_get GRel.all_set GRel.arity_get GRel.arity_set GRel.masks_get GRel.masks_set GRel.rows_get GRel.rows_set Row.length_enc Row.ok_enc Row.all_get Row.all_set Row.t_get Row.t_set Row.mark_get Row.mark_set View.length_enc View.ok_enc View.all_get View.all_set View.names_get View.names_set View.rels_get View.rels_set Symtab.length_enc Symtab.ok_enc Symtab.all_get Symtab.all_set Symtab.names_get Symtab.names_set Symtab.table_get Symtab.table_set StoreTuplestore.length_enc StoreTuplestore.ok_enc StoreTuplestore.all_get StoreTuplestore.all_set StoreTuplestore.syms_get StoreTuplestore.syms_set StoreTuplestore.rels_get StoreTuplestore.rels_set StoreTuplestore.syms_names_get StoreTuplestore.syms_names_set StoreTuplestore.syms_table_get StoreTuplestore.syms_table_set Relation.length_enc Relation.ok_enc Relation.all_get Relation.all_set Relation.arity_get Relation.arity_set Relation.slots_get Relation.slots_set Relation.live_get Relation.live_set Relation.idx_get Relation.idx_set Slot.length_enc Slot.ok_enc Slot.all_get Slot.all_set Slot.t_get Slot.t_set Slot.mark_get Slot.mark_set Slot.live_get Slot.live_set RelView.length_enc RelView.ok_enc RelView.all_get RelView.all_set RelView.arity_get RelView.arity_set RelView.rows_get RelView.rows_set RelView.marks_get RelView.marks_set RelView.indexed_get RelView.indexed_set Index.length_enc Index.ok_enc Index.all_get Index.all_set Index.mask_get Index.mask_set Index.heads_get Index.heads_set Index.next_get Index.next_set
attribute [local go_sem] size_put size_ext blk_put free_put blk_alloc free_alloc blk_drew free_drew blk_ext free_ext lookOr_some putOr_some segAt_some cellAt_some storeIn_some put_put put_alloc_new length_arr ok_arr_u8 ok_arr_u32 ok_arr_u64 ok_arr_i64 ok_arr_sl cellsV_agg cellsV_int cellsV_bool cellsV_string cellsV_pointer cellsV_slice cellsV_sl ok_int ok_bool ok_string ok_pointer ok_slice ok_sl toList_arr seg_arr set_arr nth_splice nth_splice0 seg_splice seg_splice0 splice_splice splice_splice0 length_splice_if
attribute [local go_sem ↓] execOp_box
attribute [local go_sem] box_run nth_arr_u8 put_arr_u8 blk_drewN free_drewN put_drewN blk_raw free_raw
/-- While a new slot is linked into the indexes one by one: the first j0 have it. -/
def LkI (B : Nat) (O2 : Own) (W2 : World) (i : Nat) (ia : Option Addr) (iN ic : Nat) (L : List Slot) (s : Slot) (K : List IxD) (j0 : Nat) (V : World) : Prop :=
  ∃ (O : Own) (K' : List IxD), Fr (isIxs i) O2 W2 O V ∧ K'.length = j0 ∧ j0 ≤ K.length ∧ (∀ (j : Nat) (k' k : IxD), K'[j]? = some k' → K[j]? = some k → k'.m = k.m ∧ k'.size = k.size) ∧
    RowL B O (.idx i) V 135 3 (.slice ia iN ic) (K'.map (toR (L.length + 1)) ++ (K.drop j0).map (toR L.length)).length ((K'.map (toR (L.length + 1)) ++ (K.drop j0).map (toR L.length)).flatMap IxR.enc) ∧
    (∀ (j : Nat) (k' : IxD), K'[j]? = some k' → IxIn B O V i j (L ++ [s]) k') ∧
    (∀ (j : Nat) (k : IxD), j0 ≤ j → K[j]? = some k → IxIn B O V i j L k)
theorem ix_set2' {C : List Value} {q : Nat} {m : Int} {ha : Option Addr} {hn hc : Nat} {xa : Option Addr} {xn xc : Nat} (h : seg C q 3 = ixE m ha hn hc xa xn xc) (hq : q + 3 ≤ C.length) (a : Option Addr) (n c : Nat) : splice C (q + 2) [.slice a n c] = splice C q (ixE m ha hn hc a n c) := by
  have e : splice C q (ixE m ha hn hc xa xn xc) = C := by rw [← h]; exact splice_self (m := 3) rfl hq
  have h2 := ix_set2 (C := C) (q := q) (m := m) (ha := ha) (hn := hn) (hc := hc) (xa := xa) (xn := xn) (xc := xc) hq a n c
  rw [e] at h2
  exact h2
theorem lk_open {B : Nat} {O2 : Own} {W2 : World} {i : Nat} {ia : Option Addr} {iN ic : Nat} {L : List Slot} {s : Slot} {K : List IxD} {j0 : Nat} {V : World} (h : LkI B O2 W2 i ia iN ic L s K j0 V) (hj : j0 < K.length) :
    ∃ (O : Own) (gi : Nat) (Ci : List Value) (k : IxD), ia = some ⟨gi, 0, none⟩ ∧ V.heap[gi]? = some (.cells Ci.toArray 135 (0, 0)) ∧ O gi = .idx i ∧ j0 < iN ∧ seg Ci (j0 * 3) 3 = ixE (k.m : Int) k.ha k.size k.size k.xa L.length k.xc ∧ j0 * 3 + 3 ≤ Ci.length ∧ IxIn B O V i j0 L k ∧ Fr (isIxs i) O2 W2 O V ∧
      ∀ V', LinkPost B O V gi (j0 * 3) Ci 135 i j0 k.ha k.size k.size L.length ((headsF (bsOf L k.m k.size) k.size).set (bF s.t k.m k.size) (L.length + 1)) (nextF (bsOf L k.m k.size) ++ [(headsF (bsOf L k.m k.size) k.size).getD (bF s.t k.m k.size) 0]) (.returned (.tuple #[])) V' → LkI B O2 W2 i ia iN ic L s K (j0 + 1) V' := by
  obtain ⟨O, K', hFr, hKl, hjK, hms, hrow, hnew, hold⟩ := h
  obtain ⟨k, hk⟩ : ∃ k, K[j0]? = some k := ⟨_, List.getElem?_eq_getElem hj⟩
  have hdrop : K.drop j0 = k :: K.drop (j0 + 1) := by
    rw [List.drop_eq_getElem_cons hj]
    rw [List.getElem?_eq_getElem hj] at hk
    rw [Option.some.inj hk]
  have hlen : (K'.map (toR (L.length + 1)) ++ (K.drop j0).map (toR L.length)).length = K.length := by simp [hKl]; omega
  have hiN : iN = K.length := by
    have := (hrow.rw IxR.len).1.1
    omega
  obtain ⟨gi, Ci, e1, e2, e3, e4, e5, e6, e7, e8⟩ := hrow.openT IxR.len (by omega)
  have hin := hold j0 k (Nat.le_refl _) hk
  have hget : (K'.map (toR (L.length + 1)) ++ (K.drop j0).map (toR L.length))[j0]? = some (toR L.length k) := by
    rw [List.getElem?_append_right (by simp [hKl]), hdrop]
    simp [hKl]
  have hseg := e7 j0 _ hget
  refine ⟨O, gi, Ci, k, e1, e2, e4, by omega, hseg, by omega, hin, hFr, fun V' hP => ?_⟩
  obtain ⟨_, O', xa, xc, hF, hty, hH, hN⟩ := hP
  obtain ⟨⟨hm, jj, hjj, hj3, hj20⟩, hh0, hn0⟩ := hin
  have hpos : 0 < k.size := by rw [hjj]; exact Nat.two_pow_pos jj
  have hbl : bF s.t k.m k.size < k.size := Nat.mod_lt _ hpos
  have hsn1 : bsOf (L ++ [s]) k.m k.size = bsOf L k.m k.size ++ [bF s.t k.m k.size] := by simp [bsOf]
  have hty' : V'.heap[gi]? = some (.cells (splice Ci (j0 * 3) (ixE (k.m : Int) k.ha k.size k.size xa (L.length + 1) xc)).toArray 135 (0, 0)) := by
    rw [hty, ix_set2' hseg (by omega)]; rfl
  clear hty
  have hty := hty'
  have hog : O' gi = .idx i := (hF.keep gi (Array.getElem?_eq_some_iff.1 e2).1).trans e4
  have hF' : Fr (isIxs i) O V O' V' := hF.mono (fun l hl => by
    rcases hl with rfl | rfl | rfl
    · exact .inr (.inl ⟨_, rfl⟩)
    · exact .inr (.inr ⟨_, rfl⟩)
    · exact .inl rfl)
  refine ⟨O', K' ++ [⟨k.m, k.size, k.ha, xa, xc⟩], hFr.trans hF', by simp [hKl], by omega, ?_, ?_, ?_, ?_⟩
  · intro j k' k2 h1 h2
    by_cases hj1 : j < K'.length
    · rw [List.getElem?_append_left hj1] at h1
      exact hms j k' k2 h1 h2
    · rw [List.getElem?_append_right (by omega)] at h1
      have hj0 : j - K'.length = 0 := by
        have := (List.getElem?_eq_some_iff.1 h1).1
        simpa using this
      rw [hj0] at h1
      have hjj0 : j = j0 := by omega
      subst hjj0
      rw [hk] at h2
      rw [← Option.some.inj h1, ← Option.some.inj h2]
      exact ⟨rfl, rfl⟩
  · have hl2 : ((K' ++ [(⟨k.m, k.size, k.ha, xa, xc⟩ : IxD)]).map (toR (L.length + 1)) ++ (K.drop (j0 + 1)).map (toR L.length)).length = (K'.map (toR (L.length + 1)) ++ (K.drop j0).map (toR L.length)).length := by
      rw [hdrop]; simp
    refine e8 O' V' _ _ hty (ix_len (by omega)) hl2 ?_ hog
    intro j x hx
    by_cases hjj : j = j0
    · subst hjj
      have hx2 : x = toR (L.length + 1) ⟨k.m, k.size, k.ha, xa, xc⟩ := by
        rw [List.map_append, List.append_assoc, List.getElem?_append_right (by simp [hKl])] at hx
        simp [hKl] at hx
        exact hx.symm
      rw [hx2, ix_seg (by omega)]; rfl
    · have hx3 : (K'.map (toR (L.length + 1)) ++ (K.drop j0).map (toR L.length))[j]? = some x := by
        rw [hdrop]
        rw [List.map_append, List.append_assoc] at hx
        by_cases h1 : j < j0
        · rw [List.getElem?_append_left (by simp [hKl]; exact h1)] at hx ⊢
          exact hx
        · rw [List.getElem?_append_right (by simp [hKl]; omega)] at hx ⊢
          simp only [List.length_map, hKl] at hx ⊢
          obtain ⟨d, hd⟩ : ∃ d, j - j0 = d + 1 := ⟨j - j0 - 1, by omega⟩
          rw [hd] at hx ⊢
          simpa using hx
      have hsg := e7 j x hx3
      rw [← hsg]
      unfold seg
      apply List.ext_getElem?
      intro r
      rw [List.getElem?_take, List.getElem?_take]
      by_cases hr : r < 3
      · rw [if_pos hr, if_pos hr, List.getElem?_drop, List.getElem?_drop]
        unfold splice
        have hlen3 : (ixE (k.m : Int) k.ha k.size k.size xa (L.length + 1) xc).length = 3 := rfl
        rw [hlen3]
        by_cases h1 : j < j0
        · rw [List.append_assoc, List.getElem?_append_left (by rw [List.length_take]; omega), List.getElem?_take, if_pos (by omega)]
        · rw [List.getElem?_append_right (by rw [List.length_append, List.length_take, hlen3]; omega), List.length_append, List.length_take, hlen3, List.getElem?_drop]
          congr 1
          omega
      · rw [if_neg hr, if_neg hr]
  · intro j k' h1
    by_cases hj1 : j < K'.length
    · rw [List.getElem?_append_left hj1] at h1
      exact (hnew j k' h1).fr hF (by rintro (e | e | e) <;> cases e; omega) (by rintro (e | e | e) <;> cases e; omega)
    · rw [List.getElem?_append_right (by omega)] at h1
      have hj0 : j - K'.length = 0 := by
        have := (List.getElem?_eq_some_iff.1 h1).1
        simpa using this
      rw [hj0] at h1
      have hjj0 : j = j0 := by omega
      subst hjj0
      rw [← Option.some.inj h1]
      refine ⟨⟨hm, jj, hjj, hj3, hj20⟩, ?_, ?_⟩
      · rw [hsn1, headsF_snoc _ _ _ hbl, bsOf_len]; exact hH
      · rw [hsn1, nextF_snoc, List.length_append, List.length_singleton]
        rw [List.getD_eq_getElem?_getD, headsF_at _ hbl] at hN
        exact hN
  · intro j k2 hj2 h2
    exact (hold j k2 (by omega) h2).fr hF (by rintro (e | e | e) <;> cases e; omega) (by rintro (e | e | e) <;> cases e; omega)
theorem lk_done {B : Nat} {O2 : Own} {W2 : World} {i : Nat} {ia : Option Addr} {iN ic : Nat} {L : List Slot} {s : Slot} {K : List IxD} {V : World} (h : LkI B O2 W2 i ia iN ic L s K K.length V) :
    ∃ (O : Own) (K' : List IxD), Fr (isIxs i) O2 W2 O V ∧ RowL B O (.idx i) V 135 3 (.slice ia iN ic) K'.length (K'.flatMap (IxD.enc (L ++ [s]).length)) ∧ (∀ (j : Nat) (k : IxD), K'[j]? = some k → IxIn B O V i j (L ++ [s]) k) ∧ K'.map (·.m) = K.map (·.m) ∧ K'.map (·.size) = K.map (·.size) := by
  obtain ⟨O, K', hFr, hKl, hjK, hms, hrow, hnew, hold⟩ := h
  have hd : K.drop K.length = [] := List.drop_length
  rw [hd, List.map_nil, List.append_nil, toR_flat, List.length_map] at hrow
  refine ⟨O, K', hFr, by rw [List.length_append]; exact hrow, hnew, ?_, ?_⟩
  all_goals
    apply List.ext_getElem?
    intro j
    rw [List.getElem?_map, List.getElem?_map]
    by_cases hj : j < K.length
    · rw [List.getElem?_eq_getElem hj, List.getElem?_eq_getElem (by omega)]
      have := hms j _ _ (List.getElem?_eq_getElem (by omega)) (List.getElem?_eq_getElem hj)
      simp [this]
    · rw [List.getElem?_eq_none (by omega), List.getElem?_eq_none (by omega)]
theorem lk_start {B : Nat} {O2 : Own} {W2 : World} {i : Nat} {ia : Option Addr} {iN ic : Nat} {L : List Slot} {s : Slot} {K : List IxD} (hidx : RowL B O2 (.idx i) W2 135 3 (.slice ia iN ic) K.length (K.flatMap (IxD.enc L.length))) (hix : ∀ (j : Nat) (k : IxD), K[j]? = some k → IxIn B O2 W2 i j L k) :
    LkI B O2 W2 i ia iN ic L s K 0 W2 := by
  refine ⟨O2, [], Fr.refl _ _ _, rfl, Nat.zero_le _, fun j k' k h => by simp at h, ?_, fun j k' h => by simp at h, fun j k _ h => hix j k h⟩
  rw [List.map_nil, List.nil_append, List.drop_zero, toR_flat, List.length_map]
  exact hidx
end Go.Proofs.Qxb6500789a
