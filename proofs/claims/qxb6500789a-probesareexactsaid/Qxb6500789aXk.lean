import Derived.Test.Qxb6500789aXj
import Derived.StillTailTactics
import Derived.Deep.QuietTactic
import Derived.BigQuiet
import Derived.Deep.RegionHeld
import Derived.Deep.CutRange
import Derived.Laws.ResultCell
import Derived.Laws.Rows
import Derived.DeepKeys
import Derived.DataBytes
import Derived.Laws.StructEq
import Derived.Laws.AppendOwn
import Derived.Laws.MakeOwn
import Derived.Lib.AppendStr
set_option linter.unusedSimpArgs false
set_option linter.unusedVariables false
namespace Go.Proofs.Qxb6500789a
open Go.RowKit Go.Blk
attribute [local go_sem ↓] execOp_load execOp_store execOp_alloc
attribute [local go_sem] Try.ld29 Try.st29 Try.ld3 Try.st3 Try.ld9 Try.st9 Try.ld30 Try.st30 Try.ld34 Try.st34 Try.ld35 Try.st35 Try.ld36 Try.st36 Try.ld37 Try.st37 Try.ld44 Try.st44 Try.ld45 Try.st45 Try.ld54 Try.st54 Try.ld55 Try.st55 Try.ld74 Try.st74 Try.ld80 Try.st80 Try.ld84 Try.st84 Try.ld106 Try.st106 Try.ld107 Try.st107 Try.ld4 Try.st4 Try.ld121 Try.st121 Try.ld2 Try.st2 Try.ld5 Try.st5 Try.ld12 Try.st12 Try.ld21 Try.st21 Try.ld22 Try.st22 Try.ld24 Try.st24 Try.ld26 Try.st26 Try.ld63 Try.st63 Try.ld71 Try.st71 Try.ld103 Try.st103 Try.ld130 Try.st130 Try.ld133 Try.st133 Try.ld140 Try.st140 Try.ld152 Try.st152 Try.ld39 Try.st39 Try.ld32 Try.st32 Try.ld41 Try.st41 Try.ld47 Try.st47 Try.ld57 Try.st57 Try.ld62 Try.st62 Try.ld76 Try.st76 Try.ld82 Try.st82 Try.ld86 Try.st86 Try.ld109 Try.st109 Try.ld115 Try.st115 Try.ld123 Try.st123 Try.ld135 Try.st135 Try.al39 Try.al32 Try.al41 Try.al47 Try.al57 Try.al62 Try.al76 Try.al82 Try.al86 Try.al109 Try.al115 Try.al123 Try.al135
attribute [local go_sem] Answer.length_enc Answer.ok_enc Answer.all_get Answer.all_set Answer.code_get Answer.code_set Answer.n_get Answer.n_set Answer.name_get Answer.name_set Answer.rows_get Answer.rows_set GOp.length_enc GOp.ok_enc GOp.all_get GOp.all_set GOp.kind_get GOp.kind_set GOp.rel_get GOp.rel_set GOp.mask_get GOp.mask_set GOp.t_get GOp.t_set GOp.n_get GOp.n_set GOp.name_get GOp.name_set Store.length_enc Store.ok_enc Store.all_get Store.all_set Store.names_get Store.names_set Store.rels_get Store.rels_set GRel.length_enc GRel.ok_enc GRel.all_get GRel.all_set GRel.arity_get GRel.arity_set GRel.masks_get GRel.masks_set GRel.rows_get GRel.rows_set Row.length_enc Row.ok_enc Row.all_get Row.all_set Row.t_get Row.t_set Row.mark_get Row.mark_set View.length_enc View.ok_enc View.all_get View.all_set View.names_get View.names_set View.rels_get View.rels_set Symtab.length_enc Symtab.ok_enc Symtab.all_get Symtab.all_set Symtab.names_get Symtab.names_set Symtab.table_get Symtab.table_set StoreTuplestore.length_enc StoreTuplestore.ok_enc StoreTuplestore.all_get StoreTuplestore.all_set StoreTuplestore.syms_get StoreTuplestore.syms_set StoreTuplestore.rels_get StoreTuplestore.rels_set StoreTuplestore.syms_names_get StoreTuplestore.syms_names_set StoreTuplestore.syms_table_get StoreTuplestore.syms_table_set Relation.length_enc Relation.ok_enc Relation.all_get Relation.all_set Relation.arity_get Relation.arity_set Relation.slots_get Relation.slots_set Relation.live_get Relation.live_set Relation.idx_get Relation.idx_set Slot.length_enc Slot.ok_enc Slot.all_get Slot.all_set Slot.t_get Slot.t_set Slot.mark_get Slot.mark_set Slot.live_get Slot.live_set RelView.length_enc RelView.ok_enc RelView.all_get RelView.all_set RelView.arity_get RelView.arity_set RelView.rows_get RelView.rows_set RelView.marks_get RelView.marks_set RelView.indexed_get RelView.indexed_set Index.length_enc Index.ok_enc Index.all_get Index.all_set Index.mask_get Index.mask_set Index.heads_get Index.heads_set Index.next_get Index.next_set
attribute [local go_sem] size_put size_ext blk_put free_put blk_alloc free_alloc blk_drew free_drew blk_ext free_ext lookOr_some putOr_some segAt_some cellAt_some storeIn_some put_put put_alloc_new length_arr ok_arr_u8 ok_arr_u32 ok_arr_u64 ok_arr_i64 ok_arr_sl cellsV_agg cellsV_int cellsV_bool cellsV_string cellsV_pointer cellsV_slice cellsV_sl ok_int ok_bool ok_string ok_pointer ok_slice ok_sl toList_arr seg_arr set_arr nth_splice nth_splice0 seg_splice seg_splice0 splice_splice splice_splice0 length_splice_if
attribute [local go_sem ↓] execOp_box
attribute [local go_sem] box_run nth_arr_u8 put_arr_u8 blk_drewN free_drewN put_drewN blk_raw free_raw
theorem RowL.openT {α : Type} {en : α → List Value} {sz : Nat} (hsz : ∀ x, (en x).length = sz) {B : Nat} {O : Own} {l : Lab} {W : World} {ty : TypeId} {a : Option Addr} {n c : Nat} {K : List α} (h : RowL B O l W ty sz (.slice a n c) K.length (K.flatMap en)) (hn : 0 < n) :
    ∃ g C, a = some ⟨g, 0, none⟩ ∧ W.heap[g]? = some (.cells C.toArray ty (0, 0)) ∧ n * sz ≤ C.length ∧ O g = l ∧ B ≤ g ∧ K.length = n ∧ (∀ i x, K[i]? = some x → seg C (i * sz) sz = en x) ∧
    ∀ (O' : Own) (W' : World) (D : List Value) (K' : List α), W'.heap[g]? = some (.cells D.toArray ty (0, 0)) → D.length = C.length → K'.length = K.length → (∀ i x, K'[i]? = some x → seg D (i * sz) sz = en x) → O' g = l → RowL B O' l W' ty sz (.slice a n c) K'.length (K'.flatMap en) := by
  have hr := (rw_own hsz h.1).1
  obtain ⟨⟨h1, h2 | ⟨g, cap, cur, e1, e2, e3, e4, e5, e6, e7⟩⟩, hl⟩ := h
  · have := hr.1; omega
  · injection e1 with e1a e1b e1c
    subst e1a
    subst e1c
    have hg : O g = l := hl g rfl
    have hle : K.length * sz ≤ c * sz := Nat.mul_le_mul_right _ e4
    refine ⟨g, cur.toList, rfl, e3, by rw [Array.length_toList, e6, ← hr.1]; exact hle, hg, e2, hr.1, fun i x hx => ?_, fun O' W' D K' hW hD hK' hs ho => ?_⟩
    · obtain ⟨b, C, q1, q2, q3, q4⟩ := hr.2 i x hx
      injection q1 with q1; injection q1 with q1
      subst q1
      rw [blk_mk e3] at q2
      injection q2 with q2
      rw [q2]; exact q4
    · have hcl : cur.toList.length = c * sz := by rw [Array.length_toList]; exact e6
      have hDl : K'.length * sz ≤ D.length := by rw [hD, hcl, hK']; exact hle
      have hft := flat_take en sz hsz K' D hDl hs
      refine ⟨⟨?_, .inr ⟨g, c, D.toArray, by rw [hK', e1b], e2, hW, by rw [hK']; exact e4, e5, by rw [List.size_toArray, hD, hcl], hft⟩⟩, fun k hk => ?_⟩
      · rw [← hft, List.length_take]; omega
      · simp [Value.ownBlock] at hk; rw [← hk]; exact ho
/-- An index's three cells, whatever they are. -/
structure IxR where
  m : Nat
  ha : Option Addr
  hn : Nat
  hc : Nat
  xa : Option Addr
  xn : Nat
  xc : Nat
def IxR.enc (r : IxR) : List Value := ixE (r.m : Int) r.ha r.hn r.hc r.xa r.xn r.xc
theorem IxR.len (r : IxR) : (IxR.enc r).length = 3 := rfl
def toR (n : Nat) (k : IxD) : IxR := ⟨k.m, k.ha, k.size, k.size, k.xa, n, k.xc⟩
theorem toR_flat (n : Nat) (K : List IxD) : (K.map (toR n)).flatMap IxR.enc = K.flatMap (IxD.enc n) := by
  induction K with
  | nil => rfl
  | cons k K ih => rw [List.map_cons, List.flatMap_cons, List.flatMap_cons, ih]; rfl
def isIxs (i : Nat) (l : Lab) : Prop := l = .idx i ∨ (∃ j, l = .heads i j) ∨ (∃ j, l = .next i j)
def SzB (k : IxD) (n : Nat) : Prop := 2 * n ≤ k.size ∧ (k.size = 8 ∨ k.size < 4 * n)
/-- While the indexes are rebuilt one by one: the first j0 are new. -/
def RxI (B : Nat) (O2 : Own) (W2 : World) (i : Nat) (sa : Option Addr) (sn sc : Nat) (ia : Option Addr) (iN ic : Nat) (L : List Slot) (K : List IxD) (n j0 : Nat) (V : World) : Prop :=
  ∃ (O : Own) (K' : List IxD), Fr (isIxs i) O2 W2 O V ∧ K'.length = j0 ∧ j0 ≤ K.length ∧ (∀ (j : Nat) (k' k : IxD), K'[j]? = some k' → K[j]? = some k → k'.m = k.m) ∧
    RowL B O (.idx i) V 135 3 (.slice ia iN ic) (K'.map (toR L.length) ++ (K.drop j0).map (toR n)).length ((K'.map (toR L.length) ++ (K.drop j0).map (toR n)).flatMap IxR.enc) ∧
    (∀ (j : Nat) (k' : IxD), K'[j]? = some k' → IxIn B O V i j L k' ∧ SzB k' L.length) ∧
    (∀ (j : Nat) (k : IxD), j0 ≤ j → K[j]? = some k → k.m < 16 ∧ ∃ X : List Nat, RowL B O (.next i j) V 3 1 (.slice k.xa n k.xc) X.length (X.flatMap encK)) ∧
    RowL B O (.slots i) V 115 6 (.slice sa sn sc) L.length (L.flatMap Slot.enc)
theorem rx_open {B : Nat} {O2 : Own} {W2 : World} {i : Nat} {sa : Option Addr} {sn sc : Nat} {ia : Option Addr} {iN ic : Nat} {L : List Slot} {K : List IxD} {n j0 : Nat} {V : World} (h : RxI B O2 W2 i sa sn sc ia iN ic L K n j0 V) (hj : j0 < K.length) :
    ∃ (O : Own) (gi : Nat) (Ci : List Value) (k : IxD) (X : List Nat), ia = some ⟨gi, 0, none⟩ ∧ V.heap[gi]? = some (.cells Ci.toArray 135 (0, 0)) ∧ O gi = .idx i ∧ j0 < iN ∧ seg Ci (j0 * 3) 3 = ixE (k.m : Int) k.ha k.size k.size k.xa n k.xc ∧ j0 * 3 + 3 ≤ Ci.length ∧ RowL B O (.next i j0) V 3 1 (.slice k.xa n k.xc) X.length (X.flatMap encK) ∧ RowL B O (.slots i) V 115 6 (.slice sa sn sc) L.length (L.flatMap Slot.enc) ∧ k.m < 16 ∧ Fr (isIxs i) O2 W2 O V ∧
      ∀ V', RebPost B O V gi (j0 * 3) Ci 135 i j0 k.m L (.returned (.tuple #[])) V' → RxI B O2 W2 i sa sn sc ia iN ic L K n (j0 + 1) V' := by
  obtain ⟨O, K', hFr, hKl, hjK, hms, hrow, hnew, hold, hslots⟩ := h
  obtain ⟨k, hk⟩ : ∃ k, K[j0]? = some k := ⟨_, List.getElem?_eq_getElem hj⟩
  have hdrop : K.drop j0 = k :: K.drop (j0 + 1) := by
    rw [List.drop_eq_getElem_cons hj]
    rw [List.getElem?_eq_getElem hj] at hk
    rw [Option.some.inj hk]
  have hlen : (K'.map (toR L.length) ++ (K.drop j0).map (toR n)).length = K.length := by simp [hKl]; omega
  have hiN : iN = K.length := by
    have := (hrow.rw IxR.len).1.1
    omega
  obtain ⟨gi, Ci, e1, e2, e3, e4, e5, e6, e7, e8⟩ := hrow.openT IxR.len (by omega)
  obtain ⟨hm, X, hX⟩ := hold j0 k (Nat.le_refl _) hk
  have hget : (K'.map (toR L.length) ++ (K.drop j0).map (toR n))[j0]? = some (toR n k) := by
    rw [List.getElem?_append_right (by simp [hKl]), hdrop]
    simp [hKl]
  have hseg := e7 j0 _ hget
  refine ⟨O, gi, Ci, k, X, e1, e2, e4, by omega, hseg, by omega, hX, hslots, hm, hFr, fun V' hP => ?_⟩
  obtain ⟨_, ha, size, jj, hjj, hj3, hj20, hs1, hs2, O', xa, xc, hF, hty, hog, hH, hN⟩ := hP
  have hLt : L.take L.length = L := List.take_of_length_le (Nat.le_refl _)
  rw [hLt] at hH hN
  have hF' : Fr (isIxs i) O V O' V' := hF.mono (fun l hl => by
    rcases hl with rfl | rfl | rfl
    · exact .inr (.inl ⟨_, rfl⟩)
    · exact .inr (.inr ⟨_, rfl⟩)
    · exact .inl rfl)
  refine ⟨O', K' ++ [⟨k.m, size, ha, xa, xc⟩], hFr.trans hF', by simp [hKl], by omega, ?_, ?_, ?_, ?_, ?_⟩
  · intro j k' k2 h1 h2
    by_cases hj1 : j < K'.length
    · rw [List.getElem?_append_left hj1] at h1
      exact hms j k' k2 h1 h2
    · rw [List.getElem?_append_right (by omega)] at h1
      have hj0 : j - K'.length = 0 := by
        have := (List.getElem?_eq_some_iff.1 h1).1
        simpa using this
      rw [hj0] at h1
      have hjj0 : j = j0 := by omega
      subst hjj0
      rw [hk] at h2
      rw [← Option.some.inj h1, ← Option.some.inj h2]
  · have hl2 : ((K' ++ [(⟨k.m, size, ha, xa, xc⟩ : IxD)]).map (toR L.length) ++ (K.drop (j0 + 1)).map (toR n)).length = (K'.map (toR L.length) ++ (K.drop j0).map (toR n)).length := by
      rw [hdrop]; simp
    refine e8 O' V' _ _ hty (ix_len (by omega)) hl2 ?_ hog
    intro j x hx
    by_cases hjj : j = j0
    · subst hjj
      have hx2 : x = toR L.length ⟨k.m, size, ha, xa, xc⟩ := by
        rw [List.map_append, List.append_assoc, List.getElem?_append_right (by simp [hKl])] at hx
        simp [hKl] at hx
        exact hx.symm
      rw [hx2, ix_seg (by omega)]; rfl
    · have hx3 : (K'.map (toR L.length) ++ (K.drop j0).map (toR n))[j]? = some x := by
        rw [hdrop]
        rw [List.map_append, List.append_assoc] at hx
        by_cases h1 : j < j0
        · rw [List.getElem?_append_left (by simp [hKl]; exact h1)] at hx ⊢
          exact hx
        · rw [List.getElem?_append_right (by simp [hKl]; omega)] at hx ⊢
          simp only [List.length_map, hKl] at hx ⊢
          obtain ⟨d, hd⟩ : ∃ d, j - j0 = d + 1 := ⟨j - j0 - 1, by omega⟩
          rw [hd] at hx ⊢
          simpa using hx
      have hsg := e7 j x hx3
      rw [← hsg]
      unfold seg
      apply List.ext_getElem?
      intro r
      rw [List.getElem?_take, List.getElem?_take]
      by_cases hr : r < 3
      · rw [if_pos hr, if_pos hr, List.getElem?_drop, List.getElem?_drop]
        unfold splice
        have hlen3 : (ixE (k.m : Int) ha size size xa L.length xc).length = 3 := rfl
        rw [hlen3]
        by_cases h1 : j < j0
        · rw [List.append_assoc, List.getElem?_append_left (by rw [List.length_take]; omega), List.getElem?_take, if_pos (by omega)]
        · rw [List.getElem?_append_right (by rw [List.length_append, List.length_take, hlen3]; omega), List.length_append, List.length_take, hlen3, List.getElem?_drop]
          congr 1
          omega
      · rw [if_neg hr, if_neg hr]
  · intro j k' h1
    by_cases hj1 : j < K'.length
    · rw [List.getElem?_append_left hj1] at h1
      obtain ⟨g1, g2⟩ := hnew j k' h1
      exact ⟨g1.fr hF (by rintro (e | e | e) <;> cases e; omega) (by rintro (e | e | e) <;> cases e; omega), g2⟩
    · rw [List.getElem?_append_right (by omega)] at h1
      have hj0 : j - K'.length = 0 := by
        have := (List.getElem?_eq_some_iff.1 h1).1
        simpa using this
      rw [hj0] at h1
      have hjj0 : j = j0 := by omega
      subst hjj0
      rw [← Option.some.inj h1]
      exact ⟨⟨⟨hm, jj, hjj, hj3, hj20⟩, hH, hN⟩, hs1, hs2⟩
  · intro j k2 hj2 h2
    obtain ⟨g1, X2, g2⟩ := hold j k2 (by omega) h2
    exact ⟨g1, X2, g2.fr hF (by rintro (e | e | e) <;> cases e; omega)⟩
  · exact hslots.fr hF (by rintro (e | e | e) <;> cases e)
/-- In the end all are new. -/
theorem rx_done {B : Nat} {O2 : Own} {W2 : World} {i : Nat} {sa : Option Addr} {sn sc : Nat} {ia : Option Addr} {iN ic : Nat} {L : List Slot} {K : List IxD} {n : Nat} {V : World} (h : RxI B O2 W2 i sa sn sc ia iN ic L K n K.length V) :
    ∃ (O : Own) (K' : List IxD), Fr (isIxs i) O2 W2 O V ∧ RelIn B O V i sa sn sc ia iN ic L K' ∧ K'.map (·.m) = K.map (·.m) ∧ ∀ k ∈ K', SzB k L.length := by
  obtain ⟨O, K', hFr, hKl, hjK, hms, hrow, hnew, hold, hslots⟩ := h
  have hd : K.drop K.length = [] := List.drop_length
  rw [hd, List.map_nil, List.append_nil, toR_flat, List.length_map] at hrow
  refine ⟨O, K', hFr, ⟨hslots, hrow, fun j k hk => (hnew j k hk).1⟩, ?_, fun k hk => ?_⟩
  · apply List.ext_getElem?
    intro j
    rw [List.getElem?_map, List.getElem?_map]
    by_cases hj : j < K.length
    · rw [List.getElem?_eq_getElem hj, List.getElem?_eq_getElem (by omega)]
      have := hms j _ _ (List.getElem?_eq_getElem (by omega)) (List.getElem?_eq_getElem hj)
      simp [this]
    · rw [List.getElem?_eq_none (by omega), List.getElem?_eq_none (by omega)]
  · obtain ⟨j, hj⟩ := List.mem_iff_getElem?.1 hk
    exact (hnew j k hj).2
theorem rx_start {B : Nat} {O2 : Own} {W2 : World} {i : Nat} {sa : Option Addr} {sn sc : Nat} {ia : Option Addr} {iN ic : Nat} {L : List Slot} {K : List IxD} {n : Nat} (hidx : RowL B O2 (.idx i) W2 135 3 (.slice ia iN ic) K.length (K.flatMap (IxD.enc n))) (hix : ∀ (j : Nat) (k : IxD), K[j]? = some k → k.m < 16 ∧ ∃ X : List Nat, RowL B O2 (.next i j) W2 3 1 (.slice k.xa n k.xc) X.length (X.flatMap encK)) (hs : RowL B O2 (.slots i) W2 115 6 (.slice sa sn sc) L.length (L.flatMap Slot.enc)) :
    RxI B O2 W2 i sa sn sc ia iN ic L K n 0 W2 := by
  refine ⟨O2, [], Fr.refl _ _ _, rfl, Nat.zero_le _, fun j k' k h => by simp at h, ?_, fun j k' h => by simp at h, fun j k _ h => hix j k h, hs⟩
  rw [List.map_nil, List.nil_append, List.drop_zero, toR_flat, List.length_map]
  exact hidx
end Go.Proofs.Qxb6500789a
