import Derived.Test.Qxb6500789aXo
import Derived.StillTailTactics
import Derived.Deep.QuietTactic
import Derived.BigQuiet
import Derived.Deep.RegionHeld
import Derived.Deep.CutRange
import Derived.Laws.ResultCell
import Derived.Laws.Rows
import Derived.DeepKeys
import Derived.DataBytes
import Derived.Laws.StructEq
import Derived.Laws.AppendOwn
import Derived.Laws.MakeOwn
import Derived.Lib.AppendStr
set_option linter.unusedSimpArgs false
set_option linter.unusedVariables false
namespace Go.Proofs.Qxb6500789a
open Go.RowKit Go.Blk
attribute [local go_sem ↓] execOp_load execOp_store execOp_alloc
attribute [local go_sem] Try.ld29 Try.st29 Try.ld3 Try.st3 Try.ld9 Try.st9 Try.ld30 Try.st30 Try.ld34 Try.st34 Try.ld35 Try.st35 Try.ld36 Try.st36 Try.ld37 Try.st37 Try.ld44 Try.st44 Try.ld45 Try.st45 Try.ld54 Try.st54 Try.ld55 Try.st55 Try.ld74 Try.st74 Try.ld80 Try.st80 Try.ld84 Try.st84 Try.ld106 Try.st106 Try.ld107 Try.st107 Try.ld4 Try.st4 Try.ld121 Try.st121 Try.ld2 Try.st2 Try.ld5 Try.st5 Try.ld12 Try.st12 Try.ld21 Try.st21 Try.ld22 Try.st22 Try.ld24 Try.st24 Try.ld26 Try.st26 Try.ld63 Try.st63 Try.ld71 Try.st71 Try.ld103 Try.st103 Try.ld130 Try.st130 Try.ld133 Try.st133 Try.ld140 Try.st140 Try.ld152 Try.st152 Try.ld39 Try.st39 Try.ld32 Try.st32 Try.ld41 Try.st41 Try.ld47 Try.st47 Try.ld57 Try.st57 Try.ld62 Try.st62 Try.ld76 Try.st76 Try.ld82 Try.st82 Try.ld86 Try.st86 Try.ld109 Try.st109 Try.ld115 Try.st115 Try.ld123 Try.st123 Try.ld135 Try.st135 Try.al39 Try.al32 Try.al41 Try.al47 Try.al57 Try.al62 Try.al76 Try.al82 Try.al86 Try.al109 Try.al115 Try.al123 Try.al135
attribute [local go_sem] Answer.length_enc Answer.ok_enc Answer.all_get Answer.all_set Answer.code_get Answer.code_set Answer.n_get Answer.n_set Answer.name_get Answer.name_set Answer.rows_get Answer.rows_set GOp.length_enc GOp.ok_enc GOp.all_get GOp.all_set GOp.kind_get GOp.kind_set GOp.rel_get GOp.rel_set GOp.mask_get GOp.mask_set GOp.t_get GOp.t_set GOp.n_get GOp.n_set GOp.name_get GOp.name_set Store.length_enc Store.ok_enc Store.all_get Store.all_set Store.names_get Store.names_set Store.rels_get Store.rels_set GRel.length_enc GRel.ok_enc GRel.all_get GRel.all_set GRel.arity_get GRel.arity_set GRel.masks_get GRel.masks_set GRel.rows_get GRel.rows_set Row.length_enc Row.ok_enc Row.all_get Row.all_set Row.t_get Row.t_set Row.mark_get Row.mark_set View.length_enc View.ok_enc View.all_get View.all_set View.names_get View.names_set View.rels_get View.rels_set Symtab.length_enc Symtab.ok_enc Symtab.all_get Symtab.all_set Symtab.names_get Symtab.names_set Symtab.table_get Symtab.table_set StoreTuplestore.length_enc StoreTuplestore.ok_enc StoreTuplestore.all_get StoreTuplestore.all_set StoreTuplestore.syms_get StoreTuplestore.syms_set StoreTuplestore.rels_get StoreTuplestore.rels_set StoreTuplestore.syms_names_get StoreTuplestore.syms_names_set StoreTuplestore.syms_table_get StoreTuplestore.syms_table_set Relation.length_enc Relation.ok_enc Relation.all_get Relation.all_set Relation.arity_get Relation.arity_set Relation.slots_get Relation.slots_set Relation.live_get Relation.live_set Relation.idx_get Relation.idx_set Slot.length_enc Slot.ok_enc Slot.all_get Slot.all_set Slot.t_get Slot.t_set Slot.mark_get Slot.mark_set Slot.live_get Slot.live_set RelView.length_enc RelView.ok_enc RelView.all_get RelView.all_set RelView.arity_get RelView.arity_set RelView.rows_get RelView.rows_set RelView.marks_get RelView.marks_set RelView.indexed_get RelView.indexed_set Index.length_enc Index.ok_enc Index.all_get Index.all_set Index.mask_get Index.mask_set Index.heads_get Index.heads_set Index.next_get Index.next_set
attribute [local go_sem] size_put size_ext blk_put free_put blk_alloc free_alloc blk_drew free_drew blk_ext free_ext lookOr_some putOr_some segAt_some cellAt_some storeIn_some put_put put_alloc_new length_arr ok_arr_u8 ok_arr_u32 ok_arr_u64 ok_arr_i64 ok_arr_sl cellsV_agg cellsV_int cellsV_bool cellsV_string cellsV_pointer cellsV_slice cellsV_sl ok_int ok_bool ok_string ok_pointer ok_slice ok_sl toList_arr seg_arr set_arr nth_splice nth_splice0 seg_splice seg_splice0 splice_splice splice_splice0 length_splice_if
attribute [local go_sem ↓] execOp_box
attribute [local go_sem] box_run nth_arr_u8 put_arr_u8 blk_drewN free_drewN put_drewN blk_raw free_raw
theorem arr4 (t : Tup) : arr i64v t = [.int .i64 (tg t 0), .int .i64 (tg t 1), .int .i64 (tg t 2), .int .i64 (tg t 3)] := by
  apply List.ext_getElem?
  intro c
  by_cases hc : c < 4
  · have := nth_t t c hc
    unfold nth at this
    rw [this]
    have h : c = 0 ∨ c = 1 ∨ c = 2 ∨ c = 3 := by omega
    rcases h with rfl | rfl | rfl | rfl <;> rfl
  · rw [List.getElem?_eq_none (by rw [length_arr]; omega), List.getElem?_eq_none (by simp; omega)]
theorem build115_lit (w : World) (a b c d : Int) : (buildOp 115 #[(0, .agg #[.int .i64 a, .int .i64 b, .int .i64 c, .int .i64 d]), (2, .bool true)]).run Try.prog w = .ok (.value (.agg #[.int .i64 a, .int .i64 b, .int .i64 c, .int .i64 d, .int .i64 0, .bool true])) w := by kernel_rfl
theorem build115 (w : World) (t : Tup) : (buildOp 115 #[(0, .agg (arr i64v t).toArray), (2, .bool true)]).run Try.prog w = .ok (.value (.agg (Slot.enc ⟨t, 0, true⟩).toArray)) w := by
  have h := build115_lit w (tg t 0) (tg t 1) (tg t 2) (tg t 3)
  unfold Slot.enc
  rw [arr4 t]; exact h
theorem bslice106_lit (w : World) (a b c d e : Int) (f : Bool) : (bsliceOp 106 1 #[(0, .agg #[.int .i64 a, .int .i64 b, .int .i64 c, .int .i64 d, .int .i64 e, .bool f])]).run Try.prog w = .ok (.value (.slice (some ⟨w.heap.size, 0, none⟩) 1 1)) (w.alloc (.cells #[.int .i64 a, .int .i64 b, .int .i64 c, .int .i64 d, .int .i64 e, .bool f] 115)) := by kernel_rfl
theorem bslice106 (w : World) (s : Slot) : (bsliceOp 106 1 #[(0, .agg (Slot.enc s).toArray)]).run Try.prog w = .ok (.value (.slice (some ⟨w.heap.size, 0, none⟩) 1 1)) (w.alloc (.cells (Slot.enc s).toArray 115)) := by
  have h := bslice106_lit w (tg s.t 0) (tg s.t 1) (tg s.t 2) (tg s.t 3) s.mark s.live
  unfold Slot.enc
  rw [arr4 s.t]; exact h
def rowsOf (L : List Slot) : List (Tup × Int) := (liveL L).map (fun s => (s.t, s.mark))
structure RInv (ar : Nat) (L : List Slot) (K : List IxD) : Prop where
  ar4 : ar ≤ 4
  nodup : (L.map (·.t)).Nodup
  live : (liveL L).length ≤ 512
  k0 : ∃ k, K[0]? = some k ∧ k.m = 2 ^ ar - 1 ∧ L.length ≤ k.size
  sizes : ∀ k ∈ K, k.size ≤ 2048
  masks : (K.map (·.m)).Nodup
  mlt : ∀ k ∈ K, k.m < 2 ^ ar
theorem nodup_lt : ∀ (n : Nat) (l : List Nat), l.Nodup → (∀ x ∈ l, x < n) → l.length ≤ n
  | 0, l, _, h => by
    cases l with
    | nil => exact Nat.le_refl _
    | cons x l => exact absurd (h x (List.mem_cons_self ..)) (Nat.not_lt_zero _)
  | n + 1, l, hd, h => by
    have h1 := nodup_lt n (l.filter (fun x => decide (x ≠ n))) (hd.filter _) (fun x hx => by
      have := List.mem_filter.1 hx
      have h2 := h x this.1
      have h3 : x ≠ n := by simpa using this.2
      omega)
    have h2 : ∀ l : List Nat, l.Nodup → l.length ≤ (l.filter (fun x => decide (x ≠ n))).length + 1 := by
      intro l
      induction l with
      | nil => intro _; simp
      | cons x l ih =>
        intro hd
        rw [List.nodup_cons] at hd
        by_cases hx : x = n
        · subst hx
          have : l.filter (fun y => decide (y ≠ x)) = l := List.filter_eq_self.2 (fun y hy => by
            have : y ≠ x := fun e => hd.1 (e ▸ hy)
            simpa using this)
          rw [List.filter_cons_of_neg (by simp), this]; simp
        · have := ih hd.2
          rw [List.filter_cons_of_pos (by simpa using hx), List.length_cons, List.length_cons]; omega
    have := h2 l hd
    omega
theorem RInv.few {ar : Nat} {L : List Slot} {K : List IxD} (h : RInv ar L K) : K.length ≤ 16 ∧ L.length ≤ 2048 ∧ 0 < K.length := by
  have h1 := nodup_lt 16 (K.map (·.m)) h.masks (fun x hx => by
    obtain ⟨k, hk, rfl⟩ := List.mem_map.1 hx
    have := h.mlt k hk
    have := Nat.pow_le_pow_right (n := 2) (by decide) h.ar4
    omega)
  rw [List.length_map] at h1
  obtain ⟨k, hk, _, hl⟩ := h.k0
  have := h.sizes k (List.mem_of_getElem? hk)
  exact ⟨h1, by omega, by have := (List.getElem?_eq_some_iff.1 hk).1; omega⟩
/-- The relation's cells and rows. -/
def RelSt (B : Nat) (O : Own) (W : World) (gr o : Nat) (tyr : TypeId) (i ar : Nat) (L : List Slot) (K : List IxD) (Cr : List Value) : Prop :=
  ∃ sa sn sc ia iN ic, W.heap[gr]? = some (.cells Cr.toArray tyr (0, 0)) ∧ RelAt Cr o (ar : Int) sa sn sc ((liveL L).length : Int) ia iN ic ∧ RelIn B O W i sa sn sc ia iN ic L K
def RelCh (Cr Cr' : List Value) (o : Nat) : Prop := Cr'.length = Cr.length ∧ ∀ p n, p + n ≤ o ∨ o + 4 ≤ p → seg Cr' p n = seg Cr p n
theorem RelCh.refl (C : List Value) (o : Nat) : RelCh C C o := ⟨rfl, fun _ _ _ => rfl⟩
theorem RelCh.trans {C C' C'' : List Value} {o : Nat} (h : RelCh C C' o) (h' : RelCh C' C'' o) : RelCh C C'' o := ⟨h'.1.trans h.1, fun p n hp => (h'.2 p n hp).trans (h.2 p n hp)⟩
theorem RelCh.put {C : List Value} {o : Nat} (j : Nat) (v : Value) (hj : j < 4) (hl : o + 4 ≤ C.length) : RelCh C (splice C (o + j) [v]) o :=
  ⟨length_splice1 (by omega), fun p n hp => seg_splice_off (by omega) (by omega)⟩
theorem RelAt.set1 {C : List Value} {o : Nat} {ar : Int} {sa : Option Addr} {sn sc : Nat} {lv : Int} {ia : Option Addr} {iN ic : Nat} (h : RelAt C o ar sa sn sc lv ia iN ic) (a : Option Addr) (n c : Nat) : RelAt (splice C (o + 1) [.slice a n c]) o ar a n c lv ia iN ic := by
  have hl := h.len
  refine ⟨by rw [length_splice1 (by omega)]; exact hl, ?_, ?_, ?_, ?_⟩
  · rw [splice_nth (by omega), if_neg (by omega)]; exact h.c0
  · rw [splice_nth (by omega), if_pos rfl]
  · rw [splice_nth (by omega), if_neg (by omega)]; exact h.c2
  · rw [splice_nth (by omega), if_neg (by omega)]; exact h.c3
theorem RelAt.set2 {C : List Value} {o : Nat} {ar : Int} {sa : Option Addr} {sn sc : Nat} {lv : Int} {ia : Option Addr} {iN ic : Nat} (h : RelAt C o ar sa sn sc lv ia iN ic) (x : Int) : RelAt (splice C (o + 2) [.int .i64 x]) o ar sa sn sc x ia iN ic := by
  have hl := h.len
  refine ⟨by rw [length_splice1 (by omega)]; exact hl, ?_, ?_, ?_, ?_⟩
  · rw [splice_nth (by omega), if_neg (by omega)]; exact h.c0
  · rw [splice_nth (by omega), if_neg (by omega)]; exact h.c1
  · rw [splice_nth (by omega), if_pos rfl]
  · rw [splice_nth (by omega), if_neg (by omega)]; exact h.c3
theorem RelAt.set3 {C : List Value} {o : Nat} {ar : Int} {sa : Option Addr} {sn sc : Nat} {lv : Int} {ia : Option Addr} {iN ic : Nat} (h : RelAt C o ar sa sn sc lv ia iN ic) (a : Option Addr) (n c : Nat) : RelAt (splice C (o + 3) [.slice a n c]) o ar sa sn sc lv a n c := by
  have hl := h.len
  refine ⟨by rw [length_splice1 (by omega)]; exact hl, ?_, ?_, ?_, ?_⟩
  · rw [splice_nth (by omega), if_neg (by omega)]; exact h.c0
  · rw [splice_nth (by omega), if_neg (by omega)]; exact h.c1
  · rw [splice_nth (by omega), if_neg (by omega)]; exact h.c2
  · rw [splice_nth (by omega), if_pos rfl]
theorem bsOf_congr {L L' : List Slot} (h : L'.map (·.t) = L.map (·.t)) (m size : Nat) : bsOf L' m size = bsOf L m size := by
  have : ∀ L : List Slot, bsOf L m size = (L.map (·.t)).map (fun t => bF t m size) := fun L => by unfold bsOf; rw [List.map_map]; rfl
  rw [this, this, h]
theorem set_t {L : List Slot} {n : Nat} {s s' : Slot} (hs : L[n]? = some s) (ht : s'.t = s.t) : (L.set n s').map (·.t) = L.map (·.t) := by
  rw [List.map_set, ht]
  apply List.ext_getElem?
  intro j
  rw [List.getElem?_set]
  by_cases hj : n = j
  · subst hj
    rw [if_pos rfl, if_pos (by rw [List.length_map]; exact (List.getElem?_eq_some_iff.1 hs).1), List.getElem?_map, hs]; rfl
  · rw [if_neg hj]
theorem set_split {L : List Slot} {n : Nat} {s : Slot} (hs : L[n]? = some s) : ∃ A B', L = A ++ s :: B' ∧ A.length = n ∧ ∀ s', L.set n s' = A ++ s' :: B' := by
  have hn := (List.getElem?_eq_some_iff.1 hs).1
  refine ⟨L.take n, L.drop (n + 1), ?_, by rw [List.length_take]; omega, fun s' => List.set_eq_take_append_cons_drop.trans (if_pos hn)⟩
  have h1 := List.take_append_drop n L
  rw [List.drop_eq_getElem_cons hn] at h1
  have h2 := (List.getElem?_eq_some_iff.1 hs).2
  rw [h2] at h1
  exact h1.symm
theorem liveL_app (A B' : List Slot) : liveL (A ++ B') = liveL A ++ liveL B' := List.filter_append ..
theorem rowsOf_app (A B' : List Slot) : rowsOf (A ++ B') = rowsOf A ++ rowsOf B' := by unfold rowsOf; rw [liveL_app, List.map_append]
theorem rowsOf_cons (s : Slot) (L : List Slot) : rowsOf (s :: L) = if s.live then (s.t, s.mark) :: rowsOf L else rowsOf L := by
  unfold rowsOf liveL
  cases h : s.live <;> simp [h]
theorem rowsOf_len (L : List Slot) : (rowsOf L).length = (liveL L).length := by simp [rowsOf]
theorem liveL_live (L : List Slot) : liveL (liveL L) = liveL L := by unfold liveL; rw [List.filter_filter]; simp
theorem rowsOf_live (L : List Slot) : rowsOf (liveL L) = rowsOf L := by unfold rowsOf; rw [liveL_live]
theorem nodup_live {L : List Slot} (h : (L.map (·.t)).Nodup) : ((liveL L).map (·.t)).Nodup := by
  have hs : (liveL L).Sublist L := List.filter_sublist
  exact (hs.map _).nodup h
theorem RelIn.retype {B : Nat} {O : Own} {W : World} {i : Nat} {sa : Option Addr} {sn sc : Nat} {ia : Option Addr} {iN ic : Nat} {L L' : List Slot} {K : List IxD} (h : RelIn B O W i sa sn sc ia iN ic L K) (hs : RowL B O (.slots i) W 115 6 (.slice sa sn sc) L'.length (L'.flatMap Slot.enc)) (ht : L'.map (·.t) = L.map (·.t)) : RelIn B O W i sa sn sc ia iN ic L' K := by
  have hl : L'.length = L.length := by have := congrArg List.length ht; simpa using this
  refine ⟨hs, by rw [hl]; exact h.idx, fun j k hk => ?_⟩
  obtain ⟨g1, g2, g3⟩ := h.ixs j k hk
  exact ⟨g1, by rw [bsOf_congr ht]; exact g2, by rw [bsOf_congr ht, hl]; exact g3⟩
end Go.Proofs.Qxb6500789a
