import Derived.Test.Qxb6500789aXg
import Derived.StillTailTactics
import Derived.Deep.QuietTactic
import Derived.BigQuiet
import Derived.Deep.RegionHeld
import Derived.Deep.CutRange
import Derived.Laws.ResultCell
import Derived.Laws.Rows
import Derived.DeepKeys
import Derived.DataBytes
import Derived.Laws.StructEq
import Derived.Laws.AppendOwn
import Derived.Laws.MakeOwn
import Derived.Lib.AppendStr
set_option linter.unusedSimpArgs false
set_option linter.unusedVariables false
namespace Go.Proofs.Qxb6500789a
open Go.RowKit Go.Blk
attribute [local go_sem ↓] execOp_load execOp_store execOp_alloc
attribute [local go_sem] Try.ld29 Try.st29 Try.ld3 Try.st3 Try.ld9 Try.st9 Try.ld30 Try.st30 Try.ld34 Try.st34 Try.ld35 Try.st35 Try.ld36 Try.st36 Try.ld37 Try.st37 Try.ld44 Try.st44 Try.ld45 Try.st45 Try.ld54 Try.st54 Try.ld55 Try.st55 Try.ld74 Try.st74 Try.ld80 Try.st80 Try.ld84 Try.st84 Try.ld106 Try.st106 Try.ld107 Try.st107 Try.ld4 Try.st4 Try.ld121 Try.st121 Try.ld2 Try.st2 Try.ld5 Try.st5 Try.ld12 Try.st12 Try.ld21 Try.st21 Try.ld22 Try.st22 Try.ld24 Try.st24 Try.ld26 Try.st26 Try.ld63 Try.st63 Try.ld71 Try.st71 Try.ld103 Try.st103 Try.ld130 Try.st130 Try.ld133 Try.st133 Try.ld140 Try.st140 Try.ld152 Try.st152 Try.ld39 Try.st39 Try.ld32 Try.st32 Try.ld41 Try.st41 Try.ld47 Try.st47 Try.ld57 Try.st57 Try.ld62 Try.st62 Try.ld76 Try.st76 Try.ld82 Try.st82 Try.ld86 Try.st86 Try.ld109 Try.st109 Try.ld115 Try.st115 Try.ld123 Try.st123 Try.ld135 Try.st135 Try.al39 Try.al32 Try.al41 Try.al47 Try.al57 Try.al62 Try.al76 Try.al82 Try.al86 Try.al109 Try.al115 Try.al123 Try.al135
attribute [local go_sem] Answer.length_enc Answer.ok_enc Answer.all_get Answer.all_set Answer.code_get Answer.code_set Answer.n_get Answer.n_set Answer.name_get Answer.name_set Answer.rows_get Answer.rows_set GOp.length_enc GOp.ok_enc GOp.all_get GOp.all_set GOp.kind_get GOp.kind_set GOp.rel_get GOp.rel_set GOp.mask_get GOp.mask_set GOp.t_get GOp.t_set GOp.n_get GOp.n_set GOp.name_get GOp.name_set Store.length_enc Store.ok_enc Store.all_get Store.all_set Store.names_get Store.names_set Store.rels_get Store.rels_set GRel.length_enc GRel.ok_enc GRel.all_get GRel.all_set GRel.arity_get GRel.arity_set GRel.masks_get GRel.masks_set GRel.rows_get GRel.rows_set Row.length_enc Row.ok_enc Row.all_get Row.all_set Row.t_get Row.t_set Row.mark_get Row.mark_set View.length_enc View.ok_enc View.all_get View.all_set View.names_get View.names_set View.rels_get View.rels_set Symtab.length_enc Symtab.ok_enc Symtab.all_get Symtab.all_set Symtab.names_get Symtab.names_set Symtab.table_get Symtab.table_set StoreTuplestore.length_enc StoreTuplestore.ok_enc StoreTuplestore.all_get StoreTuplestore.all_set StoreTuplestore.syms_get StoreTuplestore.syms_set StoreTuplestore.rels_get StoreTuplestore.rels_set StoreTuplestore.syms_names_get StoreTuplestore.syms_names_set StoreTuplestore.syms_table_get StoreTuplestore.syms_table_set Relation.length_enc Relation.ok_enc Relation.all_get Relation.all_set Relation.arity_get Relation.arity_set Relation.slots_get Relation.slots_set Relation.live_get Relation.live_set Relation.idx_get Relation.idx_set Slot.length_enc Slot.ok_enc Slot.all_get Slot.all_set Slot.t_get Slot.t_set Slot.mark_get Slot.mark_set Slot.live_get Slot.live_set RelView.length_enc RelView.ok_enc RelView.all_get RelView.all_set RelView.arity_get RelView.arity_set RelView.rows_get RelView.rows_set RelView.marks_get RelView.marks_set RelView.indexed_get RelView.indexed_set Index.length_enc Index.ok_enc Index.all_get Index.all_set Index.mask_get Index.mask_set Index.heads_get Index.heads_set Index.next_get Index.next_set
attribute [local go_sem] size_put size_ext blk_put free_put blk_alloc free_alloc blk_drew free_drew blk_ext free_ext lookOr_some putOr_some segAt_some cellAt_some storeIn_some put_put put_alloc_new length_arr ok_arr_u8 ok_arr_u32 ok_arr_u64 ok_arr_i64 ok_arr_sl cellsV_agg cellsV_int cellsV_bool cellsV_string cellsV_pointer cellsV_slice cellsV_sl ok_int ok_bool ok_string ok_pointer ok_slice ok_sl toList_arr seg_arr set_arr nth_splice nth_splice0 seg_splice seg_splice0 splice_splice splice_splice0 length_splice_if
attribute [local go_sem ↓] execOp_box
attribute [local go_sem] box_run nth_arr_u8 put_arr_u8 blk_drewN free_drewN put_drewN blk_raw free_raw
/-- The number of the last place of b, counted from one; 0 if there is none. -/
def lastFrom (b : Nat) : List Nat → Nat → Nat → Nat
  | [], _, acc => acc
  | x :: l, i, acc => lastFrom b l (i + 1) (if x = b then i + 1 else acc)
def lastB (l : List Nat) (b : Nat) : Nat := lastFrom b l 0 0
theorem lastFrom_snoc (b x : Nat) : ∀ (l : List Nat) (i acc : Nat), lastFrom b (l ++ [x]) i acc = if x = b then i + l.length + 1 else lastFrom b l i acc
  | [], i, acc => by simp [lastFrom]
  | y :: l, i, acc => by
    rw [List.cons_append]
    show lastFrom b (l ++ [x]) (i + 1) _ = _
    rw [lastFrom_snoc b x l]
    by_cases h : x = b
    · rw [if_pos h, if_pos h, List.length_cons]; omega
    · rw [if_neg h, if_neg h]; rfl
theorem lastB_nil (b : Nat) : lastB [] b = 0 := rfl
theorem lastB_snoc (l : List Nat) (x b : Nat) : lastB (l ++ [x]) b = if x = b then l.length + 1 else lastB l b := by
  unfold lastB; rw [lastFrom_snoc, Nat.zero_add]
theorem snoc_ind {P : List Nat → Prop} (h0 : P []) (h1 : ∀ l x, P l → P (l ++ [x])) : ∀ l, P l := by
  intro l
  induction hn : l.length generalizing l with
  | zero => rw [List.eq_nil_of_length_eq_zero hn]; exact h0
  | succ n ih =>
    rcases List.eq_nil_or_concat l with rfl | ⟨l', x, rfl⟩
    · simp at hn
    · rw [List.concat_eq_append] at hn ⊢
      exact h1 l' x (ih l' (by simpa using hn))
theorem lastB_le (l : List Nat) (b : Nat) : lastB l b ≤ l.length := by
  refine snoc_ind (P := fun l => lastB l b ≤ l.length) (by simp [lastB_nil]) (fun l x ih => ?_) l
  rw [lastB_snoc, List.length_append, List.length_singleton]
  split <;> omega
theorem lastB_at (l : List Nat) (b : Nat) : ∀ n, lastB l b = n + 1 → l[n]? = some b := by
  refine snoc_ind (P := fun l => ∀ n, lastB l b = n + 1 → l[n]? = some b) (fun n h => by simp [lastB_nil] at h) (fun l x ih n h => ?_) l
  rw [lastB_snoc] at h
  by_cases hx : x = b
  · rw [if_pos hx] at h
    obtain rfl : n = l.length := by omega
    rw [List.getElem?_append_right (Nat.le_refl _), Nat.sub_self, hx]; rfl
  · rw [if_neg hx] at h
    have h1 := ih n h
    rw [List.getElem?_append_left (List.getElem?_eq_some_iff.1 h1).1]; exact h1
theorem lastB_gt (l : List Nat) (b : Nat) : ∀ j, lastB l b ≤ j → l[j]? ≠ some b := by
  refine snoc_ind (P := fun l => ∀ j, lastB l b ≤ j → l[j]? ≠ some b) (fun j h => by simp) (fun l x ih j h => ?_) l
  rw [lastB_snoc] at h
  by_cases hx : x = b
  · rw [if_pos hx] at h
    rw [List.getElem?_eq_none (by rw [List.length_append, List.length_singleton]; omega)]; simp
  · rw [if_neg hx] at h
    by_cases hj : j < l.length
    · rw [List.getElem?_append_left hj]; exact ih j h
    · rw [List.getElem?_append_right (by omega)]
      intro e
      have hj0 : j - l.length = 0 := by
        have := (List.getElem?_eq_some_iff.1 e).1
        simpa using this
      rw [hj0] at e
      exact hx (by simpa using e)
/-- What an index's two arrays hold, as a function of the slots' buckets. -/
def headsF (bs : List Nat) (size : Nat) : List Nat := (List.range size).map (lastB bs)
def nextF (bs : List Nat) : List Nat := (List.range bs.length).map (fun n => lastB (bs.take n) (bs.getD n 0))
theorem headsF_len (bs : List Nat) (size : Nat) : (headsF bs size).length = size := by simp [headsF]
theorem nextF_len (bs : List Nat) : (nextF bs).length = bs.length := by simp [nextF]
theorem headsF_at (bs : List Nat) {size b : Nat} (h : b < size) : (headsF bs size)[b]? = some (lastB bs b) := by
  unfold headsF; rw [List.getElem?_map, List.getElem?_range h]; rfl
theorem nextF_at (bs : List Nat) {n : Nat} (h : n < bs.length) : (nextF bs)[n]? = some (lastB (bs.take n) (bs.getD n 0)) := by
  unfold nextF; rw [List.getElem?_map, List.getElem?_range h]; rfl
theorem headsF_nil (size : Nat) : headsF [] size = List.replicate size 0 := by
  apply List.ext_getElem?
  intro i
  by_cases h : i < size
  · rw [headsF_at _ h, List.getElem?_replicate, if_pos h]; rfl
  · rw [List.getElem?_eq_none (by rw [headsF_len]; omega), List.getElem?_eq_none (by simp; omega)]
theorem headsF_snoc (bs : List Nat) (b size : Nat) (hb : b < size) : headsF (bs ++ [b]) size = (headsF bs size).set b (bs.length + 1) := by
  apply List.ext_getElem?
  intro i
  rw [List.getElem?_set]
  by_cases h : i < size
  · rw [headsF_at _ h, lastB_snoc]
    by_cases hbi : b = i
    · rw [if_pos hbi, if_pos hbi, if_pos (by rw [headsF_len]; exact hb)]
    · rw [if_neg hbi, if_neg hbi, headsF_at _ h]
  · rw [List.getElem?_eq_none (by rw [headsF_len]; omega)]
    rw [if_neg (by omega), List.getElem?_eq_none (by rw [headsF_len]; omega)]
theorem nextF_snoc (bs : List Nat) (b : Nat) : nextF (bs ++ [b]) = nextF bs ++ [lastB bs b] := by
  apply List.ext_getElem?
  intro i
  by_cases h : i < bs.length
  · rw [nextF_at _ (by rw [List.length_append]; omega), List.getElem?_append_left (by rw [nextF_len]; exact h), nextF_at _ h]
    rw [List.take_append_of_le_length (by omega), List.getD_eq_getElem?_getD, List.getD_eq_getElem?_getD, List.getElem?_append_left h]
  · by_cases h2 : i = bs.length
    · subst h2
      rw [nextF_at _ (by simp), List.getElem?_append_right (by rw [nextF_len]; omega), nextF_len, Nat.sub_self]
      rw [List.take_append_of_le_length (Nat.le_refl _), List.take_length, List.getD_eq_getElem?_getD, List.getElem?_append_right (Nat.le_refl _), Nat.sub_self]
      rfl
    · rw [List.getElem?_eq_none (by rw [nextF_len, List.length_append, List.length_singleton]; omega), List.getElem?_eq_none (by rw [List.length_append, nextF_len, List.length_singleton]; omega)]
def ixE (m : Int) (ha : Option Addr) (hn hc : Nat) (xa : Option Addr) (xn xc : Nat) : List Value := [.int .i64 m, .slice ha hn hc, .slice xa xn xc]
def isIx (i j : Nat) (l : Lab) : Prop := l = .heads i j ∨ l = .next i j ∨ l = .idx i
theorem bslice80 (w : World) (x : Int) : (bsliceOp 80 1 #[(0, .int .i64 x)]).run Try.prog w = .ok (.value (.slice (some ⟨w.heap.size, 0, none⟩) 1 1)) (w.alloc (.cells #[.int .i64 x] 3)) := by kernel_rfl
def LinkPost (B : Nat) (O : Own) (W : World) (gi q : Nat) (Ci : List Value) (ty : TypeId) (i j : Nat) (ha : Option Addr) (hn hc xn : Nat) (H' X' : List Nat) (e : Ending) (W' : World) : Prop := e = .returned (.tuple #[]) ∧ ∃ O' xa' xc', Fr (isIx i j) O W O' W' ∧ W'.heap[gi]? = some (.cells (splice Ci (q + 2) [.slice xa' (xn + 1) xc']).toArray ty (0, 0)) ∧ RowL B O' (.heads i j) W' 3 1 (.slice ha hn hc) H'.length (H'.flatMap encK) ∧ RowL B O' (.next i j) W' 3 1 (.slice xa' (xn + 1) xc') X'.length (X'.flatMap encK)
attribute [local go_sem] bslice80
attribute [local go_sem ↓] execOp_make execOp_bslice
set_option maxRecDepth 20000 in
set_option maxHeartbeats 4000000 in
theorem link_any (B : Nat) (O : Own) (W : World) (gi q : Nat) (Ci : List Value) (i j : Nat) (m : Nat) (ha : Option Addr) (hn hc : Nat) (xa : Option Addr) (xn xc : Nat) (H X : List Nat) (t : Tup)
    (ty : TypeId) (hty : W.heap[gi]? = some (.cells Ci.toArray ty (0, 0))) (hog : O gi = .idx i) (hseg : seg Ci q 3 = ixE (m : Int) ha hn hc xa xn xc) (hq : q + 3 ≤ Ci.length) (hH : RowL B O (.heads i j) W 3 1 (.slice ha hn hc) H.length (H.flatMap encK)) (hX : RowL B O (.next i j) W 3 1 (.slice xa xn xc) X.length (X.flatMap encK))
    (hm : m < 16) (jj : Nat) (hjj : hn = 2 ^ jj) (hj20 : jj ≤ 20) (hxn : xn ≤ 1000000) (hB : B ≤ W.heap.size) :
    Calls Try.prog 82 #[.pointer (some ⟨gi, q, none⟩), .int .i64 (xn : Int), .agg (arr i64v t).toArray] W (LinkPost B O W gi q Ci ty i j ha hn hc xn (H.set (bF t m hn) (xn + 1)) (X ++ [H.getD (bF t m hn) 0])) := by
  have hb : blk W gi = some Ci := blk_mk hty
  have hf : free W gi = true := free_mk hty
  have u0 : nth Ci q = some (.int .i64 (m : Int)) := nth_in (j := 0) hseg (show nth (ixE (m : Int) ha hn hc xa xn xc) 0 = some _ from rfl) (by omega)
  have u1 : nth Ci (q + 1) = some (.slice ha hn hc) := nth_in (j := 1) hseg (show nth (ixE (m : Int) ha hn hc xa xn xc) 1 = some _ from rfl) (by omega)
  have u2 : nth Ci (q + 2) = some (.slice xa xn xc) := nth_in (j := 2) hseg (show nth (ixE (m : Int) ha hn hc xa xn xc) 2 = some _ from rfl) (by omega)
  have hpos : 0 < hn := by rw [hjj]; exact Nat.two_pow_pos jj
  have hle : hn ≤ 1048576 := by rw [hjj]; exact Nat.pow_le_pow_right (n := 2) (by decide) hj20
  obtain ⟨p, hp⟩ : ∃ p, p = bF t m hn := ⟨_, rfl⟩
  have hpl : p < hn := by rw [hp]; exact Nat.mod_lt _ hpos
  have HP : Hid (p = bF t m hn) := hp
  rw [← hp]
  have hHr := (hH.rw encK_len).1
  obtain ⟨h, hh⟩ : ∃ h, H[p]? = some h := ⟨_, List.getElem?_eq_getElem (by rw [hHr.1]; exact hpl)⟩
  have hgd : H.getD p 0 = h := by rw [List.getD_eq_getElem?_getD, hh]; rfl
  rw [hgd]
  have HJ : Hid (hn = 2 ^ jj) := hjj
  have HH : Hid (RowL B O (.heads i j) W 3 1 (.slice ha hn hc) H.length (H.flatMap encK)) := hH
  have HX : Hid (RowL B O (.next i j) W 3 1 (.slice xa xn xc) X.length (X.flatMap encK)) := hX
  have HOG : Hid (O gi = .idx i) := hog
  have HHH : Hid (H[p]? = some h) := hh
  have HXL : Hid (X.length = xn) := (hX.rw encK_len).1.1
  clear hp hH hX hHr hgd hjj hog hh hseg
  go_enter Try.func82, Try.ntmps82
  go_upto_region 1 with fail
  refine wp_world (fun W0 => blk W0 W.heap.size = some (arr i64v t) ∧ Hid (W.Extends W0)) ⟨?_, extends_alloc (ext_Ext (Ext.refl _)) _⟩ ?_
  · rw [blk_alloc, if_pos rfl]
  rintro W0 ⟨hb5, HE0⟩
  obtain ⟨b5, e5⟩ : ∃ b5, b5 = W.heap.size := ⟨_, rfl⟩
  rw [← e5] at hb5 ⊢
  clear e5
  go_wp2_with fail
  refine (bucket_any W0 gi q Ci ((HE0.out.blk (blk_lt hb)).trans hb) m ha hn hc u0 u1 hq t hm jj HJ.out hj20).mono ?_
  rintro e W1 ⟨rfl, hE1⟩
  rw [← HP.out]
  have hEE : W.Extends W1 := HE0.out.trans hE1
  have F1 : Fr (isIx i j) O W O W1.drew := Fr.of_extends (extends_drew hEE)
  have hb1 : blk W1 gi = some Ci := (hEE.blk (blk_lt hb)).trans hb
  have hf1 : free W1 gi = true := (free_of_heap (hEE.block gi (blk_lt hb))).trans hf
  have hH1 : RowL B O (.heads i j) W1.drew 3 1 (.slice ha hn hc) H.length (H.flatMap encK) := HH.out.keep (fun k hk _ => ⟨hEE.block k hk, rfl⟩)
  have hX1 : RowL B O (.next i j) W1.drew 3 1 (.slice xa xn xc) X.length (X.flatMap encK) := HX.out.keep (fun k hk _ => ⟨hEE.block k hk, rfl⟩)
  obtain ⟨gh, Ch, hha, hCh, hhc, _, uh⟩ := rw_cell (v := .int .i64 (h : Int)) (hH1.rw encK_len).1 HHH.out rfl
  subst hha
  have hoh : O gh = .heads i j := hH1.2 gh rfl
  obtain ⟨xa2, xc2, W3, hrun, hrow, hfr3⟩ := appL encK 1 8 80 3 Try.underlying80 info3 encK_len encK_one (by omega) (by omega) (W := W1.drew) 80 h hX1 (Nat.le_trans hB hEE.size) (by rw [HXL.out]; omega) #[.int .i64 (h : Int)] rfl 1
  obtain ⟨O3, hO3⟩ : ∃ O3, O3 = lab O W1.drew.heap.size (.next i j) := ⟨_, rfl⟩
  rw [← hO3] at hrow hfr3
  clear hO3
  have hb3 : blk W3 gi = some Ci := hfr3.blk (C := Ci) hb1 (by rw [HOG.out]; intro e; cases e)
  have hf3 : free W3 gi = true := hfr3.free (C := Ci) hb1 hf1 (by rw [HOG.out]; intro e; cases e)
  have hty3 : W3.heap[gi]? = some (.cells Ci.toArray ty (0, 0)) := ((hfr3.block gi (blk_lt hb1) (by rw [HOG.out]; intro e; cases e)).trans (hEE.block gi (blk_lt hb))).trans hty
  have hog3 : O3 gi = .idx i := (hfr3.keep gi (blk_lt hb1)).trans HOG.out
  have hH3 : RowL B O3 (.heads i j) W3 3 1 (.slice (some ⟨gh, 0, none⟩) hn hc) H.length (H.flatMap encK) := hH1.fr hfr3 (by intro e; cases e)
  obtain ⟨g', Ch3, z1, hCh3, hfh3, hog', _, hchl, hrowH⟩ := tab_put (v := xn + 1) hH3 hpos hpl
  injection z1 with z1; injection z1 with z1
  subst z1
  have hghi : gh ≠ gi := fun e => by rw [e, hog3] at hog'; cases hog'
  have HFIN : Hid (LinkPost B O W gi q Ci ty i j (some ⟨gh, 0, none⟩) hn hc xn (H.set p (xn + 1)) (X ++ [h]) (.returned (.tuple #[])) (put (put W3 gi (splice Ci (q + 2) [.slice xa2 (xn + 1) xc2])) gh (splice Ch3 p [.int .i64 ((xn : Int) + 1)]))) := by
    have ec : ((xn : Int) + 1) = ((xn + 1 : Nat) : Int) := by omega
    rw [ec]
    refine ⟨rfl, O3, xa2, xc2, ?_, ?_, ?_, ?_⟩
    · have f2 := F1.trans (hfr3.mono (L' := isIx i j) (fun l hl => by rw [hl]; exact .inr (.inl rfl)))
      exact (f2.put (b := gi) (by rw [hog3]; exact .inr (.inr rfl)) _).put (b := gh) (by rw [hog']; exact .inl rfl) _
    · rw [heap_put, if_neg (Ne.symm hghi), heap_put, if_pos rfl, hty3]; rfl
    · refine hrowH.keep (fun k hk ho => ⟨?_, rfl⟩)
      by_cases e : k = gh
      · rw [e, heap_put, if_pos rfl, heap_put, if_neg hghi, heap_put, if_pos rfl]
      · rw [heap_put, if_neg e, heap_put, if_neg (fun e => by rw [e, hog3] at ho; cases ho), heap_put, if_neg e]
    · refine hrow.keep (fun k hk ho => ⟨?_, rfl⟩)
      rw [heap_put, if_neg (fun e => by rw [e, hog'] at ho; cases ho), heap_put, if_neg (fun e => by rw [e, hog3] at ho; cases ho)]
  have hb1d : blk W1.drew gi = some Ci := hb1
  have hChd : blk W1.drew gh = some Ch := hCh
  have hCh3' : blk (put W3 gi (splice Ci (q + 2) [.slice xa2 (xn + 1) xc2])) gh = some Ch3 := by rw [blk_put, if_neg hghi]; exact hCh3
  have hfh3' : free (put W3 gi (splice Ci (q + 2) [.slice xa2 (xn + 1) xc2])) gh = true := by rw [free_put]; exact hfh3
  have hbA : blk (W1.drew.alloc (.cells #[.int .i64 (h : Int)] 3)) gi = some Ci := by
    have := blk_lt hb1d
    rw [blk_alloc, if_neg (by omega)]; exact hb1d
  have hChA : blk (W1.drew.alloc (.cells #[.int .i64 (h : Int)] 3)) gh = some Ch := by
    have := blk_lt hChd
    rw [blk_alloc, if_neg (by omega)]; exact hChd
  have hChW3 : blk W3 gh = some Ch := hfr3.blk hChd (by rw [hoh]; intro e; cases e)
  have q0 : (0 : Int) ≤ (p : Int) := by omega
  have q1 : (p : Int) < (hn : Int) := by omega
  have q2 : ((p : Int)).toNat = p := by omega
  have ngi : ¬ gi = W1.heap.size := Nat.ne_of_lt (blk_lt hb1)
  have l1 : q + 1 + 1 ≤ Ci.length := by omega
  have l2 : q + 2 + 1 ≤ Ci.length := by omega
  have l2' : q + 2 < Ci.length := by omega
  have sl1 : (splice Ci (q + 2) [.slice xa2 (xn + 1) xc2]).length = Ci.length := length_splice1 l2'
  have u1' : nth (splice Ci (q + 2) [.slice xa2 (xn + 1) xc2]) (q + 1) = some (.slice (some ⟨gh, 0, none⟩) hn hc) := by
    rw [splice_nth l2', if_neg (by omega)]; exact u1
  clear hrow hfr3 hH3 hrowH hH1 hX1 F1 HH HX hE1
  dsimp only
  go_upto_region 2 with fail
  refine wp_region_held_drew (S := fun W' => (∃ C, blk W' gi = some C ∧ C.length = Ci.length ∧ nth C (q + 1) = some (.slice (some ⟨gh, 0, none⟩) hn hc)) ∧ blk W' gh = some Ch) (by kernel_rfl) ⟨⟨Ci, hb1d, rfl, u1⟩, hChd⟩ (fun hHeld => ?_)
  refine wpAnyH_take (i := 0) (oi := ⟨_, _, _, _, _, _⟩) (v := ?_) rfl (by kernel_rfl) (by kernel_rfl) (by kernel_rfl) (fun _ _ _ h => h) (Or.inl ⟨by rfl, ?_⟩) (by assumption) ?_
  rotate_left 1
  · intro W' hSw
    obtain ⟨⟨C9, hS1, hS2, hS3⟩, hS4⟩ := hSw
    have hS5 : q + 1 + 1 ≤ C9.length := by omega
    go_simp
    try with_reducible rfl
  try simp only [Act.put, List.setIfInBounds_toArray, List.set_cons_zero, List.set_cons_succ]
  refine wpAnyH_take (i := 1) (oi := ⟨_, _, _, _, _, _⟩) (v := ?_) rfl (by kernel_rfl) (by kernel_rfl) (by kernel_rfl) (fun _ _ _ h => h) (Or.inl ⟨by rfl, ?_⟩) (by assumption) ?_
  rotate_left 1
  · intro W' hSw
    obtain ⟨⟨C9, hS1, hS2, hS3⟩, hS4⟩ := hSw
    have hS5 : q + 1 + 1 ≤ C9.length := by omega
    go_simp
    try with_reducible rfl
  try simp only [Act.put, List.setIfInBounds_toArray, List.set_cons_zero, List.set_cons_succ]
  refine wpAnyH_take (i := 2) (oi := ⟨_, _, _, _, _, _⟩) (v := ?_) rfl (by kernel_rfl) (by kernel_rfl) (by kernel_rfl) (fun _ _ _ h => h) (Or.inl ⟨by rfl, ?_⟩) (by assumption) ?_
  rotate_left 1
  · intro W' hSw
    obtain ⟨⟨C9, hS1, hS2, hS3⟩, hS4⟩ := hSw
    have hS5 : q + 1 + 1 ≤ C9.length := by omega
    go_simp
    try with_reducible rfl
  try simp only [Act.put, List.setIfInBounds_toArray, List.set_cons_zero, List.set_cons_succ]
  refine wpAnyH_take (i := 3) (oi := ⟨_, _, _, _, _, _⟩) (v := ?_) rfl (by kernel_rfl) (by kernel_rfl) (by kernel_rfl) (fun _ _ _ h => h) (Or.inl ⟨by rfl, ?_⟩) (by assumption) ?_
  rotate_left 1
  · intro W' hSw
    obtain ⟨⟨C9, hS1, hS2, hS3⟩, hS4⟩ := hSw
    have hS5 : q + 1 + 1 ≤ C9.length := by omega
    go_simp
    try with_reducible rfl
  try simp only [Act.put, List.setIfInBounds_toArray, List.set_cons_zero, List.set_cons_succ]
  refine wpAnyH_take (i := 5) (oi := ⟨_, _, _, _, _, _⟩) (v := ?_) rfl (by kernel_rfl) (by kernel_rfl) (by kernel_rfl) (fun _ _ _ h => h) (Or.inl ⟨by rfl, ?_⟩) (by assumption) ?_
  rotate_left 1
  · intro W' hSw
    obtain ⟨⟨C9, hS1, hS2, hS3⟩, hS4⟩ := hSw
    have hS5 : q + 1 + 1 ≤ C9.length := by omega
    go_simp
    try with_reducible rfl
  try simp only [Act.put, List.setIfInBounds_toArray, List.set_cons_zero, List.set_cons_succ]
  refine wpAnyH_take (i := 6) (oi := ⟨_, _, _, _, _, _⟩) (v := ?_) rfl (by kernel_rfl) (by kernel_rfl) (by kernel_rfl) (fun _ _ _ h => h) (Or.inl ⟨by rfl, ?_⟩) (by assumption) ?_
  rotate_left 1
  · intro W' hSw
    obtain ⟨⟨C9, hS1, hS2, hS3⟩, hS4⟩ := hSw
    have hS5 : q + 1 + 1 ≤ C9.length := by omega
    go_simp
    try with_reducible rfl
  try simp only [Act.put, List.setIfInBounds_toArray, List.set_cons_zero, List.set_cons_succ]
  refine wpAnyH_take (i := 7) (oi := ⟨_, _, _, _, _, _⟩) (v := ?_) rfl (by kernel_rfl) (by kernel_rfl) (by kernel_rfl) (fun _ _ _ h => h) (Or.inl ⟨by rfl, ?_⟩) (by assumption) ?_
  rotate_left 1
  · intro W' hSw
    obtain ⟨⟨C9, hS1, hS2, hS3⟩, hS4⟩ := hSw
    have hS5 : q + 1 + 1 ≤ C9.length := by omega
    go_simp
    try with_reducible rfl
  try simp only [Act.put, List.setIfInBounds_toArray, List.set_cons_zero, List.set_cons_succ]
  refine wpAnyH_take (i := 8) (oi := ⟨_, _, _, _, _, _⟩) (v := ?_) rfl (by kernel_rfl) (by kernel_rfl) (by kernel_rfl) (fun _ _ _ h => h) (Or.inl ⟨by rfl, ?_⟩) (by assumption) ?_
  rotate_left 1
  · intro W' hSw
    obtain ⟨⟨C9, hS1, hS2, hS3⟩, hS4⟩ := hSw
    have hS5 : q + 1 + 1 ≤ C9.length := by omega
    go_simp
    try with_reducible rfl
  try simp only [Act.put, List.setIfInBounds_toArray, List.set_cons_zero, List.set_cons_succ]
  refine wpAnyH_take (i := 9) (oi := ⟨_, _, _, _, _, _⟩) (v := ?_) rfl (by kernel_rfl) (by kernel_rfl) (by kernel_rfl) (fun _ _ _ h => h) (Or.inl ⟨by rfl, ?_⟩) (by assumption) ?_
  rotate_left 1
  · intro W' hSw
    obtain ⟨⟨C9, hS1, hS2, hS3⟩, hS4⟩ := hSw
    have hS5 : q + 1 + 1 ≤ C9.length := by omega
    go_simp
    try with_reducible rfl
  try simp only [Act.put, List.setIfInBounds_toArray, List.set_cons_zero, List.set_cons_succ]
  refine wpAnyH_take (i := 10) (oi := ⟨_, _, _, _, _, _⟩) (v := ?_) rfl (by kernel_rfl) (by kernel_rfl) (by kernel_rfl) (fun _ _ _ h => h) (Or.inl ⟨by rfl, ?_⟩) (by assumption) ?_
  rotate_left 1
  · intro W' hSw
    obtain ⟨⟨C9, hS1, hS2, hS3⟩, hS4⟩ := hSw
    have hS5 : q + 1 + 1 ≤ C9.length := by omega
    go_simp
    try with_reducible rfl
  try simp only [Act.put, List.setIfInBounds_toArray, List.set_cons_zero, List.set_cons_succ]
  refine wpAnyH_take (i := 11) (oi := ⟨_, _, _, _, _, _⟩) (v := ?_) rfl (by kernel_rfl) (by kernel_rfl) (by kernel_rfl) (fun _ _ _ h => h) (Or.inl ⟨by rfl, ?_⟩) (by assumption) ?_
  rotate_left 1
  · intro W' hSw
    obtain ⟨⟨C9, hS1, hS2, hS3⟩, hS4⟩ := hSw
    have hS5 : q + 1 + 1 ≤ C9.length := by omega
    go_simp
    try with_reducible rfl
  try simp only [Act.put, List.setIfInBounds_toArray, List.set_cons_zero, List.set_cons_succ]
  refine wpAnyH_ready (rs := [4, 12]) (by kernel_rfl) (by simp) ?_
  refine AllReadyH.cons (o := ⟨_, _, _, _, _, _⟩) rfl (fun K' hK => ?_) (AllReadyH.cons (o := ⟨_, _, _, _, _, _⟩) rfl (fun K' hK => ?_) AllReadyH.nil)
  · go_simp
    refine hK.out _ _ ⟨⟨Ci, hb1d, rfl, u1⟩, hChd⟩ (fun hHeld => ?_)
    clear hK K'
    try simp only [Act.put, List.setIfInBounds_toArray, List.set_cons_zero, List.set_cons_succ]
    refine wpAnyH_ready (rs := [12]) (by kernel_rfl) (by simp) ?_
    refine AllReadyH.cons (o := ⟨_, _, _, _, _, _⟩) rfl (fun K' hK => ?_) AllReadyH.nil
    go_simp
    refine hK.out _ _ ⟨⟨Ci, hbA, rfl, u1⟩, hChA⟩ (fun hHeld => ?_)
    clear hK K'
    try simp only [Act.put, List.setIfInBounds_toArray, List.set_cons_zero, List.set_cons_succ]
    refine wpAnyH_ready (rs := [13]) (by kernel_rfl) (by simp) ?_
    refine AllReadyH.cons (o := ⟨_, _, _, _, _, _⟩) rfl (fun K' hK => ?_) AllReadyH.nil
    refine wp_append_run _ _ 80 rfl _ _ _ _ rfl rfl hrun ?_
    refine hK.out _ _ ⟨⟨Ci, hb3, rfl, u1⟩, hChW3⟩ (fun hHeld => ?_)
    clear hK K'
    try simp only [Act.put, List.setIfInBounds_toArray, List.set_cons_zero, List.set_cons_succ]
    refine wpAnyH_take (i := 14) (oi := ⟨_, _, _, _, _, _⟩) (v := ?_) rfl (by kernel_rfl) (by kernel_rfl) (by kernel_rfl) (fun _ _ _ h => h) (Or.inl ⟨by rfl, ?_⟩) (by assumption) ?_
    rotate_left 1
    · intro W' hSw
      obtain ⟨⟨C9, hS1, hS2, hS3⟩, hS4⟩ := hSw
      have hS5 : q + 1 + 1 ≤ C9.length := by omega
      go_simp
      try with_reducible rfl
    try simp only [Act.put, List.setIfInBounds_toArray, List.set_cons_zero, List.set_cons_succ]
    refine wpAnyH_take (i := 15) (oi := ⟨_, _, _, _, _, _⟩) (v := ?_) rfl (by kernel_rfl) (by kernel_rfl) (by kernel_rfl) (fun _ _ _ h => h) (Or.inl ⟨by rfl, ?_⟩) (by assumption) ?_
    rotate_left 1
    · intro W' hSw
      obtain ⟨⟨C9, hS1, hS2, hS3⟩, hS4⟩ := hSw
      have hS5 : q + 1 + 1 ≤ C9.length := by omega
      go_simp
      try with_reducible rfl
    try simp only [Act.put, List.setIfInBounds_toArray, List.set_cons_zero, List.set_cons_succ]
    refine wpAnyH_ready (rs := [16]) (by kernel_rfl) (by simp) ?_
    refine AllReadyH.cons (o := ⟨_, _, _, _, _, _⟩) rfl (fun K' hK => ?_) AllReadyH.nil
    go_simp
    refine hK.out _ _ ⟨⟨splice Ci (q + 2) [.slice xa2 (xn + 1) xc2], ?_, sl1, u1'⟩, ?_⟩ (fun hHeld => ?_)
    · rw [blk_put, if_pos rfl, hb3]; rfl
    · rw [blk_put, if_neg hghi]; exact hChW3
    clear hK K'
    try simp only [Act.put, List.setIfInBounds_toArray, List.set_cons_zero, List.set_cons_succ]
    refine wpAnyH_done (by kernel_rfl) ?_ _
    go_wp2_with fail
    go_end0
    exact HFIN.out
  · go_simp
    refine hK.out _ _ ⟨⟨Ci, hbA, rfl, u1⟩, hChA⟩ (fun hHeld => ?_)
    clear hK K'
    try simp only [Act.put, List.setIfInBounds_toArray, List.set_cons_zero, List.set_cons_succ]
    refine wpAnyH_ready (rs := [4]) (by kernel_rfl) (by simp) ?_
    refine AllReadyH.cons (o := ⟨_, _, _, _, _, _⟩) rfl (fun K' hK => ?_) AllReadyH.nil
    go_simp
    refine hK.out _ _ ⟨⟨Ci, hbA, rfl, u1⟩, hChA⟩ (fun hHeld => ?_)
    clear hK K'
    try simp only [Act.put, List.setIfInBounds_toArray, List.set_cons_zero, List.set_cons_succ]
    refine wpAnyH_ready (rs := [13]) (by kernel_rfl) (by simp) ?_
    refine AllReadyH.cons (o := ⟨_, _, _, _, _, _⟩) rfl (fun K' hK => ?_) AllReadyH.nil
    refine wp_append_run _ _ 80 rfl _ _ _ _ rfl rfl hrun ?_
    refine hK.out _ _ ⟨⟨Ci, hb3, rfl, u1⟩, hChW3⟩ (fun hHeld => ?_)
    clear hK K'
    try simp only [Act.put, List.setIfInBounds_toArray, List.set_cons_zero, List.set_cons_succ]
    refine wpAnyH_take (i := 14) (oi := ⟨_, _, _, _, _, _⟩) (v := ?_) rfl (by kernel_rfl) (by kernel_rfl) (by kernel_rfl) (fun _ _ _ h => h) (Or.inl ⟨by rfl, ?_⟩) (by assumption) ?_
    rotate_left 1
    · intro W' hSw
      obtain ⟨⟨C9, hS1, hS2, hS3⟩, hS4⟩ := hSw
      have hS5 : q + 1 + 1 ≤ C9.length := by omega
      go_simp
      try with_reducible rfl
    try simp only [Act.put, List.setIfInBounds_toArray, List.set_cons_zero, List.set_cons_succ]
    refine wpAnyH_take (i := 15) (oi := ⟨_, _, _, _, _, _⟩) (v := ?_) rfl (by kernel_rfl) (by kernel_rfl) (by kernel_rfl) (fun _ _ _ h => h) (Or.inl ⟨by rfl, ?_⟩) (by assumption) ?_
    rotate_left 1
    · intro W' hSw
      obtain ⟨⟨C9, hS1, hS2, hS3⟩, hS4⟩ := hSw
      have hS5 : q + 1 + 1 ≤ C9.length := by omega
      go_simp
      try with_reducible rfl
    try simp only [Act.put, List.setIfInBounds_toArray, List.set_cons_zero, List.set_cons_succ]
    refine wpAnyH_ready (rs := [16]) (by kernel_rfl) (by simp) ?_
    refine AllReadyH.cons (o := ⟨_, _, _, _, _, _⟩) rfl (fun K' hK => ?_) AllReadyH.nil
    go_simp
    refine hK.out _ _ ⟨⟨splice Ci (q + 2) [.slice xa2 (xn + 1) xc2], ?_, sl1, u1'⟩, ?_⟩ (fun hHeld => ?_)
    · rw [blk_put, if_pos rfl, hb3]; rfl
    · rw [blk_put, if_neg hghi]; exact hChW3
    clear hK K'
    try simp only [Act.put, List.setIfInBounds_toArray, List.set_cons_zero, List.set_cons_succ]
    refine wpAnyH_done (by kernel_rfl) ?_ _
    go_wp2_with fail
    go_end0
    exact HFIN.out
end Go.Proofs.Qxb6500789a
