import Derived.Test.Qxb6500789aXd
import Derived.StillTailTactics
import Derived.Deep.QuietTactic
import Derived.BigQuiet
import Derived.Deep.RegionHeld
import Derived.Deep.CutRange
import Derived.Laws.ResultCell
import Derived.Laws.Rows
import Derived.DeepKeys
import Derived.DataBytes
import Derived.Laws.StructEq
import Derived.Laws.AppendOwn
import Derived.Laws.MakeOwn
import Derived.Lib.AppendStr
set_option linter.unusedSimpArgs false
set_option linter.unusedVariables false
namespace Go.Proofs.Qxb6500789a
open Go.RowKit Go.Blk
attribute [local go_sem ↓] execOp_load execOp_store execOp_alloc
attribute [local go_sem] Try.ld29 Try.st29 Try.ld3 Try.st3 Try.ld9 Try.st9 Try.ld30 Try.st30 Try.ld34 Try.st34 Try.ld35 Try.st35 Try.ld36 Try.st36 Try.ld37 Try.st37 Try.ld44 Try.st44 Try.ld45 Try.st45 Try.ld54 Try.st54 Try.ld55 Try.st55 Try.ld74 Try.st74 Try.ld80 Try.st80 Try.ld84 Try.st84 Try.ld106 Try.st106 Try.ld107 Try.st107 Try.ld4 Try.st4 Try.ld121 Try.st121 Try.ld2 Try.st2 Try.ld5 Try.st5 Try.ld12 Try.st12 Try.ld21 Try.st21 Try.ld22 Try.st22 Try.ld24 Try.st24 Try.ld26 Try.st26 Try.ld63 Try.st63 Try.ld71 Try.st71 Try.ld103 Try.st103 Try.ld130 Try.st130 Try.ld133 Try.st133 Try.ld140 Try.st140 Try.ld152 Try.st152 Try.ld39 Try.st39 Try.ld32 Try.st32 Try.ld41 Try.st41 Try.ld47 Try.st47 Try.ld57 Try.st57 Try.ld62 Try.st62 Try.ld76 Try.st76 Try.ld82 Try.st82 Try.ld86 Try.st86 Try.ld109 Try.st109 Try.ld115 Try.st115 Try.ld123 Try.st123 Try.ld135 Try.st135 Try.al39 Try.al32 Try.al41 Try.al47 Try.al57 Try.al62 Try.al76 Try.al82 Try.al86 Try.al109 Try.al115 Try.al123 Try.al135
attribute [local go_sem] Answer.length_enc Answer.ok_enc Answer.all_get Answer.all_set Answer.code_get Answer.code_set Answer.n_get Answer.n_set Answer.name_get Answer.name_set Answer.rows_get Answer.rows_set GOp.length_enc GOp.ok_enc GOp.all_get GOp.all_set GOp.kind_get GOp.kind_set GOp.rel_get GOp.rel_set GOp.mask_get GOp.mask_set GOp.t_get GOp.t_set GOp.n_get GOp.n_set GOp.name_get GOp.name_set Store.length_enc Store.ok_enc Store.all_get Store.all_set Store.names_get Store.names_set Store.rels_get Store.rels_set GRel.length_enc GRel.ok_enc GRel.all_get GRel.all_set GRel.arity_get GRel.arity_set GRel.masks_get GRel.masks_set GRel.rows_get GRel.rows_set Row.length_enc Row.ok_enc Row.all_get Row.all_set Row.t_get Row.t_set Row.mark_get Row.mark_set View.length_enc View.ok_enc View.all_get View.all_set View.names_get View.names_set View.rels_get View.rels_set Symtab.length_enc Symtab.ok_enc Symtab.all_get Symtab.all_set Symtab.names_get Symtab.names_set Symtab.table_get Symtab.table_set StoreTuplestore.length_enc StoreTuplestore.ok_enc StoreTuplestore.all_get StoreTuplestore.all_set StoreTuplestore.syms_get StoreTuplestore.syms_set StoreTuplestore.rels_get StoreTuplestore.rels_set StoreTuplestore.syms_names_get StoreTuplestore.syms_names_set StoreTuplestore.syms_table_get StoreTuplestore.syms_table_set Relation.length_enc Relation.ok_enc Relation.all_get Relation.all_set Relation.arity_get Relation.arity_set Relation.slots_get Relation.slots_set Relation.live_get Relation.live_set Relation.idx_get Relation.idx_set Slot.length_enc Slot.ok_enc Slot.all_get Slot.all_set Slot.t_get Slot.t_set Slot.mark_get Slot.mark_set Slot.live_get Slot.live_set RelView.length_enc RelView.ok_enc RelView.all_get RelView.all_set RelView.arity_get RelView.arity_set RelView.rows_get RelView.rows_set RelView.marks_get RelView.marks_set RelView.indexed_get RelView.indexed_set Index.length_enc Index.ok_enc Index.all_get Index.all_set Index.mask_get Index.mask_set Index.heads_get Index.heads_set Index.next_get Index.next_set
attribute [local go_sem] size_put size_ext blk_put free_put blk_alloc free_alloc blk_drew free_drew blk_ext free_ext lookOr_some putOr_some segAt_some cellAt_some storeIn_some put_put put_alloc_new length_arr ok_arr_u8 ok_arr_u32 ok_arr_u64 ok_arr_i64 ok_arr_sl cellsV_agg cellsV_int cellsV_bool cellsV_string cellsV_pointer cellsV_slice cellsV_sl ok_int ok_bool ok_string ok_pointer ok_slice ok_sl toList_arr seg_arr set_arr nth_splice nth_splice0 seg_splice seg_splice0 splice_splice splice_splice0 length_splice_if
attribute [local go_sem ↓] execOp_box
attribute [local go_sem] box_run nth_arr_u8 put_arr_u8 blk_drewN free_drewN put_drewN blk_raw free_raw
theorem bslice44 (w : World) (s : List UInt8) : (bsliceOp 44 1 #[(0, .string ⟨s.toArray⟩)]).run Try.prog w = .ok (.value (.slice (some ⟨w.heap.size, 0, none⟩) 1 1)) (w.alloc (.cells (encS s).toArray 9)) := by kernel_rfl
theorem drew_drewN (W : World) (k : Nat) : W.drew.drewN k = W.drewN (1 + k) := by
  show ({ W with drawn := W.drawn + 1 + k } : World) = { W with drawn := W.drawn + (1 + k) }
  rw [Nat.add_assoc]
/-- The names are names, the table fits them. -/
structure NInv (names : List (List UInt8)) (T : List Nat) : Prop where
  tinv : TInv names T
  few : names.length ≤ 256
  short : ∀ nm ∈ names, nm.length ≤ 64
  size : T.length ≤ 512
def AddPost (B : Nat) (O : Own) (W : World) (bs : Nat) (names : List (List UInt8)) (nm : List UInt8) (nn : Nat) (ra : Option Addr) (rn rc : Nat) (e : Ending) (W' : World) : Prop := e = .returned (.int .i64 (nn : Int)) ∧ ∃ O' T' na' nc' ta' tn' tc', Fr isSym O W O' W' ∧ SymOk B O' W' bs (names ++ [nm]) T' na' (nn + 1) nc' ta' tn' tc' ra rn rc ∧ NInv (names ++ [nm]) T'
attribute [local go_sem] st_len st0 st1 st2 st_set0 st_set1 st_set2 bslice44
attribute [local go_sem ↓] execOp_make execOp_bslice
set_option maxRecDepth 20000 in
set_option maxHeartbeats 4000000 in
theorem add_any (B : Nat) (O : Own) (W : World) (bs : Nat) (na : Option Addr) (nn nc : Nat) (ta : Option Addr) (tn tc : Nat) (ra : Option Addr) (rn rc : Nat) (names : List (List UInt8)) (T : List Nat) (nm : List UInt8) (hS : SymOk B O W bs names T na nn nc ta tn tc ra rn rc) (hI : NInv names T) (hfew : names.length < 256) (hnm : nm.length ≤ 64) (hni : nm ∉ names) (hB : B ≤ W.heap.size) :
    Calls Try.prog 67 #[.pointer (some ⟨bs, 0, none⟩), .string ⟨nm.toArray⟩] W (AddPost B O W bs names nm nn ra rn rc) := by
  obtain ⟨s, hs⟩ : ∃ s : ByteArray, s = ⟨nm.toArray⟩ := ⟨_, rfl⟩
  have HS : Hid (s = ⟨nm.toArray⟩) := hs
  have hb := hS.1
  have hNL : names.length = nn := (hS.2.2.2.1.rw encS_len).1.1
  have hTL : T.length = tn := (hS.2.2.2.2.1.rw encK_len).1.1
  have HSY : Hid (SymOk B O W bs names T na nn nc ta tn tc ra rn rc) := hS
  have HI : Hid (NInv names T) := hI
  have hnn : nn < 256 := by omega
  have htn : tn ≤ 512 := by have := hI.size; omega
  have ht16 : 16 ≤ tn := by have := hI.tinv.pos.1; omega
  have e1 : IntKind.i64.wrap ((nn : Int) + 1) = (nn : Int) + 1 := by rw [IntKind.wrap_i64]; omega
  have e2 : IntKind.i64.wrap (2 * ((nn : Int) + 1)) = 2 * ((nn : Int) + 1) := by rw [IntKind.wrap_i64]; omega
  have HNI : Hid (nm ∉ names) := hni
  rw [← hs]
  clear hs hS hI hni hNL hTL hfew
  go_enter Try.func67, Try.ntmps67
  repeat go_step
  refine wp_region_held_drew (S := fun W' => blk W' bs = some (stE na nn nc ta tn tc ra rn rc)) (by kernel_rfl) hb (fun hHeld => ?_)
  refine wpAnyH_take (i := 0) (oi := ⟨_, _, _, _, _, _⟩) (v := ?_) rfl (by kernel_rfl) (by kernel_rfl) (by kernel_rfl) (fun _ _ _ h => h) (Or.inl ⟨by rfl, ?_⟩) (by assumption) ?_
  rotate_left 1
  · intro W' hS1
    go_simp
    try with_reducible rfl
  try simp only [Act.put, List.setIfInBounds_toArray, List.set_cons_zero, List.set_cons_succ]
  refine wpAnyH_take (i := 1) (oi := ⟨_, _, _, _, _, _⟩) (v := ?_) rfl (by kernel_rfl) (by kernel_rfl) (by kernel_rfl) (fun _ _ _ h => h) (Or.inl ⟨by rfl, ?_⟩) (by assumption) ?_
  rotate_left 1
  · intro W' hS1
    go_simp
    try with_reducible rfl
  try simp only [Act.put, List.setIfInBounds_toArray, List.set_cons_zero, List.set_cons_succ]
  refine wpAnyH_take (i := 2) (oi := ⟨_, _, _, _, _, _⟩) (v := ?_) rfl (by kernel_rfl) (by kernel_rfl) (by kernel_rfl) (fun _ _ _ h => h) (Or.inl ⟨by rfl, ?_⟩) (by assumption) ?_
  rotate_left 1
  · intro W' hS1
    go_simp
    try with_reducible rfl
  try simp only [Act.put, List.setIfInBounds_toArray, List.set_cons_zero, List.set_cons_succ]
  refine wpAnyH_take (i := 3) (oi := ⟨_, _, _, _, _, _⟩) (v := ?_) rfl (by kernel_rfl) (by kernel_rfl) (by kernel_rfl) (fun _ _ _ h => h) (Or.inl ⟨by rfl, ?_⟩) (by assumption) ?_
  rotate_left 1
  · intro W' hS1
    go_simp
    try with_reducible rfl
  try simp only [Act.put, List.setIfInBounds_toArray, List.set_cons_zero, List.set_cons_succ]
  refine wpAnyH_take (i := 4) (oi := ⟨_, _, _, _, _, _⟩) (v := ?_) rfl (by kernel_rfl) (by kernel_rfl) (by kernel_rfl) (fun _ _ _ h => h) (Or.inl ⟨by rfl, ?_⟩) (by assumption) ?_
  rotate_left 1
  · intro W' hS1
    go_simp
    try with_reducible rfl
  try simp only [Act.put, List.setIfInBounds_toArray, List.set_cons_zero, List.set_cons_succ]
  refine wpAnyH_take (i := 5) (oi := ⟨_, _, _, _, _, _⟩) (v := ?_) rfl (by kernel_rfl) (by kernel_rfl) (by kernel_rfl) (fun _ _ _ h => h) (Or.inl ⟨by rfl, ?_⟩) (by assumption) ?_
  rotate_left 1
  · intro W' hS1
    go_simp
    try with_reducible rfl
  try simp only [Act.put, List.setIfInBounds_toArray, List.set_cons_zero, List.set_cons_succ]
  refine wpAnyH_take (i := 6) (oi := ⟨_, _, _, _, _, _⟩) (v := ?_) rfl (by kernel_rfl) (by kernel_rfl) (by kernel_rfl) (fun _ _ _ h => h) (Or.inl ⟨by rfl, ?_⟩) (by assumption) ?_
  rotate_left 1
  · intro W' hS1
    go_simp
    try with_reducible rfl
  try simp only [Act.put, List.setIfInBounds_toArray, List.set_cons_zero, List.set_cons_succ]
  refine wpAnyH_take (i := 7) (oi := ⟨_, _, _, _, _, _⟩) (v := ?_) rfl (by kernel_rfl) (by kernel_rfl) (by kernel_rfl) (fun _ _ _ h => h) (Or.inl ⟨by rfl, ?_⟩) (by assumption) ?_
  rotate_left 1
  · intro W' hS1
    go_simp
    try with_reducible rfl
  try simp only [Act.put, List.setIfInBounds_toArray, List.set_cons_zero, List.set_cons_succ]
  refine wpAnyH_take (i := 8) (oi := ⟨_, _, _, _, _, _⟩) (v := ?_) rfl (by kernel_rfl) (by kernel_rfl) (by kernel_rfl) (fun _ _ _ h => h) (Or.inl ⟨by rfl, ?_⟩) (by assumption) ?_
  rotate_left 1
  · intro W' hS1
    go_simp
    try with_reducible rfl
  try simp only [Act.put, List.setIfInBounds_toArray, List.set_cons_zero, List.set_cons_succ]
  refine wpAnyH_take (i := 9) (oi := ⟨_, _, _, _, _, _⟩) (v := ?_) rfl (by kernel_rfl) (by kernel_rfl) (by kernel_rfl) (fun _ _ _ h => h) (Or.inl ⟨by rfl, ?_⟩) (by assumption) ?_
  rotate_left 1
  · intro W' hS1
    go_simp
    try with_reducible rfl
  try simp only [Act.put, List.setIfInBounds_toArray, List.set_cons_zero, List.set_cons_succ]
  refine wpAnyH_take (i := 10) (oi := ⟨_, _, _, _, _, _⟩) (v := ?_) rfl (by kernel_rfl) (by kernel_rfl) (by kernel_rfl) (fun _ _ _ h => h) (Or.inl ⟨by rfl, ?_⟩) (by assumption) ?_
  rotate_left 1
  · intro W' hS1
    go_simp
    try with_reducible rfl
  try simp only [Act.put, List.setIfInBounds_toArray, List.set_cons_zero, List.set_cons_succ]
  refine wpAnyH_take (i := 11) (oi := ⟨_, _, _, _, _, _⟩) (v := ?_) rfl (by kernel_rfl) (by kernel_rfl) (by kernel_rfl) (fun _ _ _ h => h) (Or.inl ⟨by rfl, ?_⟩) (by assumption) ?_
  rotate_left 1
  · intro W' hS1
    go_simp
    try with_reducible rfl
  try simp only [Act.put, List.setIfInBounds_toArray, List.set_cons_zero, List.set_cons_succ]
  refine wpAnyH_take (i := 12) (oi := ⟨_, _, _, _, _, _⟩) (v := ?_) rfl (by kernel_rfl) (by kernel_rfl) (by kernel_rfl) (fun _ _ _ h => h) (Or.inl ⟨by rfl, ?_⟩) (by assumption) ?_
  rotate_left 1
  · intro W' hS1
    go_simp
    try with_reducible rfl
  try simp only [Act.put, List.setIfInBounds_toArray, List.set_cons_zero, List.set_cons_succ]
  refine wpAnyH_done (by kernel_rfl) ?_ _
  by_cases hg : (tn : Int) < 2 * ((nn : Int) + 1)
  · have hgb : decide ((tn : Int) < 2 * ((nn : Int) + 1)) = true := decide_eq_true hg
    go_wp2_with fail
    refine (grow_any B O W.drew bs na nn nc ta tn tc ra rn rc names T HSY.out HI.out.tinv htn hB (fun x hx => by have := HI.out.short x hx; omega)).mono ?_
    rintro e W1 ⟨rfl, O1, T1, ta1, hFr, hS1, hI1, hT1⟩
    have HFR : Hid (Fr isSym O W O1 W1) := ⟨hFr.os, hFr.tape, hFr.output, hFr.size, hFr.keep, hFr.block⟩
    have htn1 : 2 * (nn + 1) ≤ 2 * tn := by have := HI.out.tinv.half; have := (HSY.out.2.2.2.1.rw encS_len).1.1; have := (HSY.out.2.2.2.2.1.rw encK_len).1.1; omega
    have h512 : 2 * tn ≤ 512 := by
      obtain ⟨j, hj, hj4, hj20⟩ := HI.out.tinv.pow
      have := (HSY.out.2.2.2.2.1.rw encK_len).1.1
      have hj8 : j ≤ 8 := by
        rcases Nat.lt_or_ge 8 j with h | h
        · have := Nat.pow_le_pow_right (n := 2) (by decide) h
          omega
        · exact h
      have := Nat.pow_le_pow_right (n := 2) (by decide) hj8
      omega
    have hB1 : B ≤ W1.heap.size := Nat.le_trans hB HFR.out.size
    obtain ⟨tn1, hte⟩ : ∃ tn1, tn1 = 2 * tn := ⟨_, rfl⟩
    rw [← hte] at hS1 htn1 h512
    clear hFr hT1 hb hte
    dsimp only
    have hN1 := hS1.2.2.2.1
    have hT1 := hS1.2.2.2.2.1
    have hbs := hS1.1
    have hfs := hS1.2.1
    have hob := hS1.2.2.1
    have hBb := hS1.2.2.2.2.2
    have HN1 : Hid (RowL B O1 .names W1 9 1 (.slice na nn nc) names.length (names.flatMap encS)) := hN1
    have HT1 : Hid (RowL B O1 .table W1 3 1 (.slice ta1 tn1 tn1) T1.length (T1.flatMap encK)) := hT1
    have hNL : names.length = nn := (hN1.rw encS_len).1.1
    have hTL : T1.length = tn1 := (hT1.rw encK_len).1.1
    have HNL : Hid (names.length = nn) := hNL
    have HTL : Hid (T1.length = tn1) := hTL
    have HI1 : Hid (TInv names T1) := hI1
    have HOB : Hid (O1 bs = .st) := hob
    clear hS1 hI1 hN1 hT1 hNL hTL hob
    go_wp2_with fail
    rw [HS.out]
    refine (seek_any W1 bs na nn nc ta1 tn1 tn1 ra rn rc names T1 nm hbs (HN1.out.rw encS_len).1 (HT1.out.rw encK_len).1 (Classical.choose HI1.out.pow) (by rw [← HTL.out]; exact (Classical.choose_spec HI1.out.pow).1) (Classical.choose_spec HI1.out.pow).2.2 (Classical.choose_spec HI1.out.pow).2.1 HI1.out.val (by rw [← HTL.out]; exact HI1.out.zero nm) (by omega) (by omega)).mono ?_
    rintro e W2 ⟨⟨p, rfl, hsp⟩, k1, rfl⟩
    have hpl : p < tn1 := by
      obtain ⟨d, hp, _⟩ := hsp
      rw [hp, HTL.out]; exact Nat.mod_lt _ (by omega)
    have hz0 : T1[p]? = some 0 := by
      rcases seek_found HI1.out hsp with ⟨n, f1, f2⟩ | ⟨f1, f2⟩
      · exact absurd (List.mem_of_getElem? f1) HNI.out
      · exact f2
    have HTI : Hid (TInv (names ++ [nm]) (T1.set p (nn + 1))) := by
      have := tinv_add HI1.out hsp HNI.out hz0 (by rw [HNL.out, HTL.out]; exact htn1)
      rwa [HNL.out] at this
    clear hsp hz0
    have hNk : RowL B O1 .names (W1.drewN k1) 9 1 (.slice na nn nc) names.length (names.flatMap encS) := HN1.out
    obtain ⟨na2, nc2, W3, hrun, hrow, hfr3⟩ := appL encS 1 16 44 9 Try.underlying44 info9 encS_len encS_one (by omega) (by omega) (W := (W1.drewN k1)) 44 nm hNk hB1 (by rw [HNL.out]; omega) (encS nm).toArray rfl 1
    obtain ⟨O3, hO3⟩ : ∃ O3, O3 = lab O1 (W1.drewN k1).heap.size .names := ⟨_, rfl⟩
    rw [← hO3] at hrow hfr3
    clear hO3 hNk
    have hb3 : blk W3 bs = some (stE na nn nc ta1 tn1 tn1 ra rn rc) := hfr3.blk (C := stE na nn nc ta1 tn1 tn1 ra rn rc) hbs (by rw [HOB.out]; intro e; cases e)
    have hf3 : free W3 bs = true := hfr3.free (C := stE na nn nc ta1 tn1 tn1 ra rn rc) hbs hfs (by rw [HOB.out]; intro e; cases e)
    have hT3 : RowL B O3 .table W3 3 1 (.slice ta1 tn1 tn1) T1.length (T1.flatMap encK) := RowL.fr (W := (W1.drewN k1)) HT1.out hfr3 (by intro e; cases e)
    have hob3 : O3 bs = .st := (hfr3.keep bs (blk_lt hbs)).trans HOB.out
    obtain ⟨bt, Ct, hta, hCt, hft, hog, hBt, hct, hrowT⟩ := tab_put (v := nn + 1) hT3 (by omega) hpl
    have hbtb : bt ≠ bs := fun e => by rw [e, hob3] at hog; cases hog
    have HFIN : Hid (AddPost B O W bs names nm nn ra rn rc (.returned (.int .i64 (nn : Int))) (((put (put W3 bs (stE na2 (nn + 1) nc2 ta1 tn1 tn1 ra rn rc)) bt (splice Ct p [.int .i64 ((nn : Int) + 1)])).drew))) := by
      have ec : ((nn : Int) + 1) = ((nn + 1 : Nat) : Int) := by omega
      rw [ec]
      refine ⟨rfl, O3, T1.set p (nn + 1), na2, nc2, ta1, tn1, tn1, ?_, ⟨?_, ?_, hob3, ?_, ?_, hBb⟩, HTI.out, ?_, ?_, ?_⟩
      · have f1 := HFR.out.trans (Fr.of_drewN (n := k1) (W := W1) ⟨hfr3.os, hfr3.tape, hfr3.output, hfr3.size, hfr3.keep, fun k hk hn => hfr3.block k hk (fun e => hn (by rw [e]; exact .inr (.inl rfl)))⟩)
        exact ((f1.put (b := bs) (by rw [hob3]; exact .inl rfl) _).put (b := bt) (by rw [hog]; exact .inr (.inr rfl)) _).drew
      · show blk (put _ bt _) bs = _
        rw [blk_put, if_neg (Ne.symm hbtb), blk_put, if_pos rfl, hb3]; rfl
      · show free (put _ bt _) bs = _
        rw [free_put, free_put]; exact hf3
      · refine hrow.keep (W' := put (put W3 bs _) bt _) (fun k hk ho => ⟨?_, rfl⟩)
        rw [heap_put, if_neg (fun e => by rw [e, hog] at ho; cases ho), heap_put, if_neg (fun e => by rw [e, hob3] at ho; cases ho)]
      · refine hrowT.keep (W' := put (put W3 bs _) bt _) (fun k hk ho => ⟨?_, rfl⟩)
        by_cases e : k = bt
        · rw [e, heap_put, if_pos rfl, heap_put, if_neg hbtb, heap_put, if_pos rfl]
        · rw [heap_put, if_neg e, heap_put, if_neg (fun e => by rw [e, hob3] at ho; cases ho), heap_put, if_neg e]
      · rw [List.length_append, List.length_singleton, HNL.out]; omega
      · intro x hx
        rcases List.mem_append.1 hx with h | h
        · exact HI.out.short x h
        · rw [List.mem_singleton.1 h]; exact hnm
      · rw [List.length_set, HTL.out]; omega
    clear hrow hfr3 hT3 hrowT HN1 HT1 HTI HFR
    subst hta
    have q3 : (0 : Int) ≤ (p : Int) := by omega
    have q4 : (p : Int) < (tn1 : Int) := by omega
    have q5 : ((p : Int)).toNat = p := by omega
    have lb3 := blk_lt hb3
    have l1 : ¬ bs = W1.heap.size := by have := blk_lt hbs; first | exact Nat.ne_of_lt this | omega
    dsimp only
    go_upto_region 5 with (at_builtin; refine wpList_append_run rfl _ _ 44 rfl _ _ _ _ rfl rfl hrun ?_)
    refine wp_region_held_drew (S := fun W' => blk W' bs = some (stE na2 (nn + 1) nc2 (some ⟨bt, 0, none⟩) tn1 tn1 ra rn rc)) (by kernel_rfl) (by show blk (put W3 bs _) bs = _; rw [blk_put, if_pos rfl, hb3]; rfl) (fun hHeld => ?_)
    refine wpAnyH_take (i := 0) (oi := ⟨_, _, _, _, _, _⟩) (v := ?_) rfl (by kernel_rfl) (by kernel_rfl) (by kernel_rfl) (fun _ _ _ h => h) (Or.inl ⟨by rfl, ?_⟩) (by assumption) ?_
    rotate_left 1
    · intro W' hS1
      go_simp
      try with_reducible rfl
    try simp only [Act.put, List.setIfInBounds_toArray, List.set_cons_zero, List.set_cons_succ]
    refine wpAnyH_take (i := 1) (oi := ⟨_, _, _, _, _, _⟩) (v := ?_) rfl (by kernel_rfl) (by kernel_rfl) (by kernel_rfl) (fun _ _ _ h => h) (Or.inl ⟨by rfl, ?_⟩) (by assumption) ?_
    rotate_left 1
    · intro W' hS1
      go_simp
      try with_reducible rfl
    try simp only [Act.put, List.setIfInBounds_toArray, List.set_cons_zero, List.set_cons_succ]
    refine wpAnyH_take (i := 2) (oi := ⟨_, _, _, _, _, _⟩) (v := ?_) rfl (by kernel_rfl) (by kernel_rfl) (by kernel_rfl) (fun _ _ _ h => h) (Or.inl ⟨by rfl, ?_⟩) (by assumption) ?_
    rotate_left 1
    · intro W' hS1
      go_simp
      try with_reducible rfl
    try simp only [Act.put, List.setIfInBounds_toArray, List.set_cons_zero, List.set_cons_succ]
    refine wpAnyH_take (i := 3) (oi := ⟨_, _, _, _, _, _⟩) (v := ?_) rfl (by kernel_rfl) (by kernel_rfl) (by kernel_rfl) (fun _ _ _ h => h) (Or.inl ⟨by rfl, ?_⟩) (by assumption) ?_
    rotate_left 1
    · intro W' hS1
      go_simp
      try with_reducible rfl
    try simp only [Act.put, List.setIfInBounds_toArray, List.set_cons_zero, List.set_cons_succ]
    refine wpAnyH_take (i := 4) (oi := ⟨_, _, _, _, _, _⟩) (v := ?_) rfl (by kernel_rfl) (by kernel_rfl) (by kernel_rfl) (fun _ _ _ h => h) (Or.inl ⟨by rfl, ?_⟩) (by assumption) ?_
    rotate_left 1
    · intro W' hS1
      go_simp
      try with_reducible rfl
    try simp only [Act.put, List.setIfInBounds_toArray, List.set_cons_zero, List.set_cons_succ]
    refine wpAnyH_take (i := 5) (oi := ⟨_, _, _, _, _, _⟩) (v := ?_) rfl (by kernel_rfl) (by kernel_rfl) (by kernel_rfl) (fun _ _ _ h => h) (Or.inl ⟨by rfl, ?_⟩) (by assumption) ?_
    rotate_left 1
    · intro W' hS1
      go_simp
      try with_reducible rfl
    try simp only [Act.put, List.setIfInBounds_toArray, List.set_cons_zero, List.set_cons_succ]
    refine wpAnyH_take (i := 6) (oi := ⟨_, _, _, _, _, _⟩) (v := ?_) rfl (by kernel_rfl) (by kernel_rfl) (by kernel_rfl) (fun _ _ _ h => h) (Or.inl ⟨by rfl, ?_⟩) (by assumption) ?_
    rotate_left 1
    · intro W' hS1
      go_simp
      try with_reducible rfl
    try simp only [Act.put, List.setIfInBounds_toArray, List.set_cons_zero, List.set_cons_succ]
    refine wpAnyH_take (i := 7) (oi := ⟨_, _, _, _, _, _⟩) (v := ?_) rfl (by kernel_rfl) (by kernel_rfl) (by kernel_rfl) (fun _ _ _ h => h) (Or.inl ⟨by rfl, ?_⟩) (by assumption) ?_
    rotate_left 1
    · intro W' hS1
      go_simp
      try with_reducible rfl
    try simp only [Act.put, List.setIfInBounds_toArray, List.set_cons_zero, List.set_cons_succ]
    refine wpAnyH_take (i := 8) (oi := ⟨_, _, _, _, _, _⟩) (v := ?_) rfl (by kernel_rfl) (by kernel_rfl) (by kernel_rfl) (fun _ _ _ h => h) (Or.inl ⟨by rfl, ?_⟩) (by assumption) ?_
    rotate_left 1
    · intro W' hS1
      go_simp
      try with_reducible rfl
    try simp only [Act.put, List.setIfInBounds_toArray, List.set_cons_zero, List.set_cons_succ]
    refine wpAnyH_take (i := 9) (oi := ⟨_, _, _, _, _, _⟩) (v := ?_) rfl (by kernel_rfl) (by kernel_rfl) (by kernel_rfl) (fun _ _ _ h => h) (Or.inl ⟨by rfl, ?_⟩) (by assumption) ?_
    rotate_left 1
    · intro W' hS1
      go_simp
      try with_reducible rfl
    try simp only [Act.put, List.setIfInBounds_toArray, List.set_cons_zero, List.set_cons_succ]
    refine wpAnyH_take (i := 10) (oi := ⟨_, _, _, _, _, _⟩) (v := ?_) rfl (by kernel_rfl) (by kernel_rfl) (by kernel_rfl) (fun _ _ _ h => h) (Or.inl ⟨by rfl, ?_⟩) (by assumption) ?_
    rotate_left 1
    · intro W' hS1
      go_simp
      try with_reducible rfl
    try simp only [Act.put, List.setIfInBounds_toArray, List.set_cons_zero, List.set_cons_succ]
    have hCt2 : blk (put W3 bs (stE na2 (nn + 1) nc2 (some ⟨bt, 0, none⟩) tn1 tn1 ra rn rc)).drew bt = some Ct := by
      show blk (put W3 bs _) bt = _
      rw [blk_put, if_neg hbtb]; exact hCt
    have hft2 : free (put W3 bs (stE na2 (nn + 1) nc2 (some ⟨bt, 0, none⟩) tn1 tn1 ra rn rc)).drew bt = true := by
      show free (put W3 bs _) bt = _
      rw [free_put]; exact hft
    refine wpAnyH_ready (rs := [11]) (by kernel_rfl) (by simp) ?_
    refine AllReadyH.cons (o := ⟨_, _, _, _, _, _⟩) rfl (fun K' hK => ?_) AllReadyH.nil
    go_simp
    refine hK.out _ _ ?_ (fun hHeld => ?_)
    · show blk (put (put W3 bs _) bt _) bs = _
      rw [blk_put, if_neg (Ne.symm hbtb), blk_put, if_pos rfl, hb3]; rfl
    clear hK K'
    try simp only [Act.put, List.setIfInBounds_toArray, List.set_cons_zero, List.set_cons_succ]
    refine wpAnyH_done (by kernel_rfl) ?_ _
    go_wp2_with fail
    go_ret
    exact HFIN.out
  · have hgb : decide ((tn : Int) < 2 * ((nn : Int) + 1)) = false := decide_eq_false hg
    have HFR : Hid (Fr isSym O W O W) := Fr.refl _ _ _
    have htn1 : 2 * (nn + 1) ≤ tn := by omega
    have hS1 := HSY.out
    have hI1 := HI.out.tinv
    clear hb
    have hN1 := hS1.2.2.2.1
    have hT1 := hS1.2.2.2.2.1
    have hbs := hS1.1
    have hfs := hS1.2.1
    have hob := hS1.2.2.1
    have hBb := hS1.2.2.2.2.2
    have HN1 : Hid (RowL B O .names W 9 1 (.slice na nn nc) names.length (names.flatMap encS)) := hN1
    have HT1 : Hid (RowL B O .table W 3 1 (.slice ta tn tc) T.length (T.flatMap encK)) := hT1
    have hNL : names.length = nn := (hN1.rw encS_len).1.1
    have hTL : T.length = tn := (hT1.rw encK_len).1.1
    have HNL : Hid (names.length = nn) := hNL
    have HTL : Hid (T.length = tn) := hTL
    have HI1 : Hid (TInv names T) := hI1
    have HOB : Hid (O bs = .st) := hob
    clear hS1 hI1 hN1 hT1 hNL hTL hob
    go_wp2_with fail
    rw [HS.out]
    refine (seek_any W.drew bs na nn nc ta tn tc ra rn rc names T nm hbs (HN1.out.rw encS_len).1 (HT1.out.rw encK_len).1 (Classical.choose HI1.out.pow) (by rw [← HTL.out]; exact (Classical.choose_spec HI1.out.pow).1) (Classical.choose_spec HI1.out.pow).2.2 (Classical.choose_spec HI1.out.pow).2.1 HI1.out.val (by rw [← HTL.out]; exact HI1.out.zero nm) (by omega) (by omega)).mono ?_
    rintro e W2 ⟨⟨p, rfl, hsp⟩, k1, rfl⟩
    rw [drew_drewN]
    have hpl : p < tn := by
      obtain ⟨d, hp, _⟩ := hsp
      rw [hp, HTL.out]; exact Nat.mod_lt _ (by omega)
    have hz0 : T[p]? = some 0 := by
      rcases seek_found HI1.out hsp with ⟨n, f1, f2⟩ | ⟨f1, f2⟩
      · exact absurd (List.mem_of_getElem? f1) HNI.out
      · exact f2
    have HTI : Hid (TInv (names ++ [nm]) (T.set p (nn + 1))) := by
      have := tinv_add HI1.out hsp HNI.out hz0 (by rw [HNL.out, HTL.out]; exact htn1)
      rwa [HNL.out] at this
    clear hsp hz0
    have hNk : RowL B O .names (W.drewN (1 + k1)) 9 1 (.slice na nn nc) names.length (names.flatMap encS) := HN1.out
    obtain ⟨na2, nc2, W3, hrun, hrow, hfr3⟩ := appL encS 1 16 44 9 Try.underlying44 info9 encS_len encS_one (by omega) (by omega) (W := (W.drewN (1 + k1))) 44 nm hNk hB (by rw [HNL.out]; omega) (encS nm).toArray rfl 1
    obtain ⟨O3, hO3⟩ : ∃ O3, O3 = lab O (W.drewN (1 + k1)).heap.size .names := ⟨_, rfl⟩
    rw [← hO3] at hrow hfr3
    clear hO3 hNk
    have hb3 : blk W3 bs = some (stE na nn nc ta tn tc ra rn rc) := hfr3.blk (C := stE na nn nc ta tn tc ra rn rc) hbs (by rw [HOB.out]; intro e; cases e)
    have hf3 : free W3 bs = true := hfr3.free (C := stE na nn nc ta tn tc ra rn rc) hbs hfs (by rw [HOB.out]; intro e; cases e)
    have hT3 : RowL B O3 .table W3 3 1 (.slice ta tn tc) T.length (T.flatMap encK) := RowL.fr (W := (W.drewN (1 + k1))) HT1.out hfr3 (by intro e; cases e)
    have hob3 : O3 bs = .st := (hfr3.keep bs (blk_lt hbs)).trans HOB.out
    obtain ⟨bt, Ct, hta, hCt, hft, hog, hBt, hct, hrowT⟩ := tab_put (v := nn + 1) hT3 (by omega) hpl
    have hbtb : bt ≠ bs := fun e => by rw [e, hob3] at hog; cases hog
    have HFIN : Hid (AddPost B O W bs names nm nn ra rn rc (.returned (.int .i64 (nn : Int))) (((put (put W3 bs (stE na2 (nn + 1) nc2 ta tn tc ra rn rc)) bt (splice Ct p [.int .i64 ((nn : Int) + 1)])).drew))) := by
      have ec : ((nn : Int) + 1) = ((nn + 1 : Nat) : Int) := by omega
      rw [ec]
      refine ⟨rfl, O3, T.set p (nn + 1), na2, nc2, ta, tn, tc, ?_, ⟨?_, ?_, hob3, ?_, ?_, hBb⟩, HTI.out, ?_, ?_, ?_⟩
      · have f1 := HFR.out.trans (Fr.of_drewN (n := 1 + k1) (W := W) ⟨hfr3.os, hfr3.tape, hfr3.output, hfr3.size, hfr3.keep, fun k hk hn => hfr3.block k hk (fun e => hn (by rw [e]; exact .inr (.inl rfl)))⟩)
        exact ((f1.put (b := bs) (by rw [hob3]; exact .inl rfl) _).put (b := bt) (by rw [hog]; exact .inr (.inr rfl)) _).drew
      · show blk (put _ bt _) bs = _
        rw [blk_put, if_neg (Ne.symm hbtb), blk_put, if_pos rfl, hb3]; rfl
      · show free (put _ bt _) bs = _
        rw [free_put, free_put]; exact hf3
      · refine hrow.keep (W' := put (put W3 bs _) bt _) (fun k hk ho => ⟨?_, rfl⟩)
        rw [heap_put, if_neg (fun e => by rw [e, hog] at ho; cases ho), heap_put, if_neg (fun e => by rw [e, hob3] at ho; cases ho)]
      · refine hrowT.keep (W' := put (put W3 bs _) bt _) (fun k hk ho => ⟨?_, rfl⟩)
        by_cases e : k = bt
        · rw [e, heap_put, if_pos rfl, heap_put, if_neg hbtb, heap_put, if_pos rfl]
        · rw [heap_put, if_neg e, heap_put, if_neg (fun e => by rw [e, hob3] at ho; cases ho), heap_put, if_neg e]
      · rw [List.length_append, List.length_singleton, HNL.out]; omega
      · intro x hx
        rcases List.mem_append.1 hx with h | h
        · exact HI.out.short x h
        · rw [List.mem_singleton.1 h]; exact hnm
      · rw [List.length_set, HTL.out]; omega
    clear hrow hfr3 hT3 hrowT HN1 HT1 HTI HFR
    subst hta
    have q3 : (0 : Int) ≤ (p : Int) := by omega
    have q4 : (p : Int) < (tn : Int) := by omega
    have q5 : ((p : Int)).toNat = p := by omega
    have lb3 := blk_lt hb3
    have l1 : ¬ bs = W.drew.heap.size := by have := blk_lt hbs; first | exact Nat.ne_of_lt this | omega
    dsimp only
    go_upto_region 5 with (at_builtin; refine wpList_append_run rfl _ _ 44 rfl _ _ _ _ rfl rfl hrun ?_)
    refine wp_region_held_drew (S := fun W' => blk W' bs = some (stE na2 (nn + 1) nc2 (some ⟨bt, 0, none⟩) tn tc ra rn rc)) (by kernel_rfl) (by show blk (put W3 bs _) bs = _; rw [blk_put, if_pos rfl, hb3]; rfl) (fun hHeld => ?_)
    refine wpAnyH_take (i := 0) (oi := ⟨_, _, _, _, _, _⟩) (v := ?_) rfl (by kernel_rfl) (by kernel_rfl) (by kernel_rfl) (fun _ _ _ h => h) (Or.inl ⟨by rfl, ?_⟩) (by assumption) ?_
    rotate_left 1
    · intro W' hS1
      go_simp
      try with_reducible rfl
    try simp only [Act.put, List.setIfInBounds_toArray, List.set_cons_zero, List.set_cons_succ]
    refine wpAnyH_take (i := 1) (oi := ⟨_, _, _, _, _, _⟩) (v := ?_) rfl (by kernel_rfl) (by kernel_rfl) (by kernel_rfl) (fun _ _ _ h => h) (Or.inl ⟨by rfl, ?_⟩) (by assumption) ?_
    rotate_left 1
    · intro W' hS1
      go_simp
      try with_reducible rfl
    try simp only [Act.put, List.setIfInBounds_toArray, List.set_cons_zero, List.set_cons_succ]
    refine wpAnyH_take (i := 2) (oi := ⟨_, _, _, _, _, _⟩) (v := ?_) rfl (by kernel_rfl) (by kernel_rfl) (by kernel_rfl) (fun _ _ _ h => h) (Or.inl ⟨by rfl, ?_⟩) (by assumption) ?_
    rotate_left 1
    · intro W' hS1
      go_simp
      try with_reducible rfl
    try simp only [Act.put, List.setIfInBounds_toArray, List.set_cons_zero, List.set_cons_succ]
    refine wpAnyH_take (i := 3) (oi := ⟨_, _, _, _, _, _⟩) (v := ?_) rfl (by kernel_rfl) (by kernel_rfl) (by kernel_rfl) (fun _ _ _ h => h) (Or.inl ⟨by rfl, ?_⟩) (by assumption) ?_
    rotate_left 1
    · intro W' hS1
      go_simp
      try with_reducible rfl
    try simp only [Act.put, List.setIfInBounds_toArray, List.set_cons_zero, List.set_cons_succ]
    refine wpAnyH_take (i := 4) (oi := ⟨_, _, _, _, _, _⟩) (v := ?_) rfl (by kernel_rfl) (by kernel_rfl) (by kernel_rfl) (fun _ _ _ h => h) (Or.inl ⟨by rfl, ?_⟩) (by assumption) ?_
    rotate_left 1
    · intro W' hS1
      go_simp
      try with_reducible rfl
    try simp only [Act.put, List.setIfInBounds_toArray, List.set_cons_zero, List.set_cons_succ]
    refine wpAnyH_take (i := 5) (oi := ⟨_, _, _, _, _, _⟩) (v := ?_) rfl (by kernel_rfl) (by kernel_rfl) (by kernel_rfl) (fun _ _ _ h => h) (Or.inl ⟨by rfl, ?_⟩) (by assumption) ?_
    rotate_left 1
    · intro W' hS1
      go_simp
      try with_reducible rfl
    try simp only [Act.put, List.setIfInBounds_toArray, List.set_cons_zero, List.set_cons_succ]
    refine wpAnyH_take (i := 6) (oi := ⟨_, _, _, _, _, _⟩) (v := ?_) rfl (by kernel_rfl) (by kernel_rfl) (by kernel_rfl) (fun _ _ _ h => h) (Or.inl ⟨by rfl, ?_⟩) (by assumption) ?_
    rotate_left 1
    · intro W' hS1
      go_simp
      try with_reducible rfl
    try simp only [Act.put, List.setIfInBounds_toArray, List.set_cons_zero, List.set_cons_succ]
    refine wpAnyH_take (i := 7) (oi := ⟨_, _, _, _, _, _⟩) (v := ?_) rfl (by kernel_rfl) (by kernel_rfl) (by kernel_rfl) (fun _ _ _ h => h) (Or.inl ⟨by rfl, ?_⟩) (by assumption) ?_
    rotate_left 1
    · intro W' hS1
      go_simp
      try with_reducible rfl
    try simp only [Act.put, List.setIfInBounds_toArray, List.set_cons_zero, List.set_cons_succ]
    refine wpAnyH_take (i := 8) (oi := ⟨_, _, _, _, _, _⟩) (v := ?_) rfl (by kernel_rfl) (by kernel_rfl) (by kernel_rfl) (fun _ _ _ h => h) (Or.inl ⟨by rfl, ?_⟩) (by assumption) ?_
    rotate_left 1
    · intro W' hS1
      go_simp
      try with_reducible rfl
    try simp only [Act.put, List.setIfInBounds_toArray, List.set_cons_zero, List.set_cons_succ]
    refine wpAnyH_take (i := 9) (oi := ⟨_, _, _, _, _, _⟩) (v := ?_) rfl (by kernel_rfl) (by kernel_rfl) (by kernel_rfl) (fun _ _ _ h => h) (Or.inl ⟨by rfl, ?_⟩) (by assumption) ?_
    rotate_left 1
    · intro W' hS1
      go_simp
      try with_reducible rfl
    try simp only [Act.put, List.setIfInBounds_toArray, List.set_cons_zero, List.set_cons_succ]
    refine wpAnyH_take (i := 10) (oi := ⟨_, _, _, _, _, _⟩) (v := ?_) rfl (by kernel_rfl) (by kernel_rfl) (by kernel_rfl) (fun _ _ _ h => h) (Or.inl ⟨by rfl, ?_⟩) (by assumption) ?_
    rotate_left 1
    · intro W' hS1
      go_simp
      try with_reducible rfl
    try simp only [Act.put, List.setIfInBounds_toArray, List.set_cons_zero, List.set_cons_succ]
    have hCt2 : blk (put W3 bs (stE na2 (nn + 1) nc2 (some ⟨bt, 0, none⟩) tn tc ra rn rc)).drew bt = some Ct := by
      show blk (put W3 bs _) bt = _
      rw [blk_put, if_neg hbtb]; exact hCt
    have hft2 : free (put W3 bs (stE na2 (nn + 1) nc2 (some ⟨bt, 0, none⟩) tn tc ra rn rc)).drew bt = true := by
      show free (put W3 bs _) bt = _
      rw [free_put]; exact hft
    refine wpAnyH_ready (rs := [11]) (by kernel_rfl) (by simp) ?_
    refine AllReadyH.cons (o := ⟨_, _, _, _, _, _⟩) rfl (fun K' hK => ?_) AllReadyH.nil
    go_simp
    refine hK.out _ _ ?_ (fun hHeld => ?_)
    · show blk (put (put W3 bs _) bt _) bs = _
      rw [blk_put, if_neg (Ne.symm hbtb), blk_put, if_pos rfl, hb3]; rfl
    clear hK K'
    try simp only [Act.put, List.setIfInBounds_toArray, List.set_cons_zero, List.set_cons_succ]
    refine wpAnyH_done (by kernel_rfl) ?_ _
    go_wp2_with fail
    go_ret
    exact HFIN.out
end Go.Proofs.Qxb6500789a
