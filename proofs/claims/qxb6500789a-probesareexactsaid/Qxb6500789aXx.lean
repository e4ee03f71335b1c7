import Derived.Test.Qxb6500789aXw
import Derived.StillTailTactics
import Derived.Deep.QuietTactic
import Derived.BigQuiet
import Derived.Deep.RegionHeld
import Derived.Deep.CutRange
import Derived.Laws.ResultCell
import Derived.Laws.Rows
import Derived.DeepKeys
import Derived.DataBytes
import Derived.Laws.StructEq
import Derived.Laws.AppendOwn
import Derived.Laws.MakeOwn
import Derived.Lib.AppendStr
set_option linter.unusedSimpArgs false
set_option linter.unusedVariables false
namespace Go.Proofs.Qxb6500789a
open Go.RowKit Go.Blk
attribute [local go_sem ↓] execOp_load execOp_store execOp_alloc
attribute [local go_sem] Try.ld29 Try.st29 Try.ld3 Try.st3 Try.ld9 Try.st9 Try.ld30 Try.st30 Try.ld34 Try.st34 Try.ld35 Try.st35 Try.ld36 Try.st36 Try.ld37 Try.st37 Try.ld44 Try.st44 Try.ld45 Try.st45 Try.ld54 Try.st54 Try.ld55 Try.st55 Try.ld74 Try.st74 Try.ld80 Try.st80 Try.ld84 Try.st84 Try.ld106 Try.st106 Try.ld107 Try.st107 Try.ld4 Try.st4 Try.ld121 Try.st121 Try.ld2 Try.st2 Try.ld5 Try.st5 Try.ld12 Try.st12 Try.ld21 Try.st21 Try.ld22 Try.st22 Try.ld24 Try.st24 Try.ld26 Try.st26 Try.ld63 Try.st63 Try.ld71 Try.st71 Try.ld103 Try.st103 Try.ld130 Try.st130 Try.ld133 Try.st133 Try.ld140 Try.st140 Try.ld152 Try.st152 Try.ld39 Try.st39 Try.ld32 Try.st32 Try.ld41 Try.st41 Try.ld47 Try.st47 Try.ld57 Try.st57 Try.ld62 Try.st62 Try.ld76 Try.st76 Try.ld82 Try.st82 Try.ld86 Try.st86 Try.ld109 Try.st109 Try.ld115 Try.st115 Try.ld123 Try.st123 Try.ld135 Try.st135 Try.al39 Try.al32 Try.al41 Try.al47 Try.al57 Try.al62 Try.al76 Try.al82 Try.al86 Try.al109 Try.al115 Try.al123 Try.al135
attribute [local go_sem] Answer.length_enc Answer.ok_enc Answer.all_get Answer.all_set Answer.code_get Answer.code_set Answer.n_get Answer.n_set Answer.name_get Answer.name_set Answer.rows_get Answer.rows_set GOp.length_enc GOp.ok_enc GOp.all_get GOp.all_set GOp.kind_get GOp.kind_set GOp.rel_get GOp.rel_set GOp.mask_get GOp.mask_set GOp.t_get GOp.t_set GOp.n_get GOp.n_set GOp.name_get GOp.name_set Store.length_enc Store.ok_enc Store.all_get Store.all_set Store.names_get Store.names_set Store.rels_get Store.rels_set GRel.length_enc GRel.ok_enc GRel.all_get GRel.all_set GRel.arity_get GRel.arity_set GRel.masks_get GRel.masks_set GRel.rows_get GRel.rows_set Row.length_enc Row.ok_enc Row.all_get Row.all_set Row.t_get Row.t_set Row.mark_get Row.mark_set View.length_enc View.ok_enc View.all_get View.all_set View.names_get View.names_set View.rels_get View.rels_set Symtab.length_enc Symtab.ok_enc Symtab.all_get Symtab.all_set Symtab.names_get Symtab.names_set Symtab.table_get Symtab.table_set StoreTuplestore.length_enc StoreTuplestore.ok_enc StoreTuplestore.all_get StoreTuplestore.all_set StoreTuplestore.syms_get StoreTuplestore.syms_set StoreTuplestore.rels_get StoreTuplestore.rels_set StoreTuplestore.syms_names_get StoreTuplestore.syms_names_set StoreTuplestore.syms_table_get StoreTuplestore.syms_table_set Relation.length_enc Relation.ok_enc Relation.all_get Relation.all_set Relation.arity_get Relation.arity_set Relation.slots_get Relation.slots_set Relation.live_get Relation.live_set Relation.idx_get Relation.idx_set Slot.length_enc Slot.ok_enc Slot.all_get Slot.all_set Slot.t_get Slot.t_set Slot.mark_get Slot.mark_set Slot.live_get Slot.live_set RelView.length_enc RelView.ok_enc RelView.all_get RelView.all_set RelView.arity_get RelView.arity_set RelView.rows_get RelView.rows_set RelView.marks_get RelView.marks_set RelView.indexed_get RelView.indexed_set Index.length_enc Index.ok_enc Index.all_get Index.all_set Index.mask_get Index.mask_set Index.heads_get Index.heads_set Index.next_get Index.next_set
attribute [local go_sem] size_put size_ext blk_put free_put blk_alloc free_alloc blk_drew free_drew blk_ext free_ext lookOr_some putOr_some segAt_some cellAt_some storeIn_some put_put put_alloc_new length_arr ok_arr_u8 ok_arr_u32 ok_arr_u64 ok_arr_i64 ok_arr_sl cellsV_agg cellsV_int cellsV_bool cellsV_string cellsV_pointer cellsV_slice cellsV_sl ok_int ok_bool ok_string ok_pointer ok_slice ok_sl toList_arr seg_arr set_arr nth_splice nth_splice0 seg_splice seg_splice0 splice_splice splice_splice0 length_splice_if
attribute [local go_sem ↓] execOp_box
attribute [local go_sem] box_run nth_arr_u8 put_arr_u8 blk_drewN free_drewN put_drewN blk_raw free_raw
theorem build109 (w : World) (a : Int) : (buildOp 109 #[(0, .int .i64 a)]).run Try.prog w = .ok (.value (.agg (relE a none 0 0 0 none 0 0).toArray)) w := by kernel_rfl
theorem al109' (w : World) : (allocOp 109).run Try.prog w = .ok (.value (.pointer (some ⟨w.heap.size, 0, none⟩))) (w.alloc (.cells (relE 0 none 0 0 0 none 0 0).toArray 109)) := Try.al109 w
theorem re_len (ar : Int) (sa : Option Addr) (sn sc : Nat) (lv : Int) (ia : Option Addr) (iN ic : Nat) : (relE ar sa sn sc lv ia iN ic).length = 4 := rfl
theorem re_ok (ar : Int) (sa : Option Addr) (sn sc : Nat) (lv : Int) (ia : Option Addr) (iN ic : Nat) : okCells 4 (relE ar sa sn sc lv ia iN ic) = true := rfl
theorem re_all (ar : Int) (sa : Option Addr) (sn sc : Nat) (lv : Int) (ia : Option Addr) (iN ic : Nat) : seg (relE ar sa sn sc lv ia iN ic) 0 4 = relE ar sa sn sc lv ia iN ic := rfl
theorem re_put (ar : Int) (sa : Option Addr) (sn sc : Nat) (lv : Int) (ia : Option Addr) (iN ic : Nat) (ar' : Int) (sa' : Option Addr) (sn' sc' : Nat) (lv' : Int) (ia' : Option Addr) (iN' ic' : Nat) : splice (relE ar sa sn sc lv ia iN ic) 0 (relE ar' sa' sn' sc' lv' ia' iN' ic') = relE ar' sa' sn' sc' lv' ia' iN' ic' := rfl
theorem re1 (ar : Int) (sa : Option Addr) (sn sc : Nat) (lv : Int) (ia : Option Addr) (iN ic : Nat) : nth (relE ar sa sn sc lv ia iN ic) 1 = some (.slice sa sn sc) := rfl
theorem re3 (ar : Int) (sa : Option Addr) (sn sc : Nat) (lv : Int) (ia : Option Addr) (iN ic : Nat) : nth (relE ar sa sn sc lv ia iN ic) 3 = some (.slice ia iN ic) := rfl
theorem re_set3 (ar : Int) (sa : Option Addr) (sn sc : Nat) (lv : Int) (ia : Option Addr) (iN ic : Nat) (a : Option Addr) (n c : Nat) : splice (relE ar sa sn sc lv ia iN ic) 3 [.slice a n c] = relE ar sa sn sc lv a n c := rfl
def NewPost (B : Nat) (O : Own) (W : World) (i ar : Nat) (e : Ending) (W' : World) : Prop := ∃ O' ia ic k, e = .returned (.agg (relE (ar : Int) none 0 0 0 ia 1 ic).toArray) ∧ Fr (isRel i) O W O' W' ∧ RelIn B O' W' i none 0 0 ia 1 ic [] [k] ∧ k.m = 2 ^ ar - 1 ∧ SzB k 0
attribute [local go_sem] build135 bslice107 build109 al109' re_len re_ok re_all re_put re1 re3 re_set3
attribute [local go_sem ↓] execOp_build execOp_bslice
set_option maxRecDepth 20000 in
set_option maxHeartbeats 2000000 in
theorem newRelation_any (B : Nat) (O : Own) (W : World) (i ar : Nat) (har : ar ≤ 4) (hB : B ≤ W.heap.size) :
    Calls Try.prog 68 #[.int .i64 (ar : Int)] W (NewPost B O W i ar) := by
  obtain ⟨fm, hfm⟩ : ∃ fm, fm = 2 ^ ar - 1 := ⟨_, rfl⟩
  have HFM : Hid (fm = 2 ^ ar - 1) := hfm
  have hfm16 : fm < 16 := by
    have := Nat.pow_le_pow_right (n := 2) (by decide) har
    have := Nat.two_pow_pos ar
    omega
  clear hfm
  go_enter Try.func68, Try.ntmps68
  go_upto_region 2 with fail
  refine wp_world (fun W1 => blk W1 W.heap.size = some (relE 0 none 0 0 0 none 0 0) ∧ free W1 W.heap.size = true ∧ blk W1 (W.heap.size + 1) = some (relE (ar : Int) none 0 0 0 none 0 0) ∧ free W1 (W.heap.size + 1) = true ∧ Hid (W.Extends W1 ∧ W1.heap.size = W.heap.size + 2)) ⟨?_, ?_, ?_, ?_, ?_, ?_⟩ ?_
  · first | (rw [blk_put, if_neg (by omega), blk_alloc, if_neg (by rw [World.size_alloc]; omega), blk_alloc, if_pos rfl]; rfl) | (rw [blk_alloc, if_neg (by rw [World.size_alloc]; omega), blk_alloc, if_pos rfl]; rfl)
  · first | (rw [free_put, free_alloc, if_neg (by rw [World.size_alloc]; omega), free_alloc, if_pos rfl]) | (rw [free_alloc, if_neg (by rw [World.size_alloc]; omega), free_alloc, if_pos rfl])
  · first | (rw [blk_put, if_pos rfl, blk_alloc, if_pos (by rw [World.size_alloc])]; rfl) | (rw [blk_alloc, if_pos (by rw [World.size_alloc])])
  · first | (rw [free_put, free_alloc, if_pos (by rw [World.size_alloc])]) | (rw [free_alloc, if_pos (by rw [World.size_alloc])])
  · first | exact (Side.put (D := fun k => W.heap.size ≤ k) (Side.refl _ _) (by omega) _).extends (extends_alloc (extends_alloc (ext_Ext (Ext.refl _)) _) _) (fun k hk => hk) | exact extends_alloc (extends_alloc (ext_Ext (Ext.refl _)) _) _
  · first | (rw [size_put, World.size_alloc, World.size_alloc]) | (rw [World.size_alloc, World.size_alloc])
  rintro W1 ⟨h2, hf2, h3, hf3, HE1⟩
  obtain ⟨b2, hb2⟩ : ∃ b2, b2 = W.heap.size := ⟨_, rfl⟩
  obtain ⟨b3, hb3⟩ : ∃ b3, b3 = W.heap.size + 1 := ⟨_, rfl⟩
  rw [← hb3] at h3 hf3
  rw [← hb2] at h2 hf2
  rw [← hb3, ← hb2]
  have e23 : ¬ b2 = b3 := by omega
  have e32 : ¬ b3 = b2 := by omega
  have hs1 := HE1.out.2
  obtain ⟨O1, hO1⟩ : ∃ O1, O1 = lab O W.heap.size .no := ⟨_, rfl⟩
  have ho2 : O1 b2 = .no := by rw [hO1]; exact lab_ge (by omega)
  have ho3 : O1 b3 = .no := by rw [hO1]; exact lab_ge (by omega)
  have hF1 : Fr (isRel i) O W O1 W1 := by
    rw [hO1]
    exact ⟨HE1.out.1.os, HE1.out.1.tape, HE1.out.1.output, HE1.out.1.size, fun k hk => lab_lt hk, fun k hk _ => HE1.out.1.block k hk⟩
  have hB1 : B ≤ W1.heap.size := Nat.le_trans hB hF1.size
  obtain ⟨ia3, ic3, W3, hrun, hrow3, hfr3⟩ := appL IxR.enc 3 56 107 135 Try.underlying107 info135 IxR.len IxR.one (by omega) (by omega) (B := B) (O := O1) (l := .idx i) (W := W1.drew) 107 (K := []) (⟨fm, none, 0, 0, none, 0, 0⟩ : IxR) (RowL.nil _ _ _ _ _ _) hB1 (by simp) (ixE (fm : Int) none 0 0 none 0 0).toArray rfl 1
  rw [Nat.zero_add] at hrun hrow3
  obtain ⟨O3, hO3⟩ : ∃ O3, O3 = lab O1 W1.drew.heap.size (.idx i) := ⟨_, rfl⟩
  rw [← hO3] at hrow3 hfr3
  have hb33 : blk W3 b3 = some (relE (ar : Int) none 0 0 0 none 0 0) := hfr3.blk (C := relE (ar : Int) none 0 0 0 none 0 0) h3 (by rw [ho3]; intro e; cases e)
  have hf33 : free W3 b3 = true := hfr3.free (C := relE (ar : Int) none 0 0 0 none 0 0) h3 hf3 (by rw [ho3]; intro e; cases e)
  have hb23 : blk W3 b2 = some (relE 0 none 0 0 0 none 0 0) := hfr3.blk (C := relE 0 none 0 0 0 none 0 0) h2 (by rw [ho2]; intro e; cases e)
  have hf23 : free W3 b2 = true := hfr3.free (C := relE 0 none 0 0 0 none 0 0) h2 hf2 (by rw [ho2]; intro e; cases e)
  have ho33 : O3 b3 = .no := (hfr3.keep b3 (blk_lt h3)).trans ho3
  have ho23 : O3 b2 = .no := (hfr3.keep b2 (blk_lt h2)).trans ho2
  obtain ⟨W4, hW4⟩ : ∃ W4, W4 = put W3 b3 (relE (ar : Int) none 0 0 0 ia3 1 ic3) := ⟨_, rfl⟩
  have hF4 : Fr (isRel i) O W O3 W4 := by
    rw [hW4]
    refine (hF1.trans (?_ : Fr (isRel i) O1 W1 O3 W3)).put_new (by omega) _
    exact ⟨hfr3.os, hfr3.tape, hfr3.output, hfr3.size, hfr3.keep, fun k hk hn => hfr3.block k hk (fun e => hn (by rw [e]; exact .inr (.inl rfl)))⟩
  have hrow4 : RowL B O3 (.idx i) W4 135 3 (.slice ia3 (0 + 1) ic3) (([] : List IxD).map (toR ([] : List Slot).length) ++ [(⟨fm, none, 0, 0, none, 0, 0⟩ : IxR)]).length ((([] : List IxD).map (toR ([] : List Slot).length) ++ [(⟨fm, none, 0, 0, none, 0, 0⟩ : IxR)]).flatMap IxR.enc) := by
    rw [hW4]
    exact hrow3.keep (fun k hk ho => ⟨by rw [heap_put, if_neg (fun e => by rw [e, ho33] at ho; cases ho)], rfl⟩)
  obtain ⟨gi, Ci, hia3, htyi, hoi, hsegi, hci, hcont⟩ := ix_last (B := B) (sa := none) (sn := 0) (sc := 0) (L := []) (K := []) hrow4 rfl (RowL.nil _ _ _ _ _ _) (fun j k h => by simp at h) hfm16
  have hb34 : blk W4 b3 = some (relE (ar : Int) none 0 0 0 ia3 1 ic3) := by rw [hW4, blk_put, if_pos rfl, hb33]; rfl
  have hb24 : blk W4 b2 = some (relE 0 none 0 0 0 none 0 0) := by rw [hW4, blk_put, if_neg e23]; exact hb23
  have hf24 : free W4 b2 = true := by rw [hW4, free_put]; exact hf23
  have HFIN : Hid (∀ V', RebPost B O3 W4.drew gi (0 * 3) Ci 135 i 0 fm [] (.returned (.tuple #[])) V' → blk V' b3 = some (relE (ar : Int) none 0 0 0 ia3 1 ic3) ∧ blk V' b2 = some (relE 0 none 0 0 0 none 0 0) ∧ free V' b2 = true ∧ NewPost B O W i ar (.returned (.agg (relE (ar : Int) none 0 0 0 ia3 1 ic3).toArray)) (put V' b2 (relE (ar : Int) none 0 0 0 ia3 1 ic3))) := by
    intro V' h
    have h' : RebPost B O3 W4 gi (0 * 3) Ci 135 i 0 fm [] (.returned (.tuple #[])) V' := by
      obtain ⟨g1, ha, size, jj, h1, h2, h3, h4, h5, O', xa, xc, hF, hrest⟩ := h
      exact ⟨g1, ha, size, jj, h1, h2, h3, h4, h5, O', xa, xc, ⟨hF.os, hF.tape, hF.output, hF.size, hF.keep, hF.block⟩, hrest⟩
    obtain ⟨O', k, hF5, hI5, hkm, hkz⟩ := hcont V' h'
    have hno : ¬ isIxs i .no := by rintro (e | ⟨j, e⟩ | ⟨j, e⟩) <;> cases e
    have ho25 : O' b2 = .no := (hF5.keep b2 (blk_lt hb24)).trans ho23
    refine ⟨hF5.blk hb34 (by rw [ho33]; exact hno), hF5.blk hb24 (by rw [ho23]; exact hno), hF5.free hb24 hf24 (by rw [ho23]; exact hno), O', ia3, ic3, k, rfl, ?_, ?_, by rw [hkm]; exact HFM.out, hkz⟩
    · refine (hF4.trans (hF5.mono (fun l hl => ?_))).put_new (by omega) _
      rcases hl with rfl | ⟨j, rfl⟩ | ⟨j, rfl⟩
      · exact .inr (.inl rfl)
      · exact .inr (.inr (.inl ⟨j, rfl⟩))
      · exact .inr (.inr (.inr ⟨j, rfl⟩))
    · have hFp : Fr (fun l => l = .no) O' V' O' (put V' b2 (relE (ar : Int) none 0 0 0 ia3 1 ic3)) := Fr.put (Fr.refl _ _ _) (by rw [ho25]) _
      exact hI5.fr hFp (fun l h1 h2 => by rw [h2] at h1; rcases h1 with h | h | ⟨j, h⟩ | ⟨j, h⟩ <;> cases h)
  have HS4 : Hid (seg Ci (0 * 3) 3 = ixE (fm : Int) none 0 0 none 0 0 ∧ W4.heap[gi]? = some (.cells Ci.toArray 135 (0, 0)) ∧ O3 gi = .idx i ∧ B ≤ W4.heap.size) := ⟨hsegi, htyi, hoi, Nat.le_trans hB hF4.size⟩
  subst hia3
  have h3d : blk W1.drew b3 = some (relE (ar : Int) none 0 0 0 none 0 0) := h3
  have nb3 : ¬ b3 = W1.heap.size := by omega
  have HW4 : Hid (put W3 b3 (relE (ar : Int) none 0 0 0 (some ⟨gi, 0, none⟩) 1 ic3) = W4) := hW4.symm
  clear hcont hrow4 hsegi htyi hoi hF4 hF1 hrow3 hfr3 hO3 hO1 hW4 hs1 ho2 ho3 hb2 hb3
  refine wp_region_held_drew (S := fun W' => True) (by kernel_rfl) trivial (fun hHeld => ?_)
  refine wpAnyH_take (i := 0) (oi := ⟨_, _, _, _, _, _⟩) (v := ?_) rfl (by kernel_rfl) (by kernel_rfl) (by kernel_rfl) (fun _ _ _ h => h) (Or.inl ⟨by rfl, ?_⟩) (by assumption) ?_
  rotate_left 1
  · intro W' hS1
    go_simp
    try with_reducible rfl
  try simp only [Act.put, List.setIfInBounds_toArray, List.set_cons_zero, List.set_cons_succ]
  refine wpAnyH_take (i := 2) (oi := ⟨_, _, _, _, _, _⟩) (v := ?_) rfl (by kernel_rfl) (by kernel_rfl) (by kernel_rfl) (fun _ _ _ h => h) (Or.inl ⟨by rfl, ?_⟩) (by assumption) ?_
  rotate_left 1
  · intro W' hS1
    go_simp
    try with_reducible rfl
  try simp only [Act.put, List.setIfInBounds_toArray, List.set_cons_zero, List.set_cons_succ]
  refine wpAnyH_ready (rs := [1, 3]) (by kernel_rfl) (by simp) ?_
  refine AllReadyH.cons (o := ⟨_, _, _, _, _, _⟩) rfl (fun K' hK => ?_) (AllReadyH.cons (o := ⟨_, _, _, _, _, _⟩) rfl (fun K' hK => ?_) AllReadyH.nil)
  · go_simp
    refine hK.out _ _ trivial (fun hHeld => ?_)
    clear hK K'
    try simp only [Act.put, List.setIfInBounds_toArray, List.set_cons_zero, List.set_cons_succ]
    refine wpAnyH_ready (rs := [3]) (by kernel_rfl) (by simp) ?_
    refine AllReadyH.cons (o := ⟨_, _, _, _, _, _⟩) rfl (fun K' hK => ?_) AllReadyH.nil
    go_simp
    refine (fullMask_any W1.drew ar har).mono ?_
    rintro e Wf ⟨rfl, rfl⟩
    rw [← HFM.out]
    dsimp only
    refine hK.out _ _ trivial (fun hHeld => ?_)
    clear hK K'
    try simp only [Act.put, List.setIfInBounds_toArray, List.set_cons_zero, List.set_cons_succ]
    refine wpAnyH_take (i := 4) (oi := ⟨_, _, _, _, _, _⟩) (v := ?_) rfl (by kernel_rfl) (by kernel_rfl) (by kernel_rfl) (fun _ _ _ h => h) (Or.inl ⟨by rfl, ?_⟩) (by assumption) ?_
    rotate_left 1
    · intro W' hS1
      go_simp
      try with_reducible rfl
    try simp only [Act.put, List.setIfInBounds_toArray, List.set_cons_zero, List.set_cons_succ]
    refine wpAnyH_ready (rs := [5]) (by kernel_rfl) (by simp) ?_
    refine AllReadyH.cons (o := ⟨_, _, _, _, _, _⟩) rfl (fun K' hK => ?_) AllReadyH.nil
    go_simp
    refine hK.out _ _ trivial (fun hHeld => ?_)
    clear hK K'
    try simp only [Act.put, List.setIfInBounds_toArray, List.set_cons_zero, List.set_cons_succ]
    refine wpAnyH_ready (rs := [6]) (by kernel_rfl) (by simp) ?_
    refine AllReadyH.cons (o := ⟨_, _, _, _, _, _⟩) rfl (fun K' hK => ?_) AllReadyH.nil
    refine wp_append_run _ _ 107 rfl _ _ _ _ rfl rfl hrun ?_
    refine hK.out _ _ trivial (fun hHeld => ?_)
    clear hK K'
    try simp only [Act.put, List.setIfInBounds_toArray, List.set_cons_zero, List.set_cons_succ]
    refine wpAnyH_take (i := 7) (oi := ⟨_, _, _, _, _, _⟩) (v := ?_) rfl (by kernel_rfl) (by kernel_rfl) (by kernel_rfl) (fun _ _ _ h => h) (Or.inl ⟨by rfl, ?_⟩) (by assumption) ?_
    rotate_left 1
    · intro W' hS1
      go_simp
      try with_reducible rfl
    try simp only [Act.put, List.setIfInBounds_toArray, List.set_cons_zero, List.set_cons_succ]
    refine wpAnyH_ready (rs := [8]) (by kernel_rfl) (by simp) ?_
    refine AllReadyH.cons (o := ⟨_, _, _, _, _, _⟩) rfl (fun K' hK => ?_) AllReadyH.nil
    go_simp
    refine hK.out _ _ trivial (fun hHeld => ?_)
    clear hK K'
    try simp only [Act.put, List.setIfInBounds_toArray, List.set_cons_zero, List.set_cons_succ]
    refine wpAnyH_done (by kernel_rfl) ?_ _
    rw [HW4.out]
    go_upto_region 3 with fail
    refine wp_region_held_drew (S := fun W' => blk W' b3 = some (relE (ar : Int) none 0 0 0 (some ⟨gi, 0, none⟩) 1 ic3)) (by kernel_rfl) hb34 (fun hHeld => ?_)
    refine wpAnyH_take (i := 0) (oi := ⟨_, _, _, _, _, _⟩) (v := ?_) rfl (by kernel_rfl) (by kernel_rfl) (by kernel_rfl) (fun _ _ _ h => h) (Or.inl ⟨by rfl, ?_⟩) (by assumption) ?_
    rotate_left 1
    · intro W' hS1
      go_simp
      try with_reducible rfl
    try simp only [Act.put, List.setIfInBounds_toArray, List.set_cons_zero, List.set_cons_succ]
    refine wpAnyH_take (i := 1) (oi := ⟨_, _, _, _, _, _⟩) (v := ?_) rfl (by kernel_rfl) (by kernel_rfl) (by kernel_rfl) (fun _ _ _ h => h) (Or.inl ⟨by rfl, ?_⟩) (by assumption) ?_
    rotate_left 1
    · intro W' hS1
      go_simp
      try with_reducible rfl
    try simp only [Act.put, List.setIfInBounds_toArray, List.set_cons_zero, List.set_cons_succ]
    refine wpAnyH_take (i := 2) (oi := ⟨_, _, _, _, _, _⟩) (v := ?_) rfl (by kernel_rfl) (by kernel_rfl) (by kernel_rfl) (fun _ _ _ h => h) (Or.inl ⟨by rfl, ?_⟩) (by assumption) ?_
    rotate_left 1
    · intro W' hS1
      go_simp
      try with_reducible rfl
    try simp only [Act.put, List.setIfInBounds_toArray, List.set_cons_zero, List.set_cons_succ]
    refine wpAnyH_take (i := 3) (oi := ⟨_, _, _, _, _, _⟩) (v := ?_) rfl (by kernel_rfl) (by kernel_rfl) (by kernel_rfl) (fun _ _ _ h => h) (Or.inl ⟨by rfl, ?_⟩) (by assumption) ?_
    rotate_left 1
    · intro W' hS1
      go_simp
      try with_reducible rfl
    try simp only [Act.put, List.setIfInBounds_toArray, List.set_cons_zero, List.set_cons_succ]
    refine wpAnyH_take (i := 4) (oi := ⟨_, _, _, _, _, _⟩) (v := ?_) rfl (by kernel_rfl) (by kernel_rfl) (by kernel_rfl) (fun _ _ _ h => h) (Or.inl ⟨by rfl, ?_⟩) (by assumption) ?_
    rotate_left 1
    · intro W' hS1
      go_simp
      try with_reducible rfl
    try simp only [Act.put, List.setIfInBounds_toArray, List.set_cons_zero, List.set_cons_succ]
    refine wpAnyH_ready (rs := [5]) (by kernel_rfl) (by simp) ?_
    refine AllReadyH.cons (o := ⟨_, _, _, _, _, _⟩) rfl (fun K' hK => ?_) AllReadyH.nil
    go_simp
    refine (rebuild_any B O3 W4.drew gi (0 * 3) Ci i 0 fm none 0 0 none 0 0 [] none 0 0 [] 135 HS4.out.2.1 HS4.out.2.2.1 HS4.out.1 hci (RowL.nil _ _ _ _ _ _) (RowL.nil _ _ _ _ _ _) hfm16 (by omega) HS4.out.2.2.2).mono ?_
    intro e V3 hP3
    obtain ⟨hb3V, hb2V, hf2V, hN⟩ := HFIN.out V3 (by obtain ⟨rfl, h⟩ := hP3; exact ⟨rfl, h⟩)
    have HN : Hid (NewPost B O W i ar (.returned (.agg (relE (ar : Int) none 0 0 0 (some ⟨gi, 0, none⟩) 1 ic3).toArray)) (put V3 b2 (relE (ar : Int) none 0 0 0 (some ⟨gi, 0, none⟩) 1 ic3))) := hN
    obtain ⟨rfl, _⟩ := hP3
    clear HFIN HS4 hN
    dsimp only
    refine hK.out _ _ hb3V (fun hHeld => ?_)
    clear hK K'
    try simp only [Act.put, List.setIfInBounds_toArray, List.set_cons_zero, List.set_cons_succ]
    refine wpAnyH_done (by kernel_rfl) ?_ _
    go_wp2_with fail
    refine ret_cell (C := relE (ar : Int) none 0 0 0 (some ⟨gi, 0, none⟩) 1 ic3) rfl rfl ?_ (by kernel_rfl) (by rw [re_len]; kernel_rfl) rfl HN.out
    rw [blk_put, if_pos rfl, hb2V]; rfl
  · go_simp
    refine (fullMask_any W1.drew ar har).mono ?_
    rintro e Wf ⟨rfl, rfl⟩
    rw [← HFM.out]
    dsimp only
    refine hK.out _ _ trivial (fun hHeld => ?_)
    clear hK K'
    try simp only [Act.put, List.setIfInBounds_toArray, List.set_cons_zero, List.set_cons_succ]
    refine wpAnyH_take (i := 4) (oi := ⟨_, _, _, _, _, _⟩) (v := ?_) rfl (by kernel_rfl) (by kernel_rfl) (by kernel_rfl) (fun _ _ _ h => h) (Or.inl ⟨by rfl, ?_⟩) (by assumption) ?_
    rotate_left 1
    · intro W' hS1
      go_simp
      try with_reducible rfl
    try simp only [Act.put, List.setIfInBounds_toArray, List.set_cons_zero, List.set_cons_succ]
    refine wpAnyH_ready (rs := [1, 5]) (by kernel_rfl) (by simp) ?_
    refine AllReadyH.cons (o := ⟨_, _, _, _, _, _⟩) rfl (fun K' hK => ?_) (AllReadyH.cons (o := ⟨_, _, _, _, _, _⟩) rfl (fun K' hK => ?_) AllReadyH.nil)
    · go_simp
      refine hK.out _ _ trivial (fun hHeld => ?_)
      clear hK K'
      try simp only [Act.put, List.setIfInBounds_toArray, List.set_cons_zero, List.set_cons_succ]
      refine wpAnyH_ready (rs := [5]) (by kernel_rfl) (by simp) ?_
      refine AllReadyH.cons (o := ⟨_, _, _, _, _, _⟩) rfl (fun K' hK => ?_) AllReadyH.nil
      go_simp
      refine hK.out _ _ trivial (fun hHeld => ?_)
      clear hK K'
      try simp only [Act.put, List.setIfInBounds_toArray, List.set_cons_zero, List.set_cons_succ]
      refine wpAnyH_ready (rs := [6]) (by kernel_rfl) (by simp) ?_
      refine AllReadyH.cons (o := ⟨_, _, _, _, _, _⟩) rfl (fun K' hK => ?_) AllReadyH.nil
      refine wp_append_run _ _ 107 rfl _ _ _ _ rfl rfl hrun ?_
      refine hK.out _ _ trivial (fun hHeld => ?_)
      clear hK K'
      try simp only [Act.put, List.setIfInBounds_toArray, List.set_cons_zero, List.set_cons_succ]
      refine wpAnyH_take (i := 7) (oi := ⟨_, _, _, _, _, _⟩) (v := ?_) rfl (by kernel_rfl) (by kernel_rfl) (by kernel_rfl) (fun _ _ _ h => h) (Or.inl ⟨by rfl, ?_⟩) (by assumption) ?_
      rotate_left 1
      · intro W' hS1
        go_simp
        try with_reducible rfl
      try simp only [Act.put, List.setIfInBounds_toArray, List.set_cons_zero, List.set_cons_succ]
      refine wpAnyH_ready (rs := [8]) (by kernel_rfl) (by simp) ?_
      refine AllReadyH.cons (o := ⟨_, _, _, _, _, _⟩) rfl (fun K' hK => ?_) AllReadyH.nil
      go_simp
      refine hK.out _ _ trivial (fun hHeld => ?_)
      clear hK K'
      try simp only [Act.put, List.setIfInBounds_toArray, List.set_cons_zero, List.set_cons_succ]
      refine wpAnyH_done (by kernel_rfl) ?_ _
      rw [HW4.out]
      go_upto_region 3 with fail
      refine wp_region_held_drew (S := fun W' => blk W' b3 = some (relE (ar : Int) none 0 0 0 (some ⟨gi, 0, none⟩) 1 ic3)) (by kernel_rfl) hb34 (fun hHeld => ?_)
      refine wpAnyH_take (i := 0) (oi := ⟨_, _, _, _, _, _⟩) (v := ?_) rfl (by kernel_rfl) (by kernel_rfl) (by kernel_rfl) (fun _ _ _ h => h) (Or.inl ⟨by rfl, ?_⟩) (by assumption) ?_
      rotate_left 1
      · intro W' hS1
        go_simp
        try with_reducible rfl
      try simp only [Act.put, List.setIfInBounds_toArray, List.set_cons_zero, List.set_cons_succ]
      refine wpAnyH_take (i := 1) (oi := ⟨_, _, _, _, _, _⟩) (v := ?_) rfl (by kernel_rfl) (by kernel_rfl) (by kernel_rfl) (fun _ _ _ h => h) (Or.inl ⟨by rfl, ?_⟩) (by assumption) ?_
      rotate_left 1
      · intro W' hS1
        go_simp
        try with_reducible rfl
      try simp only [Act.put, List.setIfInBounds_toArray, List.set_cons_zero, List.set_cons_succ]
      refine wpAnyH_take (i := 2) (oi := ⟨_, _, _, _, _, _⟩) (v := ?_) rfl (by kernel_rfl) (by kernel_rfl) (by kernel_rfl) (fun _ _ _ h => h) (Or.inl ⟨by rfl, ?_⟩) (by assumption) ?_
      rotate_left 1
      · intro W' hS1
        go_simp
        try with_reducible rfl
      try simp only [Act.put, List.setIfInBounds_toArray, List.set_cons_zero, List.set_cons_succ]
      refine wpAnyH_take (i := 3) (oi := ⟨_, _, _, _, _, _⟩) (v := ?_) rfl (by kernel_rfl) (by kernel_rfl) (by kernel_rfl) (fun _ _ _ h => h) (Or.inl ⟨by rfl, ?_⟩) (by assumption) ?_
      rotate_left 1
      · intro W' hS1
        go_simp
        try with_reducible rfl
      try simp only [Act.put, List.setIfInBounds_toArray, List.set_cons_zero, List.set_cons_succ]
      refine wpAnyH_take (i := 4) (oi := ⟨_, _, _, _, _, _⟩) (v := ?_) rfl (by kernel_rfl) (by kernel_rfl) (by kernel_rfl) (fun _ _ _ h => h) (Or.inl ⟨by rfl, ?_⟩) (by assumption) ?_
      rotate_left 1
      · intro W' hS1
        go_simp
        try with_reducible rfl
      try simp only [Act.put, List.setIfInBounds_toArray, List.set_cons_zero, List.set_cons_succ]
      refine wpAnyH_ready (rs := [5]) (by kernel_rfl) (by simp) ?_
      refine AllReadyH.cons (o := ⟨_, _, _, _, _, _⟩) rfl (fun K' hK => ?_) AllReadyH.nil
      go_simp
      refine (rebuild_any B O3 W4.drew gi (0 * 3) Ci i 0 fm none 0 0 none 0 0 [] none 0 0 [] 135 HS4.out.2.1 HS4.out.2.2.1 HS4.out.1 hci (RowL.nil _ _ _ _ _ _) (RowL.nil _ _ _ _ _ _) hfm16 (by omega) HS4.out.2.2.2).mono ?_
      intro e V3 hP3
      obtain ⟨hb3V, hb2V, hf2V, hN⟩ := HFIN.out V3 (by obtain ⟨rfl, h⟩ := hP3; exact ⟨rfl, h⟩)
      have HN : Hid (NewPost B O W i ar (.returned (.agg (relE (ar : Int) none 0 0 0 (some ⟨gi, 0, none⟩) 1 ic3).toArray)) (put V3 b2 (relE (ar : Int) none 0 0 0 (some ⟨gi, 0, none⟩) 1 ic3))) := hN
      obtain ⟨rfl, _⟩ := hP3
      clear HFIN HS4 hN
      dsimp only
      refine hK.out _ _ hb3V (fun hHeld => ?_)
      clear hK K'
      try simp only [Act.put, List.setIfInBounds_toArray, List.set_cons_zero, List.set_cons_succ]
      refine wpAnyH_done (by kernel_rfl) ?_ _
      go_wp2_with fail
      refine ret_cell (C := relE (ar : Int) none 0 0 0 (some ⟨gi, 0, none⟩) 1 ic3) rfl rfl ?_ (by kernel_rfl) (by rw [re_len]; kernel_rfl) rfl HN.out
      rw [blk_put, if_pos rfl, hb2V]; rfl
    · go_simp
      refine hK.out _ _ trivial (fun hHeld => ?_)
      clear hK K'
      try simp only [Act.put, List.setIfInBounds_toArray, List.set_cons_zero, List.set_cons_succ]
      refine wpAnyH_ready (rs := [1]) (by kernel_rfl) (by simp) ?_
      refine AllReadyH.cons (o := ⟨_, _, _, _, _, _⟩) rfl (fun K' hK => ?_) AllReadyH.nil
      go_simp
      refine hK.out _ _ trivial (fun hHeld => ?_)
      clear hK K'
      try simp only [Act.put, List.setIfInBounds_toArray, List.set_cons_zero, List.set_cons_succ]
      refine wpAnyH_ready (rs := [6]) (by kernel_rfl) (by simp) ?_
      refine AllReadyH.cons (o := ⟨_, _, _, _, _, _⟩) rfl (fun K' hK => ?_) AllReadyH.nil
      refine wp_append_run _ _ 107 rfl _ _ _ _ rfl rfl hrun ?_
      refine hK.out _ _ trivial (fun hHeld => ?_)
      clear hK K'
      try simp only [Act.put, List.setIfInBounds_toArray, List.set_cons_zero, List.set_cons_succ]
      refine wpAnyH_take (i := 7) (oi := ⟨_, _, _, _, _, _⟩) (v := ?_) rfl (by kernel_rfl) (by kernel_rfl) (by kernel_rfl) (fun _ _ _ h => h) (Or.inl ⟨by rfl, ?_⟩) (by assumption) ?_
      rotate_left 1
      · intro W' hS1
        go_simp
        try with_reducible rfl
      try simp only [Act.put, List.setIfInBounds_toArray, List.set_cons_zero, List.set_cons_succ]
      refine wpAnyH_ready (rs := [8]) (by kernel_rfl) (by simp) ?_
      refine AllReadyH.cons (o := ⟨_, _, _, _, _, _⟩) rfl (fun K' hK => ?_) AllReadyH.nil
      go_simp
      refine hK.out _ _ trivial (fun hHeld => ?_)
      clear hK K'
      try simp only [Act.put, List.setIfInBounds_toArray, List.set_cons_zero, List.set_cons_succ]
      refine wpAnyH_done (by kernel_rfl) ?_ _
      rw [HW4.out]
      go_upto_region 3 with fail
      refine wp_region_held_drew (S := fun W' => blk W' b3 = some (relE (ar : Int) none 0 0 0 (some ⟨gi, 0, none⟩) 1 ic3)) (by kernel_rfl) hb34 (fun hHeld => ?_)
      refine wpAnyH_take (i := 0) (oi := ⟨_, _, _, _, _, _⟩) (v := ?_) rfl (by kernel_rfl) (by kernel_rfl) (by kernel_rfl) (fun _ _ _ h => h) (Or.inl ⟨by rfl, ?_⟩) (by assumption) ?_
      rotate_left 1
      · intro W' hS1
        go_simp
        try with_reducible rfl
      try simp only [Act.put, List.setIfInBounds_toArray, List.set_cons_zero, List.set_cons_succ]
      refine wpAnyH_take (i := 1) (oi := ⟨_, _, _, _, _, _⟩) (v := ?_) rfl (by kernel_rfl) (by kernel_rfl) (by kernel_rfl) (fun _ _ _ h => h) (Or.inl ⟨by rfl, ?_⟩) (by assumption) ?_
      rotate_left 1
      · intro W' hS1
        go_simp
        try with_reducible rfl
      try simp only [Act.put, List.setIfInBounds_toArray, List.set_cons_zero, List.set_cons_succ]
      refine wpAnyH_take (i := 2) (oi := ⟨_, _, _, _, _, _⟩) (v := ?_) rfl (by kernel_rfl) (by kernel_rfl) (by kernel_rfl) (fun _ _ _ h => h) (Or.inl ⟨by rfl, ?_⟩) (by assumption) ?_
      rotate_left 1
      · intro W' hS1
        go_simp
        try with_reducible rfl
      try simp only [Act.put, List.setIfInBounds_toArray, List.set_cons_zero, List.set_cons_succ]
      refine wpAnyH_take (i := 3) (oi := ⟨_, _, _, _, _, _⟩) (v := ?_) rfl (by kernel_rfl) (by kernel_rfl) (by kernel_rfl) (fun _ _ _ h => h) (Or.inl ⟨by rfl, ?_⟩) (by assumption) ?_
      rotate_left 1
      · intro W' hS1
        go_simp
        try with_reducible rfl
      try simp only [Act.put, List.setIfInBounds_toArray, List.set_cons_zero, List.set_cons_succ]
      refine wpAnyH_take (i := 4) (oi := ⟨_, _, _, _, _, _⟩) (v := ?_) rfl (by kernel_rfl) (by kernel_rfl) (by kernel_rfl) (fun _ _ _ h => h) (Or.inl ⟨by rfl, ?_⟩) (by assumption) ?_
      rotate_left 1
      · intro W' hS1
        go_simp
        try with_reducible rfl
      try simp only [Act.put, List.setIfInBounds_toArray, List.set_cons_zero, List.set_cons_succ]
      refine wpAnyH_ready (rs := [5]) (by kernel_rfl) (by simp) ?_
      refine AllReadyH.cons (o := ⟨_, _, _, _, _, _⟩) rfl (fun K' hK => ?_) AllReadyH.nil
      go_simp
      refine (rebuild_any B O3 W4.drew gi (0 * 3) Ci i 0 fm none 0 0 none 0 0 [] none 0 0 [] 135 HS4.out.2.1 HS4.out.2.2.1 HS4.out.1 hci (RowL.nil _ _ _ _ _ _) (RowL.nil _ _ _ _ _ _) hfm16 (by omega) HS4.out.2.2.2).mono ?_
      intro e V3 hP3
      obtain ⟨hb3V, hb2V, hf2V, hN⟩ := HFIN.out V3 (by obtain ⟨rfl, h⟩ := hP3; exact ⟨rfl, h⟩)
      have HN : Hid (NewPost B O W i ar (.returned (.agg (relE (ar : Int) none 0 0 0 (some ⟨gi, 0, none⟩) 1 ic3).toArray)) (put V3 b2 (relE (ar : Int) none 0 0 0 (some ⟨gi, 0, none⟩) 1 ic3))) := hN
      obtain ⟨rfl, _⟩ := hP3
      clear HFIN HS4 hN
      dsimp only
      refine hK.out _ _ hb3V (fun hHeld => ?_)
      clear hK K'
      try simp only [Act.put, List.setIfInBounds_toArray, List.set_cons_zero, List.set_cons_succ]
      refine wpAnyH_done (by kernel_rfl) ?_ _
      go_wp2_with fail
      refine ret_cell (C := relE (ar : Int) none 0 0 0 (some ⟨gi, 0, none⟩) 1 ic3) rfl rfl ?_ (by kernel_rfl) (by rw [re_len]; kernel_rfl) rfl HN.out
      rw [blk_put, if_pos rfl, hb2V]; rfl
end Go.Proofs.Qxb6500789a
