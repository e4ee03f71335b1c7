import Derived.Test.Qxb6500789aYf
import Derived.StillTailTactics
import Derived.Deep.QuietTactic
import Derived.BigQuiet
import Derived.Deep.RegionHeld
import Derived.Deep.CutRange
import Derived.Laws.ResultCell
import Derived.Laws.Rows
import Derived.DeepKeys
import Derived.DataBytes
import Derived.Laws.StructEq
import Derived.Laws.AppendOwn
import Derived.Laws.MakeOwn
import Derived.Lib.AppendStr
set_option linter.unusedSimpArgs false
set_option linter.unusedVariables false
namespace Go.Proofs.Qxb6500789a
open Go.RowKit Go.Blk
attribute [local go_sem ↓] execOp_load execOp_store execOp_alloc
attribute [local go_sem] Try.ld29 Try.st29 Try.ld3 Try.st3 Try.ld9 Try.st9 Try.ld30 Try.st30 Try.ld34 Try.st34 Try.ld35 Try.st35 Try.ld36 Try.st36 Try.ld37 Try.st37 Try.ld44 Try.st44 Try.ld45 Try.st45 Try.ld54 Try.st54 Try.ld55 Try.st55 Try.ld74 Try.st74 Try.ld80 Try.st80 Try.ld84 Try.st84 Try.ld106 Try.st106 Try.ld107 Try.st107 Try.ld4 Try.st4 Try.ld121 Try.st121 Try.ld2 Try.st2 Try.ld5 Try.st5 Try.ld12 Try.st12 Try.ld21 Try.st21 Try.ld22 Try.st22 Try.ld24 Try.st24 Try.ld26 Try.st26 Try.ld63 Try.st63 Try.ld71 Try.st71 Try.ld103 Try.st103 Try.ld130 Try.st130 Try.ld133 Try.st133 Try.ld140 Try.st140 Try.ld152 Try.st152 Try.ld39 Try.st39 Try.ld32 Try.st32 Try.ld41 Try.st41 Try.ld47 Try.st47 Try.ld57 Try.st57 Try.ld62 Try.st62 Try.ld76 Try.st76 Try.ld82 Try.st82 Try.ld86 Try.st86 Try.ld109 Try.st109 Try.ld115 Try.st115 Try.ld123 Try.st123 Try.ld135 Try.st135 Try.al39 Try.al32 Try.al41 Try.al47 Try.al57 Try.al62 Try.al76 Try.al82 Try.al86 Try.al109 Try.al115 Try.al123 Try.al135
attribute [local go_sem] Answer.length_enc Answer.ok_enc Answer.all_get Answer.all_set Answer.code_get Answer.code_set Answer.n_get Answer.n_set Answer.name_get Answer.name_set Answer.rows_get Answer.rows_set GOp.length_enc GOp.ok_enc GOp.all_get GOp.all_set GOp.kind_get GOp.kind_set GOp.rel_get GOp.rel_set GOp.mask_get GOp.mask_set GOp.t_get GOp.t_set GOp.n_get GOp.n_set GOp.name_get GOp.name_set Store.length_enc Store.ok_enc Store.all_get Store.all_set Store.names_get Store.names_set Store.rels_get Store.rels_set GRel.length_enc GRel.ok_enc GRel.all_get GRel.all_set GRel.arity_get GRel.arity_set GRel.masks_get GRel.masks_set GRel.rows_get GRel.rows_set Row.length_enc Row.ok_enc Row.all_get Row.all_set Row.t_get Row.t_set Row.mark_get Row.mark_set View.length_enc View.ok_enc View.all_get View.all_set View.names_get View.names_set View.rels_get View.rels_set Symtab.length_enc Symtab.ok_enc Symtab.all_get Symtab.all_set Symtab.names_get Symtab.names_set Symtab.table_get Symtab.table_set StoreTuplestore.length_enc StoreTuplestore.ok_enc StoreTuplestore.all_get StoreTuplestore.all_set StoreTuplestore.syms_get StoreTuplestore.syms_set StoreTuplestore.rels_get StoreTuplestore.rels_set StoreTuplestore.syms_names_get StoreTuplestore.syms_names_set StoreTuplestore.syms_table_get StoreTuplestore.syms_table_set Relation.length_enc Relation.ok_enc Relation.all_get Relation.all_set Relation.arity_get Relation.arity_set Relation.slots_get Relation.slots_set Relation.live_get Relation.live_set Relation.idx_get Relation.idx_set Slot.length_enc Slot.ok_enc Slot.all_get Slot.all_set Slot.t_get Slot.t_set Slot.mark_get Slot.mark_set Slot.live_get Slot.live_set RelView.length_enc RelView.ok_enc RelView.all_get RelView.all_set RelView.arity_get RelView.arity_set RelView.rows_get RelView.rows_set RelView.marks_get RelView.marks_set RelView.indexed_get RelView.indexed_set Index.length_enc Index.ok_enc Index.all_get Index.all_set Index.mask_get Index.mask_set Index.heads_get Index.heads_set Index.next_get Index.next_set
attribute [local go_sem] size_put size_ext blk_put free_put blk_alloc free_alloc blk_drew free_drew blk_ext free_ext lookOr_some putOr_some segAt_some cellAt_some storeIn_some put_put put_alloc_new length_arr ok_arr_u8 ok_arr_u32 ok_arr_u64 ok_arr_i64 ok_arr_sl cellsV_agg cellsV_int cellsV_bool cellsV_string cellsV_pointer cellsV_slice cellsV_sl ok_int ok_bool ok_string ok_pointer ok_slice ok_sl toList_arr seg_arr set_arr nth_splice nth_splice0 seg_splice seg_splice0 splice_splice splice_splice0 length_splice_if
attribute [local go_sem ↓] execOp_box
attribute [local go_sem] box_run nth_arr_u8 put_arr_u8 blk_drewN free_drewN put_drewN blk_raw free_raw
def syE (a : Option Addr) (n c : Nat) (a2 : Option Addr) (n2 c2 : Nat) : List Value := [.slice a n c, .slice a2 n2 c2]
theorem build82 (w : World) (a : Option Addr) (n c : Nat) : (buildOp 82 #[(1, .slice a n c)]).run Try.prog w = .ok (.value (.agg (syE none 0 0 a n c).toArray)) w := by kernel_rfl
theorem build86 (w : World) (a : Option Addr) (n c : Nat) (a2 : Option Addr) (n2 c2 : Nat) : (buildOp 86 #[(0, .agg (syE a n c a2 n2 c2).toArray)]).run Try.prog w = .ok (.value (.agg (stE a n c a2 n2 c2 none 0 0).toArray)) w := by kernel_rfl
theorem al82' (w : World) : (allocOp 82).run Try.prog w = .ok (.value (.pointer (some ⟨w.heap.size, 0, none⟩))) (w.alloc (.cells (syE none 0 0 none 0 0).toArray 82)) := Try.al82 w
theorem sy_len (a : Option Addr) (n c : Nat) (a2 : Option Addr) (n2 c2 : Nat) : (syE a n c a2 n2 c2).length = 2 := rfl
theorem sy_ok (a : Option Addr) (n c : Nat) (a2 : Option Addr) (n2 c2 : Nat) : okCells 2 (syE a n c a2 n2 c2) = true := rfl
theorem sy_put (a : Option Addr) (n c : Nat) (a2 : Option Addr) (n2 c2 : Nat) (a' : Option Addr) (n' c' : Nat) (a2' : Option Addr) (n2' c2' : Nat) : splice (syE a n c a2 n2 c2) 0 (syE a' n' c' a2' n2' c2') = syE a' n' c' a2' n2' c2' := rfl
theorem sy_putz (a' : Option Addr) (n' c' : Nat) (a2' : Option Addr) (n2' c2' : Nat) : splice (Symtab.enc Symtab.zero) 0 (syE a' n' c' a2' n2' c2') = syE a' n' c' a2' n2' c2' := rfl
attribute [local go_sem] build82 build86 sy_len sy_ok sy_put sy_putz
attribute [local go_sem ↓] execOp_build execOp_make
set_option maxRecDepth 20000 in
theorem newSymtab_any (W : World) : Calls Try.prog 35 #[] W fun e W' => e = .returned (.agg (syE none 0 0 (some ⟨W.heap.size + 1, 0, none⟩) 16 16).toArray) ∧ W.Extends W' ∧ W'.heap.size = W.heap.size + 2 ∧ W'.heap[W.heap.size + 1]? = some (.cells (zerosK 16) 3 (0, 0)) := by
  have m1 : ∀ w : World, (makeOp 80 (.int .i64 16) (.int .i64 16)).run Try.prog w = .ok (.value (.slice (some ⟨w.heap.size, 0, none⟩) 16 16)) (w.alloc (.cells (zerosK 16) 3)) := fun w => make80 w 16 (by omega)
  obtain ⟨W2, hW2⟩ : ∃ W2, W2 = put ((W.alloc (.cells (Symtab.enc Symtab.zero).toArray 82)).alloc (.cells (zerosK 16) 3)) W.heap.size (syE none 0 0 (some ⟨W.heap.size + 1, 0, none⟩) 16 16) := ⟨_, rfl⟩
  have hx : W.Extends W2 := by
    rw [hW2]
    exact (Fr.put_new (L := fun _ => False) (O := fun _ => Lab.no) (Fr.of_extends (extends_alloc (extends_alloc (ext_Ext (Ext.refl _)) _) _)) (Nat.le_refl _) _).extends (ext_Ext (Ext.refl _)) (fun _ _ h => h)
  have hsz : W2.heap.size = W.heap.size + 2 := by rw [hW2, size_put, World.size_alloc, World.size_alloc]
  have hz : W2.heap[W.heap.size + 1]? = some (.cells (zerosK 16) 3 (0, 0)) := by
    rw [hW2, heap_put, if_neg (by omega), heap_alloc, if_pos (by rw [World.size_alloc])]
  have hb : blk W2 W.heap.size = some (syE none 0 0 (some ⟨W.heap.size + 1, 0, none⟩) 16 16) := by
    rw [hW2, blk_put, if_pos rfl, blk_alloc, if_neg (by rw [World.size_alloc]; omega), blk_alloc, if_pos rfl]; rfl
  have HP : Hid (W.Extends W2 ∧ W2.heap.size = W.heap.size + 2 ∧ W2.heap[W.heap.size + 1]? = some (.cells (zerosK 16) 3 (0, 0))) := ⟨hx, hsz, hz⟩
  have HW : Hid (W2 = _) := hW2
  have HB : Hid (blk W2 W.heap.size = some (syE none 0 0 (some ⟨W.heap.size + 1, 0, none⟩) 16 16)) := hb
  clear hx hsz hz hW2 hb
  go_enter Try.func35, Try.ntmps35
  go_wp2_with fail
  refine ret_cell (C := syE none 0 0 (some ⟨W.heap.size + 1, 0, none⟩) 16 16) rfl rfl ?_ (by kernel_rfl) (by rw [sy_len]; kernel_rfl) rfl ?_
  · have := HB.out
    rw [HW.out] at this
    simpa only [World.size_alloc] using this
  · have := HP.out
    rw [HW.out] at this
    exact ⟨rfl, this⟩
def initO (O : Own) (n : Nat) : Own := fun k => if k < n then O k else if k = n + 1 then .table else if k = n + 2 then .st else .no
def NewStPost (B : Nat) (O : Own) (W : World) (e : Ending) (W' : World) : Prop := ∃ bs O', e = .returned (.pointer (some ⟨bs, 0, none⟩)) ∧ W.Extends W' ∧ (∀ k, k < W.heap.size → O' k = O k) ∧ W.heap.size ≤ bs ∧ StAt B O' W' bs ⟨[], []⟩
set_option maxRecDepth 20000 in
theorem newS_any (B : Nat) (O : Own) (W : World) (hB : B ≤ W.heap.size) : Calls Try.prog 11 #[] W (NewStPost B O W) := by
  have HF : Hid (∀ W1, W.Extends W1 → W1.heap.size = W.heap.size + 2 → W1.heap[W.heap.size + 1]? = some (.cells (zerosK 16) 3 (0, 0)) → NewStPost B O W (.returned (.pointer (some ⟨W1.heap.size, 0, none⟩))) (W1.alloc (.cells (stE none 0 0 (some ⟨W.heap.size + 1, 0, none⟩) 16 16 none 0 0).toArray 86))) := by
    intro W1 hx hsz hz
    obtain ⟨N, hN⟩ : ∃ N, N = W.heap.size := ⟨_, rfl⟩
    rw [← hN] at hsz hz ⊢
    obtain ⟨S, hSd⟩ : ∃ S, S = stE none 0 0 (some ⟨N + 1, 0, none⟩) 16 16 none 0 0 := ⟨_, rfl⟩
    rw [← hSd]
    have hx2 := extends_alloc hx (.cells S.toArray 86)
    obtain ⟨V, hV⟩ : ∃ V, V = W1.alloc (.cells S.toArray 86) := ⟨_, rfl⟩
    rw [← hV] at hx2 ⊢
    have hvs : V.heap.size = N + 3 := by rw [hV, World.size_alloc, hsz]
    have hzV : V.heap[N + 1]? = some (.cells (zerosK 16) 3 (0, 0)) := by rw [hV, heap_alloc, if_neg (by omega)]; exact hz
    have hbV : blk V (N + 2) = some S := by rw [hV, blk_alloc, if_pos hsz.symm]
    have hfV : free V (N + 2) = true := by rw [hV]; unfold free; rw [heap_alloc, if_pos hsz.symm]; rfl
    rw [hsz]
    refine ⟨N + 2, initO O N, rfl, hx2, fun k hk => if_pos (by omega), by omega, none, 0, 0, [], ⟨List.replicate 16 0, none, 0, 0, some ⟨N + 1, 0, none⟩, 16, 16, ⟨by rw [hbV, hSd], hfV, ?_, RowL.nil _ _ _ _ _ _, ?_, by omega⟩, ⟨tinv_nil 4 (by omega) (by omega), Nat.zero_le _, fun nm h => (by cases h), by simp⟩⟩, RowL.nil _ _ _ _ _ _, rfl, Nat.zero_le _, by omega, fun i d s hd => by simp at hd⟩
    · unfold initO; rw [if_neg (by omega), if_neg (by omega), if_pos rfl]
    · refine ⟨⟨by rw [flat_rep]; simp, .inr ⟨N + 1, 16, zerosK 16, by simp, by omega, hzV, by simp, by simp only [maxLen]; omega, by unfold zerosK; rw [flat_rep]; simp, ?_⟩⟩, fun k hk => ?_⟩
      · unfold zerosK
        rw [flat_rep]; simp
      · simp [Value.ownBlock] at hk
        rw [← hk]; unfold initO; rw [if_neg (by omega), if_pos rfl]
  go_enter Try.func11, Try.ntmps11
  go_wp2_with fail
  refine (newSymtab_any W).mono ?_
  rintro e W1 ⟨rfl, h1, h2, h3⟩
  have HP := hid_of (HF.out W1 h1 h2 h3)
  clear HF h1 h2 h3
  dsimp only
  go_wp2_with fail
  go_ret
  exact HP.out
end Go.Proofs.Qxb6500789a
