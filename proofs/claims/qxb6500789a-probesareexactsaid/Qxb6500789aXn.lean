import Derived.Test.Qxb6500789aXm
import Derived.StillTailTactics
import Derived.Deep.QuietTactic
import Derived.BigQuiet
import Derived.Deep.RegionHeld
import Derived.Deep.CutRange
import Derived.Laws.ResultCell
import Derived.Laws.Rows
import Derived.DeepKeys
import Derived.DataBytes
import Derived.Laws.StructEq
import Derived.Laws.AppendOwn
import Derived.Laws.MakeOwn
import Derived.Lib.AppendStr
set_option linter.unusedSimpArgs false
set_option linter.unusedVariables false
namespace Go.Proofs.Qxb6500789a
open Go.RowKit Go.Blk
attribute [local go_sem ↓] execOp_load execOp_store execOp_alloc
attribute [local go_sem] Try.ld29 Try.st29 Try.ld3 Try.st3 Try.ld9 Try.st9 Try.ld30 Try.st30 Try.ld34 Try.st34 Try.ld35 Try.st35 Try.ld36 Try.st36 Try.ld37 Try.st37 Try.ld44 Try.st44 Try.ld45 Try.st45 Try.ld54 Try.st54 Try.ld55 Try.st55 Try.ld74 Try.st74 Try.ld80 Try.st80 Try.ld84 Try.st84 Try.ld106 Try.st106 Try.ld107 Try.st107 Try.ld4 Try.st4 Try.ld121 Try.st121 Try.ld2 Try.st2 Try.ld5 Try.st5 Try.ld12 Try.st12 Try.ld21 Try.st21 Try.ld22 Try.st22 Try.ld24 Try.st24 Try.ld26 Try.st26 Try.ld63 Try.st63 Try.ld71 Try.st71 Try.ld103 Try.st103 Try.ld130 Try.st130 Try.ld133 Try.st133 Try.ld140 Try.st140 Try.ld152 Try.st152 Try.ld39 Try.st39 Try.ld32 Try.st32 Try.ld41 Try.st41 Try.ld47 Try.st47 Try.ld57 Try.st57 Try.ld62 Try.st62 Try.ld76 Try.st76 Try.ld82 Try.st82 Try.ld86 Try.st86 Try.ld109 Try.st109 Try.ld115 Try.st115 Try.ld123 Try.st123 Try.ld135 Try.st135 Try.al39 Try.al32 Try.al41 Try.al47 Try.al57 Try.al62 Try.al76 Try.al82 Try.al86 Try.al109 Try.al115 Try.al123 Try.al135
attribute [local go_sem] Answer.length_enc Answer.ok_enc Answer.all_get Answer.all_set Answer.code_get Answer.code_set Answer.n_get Answer.n_set Answer.name_get Answer.name_set Answer.rows_get Answer.rows_set GOp.length_enc GOp.ok_enc GOp.all_get GOp.all_set GOp.kind_get GOp.kind_set GOp.rel_get GOp.rel_set GOp.mask_get GOp.mask_set GOp.t_get GOp.t_set GOp.n_get GOp.n_set GOp.name_get GOp.name_set Store.length_enc Store.ok_enc Store.all_get Store.all_set Store.names_get Store.names_set Store.rels_get Store.rels_set GRel.length_enc GRel.ok_enc GRel.all_get GRel.all_set GRel.arity_get GRel.arity_set GRel.masks_get GRel.masks_set GRel.rows_get GRel.rows_set Row.length_enc Row.ok_enc Row.all_get Row.all_set Row.t_get Row.t_set Row.mark_get Row.mark_set View.length_enc View.ok_enc View.all_get View.all_set View.names_get View.names_set View.rels_get View.rels_set Symtab.length_enc Symtab.ok_enc Symtab.all_get Symtab.all_set Symtab.names_get Symtab.names_set Symtab.table_get Symtab.table_set StoreTuplestore.length_enc StoreTuplestore.ok_enc StoreTuplestore.all_get StoreTuplestore.all_set StoreTuplestore.syms_get StoreTuplestore.syms_set StoreTuplestore.rels_get StoreTuplestore.rels_set StoreTuplestore.syms_names_get StoreTuplestore.syms_names_set StoreTuplestore.syms_table_get StoreTuplestore.syms_table_set Relation.length_enc Relation.ok_enc Relation.all_get Relation.all_set Relation.arity_get Relation.arity_set Relation.slots_get Relation.slots_set Relation.live_get Relation.live_set Relation.idx_get Relation.idx_set Slot.length_enc Slot.ok_enc Slot.all_get Slot.all_set Slot.t_get Slot.t_set Slot.mark_get Slot.mark_set Slot.live_get Slot.live_set RelView.length_enc RelView.ok_enc RelView.all_get RelView.all_set RelView.arity_get RelView.arity_set RelView.rows_get RelView.rows_set RelView.marks_get RelView.marks_set RelView.indexed_get RelView.indexed_set Index.length_enc Index.ok_enc Index.all_get Index.all_set Index.mask_get Index.mask_set Index.heads_get Index.heads_set Index.next_get Index.next_set
attribute [local go_sem] size_put size_ext blk_put free_put blk_alloc free_alloc blk_drew free_drew blk_ext free_ext lookOr_some putOr_some segAt_some cellAt_some storeIn_some put_put put_alloc_new length_arr ok_arr_u8 ok_arr_u32 ok_arr_u64 ok_arr_i64 ok_arr_sl cellsV_agg cellsV_int cellsV_bool cellsV_string cellsV_pointer cellsV_slice cellsV_sl ok_int ok_bool ok_string ok_pointer ok_slice ok_sl toList_arr seg_arr set_arr nth_splice nth_splice0 seg_splice seg_splice0 splice_splice splice_splice0 length_splice_if
attribute [local go_sem ↓] execOp_box
attribute [local go_sem] box_run nth_arr_u8 put_arr_u8 blk_drewN free_drewN put_drewN blk_raw free_raw
def ClearPost (B : Nat) (O : Own) (W : World) (gr o : Nat) (Cr : List Value) (tyr : TypeId) (lr : Lab) (i : Nat) (sa : Option Addr) (sc : Nat) (ia : Option Addr) (iN ic : Nat) (K : List IxD) (e : Ending) (W' : World) : Prop := e = .returned (.tuple #[]) ∧ ∃ O' K', Fr (isRelR i lr) O W O' W' ∧ W'.heap[gr]? = some (.cells (splice (splice Cr (o + 1) [.slice sa 0 sc]) (o + 2) [.int .i64 0]).toArray tyr (0, 0)) ∧ RelIn B O' W' i sa 0 sc ia iN ic [] K' ∧ K'.map (·.m) = K.map (·.m) ∧ ∀ k ∈ K', SzB k 0
set_option maxRecDepth 100000 in
theorem frame34 (f : Nat → Value) : frameN 34 f = #[f 0, f 1, f 2, f 3, f 4, f 5, f 6, f 7, f 8, f 9, f 10, f 11, f 12, f 13, f 14, f 15, f 16, f 17, f 18, f 19, f 20, f 21, f 22, f 23, f 24, f 25, f 26, f 27, f 28, f 29, f 30, f 31, f 32, f 33] := by kernel_rfl
attribute [local go_sem] Try.sl106 Try.sl106z
attribute [local go_sem ↓] execOp_slice
set_option maxRecDepth 20000 in
set_option maxHeartbeats 4000000 in
theorem clear_any (B : Nat) (O : Own) (W : World) (gr o : Nat) (Cr : List Value) (tyr : TypeId) (lr : Lab) (i : Nat) (ar : Int) (sa : Option Addr) (sn sc : Nat) (lv : Int) (ia : Option Addr) (iN ic : Nat) (L : List Slot) (K : List IxD) (hty : W.heap[gr]? = some (.cells Cr.toArray tyr (0, 0))) (hlr : O gr = lr) (hnl : ¬ isRel i lr) (hR : RelAt Cr o ar sa sn sc lv ia iN ic) (hI : RelIn B O W i sa sn sc ia iN ic L K) (hsn : sn ≤ 10000) (hiN : iN ≤ 1000) (hB : B ≤ W.heap.size) :
    Calls Try.prog 73 #[.pointer (some ⟨gr, o, none⟩)] W (ClearPost B O W gr o Cr tyr lr i sa sc ia iN ic K) := by
  have hb : blk W gr = some Cr := blk_mk hty
  have hf : free W gr = true := free_mk hty
  obtain ⟨r4, c0, c1, c2, c3⟩ := hR
  obtain ⟨hLn, hKn⟩ := hI.lens
  have HTY : Hid (W.heap[gr]? = some (.cells Cr.toArray tyr (0, 0))) := hty
  have HLR : Hid (O gr = lr) := hlr
  have HNL : Hid (¬ isRel i lr) := hnl
  have HKN : Hid (K.length = iN) := hKn
  have l1 : o + 1 + 1 ≤ Cr.length := by omega
  have l2 : o + 2 + 1 ≤ Cr.length := by omega
  have l3 : o + 3 + 1 ≤ Cr.length := by omega
  obtain ⟨C2, hC2⟩ : ∃ C2, C2 = splice (splice Cr (o + 1) [.slice sa 0 sc]) (o + 2) [.int .i64 0] := ⟨_, rfl⟩
  have sl1 : (splice Cr (o + 1) [.slice sa 0 sc]).length = Cr.length := length_splice1 (by omega)
  have sl2 : C2.length = Cr.length := by rw [hC2, length_splice1 (by omega)]; exact sl1
  have hC2' : splice (splice Cr (o + 1) [.slice sa 0 sc]) (o + 2) [.int .i64 0] = C2 := hC2.symm
  have c1' : nth C2 (o + 1) = some (.slice sa 0 sc) := by rw [hC2, splice_nth (by omega), if_neg (by omega), splice_nth (by omega), if_pos rfl]
  have c3' : nth C2 (o + 3) = some (.slice ia iN ic) := by rw [hC2, splice_nth (by omega), if_neg (by omega), splice_nth (by omega), if_neg (by omega)]; exact c3
  have HC2 : Hid (C2 = splice (splice Cr (o + 1) [.slice sa 0 sc]) (o + 2) [.int .i64 0]) := hC2
  have HX0 : Hid (RxI B O (put W gr C2) i sa 0 sc ia iN ic [] K sn 0 (put W gr C2) ∧ Fr (isRelR i lr) O W O (put W gr C2) ∧ (put W gr C2).heap[gr]? = some (.cells C2.toArray tyr (0, 0))) := by
    have hF2 : Fr (isRelR i lr) O W O (put W gr C2) := Fr.put (Fr.refl _ _ _) (by rw [hlr]; exact .inl rfl) _
    have hFp : Fr (fun l => l = lr) O W O (put W gr C2) := Fr.put (Fr.refl _ _ _) (by rw [hlr]) _
    have hne : ∀ l, isRel i l → ¬ (l = lr) := fun l h1 h2 => hnl (h2 ▸ h1)
    refine ⟨?_, hF2, by rw [heap_put, if_pos rfl, hty]; rfl⟩
    have hid := hI.idx.fr hFp (hne _ (.inr (.inl rfl)))
    rw [hLn] at hid
    refine rx_start hid (fun j k hk => ?_) ?_
    · have h1 := hI.ixs j k hk
      have h2 := h1.next.fr hFp (hne _ (.inr (.inr (.inr ⟨j, rfl⟩))))
      rw [hLn] at h2
      exact ⟨h1.sz.1, _, h2⟩
    · have h3 := (hI.slots.fr hFp (hne _ (.inl rfl))).cut Slot.length_enc (k := 0) (Nat.zero_le _)
      rw [List.take_zero] at h3
      exact h3
  clear hty hlr hnl hI hLn hKn hC2
  go_enter Try.func73, Try.ntmps73
  go_wp2_with fail
  obtain ⟨W2, hW2⟩ : ∃ W2, W2 = put W gr C2 := ⟨_, rfl⟩
  rw [← hW2] at HX0 ⊢
  refine wp_loop_f 34 (rxF B O W2 gr o 2 i sa 0 sc ia iN ic [] K sn) (fun f _ => iN - (intOf (f 2)).toNat) rfl ⟨rfl, 0, by omega, rfl, HX0.out.1⟩ ?_
  have HF2 : Hid (Fr (isRelR i lr) O W O W2) := HX0.out.2.1
  have HT2 : Hid (W2.heap[gr]? = some (.cells C2.toArray tyr (0, 0))) := HX0.out.2.2
  clear hW2 HX0 hb hf hC2'
  intro F2 V2 hrel
  obtain ⟨f0, j, hj, f2, HQ⟩ := hrel
  have H2 : Hid (F2 2 = .int .i64 (j : Nat)) := f2
  rw [frame34, f0, f2]
  clear f0 f2
  have hl2 : ¬ isIxs i lr := fun h => HNL.out (by
    rcases h with rfl | ⟨j, rfl⟩ | ⟨j, rfl⟩
    · exact .inr (.inl rfl)
    · exact .inr (.inr (.inl ⟨j, rfl⟩))
    · exact .inr (.inr (.inr ⟨j, rfl⟩)))
  have hb2 : blk W2 gr = some (C2) := blk_mk HT2.out
  by_cases hjn : j < iN
  · have hjn' : (j : Int) < (iN : Int) := by omega
    obtain ⟨O1, gi, Ci, k, X, rfl, htyi, hoi, _, hsegi, hci3, hX, hSl, hm, hF1, hnext⟩ := rx_open HQ.out (by rw [HKN.out]; exact hjn)
    have hbV : blk V2 gr = some (C2) := hF1.blk hb2 (by rw [HLR.out]; exact hl2)
    have hbi : blk V2 gi = some Ci := blk_mk htyi
    have HC : Hid (∀ V', RebPost B O1 V2.drew gi (j * 3) Ci 135 i j k.m [] (.returned (.tuple #[])) V' → RxI B O W2 i sa 0 sc (some ⟨gi, 0, none⟩) iN ic [] K sn (j + 1) V') := fun V' h => hnext V' (by
      obtain ⟨g1, ha, size, jj, h1, h2, h3, h4, h5, O', xa, xc, hF, hrest⟩ := h
      exact ⟨g1, ha, size, jj, h1, h2, h3, h4, h5, O', xa, xc, ⟨hF.os, hF.tape, hF.output, hF.size, hF.keep, hF.block⟩, hrest⟩)
    have q0 : (0 : Int) ≤ (j : Int) := by omega
    have q2 : ((j : Int)).toNat = j := by omega
    have HP : Hid (RowL B O1 (.next i j) V2 3 1 (.slice k.xa sn k.xc) X.length (X.flatMap encK) ∧ RowL B O1 (.slots i) V2 115 6 (.slice sa 0 sc) ([] : List Slot).length (([] : List Slot).flatMap Slot.enc) ∧ seg Ci (j * 3) 3 = ixE (k.m : Int) k.ha k.size k.size k.xa sn k.xc ∧ V2.heap[gi]? = some (.cells Ci.toArray 135 (0, 0)) ∧ O1 gi = .idx i ∧ B ≤ V2.heap.size) := ⟨hX, hSl, hsegi, htyi, hoi, Nat.le_trans hB (Nat.le_trans HF2.out.size hF1.size)⟩
    clear hX hSl hsegi htyi hoi hnext HQ hF1
    go_upto_region 5 with fail
    refine wp_region_held_drew (S := fun W' => blk W' gr = some C2) (by kernel_rfl) hbV (fun hHeld => ?_)
    refine wpAnyH_take (i := 0) (oi := ⟨_, _, _, _, _, _⟩) (v := ?_) rfl (by kernel_rfl) (by kernel_rfl) (by kernel_rfl) (fun _ _ _ h => h) (Or.inl ⟨by rfl, ?_⟩) (by assumption) ?_
    rotate_left 1
    · intro W' hS1
      go_simp
      try with_reducible rfl
    try simp only [Act.put, List.setIfInBounds_toArray, List.set_cons_zero, List.set_cons_succ]
    refine wpAnyH_take (i := 1) (oi := ⟨_, _, _, _, _, _⟩) (v := ?_) rfl (by kernel_rfl) (by kernel_rfl) (by kernel_rfl) (fun _ _ _ h => h) (Or.inl ⟨by rfl, ?_⟩) (by assumption) ?_
    rotate_left 1
    · intro W' hS1
      go_simp
      try with_reducible rfl
    try simp only [Act.put, List.setIfInBounds_toArray, List.set_cons_zero, List.set_cons_succ]
    refine wpAnyH_take (i := 2) (oi := ⟨_, _, _, _, _, _⟩) (v := ?_) rfl (by kernel_rfl) (by kernel_rfl) (by kernel_rfl) (fun _ _ _ h => h) (Or.inl ⟨by rfl, ?_⟩) (by assumption) ?_
    rotate_left 1
    · intro W' hS1
      go_simp
      try with_reducible rfl
    try simp only [Act.put, List.setIfInBounds_toArray, List.set_cons_zero, List.set_cons_succ]
    refine wpAnyH_take (i := 3) (oi := ⟨_, _, _, _, _, _⟩) (v := ?_) rfl (by kernel_rfl) (by kernel_rfl) (by kernel_rfl) (fun _ _ _ h => h) (Or.inl ⟨by rfl, ?_⟩) (by assumption) ?_
    rotate_left 1
    · intro W' hS1
      go_simp
      try with_reducible rfl
    try simp only [Act.put, List.setIfInBounds_toArray, List.set_cons_zero, List.set_cons_succ]
    refine wpAnyH_take (i := 4) (oi := ⟨_, _, _, _, _, _⟩) (v := ?_) rfl (by kernel_rfl) (by kernel_rfl) (by kernel_rfl) (fun _ _ _ h => h) (Or.inl ⟨by rfl, ?_⟩) (by assumption) ?_
    rotate_left 1
    · intro W' hS1
      go_simp
      try with_reducible rfl
    try simp only [Act.put, List.setIfInBounds_toArray, List.set_cons_zero, List.set_cons_succ]
    refine wpAnyH_take (i := 5) (oi := ⟨_, _, _, _, _, _⟩) (v := ?_) rfl (by kernel_rfl) (by kernel_rfl) (by kernel_rfl) (fun _ _ _ h => h) (Or.inl ⟨by rfl, ?_⟩) (by assumption) ?_
    rotate_left 1
    · intro W' hS1
      go_simp
      try with_reducible rfl
    try simp only [Act.put, List.setIfInBounds_toArray, List.set_cons_zero, List.set_cons_succ]
    refine wpAnyH_take (i := 6) (oi := ⟨_, _, _, _, _, _⟩) (v := ?_) rfl (by kernel_rfl) (by kernel_rfl) (by kernel_rfl) (fun _ _ _ h => h) (Or.inl ⟨by rfl, ?_⟩) (by assumption) ?_
    rotate_left 1
    · intro W' hS1
      go_simp
      try with_reducible rfl
    try simp only [Act.put, List.setIfInBounds_toArray, List.set_cons_zero, List.set_cons_succ]
    refine wpAnyH_take (i := 7) (oi := ⟨_, _, _, _, _, _⟩) (v := ?_) rfl (by kernel_rfl) (by kernel_rfl) (by kernel_rfl) (fun _ _ _ h => h) (Or.inl ⟨by rfl, ?_⟩) (by assumption) ?_
    rotate_left 1
    · intro W' hS1
      go_simp
      try with_reducible rfl
    try simp only [Act.put, List.setIfInBounds_toArray, List.set_cons_zero, List.set_cons_succ]
    refine wpAnyH_take (i := 8) (oi := ⟨_, _, _, _, _, _⟩) (v := ?_) rfl (by kernel_rfl) (by kernel_rfl) (by kernel_rfl) (fun _ _ _ h => h) (Or.inl ⟨by rfl, ?_⟩) (by assumption) ?_
    rotate_left 1
    · intro W' hS1
      go_simp
      try with_reducible rfl
    try simp only [Act.put, List.setIfInBounds_toArray, List.set_cons_zero, List.set_cons_succ]
    refine wpAnyH_take (i := 9) (oi := ⟨_, _, _, _, _, _⟩) (v := ?_) rfl (by kernel_rfl) (by kernel_rfl) (by kernel_rfl) (fun _ _ _ h => h) (Or.inl ⟨by rfl, ?_⟩) (by assumption) ?_
    rotate_left 1
    · intro W' hS1
      go_simp
      try with_reducible rfl
    try simp only [Act.put, List.setIfInBounds_toArray, List.set_cons_zero, List.set_cons_succ]
    refine wpAnyH_ready (rs := [10]) (by kernel_rfl) (by simp) ?_
    refine AllReadyH.cons (o := ⟨_, _, _, _, _, _⟩) rfl (fun K' hK => ?_) AllReadyH.nil
    go_simp
    refine (rebuild_any B O1 V2.drew gi (j * 3) Ci i j k.m k.ha k.size k.size k.xa sn k.xc X sa 0 sc [] 135 HP.out.2.2.2.1 HP.out.2.2.2.2.1 HP.out.2.2.1 hci3 HP.out.1 HP.out.2.1 hm (by omega) HP.out.2.2.2.2.2).mono ?_
    intro e V3 hP3
    have hbV3 : blk V3 gr = some C2 := by
      obtain ⟨O9, K9, g1, _⟩ := HC.out V3 (by obtain ⟨rfl, h⟩ := hP3; exact ⟨rfl, h⟩)
      exact g1.blk hb2 (by rw [HLR.out]; exact hl2)
    have HN : Hid (RxI B O W2 i sa 0 sc (some ⟨gi, 0, none⟩) iN ic [] K sn (j + 1) V3) := HC.out V3 (by obtain ⟨rfl, h⟩ := hP3; exact ⟨rfl, h⟩)
    obtain ⟨rfl, _⟩ := hP3
    clear HC HP
    dsimp only
    refine hK.out _ _ hbV3 (fun hHeld => ?_)
    clear hK K'
    try simp only [Act.put, List.setIfInBounds_toArray, List.set_cons_zero, List.set_cons_succ]
    refine wpAnyH_done (by kernel_rfl) ?_ _
    go_wp2_with fail
    refine ⟨rfl, rfl, ⟨rfl, j + 1, by omega, ?_, HN⟩, ?_⟩
    · show Value.int .i64 _ = _
      go_num
    · show iN - (intOf (Value.int .i64 _)).toNat < iN - (intOf (F2 2)).toNat
      rw [H2.out]
      simp [intOf]; omega
  · obtain rfl : j = iN := by omega
    have hjn' : ¬ ((j : Int) < (j : Int)) := by omega
    have HFIN : Hid (ClearPost B O W gr o Cr tyr lr i sa sc ia j ic K (.returned (.tuple #[])) V2 ∧ blk V2 gr = some (C2)) := by
      have h9 := HQ.out
      rw [← HKN.out] at h9
      obtain ⟨O9, K9, g1, g2, g3, g4⟩ := rx_done h9
      rw [HKN.out] at g2
      refine ⟨⟨rfl, O9, K9, HF2.out.trans (g1.mono (fun l hl => .inr ?_)), ?_, ?_, g3, g4⟩, g1.blk hb2 (by rw [HLR.out]; exact hl2)⟩
      · rcases hl with rfl | ⟨j, rfl⟩ | ⟨j, rfl⟩
        · exact .inr (.inl rfl)
        · exact .inr (.inr (.inl ⟨j, rfl⟩))
        · exact .inr (.inr (.inr ⟨j, rfl⟩))
      · rw [← HC2.out]
        exact (g1.block gr (blk_lt hb2) (by rw [HLR.out]; exact hl2)).trans HT2.out
      · exact g2
    have hbV := HFIN.out.2
    clear HQ
    go_wp2_with fail
    go_end0
    exact HFIN.out.1
end Go.Proofs.Qxb6500789a
