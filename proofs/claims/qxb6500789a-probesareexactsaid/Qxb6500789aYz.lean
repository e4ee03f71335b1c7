import Derived.Test.Qxb6500789aYy
import Derived.StillTailTactics
import Derived.Deep.QuietTactic
import Derived.BigQuiet
import Derived.Deep.RegionHeld
import Derived.Deep.CutRange
import Derived.Laws.ResultCell
import Derived.Laws.Rows
import Derived.DeepKeys
import Derived.DataBytes
import Derived.Laws.StructEq
import Derived.Laws.AppendOwn
import Derived.Laws.MakeOwn
import Derived.Lib.AppendStr
set_option linter.unusedSimpArgs false
set_option linter.unusedVariables false
namespace Go.Proofs.Qxb6500789a
open Go.RowKit Go.Blk
attribute [local go_sem ↓] execOp_load execOp_store execOp_alloc
attribute [local go_sem] Try.ld29 Try.st29 Try.ld3 Try.st3 Try.ld9 Try.st9 Try.ld30 Try.st30 Try.ld34 Try.st34 Try.ld35 Try.st35 Try.ld36 Try.st36 Try.ld37 Try.st37 Try.ld44 Try.st44 Try.ld45 Try.st45 Try.ld54 Try.st54 Try.ld55 Try.st55 Try.ld74 Try.st74 Try.ld80 Try.st80 Try.ld84 Try.st84 Try.ld106 Try.st106 Try.ld107 Try.st107 Try.ld4 Try.st4 Try.ld121 Try.st121 Try.ld2 Try.st2 Try.ld5 Try.st5 Try.ld12 Try.st12 Try.ld21 Try.st21 Try.ld22 Try.st22 Try.ld24 Try.st24 Try.ld26 Try.st26 Try.ld63 Try.st63 Try.ld71 Try.st71 Try.ld103 Try.st103 Try.ld130 Try.st130 Try.ld133 Try.st133 Try.ld140 Try.st140 Try.ld152 Try.st152 Try.ld39 Try.st39 Try.ld32 Try.st32 Try.ld41 Try.st41 Try.ld47 Try.st47 Try.ld57 Try.st57 Try.ld62 Try.st62 Try.ld76 Try.st76 Try.ld82 Try.st82 Try.ld86 Try.st86 Try.ld109 Try.st109 Try.ld115 Try.st115 Try.ld123 Try.st123 Try.ld135 Try.st135 Try.al39 Try.al32 Try.al41 Try.al47 Try.al57 Try.al62 Try.al76 Try.al82 Try.al86 Try.al109 Try.al115 Try.al123 Try.al135
attribute [local go_sem] Answer.length_enc Answer.ok_enc Answer.all_get Answer.all_set Answer.code_get Answer.code_set Answer.n_get Answer.n_set Answer.name_get Answer.name_set Answer.rows_get Answer.rows_set GOp.length_enc GOp.ok_enc GOp.all_get GOp.all_set GOp.kind_get GOp.kind_set GOp.rel_get GOp.rel_set GOp.mask_get GOp.mask_set GOp.t_get GOp.t_set GOp.n_get GOp.n_set GOp.name_get GOp.name_set Store.length_enc Store.ok_enc Store.all_get Store.all_set Store.names_get Store.names_set Store.rels_get Store.rels_set GRel.length_enc GRel.ok_enc GRel.all_get GRel.all_set GRel.arity_get GRel.arity_set GRel.masks_get GRel.masks_set GRel.rows_get GRel.rows_set Row.length_enc Row.ok_enc Row.all_get Row.all_set Row.t_get Row.t_set Row.mark_get Row.mark_set View.length_enc View.ok_enc View.all_get View.all_set View.names_get View.names_set View.rels_get View.rels_set Symtab.length_enc Symtab.ok_enc Symtab.all_get Symtab.all_set Symtab.names_get Symtab.names_set Symtab.table_get Symtab.table_set StoreTuplestore.length_enc StoreTuplestore.ok_enc StoreTuplestore.all_get StoreTuplestore.all_set StoreTuplestore.syms_get StoreTuplestore.syms_set StoreTuplestore.rels_get StoreTuplestore.rels_set StoreTuplestore.syms_names_get StoreTuplestore.syms_names_set StoreTuplestore.syms_table_get StoreTuplestore.syms_table_set Relation.length_enc Relation.ok_enc Relation.all_get Relation.all_set Relation.arity_get Relation.arity_set Relation.slots_get Relation.slots_set Relation.live_get Relation.live_set Relation.idx_get Relation.idx_set Slot.length_enc Slot.ok_enc Slot.all_get Slot.all_set Slot.t_get Slot.t_set Slot.mark_get Slot.mark_set Slot.live_get Slot.live_set RelView.length_enc RelView.ok_enc RelView.all_get RelView.all_set RelView.arity_get RelView.arity_set RelView.rows_get RelView.rows_set RelView.marks_get RelView.marks_set RelView.indexed_get RelView.indexed_set Index.length_enc Index.ok_enc Index.all_get Index.all_set Index.mask_get Index.mask_set Index.heads_get Index.heads_set Index.next_get Index.next_set
attribute [local go_sem] size_put size_ext blk_put free_put blk_alloc free_alloc blk_drew free_drew blk_ext free_ext lookOr_some putOr_some segAt_some cellAt_some storeIn_some put_put put_alloc_new length_arr ok_arr_u8 ok_arr_u32 ok_arr_u64 ok_arr_i64 ok_arr_sl cellsV_agg cellsV_int cellsV_bool cellsV_string cellsV_pointer cellsV_slice cellsV_sl ok_int ok_bool ok_string ok_pointer ok_slice ok_sl toList_arr seg_arr set_arr nth_splice nth_splice0 seg_splice seg_splice0 splice_splice splice_splice0 length_splice_if
attribute [local go_sem ↓] execOp_box
attribute [local go_sem] box_run nth_arr_u8 put_arr_u8 blk_drewN free_drewN put_drewN blk_raw free_raw
attribute [local go_sem] v_len v_ok v_n0 v_n1 v_s0 v_s1 v_all v_put b32_0 b32_c b32_n b32_cn b32_s b32_r b57
attribute [local go_sem ↓] execOp_build execOp_bslice
set_option maxRecDepth 20000 in
set_option maxHeartbeats 4000000 in
theorem mintern_any (B : Nat) (O : Own) (W : World) (bm : Nat) (sm : StS) (h : MAt B O W bm sm) (hm : MSm sm) (nm : List UInt8) (hl : nm.length ≤ 1000000) :
    Calls Try.prog 44 #[.pointer (some ⟨bm, 0, none⟩), .string ⟨nm.toArray⟩] W (MAns B O W bm ⟨(internF sm.names nm).2.2, sm.rels⟩ (ans (internF sm.names nm).2.1 (internF sm.names nm).1)) := by
  have HM := hid_of h
  have HSM := hid_of hm
  obtain ⟨s, hs⟩ : ∃ s : ByteArray, s = ⟨nm.toArray⟩ := ⟨_, rfl⟩
  have HS := hid_of hs
  obtain ⟨k, hk⟩ : ∃ k, k = nm.length := ⟨_, rfl⟩
  have hss : s.size = k := by rw [hs, hk]; simp [ByteArray.size]
  have HK := hid_of hk
  rw [← hs]
  obtain ⟨q, hq⟩ : ∃ q, q = internF sm.names nm := ⟨_, rfl⟩
  rw [← hq]
  have HQQ := hid_of hq
  have hk1 : k ≤ 1000000 := by omega
  obtain ⟨Q, hQ⟩ : ∃ Q, Q = MAns B O W bm ⟨q.2.2, sm.rels⟩ (ans q.2.1 q.1) := ⟨_, rfl⟩
  rw [← hQ]
  have HQ := hid_of hQ
  clear hs hk hq hQ hm h hl
  go_enter Try.func44, Try.ntmps44
  go_upto_region 1 with fail
  refine wp_world (fun W1 => blk W1 W.heap.size = some (Answer.enc Answer.zero) ∧ free W1 W.heap.size = true ∧ W.Extends W1) ⟨?_, ?_, extends_alloc (ext_Ext (Ext.refl _)) _⟩ ?_
  · rw [blk_alloc, if_pos rfl]
  · unfold free; rw [heap_alloc, if_pos rfl]; rfl
  rintro W1 ⟨hb4, hf4, hx1⟩
  obtain ⟨b4, e4⟩ : ∃ b4, b4 = W.heap.size := ⟨_, rfl⟩
  rw [← e4] at hb4 hf4 ⊢
  have hn4 : W.heap.size ≤ b4 := by omega
  have hn4' := blk_lt hb4
  obtain ⟨O1, hO1⟩ : ∃ O1, O1 = lab O W.heap.size .no := ⟨_, rfl⟩
  have hM1 : MAt B O1 W1 bm sm := by rw [hO1]; exact HM.out.new hx1
  have HM1 := hid_of hM1
  have HF : Hid (∀ sm' V C, MOut B O1 W1 bm sm' V → MOut B O W bm sm' (put V b4 C)) := by
    intro sm' V C h
    rw [hO1] at h
    exact mout_put hx1 hn4 hn4' h C
  have HG : Hid (∀ sm' V, MOut B O1 W1 bm sm' V → blk V b4 = some (Answer.enc Answer.zero) ∧ free V b4 = true) := by
    intro sm' V h
    rw [hO1] at h
    exact mout_blk hn4 hb4 hf4 h
  clear e4 hO1 hx1 hn4 hM1
  by_cases h64 : 64 < k
  · have h64' : (64 : Int) < (k : Int) := by omega
    have e : q = (-1, 6, sm.names) := by rw [HQQ.out]; unfold internF; rw [if_pos (by rw [← HK.out]; exact h64)]
    subst e
    have HP : Hid (Q (.returned (.agg (Answer.enc (ans 6 (-1))).toArray)) (put (W1) b4 (Answer.enc (ans 6 (-1))))) := by
      have ho := (mout_same HM1.out (ext_Ext (Ext.refl _)))
      show Q _ _
      rw [HQ.out]
      exact ⟨rfl, HF.out _ _ _ ho⟩
    have hbV : blk (W1) b4 = some (Answer.enc Answer.zero) := (HG.out sm _ (mout_same HM1.out (ext_Ext (Ext.refl _)))).1
    have hfV : free (W1) b4 = true := (HG.out sm _ (mout_same HM1.out (ext_Ext (Ext.refl _)))).2
    have HBC : Hid (blk (put (W1) b4 (Answer.enc (ans 6 (-1)))) b4 = some (Answer.enc (ans 6 (-1)))) := by
      show blk _ _ = _
      rw [blk_put, if_pos rfl, hbV]; rfl
    clear HF HG hb4 hf4
    go_wp2_with fail
    try go_ret2
    refine ret_cell (C := Answer.enc (ans 6 (-1))) rfl rfl HBC.out (by kernel_rfl) (by rw [Answer.length_enc]; kernel_rfl) rfl ?_
    exact HP.out
  have h64' : ¬ (64 : Int) < (k : Int) := by omega
  have hso := symOf_any B O1 W1 bm sm HM1.out HSM.out nm
  rw [← HS.out] at hso
  have HIG : Hid (q = internG sm.names nm (lookF sm.names nm)) := by
    show _ = _
    rw [HQQ.out]
    unfold internF
    rw [if_neg (by rw [← HK.out]; exact h64)]
  unfold lookupF at hso
  cases hlk : lookF sm.names nm with
  | some n =>
    have e : q = ((n : Int), 0, sm.names) := by rw [HIG.out, hlk]; rfl
    rw [hlk] at hso
    have hso' : Calls Try.prog 45 #[.pointer (some ⟨bm, 0, none⟩), .string s] W1 fun e W' => e = .returned (.int .i64 (n : Int)) ∧ W' = W1 := hso
    subst e
    have HP : Hid (Q (.returned (.agg (Answer.enc (ans 0 (n : Int))).toArray)) (put (W1) b4 (Answer.enc (ans 0 (n : Int))))) := by
      have ho := (mout_same HM1.out (ext_Ext (Ext.refl _)))
      show Q _ _
      rw [HQ.out]
      exact ⟨rfl, HF.out _ _ _ ho⟩
    have hbV : blk (W1) b4 = some (Answer.enc Answer.zero) := (HG.out sm _ (mout_same HM1.out (ext_Ext (Ext.refl _)))).1
    have hfV : free (W1) b4 = true := (HG.out sm _ (mout_same HM1.out (ext_Ext (Ext.refl _)))).2
    have HBC : Hid (blk (put (W1) b4 (Answer.enc (ans 0 (n : Int)))) b4 = some (Answer.enc (ans 0 (n : Int)))) := by
      show blk _ _ = _
      rw [blk_put, if_pos rfl, hbV]; rfl
    have hn0 : (0 : Int) ≤ (n : Int) := by omega
    clear HF HG hb4 hf4 hso hlk
    go_wp2_with fail
    refine hso'.mono ?_
    rintro e V1 ⟨rfl, rfl⟩
    dsimp only
    go_wp2_with fail
    refine hso'.mono ?_
    rintro e V2 ⟨rfl, rfl⟩
    dsimp only
    go_wp2_with fail
    try go_ret2
    refine ret_cell (C := Answer.enc (ans 0 (n : Int))) rfl rfl HBC.out (by kernel_rfl) (by rw [Answer.length_enc]; kernel_rfl) rfl ?_
    exact HP.out
  | none =>
    have e : q = if 256 ≤ sm.names.length then (-1, 3, sm.names) else ((sm.names.length : Int), 0, sm.names ++ [nm]) := by rw [HIG.out, hlk]; rfl
    rw [hlk] at hso
    have hso' : Calls Try.prog 45 #[.pointer (some ⟨bm, 0, none⟩), .string s] W1 fun e W' => e = .returned (.int .i64 (-1)) ∧ W' = W1 := hso
    have h256 := HSM.out.nms
    obtain ⟨na, nn, nc, ra, rn, rc, hb, hfb, hnn, na', nc', W2, hrun, nb2, nf2, hout⟩ := mnames_step HM1.out HSM.out nm
    by_cases hfull : 256 ≤ sm.names.length
    · rw [if_pos hfull] at e
      subst e
      have hn256 : (nn : Int) = 256 := by omega
      have HP : Hid (Q (.returned (.agg (Answer.enc (ans 3 (-1))).toArray)) (put (W1) b4 (Answer.enc (ans 3 (-1))))) := by
        have ho := (mout_same HM1.out (ext_Ext (Ext.refl _)))
        show Q _ _
        rw [HQ.out]
        exact ⟨rfl, HF.out _ _ _ ho⟩
      have hbV : blk (W1) b4 = some (Answer.enc Answer.zero) := (HG.out sm _ (mout_same HM1.out (ext_Ext (Ext.refl _)))).1
      have hfV : free (W1) b4 = true := (HG.out sm _ (mout_same HM1.out (ext_Ext (Ext.refl _)))).2
      have HBC : Hid (blk (put (W1) b4 (Answer.enc (ans 3 (-1)))) b4 = some (Answer.enc (ans 3 (-1)))) := by
        show blk _ _ = _
        rw [blk_put, if_pos rfl, hbV]; rfl
      clear HF HG hb4 hf4 hso hlk hout nb2 nf2 hrun
      go_wp2_with fail
      refine hso'.mono ?_
      rintro e V1 ⟨rfl, rfl⟩
      dsimp only
      go_wp2_with fail
      try go_ret2
      refine ret_cell (C := Answer.enc (ans 3 (-1))) rfl rfl HBC.out (by kernel_rfl) (by rw [Answer.length_enc]; kernel_rfl) rfl ?_
      exact HP.out
    · rw [if_neg hfull] at e
      rw [← hnn] at e
      subst e
      have hn256 : ¬ (nn : Int) = 256 := by omega
      have hnle : nn ≤ 256 := by omega
      have hn256b : ((nn : Int) == 256) = false := by simp; omega
      have hwr : IntKind.i64.wrap (((nn + 1 : Nat) : Int) - 1) = (nn : Int) := by rw [IntKind.wrap_i64]; omega
      have hb44 : ∀ w : World, (bsliceOp 44 1 #[(0, .string s)]).run Try.prog w = .ok (.value (.slice (some ⟨w.heap.size, 0, none⟩) 1 1)) (w.alloc (.cells (encS nm).toArray 9)) := fun w => by rw [HS.out]; exact bslice44 w nm
      have HP : Hid (Q (.returned (.agg (Answer.enc (ans 0 (nn : Int))).toArray)) (put (put W2 bm (vE na' (nn + 1) nc' ra rn rc)) b4 (Answer.enc (ans 0 (nn : Int))))) := by
        have ho := hout
        show Q _ _
        rw [HQ.out]
        exact ⟨rfl, HF.out _ _ _ ho⟩
      have hbV : blk (put W2 bm (vE na' (nn + 1) nc' ra rn rc)) b4 = some (Answer.enc Answer.zero) := (HG.out _ _ hout).1
      have hfV : free (put W2 bm (vE na' (nn + 1) nc' ra rn rc)) b4 = true := (HG.out _ _ hout).2
      have HBC : Hid (blk (put (put W2 bm (vE na' (nn + 1) nc' ra rn rc)) b4 (Answer.enc (ans 0 (nn : Int)))) b4 = some (Answer.enc (ans 0 (nn : Int)))) := by
        show blk _ _ = _
        rw [blk_put, if_pos rfl, hbV]; rfl
      have hbm2 : blk (put W2 bm (vE na' (nn + 1) nc' ra rn rc)) bm = some (vE na' (nn + 1) nc' ra rn rc) := by rw [blk_put, if_pos rfl, nb2]; rfl
      clear HF HG hb4 hf4 hso hlk hout hfull hnn
      go_wp2_with fail
      refine hso'.mono ?_
      rintro e V1 ⟨rfl, rfl⟩
      dsimp only
      go_upto_region 8 with (at_builtin; refine wpList_append_run rfl _ _ 44 rfl _ _ _ _ rfl rfl hrun ?_)
      obtain ⟨V3, hV3⟩ : ∃ V3, V3 = put W2 bm (vE na' (nn + 1) nc' ra rn rc) := ⟨_, rfl⟩
      rw [← hV3] at hbm2 hbV hfV HBC HP ⊢
      clear hV3
      go_wp2_with fail
      try go_ret2
      refine ret_cell (C := Answer.enc (ans 0 (nn : Int))) rfl rfl HBC.out (by kernel_rfl) (by rw [Answer.length_enc]; kernel_rfl) rfl ?_
      exact HP.out
end Go.Proofs.Qxb6500789a
