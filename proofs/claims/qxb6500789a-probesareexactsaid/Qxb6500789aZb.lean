import Derived.Test.Qxb6500789aZa
import Derived.StillTailTactics
import Derived.Deep.QuietTactic
import Derived.BigQuiet
import Derived.Deep.RegionHeld
import Derived.Deep.CutRange
import Derived.Laws.ResultCell
import Derived.Laws.Rows
import Derived.DeepKeys
import Derived.DataBytes
import Derived.Laws.StructEq
import Derived.Laws.AppendOwn
import Derived.Laws.MakeOwn
import Derived.Lib.AppendStr
set_option linter.unusedSimpArgs false
set_option linter.unusedVariables false
namespace Go.Proofs.Qxb6500789a
open Go.RowKit Go.Blk
attribute [local go_sem ↓] execOp_load execOp_store execOp_alloc
attribute [local go_sem] Try.ld29 Try.st29 Try.ld3 Try.st3 Try.ld9 Try.st9 Try.ld30 Try.st30 Try.ld34 Try.st34 Try.ld35 Try.st35 Try.ld36 Try.st36 Try.ld37 Try.st37 Try.ld44 Try.st44 Try.ld45 Try.st45 Try.ld54 Try.st54 Try.ld55 Try.st55 Try.ld74 Try.st74 Try.ld80 Try.st80 Try.ld84 Try.st84 Try.ld106 Try.st106 Try.ld107 Try.st107 Try.ld4 Try.st4 Try.ld121 Try.st121 Try.ld2 Try.st2 Try.ld5 Try.st5 Try.ld12 Try.st12 Try.ld21 Try.st21 Try.ld22 Try.st22 Try.ld24 Try.st24 Try.ld26 Try.st26 Try.ld63 Try.st63 Try.ld71 Try.st71 Try.ld103 Try.st103 Try.ld130 Try.st130 Try.ld133 Try.st133 Try.ld140 Try.st140 Try.ld152 Try.st152 Try.ld39 Try.st39 Try.ld32 Try.st32 Try.ld41 Try.st41 Try.ld47 Try.st47 Try.ld57 Try.st57 Try.ld62 Try.st62 Try.ld76 Try.st76 Try.ld82 Try.st82 Try.ld86 Try.st86 Try.ld109 Try.st109 Try.ld115 Try.st115 Try.ld123 Try.st123 Try.ld135 Try.st135 Try.al39 Try.al32 Try.al41 Try.al47 Try.al57 Try.al62 Try.al76 Try.al82 Try.al86 Try.al109 Try.al115 Try.al123 Try.al135
attribute [local go_sem] Answer.length_enc Answer.ok_enc Answer.all_get Answer.all_set Answer.code_get Answer.code_set Answer.n_get Answer.n_set Answer.name_get Answer.name_set Answer.rows_get Answer.rows_set GOp.length_enc GOp.ok_enc GOp.all_get GOp.all_set GOp.kind_get GOp.kind_set GOp.rel_get GOp.rel_set GOp.mask_get GOp.mask_set GOp.t_get GOp.t_set GOp.n_get GOp.n_set GOp.name_get GOp.name_set Store.length_enc Store.ok_enc Store.all_get Store.all_set Store.names_get Store.names_set Store.rels_get Store.rels_set GRel.length_enc GRel.ok_enc GRel.all_get GRel.all_set GRel.arity_get GRel.arity_set GRel.masks_get GRel.masks_set GRel.rows_get GRel.rows_set Row.length_enc Row.ok_enc Row.all_get Row.all_set Row.t_get Row.t_set Row.mark_get Row.mark_set View.length_enc View.ok_enc View.all_get View.all_set View.names_get View.names_set View.rels_get View.rels_set Symtab.length_enc Symtab.ok_enc Symtab.all_get Symtab.all_set Symtab.names_get Symtab.names_set Symtab.table_get Symtab.table_set StoreTuplestore.length_enc StoreTuplestore.ok_enc StoreTuplestore.all_get StoreTuplestore.all_set StoreTuplestore.syms_get StoreTuplestore.syms_set StoreTuplestore.rels_get StoreTuplestore.rels_set StoreTuplestore.syms_names_get StoreTuplestore.syms_names_set StoreTuplestore.syms_table_get StoreTuplestore.syms_table_set Relation.length_enc Relation.ok_enc Relation.all_get Relation.all_set Relation.arity_get Relation.arity_set Relation.slots_get Relation.slots_set Relation.live_get Relation.live_set Relation.idx_get Relation.idx_set Slot.length_enc Slot.ok_enc Slot.all_get Slot.all_set Slot.t_get Slot.t_set Slot.mark_get Slot.mark_set Slot.live_get Slot.live_set RelView.length_enc RelView.ok_enc RelView.all_get RelView.all_set RelView.arity_get RelView.arity_set RelView.rows_get RelView.rows_set RelView.marks_get RelView.marks_set RelView.indexed_get RelView.indexed_set Index.length_enc Index.ok_enc Index.all_get Index.all_set Index.mask_get Index.mask_set Index.heads_get Index.heads_set Index.next_get Index.next_set
attribute [local go_sem] size_put size_ext blk_put free_put blk_alloc free_alloc blk_drew free_drew blk_ext free_ext lookOr_some putOr_some segAt_some cellAt_some storeIn_some put_put put_alloc_new length_arr ok_arr_u8 ok_arr_u32 ok_arr_u64 ok_arr_i64 ok_arr_sl cellsV_agg cellsV_int cellsV_bool cellsV_string cellsV_pointer cellsV_slice cellsV_sl ok_int ok_bool ok_string ok_pointer ok_slice ok_sl toList_arr seg_arr set_arr nth_splice nth_splice0 seg_splice seg_splice0 splice_splice splice_splice0 length_splice_if
attribute [local go_sem ↓] execOp_box
attribute [local go_sem] box_run nth_arr_u8 put_arr_u8 blk_drewN free_drewN put_drewN blk_raw free_raw
attribute [local go_sem] v_len v_ok v_n0 v_n1 v_s0 v_s1 v_all v_put b32_0 b32_c b32_n b32_cn b32_s b32_r b57
attribute [local go_sem ↓] execOp_build execOp_bslice
attribute [local go_sem] mr_len mr_ok mr_n0 mr_n1 mr_n2 mr_s1 mr_s2 mr_all mr_putz bslice45 bslice54
def MAct (B : Nat) (O : Own) (W : World) (bm : Nat) (c : Int) (sm : StS) (id : Int) (P : RelS → RelS → Prop) (e : Ending) (W' : World) : Prop := e = .returned (.agg (Answer.enc (ans c 0)).toArray) ∧ ∃ sm', MOut B O W bm sm' W' ∧ ActR c sm id P sm'
theorem col0 {sm : StS} {id m : Int} (h : colCode sm id m = 0) : ∃ (n : Nat) (s : RelS) (k : Nat), id = (n : Int) ∧ sm.rels[n]? = some s ∧ m = (k : Int) ∧ k < 2 ^ s.ar := by
  by_cases hid : 0 ≤ id ∧ id < (sm.rels.length : Int)
  · obtain ⟨n, rfl⟩ : ∃ n : Nat, id = (n : Int) := ⟨id.toNat, by omega⟩
    obtain ⟨s, hs⟩ : ∃ s, sm.rels[n]? = some s := ⟨_, List.getElem?_eq_getElem (by omega)⟩
    unfold colCode at h
    rw [relF_some hs] at h
    obtain ⟨k, h1, h2⟩ := colC_zero h
    exact ⟨n, s, k, rfl, hs, h1, h2⟩
  · unfold colCode at h
    rw [relF_none hid] at h; cases h
theorem row0 {sm : StS} {id : Int} {t : Tup} (h : rowCode sm id t = 0) : ∃ (n : Nat) (s : RelS), id = (n : Int) ∧ sm.rels[n]? = some s := by
  by_cases hid : 0 ≤ id ∧ id < (sm.rels.length : Int)
  · obtain ⟨n, rfl⟩ : ∃ n : Nat, id = (n : Int) := ⟨id.toNat, by omega⟩
    obtain ⟨s, hs⟩ : ∃ s, sm.rels[n]? = some s := ⟨_, List.getElem?_eq_getElem (by omega)⟩
    exact ⟨n, s, rfl, hs⟩
  · unfold rowCode at h
    rw [relF_none hid] at h; cases h
theorem mem_mk0 {s : RelS} {k : Nat} (h : k ≠ 0) : k ∈ mk0 s ↔ k ∈ s.M := by
  unfold mk0
  rw [List.mem_filter]
  exact ⟨fun h => h.1, fun h' => ⟨h', decide_eq_true h⟩⟩
theorem upd_mk {sm : StS} {n : Nat} {s s' : RelS} {P : RelS → RelS → Prop} (hs : sm.rels[n]? = some s) (har : s'.ar = s.ar) (hP : P s s') : Upd sm (n : Int) P ⟨sm.names, sm.rels.set n s'⟩ := ⟨s, s', relF_some hs, by rw [Int.toNat_natCast], har, hP⟩
set_option maxRecDepth 20000 in
set_option maxHeartbeats 4000000 in
theorem mindex_any (B : Nat) (O : Own) (W : World) (bm : Nat) (sm : StS) (h : MAt B O W bm sm) (hm : MSm sm) (id m : Int) :
    Calls Try.prog 48 #[.pointer (some ⟨bm, 0, none⟩), .int .i64 id, .int .i64 m] W (MAct B O W bm (addIxF sm id m) sm id (addIxP m)) := by
  have HM := hid_of h
  have HSM := hid_of hm
  obtain ⟨c, hc⟩ : ∃ c, c = addIxF sm id m := ⟨_, rfl⟩
  rw [← hc]
  have HC := hid_of hc
  obtain ⟨Q, hQ⟩ : ∃ Q, Q = MAct B O W bm c sm id (addIxP m) := ⟨_, rfl⟩
  rw [← hQ]
  have HQ := hid_of hQ
  clear hc hQ hm h
  go_enter Try.func48, Try.ntmps48
  go_upto_region 1 with fail
  refine wp_world (fun W1 => blk W1 W.heap.size = some (Answer.enc Answer.zero) ∧ free W1 W.heap.size = true ∧ W.Extends W1) ⟨?_, ?_, extends_alloc (ext_Ext (Ext.refl _)) _⟩ ?_
  · rw [blk_alloc, if_pos rfl]
  · unfold free; rw [heap_alloc, if_pos rfl]; rfl
  rintro W1 ⟨hb4, hf4, hx1⟩
  obtain ⟨b4, e4⟩ : ∃ b4, b4 = W.heap.size := ⟨_, rfl⟩
  rw [← e4] at hb4 hf4 ⊢
  have hn4 : W.heap.size ≤ b4 := by omega
  have hn4' := blk_lt hb4
  obtain ⟨O1, hO1⟩ : ∃ O1, O1 = lab O W.heap.size .no := ⟨_, rfl⟩
  have hM1 : MAt B O1 W1 bm sm := by rw [hO1]; exact HM.out.new hx1
  have HM1 := hid_of hM1
  have HF : Hid (∀ sm' V C, MOut B O1 W1 bm sm' V → MOut B O W bm sm' (put V b4 C)) := by
    intro sm' V C h
    rw [hO1] at h
    exact mout_put hx1 hn4 hn4' h C
  have HG : Hid (∀ sm' V, MOut B O1 W1 bm sm' V → blk V b4 = some (Answer.enc Answer.zero) ∧ free V b4 = true) := by
    intro sm' V h
    rw [hO1] at h
    exact mout_blk hn4 hb4 hf4 h
  clear e4 hO1 hx1 hn4 hM1
  have hcm := checkMask_any B O1 W1 bm sm HM1.out HSM.out id m
  obtain ⟨cc, hcc⟩ : ∃ cc, cc = colCode sm id m := ⟨_, rfl⟩
  rw [← hcc] at hcm
  by_cases hc0 : cc = 0
  rotate_left 1
  · have e : c = cc := by rw [HC.out]; unfold addIxF; rw [if_neg (by rw [← hcc]; exact hc0), hcc]
    subst e
    have hcb : (c == 0) = false := by simp [hc0]
    have hcn : (c != 0) = true := by simp [hc0]
    have HP : Hid (Q (.returned (.agg (Answer.enc (ans c 0)).toArray)) (put (W1) b4 (Answer.enc (ans c 0)))) := by
      have ho := (mout_same HM1.out (ext_Ext (Ext.refl _)))
      show Q _ _
      rw [HQ.out]
      exact ⟨rfl, sm, HF.out _ _ _ ho, ⟨fun _ => rfl, fun h => absurd h hc0⟩⟩
    have hbV : blk (W1) b4 = some (Answer.enc Answer.zero) := (HG.out (sm) _ (mout_same HM1.out (ext_Ext (Ext.refl _)))).1
    have hfV : free (W1) b4 = true := (HG.out (sm) _ (mout_same HM1.out (ext_Ext (Ext.refl _)))).2
    have HBC : Hid (blk (put (W1) b4 (Answer.enc (ans c 0))) b4 = some (Answer.enc (ans c 0))) := by
      show blk _ _ = _
      rw [blk_put, if_pos rfl, hbV]; rfl
    clear HF HG hb4 hf4 hcc
    go_wp2_with fail
    refine hcm.mono ?_
    rintro e V1 ⟨rfl, rfl⟩
    dsimp only
    go_wp2_with fail
    refine hcm.mono ?_
    rintro e V2 ⟨rfl, rfl⟩
    dsimp only
    go_wp2_with fail
    try go_ret2
    refine ret_cell (C := Answer.enc (ans c 0)) rfl rfl HBC.out (by kernel_rfl) (by rw [Answer.length_enc]; kernel_rfl) rfl ?_
    exact HP.out
  subst hc0
  obtain ⟨n, s, k, rfl, hs, rfl, hk⟩ := col0 hcc.symm
  by_cases hk0 : k = 0
  · have e : c = 9 := by rw [HC.out]; unfold addIxF; rw [if_pos hcc.symm, if_pos (by omega)]
    subst e
    subst hk0
    have HP : Hid (Q (.returned (.agg (Answer.enc (ans 9 0)).toArray)) (put (W1) b4 (Answer.enc (ans 9 0)))) := by
      have ho := (mout_same HM1.out (ext_Ext (Ext.refl _)))
      show Q _ _
      rw [HQ.out]
      exact ⟨rfl, sm, HF.out _ _ _ ho, ⟨fun _ => rfl, fun h => absurd h (by decide)⟩⟩
    have hbV : blk (W1) b4 = some (Answer.enc Answer.zero) := (HG.out (sm) _ (mout_same HM1.out (ext_Ext (Ext.refl _)))).1
    have hfV : free (W1) b4 = true := (HG.out (sm) _ (mout_same HM1.out (ext_Ext (Ext.refl _)))).2
    have HBC : Hid (blk (put (W1) b4 (Answer.enc (ans 9 0))) b4 = some (Answer.enc (ans 9 0))) := by
      show blk _ _ = _
      rw [blk_put, if_pos rfl, hbV]; rfl
    have hcm' : Calls Try.prog 49 #[.pointer (some ⟨bm, 0, none⟩), .int .i64 (n : Int), .int .i64 0] W1 fun e W' => e = .returned (.int .i64 0) ∧ W' = W1 := hcm
    clear HF HG hb4 hf4 hcc hs hk hcm
    go_wp2_with fail
    refine hcm'.mono ?_
    rintro e V1 ⟨rfl, rfl⟩
    dsimp only
    go_wp2_with fail
    try go_ret2
    refine ret_cell (C := Answer.enc (ans 9 0)) rfl rfl HBC.out (by kernel_rfl) (by rw [Answer.length_enc]; kernel_rfl) rfl ?_
    exact HP.out
  have hk0' : ¬ (k : Int) = 0 := by omega
  have hk0b : ((k : Int) == 0) = false := by simp; omega
  have hix := indexed_any B O1 W1 bm sm HM1.out HSM.out n s hs k
  have hms : masksS sm (n : Int) = s.M := by unfold masksS; rw [relF_some hs]
  by_cases hin : k ∈ mk0 s
  · have e : c = 12 := by rw [HC.out]; unfold addIxF; rw [if_pos hcc.symm, if_neg hk0', hms, Int.toNat_natCast, if_pos ((mem_mk0 hk0).1 hin)]
    subst e
    rw [decide_eq_true hin] at hix
    have HP : Hid (Q (.returned (.agg (Answer.enc (ans 12 0)).toArray)) (put (W1) b4 (Answer.enc (ans 12 0)))) := by
      have ho := (mout_same HM1.out (ext_Ext (Ext.refl _)))
      show Q _ _
      rw [HQ.out]
      exact ⟨rfl, sm, HF.out _ _ _ ho, ⟨fun _ => rfl, fun h => absurd h (by decide)⟩⟩
    have hbV : blk (W1) b4 = some (Answer.enc Answer.zero) := (HG.out (sm) _ (mout_same HM1.out (ext_Ext (Ext.refl _)))).1
    have hfV : free (W1) b4 = true := (HG.out (sm) _ (mout_same HM1.out (ext_Ext (Ext.refl _)))).2
    have HBC : Hid (blk (put (W1) b4 (Answer.enc (ans 12 0))) b4 = some (Answer.enc (ans 12 0))) := by
      show blk _ _ = _
      rw [blk_put, if_pos rfl, hbV]; rfl
    clear HF HG hb4 hf4 hcc hs hk
    go_wp2_with fail
    refine hcm.mono ?_
    rintro e V1 ⟨rfl, rfl⟩
    dsimp only
    go_wp2_with fail
    refine hix.mono ?_
    rintro e V2 ⟨rfl, rfl⟩
    dsimp only
    go_wp2_with fail
    try go_ret2
    refine ret_cell (C := Answer.enc (ans 12 0)) rfl rfl HBC.out (by kernel_rfl) (by rw [Answer.length_enc]; kernel_rfl) rfl ?_
    exact HP.out
  have hnin : k ∉ s.M := fun h => hin ((mem_mk0 hk0).2 h)
  have e : c = 0 := by rw [HC.out]; unfold addIxF; rw [if_pos hcc.symm, if_neg hk0', hms, Int.toNat_natCast, if_neg hnin]
  subst e
  rw [decide_eq_false hin] at hix
  have hsm := HSM.out.rel s (List.mem_of_getElem? hs)
  have hd1 : W1.Extends W1.drew := extends_drew (ext_Ext (Ext.refl _))
  obtain ⟨na, nn, nc, gr, rn, rc, Cr, ka, kn, kc, wa, wn, wc, ho, hB1, hok, _, hput, _⟩ := mat_put (HM1.out.ext hd1) hs
  obtain ⟨ka', kc', W2, hrun, hrow, hfr⟩ := appL encK 1 8 54 36 Try.underlying54 info36 encK_len encK_one (by omega) (by omega) (W := W1.drew) 54 k hok.mks hB1 (by have := hsm.2.2.1; omega) (encK k).toArray rfl 1
  obtain ⟨hbm2, hgr2, hgf2, hout⟩ := hput _ W2 ka' (kn + 1) kc' ⟨s.ar, s.L, s.M ++ [k]⟩ hfr (by
    have e : mk0 ⟨s.ar, s.L, s.M ++ [k]⟩ = mk0 s ++ [k] := by
      unfold mk0
      rw [List.filter_append]
      congr 1
      simp [hk0]
    rw [e]; exact hrow) rfl rfl
  obtain ⟨hbm, hnn, hrn, hn, hC, hl, c0, c1, c2, _, _⟩ := ho
  have hu : ActR 0 sm (n : Int) (addIxP (k : Int)) ⟨sm.names, sm.rels.set n ⟨s.ar, s.L, s.M ++ [k]⟩⟩ := ⟨fun h => absurd rfl h, fun _ => upd_mk hs rfl ⟨by rw [Int.toNat_natCast], rfl⟩⟩
  have hoM : O1 bm = .cl 0 := by obtain ⟨_, _, _, _, _, _, _, h⟩ := HM1.out; exact h.own
  have hngb : ¬ bm = gr := by
    intro e
    obtain ⟨_, _, _, _, _, _, _, h⟩ := HM1.out
    have h1 : blk W1 bm = some (vE na nn nc (some ⟨gr, 0, none⟩) rn rc) := hbm
    have h2 : blk W1 gr = some Cr := hC
    rw [e, h2] at h1
    injection h1 with h1
    rw [h1] at c0
    rcases n with _ | n
    · simp [vE, nth] at c0
    · rw [h1] at hl
      rw [v_len] at hl; omega
  have hb54 : ∀ w : World, (bsliceOp 54 1 #[(0, .int .i64 (k : Int))]).run Try.prog w = .ok (.value (.slice (some ⟨w.heap.size, 0, none⟩) 1 1)) (w.alloc (.cells (encK k).toArray 36)) := fun w => bslice54 w _
  have HP : Hid (Q (.returned (.agg (Answer.enc (ans 0 0)).toArray)) (put (put W2 gr (splice Cr (n * 3 + 1) [.slice ka' (kn + 1) kc'])) b4 (Answer.enc (ans 0 0)))) := by
    have ho := (hout.bef hd1)
    show Q _ _
    rw [HQ.out]
    exact ⟨rfl, ⟨sm.names, sm.rels.set n ⟨s.ar, s.L, s.M ++ [k]⟩⟩, HF.out _ _ _ ho, hu⟩
  have hbV : blk (put W2 gr (splice Cr (n * 3 + 1) [.slice ka' (kn + 1) kc'])) b4 = some (Answer.enc Answer.zero) := (HG.out (⟨sm.names, sm.rels.set n ⟨s.ar, s.L, s.M ++ [k]⟩⟩) _ (hout.bef hd1)).1
  have hfV : free (put W2 gr (splice Cr (n * 3 + 1) [.slice ka' (kn + 1) kc'])) b4 = true := (HG.out (⟨sm.names, sm.rels.set n ⟨s.ar, s.L, s.M ++ [k]⟩⟩) _ (hout.bef hd1)).2
  have HBC : Hid (blk (put (put W2 gr (splice Cr (n * 3 + 1) [.slice ka' (kn + 1) kc'])) b4 (Answer.enc (ans 0 0))) b4 = some (Answer.enc (ans 0 0))) := by
    show blk _ _ = _
    rw [blk_put, if_pos rfl, hbV]; rfl
  have hbm' : blk W1 bm = some (vE na nn nc (some ⟨gr, 0, none⟩) rn rc) := hbm
  have hC' : blk W1 gr = some Cr := hC
  have hbmA : ∀ X, blk (W1.drew.alloc X) bm = some (vE na nn nc (some ⟨gr, 0, none⟩) rn rc) := fun X => ((extends_alloc (ext_Ext (Ext.refl _)) _ : W1.drew.Extends _).blk (blk_lt hbm)).trans hbm
  have hbmP : blk (put W2 gr (splice Cr (n * 3 + 1) [.slice ka' (kn + 1) kc'])) bm = some (vE na nn nc (some ⟨gr, 0, none⟩) rn rc) := by rw [blk_put, if_neg hngb]; exact hbm2
  have ngA : ¬ gr = W1.heap.size := Nat.ne_of_lt (blk_lt hC')
  have d1 : n * 3 + 1 + 1 ≤ Cr.length := by omega
  have d2 : n * 3 < Cr.length := by omega
  have q0 : (0 : Int) ≤ (n : Int) := by omega
  have q1 : (n : Int) < (rn : Int) := by omega
  have q2 : ((n : Int)).toNat = n := by omega
  clear HF HG hb4 hf4 hcc hs hk hput hfr hrow hok hsm hu hoM hout hnn hrn hn c0 c2 hl hd1
  go_wp2_with fail
  refine hcm.mono ?_
  rintro e V1 ⟨rfl, rfl⟩
  dsimp only
  go_wp2_with fail
  refine hix.mono ?_
  rintro e V2 ⟨rfl, rfl⟩
  clear hix hcm
  dsimp only
  go_upto_region 7 with fail
  refine wp_region_held_drew (S := fun W' => blk W' bm = some (vE na nn nc (some ⟨gr, 0, none⟩) rn rc)) (by kernel_rfl) hbm' (fun hHeld => ?_)
  refine wpAnyH_take (i := 0) (oi := ⟨_, _, _, _, _, _⟩) (v := ?_) rfl (by kernel_rfl) (by kernel_rfl) (by kernel_rfl) (fun _ _ _ h => h) (Or.inl ⟨by rfl, ?_⟩) (by assumption) ?_
  rotate_left 1
  · intro W' hSw
    go_simp
    try with_reducible rfl
  try simp only [Act.put, List.setIfInBounds_toArray, List.set_cons_zero, List.set_cons_succ]
  refine wpAnyH_take (i := 1) (oi := ⟨_, _, _, _, _, _⟩) (v := ?_) rfl (by kernel_rfl) (by kernel_rfl) (by kernel_rfl) (fun _ _ _ h => h) (Or.inl ⟨by rfl, ?_⟩) (by assumption) ?_
  rotate_left 1
  · intro W' hSw
    go_simp
    try with_reducible rfl
  try simp only [Act.put, List.setIfInBounds_toArray, List.set_cons_zero, List.set_cons_succ]
  refine wpAnyH_take (i := 2) (oi := ⟨_, _, _, _, _, _⟩) (v := ?_) rfl (by kernel_rfl) (by kernel_rfl) (by kernel_rfl) (fun _ _ _ h => h) (Or.inl ⟨by rfl, ?_⟩) (by assumption) ?_
  rotate_left 1
  · intro W' hSw
    go_simp
    try with_reducible rfl
  try simp only [Act.put, List.setIfInBounds_toArray, List.set_cons_zero, List.set_cons_succ]
  refine wpAnyH_take (i := 3) (oi := ⟨_, _, _, _, _, _⟩) (v := ?_) rfl (by kernel_rfl) (by kernel_rfl) (by kernel_rfl) (fun _ _ _ h => h) (Or.inl ⟨by rfl, ?_⟩) (by assumption) ?_
  rotate_left 1
  · intro W' hSw
    go_simp
    try with_reducible rfl
  try simp only [Act.put, List.setIfInBounds_toArray, List.set_cons_zero, List.set_cons_succ]
  refine wpAnyH_take (i := 4) (oi := ⟨_, _, _, _, _, _⟩) (v := ?_) rfl (by kernel_rfl) (by kernel_rfl) (by kernel_rfl) (fun _ _ _ h => h) (Or.inl ⟨by rfl, ?_⟩) (by assumption) ?_
  rotate_left 1
  · intro W' hSw
    go_simp
    try with_reducible rfl
  try simp only [Act.put, List.setIfInBounds_toArray, List.set_cons_zero, List.set_cons_succ]
  refine wpAnyH_take (i := 5) (oi := ⟨_, _, _, _, _, _⟩) (v := ?_) rfl (by kernel_rfl) (by kernel_rfl) (by kernel_rfl) (fun _ _ _ h => h) (Or.inl ⟨by rfl, ?_⟩) (by assumption) ?_
  rotate_left 1
  · intro W' hSw
    go_simp
    try with_reducible rfl
  try simp only [Act.put, List.setIfInBounds_toArray, List.set_cons_zero, List.set_cons_succ]
  refine wpAnyH_take (i := 6) (oi := ⟨_, _, _, _, _, _⟩) (v := ?_) rfl (by kernel_rfl) (by kernel_rfl) (by kernel_rfl) (fun _ _ _ h => h) (Or.inl ⟨by rfl, ?_⟩) (by assumption) ?_
  rotate_left 1
  · intro W' hSw
    go_simp
    try with_reducible rfl
  try simp only [Act.put, List.setIfInBounds_toArray, List.set_cons_zero, List.set_cons_succ]
  refine wpAnyH_take (i := 7) (oi := ⟨_, _, _, _, _, _⟩) (v := ?_) rfl (by kernel_rfl) (by kernel_rfl) (by kernel_rfl) (fun _ _ _ h => h) (Or.inl ⟨by rfl, ?_⟩) (by assumption) ?_
  rotate_left 1
  · intro W' hSw
    go_simp
    try with_reducible rfl
  try simp only [Act.put, List.setIfInBounds_toArray, List.set_cons_zero, List.set_cons_succ]
  refine wpAnyH_take (i := 8) (oi := ⟨_, _, _, _, _, _⟩) (v := ?_) rfl (by kernel_rfl) (by kernel_rfl) (by kernel_rfl) (fun _ _ _ h => h) (Or.inl ⟨by rfl, ?_⟩) (by assumption) ?_
  rotate_left 1
  · intro W' hSw
    go_simp
    try with_reducible rfl
  try simp only [Act.put, List.setIfInBounds_toArray, List.set_cons_zero, List.set_cons_succ]
  refine wpAnyH_take (i := 9) (oi := ⟨_, _, _, _, _, _⟩) (v := ?_) rfl (by kernel_rfl) (by kernel_rfl) (by kernel_rfl) (fun _ _ _ h => h) (Or.inl ⟨by rfl, ?_⟩) (by assumption) ?_
  rotate_left 1
  · intro W' hSw
    go_simp
    try with_reducible rfl
  try simp only [Act.put, List.setIfInBounds_toArray, List.set_cons_zero, List.set_cons_succ]
  refine wpAnyH_take (i := 10) (oi := ⟨_, _, _, _, _, _⟩) (v := ?_) rfl (by kernel_rfl) (by kernel_rfl) (by kernel_rfl) (fun _ _ _ h => h) (Or.inl ⟨by rfl, ?_⟩) (by assumption) ?_
  rotate_left 1
  · intro W' hSw
    go_simp
    try with_reducible rfl
  try simp only [Act.put, List.setIfInBounds_toArray, List.set_cons_zero, List.set_cons_succ]
  refine wpAnyH_take (i := 11) (oi := ⟨_, _, _, _, _, _⟩) (v := ?_) rfl (by kernel_rfl) (by kernel_rfl) (by kernel_rfl) (fun _ _ _ h => h) (Or.inl ⟨by rfl, ?_⟩) (by assumption) ?_
  rotate_left 1
  · intro W' hSw
    go_simp
    try with_reducible rfl
  try simp only [Act.put, List.setIfInBounds_toArray, List.set_cons_zero, List.set_cons_succ]
  refine wpAnyH_take (i := 13) (oi := ⟨_, _, _, _, _, _⟩) (v := ?_) rfl (by kernel_rfl) (by kernel_rfl) (by kernel_rfl) (fun _ _ _ h => h) (Or.inl ⟨by rfl, ?_⟩) (by assumption) ?_
  rotate_left 1
  · intro W' hSw
    go_simp
    try with_reducible rfl
  try simp only [Act.put, List.setIfInBounds_toArray, List.set_cons_zero, List.set_cons_succ]
  refine wpAnyH_ready (rs := [12, 14]) (by kernel_rfl) (by simp) ?_
  refine AllReadyH.cons (o := ⟨_, _, _, _, _, _⟩) rfl (fun K' hK => ?_) (AllReadyH.cons (o := ⟨_, _, _, _, _, _⟩) rfl (fun K' hK => ?_) AllReadyH.nil)
  · go_simp
    refine hK.out _ _ hbm (fun hHeld => ?_)
    clear hK K'
    try simp only [Act.put, List.setIfInBounds_toArray, List.set_cons_zero, List.set_cons_succ]
    refine wpAnyH_ready (rs := [14]) (by kernel_rfl) (by simp) ?_
    refine AllReadyH.cons (o := ⟨_, _, _, _, _, _⟩) rfl (fun K' hK => ?_) AllReadyH.nil
    go_simp
    refine hK.out _ _ (hbmA _) (fun hHeld => ?_)
    clear hK K'
    try simp only [Act.put, List.setIfInBounds_toArray, List.set_cons_zero, List.set_cons_succ]
    refine wpAnyH_ready (rs := [15]) (by kernel_rfl) (by simp) ?_
    refine AllReadyH.cons (o := ⟨_, _, _, _, _, _⟩) rfl (fun K' hK => ?_) AllReadyH.nil
    refine wp_append_run _ _ 54 rfl _ _ _ _ rfl rfl hrun ?_
    refine hK.out _ _ hbm2 (fun hHeld => ?_)
    clear hK K'
    try simp only [Act.put, List.setIfInBounds_toArray, List.set_cons_zero, List.set_cons_succ]
    refine wpAnyH_take (i := 16) (oi := ⟨_, _, _, _, _, _⟩) (v := ?_) rfl (by kernel_rfl) (by kernel_rfl) (by kernel_rfl) (fun _ _ _ h => h) (Or.inl ⟨by rfl, ?_⟩) (by assumption) ?_
    rotate_left 1
    · intro W' hSw
      go_simp
      try with_reducible rfl
    try simp only [Act.put, List.setIfInBounds_toArray, List.set_cons_zero, List.set_cons_succ]
    refine wpAnyH_take (i := 17) (oi := ⟨_, _, _, _, _, _⟩) (v := ?_) rfl (by kernel_rfl) (by kernel_rfl) (by kernel_rfl) (fun _ _ _ h => h) (Or.inl ⟨by rfl, ?_⟩) (by assumption) ?_
    rotate_left 1
    · intro W' hSw
      go_simp
      try with_reducible rfl
    try simp only [Act.put, List.setIfInBounds_toArray, List.set_cons_zero, List.set_cons_succ]
    refine wpAnyH_ready (rs := [18]) (by kernel_rfl) (by simp) ?_
    refine AllReadyH.cons (o := ⟨_, _, _, _, _, _⟩) rfl (fun K' hK => ?_) AllReadyH.nil
    go_simp
    refine hK.out _ _ hbmP (fun hHeld => ?_)
    clear hK K'
    try simp only [Act.put, List.setIfInBounds_toArray, List.set_cons_zero, List.set_cons_succ]
    refine wpAnyH_done (by kernel_rfl) ?_ _
    obtain ⟨V3, hV3⟩ : ∃ V3, V3 = put W2 gr (splice Cr (n * 3 + 1) [.slice ka' (kn + 1) kc']) := ⟨_, rfl⟩
    rw [← hV3] at hbV hfV HBC HP ⊢
    clear hV3 hbmP hbmA hrun hbm hbm2
    go_wp2_with fail
    try go_ret2
    refine ret_cell (C := Answer.enc (ans 0 0)) rfl rfl HBC.out (by kernel_rfl) (by rw [Answer.length_enc]; kernel_rfl) rfl ?_
    exact HP.out
  · go_simp
    refine hK.out _ _ (hbmA _) (fun hHeld => ?_)
    clear hK K'
    try simp only [Act.put, List.setIfInBounds_toArray, List.set_cons_zero, List.set_cons_succ]
    refine wpAnyH_ready (rs := [12]) (by kernel_rfl) (by simp) ?_
    refine AllReadyH.cons (o := ⟨_, _, _, _, _, _⟩) rfl (fun K' hK => ?_) AllReadyH.nil
    go_simp
    refine hK.out _ _ (hbmA _) (fun hHeld => ?_)
    clear hK K'
    try simp only [Act.put, List.setIfInBounds_toArray, List.set_cons_zero, List.set_cons_succ]
    refine wpAnyH_ready (rs := [15]) (by kernel_rfl) (by simp) ?_
    refine AllReadyH.cons (o := ⟨_, _, _, _, _, _⟩) rfl (fun K' hK => ?_) AllReadyH.nil
    refine wp_append_run _ _ 54 rfl _ _ _ _ rfl rfl hrun ?_
    refine hK.out _ _ hbm2 (fun hHeld => ?_)
    clear hK K'
    try simp only [Act.put, List.setIfInBounds_toArray, List.set_cons_zero, List.set_cons_succ]
    refine wpAnyH_take (i := 16) (oi := ⟨_, _, _, _, _, _⟩) (v := ?_) rfl (by kernel_rfl) (by kernel_rfl) (by kernel_rfl) (fun _ _ _ h => h) (Or.inl ⟨by rfl, ?_⟩) (by assumption) ?_
    rotate_left 1
    · intro W' hSw
      go_simp
      try with_reducible rfl
    try simp only [Act.put, List.setIfInBounds_toArray, List.set_cons_zero, List.set_cons_succ]
    refine wpAnyH_take (i := 17) (oi := ⟨_, _, _, _, _, _⟩) (v := ?_) rfl (by kernel_rfl) (by kernel_rfl) (by kernel_rfl) (fun _ _ _ h => h) (Or.inl ⟨by rfl, ?_⟩) (by assumption) ?_
    rotate_left 1
    · intro W' hSw
      go_simp
      try with_reducible rfl
    try simp only [Act.put, List.setIfInBounds_toArray, List.set_cons_zero, List.set_cons_succ]
    refine wpAnyH_ready (rs := [18]) (by kernel_rfl) (by simp) ?_
    refine AllReadyH.cons (o := ⟨_, _, _, _, _, _⟩) rfl (fun K' hK => ?_) AllReadyH.nil
    go_simp
    refine hK.out _ _ hbmP (fun hHeld => ?_)
    clear hK K'
    try simp only [Act.put, List.setIfInBounds_toArray, List.set_cons_zero, List.set_cons_succ]
    refine wpAnyH_done (by kernel_rfl) ?_ _
    obtain ⟨V3, hV3⟩ : ∃ V3, V3 = put W2 gr (splice Cr (n * 3 + 1) [.slice ka' (kn + 1) kc']) := ⟨_, rfl⟩
    rw [← hV3] at hbV hfV HBC HP ⊢
    clear hV3 hbmP hbmA hrun hbm hbm2
    go_wp2_with fail
    try go_ret2
    refine ret_cell (C := Answer.enc (ans 0 0)) rfl rfl HBC.out (by kernel_rfl) (by rw [Answer.length_enc]; kernel_rfl) rfl ?_
    exact HP.out
end Go.Proofs.Qxb6500789a
