import Derived.Test.Qxb6500789aYz
import Derived.StillTailTactics
import Derived.Deep.QuietTactic
import Derived.BigQuiet
import Derived.Deep.RegionHeld
import Derived.Deep.CutRange
import Derived.Laws.ResultCell
import Derived.Laws.Rows
import Derived.DeepKeys
import Derived.DataBytes
import Derived.Laws.StructEq
import Derived.Laws.AppendOwn
import Derived.Laws.MakeOwn
import Derived.Lib.AppendStr
set_option linter.unusedSimpArgs false
set_option linter.unusedVariables false
namespace Go.Proofs.Qxb6500789a
open Go.RowKit Go.Blk
attribute [local go_sem ↓] execOp_load execOp_store execOp_alloc
attribute [local go_sem] Try.ld29 Try.st29 Try.ld3 Try.st3 Try.ld9 Try.st9 Try.ld30 Try.st30 Try.ld34 Try.st34 Try.ld35 Try.st35 Try.ld36 Try.st36 Try.ld37 Try.st37 Try.ld44 Try.st44 Try.ld45 Try.st45 Try.ld54 Try.st54 Try.ld55 Try.st55 Try.ld74 Try.st74 Try.ld80 Try.st80 Try.ld84 Try.st84 Try.ld106 Try.st106 Try.ld107 Try.st107 Try.ld4 Try.st4 Try.ld121 Try.st121 Try.ld2 Try.st2 Try.ld5 Try.st5 Try.ld12 Try.st12 Try.ld21 Try.st21 Try.ld22 Try.st22 Try.ld24 Try.st24 Try.ld26 Try.st26 Try.ld63 Try.st63 Try.ld71 Try.st71 Try.ld103 Try.st103 Try.ld130 Try.st130 Try.ld133 Try.st133 Try.ld140 Try.st140 Try.ld152 Try.st152 Try.ld39 Try.st39 Try.ld32 Try.st32 Try.ld41 Try.st41 Try.ld47 Try.st47 Try.ld57 Try.st57 Try.ld62 Try.st62 Try.ld76 Try.st76 Try.ld82 Try.st82 Try.ld86 Try.st86 Try.ld109 Try.st109 Try.ld115 Try.st115 Try.ld123 Try.st123 Try.ld135 Try.st135 Try.al39 Try.al32 Try.al41 Try.al47 Try.al57 Try.al62 Try.al76 Try.al82 Try.al86 Try.al109 Try.al115 Try.al123 Try.al135
attribute [local go_sem] Answer.length_enc Answer.ok_enc Answer.all_get Answer.all_set Answer.code_get Answer.code_set Answer.n_get Answer.n_set Answer.name_get Answer.name_set Answer.rows_get Answer.rows_set GOp.length_enc GOp.ok_enc GOp.all_get GOp.all_set GOp.kind_get GOp.kind_set GOp.rel_get GOp.rel_set GOp.mask_get GOp.mask_set GOp.t_get GOp.t_set GOp.n_get GOp.n_set GOp.name_get GOp.name_set Store.length_enc Store.ok_enc Store.all_get Store.all_set Store.names_get Store.names_set Store.rels_get Store.rels_set GRel.length_enc GRel.ok_enc GRel.all_get GRel.all_set GRel.arity_get GRel.arity_set GRel.masks_get GRel.masks_set GRel.rows_get GRel.rows_set Row.length_enc Row.ok_enc Row.all_get Row.all_set Row.t_get Row.t_set Row.mark_get Row.mark_set View.length_enc View.ok_enc View.all_get View.all_set View.names_get View.names_set View.rels_get View.rels_set Symtab.length_enc Symtab.ok_enc Symtab.all_get Symtab.all_set Symtab.names_get Symtab.names_set Symtab.table_get Symtab.table_set StoreTuplestore.length_enc StoreTuplestore.ok_enc StoreTuplestore.all_get StoreTuplestore.all_set StoreTuplestore.syms_get StoreTuplestore.syms_set StoreTuplestore.rels_get StoreTuplestore.rels_set StoreTuplestore.syms_names_get StoreTuplestore.syms_names_set StoreTuplestore.syms_table_get StoreTuplestore.syms_table_set Relation.length_enc Relation.ok_enc Relation.all_get Relation.all_set Relation.arity_get Relation.arity_set Relation.slots_get Relation.slots_set Relation.live_get Relation.live_set Relation.idx_get Relation.idx_set Slot.length_enc Slot.ok_enc Slot.all_get Slot.all_set Slot.t_get Slot.t_set Slot.mark_get Slot.mark_set Slot.live_get Slot.live_set RelView.length_enc RelView.ok_enc RelView.all_get RelView.all_set RelView.arity_get RelView.arity_set RelView.rows_get RelView.rows_set RelView.marks_get RelView.marks_set RelView.indexed_get RelView.indexed_set Index.length_enc Index.ok_enc Index.all_get Index.all_set Index.mask_get Index.mask_set Index.heads_get Index.heads_set Index.next_get Index.next_set
attribute [local go_sem] size_put size_ext blk_put free_put blk_alloc free_alloc blk_drew free_drew blk_ext free_ext lookOr_some putOr_some segAt_some cellAt_some storeIn_some put_put put_alloc_new length_arr ok_arr_u8 ok_arr_u32 ok_arr_u64 ok_arr_i64 ok_arr_sl cellsV_agg cellsV_int cellsV_bool cellsV_string cellsV_pointer cellsV_slice cellsV_sl ok_int ok_bool ok_string ok_pointer ok_slice ok_sl toList_arr seg_arr set_arr nth_splice nth_splice0 seg_splice seg_splice0 splice_splice splice_splice0 length_splice_if
attribute [local go_sem ↓] execOp_box
attribute [local go_sem] box_run nth_arr_u8 put_arr_u8 blk_drewN free_drewN put_drewN blk_raw free_raw
attribute [local go_sem] v_len v_ok v_n0 v_n1 v_s0 v_s1 v_all v_put b32_0 b32_c b32_n b32_cn b32_s b32_r b57
attribute [local go_sem ↓] execOp_build execOp_bslice
theorem mk0_new0 : mk0 (newRel 0) = [] := rfl
theorem mk0_newS {ar : Nat} (h : 0 < ar) (h4 : ar ≤ 4) : mk0 (newRel ar) = [2 ^ ar - 1] := by
  have hcc : ar = 1 ∨ ar = 2 ∨ ar = 3 ∨ ar = 4 := by omega
  rcases hcc with rfl | rfl | rfl | rfl <;> rfl
theorem bslice54 (w : World) (x : Int) : (bsliceOp 54 1 #[(0, .int .i64 x)]).run Try.prog w = .ok (.value (.slice (some ⟨w.heap.size, 0, none⟩) 1 1)) (w.alloc (.cells #[.int .i64 x] 36)) := by kernel_rfl
theorem bslice45_lit (w : World) (a b c : Value) : (bsliceOp 45 1 #[(0, .agg #[a, b, c])]).run Try.prog w = .ok (.value (.slice (some ⟨w.heap.size, 0, none⟩) 1 1)) (w.alloc (.cells #[a, b, c] 57)) := by kernel_rfl
theorem bslice45 (w : World) (ar : Int) (ka : Option Addr) (kn kc : Nat) (wa : Option Addr) (wn wc : Nat) : (bsliceOp 45 1 #[(0, .agg (mrE ar ka kn kc wa wn wc).toArray)]).run Try.prog w = .ok (.value (.slice (some ⟨w.heap.size, 0, none⟩) 1 1)) (w.alloc (.cells (mrE ar ka kn kc wa wn wc).toArray 57)) := bslice45_lit w _ _ _
theorem mr_putz (ar : Int) (ka : Option Addr) (kn kc : Nat) (wa : Option Addr) (wn wc : Nat) : splice GRel.zero.enc 0 (mrE ar ka kn kc wa wn wc) = mrE ar ka kn kc wa wn wc := rfl
theorem wrap_ar1 (ar : Nat) (h : ar ≤ 4) : wrap64 (wrap64 (2 ^ ar) - 1) = ((2 ^ ar - 1 : Nat) : Int) := by
  have hcc : ar = 0 ∨ ar = 1 ∨ ar = 2 ∨ ar = 3 ∨ ar = 4 := by omega
  rcases hcc with rfl | rfl | rfl | rfl | rfl <;> (rw [wrap_ar _ (by omega), IntWalk.wrap64_in _ (by decide)]; rfl)
attribute [local go_sem] mr_len mr_ok mr_n0 mr_n1 mr_n2 mr_s1 mr_s2 mr_all mr_putz bslice45 bslice54
/-- The last part of define: the fresh relation appended. -/
def DefFin (B : Nat) (O : Own) (W : World) (bm : Nat) (sm : StS) (ar : Nat) (V : World) (ka : Option Addr) (kn kc : Nat) : Prop := ∃ O1, Fr (fun l => l = .cl (3 + 2 * sm.rels.length)) O W O1 V ∧ RowL B O1 (.cl (3 + 2 * sm.rels.length)) V 36 1 (.slice ka kn kc) (mk0 (newRel ar)).length ((mk0 (newRel ar)).flatMap encK)
set_option maxRecDepth 20000 in
set_option maxHeartbeats 4000000 in
theorem mdefine_any (B : Nat) (O : Own) (W : World) (bm : Nat) (sm : StS) (h : MAt B O W bm sm) (hm : MSm sm) (a : Int) :
    Calls Try.prog 47 #[.pointer (some ⟨bm, 0, none⟩), .int .i64 a] W (MAns B O W bm (defF sm a).2.2 (ans (defF sm a).2.1 (defF sm a).1)) := by
  have HM := hid_of h
  have HSM := hid_of hm
  obtain ⟨q, hq⟩ : ∃ q, q = defF sm a := ⟨_, rfl⟩
  rw [← hq]
  have HQQ := hid_of hq
  obtain ⟨Q, hQ⟩ : ∃ Q, Q = MAns B O W bm q.2.2 (ans q.2.1 q.1) := ⟨_, rfl⟩
  rw [← hQ]
  have HQ := hid_of hQ
  clear hq hQ hm h
  go_enter Try.func47, Try.ntmps47
  go_upto_region 1 with fail
  refine wp_world (fun W1 => blk W1 W.heap.size = some (Answer.enc Answer.zero) ∧ free W1 W.heap.size = true ∧ W.Extends W1) ⟨?_, ?_, extends_alloc (ext_Ext (Ext.refl _)) _⟩ ?_
  · rw [blk_alloc, if_pos rfl]
  · unfold free; rw [heap_alloc, if_pos rfl]; rfl
  rintro W1 ⟨hb4, hf4, hx1⟩
  obtain ⟨b4, e4⟩ : ∃ b4, b4 = W.heap.size := ⟨_, rfl⟩
  rw [← e4] at hb4 hf4 ⊢
  have hn4 : W.heap.size ≤ b4 := by omega
  have hn4' := blk_lt hb4
  obtain ⟨O1, hO1⟩ : ∃ O1, O1 = lab O W.heap.size .no := ⟨_, rfl⟩
  have hM1 : MAt B O1 W1 bm sm := by rw [hO1]; exact HM.out.new hx1
  have HM1 := hid_of hM1
  have HF : Hid (∀ sm' V C, MOut B O1 W1 bm sm' V → MOut B O W bm sm' (put V b4 C)) := by
    intro sm' V C h
    rw [hO1] at h
    exact mout_put hx1 hn4 hn4' h C
  have HG : Hid (∀ sm' V, MOut B O1 W1 bm sm' V → blk V b4 = some (Answer.enc Answer.zero) ∧ free V b4 = true) := by
    intro sm' V h
    rw [hO1] at h
    exact mout_blk hn4 hb4 hf4 h
  clear e4 hO1 hx1 hn4 hM1
  by_cases ha : 0 ≤ a ∧ a ≤ 4
  rotate_left 1
  · have e : q = (-1, 8, sm) := by rw [HQQ.out]; unfold defF; rw [if_neg ha]
    subst e
    have HP : Hid (Q (.returned (.agg (Answer.enc (ans 8 (-1))).toArray)) (put (W1) b4 (Answer.enc (ans 8 (-1))))) := by
      have ho := (mout_same HM1.out (ext_Ext (Ext.refl _)))
      show Q _ _
      rw [HQ.out]
      exact ⟨rfl, HF.out _ _ _ ho⟩
    have hbV : blk (W1) b4 = some (Answer.enc Answer.zero) := (HG.out sm _ (mout_same HM1.out (ext_Ext (Ext.refl _)))).1
    have hfV : free (W1) b4 = true := (HG.out sm _ (mout_same HM1.out (ext_Ext (Ext.refl _)))).2
    have HBC : Hid (blk (put (W1) b4 (Answer.enc (ans 8 (-1)))) b4 = some (Answer.enc (ans 8 (-1)))) := by
      show blk _ _ = _
      rw [blk_put, if_pos rfl, hbV]; rfl
    clear HF HG hb4 hf4
    by_cases h0 : a < 0
    · clear ha
      go_wp2_with fail
      try go_ret2
      refine ret_cell (C := Answer.enc (ans 8 (-1))) rfl rfl HBC.out (by kernel_rfl) (by rw [Answer.length_enc]; kernel_rfl) rfl ?_
      exact HP.out
    · have h4 : 4 < a := by omega
      clear ha
      go_wp2_with fail
      try go_ret2
      refine ret_cell (C := Answer.enc (ans 8 (-1))) rfl rfl HBC.out (by kernel_rfl) (by rw [Answer.length_enc]; kernel_rfl) rfl ?_
      exact HP.out
  obtain ⟨ar, rfl⟩ : ∃ ar : Nat, a = (ar : Int) := ⟨a.toNat, by omega⟩
  have har4 : ar ≤ 4 := by omega
  have ha0 : ¬ (ar : Int) < 0 := by omega
  have ha4 : ¬ (4 : Int) < (ar : Int) := by omega
  obtain ⟨na, nn, nc, ra, rn, rc, hbm, hfm, hrn, _, _⟩ := mat_bad HM1.out
  by_cases hfull : 192 ≤ sm.rels.length
  · have e : q = (-1, 5, sm) := by rw [HQQ.out]; unfold defF; rw [if_pos ha, if_pos hfull]
    subst e
    have h192 : (rn : Int) = 192 := by have := HSM.out.rls; omega
    have HP : Hid (Q (.returned (.agg (Answer.enc (ans 5 (-1))).toArray)) (put (W1) b4 (Answer.enc (ans 5 (-1))))) := by
      have ho := (mout_same HM1.out (ext_Ext (Ext.refl _)))
      show Q _ _
      rw [HQ.out]
      exact ⟨rfl, HF.out _ _ _ ho⟩
    have hbV : blk (W1) b4 = some (Answer.enc Answer.zero) := (HG.out sm _ (mout_same HM1.out (ext_Ext (Ext.refl _)))).1
    have hfV : free (W1) b4 = true := (HG.out sm _ (mout_same HM1.out (ext_Ext (Ext.refl _)))).2
    have HBC : Hid (blk (put (W1) b4 (Answer.enc (ans 5 (-1)))) b4 = some (Answer.enc (ans 5 (-1)))) := by
      show blk _ _ = _
      rw [blk_put, if_pos rfl, hbV]; rfl
    clear HF HG hb4 hf4 ha
    go_wp2_with fail
    try go_ret2
    refine ret_cell (C := Answer.enc (ans 5 (-1))) rfl rfl HBC.out (by kernel_rfl) (by rw [Answer.length_enc]; kernel_rfl) rfl ?_
    exact HP.out
  have e : q = ((sm.rels.length : Int), 0, ⟨sm.names, sm.rels ++ [newRel ar]⟩) := by rw [HQQ.out]; unfold defF; rw [if_pos ha, if_neg hfull, Int.toNat_natCast]
  subst e
  have h192 : ¬ (rn : Int) = 192 := by omega
  have h192b : ((rn : Int) == 192) = false := by simp; omega
  have hrn2 : rn ≤ 192 := by have := HSM.out.rls; omega
  have HRN := hid_of hrn
  clear ha hfull hrn
  go_upto_region 6 with fail
  refine wp_world (fun W2 => blk W2 W1.heap.size = some (mrE (ar : Int) none 0 0 none 0 0) ∧ free W2 W1.heap.size = true ∧ W1.Extends W2) ⟨?_, ?_, ?_⟩ ?_
  · rw [blk_alloc, if_pos rfl]
  · unfold free; rw [heap_alloc, if_pos rfl]; rfl
  · exact extends_alloc (ext_Ext (Ext.refl _)) _
  rintro W2 ⟨hb5, hf5, hx2⟩
  obtain ⟨b5, e5⟩ : ∃ b5, b5 = W1.heap.size := ⟨_, rfl⟩
  rw [← e5] at hb5 hf5 ⊢
  have hn5 : W1.heap.size ≤ b5 := by omega
  obtain ⟨rl, hrl⟩ : ∃ rl, rl = sm.rels.length := ⟨_, rfl⟩
  obtain ⟨O2, hO2⟩ : ∃ O2, O2 = lab O1 W1.heap.size (.cl (4 + 2 * rl)) := ⟨_, rfl⟩
  have hM2 : MAt B O2 W2 bm sm := by rw [hO2]; exact (HM1.out.relab (fun k hk => lab_lt hk)).ext hx2
  have ho5 : O2 b5 = .cl (4 + 2 * rl) := by rw [hO2]; exact lab_ge hn5
  have hback : ∀ sm' V, MOut B O2 W2 bm sm' V → MOut B O1 W1 bm sm' V := by
    rintro sm' V ⟨O', hF', hM'⟩
    refine ⟨O', Fr.trans ?_ hF', hM'⟩
    rw [hO2]
    exact ⟨hx2.os, hx2.tape, hx2.output, hx2.size, fun k hk => lab_lt hk, fun k hk _ => hx2.block k hk⟩
  have HBACK := hid_of hback
  have HM2 := hid_of hM2
  have HRL := hid_of hrl
  have hbase : B ≤ W2.heap.size := by obtain ⟨_, _, _, _, _, _, _, h⟩ := hM2; exact h.base
  have hlbm : O2 bm = .cl 0 := by obtain ⟨_, _, _, _, _, _, _, h⟩ := hM2; exact h.own
  have hnb : ¬ bm = b5 := fun e => by rw [e, ho5] at hlbm; injection hlbm with e; omega
  have hbm2 : blk W2 bm = some (vE na nn nc ra rn rc) := (hx2.blk (blk_lt hbm)).trans hbm
  clear hM2 hback hO2 e5 hx2 hn5 hbm hfm hb4 hf4 hn4' hrl
  by_cases har0 : 0 < ar
  · have har0' : (0 : Int) < (ar : Int) := by omega
    obtain ⟨ka, kc, W3, hrun1, hrow1, hfr1⟩ := appL encK 1 8 54 36 Try.underlying54 info36 encK_len encK_one (by omega) (by omega) (B := B) (O := O2) (l := .cl (3 + 2 * rl)) (W := W2) (K := []) 54 (2 ^ ar - 1) (RowL.nil _ _ _ _ _ _) hbase (Nat.zero_le _) (encK (2 ^ ar - 1)).toArray rfl 1
    have hb53 : blk W3 b5 = some (mrE (ar : Int) none 0 0 none 0 0) := hfr1.blk hb5 (by rw [ho5]; intro e; injection e with e; omega)
    have hf53 : free W3 b5 = true := hfr1.free hb5 hf5 (by rw [ho5]; intro e; injection e with e; omega)
    have ho53 : lab O2 W2.heap.size (.cl (3 + 2 * rl)) b5 = .cl (4 + 2 * rl) := (hfr1.keep b5 (blk_lt hb5)).trans ho5
    have hw1 := wrap_ar1 ar har4
    obtain ⟨mkv, hmkv⟩ : ∃ mkv : Nat, mkv = 2 ^ ar - 1 := ⟨_, rfl⟩
    rw [← hmkv] at hrun1 hw1
    have hb54 : ∀ w : World, (bsliceOp 54 1 #[(0, .int .i64 (mkv : Int))]).run Try.prog w = .ok (.value (.slice (some ⟨w.heap.size, 0, none⟩) 1 1)) (w.alloc (.cells (encK mkv).toArray 36)) := fun w => bslice54 w _
    have HDF : Hid (∃ O3, Fr (fun l => l = .cl (3 + 2 * rl) ∨ l = .cl (4 + 2 * rl)) O2 W2 O3 (put W3 b5 (mrE (ar : Int) ka 1 kc none 0 0)) ∧ O3 b5 = .cl (4 + 2 * rl) ∧ RowL B O3 (.cl (3 + 2 * rl)) (put W3 b5 (mrE (ar : Int) ka 1 kc none 0 0)) 36 1 (.slice ka 1 kc) (mk0 (newRel ar)).length ((mk0 (newRel ar)).flatMap encK)) := by
      refine ⟨_, (hfr1.mono (fun l e => .inl e)).put (.inr ho53) _, ho53, ?_⟩
      rw [mk0_newS har0 har4]
      exact hrow1.keep (fun k hk ho => ⟨by rw [heap_put, if_neg (fun e => by rw [e, ho53] at ho; injection ho with e; omega)], rfl⟩)
    have hb54' : blk (put W3 b5 (mrE (ar : Int) ka 1 kc none 0 0)) b5 = some (mrE (ar : Int) ka 1 kc none 0 0) := by rw [blk_put, if_pos rfl, hb53]; rfl
    clear hrow1 hfr1 ho53 hmkv
    go_upto_region 8 with (at_builtin; refine wpList_append_run rfl _ _ 54 rfl _ _ _ _ rfl rfl hrun1 ?_)
    obtain ⟨W4, hW4⟩ : ∃ W4, W4 = put W3 b5 (mrE (ar : Int) ka 1 kc none 0 0) := ⟨_, rfl⟩
    rw [← hW4] at HDF hb54' ⊢
    clear hW4 hrun1 hb53 hf53 hb54 hw1 hbm2 hb5 hf5 har0 har0'
    obtain ⟨O3, hF3, ho35, hk3⟩ := HDF.out
    rw [HRL.out] at hF3 hk3
    obtain ⟨na, nn, nc, ra, rn, rc, hbm4, hfm4, hrn4, ra', rc', W5, hrun, nb5, nf5, hkp, hout⟩ := mrels_step (W1 := W4.drew) HM2.out HSM.out (newRel ar) rfl hF3.drew hk3
    have hb5d : blk W4.drew b5 = some (mrE (ar : Int) ka 1 kc none 0 0) := hb54'
    have hbm4' : blk W4 bm = some (vE na nn nc ra rn rc) := hbm4
    have hb55 : blk W5 b5 = some (mrE (ar : Int) ka 1 kc none 0 0) := hkp b5 _ hb5d (by rw [ho35]; intro e; injection e with e; omega)
    have hrun' : (Builtin.append_ #[45, 45] 45 #[.slice ra rn rc, .slice (some ⟨W4.drew.heap.size, 0, none⟩) 1 1]).run Try.prog (W4.drew.alloc (.cells (mrE (ar : Int) ka 1 kc none 0 0).toArray 57)) = .ok (.slice ra' (rn + 1) rc') W5 := hrun
    have hrn2' : rn ≤ 192 := by have := HSM.out.rls; omega
    have hwr : IntKind.i64.wrap (((rn + 1 : Nat) : Int) - 1) = (rn : Int) := by rw [IntKind.wrap_i64]; omega
    have hq1 : (sm.rels.length : Int) = (rn : Int) := by omega
    rw [hq1] at HQ
    have nb1 : ¬ bm = W4.heap.size := Nat.ne_of_lt (blk_lt hbm4')
    have nb5' : ¬ b5 = bm := fun e => hnb e.symm
    have HP : Hid (Q (.returned (.agg (Answer.enc (ans 0 (rn : Int))).toArray)) (put (put W5 bm (vE na nn nc ra' (rn + 1) rc')) b4 (Answer.enc (ans 0 (rn : Int))))) := by
      have ho := (HBACK.out _ _ hout)
      show Q _ _
      rw [HQ.out]
      exact ⟨rfl, HF.out _ _ _ ho⟩
    have hbV : blk (put W5 bm (vE na nn nc ra' (rn + 1) rc')) b4 = some (Answer.enc Answer.zero) := (HG.out _ _ (HBACK.out _ _ hout)).1
    have hfV : free (put W5 bm (vE na nn nc ra' (rn + 1) rc')) b4 = true := (HG.out _ _ (HBACK.out _ _ hout)).2
    have HBC : Hid (blk (put (put W5 bm (vE na nn nc ra' (rn + 1) rc')) b4 (Answer.enc (ans 0 (rn : Int)))) b4 = some (Answer.enc (ans 0 (rn : Int)))) := by
      show blk _ _ = _
      rw [blk_put, if_pos rfl, hbV]; rfl
    have hbm6 : blk (put W5 bm (vE na nn nc ra' (rn + 1) rc')) bm = some (vE na nn nc ra' (rn + 1) rc') := by rw [blk_put, if_pos rfl, nb5]; rfl
    have hb56 : blk (put W5 bm (vE na nn nc ra' (rn + 1) rc')) b5 = some (mrE (ar : Int) ka 1 kc none 0 0) := by rw [blk_put, if_neg nb5']; exact hb55
    have hb57 : ∀ X, blk (W4.drew.alloc X) b5 = some (mrE (ar : Int) ka 1 kc none 0 0) := fun X => ((extends_alloc (ext_Ext (Ext.refl _)) _ : W4.drew.Extends _).blk (blk_lt hb5d)).trans hb5d
    clear hF3 ho35 hk3 HDF hout hrun hkp HF HG HBACK hrn4 hq1 HRN
    refine wp_region_held_drew (S := fun W' => blk W' b5 = some (mrE (ar : Int) ka 1 kc none 0 0)) (by kernel_rfl) hb54' (fun hHeld => ?_)
    refine wpAnyH_take (i := 0) (oi := ⟨_, _, _, _, _, _⟩) (v := ?_) rfl (by kernel_rfl) (by kernel_rfl) (by kernel_rfl) (fun _ _ _ h => h) (Or.inl ⟨by rfl, ?_⟩) (by assumption) ?_
    rotate_left 1
    · intro W' hSw
      go_simp
      try with_reducible rfl
    try simp only [Act.put, List.setIfInBounds_toArray, List.set_cons_zero, List.set_cons_succ]
    refine wpAnyH_take (i := 1) (oi := ⟨_, _, _, _, _, _⟩) (v := ?_) rfl (by kernel_rfl) (by kernel_rfl) (by kernel_rfl) (fun _ _ _ h => h) (Or.inl ⟨by rfl, ?_⟩) (by assumption) ?_
    rotate_left 1
    · intro W' hSw
      go_simp
      try with_reducible rfl
    try simp only [Act.put, List.setIfInBounds_toArray, List.set_cons_zero, List.set_cons_succ]
    refine wpAnyH_take (i := 2) (oi := ⟨_, _, _, _, _, _⟩) (v := ?_) rfl (by kernel_rfl) (by kernel_rfl) (by kernel_rfl) (fun _ _ _ h => h) (Or.inl ⟨by rfl, ?_⟩) (by assumption) ?_
    rotate_left 1
    · intro W' hSw
      go_simp
      try with_reducible rfl
    try simp only [Act.put, List.setIfInBounds_toArray, List.set_cons_zero, List.set_cons_succ]
    refine wpAnyH_take (i := 3) (oi := ⟨_, _, _, _, _, _⟩) (v := ?_) rfl (by kernel_rfl) (by kernel_rfl) (by kernel_rfl) (fun _ _ _ h => h) (Or.inl ⟨by rfl, ?_⟩) (by assumption) ?_
    rotate_left 1
    · intro W' hSw
      go_simp
      try with_reducible rfl
    try simp only [Act.put, List.setIfInBounds_toArray, List.set_cons_zero, List.set_cons_succ]
    refine wpAnyH_take (i := 5) (oi := ⟨_, _, _, _, _, _⟩) (v := ?_) rfl (by kernel_rfl) (by kernel_rfl) (by kernel_rfl) (fun _ _ _ h => h) (Or.inl ⟨by rfl, ?_⟩) (by assumption) ?_
    rotate_left 1
    · intro W' hSw
      go_simp
      try with_reducible rfl
    try simp only [Act.put, List.setIfInBounds_toArray, List.set_cons_zero, List.set_cons_succ]
    refine wpAnyH_ready (rs := [4, 6]) (by kernel_rfl) (by simp) ?_
    refine AllReadyH.cons (o := ⟨_, _, _, _, _, _⟩) rfl (fun K' hK => ?_) (AllReadyH.cons (o := ⟨_, _, _, _, _, _⟩) rfl (fun K' hK => ?_) AllReadyH.nil)
    · go_simp
      refine hK.out _ _ hb5d (fun hHeld => ?_)
      clear hK K'
      try simp only [Act.put, List.setIfInBounds_toArray, List.set_cons_zero, List.set_cons_succ]
      refine wpAnyH_ready (rs := [6]) (by kernel_rfl) (by simp) ?_
      refine AllReadyH.cons (o := ⟨_, _, _, _, _, _⟩) rfl (fun K' hK => ?_) AllReadyH.nil
      go_simp
      refine hK.out _ _ (hb57 _) (fun hHeld => ?_)
      clear hK K'
      try simp only [Act.put, List.setIfInBounds_toArray, List.set_cons_zero, List.set_cons_succ]
      refine wpAnyH_ready (rs := [7]) (by kernel_rfl) (by simp) ?_
      refine AllReadyH.cons (o := ⟨_, _, _, _, _, _⟩) rfl (fun K' hK => ?_) AllReadyH.nil
      refine wp_append_run _ _ 45 rfl _ _ _ _ rfl rfl hrun' ?_
      refine hK.out _ _ hb55 (fun hHeld => ?_)
      clear hK K'
      try simp only [Act.put, List.setIfInBounds_toArray, List.set_cons_zero, List.set_cons_succ]
      refine wpAnyH_take (i := 8) (oi := ⟨_, _, _, _, _, _⟩) (v := ?_) rfl (by kernel_rfl) (by kernel_rfl) (by kernel_rfl) (fun _ _ _ h => h) (Or.inl ⟨by rfl, ?_⟩) (by assumption) ?_
      rotate_left 1
      · intro W' hSw
        go_simp
        try with_reducible rfl
      try simp only [Act.put, List.setIfInBounds_toArray, List.set_cons_zero, List.set_cons_succ]
      refine wpAnyH_take (i := 9) (oi := ⟨_, _, _, _, _, _⟩) (v := ?_) rfl (by kernel_rfl) (by kernel_rfl) (by kernel_rfl) (fun _ _ _ h => h) (Or.inl ⟨by rfl, ?_⟩) (by assumption) ?_
      rotate_left 1
      · intro W' hSw
        go_simp
        try with_reducible rfl
      try simp only [Act.put, List.setIfInBounds_toArray, List.set_cons_zero, List.set_cons_succ]
      refine wpAnyH_ready (rs := [10]) (by kernel_rfl) (by simp) ?_
      refine AllReadyH.cons (o := ⟨_, _, _, _, _, _⟩) rfl (fun K' hK => ?_) AllReadyH.nil
      go_simp
      refine hK.out _ _ hb56 (fun hHeld => ?_)
      clear hK K'
      try simp only [Act.put, List.setIfInBounds_toArray, List.set_cons_zero, List.set_cons_succ]
      refine wpAnyH_done (by kernel_rfl) ?_ _
      obtain ⟨V3, hV3⟩ : ∃ V3, V3 = put W5 bm (vE na nn nc ra' (rn + 1) rc') := ⟨_, rfl⟩
      rw [← hV3] at hbm6 hbV hfV HBC HP ⊢
      clear hV3 hb56 hb57 hrun' hb5d hbm4 hbm4'
      go_wp2_with fail
      try go_ret2
      refine ret_cell (C := Answer.enc (ans 0 (rn : Int))) rfl rfl HBC.out (by kernel_rfl) (by rw [Answer.length_enc]; kernel_rfl) rfl ?_
      exact HP.out
    · go_simp
      refine hK.out _ _ (hb57 _) (fun hHeld => ?_)
      clear hK K'
      try simp only [Act.put, List.setIfInBounds_toArray, List.set_cons_zero, List.set_cons_succ]
      refine wpAnyH_ready (rs := [4]) (by kernel_rfl) (by simp) ?_
      refine AllReadyH.cons (o := ⟨_, _, _, _, _, _⟩) rfl (fun K' hK => ?_) AllReadyH.nil
      go_simp
      refine hK.out _ _ (hb57 _) (fun hHeld => ?_)
      clear hK K'
      try simp only [Act.put, List.setIfInBounds_toArray, List.set_cons_zero, List.set_cons_succ]
      refine wpAnyH_ready (rs := [7]) (by kernel_rfl) (by simp) ?_
      refine AllReadyH.cons (o := ⟨_, _, _, _, _, _⟩) rfl (fun K' hK => ?_) AllReadyH.nil
      refine wp_append_run _ _ 45 rfl _ _ _ _ rfl rfl hrun' ?_
      refine hK.out _ _ hb55 (fun hHeld => ?_)
      clear hK K'
      try simp only [Act.put, List.setIfInBounds_toArray, List.set_cons_zero, List.set_cons_succ]
      refine wpAnyH_take (i := 8) (oi := ⟨_, _, _, _, _, _⟩) (v := ?_) rfl (by kernel_rfl) (by kernel_rfl) (by kernel_rfl) (fun _ _ _ h => h) (Or.inl ⟨by rfl, ?_⟩) (by assumption) ?_
      rotate_left 1
      · intro W' hSw
        go_simp
        try with_reducible rfl
      try simp only [Act.put, List.setIfInBounds_toArray, List.set_cons_zero, List.set_cons_succ]
      refine wpAnyH_take (i := 9) (oi := ⟨_, _, _, _, _, _⟩) (v := ?_) rfl (by kernel_rfl) (by kernel_rfl) (by kernel_rfl) (fun _ _ _ h => h) (Or.inl ⟨by rfl, ?_⟩) (by assumption) ?_
      rotate_left 1
      · intro W' hSw
        go_simp
        try with_reducible rfl
      try simp only [Act.put, List.setIfInBounds_toArray, List.set_cons_zero, List.set_cons_succ]
      refine wpAnyH_ready (rs := [10]) (by kernel_rfl) (by simp) ?_
      refine AllReadyH.cons (o := ⟨_, _, _, _, _, _⟩) rfl (fun K' hK => ?_) AllReadyH.nil
      go_simp
      refine hK.out _ _ hb56 (fun hHeld => ?_)
      clear hK K'
      try simp only [Act.put, List.setIfInBounds_toArray, List.set_cons_zero, List.set_cons_succ]
      refine wpAnyH_done (by kernel_rfl) ?_ _
      obtain ⟨V3, hV3⟩ : ∃ V3, V3 = put W5 bm (vE na nn nc ra' (rn + 1) rc') := ⟨_, rfl⟩
      rw [← hV3] at hbm6 hbV hfV HBC HP ⊢
      clear hV3 hb56 hb57 hrun' hb5d hbm4 hbm4'
      go_wp2_with fail
      try go_ret2
      refine ret_cell (C := Answer.enc (ans 0 (rn : Int))) rfl rfl HBC.out (by kernel_rfl) (by rw [Answer.length_enc]; kernel_rfl) rfl ?_
      exact HP.out
  · obtain rfl : ar = 0 := by omega
    have HDF : Hid (∃ O3, Fr (fun l => l = .cl (3 + 2 * rl) ∨ l = .cl (4 + 2 * rl)) O2 W2 O3 W2 ∧ O3 b5 = .cl (4 + 2 * rl) ∧ RowL B O3 (.cl (3 + 2 * rl)) W2 36 1 (.slice none 0 0) (mk0 (newRel 0)).length ((mk0 (newRel 0)).flatMap encK)) := ⟨O2, Fr.refl _ _ _, ho5, by rw [mk0_new0]; exact RowL.nil _ _ _ _ _ _⟩
    have hb54' : blk W2 b5 = some (mrE 0 none 0 0 none 0 0) := hb5
    have har0n : ¬ (0 : Int) < 0 := by omega
    clear har0 hb5 hf5 hbm2
    go_upto_region 8 with fail
    obtain ⟨O3, hF3, ho35, hk3⟩ := HDF.out
    rw [HRL.out] at hF3 hk3
    obtain ⟨na, nn, nc, ra, rn, rc, hbm4, hfm4, hrn4, ra', rc', W5, hrun, nb5, nf5, hkp, hout⟩ := mrels_step (W1 := W2.drew) HM2.out HSM.out (newRel 0) rfl hF3.drew hk3
    have hb5d : blk W2.drew b5 = some (mrE 0 none 0 0 none 0 0) := hb54'
    have hbm4' : blk W2 bm = some (vE na nn nc ra rn rc) := hbm4
    have hb55 : blk W5 b5 = some (mrE 0 none 0 0 none 0 0) := hkp b5 _ hb5d (by rw [ho35]; intro e; injection e with e; omega)
    have hrun' : (Builtin.append_ #[45, 45] 45 #[.slice ra rn rc, .slice (some ⟨W2.drew.heap.size, 0, none⟩) 1 1]).run Try.prog (W2.drew.alloc (.cells (mrE 0 none 0 0 none 0 0).toArray 57)) = .ok (.slice ra' (rn + 1) rc') W5 := hrun
    have hrn2' : rn ≤ 192 := by have := HSM.out.rls; omega
    have hwr : IntKind.i64.wrap (((rn + 1 : Nat) : Int) - 1) = (rn : Int) := by rw [IntKind.wrap_i64]; omega
    have hq1 : (sm.rels.length : Int) = (rn : Int) := by omega
    rw [hq1] at HQ
    have nb1 : ¬ bm = W2.heap.size := Nat.ne_of_lt (blk_lt hbm4')
    have nb5' : ¬ b5 = bm := fun e => hnb e.symm
    have HP : Hid (Q (.returned (.agg (Answer.enc (ans 0 (rn : Int))).toArray)) (put (put W5 bm (vE na nn nc ra' (rn + 1) rc')) b4 (Answer.enc (ans 0 (rn : Int))))) := by
      have ho := (HBACK.out _ _ hout)
      show Q _ _
      rw [HQ.out]
      exact ⟨rfl, HF.out _ _ _ ho⟩
    have hbV : blk (put W5 bm (vE na nn nc ra' (rn + 1) rc')) b4 = some (Answer.enc Answer.zero) := (HG.out _ _ (HBACK.out _ _ hout)).1
    have hfV : free (put W5 bm (vE na nn nc ra' (rn + 1) rc')) b4 = true := (HG.out _ _ (HBACK.out _ _ hout)).2
    have HBC : Hid (blk (put (put W5 bm (vE na nn nc ra' (rn + 1) rc')) b4 (Answer.enc (ans 0 (rn : Int)))) b4 = some (Answer.enc (ans 0 (rn : Int)))) := by
      show blk _ _ = _
      rw [blk_put, if_pos rfl, hbV]; rfl
    have hbm6 : blk (put W5 bm (vE na nn nc ra' (rn + 1) rc')) bm = some (vE na nn nc ra' (rn + 1) rc') := by rw [blk_put, if_pos rfl, nb5]; rfl
    have hb56 : blk (put W5 bm (vE na nn nc ra' (rn + 1) rc')) b5 = some (mrE 0 none 0 0 none 0 0) := by rw [blk_put, if_neg nb5']; exact hb55
    have hb57 : ∀ X, blk (W2.drew.alloc X) b5 = some (mrE 0 none 0 0 none 0 0) := fun X => ((extends_alloc (ext_Ext (Ext.refl _)) _ : W2.drew.Extends _).blk (blk_lt hb5d)).trans hb5d
    clear hF3 ho35 hk3 HDF hout hrun hkp HF HG HBACK hrn4 hq1 HRN
    refine wp_region_held_drew (S := fun W' => blk W' b5 = some (mrE 0 none 0 0 none 0 0)) (by kernel_rfl) hb54' (fun hHeld => ?_)
    refine wpAnyH_take (i := 0) (oi := ⟨_, _, _, _, _, _⟩) (v := ?_) rfl (by kernel_rfl) (by kernel_rfl) (by kernel_rfl) (fun _ _ _ h => h) (Or.inl ⟨by rfl, ?_⟩) (by assumption) ?_
    rotate_left 1
    · intro W' hSw
      go_simp
      try with_reducible rfl
    try simp only [Act.put, List.setIfInBounds_toArray, List.set_cons_zero, List.set_cons_succ]
    refine wpAnyH_take (i := 1) (oi := ⟨_, _, _, _, _, _⟩) (v := ?_) rfl (by kernel_rfl) (by kernel_rfl) (by kernel_rfl) (fun _ _ _ h => h) (Or.inl ⟨by rfl, ?_⟩) (by assumption) ?_
    rotate_left 1
    · intro W' hSw
      go_simp
      try with_reducible rfl
    try simp only [Act.put, List.setIfInBounds_toArray, List.set_cons_zero, List.set_cons_succ]
    refine wpAnyH_take (i := 2) (oi := ⟨_, _, _, _, _, _⟩) (v := ?_) rfl (by kernel_rfl) (by kernel_rfl) (by kernel_rfl) (fun _ _ _ h => h) (Or.inl ⟨by rfl, ?_⟩) (by assumption) ?_
    rotate_left 1
    · intro W' hSw
      go_simp
      try with_reducible rfl
    try simp only [Act.put, List.setIfInBounds_toArray, List.set_cons_zero, List.set_cons_succ]
    refine wpAnyH_take (i := 3) (oi := ⟨_, _, _, _, _, _⟩) (v := ?_) rfl (by kernel_rfl) (by kernel_rfl) (by kernel_rfl) (fun _ _ _ h => h) (Or.inl ⟨by rfl, ?_⟩) (by assumption) ?_
    rotate_left 1
    · intro W' hSw
      go_simp
      try with_reducible rfl
    try simp only [Act.put, List.setIfInBounds_toArray, List.set_cons_zero, List.set_cons_succ]
    refine wpAnyH_take (i := 5) (oi := ⟨_, _, _, _, _, _⟩) (v := ?_) rfl (by kernel_rfl) (by kernel_rfl) (by kernel_rfl) (fun _ _ _ h => h) (Or.inl ⟨by rfl, ?_⟩) (by assumption) ?_
    rotate_left 1
    · intro W' hSw
      go_simp
      try with_reducible rfl
    try simp only [Act.put, List.setIfInBounds_toArray, List.set_cons_zero, List.set_cons_succ]
    refine wpAnyH_ready (rs := [4, 6]) (by kernel_rfl) (by simp) ?_
    refine AllReadyH.cons (o := ⟨_, _, _, _, _, _⟩) rfl (fun K' hK => ?_) (AllReadyH.cons (o := ⟨_, _, _, _, _, _⟩) rfl (fun K' hK => ?_) AllReadyH.nil)
    · go_simp
      refine hK.out _ _ hb5d (fun hHeld => ?_)
      clear hK K'
      try simp only [Act.put, List.setIfInBounds_toArray, List.set_cons_zero, List.set_cons_succ]
      refine wpAnyH_ready (rs := [6]) (by kernel_rfl) (by simp) ?_
      refine AllReadyH.cons (o := ⟨_, _, _, _, _, _⟩) rfl (fun K' hK => ?_) AllReadyH.nil
      go_simp
      refine hK.out _ _ (hb57 _) (fun hHeld => ?_)
      clear hK K'
      try simp only [Act.put, List.setIfInBounds_toArray, List.set_cons_zero, List.set_cons_succ]
      refine wpAnyH_ready (rs := [7]) (by kernel_rfl) (by simp) ?_
      refine AllReadyH.cons (o := ⟨_, _, _, _, _, _⟩) rfl (fun K' hK => ?_) AllReadyH.nil
      refine wp_append_run _ _ 45 rfl _ _ _ _ rfl rfl hrun' ?_
      refine hK.out _ _ hb55 (fun hHeld => ?_)
      clear hK K'
      try simp only [Act.put, List.setIfInBounds_toArray, List.set_cons_zero, List.set_cons_succ]
      refine wpAnyH_take (i := 8) (oi := ⟨_, _, _, _, _, _⟩) (v := ?_) rfl (by kernel_rfl) (by kernel_rfl) (by kernel_rfl) (fun _ _ _ h => h) (Or.inl ⟨by rfl, ?_⟩) (by assumption) ?_
      rotate_left 1
      · intro W' hSw
        go_simp
        try with_reducible rfl
      try simp only [Act.put, List.setIfInBounds_toArray, List.set_cons_zero, List.set_cons_succ]
      refine wpAnyH_take (i := 9) (oi := ⟨_, _, _, _, _, _⟩) (v := ?_) rfl (by kernel_rfl) (by kernel_rfl) (by kernel_rfl) (fun _ _ _ h => h) (Or.inl ⟨by rfl, ?_⟩) (by assumption) ?_
      rotate_left 1
      · intro W' hSw
        go_simp
        try with_reducible rfl
      try simp only [Act.put, List.setIfInBounds_toArray, List.set_cons_zero, List.set_cons_succ]
      refine wpAnyH_ready (rs := [10]) (by kernel_rfl) (by simp) ?_
      refine AllReadyH.cons (o := ⟨_, _, _, _, _, _⟩) rfl (fun K' hK => ?_) AllReadyH.nil
      go_simp
      refine hK.out _ _ hb56 (fun hHeld => ?_)
      clear hK K'
      try simp only [Act.put, List.setIfInBounds_toArray, List.set_cons_zero, List.set_cons_succ]
      refine wpAnyH_done (by kernel_rfl) ?_ _
      obtain ⟨V3, hV3⟩ : ∃ V3, V3 = put W5 bm (vE na nn nc ra' (rn + 1) rc') := ⟨_, rfl⟩
      rw [← hV3] at hbm6 hbV hfV HBC HP ⊢
      clear hV3 hb56 hb57 hrun' hb5d hbm4 hbm4'
      go_wp2_with fail
      try go_ret2
      refine ret_cell (C := Answer.enc (ans 0 (rn : Int))) rfl rfl HBC.out (by kernel_rfl) (by rw [Answer.length_enc]; kernel_rfl) rfl ?_
      exact HP.out
    · go_simp
      refine hK.out _ _ (hb57 _) (fun hHeld => ?_)
      clear hK K'
      try simp only [Act.put, List.setIfInBounds_toArray, List.set_cons_zero, List.set_cons_succ]
      refine wpAnyH_ready (rs := [4]) (by kernel_rfl) (by simp) ?_
      refine AllReadyH.cons (o := ⟨_, _, _, _, _, _⟩) rfl (fun K' hK => ?_) AllReadyH.nil
      go_simp
      refine hK.out _ _ (hb57 _) (fun hHeld => ?_)
      clear hK K'
      try simp only [Act.put, List.setIfInBounds_toArray, List.set_cons_zero, List.set_cons_succ]
      refine wpAnyH_ready (rs := [7]) (by kernel_rfl) (by simp) ?_
      refine AllReadyH.cons (o := ⟨_, _, _, _, _, _⟩) rfl (fun K' hK => ?_) AllReadyH.nil
      refine wp_append_run _ _ 45 rfl _ _ _ _ rfl rfl hrun' ?_
      refine hK.out _ _ hb55 (fun hHeld => ?_)
      clear hK K'
      try simp only [Act.put, List.setIfInBounds_toArray, List.set_cons_zero, List.set_cons_succ]
      refine wpAnyH_take (i := 8) (oi := ⟨_, _, _, _, _, _⟩) (v := ?_) rfl (by kernel_rfl) (by kernel_rfl) (by kernel_rfl) (fun _ _ _ h => h) (Or.inl ⟨by rfl, ?_⟩) (by assumption) ?_
      rotate_left 1
      · intro W' hSw
        go_simp
        try with_reducible rfl
      try simp only [Act.put, List.setIfInBounds_toArray, List.set_cons_zero, List.set_cons_succ]
      refine wpAnyH_take (i := 9) (oi := ⟨_, _, _, _, _, _⟩) (v := ?_) rfl (by kernel_rfl) (by kernel_rfl) (by kernel_rfl) (fun _ _ _ h => h) (Or.inl ⟨by rfl, ?_⟩) (by assumption) ?_
      rotate_left 1
      · intro W' hSw
        go_simp
        try with_reducible rfl
      try simp only [Act.put, List.setIfInBounds_toArray, List.set_cons_zero, List.set_cons_succ]
      refine wpAnyH_ready (rs := [10]) (by kernel_rfl) (by simp) ?_
      refine AllReadyH.cons (o := ⟨_, _, _, _, _, _⟩) rfl (fun K' hK => ?_) AllReadyH.nil
      go_simp
      refine hK.out _ _ hb56 (fun hHeld => ?_)
      clear hK K'
      try simp only [Act.put, List.setIfInBounds_toArray, List.set_cons_zero, List.set_cons_succ]
      refine wpAnyH_done (by kernel_rfl) ?_ _
      obtain ⟨V3, hV3⟩ : ∃ V3, V3 = put W5 bm (vE na nn nc ra' (rn + 1) rc') := ⟨_, rfl⟩
      rw [← hV3] at hbm6 hbV hfV HBC HP ⊢
      clear hV3 hb56 hb57 hrun' hb5d hbm4 hbm4'
      go_wp2_with fail
      try go_ret2
      refine ret_cell (C := Answer.enc (ans 0 (rn : Int))) rfl rfl HBC.out (by kernel_rfl) (by rw [Answer.length_enc]; kernel_rfl) rfl ?_
      exact HP.out
end Go.Proofs.Qxb6500789a
