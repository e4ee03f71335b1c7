import Derived.Test.Qxb6500789aYw
import Derived.StillTailTactics
import Derived.Deep.QuietTactic
import Derived.BigQuiet
import Derived.Deep.RegionHeld
import Derived.Deep.CutRange
import Derived.Laws.ResultCell
import Derived.Laws.Rows
import Derived.DeepKeys
import Derived.DataBytes
import Derived.Laws.StructEq
import Derived.Laws.AppendOwn
import Derived.Laws.MakeOwn
import Derived.Lib.AppendStr
set_option linter.unusedSimpArgs false
set_option linter.unusedVariables false
namespace Go.Proofs.Qxb6500789a
open Go.RowKit Go.Blk
attribute [local go_sem ↓] execOp_load execOp_store execOp_alloc
attribute [local go_sem] Try.ld29 Try.st29 Try.ld3 Try.st3 Try.ld9 Try.st9 Try.ld30 Try.st30 Try.ld34 Try.st34 Try.ld35 Try.st35 Try.ld36 Try.st36 Try.ld37 Try.st37 Try.ld44 Try.st44 Try.ld45 Try.st45 Try.ld54 Try.st54 Try.ld55 Try.st55 Try.ld74 Try.st74 Try.ld80 Try.st80 Try.ld84 Try.st84 Try.ld106 Try.st106 Try.ld107 Try.st107 Try.ld4 Try.st4 Try.ld121 Try.st121 Try.ld2 Try.st2 Try.ld5 Try.st5 Try.ld12 Try.st12 Try.ld21 Try.st21 Try.ld22 Try.st22 Try.ld24 Try.st24 Try.ld26 Try.st26 Try.ld63 Try.st63 Try.ld71 Try.st71 Try.ld103 Try.st103 Try.ld130 Try.st130 Try.ld133 Try.st133 Try.ld140 Try.st140 Try.ld152 Try.st152 Try.ld39 Try.st39 Try.ld32 Try.st32 Try.ld41 Try.st41 Try.ld47 Try.st47 Try.ld57 Try.st57 Try.ld62 Try.st62 Try.ld76 Try.st76 Try.ld82 Try.st82 Try.ld86 Try.st86 Try.ld109 Try.st109 Try.ld115 Try.st115 Try.ld123 Try.st123 Try.ld135 Try.st135 Try.al39 Try.al32 Try.al41 Try.al47 Try.al57 Try.al62 Try.al76 Try.al82 Try.al86 Try.al109 Try.al115 Try.al123 Try.al135
attribute [local go_sem] Answer.length_enc Answer.ok_enc Answer.all_get Answer.all_set Answer.code_get Answer.code_set Answer.n_get Answer.n_set Answer.name_get Answer.name_set Answer.rows_get Answer.rows_set GOp.length_enc GOp.ok_enc GOp.all_get GOp.all_set GOp.kind_get GOp.kind_set GOp.rel_get GOp.rel_set GOp.mask_get GOp.mask_set GOp.t_get GOp.t_set GOp.n_get GOp.n_set GOp.name_get GOp.name_set Store.length_enc Store.ok_enc Store.all_get Store.all_set Store.names_get Store.names_set Store.rels_get Store.rels_set GRel.length_enc GRel.ok_enc GRel.all_get GRel.all_set GRel.arity_get GRel.arity_set GRel.masks_get GRel.masks_set GRel.rows_get GRel.rows_set Row.length_enc Row.ok_enc Row.all_get Row.all_set Row.t_get Row.t_set Row.mark_get Row.mark_set View.length_enc View.ok_enc View.all_get View.all_set View.names_get View.names_set View.rels_get View.rels_set Symtab.length_enc Symtab.ok_enc Symtab.all_get Symtab.all_set Symtab.names_get Symtab.names_set Symtab.table_get Symtab.table_set StoreTuplestore.length_enc StoreTuplestore.ok_enc StoreTuplestore.all_get StoreTuplestore.all_set StoreTuplestore.syms_get StoreTuplestore.syms_set StoreTuplestore.rels_get StoreTuplestore.rels_set StoreTuplestore.syms_names_get StoreTuplestore.syms_names_set StoreTuplestore.syms_table_get StoreTuplestore.syms_table_set Relation.length_enc Relation.ok_enc Relation.all_get Relation.all_set Relation.arity_get Relation.arity_set Relation.slots_get Relation.slots_set Relation.live_get Relation.live_set Relation.idx_get Relation.idx_set Slot.length_enc Slot.ok_enc Slot.all_get Slot.all_set Slot.t_get Slot.t_set Slot.mark_get Slot.mark_set Slot.live_get Slot.live_set RelView.length_enc RelView.ok_enc RelView.all_get RelView.all_set RelView.arity_get RelView.arity_set RelView.rows_get RelView.rows_set RelView.marks_get RelView.marks_set RelView.indexed_get RelView.indexed_set Index.length_enc Index.ok_enc Index.all_get Index.all_set Index.mask_get Index.mask_set Index.heads_get Index.heads_set Index.next_get Index.next_set
attribute [local go_sem] size_put size_ext blk_put free_put blk_alloc free_alloc blk_drew free_drew blk_ext free_ext lookOr_some putOr_some segAt_some cellAt_some storeIn_some put_put put_alloc_new length_arr ok_arr_u8 ok_arr_u32 ok_arr_u64 ok_arr_i64 ok_arr_sl cellsV_agg cellsV_int cellsV_bool cellsV_string cellsV_pointer cellsV_slice cellsV_sl ok_int ok_bool ok_string ok_pointer ok_slice ok_sl toList_arr seg_arr set_arr nth_splice nth_splice0 seg_splice seg_splice0 splice_splice splice_splice0 length_splice_if
attribute [local go_sem ↓] execOp_box
attribute [local go_sem] box_run nth_arr_u8 put_arr_u8 blk_drewN free_drewN put_drewN blk_raw free_raw
theorem wrow_at {W : World} {wa : Option Addr} {wn : Nat} {L : List (Tup × Int)} (h : Rw encW 5 W wa wn L) {n : Nat} {r : Tup × Int} (hs : L[n]? = some r) : ∃ gs Cs, wa = some ⟨gs, 0, none⟩ ∧ blk W gs = some Cs ∧ n * 5 + 5 ≤ Cs.length ∧ n < wn ∧ seg Cs (n * 5) 4 = arr i64v r.1 ∧ nth Cs (n * 5 + 4) = some (.int .i64 r.2) ∧ seg Cs (n * 5) 5 = Row.enc ⟨r.1, r.2⟩ := by
  obtain ⟨gs, Cs, h1, h2, h3, h4⟩ := h.2 n r hs
  have hn : n < wn := by rw [← h.1]; exact (List.getElem?_eq_some_iff.1 hs).1
  have : (n + 1) * 5 ≤ wn * 5 := Nat.mul_le_mul_right _ hn
  refine ⟨gs, Cs, h1, h2, by omega, hn, ?_, nth_in (j := 4) h4 (Row.mark_get ⟨r.1, r.2⟩) (by omega), h4⟩
  have := seg_in (p := 0) (m := 4) h4 (by omega)
  rw [Nat.add_zero] at this
  rw [this]; exact Row.t_get ⟨r.1, r.2⟩
def whR (L : List (Tup × Int)) (t : Tup) : Int := if t ∈ L.map (·.1) then ((L.map (·.1)).idxOf t : Int) else -1
def whI (W0 : World) (bm id b5 wn : Nat) (L : List (Tup × Int)) (t : Tup) (f : Nat → Value) (W : World) : Prop := f 0 = .pointer (some ⟨bm, 0, none⟩) ∧ f 1 = .int .i64 (id : Int) ∧ f 5 = .pointer (some ⟨b5, 0, none⟩) ∧ Hid (∃ k, W = W0.drewN k) ∧ ∃ i : Nat, i ≤ wn ∧ f 7 = .int .i64 (i : Nat) ∧ Hid (∀ j, j < i → (L.map (·.1))[j]? ≠ some t)
attribute [local go_sem] v_len v_ok v_n0 v_n1 v_s0 v_s1 v_all v_put eql39 neq39
attribute [local go_sem ↓] execOp_eql39 execOp_neq39
set_option maxRecDepth 100000 in
theorem frame36 (f : Nat → Value) : frameN 36 f = #[f 0, f 1, f 2, f 3, f 4, f 5, f 6, f 7, f 8, f 9, f 10, f 11, f 12, f 13, f 14, f 15, f 16, f 17, f 18, f 19, f 20, f 21, f 22, f 23, f 24, f 25, f 26, f 27, f 28, f 29, f 30, f 31, f 32, f 33, f 34, f 35] := by kernel_rfl
set_option maxRecDepth 20000 in
set_option maxHeartbeats 4000000 in
theorem where_any (B : Nat) (O : Own) (W : World) (bm : Nat) (sm : StS) (h : MAt B O W bm sm) (hm : MSm sm) (n : Nat) (s : RelS) (hs : sm.rels[n]? = some s) (t : Tup) : Calls Try.prog 26 #[.pointer (some ⟨bm, 0, none⟩), .int .i64 (n : Int), .agg (arr i64v t).toArray] W fun e W' => e = .returned (.int .i64 (whR (rowsOf s.L) t)) ∧ W.Extends W' := by
  have hsm := hm.rel s (List.mem_of_getElem? hs)
  have HM := hid_of h
  have HSS := hid_of hs
  obtain ⟨L, hL⟩ : ∃ L, L = rowsOf s.L := ⟨_, rfl⟩
  rw [← hL] at hsm ⊢
  have HLL := hid_of hL
  obtain ⟨res, hres⟩ : ∃ res, res = whR L t := ⟨_, rfl⟩
  rw [← hres]
  have HRES := hid_of hres
  clear hres hm hs hL h
  go_enter Try.func26, Try.ntmps26
  go_upto_region 1 with fail
  refine wp_world (fun W0 => blk W0 W.heap.size = some (arr i64v t) ∧ W.Extends W0) ⟨?_, extends_alloc (ext_Ext (Ext.refl _)) _⟩ ?_
  · rw [blk_alloc, if_pos rfl]
  rintro W1 ⟨hb5, hx1⟩
  obtain ⟨b5, e5⟩ : ∃ b5, b5 = W.heap.size := ⟨_, rfl⟩
  rw [← e5] at hb5 ⊢
  have HX := hid_of hx1
  obtain ⟨na, nn, nc, gr, rn, rc, Cr, ka, kn, kc, wa, wn, wc, ho, _, _⟩ := mat_open (HM.out.ext hx1) HSS.out
  obtain ⟨hb, hnn, hrn, hn, hC, hl, c0, c1, c2, hk, hw⟩ := ho
  rw [← HLL.out] at hw
  have hwn : wn ≤ 512 := by rw [← hw.1]; exact hsm.2.1
  have HW := hid_of hw
  have d1 : n * 3 + 2 + 1 ≤ Cr.length := by omega
  have d2 : n * 3 < Cr.length := by omega
  have q0 : (0 : Int) ≤ (n : Int) := by omega
  have q1 : (n : Int) < (rn : Int) := by omega
  have q2 : ((n : Int)).toNat = n := by omega
  have HKM : Hid (blk W1 bm = some (vE na nn nc (some ⟨gr, 0, none⟩) rn rc) ∧ blk W1 gr = some Cr ∧ blk W1 b5 = some (arr i64v t)) := ⟨hb, hC, hb5⟩
  clear e5 hx1 hnn hrn hn c0 c1 hk hw hsm hb hC hb5
  go_wp2_with fail
  have HK0 : Hid (∃ k, W1 = W1.drewN k) := ⟨0, rfl⟩
  refine wp_loop_f 36 (whI W1 bm n b5 wn L t) (fun f _ => wn - (intOf (f 7)).toNat) rfl ⟨rfl, rfl, rfl, HK0, 0, by omega, rfl, fun j h => absurd h (Nat.not_lt_zero _)⟩ ?_
  clear HK0
  intro F V hrel
  obtain ⟨f0, f1, f5, HK, i, hi, f7, HQ⟩ := hrel
  have H7 := hid_of f7
  rw [frame36, f0, f1, f5, f7]
  clear f0 f1 f5 f7
  obtain ⟨k0, hV⟩ := HK.out
  have hb : blk V bm = some (vE na nn nc (some ⟨gr, 0, none⟩) rn rc) := by rw [hV, blk_drewN]; exact HKM.out.1
  have hC : blk V gr = some Cr := by rw [hV, blk_drewN]; exact HKM.out.2.1
  have hb5 : blk V b5 = some (arr i64v t) := by rw [hV, blk_drewN]; exact HKM.out.2.2
  by_cases hin : i < wn
  · have hin' : (i : Int) < (wn : Int) := by omega
    obtain ⟨r, hr⟩ : ∃ r, L[i]? = some r := ⟨_, List.getElem?_eq_getElem (by rw [HW.out.1]; exact hin)⟩
    obtain ⟨bn, Cn, rfl, hCn, hcn, _, un, _, _⟩ := wrow_at (HW.out.drewN k0) hr
    rw [← hV] at hCn
    have p0 : (0 : Int) ≤ (i : Int) := by omega
    have p2 : ((i : Int)).toNat = i := by omega
    have p4 : i * 5 + 4 ≤ Cn.length := by omega
    have p5 : i * 5 < Cn.length := by omega
    have hxi : (L.map (·.1))[i]? = some r.1 := by rw [List.getElem?_map, hr]; rfl
    obtain ⟨x, hx⟩ : ∃ x, x = r.1 := ⟨_, rfl⟩
    rw [← hx] at un hxi
    have HK' : Hid (∃ k, V.drew = W1.drewN k) := ⟨k0 + 1, by rw [hV]; rfl⟩
    have HXE : Hid (W.Extends V.drew) := by show W.Extends V.drew; rw [hV]; exact extends_drew (extends_drewN HX.out _)
    by_cases he : x = t
    · have hrs : res = (i : Int) := by
        rw [HRES.out]
        unfold whR
        subst he
        rw [if_pos (List.mem_of_getElem? hxi), first_at HQ.out hxi]
      subst he
      have htt : decide (x = x) = true := by simp
      clear HQ hx hr hxi HRES hV HK HK'
      subst hrs
      go_upto_region 4 with fail
      refine wp_region_held_drew (S := fun W' => blk W' bm = some (vE na nn nc (some ⟨gr, 0, none⟩) rn rc) ∧ blk W' gr = some Cr ∧ blk W' b5 = some (arr i64v x) ∧ blk W' bn = some Cn) (by kernel_rfl) ⟨hb, hC, hb5, hCn⟩ (fun hHeld => ?_)
      refine wpAnyH_take (i := 0) (oi := ⟨_, _, _, _, _, _⟩) (v := ?_) rfl (by kernel_rfl) (by kernel_rfl) (by kernel_rfl) (fun _ _ _ h => h) (Or.inl ⟨by rfl, ?_⟩) (by assumption) ?_
      rotate_left 1
      · intro W' hSw
        obtain ⟨hS1, hS2, hS3, hS4⟩ := hSw
        go_simp
        try with_reducible rfl
      try simp only [Act.put, List.setIfInBounds_toArray, List.set_cons_zero, List.set_cons_succ]
      refine wpAnyH_take (i := 1) (oi := ⟨_, _, _, _, _, _⟩) (v := ?_) rfl (by kernel_rfl) (by kernel_rfl) (by kernel_rfl) (fun _ _ _ h => h) (Or.inl ⟨by rfl, ?_⟩) (by assumption) ?_
      rotate_left 1
      · intro W' hSw
        obtain ⟨hS1, hS2, hS3, hS4⟩ := hSw
        go_simp
        try with_reducible rfl
      try simp only [Act.put, List.setIfInBounds_toArray, List.set_cons_zero, List.set_cons_succ]
      refine wpAnyH_take (i := 2) (oi := ⟨_, _, _, _, _, _⟩) (v := ?_) rfl (by kernel_rfl) (by kernel_rfl) (by kernel_rfl) (fun _ _ _ h => h) (Or.inl ⟨by rfl, ?_⟩) (by assumption) ?_
      rotate_left 1
      · intro W' hSw
        obtain ⟨hS1, hS2, hS3, hS4⟩ := hSw
        go_simp
        try with_reducible rfl
      try simp only [Act.put, List.setIfInBounds_toArray, List.set_cons_zero, List.set_cons_succ]
      refine wpAnyH_take (i := 3) (oi := ⟨_, _, _, _, _, _⟩) (v := ?_) rfl (by kernel_rfl) (by kernel_rfl) (by kernel_rfl) (fun _ _ _ h => h) (Or.inl ⟨by rfl, ?_⟩) (by assumption) ?_
      rotate_left 1
      · intro W' hSw
        obtain ⟨hS1, hS2, hS3, hS4⟩ := hSw
        go_simp
        try with_reducible rfl
      try simp only [Act.put, List.setIfInBounds_toArray, List.set_cons_zero, List.set_cons_succ]
      refine wpAnyH_take (i := 4) (oi := ⟨_, _, _, _, _, _⟩) (v := ?_) rfl (by kernel_rfl) (by kernel_rfl) (by kernel_rfl) (fun _ _ _ h => h) (Or.inl ⟨by rfl, ?_⟩) (by assumption) ?_
      rotate_left 1
      · intro W' hSw
        obtain ⟨hS1, hS2, hS3, hS4⟩ := hSw
        go_simp
        try with_reducible rfl
      try simp only [Act.put, List.setIfInBounds_toArray, List.set_cons_zero, List.set_cons_succ]
      refine wpAnyH_take (i := 5) (oi := ⟨_, _, _, _, _, _⟩) (v := ?_) rfl (by kernel_rfl) (by kernel_rfl) (by kernel_rfl) (fun _ _ _ h => h) (Or.inl ⟨by rfl, ?_⟩) (by assumption) ?_
      rotate_left 1
      · intro W' hSw
        obtain ⟨hS1, hS2, hS3, hS4⟩ := hSw
        go_simp
        try with_reducible rfl
      try simp only [Act.put, List.setIfInBounds_toArray, List.set_cons_zero, List.set_cons_succ]
      refine wpAnyH_take (i := 6) (oi := ⟨_, _, _, _, _, _⟩) (v := ?_) rfl (by kernel_rfl) (by kernel_rfl) (by kernel_rfl) (fun _ _ _ h => h) (Or.inl ⟨by rfl, ?_⟩) (by assumption) ?_
      rotate_left 1
      · intro W' hSw
        obtain ⟨hS1, hS2, hS3, hS4⟩ := hSw
        go_simp
        try with_reducible rfl
      try simp only [Act.put, List.setIfInBounds_toArray, List.set_cons_zero, List.set_cons_succ]
      refine wpAnyH_take (i := 7) (oi := ⟨_, _, _, _, _, _⟩) (v := ?_) rfl (by kernel_rfl) (by kernel_rfl) (by kernel_rfl) (fun _ _ _ h => h) (Or.inl ⟨by rfl, ?_⟩) (by assumption) ?_
      rotate_left 1
      · intro W' hSw
        obtain ⟨hS1, hS2, hS3, hS4⟩ := hSw
        go_simp
        try with_reducible rfl
      try simp only [Act.put, List.setIfInBounds_toArray, List.set_cons_zero, List.set_cons_succ]
      refine wpAnyH_take (i := 8) (oi := ⟨_, _, _, _, _, _⟩) (v := ?_) rfl (by kernel_rfl) (by kernel_rfl) (by kernel_rfl) (fun _ _ _ h => h) (Or.inl ⟨by rfl, ?_⟩) (by assumption) ?_
      rotate_left 1
      · intro W' hSw
        obtain ⟨hS1, hS2, hS3, hS4⟩ := hSw
        go_simp
        try with_reducible rfl
      try simp only [Act.put, List.setIfInBounds_toArray, List.set_cons_zero, List.set_cons_succ]
      refine wpAnyH_take (i := 9) (oi := ⟨_, _, _, _, _, _⟩) (v := ?_) rfl (by kernel_rfl) (by kernel_rfl) (by kernel_rfl) (fun _ _ _ h => h) (Or.inl ⟨by rfl, ?_⟩) (by assumption) ?_
      rotate_left 1
      · intro W' hSw
        obtain ⟨hS1, hS2, hS3, hS4⟩ := hSw
        go_simp
        try with_reducible rfl
      try simp only [Act.put, List.setIfInBounds_toArray, List.set_cons_zero, List.set_cons_succ]
      refine wpAnyH_take (i := 10) (oi := ⟨_, _, _, _, _, _⟩) (v := ?_) rfl (by kernel_rfl) (by kernel_rfl) (by kernel_rfl) (fun _ _ _ h => h) (Or.inl ⟨by rfl, ?_⟩) (by assumption) ?_
      rotate_left 1
      · intro W' hSw
        obtain ⟨hS1, hS2, hS3, hS4⟩ := hSw
        go_simp
        try with_reducible rfl
      try simp only [Act.put, List.setIfInBounds_toArray, List.set_cons_zero, List.set_cons_succ]
      refine wpAnyH_take (i := 11) (oi := ⟨_, _, _, _, _, _⟩) (v := ?_) rfl (by kernel_rfl) (by kernel_rfl) (by kernel_rfl) (fun _ _ _ h => h) (Or.inl ⟨by rfl, ?_⟩) (by assumption) ?_
      rotate_left 1
      · intro W' hSw
        obtain ⟨hS1, hS2, hS3, hS4⟩ := hSw
        go_simp
        try with_reducible rfl
      try simp only [Act.put, List.setIfInBounds_toArray, List.set_cons_zero, List.set_cons_succ]
      refine wpAnyH_take (i := 12) (oi := ⟨_, _, _, _, _, _⟩) (v := ?_) rfl (by kernel_rfl) (by kernel_rfl) (by kernel_rfl) (fun _ _ _ h => h) (Or.inl ⟨by rfl, ?_⟩) (by assumption) ?_
      rotate_left 1
      · intro W' hSw
        obtain ⟨hS1, hS2, hS3, hS4⟩ := hSw
        go_simp
        try with_reducible rfl
      try simp only [Act.put, List.setIfInBounds_toArray, List.set_cons_zero, List.set_cons_succ]
      refine wpAnyH_take (i := 13) (oi := ⟨_, _, _, _, _, _⟩) (v := ?_) rfl (by kernel_rfl) (by kernel_rfl) (by kernel_rfl) (fun _ _ _ h => h) (Or.inl ⟨by rfl, ?_⟩) (by assumption) ?_
      rotate_left 1
      · intro W' hSw
        obtain ⟨hS1, hS2, hS3, hS4⟩ := hSw
        go_simp
        try with_reducible rfl
      try simp only [Act.put, List.setIfInBounds_toArray, List.set_cons_zero, List.set_cons_succ]
      refine wpAnyH_done (by kernel_rfl) ?_ _
      go_wp2_with fail
      go_ret
      exact ⟨rfl, HXE.out⟩
    · have HQ' : Hid (∀ j, j < i + 1 → (L.map (·.1))[j]? ≠ some t) := by
        intro j h1
        by_cases h3 : j = i
        · subst h3
          rw [hxi]
          intro e; exact he (Option.some.inj e)
        · exact HQ.out j (by omega)
      have hde : decide (x = t) = false := decide_eq_false he
      clear HQ hx hr hxi hV HK HXE
      go_upto_region 4 with fail
      refine wp_region_held_drew (S := fun W' => blk W' bm = some (vE na nn nc (some ⟨gr, 0, none⟩) rn rc) ∧ blk W' gr = some Cr ∧ blk W' b5 = some (arr i64v t) ∧ blk W' bn = some Cn) (by kernel_rfl) ⟨hb, hC, hb5, hCn⟩ (fun hHeld => ?_)
      refine wpAnyH_take (i := 0) (oi := ⟨_, _, _, _, _, _⟩) (v := ?_) rfl (by kernel_rfl) (by kernel_rfl) (by kernel_rfl) (fun _ _ _ h => h) (Or.inl ⟨by rfl, ?_⟩) (by assumption) ?_
      rotate_left 1
      · intro W' hSw
        obtain ⟨hS1, hS2, hS3, hS4⟩ := hSw
        go_simp
        try with_reducible rfl
      try simp only [Act.put, List.setIfInBounds_toArray, List.set_cons_zero, List.set_cons_succ]
      refine wpAnyH_take (i := 1) (oi := ⟨_, _, _, _, _, _⟩) (v := ?_) rfl (by kernel_rfl) (by kernel_rfl) (by kernel_rfl) (fun _ _ _ h => h) (Or.inl ⟨by rfl, ?_⟩) (by assumption) ?_
      rotate_left 1
      · intro W' hSw
        obtain ⟨hS1, hS2, hS3, hS4⟩ := hSw
        go_simp
        try with_reducible rfl
      try simp only [Act.put, List.setIfInBounds_toArray, List.set_cons_zero, List.set_cons_succ]
      refine wpAnyH_take (i := 2) (oi := ⟨_, _, _, _, _, _⟩) (v := ?_) rfl (by kernel_rfl) (by kernel_rfl) (by kernel_rfl) (fun _ _ _ h => h) (Or.inl ⟨by rfl, ?_⟩) (by assumption) ?_
      rotate_left 1
      · intro W' hSw
        obtain ⟨hS1, hS2, hS3, hS4⟩ := hSw
        go_simp
        try with_reducible rfl
      try simp only [Act.put, List.setIfInBounds_toArray, List.set_cons_zero, List.set_cons_succ]
      refine wpAnyH_take (i := 3) (oi := ⟨_, _, _, _, _, _⟩) (v := ?_) rfl (by kernel_rfl) (by kernel_rfl) (by kernel_rfl) (fun _ _ _ h => h) (Or.inl ⟨by rfl, ?_⟩) (by assumption) ?_
      rotate_left 1
      · intro W' hSw
        obtain ⟨hS1, hS2, hS3, hS4⟩ := hSw
        go_simp
        try with_reducible rfl
      try simp only [Act.put, List.setIfInBounds_toArray, List.set_cons_zero, List.set_cons_succ]
      refine wpAnyH_take (i := 4) (oi := ⟨_, _, _, _, _, _⟩) (v := ?_) rfl (by kernel_rfl) (by kernel_rfl) (by kernel_rfl) (fun _ _ _ h => h) (Or.inl ⟨by rfl, ?_⟩) (by assumption) ?_
      rotate_left 1
      · intro W' hSw
        obtain ⟨hS1, hS2, hS3, hS4⟩ := hSw
        go_simp
        try with_reducible rfl
      try simp only [Act.put, List.setIfInBounds_toArray, List.set_cons_zero, List.set_cons_succ]
      refine wpAnyH_take (i := 5) (oi := ⟨_, _, _, _, _, _⟩) (v := ?_) rfl (by kernel_rfl) (by kernel_rfl) (by kernel_rfl) (fun _ _ _ h => h) (Or.inl ⟨by rfl, ?_⟩) (by assumption) ?_
      rotate_left 1
      · intro W' hSw
        obtain ⟨hS1, hS2, hS3, hS4⟩ := hSw
        go_simp
        try with_reducible rfl
      try simp only [Act.put, List.setIfInBounds_toArray, List.set_cons_zero, List.set_cons_succ]
      refine wpAnyH_take (i := 6) (oi := ⟨_, _, _, _, _, _⟩) (v := ?_) rfl (by kernel_rfl) (by kernel_rfl) (by kernel_rfl) (fun _ _ _ h => h) (Or.inl ⟨by rfl, ?_⟩) (by assumption) ?_
      rotate_left 1
      · intro W' hSw
        obtain ⟨hS1, hS2, hS3, hS4⟩ := hSw
        go_simp
        try with_reducible rfl
      try simp only [Act.put, List.setIfInBounds_toArray, List.set_cons_zero, List.set_cons_succ]
      refine wpAnyH_take (i := 7) (oi := ⟨_, _, _, _, _, _⟩) (v := ?_) rfl (by kernel_rfl) (by kernel_rfl) (by kernel_rfl) (fun _ _ _ h => h) (Or.inl ⟨by rfl, ?_⟩) (by assumption) ?_
      rotate_left 1
      · intro W' hSw
        obtain ⟨hS1, hS2, hS3, hS4⟩ := hSw
        go_simp
        try with_reducible rfl
      try simp only [Act.put, List.setIfInBounds_toArray, List.set_cons_zero, List.set_cons_succ]
      refine wpAnyH_take (i := 8) (oi := ⟨_, _, _, _, _, _⟩) (v := ?_) rfl (by kernel_rfl) (by kernel_rfl) (by kernel_rfl) (fun _ _ _ h => h) (Or.inl ⟨by rfl, ?_⟩) (by assumption) ?_
      rotate_left 1
      · intro W' hSw
        obtain ⟨hS1, hS2, hS3, hS4⟩ := hSw
        go_simp
        try with_reducible rfl
      try simp only [Act.put, List.setIfInBounds_toArray, List.set_cons_zero, List.set_cons_succ]
      refine wpAnyH_take (i := 9) (oi := ⟨_, _, _, _, _, _⟩) (v := ?_) rfl (by kernel_rfl) (by kernel_rfl) (by kernel_rfl) (fun _ _ _ h => h) (Or.inl ⟨by rfl, ?_⟩) (by assumption) ?_
      rotate_left 1
      · intro W' hSw
        obtain ⟨hS1, hS2, hS3, hS4⟩ := hSw
        go_simp
        try with_reducible rfl
      try simp only [Act.put, List.setIfInBounds_toArray, List.set_cons_zero, List.set_cons_succ]
      refine wpAnyH_take (i := 10) (oi := ⟨_, _, _, _, _, _⟩) (v := ?_) rfl (by kernel_rfl) (by kernel_rfl) (by kernel_rfl) (fun _ _ _ h => h) (Or.inl ⟨by rfl, ?_⟩) (by assumption) ?_
      rotate_left 1
      · intro W' hSw
        obtain ⟨hS1, hS2, hS3, hS4⟩ := hSw
        go_simp
        try with_reducible rfl
      try simp only [Act.put, List.setIfInBounds_toArray, List.set_cons_zero, List.set_cons_succ]
      refine wpAnyH_take (i := 11) (oi := ⟨_, _, _, _, _, _⟩) (v := ?_) rfl (by kernel_rfl) (by kernel_rfl) (by kernel_rfl) (fun _ _ _ h => h) (Or.inl ⟨by rfl, ?_⟩) (by assumption) ?_
      rotate_left 1
      · intro W' hSw
        obtain ⟨hS1, hS2, hS3, hS4⟩ := hSw
        go_simp
        try with_reducible rfl
      try simp only [Act.put, List.setIfInBounds_toArray, List.set_cons_zero, List.set_cons_succ]
      refine wpAnyH_take (i := 12) (oi := ⟨_, _, _, _, _, _⟩) (v := ?_) rfl (by kernel_rfl) (by kernel_rfl) (by kernel_rfl) (fun _ _ _ h => h) (Or.inl ⟨by rfl, ?_⟩) (by assumption) ?_
      rotate_left 1
      · intro W' hSw
        obtain ⟨hS1, hS2, hS3, hS4⟩ := hSw
        go_simp
        try with_reducible rfl
      try simp only [Act.put, List.setIfInBounds_toArray, List.set_cons_zero, List.set_cons_succ]
      refine wpAnyH_take (i := 13) (oi := ⟨_, _, _, _, _, _⟩) (v := ?_) rfl (by kernel_rfl) (by kernel_rfl) (by kernel_rfl) (fun _ _ _ h => h) (Or.inl ⟨by rfl, ?_⟩) (by assumption) ?_
      rotate_left 1
      · intro W' hSw
        obtain ⟨hS1, hS2, hS3, hS4⟩ := hSw
        go_simp
        try with_reducible rfl
      try simp only [Act.put, List.setIfInBounds_toArray, List.set_cons_zero, List.set_cons_succ]
      refine wpAnyH_done (by kernel_rfl) ?_ _
      go_wp2_with fail
      refine ⟨rfl, rfl, ⟨rfl, rfl, rfl, HK', i + 1, by omega, ?_, HQ'⟩, ?_⟩
      · show Value.int .i64 _ = _
        go_num
      · show wn - (intOf (Value.int .i64 _)).toNat < wn - (intOf (F 7)).toNat
        rw [H7.out]
        simp [intOf]; omega
  · obtain rfl : i = wn := by omega
    have hin' : ¬ ((i : Int) < (i : Int)) := by omega
    have hrs : res = -1 := by
      rw [HRES.out]
      unfold whR
      rw [if_neg (fun h => ?_)]
      obtain ⟨j, hj⟩ := List.mem_iff_getElem?.1 h
      exact HQ.out j (by rw [← HW.out.1]; have := (List.getElem?_eq_some_iff.1 hj).1; rw [List.length_map] at this; exact this) hj
    have HXE : Hid (W.Extends V) := by show W.Extends V; rw [hV]; exact extends_drewN HX.out _
    clear HQ HRES hV HK
    subst hrs
    go_wp2_with fail
    go_ret
    exact ⟨rfl, HXE.out⟩
def crI (W0 : World) (bm id b5 ar nn : Nat) (t : Tup) (f : Nat → Value) (W : World) : Prop := f 0 = .pointer (some ⟨bm, 0, none⟩) ∧ f 1 = .int .i64 (id : Int) ∧ f 5 = .pointer (some ⟨b5, 0, none⟩) ∧ W = W0 ∧ ∃ c : Nat, c ≤ 4 ∧ f 7 = .int .i64 (c : Nat) ∧ Hid (∀ c', c' < c → c' < ar → knowsF nn (tg t c') = true)
def crJ (W0 : World) (bm id b5 ar : Nat) (t : Tup) (f : Nat → Value) (W : World) : Prop := f 0 = .pointer (some ⟨bm, 0, none⟩) ∧ f 1 = .int .i64 (id : Int) ∧ f 5 = .pointer (some ⟨b5, 0, none⟩) ∧ W = W0 ∧ ∃ c : Nat, c ≤ 4 ∧ f 8 = .int .i64 (c : Nat) ∧ Hid (∀ c', c' < c → ar ≤ c' → tg t c' = 0)
set_option maxRecDepth 100000 in
theorem frame55 (f : Nat → Value) : frameN 55 f = #[f 0, f 1, f 2, f 3, f 4, f 5, f 6, f 7, f 8, f 9, f 10, f 11, f 12, f 13, f 14, f 15, f 16, f 17, f 18, f 19, f 20, f 21, f 22, f 23, f 24, f 25, f 26, f 27, f 28, f 29, f 30, f 31, f 32, f 33, f 34, f 35, f 36, f 37, f 38, f 39, f 40, f 41, f 42, f 43, f 44, f 45, f 46, f 47, f 48, f 49, f 50, f 51, f 52, f 53, f 54] := by kernel_rfl
set_option maxRecDepth 20000 in
set_option maxHeartbeats 4000000 in
theorem checkRow_any (B : Nat) (O : Own) (W : World) (bm : Nat) (sm : StS) (h : MAt B O W bm sm) (hm : MSm sm) (id : Int) (t : Tup) : Calls Try.prog 53 #[.pointer (some ⟨bm, 0, none⟩), .int .i64 id, .agg (arr i64v t).toArray] W fun e W' => e = .returned (.int .i64 (rowCode sm id t)) ∧ W.Extends W' := by
  have HM := hid_of h
  by_cases hid : 0 ≤ id ∧ id < (sm.rels.length : Int)
  rotate_left 1
  · have e : rowCode sm id t = 7 := by unfold rowCode; rw [relF_none hid]
    rw [e]
    have HI := hid_of hid
    clear e hid hm h
    go_enter Try.func53, Try.ntmps53
    go_upto_region 1 with fail
    refine wp_world (fun W0 => W.Extends W0) (extends_alloc (ext_Ext (Ext.refl _)) _) ?_
    intro W1 hx1
    have hr := mrel_no (HM.out.ext hx1) HI.out
    have HX := hid_of hx1
    clear hx1
    go_wp2_with fail
    refine hr.mono ?_
    rintro e W2 ⟨rfl, rfl⟩
    dsimp only
    go_wp2_with fail
    go_ret
    exact ⟨rfl, HX.out⟩
  have HI := hid_of hid
  obtain ⟨n, rfl⟩ : ∃ n : Nat, id = (n : Int) := ⟨id.toNat, by omega⟩
  obtain ⟨s, hs⟩ : ∃ s, sm.rels[n]? = some s := ⟨_, List.getElem?_eq_getElem (by omega)⟩
  have har4 := (hm.rel s (List.mem_of_getElem? hs)).1
  have e : rowCode sm (n : Int) t = rowC sm.names.length s.ar t := by unfold rowCode; rw [relF_some hs]
  rw [e]
  have HSS := hid_of hs
  obtain ⟨ar, har⟩ : ∃ ar, ar = s.ar := ⟨_, rfl⟩
  rw [← har] at har4 ⊢
  have HAR := hid_of har
  obtain ⟨res, hres⟩ : ∃ res, res = rowC sm.names.length ar t := ⟨_, rfl⟩
  rw [← hres]
  have HRES := hid_of hres
  clear e hid hm h hs har hres
  go_enter Try.func53, Try.ntmps53
  go_upto_region 1 with fail
  refine wp_world (fun W0 => blk W0 W.heap.size = some (arr i64v t) ∧ W.Extends W0) ⟨?_, extends_alloc (ext_Ext (Ext.refl _)) _⟩ ?_
  · rw [blk_alloc, if_pos rfl]
  rintro W1 ⟨hb5, hx1⟩
  obtain ⟨b5, e5⟩ : ∃ b5, b5 = W.heap.size := ⟨_, rfl⟩
  rw [← e5] at hb5 ⊢
  have HX := hid_of hx1
  have HM1 := hid_of (HM.out.ext hx1)
  have hr := mrel_ok HM1.out HI.out
  obtain ⟨na, nn, nc, gr, rn, rc, Cr, ka, kn, kc, wa, wn, wc, ho, _, _⟩ := mat_open HM1.out HSS.out
  obtain ⟨hb, hnn, hrn, hn, hC, hl, c0, c1, c2, hk, hw⟩ := ho
  rw [← HAR.out] at c0
  have d1 : n * 3 + 1 ≤ Cr.length := by omega
  have d2 : n * 3 < Cr.length := by omega
  have q0 : (0 : Int) ≤ (n : Int) := by omega
  have q1 : (n : Int) < (rn : Int) := by omega
  have q2 : ((n : Int)).toNat = n := by omega
  clear e5 hx1 hnn hrn hn c1 c2 hk hw
  go_wp2_with fail
  refine hr.mono ?_
  rintro e W2 ⟨rfl, rfl⟩
  clear hr
  dsimp only
  go_wp2_with fail
  refine wp_loop_f 55 (crI W2 bm n b5 ar sm.names.length t) (fun f _ => 4 - (intOf (f 7)).toNat) rfl ⟨rfl, rfl, rfl, rfl, 0, by omega, rfl, fun j h => absurd h (Nat.not_lt_zero _)⟩ ?_
  intro F V hrel
  obtain ⟨f0, f1, f5, rfl, c, hc, f7, HQ⟩ := hrel
  have H7 := hid_of f7
  rw [frame55, f0, f1, f5, f7]
  clear f0 f1 f5 f7
  by_cases hc4 : c < 4
  · have hc4' : (c : Int) < 4 := by omega
    have hcn : nth (arr i64v t) c = some (.int .i64 (tg t c)) := nth_t t c hc4
    obtain ⟨tc2, htc2⟩ : ∃ tc2, tc2 = tg t c := ⟨_, rfl⟩
    rw [← htc2] at hcn
    have p0 : (0 : Int) ≤ (c : Int) := by omega
    have p2 : ((c : Int)).toNat = c := by omega
    have p3 : c + 1 ≤ 4 := by omega
    have hsy := symOK_any B O V bm sm HM1.out tc2
    by_cases hca : c < ar
    · have hca' : (c : Int) < (ar : Int) := by omega
      by_cases hkn : knowsF sm.names.length tc2 = true
      · have HQ' : Hid (∀ c', c' < c + 1 → c' < ar → knowsF sm.names.length (tg t c') = true) := by
          intro c' h1 h2
          by_cases h3 : c' = c
          · subst h3; rw [← htc2]; exact hkn
          · exact HQ.out c' (by omega) h2
        rw [hkn] at hsy
        clear HQ htc2 hkn
        go_wp2_with fail
        refine hsy.mono ?_
        rintro e V2 ⟨rfl, rfl⟩
        dsimp only
        go_wp2_with fail
        refine ⟨rfl, rfl, ⟨rfl, rfl, rfl, rfl, c + 1, by omega, ?_, HQ'⟩, ?_⟩
        · show Value.int .i64 _ = _
          go_num
        · show 4 - (intOf (Value.int .i64 _)).toNat < 4 - (intOf (F 7)).toNat
          rw [H7.out]
          simp [intOf]; omega
      · have hrs : res = 10 := by
          rw [HRES.out]
          unfold rowC
          rw [if_neg (fun h => hkn (by rw [htc2]; exact h c hca))]
        rw [Bool.eq_false_iff.2 hkn] at hsy
        clear HQ htc2 hkn HRES
        subst hrs
        go_wp2_with fail
        refine hsy.mono ?_
        rintro e V2 ⟨rfl, rfl⟩
        dsimp only
        go_wp2_with fail
        go_ret
        exact ⟨rfl, HX.out⟩
    · have hca' : ¬ (c : Int) < (ar : Int) := by omega
      have HQ' : Hid (∀ c', c' < c + 1 → c' < ar → knowsF sm.names.length (tg t c') = true) := by
        intro c' h1 h2
        exact HQ.out c' (by omega) h2
      clear HQ htc2 hsy
      go_wp2_with fail
      refine ⟨rfl, rfl, ⟨rfl, rfl, rfl, rfl, c + 1, by omega, ?_, HQ'⟩, ?_⟩
      · show Value.int .i64 _ = _
        go_num
      · show 4 - (intOf (Value.int .i64 _)).toNat < 4 - (intOf (F 7)).toNat
        rw [H7.out]
        simp [intOf]; omega
  have hc4' : ¬ (c : Int) < 4 := by omega
  have HKA : Hid (KnowsAll sm.names.length ar t) := fun c' h => HQ.out c' (by omega) h
  clear HQ hc4 hc H7
  go_wp2_with fail
  refine wp_loop_f 55 (crJ V bm n b5 ar t) (fun f _ => 4 - (intOf (f 8)).toNat) rfl ⟨rfl, rfl, rfl, rfl, 0, by omega, rfl, fun j h => absurd h (Nat.not_lt_zero _)⟩ ?_
  intro F2 V2 hrel
  obtain ⟨f0, f1, f5, rfl, c, hc, f8, HQ⟩ := hrel
  have H8 := hid_of f8
  rw [frame55, f0, f1, f5, f8]
  clear f0 f1 f5 f8
  by_cases hc4 : c < 4
  · have hc4' : (c : Int) < 4 := by omega
    have hcn : nth (arr i64v t) c = some (.int .i64 (tg t c)) := nth_t t c hc4
    obtain ⟨tc2, htc2⟩ : ∃ tc2, tc2 = tg t c := ⟨_, rfl⟩
    rw [← htc2] at hcn
    have p0 : (0 : Int) ≤ (c : Int) := by omega
    have p2 : ((c : Int)).toNat = c := by omega
    have p3 : c + 1 ≤ 4 := by omega
    by_cases hca : ar ≤ c
    · have hca' : (ar : Int) ≤ (c : Int) := by omega
      by_cases hz : tc2 = 0
      · have HQ' : Hid (∀ c', c' < c + 1 → ar ≤ c' → tg t c' = 0) := by
          intro c' h1 h2
          by_cases h3 : c' = c
          · subst h3; rw [← htc2]; exact hz
          · exact HQ.out c' (by omega) h2
        clear HQ htc2
        subst hz
        go_wp2_with fail
        refine ⟨rfl, rfl, ⟨rfl, rfl, rfl, rfl, c + 1, by omega, ?_, HQ'⟩, ?_⟩
        · show Value.int .i64 _ = _
          go_num
        · show 4 - (intOf (Value.int .i64 _)).toNat < 4 - (intOf (F2 8)).toNat
          rw [H8.out]
          simp [intOf]; omega
      · have hrs : res = 8 := by
          rw [HRES.out]
          unfold rowC
          rw [if_pos HKA.out, if_neg (fun h => hz (by rw [htc2]; exact h c hc4 hca))]
        have hzb : (tc2 != 0) = true := by simp [hz]
        have hzc : (tc2 == 0) = false := by simp [hz]
        clear HQ htc2 HRES
        subst hrs
        go_wp2_with fail
        go_ret
        exact ⟨rfl, HX.out⟩
    · have hca' : ¬ (ar : Int) ≤ (c : Int) := by omega
      have HQ' : Hid (∀ c', c' < c + 1 → ar ≤ c' → tg t c' = 0) := by
        intro c' h1 h2
        exact HQ.out c' (by omega) h2
      clear HQ htc2
      go_wp2_with fail
      refine ⟨rfl, rfl, ⟨rfl, rfl, rfl, rfl, c + 1, by omega, ?_, HQ'⟩, ?_⟩
      · show Value.int .i64 _ = _
        go_num
      · show 4 - (intOf (Value.int .i64 _)).toNat < 4 - (intOf (F2 8)).toNat
        rw [H8.out]
        simp [intOf]; omega
  have hc4' : ¬ (c : Int) < 4 := by omega
  have hrs : res = 0 := by
    rw [HRES.out]
    unfold rowC
    have hzp : ZerosPast ar t := fun c' h1 h2 => HQ.out c' (by omega) h2
    rw [if_pos HKA.out, if_pos hzp]
  clear HQ HRES
  subst hrs
  go_wp2_with fail
  go_ret
  exact ⟨rfl, HX.out⟩
end Go.Proofs.Qxb6500789a
