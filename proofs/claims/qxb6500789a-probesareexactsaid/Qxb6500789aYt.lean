import Derived.Test.Qxb6500789aYs
import Derived.StillTailTactics
import Derived.Deep.QuietTactic
import Derived.BigQuiet
import Derived.Deep.RegionHeld
import Derived.Deep.CutRange
import Derived.Laws.ResultCell
import Derived.Laws.Rows
import Derived.DeepKeys
import Derived.DataBytes
import Derived.Laws.StructEq
import Derived.Laws.AppendOwn
import Derived.Laws.MakeOwn
import Derived.Lib.AppendStr
set_option linter.unusedSimpArgs false
set_option linter.unusedVariables false
namespace Go.Proofs.Qxb6500789a
open Go.RowKit Go.Blk
attribute [local go_sem ↓] execOp_load execOp_store execOp_alloc
attribute [local go_sem] Try.ld29 Try.st29 Try.ld3 Try.st3 Try.ld9 Try.st9 Try.ld30 Try.st30 Try.ld34 Try.st34 Try.ld35 Try.st35 Try.ld36 Try.st36 Try.ld37 Try.st37 Try.ld44 Try.st44 Try.ld45 Try.st45 Try.ld54 Try.st54 Try.ld55 Try.st55 Try.ld74 Try.st74 Try.ld80 Try.st80 Try.ld84 Try.st84 Try.ld106 Try.st106 Try.ld107 Try.st107 Try.ld4 Try.st4 Try.ld121 Try.st121 Try.ld2 Try.st2 Try.ld5 Try.st5 Try.ld12 Try.st12 Try.ld21 Try.st21 Try.ld22 Try.st22 Try.ld24 Try.st24 Try.ld26 Try.st26 Try.ld63 Try.st63 Try.ld71 Try.st71 Try.ld103 Try.st103 Try.ld130 Try.st130 Try.ld133 Try.st133 Try.ld140 Try.st140 Try.ld152 Try.st152 Try.ld39 Try.st39 Try.ld32 Try.st32 Try.ld41 Try.st41 Try.ld47 Try.st47 Try.ld57 Try.st57 Try.ld62 Try.st62 Try.ld76 Try.st76 Try.ld82 Try.st82 Try.ld86 Try.st86 Try.ld109 Try.st109 Try.ld115 Try.st115 Try.ld123 Try.st123 Try.ld135 Try.st135 Try.al39 Try.al32 Try.al41 Try.al47 Try.al57 Try.al62 Try.al76 Try.al82 Try.al86 Try.al109 Try.al115 Try.al123 Try.al135
attribute [local go_sem] Answer.length_enc Answer.ok_enc Answer.all_get Answer.all_set Answer.code_get Answer.code_set Answer.n_get Answer.n_set Answer.name_get Answer.name_set Answer.rows_get Answer.rows_set GOp.length_enc GOp.ok_enc GOp.all_get GOp.all_set GOp.kind_get GOp.kind_set GOp.rel_get GOp.rel_set GOp.mask_get GOp.mask_set GOp.t_get GOp.t_set GOp.n_get GOp.n_set GOp.name_get GOp.name_set Store.length_enc Store.ok_enc Store.all_get Store.all_set Store.names_get Store.names_set Store.rels_get Store.rels_set GRel.length_enc GRel.ok_enc GRel.all_get GRel.all_set GRel.arity_get GRel.arity_set GRel.masks_get GRel.masks_set GRel.rows_get GRel.rows_set Row.length_enc Row.ok_enc Row.all_get Row.all_set Row.t_get Row.t_set Row.mark_get Row.mark_set View.length_enc View.ok_enc View.all_get View.all_set View.names_get View.names_set View.rels_get View.rels_set Symtab.length_enc Symtab.ok_enc Symtab.all_get Symtab.all_set Symtab.names_get Symtab.names_set Symtab.table_get Symtab.table_set StoreTuplestore.length_enc StoreTuplestore.ok_enc StoreTuplestore.all_get StoreTuplestore.all_set StoreTuplestore.syms_get StoreTuplestore.syms_set StoreTuplestore.rels_get StoreTuplestore.rels_set StoreTuplestore.syms_names_get StoreTuplestore.syms_names_set StoreTuplestore.syms_table_get StoreTuplestore.syms_table_set Relation.length_enc Relation.ok_enc Relation.all_get Relation.all_set Relation.arity_get Relation.arity_set Relation.slots_get Relation.slots_set Relation.live_get Relation.live_set Relation.idx_get Relation.idx_set Slot.length_enc Slot.ok_enc Slot.all_get Slot.all_set Slot.t_get Slot.t_set Slot.mark_get Slot.mark_set Slot.live_get Slot.live_set RelView.length_enc RelView.ok_enc RelView.all_get RelView.all_set RelView.arity_get RelView.arity_set RelView.rows_get RelView.rows_set RelView.marks_get RelView.marks_set RelView.indexed_get RelView.indexed_set Index.length_enc Index.ok_enc Index.all_get Index.all_set Index.mask_get Index.mask_set Index.heads_get Index.heads_set Index.next_get Index.next_set
attribute [local go_sem] size_put size_ext blk_put free_put blk_alloc free_alloc blk_drew free_drew blk_ext free_ext lookOr_some putOr_some segAt_some cellAt_some storeIn_some put_put put_alloc_new length_arr ok_arr_u8 ok_arr_u32 ok_arr_u64 ok_arr_i64 ok_arr_sl cellsV_agg cellsV_int cellsV_bool cellsV_string cellsV_pointer cellsV_slice cellsV_sl ok_int ok_bool ok_string ok_pointer ok_slice ok_sl toList_arr seg_arr set_arr nth_splice nth_splice0 seg_splice seg_splice0 splice_splice splice_splice0 length_splice_if
attribute [local go_sem ↓] execOp_box
attribute [local go_sem] box_run nth_arr_u8 put_arr_u8 blk_drewN free_drewN put_drewN blk_raw free_raw
def svI (W1 : World) (b2 b3 nn : Nat) (f : Nat → Value) (W : World) : Prop := f 2 = .pointer (some ⟨b2, 0, none⟩) ∧ f 3 = .pointer (some ⟨b3, 0, none⟩) ∧ Hid (∃ k, W = W1.drewN k) ∧ ∃ i : Nat, i ≤ nn ∧ f 5 = .int .i64 (i : Nat)
def svJ (W1 : World) (b2 b3 rn : Nat) (f : Nat → Value) (W : World) : Prop := f 2 = .pointer (some ⟨b2, 0, none⟩) ∧ f 3 = .pointer (some ⟨b3, 0, none⟩) ∧ Hid (W1.Extends W) ∧ ∃ i : Nat, i ≤ rn ∧ f 6 = .int .i64 (i : Nat)
def svM (W2 : World) (b2 b3 b7 b8 i n : Nat) (f : Nat → Value) (W : World) : Prop := f 2 = .pointer (some ⟨b2, 0, none⟩) ∧ f 3 = .pointer (some ⟨b3, 0, none⟩) ∧ f 6 = .int .i64 (i : Nat) ∧ f 7 = .pointer (some ⟨b7, 0, none⟩) ∧ f 8 = .pointer (some ⟨b8, 0, none⟩) ∧ Hid (∃ k, W = W2.drewN k) ∧ ∃ j : Nat, j ≤ n ∧ f 9 = .int .i64 (j : Nat)
def svX (W2 : World) (b2 b3 b7 b8 i n : Nat) (f : Nat → Value) (W : World) : Prop := f 2 = .pointer (some ⟨b2, 0, none⟩) ∧ f 3 = .pointer (some ⟨b3, 0, none⟩) ∧ f 6 = .int .i64 (i : Nat) ∧ f 7 = .pointer (some ⟨b7, 0, none⟩) ∧ f 8 = .pointer (some ⟨b8, 0, none⟩) ∧ Hid (∃ k, W = W2.drewN k) ∧ ∃ j : Nat, j ≤ n ∧ f 10 = .int .i64 (j : Nat)
theorem rv_at {W : World} {a : Option Addr} {n : Nat} {R : List RvD} (h : Rw RvD.enc 4 W a n R) {i : Nat} {d : RvD} (hd : R[i]? = some d) : ∃ b C, a = some ⟨b, 0, none⟩ ∧ blk W b = some C ∧ i * 4 + 4 ≤ C.length ∧ i < n ∧ seg C (i * 4) 4 = rvE d.ar d.ta d.tn d.tc d.ma d.mn d.mc d.xa d.xn d.xc := by
  obtain ⟨b, C, h1, h2, h3, h4⟩ := h.2 i d hd
  have hi : i < n := by rw [← h.1]; exact (List.getElem?_eq_some_iff.1 hd).1
  have : (i + 1) * 4 ≤ n * 4 := Nat.mul_le_mul_right _ hi
  exact ⟨b, C, h1, h2, by omega, hi, h4⟩
theorem ext_putn {w W : World} (h : w.Extends W) {b : Nat} (hb : w.heap.size ≤ b) (C : List Value) : w.Extends (put W b C) := (Fr.put_new (L := fun _ => False) (O := fun _ => Lab.no) (Fr.of_extends h) hb C).extends (ext_Ext (Ext.refl _)) (fun _ _ h => h)
theorem rv_putz (ar : Int) (ta : Option Addr) (tn tc : Nat) (ma : Option Addr) (mn mc : Nat) (xa : Option Addr) (xn xc : Nat) : splice RelView.zero.enc 0 (rvE ar ta tn tc ma mn mc xa xn xc) = rvE ar ta tn tc ma mn mc xa xn xc := rfl
theorem Rw.ext' {α : Type} {en : α → List Value} {sz : Nat} {W W' : World} {a : Option Addr} {n : Nat} {L : List α} (h : Rw en sz W a n L) (he : W.Extends W') : Rw en sz W' a n L := ⟨h.1, fun i x hx => by
  obtain ⟨b, C, h1, h2, h3, h4⟩ := h.2 i x hx
  exact ⟨b, C, h1, (he.blk (blk_lt h2)).trans h2, h3, h4⟩⟩
set_option maxRecDepth 100000 in
theorem frame111 (f : Nat → Value) : frameN 111 f = #[f 0, f 1, f 2, f 3, f 4, f 5, f 6, f 7, f 8, f 9, f 10, f 11, f 12, f 13, f 14, f 15, f 16, f 17, f 18, f 19, f 20, f 21, f 22, f 23, f 24, f 25, f 26, f 27, f 28, f 29, f 30, f 31, f 32, f 33, f 34, f 35, f 36, f 37, f 38, f 39, f 40, f 41, f 42, f 43, f 44, f 45, f 46, f 47, f 48, f 49, f 50, f 51, f 52, f 53, f 54, f 55, f 56, f 57, f 58, f 59, f 60, f 61, f 62, f 63, f 64, f 65, f 66, f 67, f 68, f 69, f 70, f 71, f 72, f 73, f 74, f 75, f 76, f 77, f 78, f 79, f 80, f 81, f 82, f 83, f 84, f 85, f 86, f 87, f 88, f 89, f 90, f 91, f 92, f 93, f 94, f 95, f 96, f 97, f 98, f 99, f 100, f 101, f 102, f 103, f 104, f 105, f 106, f 107, f 108, f 109, f 110] := by kernel_rfl
attribute [local go_sem] v_len v_ok v_n0 v_n1 v_s0 v_s1 v_all v_put rv_len rv_ok rv_n0 rv_n1 rv_n2 rv_n3 rv_s0 rv_s1 rv_s2 rv_s3 rv_all rv_putz
set_option maxRecDepth 20000 in
set_option maxHeartbeats 8000000 in
theorem sameView_eq (W : World) (N N' : Nat) (na : Option Addr) (nn nc : Nat) (ra : Option Addr) (rn rc : Nat) (na' : Option Addr) (nn' nc' : Nat) (ra' : Option Addr) (rn' rc' : Nat) (names : List (List UInt8)) (P : List RvS) (h : VwAt N W na nn nc ra rn rc names P) (h' : VwAt N' W na' nn' nc' ra' rn' rc' names P) (hnl : names.length ≤ 1000000) (hPl : P.length ≤ 1000000) (hPs : ∀ p ∈ P, p.rows.length ≤ 1000000 ∧ p.marks.length ≤ 1000000 ∧ p.ixs.length ≤ 1000000) :
    Calls Try.prog 34 #[.agg (vE na nn nc ra rn rc).toArray, .agg (vE na' nn' nc' ra' rn' rc').toArray] W fun e W' => e = .returned (.bool true) ∧ W.Extends W' := by
  obtain ⟨h1, R, h2, h3, h4⟩ := h
  obtain ⟨h1', R', h2', h3', h4'⟩ := h'
  have n1 := (rw_own encS_len h1).1
  have n1' := (rw_own encS_len h1').1
  have r1 := (rw_own RvD.len h2).1
  have r1' := (rw_own RvD.len h2').1
  obtain rfl : nn' = nn := by rw [← n1.1, ← n1'.1]
  obtain rfl : rn' = rn := by rw [← r1.1, ← r1'.1, h3, h3']
  have hnn : nn' ≤ 1000000 := by rw [← n1.1]; exact hnl
  have hrn : rn' ≤ 1000000 := by rw [← r1.1, h3]; exact hPl
  have HN := hid_of n1
  have HN' := hid_of n1'
  have HR := hid_of r1
  have HR' := hid_of r1'
  have HRL : Hid (R.length = P.length ∧ R'.length = P.length) := ⟨h3, h3'⟩
  have HRV := hid_of h4
  have HRV' := hid_of h4'
  have HPS := hid_of hPs
  clear h1 h2 h3 h4 h1' h2' h3' h4' n1 n1' r1 r1' hnl hPl hPs
  go_enter Try.func34, Try.ntmps34
  go_upto_region 1 with fail
  refine wp_world (fun W1 => blk W1 W.heap.size = some (vE na nn' nc ra rn' rc) ∧ blk W1 (W.heap.size + 1) = some (vE na' nn' nc' ra' rn' rc') ∧ W.Extends W1) ⟨?_, ?_, ?_⟩ ?_
  · rw [blk_alloc, if_neg (by rw [World.size_alloc]; omega), blk_alloc, if_pos rfl]
  · rw [blk_alloc, if_pos (by rw [World.size_alloc])]
  · exact extends_alloc (extends_alloc (ext_Ext (Ext.refl _)) _) _
  rintro W1 ⟨hb2, hb3, hx1⟩
  obtain ⟨b2, e2⟩ : ∃ b2, b2 = W.heap.size := ⟨_, rfl⟩
  obtain ⟨b3, e3⟩ : ∃ b3, b3 = W.heap.size + 1 := ⟨_, rfl⟩
  try simp only [World.size_alloc]
  rw [← e3, ← e2]
  rw [← e3] at hb3
  rw [← e2] at hb2
  have HX1 := hid_of hx1
  clear e2 e3 hx1
  go_wp2_with fail
  have HK0 : Hid (∃ k, W1 = W1.drewN k) := ⟨0, rfl⟩
  refine wp_loop_f 111 (svI W1 b2 b3 nn') (fun f _ => nn' - (intOf (f 5)).toNat) rfl ⟨rfl, rfl, HK0, 0, by omega, rfl⟩ ?_
  clear HK0
  intro F V hrel
  obtain ⟨f2, f3, HK, i, hi, f5⟩ := hrel
  have H5 := hid_of f5
  rw [frame111, f2, f3, f5]
  clear f2 f3 f5
  obtain ⟨k0, hV⟩ := HK.out
  have hb2V : blk V b2 = some (vE na nn' nc ra rn' rc) := by rw [hV, blk_drewN]; exact hb2
  have hb3V : blk V b3 = some (vE na' nn' nc' ra' rn' rc') := by rw [hV, blk_drewN]; exact hb3
  by_cases hin : i < nn'
  · obtain ⟨nm, hnm⟩ : ∃ nm, names[i]? = some nm := ⟨_, List.getElem?_eq_getElem (by rw [HN.out.1]; exact hin)⟩
    obtain ⟨bn, Cn, rfl, hCn, hcn, _, un⟩ := rw_cell (v := .string ⟨nm.toArray⟩) ((HN.out.ext' HX1.out).drewN k0) hnm rfl
    obtain ⟨bu, Cu, rfl, hCu, hcu, _, uu⟩ := rw_cell (v := .string ⟨nm.toArray⟩) ((HN'.out.ext' HX1.out).drewN k0) hnm rfl
    rw [← hV] at hCn hCu
    obtain ⟨sv, hsv⟩ : ∃ sv : ByteArray, sv = ⟨nm.toArray⟩ := ⟨_, rfl⟩
    rw [← hsv] at un uu
    have HK' : Hid (∃ k, V.drew = W1.drewN k) := ⟨k0 + 1, by rw [hV]; rfl⟩
    have hin' : (i : Int) < (nn' : Int) := by omega
    have q0 : (0 : Int) ≤ (i : Int) := by omega
    have q2 : ((i : Int)).toNat = i := by omega
    clear hV HK hnm hsv
    go_upto_region 6 with fail
    refine wp_region_held_drew (S := fun W' => blk W' b2 = some (vE (some ⟨bn, 0, none⟩) nn' nc ra rn' rc) ∧ blk W' b3 = some (vE (some ⟨bu, 0, none⟩) nn' nc' ra' rn' rc') ∧ blk W' bn = some Cn ∧ blk W' bu = some Cu) (by kernel_rfl) ⟨hb2V, hb3V, hCn, hCu⟩ (fun hHeld => ?_)
    refine wpAnyH_take (i := 0) (oi := ⟨_, _, _, _, _, _⟩) (v := ?_) rfl (by kernel_rfl) (by kernel_rfl) (by kernel_rfl) (fun _ _ _ h => h) (Or.inl ⟨by rfl, ?_⟩) (by assumption) ?_
    rotate_left 1
    · intro W' hSw
      obtain ⟨hS1, hS2, hS3, hS4⟩ := hSw
      go_simp
      try with_reducible rfl
    try simp only [Act.put, List.setIfInBounds_toArray, List.set_cons_zero, List.set_cons_succ]
    refine wpAnyH_take (i := 1) (oi := ⟨_, _, _, _, _, _⟩) (v := ?_) rfl (by kernel_rfl) (by kernel_rfl) (by kernel_rfl) (fun _ _ _ h => h) (Or.inl ⟨by rfl, ?_⟩) (by assumption) ?_
    rotate_left 1
    · intro W' hSw
      obtain ⟨hS1, hS2, hS3, hS4⟩ := hSw
      go_simp
      try with_reducible rfl
    try simp only [Act.put, List.setIfInBounds_toArray, List.set_cons_zero, List.set_cons_succ]
    refine wpAnyH_take (i := 2) (oi := ⟨_, _, _, _, _, _⟩) (v := ?_) rfl (by kernel_rfl) (by kernel_rfl) (by kernel_rfl) (fun _ _ _ h => h) (Or.inl ⟨by rfl, ?_⟩) (by assumption) ?_
    rotate_left 1
    · intro W' hSw
      obtain ⟨hS1, hS2, hS3, hS4⟩ := hSw
      go_simp
      try with_reducible rfl
    try simp only [Act.put, List.setIfInBounds_toArray, List.set_cons_zero, List.set_cons_succ]
    refine wpAnyH_take (i := 3) (oi := ⟨_, _, _, _, _, _⟩) (v := ?_) rfl (by kernel_rfl) (by kernel_rfl) (by kernel_rfl) (fun _ _ _ h => h) (Or.inl ⟨by rfl, ?_⟩) (by assumption) ?_
    rotate_left 1
    · intro W' hSw
      obtain ⟨hS1, hS2, hS3, hS4⟩ := hSw
      go_simp
      try with_reducible rfl
    try simp only [Act.put, List.setIfInBounds_toArray, List.set_cons_zero, List.set_cons_succ]
    refine wpAnyH_take (i := 4) (oi := ⟨_, _, _, _, _, _⟩) (v := ?_) rfl (by kernel_rfl) (by kernel_rfl) (by kernel_rfl) (fun _ _ _ h => h) (Or.inl ⟨by rfl, ?_⟩) (by assumption) ?_
    rotate_left 1
    · intro W' hSw
      obtain ⟨hS1, hS2, hS3, hS4⟩ := hSw
      go_simp
      try with_reducible rfl
    try simp only [Act.put, List.setIfInBounds_toArray, List.set_cons_zero, List.set_cons_succ]
    refine wpAnyH_take (i := 5) (oi := ⟨_, _, _, _, _, _⟩) (v := ?_) rfl (by kernel_rfl) (by kernel_rfl) (by kernel_rfl) (fun _ _ _ h => h) (Or.inl ⟨by rfl, ?_⟩) (by assumption) ?_
    rotate_left 1
    · intro W' hSw
      obtain ⟨hS1, hS2, hS3, hS4⟩ := hSw
      go_simp
      try with_reducible rfl
    try simp only [Act.put, List.setIfInBounds_toArray, List.set_cons_zero, List.set_cons_succ]
    refine wpAnyH_take (i := 6) (oi := ⟨_, _, _, _, _, _⟩) (v := ?_) rfl (by kernel_rfl) (by kernel_rfl) (by kernel_rfl) (fun _ _ _ h => h) (Or.inl ⟨by rfl, ?_⟩) (by assumption) ?_
    rotate_left 1
    · intro W' hSw
      obtain ⟨hS1, hS2, hS3, hS4⟩ := hSw
      go_simp
      try with_reducible rfl
    try simp only [Act.put, List.setIfInBounds_toArray, List.set_cons_zero, List.set_cons_succ]
    refine wpAnyH_take (i := 7) (oi := ⟨_, _, _, _, _, _⟩) (v := ?_) rfl (by kernel_rfl) (by kernel_rfl) (by kernel_rfl) (fun _ _ _ h => h) (Or.inl ⟨by rfl, ?_⟩) (by assumption) ?_
    rotate_left 1
    · intro W' hSw
      obtain ⟨hS1, hS2, hS3, hS4⟩ := hSw
      go_simp
      try with_reducible rfl
    try simp only [Act.put, List.setIfInBounds_toArray, List.set_cons_zero, List.set_cons_succ]
    refine wpAnyH_take (i := 8) (oi := ⟨_, _, _, _, _, _⟩) (v := ?_) rfl (by kernel_rfl) (by kernel_rfl) (by kernel_rfl) (fun _ _ _ h => h) (Or.inl ⟨by rfl, ?_⟩) (by assumption) ?_
    rotate_left 1
    · intro W' hSw
      obtain ⟨hS1, hS2, hS3, hS4⟩ := hSw
      go_simp
      try with_reducible rfl
    try simp only [Act.put, List.setIfInBounds_toArray, List.set_cons_zero, List.set_cons_succ]
    refine wpAnyH_take (i := 9) (oi := ⟨_, _, _, _, _, _⟩) (v := ?_) rfl (by kernel_rfl) (by kernel_rfl) (by kernel_rfl) (fun _ _ _ h => h) (Or.inl ⟨by rfl, ?_⟩) (by assumption) ?_
    rotate_left 1
    · intro W' hSw
      obtain ⟨hS1, hS2, hS3, hS4⟩ := hSw
      go_simp
      try with_reducible rfl
    try simp only [Act.put, List.setIfInBounds_toArray, List.set_cons_zero, List.set_cons_succ]
    refine wpAnyH_take (i := 10) (oi := ⟨_, _, _, _, _, _⟩) (v := ?_) rfl (by kernel_rfl) (by kernel_rfl) (by kernel_rfl) (fun _ _ _ h => h) (Or.inl ⟨by rfl, ?_⟩) (by assumption) ?_
    rotate_left 1
    · intro W' hSw
      obtain ⟨hS1, hS2, hS3, hS4⟩ := hSw
      go_simp
      try with_reducible rfl
    try simp only [Act.put, List.setIfInBounds_toArray, List.set_cons_zero, List.set_cons_succ]
    refine wpAnyH_done (by kernel_rfl) ?_ _
    go_wp2_with fail
    refine ⟨rfl, rfl, ⟨rfl, rfl, HK', i + 1, by omega, ?_⟩, ?_⟩
    · show Value.int .i64 _ = _
      go_num
    · show nn' - (intOf (Value.int .i64 _)).toNat < nn' - (intOf (F 5)).toNat
      rw [H5.out]
      simp [intOf]; omega
  have hin' : ¬ (i : Int) < (nn' : Int) := by omega
  have HXV : Hid (W1.Extends V) := by show W1.Extends V; rw [hV]; exact extends_drewN (ext_Ext (Ext.refl _)) _
  clear hV HK hin hi H5
  go_wp2_with fail
  refine wp_loop_f 111 (svJ W1 b2 b3 rn') (fun f _ => rn' - (intOf (f 6)).toNat) rfl ⟨rfl, rfl, HXV, 0, by omega, rfl⟩ ?_
  clear HXV hb2V hb3V
  intro F1 V1 hrel
  obtain ⟨f2, f3, HXV, i, hi, f6⟩ := hrel
  have H6 := hid_of f6
  rw [frame111, f2, f3, f6]
  clear f2 f3 f6
  have hb2V : blk V1 b2 = some (vE na nn' nc ra rn' rc) := (HXV.out.blk (blk_lt hb2)).trans hb2
  have hb3V : blk V1 b3 = some (vE na' nn' nc' ra' rn' rc') := (HXV.out.blk (blk_lt hb3)).trans hb3
  by_cases hin : i < rn'
  rotate_left 1
  · have hin' : ¬ (i : Int) < (rn' : Int) := by omega
    have HF := hid_of (HX1.out.trans HXV.out)
    clear hi hin
    go_wp2_with fail
    go_ret
    exact ⟨rfl, HF.out⟩
  obtain ⟨d, hd⟩ : ∃ d, R[i]? = some d := ⟨_, List.getElem?_eq_getElem (by rw [HR.out.1]; exact hin)⟩
  obtain ⟨d', hd'⟩ : ∃ d', R'[i]? = some d' := ⟨_, List.getElem?_eq_getElem (by rw [HR'.out.1]; exact hin)⟩
  obtain ⟨p, hp⟩ : ∃ p, P[i]? = some p := ⟨_, List.getElem?_eq_getElem (by rw [← HRL.out.1, HR.out.1]; exact hin)⟩
  obtain ⟨a1, a2, a3, a4⟩ := HRV.out i d p hd hp
  obtain ⟨a1', a2', a3', a4'⟩ := HRV'.out i d' p hd' hp
  obtain ⟨br, Cr, rfl, hCr, hcr, _, hsr⟩ := rv_at ((HR.out.ext' HX1.out).ext' HXV.out) hd
  obtain ⟨bq, Cq, rfl, hCq, hcq, _, hsq⟩ := rv_at ((HR'.out.ext' HX1.out).ext' HXV.out) hd'
  have hps := HPS.out p (List.mem_of_getElem? hp)
  obtain ⟨ar, ta, tn, tc, ma, mn, mc, xa, xn, xc⟩ := d
  obtain ⟨ar', ta', tn', tc', ma', mn', mc', xa', xn', xc'⟩ := d'
  dsimp only at a1 a2 a3 a4 a1' a2' a3' a4' hsr hsq
  subst a1
  obtain rfl : ar' = p.ar := a1'
  have t1 := ((rw_own tpl_len a2).1.ext' HX1.out).ext' HXV.out
  have t1' := ((rw_own tpl_len a2').1.ext' HX1.out).ext' HXV.out
  have m1 := ((rw_own encI_len a3).1.ext' HX1.out).ext' HXV.out
  have m1' := ((rw_own encI_len a3').1.ext' HX1.out).ext' HXV.out
  have x1 := ((rw_own encB_len a4).1.ext' HX1.out).ext' HXV.out
  have x1' := ((rw_own encB_len a4').1.ext' HX1.out).ext' HXV.out
  obtain rfl : tn' = tn := by rw [← t1.1, ← t1'.1]
  obtain rfl : mn' = mn := by rw [← m1.1, ← m1'.1]
  obtain rfl : xn' = xn := by rw [← x1.1, ← x1'.1]
  have htn : tn' ≤ 1000000 := by rw [← t1.1]; exact hps.1
  have hmn : mn' ≤ 1000000 := by rw [← m1.1]; exact hps.2.1
  have hxn : xn' ≤ 1000000 := by rw [← x1.1]; exact hps.2.2
  obtain ⟨ar, har⟩ : ∃ ar, ar = p.ar := ⟨_, rfl⟩
  rw [← har] at hsr hsq
  obtain ⟨marks, hmarks⟩ : ∃ marks, marks = p.marks := ⟨_, rfl⟩
  rw [← hmarks] at m1 m1'
  obtain ⟨ixs, hixs⟩ : ∃ ixs, ixs = p.ixs := ⟨_, rfl⟩
  rw [← hixs] at x1 x1'
  obtain ⟨ts, hts⟩ : ∃ ts, ts = p.rows := ⟨_, rfl⟩
  rw [← hts] at t1 t1'
  have HT := hid_of (And.intro t1 t1')
  have HM := hid_of (And.intro m1 m1')
  have HXX := hid_of (And.intro x1 x1')
  have hin' : (i : Int) < (rn' : Int) := by omega
  have q0 : (0 : Int) ≤ (i : Int) := by omega
  have q2 : ((i : Int)).toNat = i := by omega
  clear hd hd' hp a2 a3 a4 a2' a3' a4' t1 t1' m1 m1' x1 x1' har hmarks hixs hts hps hin p
  go_upto_region 11 with fail
  refine wp_region_held_drew (S := fun W' => blk W' b2 = some (vE na nn' nc (some ⟨br, 0, none⟩) rn' rc) ∧ blk W' b3 = some (vE na' nn' nc' (some ⟨bq, 0, none⟩) rn' rc') ∧ blk W' br = some Cr ∧ blk W' bq = some Cq) (by kernel_rfl) ⟨hb2V, hb3V, hCr, hCq⟩ (fun hHeld => ?_)
  refine wpAnyH_take (i := 0) (oi := ⟨_, _, _, _, _, _⟩) (v := ?_) rfl (by kernel_rfl) (by kernel_rfl) (by kernel_rfl) (fun _ _ _ h => h) (Or.inl ⟨by rfl, ?_⟩) (by assumption) ?_
  rotate_left 1
  · intro W' hSw
    obtain ⟨hS1, hS2, hS3, hS4⟩ := hSw
    go_simp
    try with_reducible rfl
  try simp only [Act.put, List.setIfInBounds_toArray, List.set_cons_zero, List.set_cons_succ]
  refine wpAnyH_take (i := 1) (oi := ⟨_, _, _, _, _, _⟩) (v := ?_) rfl (by kernel_rfl) (by kernel_rfl) (by kernel_rfl) (fun _ _ _ h => h) (Or.inl ⟨by rfl, ?_⟩) (by assumption) ?_
  rotate_left 1
  · intro W' hSw
    obtain ⟨hS1, hS2, hS3, hS4⟩ := hSw
    go_simp
    try with_reducible rfl
  try simp only [Act.put, List.setIfInBounds_toArray, List.set_cons_zero, List.set_cons_succ]
  refine wpAnyH_take (i := 2) (oi := ⟨_, _, _, _, _, _⟩) (v := ?_) rfl (by kernel_rfl) (by kernel_rfl) (by kernel_rfl) (fun _ _ _ h => h) (Or.inl ⟨by rfl, ?_⟩) (by assumption) ?_
  rotate_left 1
  · intro W' hSw
    obtain ⟨hS1, hS2, hS3, hS4⟩ := hSw
    go_simp
    try with_reducible rfl
  try simp only [Act.put, List.setIfInBounds_toArray, List.set_cons_zero, List.set_cons_succ]
  refine wpAnyH_take (i := 3) (oi := ⟨_, _, _, _, _, _⟩) (v := ?_) rfl (by kernel_rfl) (by kernel_rfl) (by kernel_rfl) (fun _ _ _ h => h) (Or.inl ⟨by rfl, ?_⟩) (by assumption) ?_
  rotate_left 1
  · intro W' hSw
    obtain ⟨hS1, hS2, hS3, hS4⟩ := hSw
    go_simp
    try with_reducible rfl
  try simp only [Act.put, List.setIfInBounds_toArray, List.set_cons_zero, List.set_cons_succ]
  refine wpAnyH_take (i := 4) (oi := ⟨_, _, _, _, _, _⟩) (v := ?_) rfl (by kernel_rfl) (by kernel_rfl) (by kernel_rfl) (fun _ _ _ h => h) (Or.inl ⟨by rfl, ?_⟩) (by assumption) ?_
  rotate_left 1
  · intro W' hSw
    obtain ⟨hS1, hS2, hS3, hS4⟩ := hSw
    go_simp
    try with_reducible rfl
  try simp only [Act.put, List.setIfInBounds_toArray, List.set_cons_zero, List.set_cons_succ]
  refine wpAnyH_take (i := 5) (oi := ⟨_, _, _, _, _, _⟩) (v := ?_) rfl (by kernel_rfl) (by kernel_rfl) (by kernel_rfl) (fun _ _ _ h => h) (Or.inl ⟨by rfl, ?_⟩) (by assumption) ?_
  rotate_left 1
  · intro W' hSw
    obtain ⟨hS1, hS2, hS3, hS4⟩ := hSw
    go_simp
    try with_reducible rfl
  try simp only [Act.put, List.setIfInBounds_toArray, List.set_cons_zero, List.set_cons_succ]
  refine wpAnyH_take (i := 6) (oi := ⟨_, _, _, _, _, _⟩) (v := ?_) rfl (by kernel_rfl) (by kernel_rfl) (by kernel_rfl) (fun _ _ _ h => h) (Or.inl ⟨by rfl, ?_⟩) (by assumption) ?_
  rotate_left 1
  · intro W' hSw
    obtain ⟨hS1, hS2, hS3, hS4⟩ := hSw
    go_simp
    try with_reducible rfl
  try simp only [Act.put, List.setIfInBounds_toArray, List.set_cons_zero, List.set_cons_succ]
  refine wpAnyH_take (i := 7) (oi := ⟨_, _, _, _, _, _⟩) (v := ?_) rfl (by kernel_rfl) (by kernel_rfl) (by kernel_rfl) (fun _ _ _ h => h) (Or.inl ⟨by rfl, ?_⟩) (by assumption) ?_
  rotate_left 1
  · intro W' hSw
    obtain ⟨hS1, hS2, hS3, hS4⟩ := hSw
    go_simp
    try with_reducible rfl
  try simp only [Act.put, List.setIfInBounds_toArray, List.set_cons_zero, List.set_cons_succ]
  refine wpAnyH_take (i := 8) (oi := ⟨_, _, _, _, _, _⟩) (v := ?_) rfl (by kernel_rfl) (by kernel_rfl) (by kernel_rfl) (fun _ _ _ h => h) (Or.inl ⟨by rfl, ?_⟩) (by assumption) ?_
  rotate_left 1
  · intro W' hSw
    obtain ⟨hS1, hS2, hS3, hS4⟩ := hSw
    go_simp
    try with_reducible rfl
  try simp only [Act.put, List.setIfInBounds_toArray, List.set_cons_zero, List.set_cons_succ]
  refine wpAnyH_take (i := 9) (oi := ⟨_, _, _, _, _, _⟩) (v := ?_) rfl (by kernel_rfl) (by kernel_rfl) (by kernel_rfl) (fun _ _ _ h => h) (Or.inl ⟨by rfl, ?_⟩) (by assumption) ?_
  rotate_left 1
  · intro W' hSw
    obtain ⟨hS1, hS2, hS3, hS4⟩ := hSw
    go_simp
    try with_reducible rfl
  try simp only [Act.put, List.setIfInBounds_toArray, List.set_cons_zero, List.set_cons_succ]
  have hS11 : ∀ W', V1.Extends W' → (blk W' b2 = some (vE na nn' nc (some ⟨br, 0, none⟩) rn' rc) ∧ blk W' b3 = some (vE na' nn' nc' (some ⟨bq, 0, none⟩) rn' rc') ∧ blk W' br = some Cr ∧ blk W' bq = some Cq) := fun W' hx => ⟨(hx.blk (blk_lt hb2V)).trans hb2V, (hx.blk (blk_lt hb3V)).trans hb3V, (hx.blk (blk_lt hCr)).trans hCr, (hx.blk (blk_lt hCq)).trans hCq⟩
  refine wpAnyH_ready (rs := [10, 11]) (by kernel_rfl) (by simp) ?_
  refine AllReadyH.cons (o := ⟨_, _, _, _, _, _⟩) rfl (fun K' hK => ?_) (AllReadyH.cons (o := ⟨_, _, _, _, _, _⟩) rfl (fun K' hK => ?_) AllReadyH.nil)
  · go_simp
    refine hK.out _ _ (hS11 _ (by repeat (first | exact ext_Ext (Ext.refl _) | refine extends_alloc ?_ _ | refine extends_drew ?_ | refine ext_putn ?_ (by omega) _))) (fun hHeld => ?_)
    clear hK K'
    try simp only [Act.put, List.setIfInBounds_toArray, List.set_cons_zero, List.set_cons_succ]
    refine wpAnyH_ready (rs := [11]) (by kernel_rfl) (by simp) ?_
    refine AllReadyH.cons (o := ⟨_, _, _, _, _, _⟩) rfl (fun K' hK => ?_) AllReadyH.nil
    go_simp
    refine hK.out _ _ (hS11 _ (by repeat (first | exact ext_Ext (Ext.refl _) | refine extends_alloc ?_ _ | refine extends_drew ?_ | refine ext_putn ?_ (by omega) _))) (fun hHeld => ?_)
    clear hK K'
    try simp only [Act.put, List.setIfInBounds_toArray, List.set_cons_zero, List.set_cons_succ]
    refine wpAnyH_ready (rs := [12]) (by kernel_rfl) (by simp) ?_
    refine AllReadyH.cons (o := ⟨_, _, _, _, _, _⟩) rfl (fun K' hK => ?_) AllReadyH.nil
    go_simp
    refine hK.out _ _ (hS11 _ (by repeat (first | exact ext_Ext (Ext.refl _) | refine extends_alloc ?_ _ | refine extends_drew ?_ | refine ext_putn ?_ (by omega) _))) (fun hHeld => ?_)
    clear hK K'
    try simp only [Act.put, List.setIfInBounds_toArray, List.set_cons_zero, List.set_cons_succ]
    refine wpAnyH_ready (rs := [13]) (by kernel_rfl) (by simp) ?_
    refine AllReadyH.cons (o := ⟨_, _, _, _, _, _⟩) rfl (fun K' hK => ?_) AllReadyH.nil
    go_simp
    refine hK.out _ _ (hS11 _ (by repeat (first | exact ext_Ext (Ext.refl _) | refine extends_alloc ?_ _ | refine extends_drew ?_ | refine ext_putn ?_ (by omega) _))) (fun hHeld => ?_)
    clear hK K'
    try simp only [Act.put, List.setIfInBounds_toArray, List.set_cons_zero, List.set_cons_succ]
    refine wpAnyH_done (by kernel_rfl) ?_ _
    clear hS11
    go_upto_region 12 with fail
    refine wp_world (fun W2 => blk W2 (V1.heap.size) = some (rvE ar ta tn' tc ma mn' mc xa xn' xc) ∧ blk W2 (V1.heap.size + 1) = some (rvE ar ta' tn' tc' ma' mn' mc' xa' xn' xc') ∧ V1.Extends W2) ⟨by simp [blk_put, blk_alloc, blk_drew, World.size_alloc, size_put], by simp [blk_put, blk_alloc, blk_drew, World.size_alloc, size_put], by repeat (first | exact ext_Ext (Ext.refl _) | refine extends_alloc ?_ _ | refine extends_drew ?_ | refine ext_putn ?_ (by omega) _)⟩ ?_
    rintro V2 ⟨hb7, hb8, hx2⟩
    obtain ⟨b7, e7⟩ : ∃ b7, b7 = V1.heap.size := ⟨_, rfl⟩
    obtain ⟨b8, e8⟩ : ∃ b8, b8 = V1.heap.size + 1 := ⟨_, rfl⟩
    try simp only [World.size_alloc]
    rw [← e8, ← e7]
    rw [← e8] at hb8
    rw [← e7] at hb7
    have hsl := sameList_eq V2 ta tn' tc ta' tn' tc' ts (HT.out.1.ext' hx2) (HT.out.2.ext' hx2) htn
    have HM2 : Hid (Rw encI 1 V2 ma mn' marks ∧ Rw encI 1 V2 ma' mn' marks) := ⟨HM.out.1.ext' hx2, HM.out.2.ext' hx2⟩
    have HX2 : Hid (Rw encB 1 V2 xa xn' ixs ∧ Rw encB 1 V2 xa' xn' ixs) := ⟨HXX.out.1.ext' hx2, HXX.out.2.ext' hx2⟩
    have HXV2 : Hid (W1.Extends V2) := HXV.out.trans hx2
    clear e7 e8 hx2 HT HM HXX HXV hb2V hb3V hCr hCq hcr hcq hsr hsq
    go_wp2_with fail
    refine hsl.mono ?_
    rintro e V3 ⟨rfl, k3, rfl⟩
    dsimp only
    go_wp2_with fail
    have HK0 : Hid (∃ k, V2.drewN k3 = V2.drewN k) := ⟨k3, rfl⟩
    refine wp_loop_f 111 (svM V2 b2 b3 b7 b8 i mn') (fun f _ => mn' - (intOf (f 9)).toNat) rfl ⟨rfl, rfl, rfl, rfl, rfl, HK0, 0, by omega, rfl⟩ ?_
    clear HK0 hsl
    intro F2 V4 hrel
    obtain ⟨f2, f3, f6, f7, f8, HK, j, hj, f9⟩ := hrel
    have H9 := hid_of f9
    rw [frame111, f2, f3, f6, f7, f8, f9]
    clear f2 f3 f6 f7 f8 f9
    obtain ⟨k0, hV⟩ := HK.out
    have hb7V : blk V4 b7 = some (rvE ar ta tn' tc ma mn' mc xa xn' xc) := by rw [hV, blk_drewN]; exact hb7
    have hb8V : blk V4 b8 = some (rvE ar ta' tn' tc' ma' mn' mc' xa' xn' xc') := by rw [hV, blk_drewN]; exact hb8
    by_cases hjn : j < mn'
    · obtain ⟨mv, hmv⟩ : ∃ mv, marks[j]? = some mv := ⟨_, List.getElem?_eq_getElem (by rw [HM2.out.1.1]; exact hjn)⟩
      obtain ⟨bn, Cn, rfl, hCn, hcn, _, un⟩ := rw_cell (v := .int .i64 mv) (HM2.out.1.drewN k0) hmv rfl
      obtain ⟨bu, Cu, rfl, hCu, hcu, _, uu⟩ := rw_cell (v := .int .i64 mv) (HM2.out.2.drewN k0) hmv rfl
      rw [← hV] at hCn hCu
      have HK' : Hid (∃ k, V4.drew = V2.drewN k) := ⟨k0 + 1, by rw [hV]; rfl⟩
      have hjn' : (j : Int) < (mn' : Int) := by omega
      have p0 : (0 : Int) ≤ (j : Int) := by omega
      have p2 : ((j : Int)).toNat = j := by omega
      clear hV HK hmv
      go_upto_region 17 with fail
      refine wp_region_held_drew (S := fun W' => blk W' b7 = some (rvE ar ta tn' tc (some ⟨bn, 0, none⟩) mn' mc xa xn' xc) ∧ blk W' b8 = some (rvE ar ta' tn' tc' (some ⟨bu, 0, none⟩) mn' mc' xa' xn' xc') ∧ blk W' bn = some Cn ∧ blk W' bu = some Cu) (by kernel_rfl) ⟨hb7V, hb8V, hCn, hCu⟩ (fun hHeld => ?_)
      refine wpAnyH_take (i := 0) (oi := ⟨_, _, _, _, _, _⟩) (v := ?_) rfl (by kernel_rfl) (by kernel_rfl) (by kernel_rfl) (fun _ _ _ h => h) (Or.inl ⟨by rfl, ?_⟩) (by assumption) ?_
      rotate_left 1
      · intro W' hSw
        obtain ⟨hS1, hS2, hS3, hS4⟩ := hSw
        go_simp
        try with_reducible rfl
      try simp only [Act.put, List.setIfInBounds_toArray, List.set_cons_zero, List.set_cons_succ]
      refine wpAnyH_take (i := 1) (oi := ⟨_, _, _, _, _, _⟩) (v := ?_) rfl (by kernel_rfl) (by kernel_rfl) (by kernel_rfl) (fun _ _ _ h => h) (Or.inl ⟨by rfl, ?_⟩) (by assumption) ?_
      rotate_left 1
      · intro W' hSw
        obtain ⟨hS1, hS2, hS3, hS4⟩ := hSw
        go_simp
        try with_reducible rfl
      try simp only [Act.put, List.setIfInBounds_toArray, List.set_cons_zero, List.set_cons_succ]
      refine wpAnyH_take (i := 2) (oi := ⟨_, _, _, _, _, _⟩) (v := ?_) rfl (by kernel_rfl) (by kernel_rfl) (by kernel_rfl) (fun _ _ _ h => h) (Or.inl ⟨by rfl, ?_⟩) (by assumption) ?_
      rotate_left 1
      · intro W' hSw
        obtain ⟨hS1, hS2, hS3, hS4⟩ := hSw
        go_simp
        try with_reducible rfl
      try simp only [Act.put, List.setIfInBounds_toArray, List.set_cons_zero, List.set_cons_succ]
      refine wpAnyH_take (i := 3) (oi := ⟨_, _, _, _, _, _⟩) (v := ?_) rfl (by kernel_rfl) (by kernel_rfl) (by kernel_rfl) (fun _ _ _ h => h) (Or.inl ⟨by rfl, ?_⟩) (by assumption) ?_
      rotate_left 1
      · intro W' hSw
        obtain ⟨hS1, hS2, hS3, hS4⟩ := hSw
        go_simp
        try with_reducible rfl
      try simp only [Act.put, List.setIfInBounds_toArray, List.set_cons_zero, List.set_cons_succ]
      refine wpAnyH_take (i := 4) (oi := ⟨_, _, _, _, _, _⟩) (v := ?_) rfl (by kernel_rfl) (by kernel_rfl) (by kernel_rfl) (fun _ _ _ h => h) (Or.inl ⟨by rfl, ?_⟩) (by assumption) ?_
      rotate_left 1
      · intro W' hSw
        obtain ⟨hS1, hS2, hS3, hS4⟩ := hSw
        go_simp
        try with_reducible rfl
      try simp only [Act.put, List.setIfInBounds_toArray, List.set_cons_zero, List.set_cons_succ]
      refine wpAnyH_take (i := 5) (oi := ⟨_, _, _, _, _, _⟩) (v := ?_) rfl (by kernel_rfl) (by kernel_rfl) (by kernel_rfl) (fun _ _ _ h => h) (Or.inl ⟨by rfl, ?_⟩) (by assumption) ?_
      rotate_left 1
      · intro W' hSw
        obtain ⟨hS1, hS2, hS3, hS4⟩ := hSw
        go_simp
        try with_reducible rfl
      try simp only [Act.put, List.setIfInBounds_toArray, List.set_cons_zero, List.set_cons_succ]
      refine wpAnyH_take (i := 6) (oi := ⟨_, _, _, _, _, _⟩) (v := ?_) rfl (by kernel_rfl) (by kernel_rfl) (by kernel_rfl) (fun _ _ _ h => h) (Or.inl ⟨by rfl, ?_⟩) (by assumption) ?_
      rotate_left 1
      · intro W' hSw
        obtain ⟨hS1, hS2, hS3, hS4⟩ := hSw
        go_simp
        try with_reducible rfl
      try simp only [Act.put, List.setIfInBounds_toArray, List.set_cons_zero, List.set_cons_succ]
      refine wpAnyH_take (i := 7) (oi := ⟨_, _, _, _, _, _⟩) (v := ?_) rfl (by kernel_rfl) (by kernel_rfl) (by kernel_rfl) (fun _ _ _ h => h) (Or.inl ⟨by rfl, ?_⟩) (by assumption) ?_
      rotate_left 1
      · intro W' hSw
        obtain ⟨hS1, hS2, hS3, hS4⟩ := hSw
        go_simp
        try with_reducible rfl
      try simp only [Act.put, List.setIfInBounds_toArray, List.set_cons_zero, List.set_cons_succ]
      refine wpAnyH_take (i := 8) (oi := ⟨_, _, _, _, _, _⟩) (v := ?_) rfl (by kernel_rfl) (by kernel_rfl) (by kernel_rfl) (fun _ _ _ h => h) (Or.inl ⟨by rfl, ?_⟩) (by assumption) ?_
      rotate_left 1
      · intro W' hSw
        obtain ⟨hS1, hS2, hS3, hS4⟩ := hSw
        go_simp
        try with_reducible rfl
      try simp only [Act.put, List.setIfInBounds_toArray, List.set_cons_zero, List.set_cons_succ]
      refine wpAnyH_take (i := 9) (oi := ⟨_, _, _, _, _, _⟩) (v := ?_) rfl (by kernel_rfl) (by kernel_rfl) (by kernel_rfl) (fun _ _ _ h => h) (Or.inl ⟨by rfl, ?_⟩) (by assumption) ?_
      rotate_left 1
      · intro W' hSw
        obtain ⟨hS1, hS2, hS3, hS4⟩ := hSw
        go_simp
        try with_reducible rfl
      try simp only [Act.put, List.setIfInBounds_toArray, List.set_cons_zero, List.set_cons_succ]
      refine wpAnyH_take (i := 10) (oi := ⟨_, _, _, _, _, _⟩) (v := ?_) rfl (by kernel_rfl) (by kernel_rfl) (by kernel_rfl) (fun _ _ _ h => h) (Or.inl ⟨by rfl, ?_⟩) (by assumption) ?_
      rotate_left 1
      · intro W' hSw
        obtain ⟨hS1, hS2, hS3, hS4⟩ := hSw
        go_simp
        try with_reducible rfl
      try simp only [Act.put, List.setIfInBounds_toArray, List.set_cons_zero, List.set_cons_succ]
      refine wpAnyH_done (by kernel_rfl) ?_ _
      go_wp2_with fail
      refine ⟨rfl, rfl, ⟨rfl, rfl, rfl, rfl, rfl, HK', j + 1, by omega, ?_⟩, ?_⟩
      · show Value.int .i64 _ = _
        go_num
      · show mn' - (intOf (Value.int .i64 _)).toNat < mn' - (intOf (F2 9)).toNat
        rw [H9.out]
        simp [intOf]; omega
    have hjn' : ¬ (j : Int) < (mn' : Int) := by omega
    clear hV hjn hj H9
    go_wp2_with fail
    refine wp_loop_f 111 (svX V2 b2 b3 b7 b8 i xn') (fun f _ => xn' - (intOf (f 10)).toNat) rfl ⟨rfl, rfl, rfl, rfl, rfl, HK, 0, by omega, rfl⟩ ?_
    clear HK hb7V hb8V
    intro F3 V5 hrel
    obtain ⟨f2, f3, f6, f7, f8, HK, j, hj, f10⟩ := hrel
    have H10 := hid_of f10
    rw [frame111, f2, f3, f6, f7, f8, f10]
    clear f2 f3 f6 f7 f8 f10
    obtain ⟨k0, hV⟩ := HK.out
    have hb7V : blk V5 b7 = some (rvE ar ta tn' tc ma mn' mc xa xn' xc) := by rw [hV, blk_drewN]; exact hb7
    have hb8V : blk V5 b8 = some (rvE ar ta' tn' tc' ma' mn' mc' xa' xn' xc') := by rw [hV, blk_drewN]; exact hb8
    by_cases hjn : j < xn'
    · obtain ⟨mv, hmv⟩ : ∃ mv, ixs[j]? = some mv := ⟨_, List.getElem?_eq_getElem (by rw [HX2.out.1.1]; exact hjn)⟩
      obtain ⟨bn, Cn, rfl, hCn, hcn, _, un⟩ := rw_cell (v := .bool mv) (HX2.out.1.drewN k0) hmv rfl
      obtain ⟨bu, Cu, rfl, hCu, hcu, _, uu⟩ := rw_cell (v := .bool mv) (HX2.out.2.drewN k0) hmv rfl
      rw [← hV] at hCn hCu
      have HK' : Hid (∃ k, V5.drew = V2.drewN k) := ⟨k0 + 1, by rw [hV]; rfl⟩
      have hjn' : (j : Int) < (xn' : Int) := by omega
      have p0 : (0 : Int) ≤ (j : Int) := by omega
      have p2 : ((j : Int)).toNat = j := by omega
      clear hV HK hmv
      go_upto_region 22 with fail
      refine wp_region_held_drew (S := fun W' => blk W' b7 = some (rvE ar ta tn' tc ma mn' mc (some ⟨bn, 0, none⟩) xn' xc) ∧ blk W' b8 = some (rvE ar ta' tn' tc' ma' mn' mc' (some ⟨bu, 0, none⟩) xn' xc') ∧ blk W' bn = some Cn ∧ blk W' bu = some Cu) (by kernel_rfl) ⟨hb7V, hb8V, hCn, hCu⟩ (fun hHeld => ?_)
      refine wpAnyH_take (i := 0) (oi := ⟨_, _, _, _, _, _⟩) (v := ?_) rfl (by kernel_rfl) (by kernel_rfl) (by kernel_rfl) (fun _ _ _ h => h) (Or.inl ⟨by rfl, ?_⟩) (by assumption) ?_
      rotate_left 1
      · intro W' hSw
        obtain ⟨hS1, hS2, hS3, hS4⟩ := hSw
        go_simp
        try with_reducible rfl
      try simp only [Act.put, List.setIfInBounds_toArray, List.set_cons_zero, List.set_cons_succ]
      refine wpAnyH_take (i := 1) (oi := ⟨_, _, _, _, _, _⟩) (v := ?_) rfl (by kernel_rfl) (by kernel_rfl) (by kernel_rfl) (fun _ _ _ h => h) (Or.inl ⟨by rfl, ?_⟩) (by assumption) ?_
      rotate_left 1
      · intro W' hSw
        obtain ⟨hS1, hS2, hS3, hS4⟩ := hSw
        go_simp
        try with_reducible rfl
      try simp only [Act.put, List.setIfInBounds_toArray, List.set_cons_zero, List.set_cons_succ]
      refine wpAnyH_take (i := 2) (oi := ⟨_, _, _, _, _, _⟩) (v := ?_) rfl (by kernel_rfl) (by kernel_rfl) (by kernel_rfl) (fun _ _ _ h => h) (Or.inl ⟨by rfl, ?_⟩) (by assumption) ?_
      rotate_left 1
      · intro W' hSw
        obtain ⟨hS1, hS2, hS3, hS4⟩ := hSw
        go_simp
        try with_reducible rfl
      try simp only [Act.put, List.setIfInBounds_toArray, List.set_cons_zero, List.set_cons_succ]
      refine wpAnyH_take (i := 3) (oi := ⟨_, _, _, _, _, _⟩) (v := ?_) rfl (by kernel_rfl) (by kernel_rfl) (by kernel_rfl) (fun _ _ _ h => h) (Or.inl ⟨by rfl, ?_⟩) (by assumption) ?_
      rotate_left 1
      · intro W' hSw
        obtain ⟨hS1, hS2, hS3, hS4⟩ := hSw
        go_simp
        try with_reducible rfl
      try simp only [Act.put, List.setIfInBounds_toArray, List.set_cons_zero, List.set_cons_succ]
      refine wpAnyH_take (i := 4) (oi := ⟨_, _, _, _, _, _⟩) (v := ?_) rfl (by kernel_rfl) (by kernel_rfl) (by kernel_rfl) (fun _ _ _ h => h) (Or.inl ⟨by rfl, ?_⟩) (by assumption) ?_
      rotate_left 1
      · intro W' hSw
        obtain ⟨hS1, hS2, hS3, hS4⟩ := hSw
        go_simp
        try with_reducible rfl
      try simp only [Act.put, List.setIfInBounds_toArray, List.set_cons_zero, List.set_cons_succ]
      refine wpAnyH_take (i := 5) (oi := ⟨_, _, _, _, _, _⟩) (v := ?_) rfl (by kernel_rfl) (by kernel_rfl) (by kernel_rfl) (fun _ _ _ h => h) (Or.inl ⟨by rfl, ?_⟩) (by assumption) ?_
      rotate_left 1
      · intro W' hSw
        obtain ⟨hS1, hS2, hS3, hS4⟩ := hSw
        go_simp
        try with_reducible rfl
      try simp only [Act.put, List.setIfInBounds_toArray, List.set_cons_zero, List.set_cons_succ]
      refine wpAnyH_take (i := 6) (oi := ⟨_, _, _, _, _, _⟩) (v := ?_) rfl (by kernel_rfl) (by kernel_rfl) (by kernel_rfl) (fun _ _ _ h => h) (Or.inl ⟨by rfl, ?_⟩) (by assumption) ?_
      rotate_left 1
      · intro W' hSw
        obtain ⟨hS1, hS2, hS3, hS4⟩ := hSw
        go_simp
        try with_reducible rfl
      try simp only [Act.put, List.setIfInBounds_toArray, List.set_cons_zero, List.set_cons_succ]
      refine wpAnyH_take (i := 7) (oi := ⟨_, _, _, _, _, _⟩) (v := ?_) rfl (by kernel_rfl) (by kernel_rfl) (by kernel_rfl) (fun _ _ _ h => h) (Or.inl ⟨by rfl, ?_⟩) (by assumption) ?_
      rotate_left 1
      · intro W' hSw
        obtain ⟨hS1, hS2, hS3, hS4⟩ := hSw
        go_simp
        try with_reducible rfl
      try simp only [Act.put, List.setIfInBounds_toArray, List.set_cons_zero, List.set_cons_succ]
      refine wpAnyH_take (i := 8) (oi := ⟨_, _, _, _, _, _⟩) (v := ?_) rfl (by kernel_rfl) (by kernel_rfl) (by kernel_rfl) (fun _ _ _ h => h) (Or.inl ⟨by rfl, ?_⟩) (by assumption) ?_
      rotate_left 1
      · intro W' hSw
        obtain ⟨hS1, hS2, hS3, hS4⟩ := hSw
        go_simp
        try with_reducible rfl
      try simp only [Act.put, List.setIfInBounds_toArray, List.set_cons_zero, List.set_cons_succ]
      refine wpAnyH_take (i := 9) (oi := ⟨_, _, _, _, _, _⟩) (v := ?_) rfl (by kernel_rfl) (by kernel_rfl) (by kernel_rfl) (fun _ _ _ h => h) (Or.inl ⟨by rfl, ?_⟩) (by assumption) ?_
      rotate_left 1
      · intro W' hSw
        obtain ⟨hS1, hS2, hS3, hS4⟩ := hSw
        go_simp
        try with_reducible rfl
      try simp only [Act.put, List.setIfInBounds_toArray, List.set_cons_zero, List.set_cons_succ]
      refine wpAnyH_take (i := 10) (oi := ⟨_, _, _, _, _, _⟩) (v := ?_) rfl (by kernel_rfl) (by kernel_rfl) (by kernel_rfl) (fun _ _ _ h => h) (Or.inl ⟨by rfl, ?_⟩) (by assumption) ?_
      rotate_left 1
      · intro W' hSw
        obtain ⟨hS1, hS2, hS3, hS4⟩ := hSw
        go_simp
        try with_reducible rfl
      try simp only [Act.put, List.setIfInBounds_toArray, List.set_cons_zero, List.set_cons_succ]
      refine wpAnyH_done (by kernel_rfl) ?_ _
      go_wp2_with fail
      refine ⟨rfl, rfl, ⟨rfl, rfl, rfl, rfl, rfl, HK', j + 1, by omega, ?_⟩, ?_⟩
      · show Value.int .i64 _ = _
        go_num
      · show xn' - (intOf (Value.int .i64 _)).toNat < xn' - (intOf (F3 10)).toNat
        rw [H10.out]
        simp [intOf]; omega
    have hjn' : ¬ (j : Int) < (xn' : Int) := by omega
    have HXE : Hid (W1.Extends V5) := by show W1.Extends V5; rw [hV]; exact extends_drewN HXV2.out _
    clear hV hjn hj HK
    go_wp2_with fail
    refine ⟨rfl, rfl, ⟨rfl, rfl, HXE, i + 1, by omega, ?_⟩, ?_⟩
    · show Value.int .i64 _ = _
      go_num
    · show rn' - (intOf (Value.int .i64 _)).toNat < rn' - (intOf (F1 6)).toNat
      rw [H6.out]
      simp [intOf]; omega
  · go_simp
    refine hK.out _ _ (hS11 _ (by repeat (first | exact ext_Ext (Ext.refl _) | refine extends_alloc ?_ _ | refine extends_drew ?_ | refine ext_putn ?_ (by omega) _))) (fun hHeld => ?_)
    clear hK K'
    try simp only [Act.put, List.setIfInBounds_toArray, List.set_cons_zero, List.set_cons_succ]
    refine wpAnyH_ready (rs := [10]) (by kernel_rfl) (by simp) ?_
    refine AllReadyH.cons (o := ⟨_, _, _, _, _, _⟩) rfl (fun K' hK => ?_) AllReadyH.nil
    go_simp
    refine hK.out _ _ (hS11 _ (by repeat (first | exact ext_Ext (Ext.refl _) | refine extends_alloc ?_ _ | refine extends_drew ?_ | refine ext_putn ?_ (by omega) _))) (fun hHeld => ?_)
    clear hK K'
    try simp only [Act.put, List.setIfInBounds_toArray, List.set_cons_zero, List.set_cons_succ]
    refine wpAnyH_ready (rs := [12]) (by kernel_rfl) (by simp) ?_
    refine AllReadyH.cons (o := ⟨_, _, _, _, _, _⟩) rfl (fun K' hK => ?_) AllReadyH.nil
    go_simp
    refine hK.out _ _ (hS11 _ (by repeat (first | exact ext_Ext (Ext.refl _) | refine extends_alloc ?_ _ | refine extends_drew ?_ | refine ext_putn ?_ (by omega) _))) (fun hHeld => ?_)
    clear hK K'
    try simp only [Act.put, List.setIfInBounds_toArray, List.set_cons_zero, List.set_cons_succ]
    refine wpAnyH_ready (rs := [13]) (by kernel_rfl) (by simp) ?_
    refine AllReadyH.cons (o := ⟨_, _, _, _, _, _⟩) rfl (fun K' hK => ?_) AllReadyH.nil
    go_simp
    refine hK.out _ _ (hS11 _ (by repeat (first | exact ext_Ext (Ext.refl _) | refine extends_alloc ?_ _ | refine extends_drew ?_ | refine ext_putn ?_ (by omega) _))) (fun hHeld => ?_)
    clear hK K'
    try simp only [Act.put, List.setIfInBounds_toArray, List.set_cons_zero, List.set_cons_succ]
    refine wpAnyH_done (by kernel_rfl) ?_ _
    clear hS11
    go_upto_region 12 with fail
    refine wp_world (fun W2 => blk W2 (V1.heap.size + 1) = some (rvE ar ta tn' tc ma mn' mc xa xn' xc) ∧ blk W2 (V1.heap.size) = some (rvE ar ta' tn' tc' ma' mn' mc' xa' xn' xc') ∧ V1.Extends W2) ⟨by simp [blk_put, blk_alloc, blk_drew, World.size_alloc, size_put], by simp [blk_put, blk_alloc, blk_drew, World.size_alloc, size_put], by repeat (first | exact ext_Ext (Ext.refl _) | refine extends_alloc ?_ _ | refine extends_drew ?_ | refine ext_putn ?_ (by omega) _)⟩ ?_
    rintro V2 ⟨hb7, hb8, hx2⟩
    obtain ⟨b7, e7⟩ : ∃ b7, b7 = V1.heap.size + 1 := ⟨_, rfl⟩
    obtain ⟨b8, e8⟩ : ∃ b8, b8 = V1.heap.size := ⟨_, rfl⟩
    try simp only [World.size_alloc]
    rw [← e7, ← e8]
    rw [← e8] at hb8
    rw [← e7] at hb7
    have hsl := sameList_eq V2 ta tn' tc ta' tn' tc' ts (HT.out.1.ext' hx2) (HT.out.2.ext' hx2) htn
    have HM2 : Hid (Rw encI 1 V2 ma mn' marks ∧ Rw encI 1 V2 ma' mn' marks) := ⟨HM.out.1.ext' hx2, HM.out.2.ext' hx2⟩
    have HX2 : Hid (Rw encB 1 V2 xa xn' ixs ∧ Rw encB 1 V2 xa' xn' ixs) := ⟨HXX.out.1.ext' hx2, HXX.out.2.ext' hx2⟩
    have HXV2 : Hid (W1.Extends V2) := HXV.out.trans hx2
    clear e7 e8 hx2 HT HM HXX HXV hb2V hb3V hCr hCq hcr hcq hsr hsq
    go_wp2_with fail
    refine hsl.mono ?_
    rintro e V3 ⟨rfl, k3, rfl⟩
    dsimp only
    go_wp2_with fail
    have HK0 : Hid (∃ k, V2.drewN k3 = V2.drewN k) := ⟨k3, rfl⟩
    refine wp_loop_f 111 (svM V2 b2 b3 b7 b8 i mn') (fun f _ => mn' - (intOf (f 9)).toNat) rfl ⟨rfl, rfl, rfl, rfl, rfl, HK0, 0, by omega, rfl⟩ ?_
    clear HK0 hsl
    intro F2 V4 hrel
    obtain ⟨f2, f3, f6, f7, f8, HK, j, hj, f9⟩ := hrel
    have H9 := hid_of f9
    rw [frame111, f2, f3, f6, f7, f8, f9]
    clear f2 f3 f6 f7 f8 f9
    obtain ⟨k0, hV⟩ := HK.out
    have hb7V : blk V4 b7 = some (rvE ar ta tn' tc ma mn' mc xa xn' xc) := by rw [hV, blk_drewN]; exact hb7
    have hb8V : blk V4 b8 = some (rvE ar ta' tn' tc' ma' mn' mc' xa' xn' xc') := by rw [hV, blk_drewN]; exact hb8
    by_cases hjn : j < mn'
    · obtain ⟨mv, hmv⟩ : ∃ mv, marks[j]? = some mv := ⟨_, List.getElem?_eq_getElem (by rw [HM2.out.1.1]; exact hjn)⟩
      obtain ⟨bn, Cn, rfl, hCn, hcn, _, un⟩ := rw_cell (v := .int .i64 mv) (HM2.out.1.drewN k0) hmv rfl
      obtain ⟨bu, Cu, rfl, hCu, hcu, _, uu⟩ := rw_cell (v := .int .i64 mv) (HM2.out.2.drewN k0) hmv rfl
      rw [← hV] at hCn hCu
      have HK' : Hid (∃ k, V4.drew = V2.drewN k) := ⟨k0 + 1, by rw [hV]; rfl⟩
      have hjn' : (j : Int) < (mn' : Int) := by omega
      have p0 : (0 : Int) ≤ (j : Int) := by omega
      have p2 : ((j : Int)).toNat = j := by omega
      clear hV HK hmv
      go_upto_region 17 with fail
      refine wp_region_held_drew (S := fun W' => blk W' b7 = some (rvE ar ta tn' tc (some ⟨bn, 0, none⟩) mn' mc xa xn' xc) ∧ blk W' b8 = some (rvE ar ta' tn' tc' (some ⟨bu, 0, none⟩) mn' mc' xa' xn' xc') ∧ blk W' bn = some Cn ∧ blk W' bu = some Cu) (by kernel_rfl) ⟨hb7V, hb8V, hCn, hCu⟩ (fun hHeld => ?_)
      refine wpAnyH_take (i := 0) (oi := ⟨_, _, _, _, _, _⟩) (v := ?_) rfl (by kernel_rfl) (by kernel_rfl) (by kernel_rfl) (fun _ _ _ h => h) (Or.inl ⟨by rfl, ?_⟩) (by assumption) ?_
      rotate_left 1
      · intro W' hSw
        obtain ⟨hS1, hS2, hS3, hS4⟩ := hSw
        go_simp
        try with_reducible rfl
      try simp only [Act.put, List.setIfInBounds_toArray, List.set_cons_zero, List.set_cons_succ]
      refine wpAnyH_take (i := 1) (oi := ⟨_, _, _, _, _, _⟩) (v := ?_) rfl (by kernel_rfl) (by kernel_rfl) (by kernel_rfl) (fun _ _ _ h => h) (Or.inl ⟨by rfl, ?_⟩) (by assumption) ?_
      rotate_left 1
      · intro W' hSw
        obtain ⟨hS1, hS2, hS3, hS4⟩ := hSw
        go_simp
        try with_reducible rfl
      try simp only [Act.put, List.setIfInBounds_toArray, List.set_cons_zero, List.set_cons_succ]
      refine wpAnyH_take (i := 2) (oi := ⟨_, _, _, _, _, _⟩) (v := ?_) rfl (by kernel_rfl) (by kernel_rfl) (by kernel_rfl) (fun _ _ _ h => h) (Or.inl ⟨by rfl, ?_⟩) (by assumption) ?_
      rotate_left 1
      · intro W' hSw
        obtain ⟨hS1, hS2, hS3, hS4⟩ := hSw
        go_simp
        try with_reducible rfl
      try simp only [Act.put, List.setIfInBounds_toArray, List.set_cons_zero, List.set_cons_succ]
      refine wpAnyH_take (i := 3) (oi := ⟨_, _, _, _, _, _⟩) (v := ?_) rfl (by kernel_rfl) (by kernel_rfl) (by kernel_rfl) (fun _ _ _ h => h) (Or.inl ⟨by rfl, ?_⟩) (by assumption) ?_
      rotate_left 1
      · intro W' hSw
        obtain ⟨hS1, hS2, hS3, hS4⟩ := hSw
        go_simp
        try with_reducible rfl
      try simp only [Act.put, List.setIfInBounds_toArray, List.set_cons_zero, List.set_cons_succ]
      refine wpAnyH_take (i := 4) (oi := ⟨_, _, _, _, _, _⟩) (v := ?_) rfl (by kernel_rfl) (by kernel_rfl) (by kernel_rfl) (fun _ _ _ h => h) (Or.inl ⟨by rfl, ?_⟩) (by assumption) ?_
      rotate_left 1
      · intro W' hSw
        obtain ⟨hS1, hS2, hS3, hS4⟩ := hSw
        go_simp
        try with_reducible rfl
      try simp only [Act.put, List.setIfInBounds_toArray, List.set_cons_zero, List.set_cons_succ]
      refine wpAnyH_take (i := 5) (oi := ⟨_, _, _, _, _, _⟩) (v := ?_) rfl (by kernel_rfl) (by kernel_rfl) (by kernel_rfl) (fun _ _ _ h => h) (Or.inl ⟨by rfl, ?_⟩) (by assumption) ?_
      rotate_left 1
      · intro W' hSw
        obtain ⟨hS1, hS2, hS3, hS4⟩ := hSw
        go_simp
        try with_reducible rfl
      try simp only [Act.put, List.setIfInBounds_toArray, List.set_cons_zero, List.set_cons_succ]
      refine wpAnyH_take (i := 6) (oi := ⟨_, _, _, _, _, _⟩) (v := ?_) rfl (by kernel_rfl) (by kernel_rfl) (by kernel_rfl) (fun _ _ _ h => h) (Or.inl ⟨by rfl, ?_⟩) (by assumption) ?_
      rotate_left 1
      · intro W' hSw
        obtain ⟨hS1, hS2, hS3, hS4⟩ := hSw
        go_simp
        try with_reducible rfl
      try simp only [Act.put, List.setIfInBounds_toArray, List.set_cons_zero, List.set_cons_succ]
      refine wpAnyH_take (i := 7) (oi := ⟨_, _, _, _, _, _⟩) (v := ?_) rfl (by kernel_rfl) (by kernel_rfl) (by kernel_rfl) (fun _ _ _ h => h) (Or.inl ⟨by rfl, ?_⟩) (by assumption) ?_
      rotate_left 1
      · intro W' hSw
        obtain ⟨hS1, hS2, hS3, hS4⟩ := hSw
        go_simp
        try with_reducible rfl
      try simp only [Act.put, List.setIfInBounds_toArray, List.set_cons_zero, List.set_cons_succ]
      refine wpAnyH_take (i := 8) (oi := ⟨_, _, _, _, _, _⟩) (v := ?_) rfl (by kernel_rfl) (by kernel_rfl) (by kernel_rfl) (fun _ _ _ h => h) (Or.inl ⟨by rfl, ?_⟩) (by assumption) ?_
      rotate_left 1
      · intro W' hSw
        obtain ⟨hS1, hS2, hS3, hS4⟩ := hSw
        go_simp
        try with_reducible rfl
      try simp only [Act.put, List.setIfInBounds_toArray, List.set_cons_zero, List.set_cons_succ]
      refine wpAnyH_take (i := 9) (oi := ⟨_, _, _, _, _, _⟩) (v := ?_) rfl (by kernel_rfl) (by kernel_rfl) (by kernel_rfl) (fun _ _ _ h => h) (Or.inl ⟨by rfl, ?_⟩) (by assumption) ?_
      rotate_left 1
      · intro W' hSw
        obtain ⟨hS1, hS2, hS3, hS4⟩ := hSw
        go_simp
        try with_reducible rfl
      try simp only [Act.put, List.setIfInBounds_toArray, List.set_cons_zero, List.set_cons_succ]
      refine wpAnyH_take (i := 10) (oi := ⟨_, _, _, _, _, _⟩) (v := ?_) rfl (by kernel_rfl) (by kernel_rfl) (by kernel_rfl) (fun _ _ _ h => h) (Or.inl ⟨by rfl, ?_⟩) (by assumption) ?_
      rotate_left 1
      · intro W' hSw
        obtain ⟨hS1, hS2, hS3, hS4⟩ := hSw
        go_simp
        try with_reducible rfl
      try simp only [Act.put, List.setIfInBounds_toArray, List.set_cons_zero, List.set_cons_succ]
      refine wpAnyH_done (by kernel_rfl) ?_ _
      go_wp2_with fail
      refine ⟨rfl, rfl, ⟨rfl, rfl, rfl, rfl, rfl, HK', j + 1, by omega, ?_⟩, ?_⟩
      · show Value.int .i64 _ = _
        go_num
      · show mn' - (intOf (Value.int .i64 _)).toNat < mn' - (intOf (F2 9)).toNat
        rw [H9.out]
        simp [intOf]; omega
    have hjn' : ¬ (j : Int) < (mn' : Int) := by omega
    clear hV hjn hj H9
    go_wp2_with fail
    refine wp_loop_f 111 (svX V2 b2 b3 b7 b8 i xn') (fun f _ => xn' - (intOf (f 10)).toNat) rfl ⟨rfl, rfl, rfl, rfl, rfl, HK, 0, by omega, rfl⟩ ?_
    clear HK hb7V hb8V
    intro F3 V5 hrel
    obtain ⟨f2, f3, f6, f7, f8, HK, j, hj, f10⟩ := hrel
    have H10 := hid_of f10
    rw [frame111, f2, f3, f6, f7, f8, f10]
    clear f2 f3 f6 f7 f8 f10
    obtain ⟨k0, hV⟩ := HK.out
    have hb7V : blk V5 b7 = some (rvE ar ta tn' tc ma mn' mc xa xn' xc) := by rw [hV, blk_drewN]; exact hb7
    have hb8V : blk V5 b8 = some (rvE ar ta' tn' tc' ma' mn' mc' xa' xn' xc') := by rw [hV, blk_drewN]; exact hb8
    by_cases hjn : j < xn'
    · obtain ⟨mv, hmv⟩ : ∃ mv, ixs[j]? = some mv := ⟨_, List.getElem?_eq_getElem (by rw [HX2.out.1.1]; exact hjn)⟩
      obtain ⟨bn, Cn, rfl, hCn, hcn, _, un⟩ := rw_cell (v := .bool mv) (HX2.out.1.drewN k0) hmv rfl
      obtain ⟨bu, Cu, rfl, hCu, hcu, _, uu⟩ := rw_cell (v := .bool mv) (HX2.out.2.drewN k0) hmv rfl
      rw [← hV] at hCn hCu
      have HK' : Hid (∃ k, V5.drew = V2.drewN k) := ⟨k0 + 1, by rw [hV]; rfl⟩
      have hjn' : (j : Int) < (xn' : Int) := by omega
      have p0 : (0 : Int) ≤ (j : Int) := by omega
      have p2 : ((j : Int)).toNat = j := by omega
      clear hV HK hmv
      go_upto_region 22 with fail
      refine wp_region_held_drew (S := fun W' => blk W' b7 = some (rvE ar ta tn' tc ma mn' mc (some ⟨bn, 0, none⟩) xn' xc) ∧ blk W' b8 = some (rvE ar ta' tn' tc' ma' mn' mc' (some ⟨bu, 0, none⟩) xn' xc') ∧ blk W' bn = some Cn ∧ blk W' bu = some Cu) (by kernel_rfl) ⟨hb7V, hb8V, hCn, hCu⟩ (fun hHeld => ?_)
      refine wpAnyH_take (i := 0) (oi := ⟨_, _, _, _, _, _⟩) (v := ?_) rfl (by kernel_rfl) (by kernel_rfl) (by kernel_rfl) (fun _ _ _ h => h) (Or.inl ⟨by rfl, ?_⟩) (by assumption) ?_
      rotate_left 1
      · intro W' hSw
        obtain ⟨hS1, hS2, hS3, hS4⟩ := hSw
        go_simp
        try with_reducible rfl
      try simp only [Act.put, List.setIfInBounds_toArray, List.set_cons_zero, List.set_cons_succ]
      refine wpAnyH_take (i := 1) (oi := ⟨_, _, _, _, _, _⟩) (v := ?_) rfl (by kernel_rfl) (by kernel_rfl) (by kernel_rfl) (fun _ _ _ h => h) (Or.inl ⟨by rfl, ?_⟩) (by assumption) ?_
      rotate_left 1
      · intro W' hSw
        obtain ⟨hS1, hS2, hS3, hS4⟩ := hSw
        go_simp
        try with_reducible rfl
      try simp only [Act.put, List.setIfInBounds_toArray, List.set_cons_zero, List.set_cons_succ]
      refine wpAnyH_take (i := 2) (oi := ⟨_, _, _, _, _, _⟩) (v := ?_) rfl (by kernel_rfl) (by kernel_rfl) (by kernel_rfl) (fun _ _ _ h => h) (Or.inl ⟨by rfl, ?_⟩) (by assumption) ?_
      rotate_left 1
      · intro W' hSw
        obtain ⟨hS1, hS2, hS3, hS4⟩ := hSw
        go_simp
        try with_reducible rfl
      try simp only [Act.put, List.setIfInBounds_toArray, List.set_cons_zero, List.set_cons_succ]
      refine wpAnyH_take (i := 3) (oi := ⟨_, _, _, _, _, _⟩) (v := ?_) rfl (by kernel_rfl) (by kernel_rfl) (by kernel_rfl) (fun _ _ _ h => h) (Or.inl ⟨by rfl, ?_⟩) (by assumption) ?_
      rotate_left 1
      · intro W' hSw
        obtain ⟨hS1, hS2, hS3, hS4⟩ := hSw
        go_simp
        try with_reducible rfl
      try simp only [Act.put, List.setIfInBounds_toArray, List.set_cons_zero, List.set_cons_succ]
      refine wpAnyH_take (i := 4) (oi := ⟨_, _, _, _, _, _⟩) (v := ?_) rfl (by kernel_rfl) (by kernel_rfl) (by kernel_rfl) (fun _ _ _ h => h) (Or.inl ⟨by rfl, ?_⟩) (by assumption) ?_
      rotate_left 1
      · intro W' hSw
        obtain ⟨hS1, hS2, hS3, hS4⟩ := hSw
        go_simp
        try with_reducible rfl
      try simp only [Act.put, List.setIfInBounds_toArray, List.set_cons_zero, List.set_cons_succ]
      refine wpAnyH_take (i := 5) (oi := ⟨_, _, _, _, _, _⟩) (v := ?_) rfl (by kernel_rfl) (by kernel_rfl) (by kernel_rfl) (fun _ _ _ h => h) (Or.inl ⟨by rfl, ?_⟩) (by assumption) ?_
      rotate_left 1
      · intro W' hSw
        obtain ⟨hS1, hS2, hS3, hS4⟩ := hSw
        go_simp
        try with_reducible rfl
      try simp only [Act.put, List.setIfInBounds_toArray, List.set_cons_zero, List.set_cons_succ]
      refine wpAnyH_take (i := 6) (oi := ⟨_, _, _, _, _, _⟩) (v := ?_) rfl (by kernel_rfl) (by kernel_rfl) (by kernel_rfl) (fun _ _ _ h => h) (Or.inl ⟨by rfl, ?_⟩) (by assumption) ?_
      rotate_left 1
      · intro W' hSw
        obtain ⟨hS1, hS2, hS3, hS4⟩ := hSw
        go_simp
        try with_reducible rfl
      try simp only [Act.put, List.setIfInBounds_toArray, List.set_cons_zero, List.set_cons_succ]
      refine wpAnyH_take (i := 7) (oi := ⟨_, _, _, _, _, _⟩) (v := ?_) rfl (by kernel_rfl) (by kernel_rfl) (by kernel_rfl) (fun _ _ _ h => h) (Or.inl ⟨by rfl, ?_⟩) (by assumption) ?_
      rotate_left 1
      · intro W' hSw
        obtain ⟨hS1, hS2, hS3, hS4⟩ := hSw
        go_simp
        try with_reducible rfl
      try simp only [Act.put, List.setIfInBounds_toArray, List.set_cons_zero, List.set_cons_succ]
      refine wpAnyH_take (i := 8) (oi := ⟨_, _, _, _, _, _⟩) (v := ?_) rfl (by kernel_rfl) (by kernel_rfl) (by kernel_rfl) (fun _ _ _ h => h) (Or.inl ⟨by rfl, ?_⟩) (by assumption) ?_
      rotate_left 1
      · intro W' hSw
        obtain ⟨hS1, hS2, hS3, hS4⟩ := hSw
        go_simp
        try with_reducible rfl
      try simp only [Act.put, List.setIfInBounds_toArray, List.set_cons_zero, List.set_cons_succ]
      refine wpAnyH_take (i := 9) (oi := ⟨_, _, _, _, _, _⟩) (v := ?_) rfl (by kernel_rfl) (by kernel_rfl) (by kernel_rfl) (fun _ _ _ h => h) (Or.inl ⟨by rfl, ?_⟩) (by assumption) ?_
      rotate_left 1
      · intro W' hSw
        obtain ⟨hS1, hS2, hS3, hS4⟩ := hSw
        go_simp
        try with_reducible rfl
      try simp only [Act.put, List.setIfInBounds_toArray, List.set_cons_zero, List.set_cons_succ]
      refine wpAnyH_take (i := 10) (oi := ⟨_, _, _, _, _, _⟩) (v := ?_) rfl (by kernel_rfl) (by kernel_rfl) (by kernel_rfl) (fun _ _ _ h => h) (Or.inl ⟨by rfl, ?_⟩) (by assumption) ?_
      rotate_left 1
      · intro W' hSw
        obtain ⟨hS1, hS2, hS3, hS4⟩ := hSw
        go_simp
        try with_reducible rfl
      try simp only [Act.put, List.setIfInBounds_toArray, List.set_cons_zero, List.set_cons_succ]
      refine wpAnyH_done (by kernel_rfl) ?_ _
      go_wp2_with fail
      refine ⟨rfl, rfl, ⟨rfl, rfl, rfl, rfl, rfl, HK', j + 1, by omega, ?_⟩, ?_⟩
      · show Value.int .i64 _ = _
        go_num
      · show xn' - (intOf (Value.int .i64 _)).toNat < xn' - (intOf (F3 10)).toNat
        rw [H10.out]
        simp [intOf]; omega
    have hjn' : ¬ (j : Int) < (xn' : Int) := by omega
    have HXE : Hid (W1.Extends V5) := by show W1.Extends V5; rw [hV]; exact extends_drewN HXV2.out _
    clear hV hjn hj HK
    go_wp2_with fail
    refine ⟨rfl, rfl, ⟨rfl, rfl, HXE, i + 1, by omega, ?_⟩, ?_⟩
    · show Value.int .i64 _ = _
      go_num
    · show rn' - (intOf (Value.int .i64 _)).toNat < rn' - (intOf (F1 6)).toNat
      rw [H6.out]
      simp [intOf]; omega
end Go.Proofs.Qxb6500789a
