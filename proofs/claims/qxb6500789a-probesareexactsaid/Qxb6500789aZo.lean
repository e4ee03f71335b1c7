import Derived.Test.Qxb6500789aZn
import Derived.StillTailTactics
import Derived.Deep.QuietTactic
import Derived.BigQuiet
import Derived.Deep.RegionHeld
import Derived.Deep.CutRange
import Derived.Laws.ResultCell
import Derived.Laws.Rows
import Derived.DeepKeys
import Derived.DataBytes
import Derived.Laws.StructEq
import Derived.Laws.AppendOwn
import Derived.Laws.MakeOwn
import Derived.Lib.AppendStr
set_option linter.unusedSimpArgs false
set_option linter.unusedVariables false
namespace Go.Proofs.Qxb6500789a
open Go.RowKit Go.Blk
attribute [local go_sem ↓] execOp_load execOp_store execOp_alloc
attribute [local go_sem] Try.ld29 Try.st29 Try.ld3 Try.st3 Try.ld9 Try.st9 Try.ld30 Try.st30 Try.ld34 Try.st34 Try.ld35 Try.st35 Try.ld36 Try.st36 Try.ld37 Try.st37 Try.ld44 Try.st44 Try.ld45 Try.st45 Try.ld54 Try.st54 Try.ld55 Try.st55 Try.ld74 Try.st74 Try.ld80 Try.st80 Try.ld84 Try.st84 Try.ld106 Try.st106 Try.ld107 Try.st107 Try.ld4 Try.st4 Try.ld121 Try.st121 Try.ld2 Try.st2 Try.ld5 Try.st5 Try.ld12 Try.st12 Try.ld21 Try.st21 Try.ld22 Try.st22 Try.ld24 Try.st24 Try.ld26 Try.st26 Try.ld63 Try.st63 Try.ld71 Try.st71 Try.ld103 Try.st103 Try.ld130 Try.st130 Try.ld133 Try.st133 Try.ld140 Try.st140 Try.ld152 Try.st152 Try.ld39 Try.st39 Try.ld32 Try.st32 Try.ld41 Try.st41 Try.ld47 Try.st47 Try.ld57 Try.st57 Try.ld62 Try.st62 Try.ld76 Try.st76 Try.ld82 Try.st82 Try.ld86 Try.st86 Try.ld109 Try.st109 Try.ld115 Try.st115 Try.ld123 Try.st123 Try.ld135 Try.st135 Try.al39 Try.al32 Try.al41 Try.al47 Try.al57 Try.al62 Try.al76 Try.al82 Try.al86 Try.al109 Try.al115 Try.al123 Try.al135
attribute [local go_sem] Answer.length_enc Answer.ok_enc Answer.all_get Answer.all_set Answer.code_get Answer.code_set Answer.n_get Answer.n_set Answer.name_get Answer.name_set Answer.rows_get Answer.rows_set GOp.length_enc GOp.ok_enc GOp.all_get GOp.all_set GOp.kind_get GOp.kind_set GOp.rel_get GOp.rel_set GOp.mask_get GOp.mask_set GOp.t_get GOp.t_set GOp.n_get GOp.n_set GOp.name_get GOp.name_set Store.length_enc Store.ok_enc Store.all_get Store.all_set Store.names_get Store.names_set Store.rels_get Store.rels_set GRel.length_enc GRel.ok_enc GRel.all_get GRel.all_set GRel.arity_get GRel.arity_set GRel.masks_get GRel.masks_set GRel.rows_get GRel.rows_set Row.length_enc Row.ok_enc Row.all_get Row.all_set Row.t_get Row.t_set Row.mark_get Row.mark_set View.length_enc View.ok_enc View.all_get View.all_set View.names_get View.names_set View.rels_get View.rels_set Symtab.length_enc Symtab.ok_enc Symtab.all_get Symtab.all_set Symtab.names_get Symtab.names_set Symtab.table_get Symtab.table_set StoreTuplestore.length_enc StoreTuplestore.ok_enc StoreTuplestore.all_get StoreTuplestore.all_set StoreTuplestore.syms_get StoreTuplestore.syms_set StoreTuplestore.rels_get StoreTuplestore.rels_set StoreTuplestore.syms_names_get StoreTuplestore.syms_names_set StoreTuplestore.syms_table_get StoreTuplestore.syms_table_set Relation.length_enc Relation.ok_enc Relation.all_get Relation.all_set Relation.arity_get Relation.arity_set Relation.slots_get Relation.slots_set Relation.live_get Relation.live_set Relation.idx_get Relation.idx_set Slot.length_enc Slot.ok_enc Slot.all_get Slot.all_set Slot.t_get Slot.t_set Slot.mark_get Slot.mark_set Slot.live_get Slot.live_set RelView.length_enc RelView.ok_enc RelView.all_get RelView.all_set RelView.arity_get RelView.arity_set RelView.rows_get RelView.rows_set RelView.marks_get RelView.marks_set RelView.indexed_get RelView.indexed_set Index.length_enc Index.ok_enc Index.all_get Index.all_set Index.mask_get Index.mask_set Index.heads_get Index.heads_set Index.next_get Index.next_set
attribute [local go_sem] size_put size_ext blk_put free_put blk_alloc free_alloc blk_drew free_drew blk_ext free_ext lookOr_some putOr_some segAt_some cellAt_some storeIn_some put_put put_alloc_new length_arr ok_arr_u8 ok_arr_u32 ok_arr_u64 ok_arr_i64 ok_arr_sl cellsV_agg cellsV_int cellsV_bool cellsV_string cellsV_pointer cellsV_slice cellsV_sl ok_int ok_bool ok_string ok_pointer ok_slice ok_sl toList_arr seg_arr set_arr nth_splice nth_splice0 seg_splice seg_splice0 splice_splice splice_splice0 length_splice_if
attribute [local go_sem ↓] execOp_box
attribute [local go_sem] box_run nth_arr_u8 put_arr_u8 blk_drewN free_drewN put_drewN blk_raw free_raw
attribute [local go_sem] v_len v_ok v_n0 v_n1 v_s0 v_s1 v_all v_put
theorem play_rels {st st' : StS} {op : GOp} {A : Answer} {ts : List Tup} (h : PlayR st op st' A ts) : st.rels.length ≤ st'.rels.length := by
  have hact : ∀ {c : Int} {id : Int} {P : RelS → RelS → Prop} {st' : StS}, ActR c st id P st' → st.rels.length ≤ st'.rels.length := by
    intro c id P st' h
    by_cases hc : c = 0
    · obtain ⟨s, s', _, rfl, _⟩ := h.2 hc
      exact Nat.le_of_eq List.length_set.symm
    · rw [h.1 hc]; exact Nat.le_refl _
  cases h with
  | define hk =>
    unfold defF
    split
    · split
      · exact Nat.le_refl _
      · rw [List.length_append]; omega
    · exact Nat.le_refl _
  | index hk hR => exact hact hR
  | insert hk hR => exact hact hR
  | delete hk hR => exact hact hR
  | compact hk hR => exact hact hR
  | clear hk hR => exact hact hR
  | setMark hk hR => exact hact hR
  | _ => exact Nat.le_refl _
theorem ins_was {st : StS} (h : RowsOk st) {id : Int} {t : Tup} : decide (t ∈ (rowsS st id).map (·.1)) = (insF st id t == 1) := by
  unfold insF
  by_cases hm : t ∈ (rowsS st id).map (·.1)
  · rw [decide_eq_true hm, if_pos (h id t hm), if_pos hm]; rfl
  · rw [decide_eq_false hm]
    rcases row_codes st id t with e | e | e | e
    · rw [if_pos e, if_neg hm]
      split <;> rfl
    all_goals rw [if_neg (by rw [e]; decide), e]; rfl
theorem del_was {st : StS} (h : RowsOk st) {id : Int} {t : Tup} : decide (t ∈ (rowsS st id).map (·.1)) = (delF st id t == 0) := by
  unfold delF
  by_cases hm : t ∈ (rowsS st id).map (·.1)
  · rw [decide_eq_true hm, if_pos (h id t hm), if_pos hm]; rfl
  · rw [decide_eq_false hm]
    rcases row_codes st id t with e | e | e | e
    · rw [if_pos e, if_neg hm]; rfl
    all_goals rw [if_neg (by rw [e]; decide), e]; rfl
theorem contains_mem {st : StS} (h : RowsOk st) (id : Int) (t : Tup) : (containsF st id t).1 = decide (t ∈ (rowsS st id).map (·.1)) := by
  unfold containsF
  by_cases hc : rowCode st id t = 0
  · rw [if_pos hc]
  · rw [if_neg hc]
    exact (decide_eq_false (fun hm => hc (h id t hm))).symm
theorem frame_of {n : Nat} (arr : Array Value) (h : arr.size = n) : arr = frameN n (fun k => arr.getD k undef) := by
  subst h
  apply Array.ext
  · simp [frameN]
  · intro i h1 h2
    simp [frameN, Array.getD, h1]
theorem cut_intro {n : Nat} {P : (Nat → Value) → Prop} (arr : Array Value) (h : arr.size = n) (hP : P (fun k => arr.getD k undef)) : ∃ f, (⟨arr, []⟩ : Act) = ⟨frameN n f, []⟩ ∧ P f := ⟨_, by rw [← frame_of arr h], hP⟩
def l4I (W0 : World) (a : Option Addr) (len cap B bs bm : Nat) (f : Nat → Value) (W : World) : Prop := f 0 = .slice a len cap ∧ f 3 = .pointer (some ⟨bs, 0, none⟩) ∧ f 4 = .pointer (some ⟨bm, 0, none⟩) ∧ ∃ i : Nat, i ≤ len ∧ f 5 = .int .i64 (i : Nat) ∧ Hid (L4 W0 B bs bm W)
set_option maxRecDepth 100000 in
theorem frame148 (f : Nat → Value) : frameN 148 f = #[f 0, f 1, f 2, f 3, f 4, f 5, f 6, f 7, f 8, f 9, f 10, f 11, f 12, f 13, f 14, f 15, f 16, f 17, f 18, f 19, f 20, f 21, f 22, f 23, f 24, f 25, f 26, f 27, f 28, f 29, f 30, f 31, f 32, f 33, f 34, f 35, f 36, f 37, f 38, f 39, f 40, f 41, f 42, f 43, f 44, f 45, f 46, f 47, f 48, f 49, f 50, f 51, f 52, f 53, f 54, f 55, f 56, f 57, f 58, f 59, f 60, f 61, f 62, f 63, f 64, f 65, f 66, f 67, f 68, f 69, f 70, f 71, f 72, f 73, f 74, f 75, f 76, f 77, f 78, f 79, f 80, f 81, f 82, f 83, f 84, f 85, f 86, f 87, f 88, f 89, f 90, f 91, f 92, f 93, f 94, f 95, f 96, f 97, f 98, f 99, f 100, f 101, f 102, f 103, f 104, f 105, f 106, f 107, f 108, f 109, f 110, f 111, f 112, f 113, f 114, f 115, f 116, f 117, f 118, f 119, f 120, f 121, f 122, f 123, f 124, f 125, f 126, f 127, f 128, f 129, f 130, f 131, f 132, f 133, f 134, f 135, f 136, f 137, f 138, f 139, f 140, f 141, f 142, f 143, f 144, f 145, f 146, f 147] := by kernel_rfl
set_option maxRecDepth 20000 in
set_option maxHeartbeats 4000000 in
theorem law4_any (W : World) (a : Option Addr) (len cap : Nat) (g : Nat → GOp) (hS : ScriptAt W a len cap g) :
    Calls Try.prog 4 #[.slice a len cap] W fun e W' => e = .returned (.bool true) ∧ W.Extends W' := by
  have HS : Hid (ScriptAt W a len cap g) := hS
  have hm : len ≤ 9223372036854775807 := by have := hS.1; have := hS.2.1; simp only [maxLen] at this; omega
  have hsm := small_any W a len cap g hS
  clear hS
  go_enter Try.func4, Try.ntmps4
  go_wp2_with fail
  refine hsm.mono ?_
  rintro e W1 ⟨⟨r, rfl, hr⟩, rfl⟩
  cases r with
  | false =>
    dsimp only
    go_wp2_with fail
    go_ret
    exact ⟨rfl, ext_Ext (Ext.refl _)⟩
  | true =>
  obtain ⟨hlen, hnames⟩ := hr rfl
  have HNAM : Hid (∀ i, i < len → (g i).name.size ≤ 65536) := hnames
  clear hr hnames hsm
  dsimp only
  go_wp2_with fail
  refine (newS_any W1.heap.size (fun _ => .no) W1 (Nat.le_refl _)).mono ?_
  rintro e W2 ⟨bs, O2, rfl, hx2, hk2, hbs, hst2⟩
  have hjn := j_new (B := W1.heap.size) rfl hst2 hx2 (fun k hk => hk2 k hk)
  clear hx2 hk2 hbs hst2
  dsimp only
  go_wp2_with fail
  refine hjn.mono ?_
  rintro e W3 ⟨bm, rfl, O3, hj3⟩
  obtain ⟨B, hB⟩ : ∃ B, B = W1.heap.size := ⟨_, rfl⟩
  rw [← hB] at hj3
  have HLI : Hid (L4 W1 B bs bm W3) := ⟨O3, _, _, hj3, Eqv.nil, RowsOk.nil⟩
  clear hB hj3 hjn
  dsimp only
  go_wp2_with fail
  refine wp_loop_f 148 (l4I W1 a len cap B bs bm) (fun f _ => len - (intOf (f 5)).toNat) rfl ⟨rfl, rfl, rfl, 0, by omega, rfl, HLI⟩ ?_
  clear HLI
  intro F V hrel
  obtain ⟨f0, f3, f4, i, hi, f5, HLI⟩ := hrel
  have H5 := hid_of f5
  rw [frame148, f0, f3, f4, f5]
  clear f0 f3 f4 f5
  by_cases hil : i < len
  rotate_left 1
  · obtain rfl : i = len := by omega
    have hil' : ¬ (i : Int) < (i : Int) := by omega
    obtain ⟨O, st, sm, hJ, hE, hRO⟩ := HLI.out
    have HX := hid_of hJ.x
    clear hJ hE hRO HLI
    go_wp2_with fail
    go_ret
    exact ⟨rfl, HX.out⟩
  have hil' : (i : Int) < (len : Int) := by omega
  obtain ⟨O, st, sm, hJ, hE, hRO⟩ := HLI.out
  obtain ⟨b, o, C, rfl, hC, hlC, hseg⟩ := (HS.out.mono hJ.x).2.2.2 (by omega)
  obtain ⟨hC1, hbW⟩ : blk W1 b = some C ∧ b < W1.heap.size := by
    obtain ⟨b', o', C', e1, e2, _⟩ := HS.out.2.2.2 (by omega)
    injection e1 with e1
    injection e1 with e1
    have h2 := (hJ.x.blk (blk_lt e2)).trans e2
    rw [← e1, hC] at h2
    rw [← e1] at e2
    have := Option.some.inj h2
    rw [this]
    exact ⟨e2, blk_lt e2⟩
  have hs := hseg i hil
  obtain ⟨op, hop⟩ : ∃ op, op = g i := ⟨_, rfl⟩
  rw [← hop] at hs
  have hmask : op.mask ≤ 9223372036854775807 := by rw [hop]; exact (HS.out.2.2.1 i hil).2.1
  have hnm : (nmO op).length ≤ 1000000 := by
    have := HNAM.out i hil
    rw [← hop] at this
    unfold nmO
    have h2 : op.name.data.toList.length = op.name.size := Array.length_toList
    omega
  have hle : (i + 1) * 9 ≤ len * 9 := Nat.mul_le_mul_right _ (by omega)
  have q0 : (0 : Int) ≤ (i : Int) := by omega
  have q2 : ((i : Int)).toNat = i := by omega
  have q3 : o + i * 9 + 9 ≤ C.length := by omega
  have q4 : o + i * 9 < C.length := by omega
  have HE := hid_of hE
  have HRO := hid_of hRO
  have HND : Hid (∀ id, ((rowsS st id).map (·.1)).Nodup) := fun id => hJ.s.nodup id
  have HMSM := hid_of (hJ.s.msm hE)
  have HSML : Hid (∀ st' A ts, PlayR st op st' A ts → ts.length ≤ 10000) := fun st' A ts h => play_small hJ.s h
  have HJ := hid_of hJ
  clear hseg hlC hle hop hJ hE hRO HLI hil hC1 hbW
  go_upto_region 8 with fail
  refine wp_world (fun V1 => blk V1 V.heap.size = some (GOp.enc op) ∧ V.Extends V1) ⟨?_, ?_⟩ ?_
  · rw [blk_alloc, if_pos rfl]
  · exact extends_alloc (ext_Ext (Ext.refl _)) _
  rintro V1 ⟨hb6, hx1⟩
  obtain ⟨b6, e6⟩ : ∃ b6, b6 = V.heap.size := ⟨_, rfl⟩
  rw [← e6] at hb6 ⊢
  have hJ1 := HJ.out.new hx1
  have ho6 : lab O V.heap.size .no b6 = .no := lab_ge (by omega)
  obtain ⟨O1, hO1⟩ : ∃ O1, O1 = lab O V.heap.size .no := ⟨_, rfl⟩
  rw [← hO1] at hJ1 ho6
  have HJ1 := hid_of hJ1
  have HO6 := hid_of ho6
  obtain ⟨na, nn, nc, ra, rn, rc, hbm, _, hrn, _, _⟩ := mat_bad hJ1.m
  have HRN := hid_of hrn
  obtain ⟨kn, hkn⟩ : ∃ kn, kn = decide (0 ≤ op.rel ∧ op.rel < (rn : Int)) := ⟨_, rfl⟩
  have HKN := hid_of hkn
  clear hs hC hx1 e6 hO1 hJ1 ho6 hrn hkn HJ q3 q4
  go_upto_region 8 with fail
  refine wp_cutR (fun a0 a' w' => ∃ f : Nat → Value, a' = ⟨frameN 148 f, []⟩ ∧ f 0 = .slice (some ⟨b, o, none⟩) len cap ∧ f 3 = .pointer (some ⟨bs, 0, none⟩) ∧ f 4 = .pointer (some ⟨bm, 0, none⟩) ∧ f 5 = .int .i64 (i : Nat) ∧ f 6 = .pointer (some ⟨b6, 0, none⟩) ∧ f 7 = .bool kn ∧ w' = V1.drew) ?_ ?_
  · by_cases hr0 : 0 ≤ op.rel
    · by_cases hr1 : op.rel < (rn : Int)
      · have e : kn = true := by rw [HKN.out]; exact decide_eq_true ⟨hr0, hr1⟩
        clear HKN
        subst e
        refine wp_region_held_drew (S := fun W' => blk W' b6 = some (GOp.enc op) ∧ blk W' bm = some (vE na nn nc ra rn rc)) (by kernel_rfl) ⟨hb6, hbm⟩ (fun hHeld => ?_)
        refine wpAnyH_take (i := 0) (oi := ⟨_, _, _, _, _, _⟩) (v := ?_) rfl (by kernel_rfl) (by kernel_rfl) (by kernel_rfl) (fun _ _ _ h => nomatch h.1) (Or.inl ⟨by rfl, ?_⟩) (by assumption) ?_
        rotate_left 1
        · intro W' hSw
          obtain ⟨hS1, hS2⟩ := hSw
          go_simp
          try with_reducible rfl
        try simp only [Act.put, List.setIfInBounds_toArray, List.set_cons_zero, List.set_cons_succ]
        refine wpAnyH_take (i := 1) (oi := ⟨_, _, _, _, _, _⟩) (v := ?_) rfl (by kernel_rfl) (by kernel_rfl) (by kernel_rfl) (fun _ _ _ h => nomatch h.1) (Or.inl ⟨by rfl, ?_⟩) (by assumption) ?_
        rotate_left 1
        · intro W' hSw
          obtain ⟨hS1, hS2⟩ := hSw
          go_simp
          try with_reducible rfl
        try simp only [Act.put, List.setIfInBounds_toArray, List.set_cons_zero, List.set_cons_succ]
        refine wpAnyH_take (i := 2) (oi := ⟨_, _, _, _, _, _⟩) (v := ?_) rfl (by kernel_rfl) (by kernel_rfl) (by kernel_rfl) (fun _ _ _ h => nomatch h.1) (Or.inl ⟨by rfl, ?_⟩) (by assumption) ?_
        rotate_left 1
        · intro W' hSw
          obtain ⟨hS1, hS2⟩ := hSw
          go_simp
          try with_reducible rfl
        try simp only [Act.put, List.setIfInBounds_toArray, List.set_cons_zero, List.set_cons_succ]
        refine wpAnyH_take (i := 3) (oi := ⟨_, _, _, _, _, _⟩) (v := ?_) rfl (by kernel_rfl) (by kernel_rfl) (by kernel_rfl) (fun _ _ _ h => nomatch h.1) (Or.inl ⟨by rfl, ?_⟩) (by assumption) ?_
        rotate_left 1
        · intro W' hSw
          obtain ⟨hS1, hS2⟩ := hSw
          go_simp
          try with_reducible rfl
        try simp only [Act.put, List.setIfInBounds_toArray, List.set_cons_zero, List.set_cons_succ]
        refine wpAnyH_take (i := 4) (oi := ⟨_, _, _, _, _, _⟩) (v := ?_) rfl (by kernel_rfl) (by kernel_rfl) (by kernel_rfl) (fun _ _ _ h => nomatch h.1) (Or.inl ⟨by rfl, ?_⟩) (by assumption) ?_
        rotate_left 1
        · intro W' hSw
          obtain ⟨hS1, hS2⟩ := hSw
          go_simp
          try with_reducible rfl
        try simp only [Act.put, List.setIfInBounds_toArray, List.set_cons_zero, List.set_cons_succ]
        refine wpAnyH_take (i := 5) (oi := ⟨_, _, _, _, _, _⟩) (v := ?_) rfl (by kernel_rfl) (by kernel_rfl) (by kernel_rfl) (fun _ _ _ h => nomatch h.1) (Or.inl ⟨by rfl, ?_⟩) (by assumption) ?_
        rotate_left 1
        · intro W' hSw
          obtain ⟨hS1, hS2⟩ := hSw
          go_simp
          try with_reducible rfl
        try simp only [Act.put, List.setIfInBounds_toArray, List.set_cons_zero, List.set_cons_succ]
        refine wpAnyH_take (i := 6) (oi := ⟨_, _, _, _, _, _⟩) (v := ?_) rfl (by kernel_rfl) (by kernel_rfl) (by kernel_rfl) (fun _ _ _ h => nomatch h.1) (Or.inl ⟨by rfl, ?_⟩) (by assumption) ?_
        rotate_left 1
        · intro W' hSw
          obtain ⟨hS1, hS2⟩ := hSw
          go_simp
          try with_reducible rfl
        try simp only [Act.put, List.setIfInBounds_toArray, List.set_cons_zero, List.set_cons_succ]
        refine wpAnyH_take (i := 7) (oi := ⟨_, _, _, _, _, _⟩) (v := ?_) rfl (by kernel_rfl) (by kernel_rfl) (by kernel_rfl) (fun _ _ _ h => nomatch h.1) (Or.inl ⟨by rfl, ?_⟩) (by assumption) ?_
        rotate_left 1
        · intro W' hSw
          obtain ⟨hS1, hS2⟩ := hSw
          go_simp
          try with_reducible rfl
        try simp only [Act.put, List.setIfInBounds_toArray, List.set_cons_zero, List.set_cons_succ]
        refine wpAnyH_take (i := 8) (oi := ⟨_, _, _, _, _, _⟩) (v := ?_) rfl (by kernel_rfl) (by kernel_rfl) (by kernel_rfl) (fun _ _ _ h => nomatch h.1) (Or.inl ⟨by rfl, ?_⟩) (by assumption) ?_
        rotate_left 1
        · intro W' hSw
          obtain ⟨hS1, hS2⟩ := hSw
          go_simp
          try with_reducible rfl
        try simp only [Act.put, List.setIfInBounds_toArray, List.set_cons_zero, List.set_cons_succ]
        refine wpAnyH_take (i := 9) (oi := ⟨_, _, _, _, _, _⟩) (v := ?_) rfl (by kernel_rfl) (by kernel_rfl) (by kernel_rfl) (fun _ _ _ h => nomatch h.1) (Or.inl ⟨by rfl, ?_⟩) (by assumption) ?_
        rotate_left 1
        · intro W' hSw
          obtain ⟨hS1, hS2⟩ := hSw
          go_simp
          try with_reducible rfl
        try simp only [Act.put, List.setIfInBounds_toArray, List.set_cons_zero, List.set_cons_succ]
        refine wpAnyH_take (i := 10) (oi := ⟨_, _, _, _, _, _⟩) (v := ?_) rfl (by kernel_rfl) (by kernel_rfl) (by kernel_rfl) (fun _ _ _ h => nomatch h.1) (Or.inl ⟨by rfl, ?_⟩) (by assumption) ?_
        rotate_left 1
        · intro W' hSw
          obtain ⟨hS1, hS2⟩ := hSw
          go_simp
          try with_reducible rfl
        try simp only [Act.put, List.setIfInBounds_toArray, List.set_cons_zero, List.set_cons_succ]
        refine wpAnyH_take (i := 11) (oi := ⟨_, _, _, _, _, _⟩) (v := ?_) rfl (by kernel_rfl) (by kernel_rfl) (by kernel_rfl) (fun _ _ _ h => nomatch h.1) (Or.inl ⟨by rfl, ?_⟩) (by assumption) ?_
        rotate_left 1
        · intro W' hSw
          obtain ⟨hS1, hS2⟩ := hSw
          go_simp
          try with_reducible rfl
        try simp only [Act.put, List.setIfInBounds_toArray, List.set_cons_zero, List.set_cons_succ]
        refine wpAnyH_take (i := 12) (oi := ⟨_, _, _, _, _, _⟩) (v := ?_) rfl (by kernel_rfl) (by kernel_rfl) (by kernel_rfl) (fun _ _ _ h => nomatch h.1) (Or.inl ⟨by rfl, ?_⟩) (by assumption) ?_
        rotate_left 1
        · intro W' hSw
          obtain ⟨hS1, hS2⟩ := hSw
          go_simp
          try with_reducible rfl
        try simp only [Act.put, List.setIfInBounds_toArray, List.set_cons_zero, List.set_cons_succ]
        refine wpAnyH_take (i := 13) (oi := ⟨_, _, _, _, _, _⟩) (v := ?_) rfl (by kernel_rfl) (by kernel_rfl) (by kernel_rfl) (fun _ _ _ h => nomatch h.1) (Or.inl ⟨by rfl, ?_⟩) (by assumption) ?_
        rotate_left 1
        · intro W' hSw
          obtain ⟨hS1, hS2⟩ := hSw
          go_simp
          try with_reducible rfl
        try simp only [Act.put, List.setIfInBounds_toArray, List.set_cons_zero, List.set_cons_succ]
        refine wpAnyH_done (by kernel_rfl) ?_ _
        refine ⟨rfl, cut_intro _ rfl ⟨rfl, rfl, rfl, rfl, rfl, rfl, rfl⟩⟩
      · have e : kn = false := by rw [HKN.out]; exact decide_eq_false (fun h => hr1 h.2)
        clear HKN
        subst e
        refine wp_region_held_drew (S := fun W' => blk W' b6 = some (GOp.enc op) ∧ blk W' bm = some (vE na nn nc ra rn rc)) (by kernel_rfl) ⟨hb6, hbm⟩ (fun hHeld => ?_)
        refine wpAnyH_take (i := 0) (oi := ⟨_, _, _, _, _, _⟩) (v := ?_) rfl (by kernel_rfl) (by kernel_rfl) (by kernel_rfl) (fun _ _ _ h => nomatch h.1) (Or.inl ⟨by rfl, ?_⟩) (by assumption) ?_
        rotate_left 1
        · intro W' hSw
          obtain ⟨hS1, hS2⟩ := hSw
          go_simp
          try with_reducible rfl
        try simp only [Act.put, List.setIfInBounds_toArray, List.set_cons_zero, List.set_cons_succ]
        refine wpAnyH_take (i := 1) (oi := ⟨_, _, _, _, _, _⟩) (v := ?_) rfl (by kernel_rfl) (by kernel_rfl) (by kernel_rfl) (fun _ _ _ h => nomatch h.1) (Or.inl ⟨by rfl, ?_⟩) (by assumption) ?_
        rotate_left 1
        · intro W' hSw
          obtain ⟨hS1, hS2⟩ := hSw
          go_simp
          try with_reducible rfl
        try simp only [Act.put, List.setIfInBounds_toArray, List.set_cons_zero, List.set_cons_succ]
        refine wpAnyH_take (i := 2) (oi := ⟨_, _, _, _, _, _⟩) (v := ?_) rfl (by kernel_rfl) (by kernel_rfl) (by kernel_rfl) (fun _ _ _ h => nomatch h.1) (Or.inl ⟨by rfl, ?_⟩) (by assumption) ?_
        rotate_left 1
        · intro W' hSw
          obtain ⟨hS1, hS2⟩ := hSw
          go_simp
          try with_reducible rfl
        try simp only [Act.put, List.setIfInBounds_toArray, List.set_cons_zero, List.set_cons_succ]
        refine wpAnyH_take (i := 3) (oi := ⟨_, _, _, _, _, _⟩) (v := ?_) rfl (by kernel_rfl) (by kernel_rfl) (by kernel_rfl) (fun _ _ _ h => nomatch h.1) (Or.inl ⟨by rfl, ?_⟩) (by assumption) ?_
        rotate_left 1
        · intro W' hSw
          obtain ⟨hS1, hS2⟩ := hSw
          go_simp
          try with_reducible rfl
        try simp only [Act.put, List.setIfInBounds_toArray, List.set_cons_zero, List.set_cons_succ]
        refine wpAnyH_take (i := 4) (oi := ⟨_, _, _, _, _, _⟩) (v := ?_) rfl (by kernel_rfl) (by kernel_rfl) (by kernel_rfl) (fun _ _ _ h => nomatch h.1) (Or.inl ⟨by rfl, ?_⟩) (by assumption) ?_
        rotate_left 1
        · intro W' hSw
          obtain ⟨hS1, hS2⟩ := hSw
          go_simp
          try with_reducible rfl
        try simp only [Act.put, List.setIfInBounds_toArray, List.set_cons_zero, List.set_cons_succ]
        refine wpAnyH_take (i := 5) (oi := ⟨_, _, _, _, _, _⟩) (v := ?_) rfl (by kernel_rfl) (by kernel_rfl) (by kernel_rfl) (fun _ _ _ h => nomatch h.1) (Or.inl ⟨by rfl, ?_⟩) (by assumption) ?_
        rotate_left 1
        · intro W' hSw
          obtain ⟨hS1, hS2⟩ := hSw
          go_simp
          try with_reducible rfl
        try simp only [Act.put, List.setIfInBounds_toArray, List.set_cons_zero, List.set_cons_succ]
        refine wpAnyH_take (i := 6) (oi := ⟨_, _, _, _, _, _⟩) (v := ?_) rfl (by kernel_rfl) (by kernel_rfl) (by kernel_rfl) (fun _ _ _ h => nomatch h.1) (Or.inl ⟨by rfl, ?_⟩) (by assumption) ?_
        rotate_left 1
        · intro W' hSw
          obtain ⟨hS1, hS2⟩ := hSw
          go_simp
          try with_reducible rfl
        try simp only [Act.put, List.setIfInBounds_toArray, List.set_cons_zero, List.set_cons_succ]
        refine wpAnyH_take (i := 7) (oi := ⟨_, _, _, _, _, _⟩) (v := ?_) rfl (by kernel_rfl) (by kernel_rfl) (by kernel_rfl) (fun _ _ _ h => nomatch h.1) (Or.inl ⟨by rfl, ?_⟩) (by assumption) ?_
        rotate_left 1
        · intro W' hSw
          obtain ⟨hS1, hS2⟩ := hSw
          go_simp
          try with_reducible rfl
        try simp only [Act.put, List.setIfInBounds_toArray, List.set_cons_zero, List.set_cons_succ]
        refine wpAnyH_take (i := 8) (oi := ⟨_, _, _, _, _, _⟩) (v := ?_) rfl (by kernel_rfl) (by kernel_rfl) (by kernel_rfl) (fun _ _ _ h => nomatch h.1) (Or.inl ⟨by rfl, ?_⟩) (by assumption) ?_
        rotate_left 1
        · intro W' hSw
          obtain ⟨hS1, hS2⟩ := hSw
          go_simp
          try with_reducible rfl
        try simp only [Act.put, List.setIfInBounds_toArray, List.set_cons_zero, List.set_cons_succ]
        refine wpAnyH_take (i := 9) (oi := ⟨_, _, _, _, _, _⟩) (v := ?_) rfl (by kernel_rfl) (by kernel_rfl) (by kernel_rfl) (fun _ _ _ h => nomatch h.1) (Or.inl ⟨by rfl, ?_⟩) (by assumption) ?_
        rotate_left 1
        · intro W' hSw
          obtain ⟨hS1, hS2⟩ := hSw
          go_simp
          try with_reducible rfl
        try simp only [Act.put, List.setIfInBounds_toArray, List.set_cons_zero, List.set_cons_succ]
        refine wpAnyH_take (i := 10) (oi := ⟨_, _, _, _, _, _⟩) (v := ?_) rfl (by kernel_rfl) (by kernel_rfl) (by kernel_rfl) (fun _ _ _ h => nomatch h.1) (Or.inl ⟨by rfl, ?_⟩) (by assumption) ?_
        rotate_left 1
        · intro W' hSw
          obtain ⟨hS1, hS2⟩ := hSw
          go_simp
          try with_reducible rfl
        try simp only [Act.put, List.setIfInBounds_toArray, List.set_cons_zero, List.set_cons_succ]
        refine wpAnyH_take (i := 11) (oi := ⟨_, _, _, _, _, _⟩) (v := ?_) rfl (by kernel_rfl) (by kernel_rfl) (by kernel_rfl) (fun _ _ _ h => nomatch h.1) (Or.inl ⟨by rfl, ?_⟩) (by assumption) ?_
        rotate_left 1
        · intro W' hSw
          obtain ⟨hS1, hS2⟩ := hSw
          go_simp
          try with_reducible rfl
        try simp only [Act.put, List.setIfInBounds_toArray, List.set_cons_zero, List.set_cons_succ]
        refine wpAnyH_take (i := 12) (oi := ⟨_, _, _, _, _, _⟩) (v := ?_) rfl (by kernel_rfl) (by kernel_rfl) (by kernel_rfl) (fun _ _ _ h => nomatch h.1) (Or.inl ⟨by rfl, ?_⟩) (by assumption) ?_
        rotate_left 1
        · intro W' hSw
          obtain ⟨hS1, hS2⟩ := hSw
          go_simp
          try with_reducible rfl
        try simp only [Act.put, List.setIfInBounds_toArray, List.set_cons_zero, List.set_cons_succ]
        refine wpAnyH_take (i := 13) (oi := ⟨_, _, _, _, _, _⟩) (v := ?_) rfl (by kernel_rfl) (by kernel_rfl) (by kernel_rfl) (fun _ _ _ h => nomatch h.1) (Or.inl ⟨by rfl, ?_⟩) (by assumption) ?_
        rotate_left 1
        · intro W' hSw
          obtain ⟨hS1, hS2⟩ := hSw
          go_simp
          try with_reducible rfl
        try simp only [Act.put, List.setIfInBounds_toArray, List.set_cons_zero, List.set_cons_succ]
        refine wpAnyH_done (by kernel_rfl) ?_ _
        refine ⟨rfl, cut_intro _ rfl ⟨rfl, rfl, rfl, rfl, rfl, rfl, rfl⟩⟩
    · have e : kn = false := by rw [HKN.out]; exact decide_eq_false (fun h => hr0 h.1)
      clear HKN
      subst e
      refine wp_region_held_drew (S := fun W' => blk W' b6 = some (GOp.enc op) ∧ blk W' bm = some (vE na nn nc ra rn rc)) (by kernel_rfl) ⟨hb6, hbm⟩ (fun hHeld => ?_)
      refine wpAnyH_take (i := 0) (oi := ⟨_, _, _, _, _, _⟩) (v := ?_) rfl (by kernel_rfl) (by kernel_rfl) (by kernel_rfl) (fun _ _ _ h => nomatch h.1) (Or.inl ⟨by rfl, ?_⟩) (by assumption) ?_
      rotate_left 1
      · intro W' hSw
        obtain ⟨hS1, hS2⟩ := hSw
        go_simp
        try with_reducible rfl
      try simp only [Act.put, List.setIfInBounds_toArray, List.set_cons_zero, List.set_cons_succ]
      refine wpAnyH_take (i := 1) (oi := ⟨_, _, _, _, _, _⟩) (v := ?_) rfl (by kernel_rfl) (by kernel_rfl) (by kernel_rfl) (fun _ _ _ h => nomatch h.1) (Or.inl ⟨by rfl, ?_⟩) (by assumption) ?_
      rotate_left 1
      · intro W' hSw
        obtain ⟨hS1, hS2⟩ := hSw
        go_simp
        try with_reducible rfl
      try simp only [Act.put, List.setIfInBounds_toArray, List.set_cons_zero, List.set_cons_succ]
      refine wpAnyH_take (i := 2) (oi := ⟨_, _, _, _, _, _⟩) (v := ?_) rfl (by kernel_rfl) (by kernel_rfl) (by kernel_rfl) (fun _ _ _ h => nomatch h.1) (Or.inl ⟨by rfl, ?_⟩) (by assumption) ?_
      rotate_left 1
      · intro W' hSw
        obtain ⟨hS1, hS2⟩ := hSw
        go_simp
        try with_reducible rfl
      try simp only [Act.put, List.setIfInBounds_toArray, List.set_cons_zero, List.set_cons_succ]
      refine wpAnyH_take (i := 3) (oi := ⟨_, _, _, _, _, _⟩) (v := ?_) rfl (by kernel_rfl) (by kernel_rfl) (by kernel_rfl) (fun _ _ _ h => nomatch h.1) (Or.inl ⟨by rfl, ?_⟩) (by assumption) ?_
      rotate_left 1
      · intro W' hSw
        obtain ⟨hS1, hS2⟩ := hSw
        go_simp
        try with_reducible rfl
      try simp only [Act.put, List.setIfInBounds_toArray, List.set_cons_zero, List.set_cons_succ]
      refine wpAnyH_take (i := 4) (oi := ⟨_, _, _, _, _, _⟩) (v := undef) rfl (by kernel_rfl) (by kernel_rfl) (by kernel_rfl) (fun _ _ _ h => nomatch h.1) (Or.inr ⟨by rfl, rfl⟩) (by assumption) ?_
      try simp only [Act.put, List.setIfInBounds_toArray, List.set_cons_zero, List.set_cons_succ]
      refine wpAnyH_take (i := 5) (oi := ⟨_, _, _, _, _, _⟩) (v := undef) rfl (by kernel_rfl) (by kernel_rfl) (by kernel_rfl) (fun _ _ _ h => nomatch h.1) (Or.inr ⟨by rfl, rfl⟩) (by assumption) ?_
      try simp only [Act.put, List.setIfInBounds_toArray, List.set_cons_zero, List.set_cons_succ]
      refine wpAnyH_take (i := 6) (oi := ⟨_, _, _, _, _, _⟩) (v := undef) rfl (by kernel_rfl) (by kernel_rfl) (by kernel_rfl) (fun _ _ _ h => nomatch h.1) (Or.inr ⟨by rfl, rfl⟩) (by assumption) ?_
      try simp only [Act.put, List.setIfInBounds_toArray, List.set_cons_zero, List.set_cons_succ]
      refine wpAnyH_take (i := 7) (oi := ⟨_, _, _, _, _, _⟩) (v := undef) rfl (by kernel_rfl) (by kernel_rfl) (by kernel_rfl) (fun _ _ _ h => nomatch h.1) (Or.inr ⟨by rfl, rfl⟩) (by assumption) ?_
      try simp only [Act.put, List.setIfInBounds_toArray, List.set_cons_zero, List.set_cons_succ]
      refine wpAnyH_take (i := 8) (oi := ⟨_, _, _, _, _, _⟩) (v := undef) rfl (by kernel_rfl) (by kernel_rfl) (by kernel_rfl) (fun _ _ _ h => nomatch h.1) (Or.inr ⟨by rfl, rfl⟩) (by assumption) ?_
      try simp only [Act.put, List.setIfInBounds_toArray, List.set_cons_zero, List.set_cons_succ]
      refine wpAnyH_take (i := 9) (oi := ⟨_, _, _, _, _, _⟩) (v := undef) rfl (by kernel_rfl) (by kernel_rfl) (by kernel_rfl) (fun _ _ _ h => nomatch h.1) (Or.inr ⟨by rfl, rfl⟩) (by assumption) ?_
      try simp only [Act.put, List.setIfInBounds_toArray, List.set_cons_zero, List.set_cons_succ]
      refine wpAnyH_take (i := 10) (oi := ⟨_, _, _, _, _, _⟩) (v := undef) rfl (by kernel_rfl) (by kernel_rfl) (by kernel_rfl) (fun _ _ _ h => nomatch h.1) (Or.inr ⟨by rfl, rfl⟩) (by assumption) ?_
      try simp only [Act.put, List.setIfInBounds_toArray, List.set_cons_zero, List.set_cons_succ]
      refine wpAnyH_take (i := 11) (oi := ⟨_, _, _, _, _, _⟩) (v := undef) rfl (by kernel_rfl) (by kernel_rfl) (by kernel_rfl) (fun _ _ _ h => nomatch h.1) (Or.inr ⟨by rfl, rfl⟩) (by assumption) ?_
      try simp only [Act.put, List.setIfInBounds_toArray, List.set_cons_zero, List.set_cons_succ]
      refine wpAnyH_take (i := 12) (oi := ⟨_, _, _, _, _, _⟩) (v := ?_) rfl (by kernel_rfl) (by kernel_rfl) (by kernel_rfl) (fun _ _ _ h => nomatch h.1) (Or.inl ⟨by rfl, ?_⟩) (by assumption) ?_
      rotate_left 1
      · intro W' hSw
        obtain ⟨hS1, hS2⟩ := hSw
        go_simp
        try with_reducible rfl
      try simp only [Act.put, List.setIfInBounds_toArray, List.set_cons_zero, List.set_cons_succ]
      refine wpAnyH_take (i := 13) (oi := ⟨_, _, _, _, _, _⟩) (v := ?_) rfl (by kernel_rfl) (by kernel_rfl) (by kernel_rfl) (fun _ _ _ h => nomatch h.1) (Or.inl ⟨by rfl, ?_⟩) (by assumption) ?_
      rotate_left 1
      · intro W' hSw
        obtain ⟨hS1, hS2⟩ := hSw
        go_simp
        try with_reducible rfl
      try simp only [Act.put, List.setIfInBounds_toArray, List.set_cons_zero, List.set_cons_succ]
      refine wpAnyH_done (by kernel_rfl) ?_ _
      refine ⟨rfl, cut_intro _ rfl ⟨rfl, rfl, rfl, rfl, rfl, rfl, rfl⟩⟩
  rintro _ _ ⟨f, rfl, f0, f3, f4, f5, f6, f7, rfl⟩
  rw [frame148, f0, f3, f4, f5, f6, f7]
  clear f0 f3 f4 f5 f6 f7
  have hb6d : blk V1.drew b6 = some (GOp.enc op) := hb6
  have HJd : Hid (JM W1 B bs bm O1 V1.drew st sm) := HJ1.out.ext (extends_drew (ext_Ext (Ext.refl _)))
  obtain ⟨was, hwas⟩ : ∃ was, was = (kn && decide (op.t ∈ (rowsS sm op.rel).map (·.1))) := ⟨_, rfl⟩
  have HWAS := hid_of hwas
  clear hwas hb6 HJ1 hbm
  go_upto_region 9 with fail
  obtain ⟨R9, hR9⟩ : ∃ R9 : Act → Act → World → Prop, R9 = fun a0 a' w' => ∃ f : Nat → Value, a' = ⟨frameN 148 f, []⟩ ∧ f 0 = .slice (some ⟨b, o, none⟩) len cap ∧ f 3 = .pointer (some ⟨bs, 0, none⟩) ∧ f 4 = .pointer (some ⟨bm, 0, none⟩) ∧ f 5 = .int .i64 (i : Nat) ∧ f 6 = .pointer (some ⟨b6, 0, none⟩) ∧ f 7 = .bool kn ∧ f 8 = .bool was ∧ Hid (V1.drew.Extends w') := ⟨_, rfl⟩
  have HR9 := hid_of hR9
  clear hR9
  refine wp_cutR R9 ?_ ?_
  · cases kn with
    | false =>
      have e : was = false := by rw [HWAS.out]; rfl
      clear HWAS
      subst e
      have HX : Hid (V1.drew.Extends V1.drew) := ext_Ext (Ext.refl _)
      go_wp2_with fail
      try refine ⟨rfl, ?_⟩
      rw [HR9.out]
      exact cut_intro _ rfl ⟨rfl, rfl, rfl, rfl, rfl, rfl, rfl, HX⟩
    | true =>
      have hid : 0 ≤ op.rel ∧ op.rel < (rn : Int) := of_decide_eq_true HKN.out.symm
      obtain ⟨n, hn⟩ : ∃ n : Nat, op.rel = (n : Int) := ⟨op.rel.toNat, by omega⟩
      obtain ⟨s', hs'⟩ : ∃ s', sm.rels[n]? = some s' := ⟨_, List.getElem?_eq_getElem (by have := HRN.out; omega)⟩
      have hwh := where_any B O1 V1.drew bm sm HJd.out.m HMSM.out n s' hs' op.t
      rw [← hn] at hwh
      have ers : rowsS sm op.rel = rowsOf s'.L := by rw [hn]; unfold rowsS; rw [relF_some hs']
      rw [ers] at HWAS
      by_cases hin : op.t ∈ (rowsOf s'.L).map (·.1)
      · have e : was = true := by rw [HWAS.out, decide_eq_true hin]; rfl
        obtain ⟨k, hk, _⟩ := whR_pos hin
        rw [hk] at hwh
        have hk0 : (0 : Int) ≤ (k : Int) := by omega
        clear HWAS hid hn hs' ers hin hk
        subst e
        go_wp2_with fail
        refine hwh.mono ?_
        rintro e V2 ⟨rfl, hx2⟩
        have HX := hid_of hx2
        clear hx2
        dsimp only
        go_wp2_with fail
        try refine ⟨rfl, ?_⟩
        rw [HR9.out]
        exact cut_intro _ rfl ⟨rfl, rfl, rfl, rfl, rfl, rfl, rfl, HX⟩
      · have e : was = false := by rw [HWAS.out, decide_eq_false hin]; rfl
        rw [whR_neg hin] at hwh
        clear HWAS hid hn hs' ers hin
        subst e
        go_wp2_with fail
        refine hwh.mono ?_
        rintro e V2 ⟨rfl, hx2⟩
        have HX := hid_of hx2
        clear hx2
        dsimp only
        go_wp2_with fail
        try refine ⟨rfl, ?_⟩
        rw [HR9.out]
        exact cut_intro _ rfl ⟨rfl, rfl, rfl, rfl, rfl, rfl, rfl, HX⟩
  rw [HR9.out]
  rintro _ V2 ⟨f1, rfl, f0, f3, f4, f5, f6, f7, f8, HX2⟩
  rw [frame148, f0, f3, f4, f5, f6, f7, f8]
  clear f0 f3 f4 f5 f6 f7 f8
  have hb6V : blk V2 b6 = some (GOp.enc op) := (HX2.out.blk (blk_lt hb6d)).trans hb6d
  have hJ2 := (HJd.out.ext HX2.out).ext (extends_drew (ext_Ext (Ext.refl _)) : V2.Extends V2.drew)
  have hG0 : G10 W1 B bs bm b6 op st sm O1 V2.drew st sm none none none none := ⟨hJ2, ⟨hb6V, HO6.out⟩, fun _ => rfl, (fun A ts e => by cases e), fun _ => rfl, (fun A ts e => by cases e), (fun b e => by cases e), (fun b e => by cases e), (fun b b' e => by cases e)⟩
  clear hJ2 HJd hb6d HX2
  go_upto_region 10 with fail
  refine wp_cutR (fun a0 a' w' => ∃ A A2 b9 b10, ∃ f : Nat → Value, a' = ⟨frameN 148 f, []⟩ ∧ f 0 = .slice (some ⟨b, o, none⟩) len cap ∧ f 3 = .pointer (some ⟨bs, 0, none⟩) ∧ f 4 = .pointer (some ⟨bm, 0, none⟩) ∧ f 5 = .int .i64 (i : Nat) ∧ f 6 = .pointer (some ⟨b6, 0, none⟩) ∧ f 7 = .bool kn ∧ f 8 = .bool was ∧ f 9 = .pointer (some ⟨b9, 0, none⟩) ∧ f 10 = .pointer (some ⟨b10, 0, none⟩) ∧ Hid (F10 W1 B bs bm b6 b9 b10 op st sm A A2 w')) ?_ ?_
  · skip
    refine wp_region_held_drew (S := fun W' => blk W' b6 = some (GOp.enc op)) (by kernel_rfl) hb6V (fun hHeld => ?_)
    refine wpAnyH_take (i := 0) (oi := ⟨_, _, _, _, _, _⟩) (v := ?_) rfl (by kernel_rfl) (by kernel_rfl) (by kernel_rfl) (fun _ _ _ h => nomatch h.1) (Or.inl ⟨by rfl, ?_⟩) (by assumption) ?_
    rotate_left 1
    · intro W' hSw
      go_simp
      try with_reducible rfl
    try simp only [Act.put, List.setIfInBounds_toArray, List.set_cons_zero, List.set_cons_succ]
    refine wpAnyH_take (i := 1) (oi := ⟨_, _, _, _, _, _⟩) (v := ?_) rfl (by kernel_rfl) (by kernel_rfl) (by kernel_rfl) (fun _ _ _ h => nomatch h.1) (Or.inl ⟨by rfl, ?_⟩) (by assumption) ?_
    rotate_left 1
    · intro W' hSw
      go_simp
      try with_reducible rfl
    try simp only [Act.put, List.setIfInBounds_toArray, List.set_cons_zero, List.set_cons_succ]
    refine wpAnyH_take (i := 3) (oi := ⟨_, _, _, _, _, _⟩) (v := ?_) rfl (by kernel_rfl) (by kernel_rfl) (by kernel_rfl) (fun _ _ _ h => nomatch h.1) (Or.inl ⟨by rfl, ?_⟩) (by assumption) ?_
    rotate_left 1
    · intro W' hSw
      go_simp
      try with_reducible rfl
    try simp only [Act.put, List.setIfInBounds_toArray, List.set_cons_zero, List.set_cons_succ]
    refine wpAnyH_take (i := 4) (oi := ⟨_, _, _, _, _, _⟩) (v := ?_) rfl (by kernel_rfl) (by kernel_rfl) (by kernel_rfl) (fun _ _ _ h => nomatch h.1) (Or.inl ⟨by rfl, ?_⟩) (by assumption) ?_
    rotate_left 1
    · intro W' hSw
      go_simp
      try with_reducible rfl
    try simp only [Act.put, List.setIfInBounds_toArray, List.set_cons_zero, List.set_cons_succ]
    obtain ⟨V9, hV9⟩ : ∃ V9, V9 = V2.drew := ⟨_, rfl⟩
    rw [← hV9] at hG0 ⊢
    clear hV9
    have HG := hid_of hG0
    clear hG0 hb6V
    refine wpAnyH_ready (rs := [2, 6, 7]) (by kernel_rfl) (by simp) ?_
    refine AllReadyH.cons (o := ⟨_, _, _, _, _, _⟩) rfl (fun K' hK => ?_) (AllReadyH.cons (o := ⟨_, _, _, _, _, _⟩) rfl (fun K' hK => ?_) (AllReadyH.cons (o := ⟨_, _, _, _, _, _⟩) rfl (fun K' hK => ?_) (AllReadyH.nil)))
    · go_simp
      refine (g_play HG.out hmask hnm).mono ?_
      rintro e V10 ⟨A, ts, st1, O10, rfl, hG⟩
      clear HG
      have HG := hid_of hG
      have hz10 : True := trivial
      clear hG
      dsimp only
      refine hK.out _ _ (HG.out.h6.1) (fun hHeld => ?_)
      clear hK K'
      try simp only [Act.put, List.setIfInBounds_toArray, List.set_cons_zero, List.set_cons_succ]
      refine wpAnyH_ready (rs := [5, 6, 7]) (by kernel_rfl) (by simp) ?_
      refine AllReadyH.cons (o := ⟨_, _, _, _, _, _⟩) rfl (fun K' hK => ?_) (AllReadyH.cons (o := ⟨_, _, _, _, _, _⟩) rfl (fun K' hK => ?_) (AllReadyH.cons (o := ⟨_, _, _, _, _, _⟩) rfl (fun K' hK => ?_) (AllReadyH.nil)))
      · go_simp
        refine (g_step HG.out HMSM.out hnm).mono ?_
        rintro e V11 ⟨A2, ts2, sm2, O11, rfl, hG⟩
        clear HG
        have HG := hid_of hG
        clear hG
        dsimp only
        refine hK.out _ _ (HG.out.h6.1) (fun hHeld => ?_)
        clear hK K'
        try simp only [Act.put, List.setIfInBounds_toArray, List.set_cons_zero, List.set_cons_succ]
        refine wpAnyH_ready (rs := [6, 7]) (by kernel_rfl) (by simp) ?_
        refine AllReadyH.cons (o := ⟨_, _, _, _, _, _⟩) rfl (fun K' hK => ?_) (AllReadyH.cons (o := ⟨_, _, _, _, _, _⟩) rfl (fun K' hK => ?_) (AllReadyH.nil))
        · go_simp
          have hs9 : W1.heap.size ≤ V11.heap.size := by have := HG.out.jm.x.size; first | exact this | (rw [World.size_alloc] at this; exact this)
          have hG := g_a9 HG.out
          clear HG
          have HG := hid_of hG
          clear hG
          refine hK.out _ _ (HG.out.h6.1) (fun hHeld => ?_)
          clear hK K'
          try simp only [Act.put, List.setIfInBounds_toArray, List.set_cons_zero, List.set_cons_succ]
          refine wpAnyH_ready (rs := [7]) (by kernel_rfl) (by simp) ?_
          refine AllReadyH.cons (o := ⟨_, _, _, _, _, _⟩) rfl (fun K' hK => ?_) (AllReadyH.nil)
          go_simp
          have hs10 : W1.heap.size ≤ V11.heap.size + 1 := by have := HG.out.jm.x.size; first | exact this | (rw [World.size_alloc] at this; exact this)
          have hG := g_a10 HG.out
          rw [show ((V11).alloc (Obj.cells Answer.zero.enc.toArray 32)).heap.size = V11.heap.size + 1 from World.size_alloc _ _] at hG
          clear HG
          have HG := hid_of hG
          clear hG
          refine hK.out _ _ (HG.out.h6.1) (fun hHeld => ?_)
          clear hK K'
          try simp only [Act.put, List.setIfInBounds_toArray, List.set_cons_zero, List.set_cons_succ]
          obtain ⟨VV, hVV⟩ : ∃ VV, VV = ((V11).alloc (Obj.cells Answer.zero.enc.toArray 32)).alloc (Obj.cells Answer.zero.enc.toArray 32) := ⟨_, rfl⟩
          rw [← hVV] at HG ⊢
          clear hVV
          have z9 := (HG.out.z9 _ rfl).1
          have z10 := (HG.out.z10 _ rfl).1
          have n69 := (HG.out.z9 _ rfl).2
          have n610 := (HG.out.z10 _ rfl).2
          have n910 := HG.out.ne _ _ rfl rfl
          have HF := hid_of (g_fin HG.out HE.out HRO.out HND.out hs9 hs10)
          have hb9 := z9.blk
          have hf9 := z9.2.1
          have hb10 := z10.blk
          have hf10 := z10.2.1
          have h6 := HG.out.h6.1
          have n109 : ¬ V11.heap.size + 1 = V11.heap.size := fun e => n910 e.symm
          have k1 : blk (put (VV) (V11.heap.size) (Answer.enc A)) b6 = some (GOp.enc op) := by rw [blk_put, if_neg n69]; exact h6
          have k2 : blk (put (put (VV) (V11.heap.size) (Answer.enc A)) (V11.heap.size + 1) (Answer.enc A2)) b6 = some (GOp.enc op) := by rw [blk_put, if_neg n610]; exact k1
          clear z9 z10 HG
          refine wpAnyH_ready (rs := [8]) (by kernel_rfl) (by simp) ?_
          refine AllReadyH.cons (o := ⟨_, _, _, _, _, _⟩) rfl (fun K' hK => ?_) AllReadyH.nil
          go_simp
          refine hK.out _ _ k1 (fun hHeld => ?_)
          clear hK K'
          try simp only [Act.put, List.setIfInBounds_toArray, List.set_cons_zero, List.set_cons_succ]
          refine wpAnyH_ready (rs := [9]) (by kernel_rfl) (by simp) ?_
          refine AllReadyH.cons (o := ⟨_, _, _, _, _, _⟩) rfl (fun K' hK => ?_) AllReadyH.nil
          go_simp
          refine hK.out _ _ k2 (fun hHeld => ?_)
          clear hK K'
          try simp only [Act.put, List.setIfInBounds_toArray, List.set_cons_zero, List.set_cons_succ]
          refine wpAnyH_done (by kernel_rfl) ?_ _
          refine ⟨rfl, A, A2, _, _, cut_intro _ rfl ⟨rfl, rfl, rfl, rfl, rfl, rfl, rfl, rfl, rfl, HF⟩⟩
        · go_simp
          have hs10 : W1.heap.size ≤ V11.heap.size := by have := HG.out.jm.x.size; first | exact this | (rw [World.size_alloc] at this; exact this)
          have hG := g_a10 HG.out
          clear HG
          have HG := hid_of hG
          clear hG
          refine hK.out _ _ (HG.out.h6.1) (fun hHeld => ?_)
          clear hK K'
          try simp only [Act.put, List.setIfInBounds_toArray, List.set_cons_zero, List.set_cons_succ]
          refine wpAnyH_ready (rs := [6]) (by kernel_rfl) (by simp) ?_
          refine AllReadyH.cons (o := ⟨_, _, _, _, _, _⟩) rfl (fun K' hK => ?_) (AllReadyH.nil)
          go_simp
          have hs9 : W1.heap.size ≤ V11.heap.size + 1 := by have := HG.out.jm.x.size; first | exact this | (rw [World.size_alloc] at this; exact this)
          have hG := g_a9 HG.out
          rw [show ((V11).alloc (Obj.cells Answer.zero.enc.toArray 32)).heap.size = V11.heap.size + 1 from World.size_alloc _ _] at hG
          clear HG
          have HG := hid_of hG
          clear hG
          refine hK.out _ _ (HG.out.h6.1) (fun hHeld => ?_)
          clear hK K'
          try simp only [Act.put, List.setIfInBounds_toArray, List.set_cons_zero, List.set_cons_succ]
          obtain ⟨VV, hVV⟩ : ∃ VV, VV = ((V11).alloc (Obj.cells Answer.zero.enc.toArray 32)).alloc (Obj.cells Answer.zero.enc.toArray 32) := ⟨_, rfl⟩
          rw [← hVV] at HG ⊢
          clear hVV
          have z9 := (HG.out.z9 _ rfl).1
          have z10 := (HG.out.z10 _ rfl).1
          have n69 := (HG.out.z9 _ rfl).2
          have n610 := (HG.out.z10 _ rfl).2
          have n910 := HG.out.ne _ _ rfl rfl
          have HF := hid_of (g_fin HG.out HE.out HRO.out HND.out hs9 hs10)
          have hb9 := z9.blk
          have hf9 := z9.2.1
          have hb10 := z10.blk
          have hf10 := z10.2.1
          have h6 := HG.out.h6.1
          have n109 : ¬ V11.heap.size = V11.heap.size + 1 := fun e => n910 e.symm
          have k1 : blk (put (VV) (V11.heap.size + 1) (Answer.enc A)) b6 = some (GOp.enc op) := by rw [blk_put, if_neg n69]; exact h6
          have k2 : blk (put (put (VV) (V11.heap.size + 1) (Answer.enc A)) (V11.heap.size) (Answer.enc A2)) b6 = some (GOp.enc op) := by rw [blk_put, if_neg n610]; exact k1
          clear z9 z10 HG
          refine wpAnyH_ready (rs := [8]) (by kernel_rfl) (by simp) ?_
          refine AllReadyH.cons (o := ⟨_, _, _, _, _, _⟩) rfl (fun K' hK => ?_) AllReadyH.nil
          go_simp
          refine hK.out _ _ k1 (fun hHeld => ?_)
          clear hK K'
          try simp only [Act.put, List.setIfInBounds_toArray, List.set_cons_zero, List.set_cons_succ]
          refine wpAnyH_ready (rs := [9]) (by kernel_rfl) (by simp) ?_
          refine AllReadyH.cons (o := ⟨_, _, _, _, _, _⟩) rfl (fun K' hK => ?_) AllReadyH.nil
          go_simp
          refine hK.out _ _ k2 (fun hHeld => ?_)
          clear hK K'
          try simp only [Act.put, List.setIfInBounds_toArray, List.set_cons_zero, List.set_cons_succ]
          refine wpAnyH_done (by kernel_rfl) ?_ _
          refine ⟨rfl, A, A2, _, _, cut_intro _ rfl ⟨rfl, rfl, rfl, rfl, rfl, rfl, rfl, rfl, rfl, HF⟩⟩
      · go_simp
        have hs9 : W1.heap.size ≤ V10.heap.size := by have := HG.out.jm.x.size; first | exact this | (rw [World.size_alloc] at this; exact this)
        have hG := g_a9 HG.out
        clear HG
        have HG := hid_of hG
        clear hG
        refine hK.out _ _ (HG.out.h6.1) (fun hHeld => ?_)
        clear hK K'
        try simp only [Act.put, List.setIfInBounds_toArray, List.set_cons_zero, List.set_cons_succ]
        refine wpAnyH_ready (rs := [5, 7]) (by kernel_rfl) (by simp) ?_
        refine AllReadyH.cons (o := ⟨_, _, _, _, _, _⟩) rfl (fun K' hK => ?_) (AllReadyH.cons (o := ⟨_, _, _, _, _, _⟩) rfl (fun K' hK => ?_) (AllReadyH.nil))
        · go_simp
          refine (g_step HG.out HMSM.out hnm).mono ?_
          rintro e V11 ⟨A2, ts2, sm2, O11, rfl, hG⟩
          clear HG
          have HG := hid_of hG
          clear hG
          dsimp only
          refine hK.out _ _ (HG.out.h6.1) (fun hHeld => ?_)
          clear hK K'
          try simp only [Act.put, List.setIfInBounds_toArray, List.set_cons_zero, List.set_cons_succ]
          refine wpAnyH_ready (rs := [7]) (by kernel_rfl) (by simp) ?_
          refine AllReadyH.cons (o := ⟨_, _, _, _, _, _⟩) rfl (fun K' hK => ?_) (AllReadyH.nil)
          go_simp
          have hs10 : W1.heap.size ≤ V11.heap.size := by have := HG.out.jm.x.size; first | exact this | (rw [World.size_alloc] at this; exact this)
          have hG := g_a10 HG.out
          clear HG
          have HG := hid_of hG
          clear hG
          refine hK.out _ _ (HG.out.h6.1) (fun hHeld => ?_)
          clear hK K'
          try simp only [Act.put, List.setIfInBounds_toArray, List.set_cons_zero, List.set_cons_succ]
          obtain ⟨VV, hVV⟩ : ∃ VV, VV = (V11).alloc (Obj.cells Answer.zero.enc.toArray 32) := ⟨_, rfl⟩
          rw [← hVV] at HG ⊢
          clear hVV
          have z9 := (HG.out.z9 _ rfl).1
          have z10 := (HG.out.z10 _ rfl).1
          have n69 := (HG.out.z9 _ rfl).2
          have n610 := (HG.out.z10 _ rfl).2
          have n910 := HG.out.ne _ _ rfl rfl
          have HF := hid_of (g_fin HG.out HE.out HRO.out HND.out hs9 hs10)
          have hb9 := z9.blk
          have hf9 := z9.2.1
          have hb10 := z10.blk
          have hf10 := z10.2.1
          have h6 := HG.out.h6.1
          have n109 : ¬ V11.heap.size = V10.heap.size := fun e => n910 e.symm
          have k1 : blk (put (VV) (V10.heap.size) (Answer.enc A)) b6 = some (GOp.enc op) := by rw [blk_put, if_neg n69]; exact h6
          have k2 : blk (put (put (VV) (V10.heap.size) (Answer.enc A)) (V11.heap.size) (Answer.enc A2)) b6 = some (GOp.enc op) := by rw [blk_put, if_neg n610]; exact k1
          clear z9 z10 HG
          refine wpAnyH_ready (rs := [8]) (by kernel_rfl) (by simp) ?_
          refine AllReadyH.cons (o := ⟨_, _, _, _, _, _⟩) rfl (fun K' hK => ?_) AllReadyH.nil
          go_simp
          refine hK.out _ _ k1 (fun hHeld => ?_)
          clear hK K'
          try simp only [Act.put, List.setIfInBounds_toArray, List.set_cons_zero, List.set_cons_succ]
          refine wpAnyH_ready (rs := [9]) (by kernel_rfl) (by simp) ?_
          refine AllReadyH.cons (o := ⟨_, _, _, _, _, _⟩) rfl (fun K' hK => ?_) AllReadyH.nil
          go_simp
          refine hK.out _ _ k2 (fun hHeld => ?_)
          clear hK K'
          try simp only [Act.put, List.setIfInBounds_toArray, List.set_cons_zero, List.set_cons_succ]
          refine wpAnyH_done (by kernel_rfl) ?_ _
          refine ⟨rfl, A, A2, _, _, cut_intro _ rfl ⟨rfl, rfl, rfl, rfl, rfl, rfl, rfl, rfl, rfl, HF⟩⟩
        · go_simp
          have hs10 : W1.heap.size ≤ V10.heap.size + 1 := by have := HG.out.jm.x.size; first | exact this | (rw [World.size_alloc] at this; exact this)
          have hG := g_a10 HG.out
          rw [show ((V10).alloc (Obj.cells Answer.zero.enc.toArray 32)).heap.size = V10.heap.size + 1 from World.size_alloc _ _] at hG
          clear HG
          have HG := hid_of hG
          clear hG
          refine hK.out _ _ (HG.out.h6.1) (fun hHeld => ?_)
          clear hK K'
          try simp only [Act.put, List.setIfInBounds_toArray, List.set_cons_zero, List.set_cons_succ]
          refine wpAnyH_ready (rs := [5]) (by kernel_rfl) (by simp) ?_
          refine AllReadyH.cons (o := ⟨_, _, _, _, _, _⟩) rfl (fun K' hK => ?_) (AllReadyH.nil)
          go_simp
          refine (g_step HG.out HMSM.out hnm).mono ?_
          rintro e V11 ⟨A2, ts2, sm2, O11, rfl, hG⟩
          clear HG
          have HG := hid_of hG
          clear hG
          dsimp only
          refine hK.out _ _ (HG.out.h6.1) (fun hHeld => ?_)
          clear hK K'
          try simp only [Act.put, List.setIfInBounds_toArray, List.set_cons_zero, List.set_cons_succ]
          have z9 := (HG.out.z9 _ rfl).1
          have z10 := (HG.out.z10 _ rfl).1
          have n69 := (HG.out.z9 _ rfl).2
          have n610 := (HG.out.z10 _ rfl).2
          have n910 := HG.out.ne _ _ rfl rfl
          have HF := hid_of (g_fin HG.out HE.out HRO.out HND.out hs9 hs10)
          have hb9 := z9.blk
          have hf9 := z9.2.1
          have hb10 := z10.blk
          have hf10 := z10.2.1
          have h6 := HG.out.h6.1
          have n109 : ¬ V10.heap.size + 1 = V10.heap.size := fun e => n910 e.symm
          have k1 : blk (put (V11) (V10.heap.size) (Answer.enc A)) b6 = some (GOp.enc op) := by rw [blk_put, if_neg n69]; exact h6
          have k2 : blk (put (put (V11) (V10.heap.size) (Answer.enc A)) (V10.heap.size + 1) (Answer.enc A2)) b6 = some (GOp.enc op) := by rw [blk_put, if_neg n610]; exact k1
          clear z9 z10 HG
          refine wpAnyH_ready (rs := [8]) (by kernel_rfl) (by simp) ?_
          refine AllReadyH.cons (o := ⟨_, _, _, _, _, _⟩) rfl (fun K' hK => ?_) AllReadyH.nil
          go_simp
          refine hK.out _ _ k1 (fun hHeld => ?_)
          clear hK K'
          try simp only [Act.put, List.setIfInBounds_toArray, List.set_cons_zero, List.set_cons_succ]
          refine wpAnyH_ready (rs := [9]) (by kernel_rfl) (by simp) ?_
          refine AllReadyH.cons (o := ⟨_, _, _, _, _, _⟩) rfl (fun K' hK => ?_) AllReadyH.nil
          go_simp
          refine hK.out _ _ k2 (fun hHeld => ?_)
          clear hK K'
          try simp only [Act.put, List.setIfInBounds_toArray, List.set_cons_zero, List.set_cons_succ]
          refine wpAnyH_done (by kernel_rfl) ?_ _
          refine ⟨rfl, A, A2, _, _, cut_intro _ rfl ⟨rfl, rfl, rfl, rfl, rfl, rfl, rfl, rfl, rfl, HF⟩⟩
      · go_simp
        have hs10 : W1.heap.size ≤ V10.heap.size := by have := HG.out.jm.x.size; first | exact this | (rw [World.size_alloc] at this; exact this)
        have hG := g_a10 HG.out
        clear HG
        have HG := hid_of hG
        clear hG
        refine hK.out _ _ (HG.out.h6.1) (fun hHeld => ?_)
        clear hK K'
        try simp only [Act.put, List.setIfInBounds_toArray, List.set_cons_zero, List.set_cons_succ]
        refine wpAnyH_ready (rs := [5, 6]) (by kernel_rfl) (by simp) ?_
        refine AllReadyH.cons (o := ⟨_, _, _, _, _, _⟩) rfl (fun K' hK => ?_) (AllReadyH.cons (o := ⟨_, _, _, _, _, _⟩) rfl (fun K' hK => ?_) (AllReadyH.nil))
        · go_simp
          refine (g_step HG.out HMSM.out hnm).mono ?_
          rintro e V11 ⟨A2, ts2, sm2, O11, rfl, hG⟩
          clear HG
          have HG := hid_of hG
          clear hG
          dsimp only
          refine hK.out _ _ (HG.out.h6.1) (fun hHeld => ?_)
          clear hK K'
          try simp only [Act.put, List.setIfInBounds_toArray, List.set_cons_zero, List.set_cons_succ]
          refine wpAnyH_ready (rs := [6]) (by kernel_rfl) (by simp) ?_
          refine AllReadyH.cons (o := ⟨_, _, _, _, _, _⟩) rfl (fun K' hK => ?_) (AllReadyH.nil)
          go_simp
          have hs9 : W1.heap.size ≤ V11.heap.size := by have := HG.out.jm.x.size; first | exact this | (rw [World.size_alloc] at this; exact this)
          have hG := g_a9 HG.out
          clear HG
          have HG := hid_of hG
          clear hG
          refine hK.out _ _ (HG.out.h6.1) (fun hHeld => ?_)
          clear hK K'
          try simp only [Act.put, List.setIfInBounds_toArray, List.set_cons_zero, List.set_cons_succ]
          obtain ⟨VV, hVV⟩ : ∃ VV, VV = (V11).alloc (Obj.cells Answer.zero.enc.toArray 32) := ⟨_, rfl⟩
          rw [← hVV] at HG ⊢
          clear hVV
          have z9 := (HG.out.z9 _ rfl).1
          have z10 := (HG.out.z10 _ rfl).1
          have n69 := (HG.out.z9 _ rfl).2
          have n610 := (HG.out.z10 _ rfl).2
          have n910 := HG.out.ne _ _ rfl rfl
          have HF := hid_of (g_fin HG.out HE.out HRO.out HND.out hs9 hs10)
          have hb9 := z9.blk
          have hf9 := z9.2.1
          have hb10 := z10.blk
          have hf10 := z10.2.1
          have h6 := HG.out.h6.1
          have n109 : ¬ V10.heap.size = V11.heap.size := fun e => n910 e.symm
          have k1 : blk (put (VV) (V11.heap.size) (Answer.enc A)) b6 = some (GOp.enc op) := by rw [blk_put, if_neg n69]; exact h6
          have k2 : blk (put (put (VV) (V11.heap.size) (Answer.enc A)) (V10.heap.size) (Answer.enc A2)) b6 = some (GOp.enc op) := by rw [blk_put, if_neg n610]; exact k1
          clear z9 z10 HG
          refine wpAnyH_ready (rs := [8]) (by kernel_rfl) (by simp) ?_
          refine AllReadyH.cons (o := ⟨_, _, _, _, _, _⟩) rfl (fun K' hK => ?_) AllReadyH.nil
          go_simp
          refine hK.out _ _ k1 (fun hHeld => ?_)
          clear hK K'
          try simp only [Act.put, List.setIfInBounds_toArray, List.set_cons_zero, List.set_cons_succ]
          refine wpAnyH_ready (rs := [9]) (by kernel_rfl) (by simp) ?_
          refine AllReadyH.cons (o := ⟨_, _, _, _, _, _⟩) rfl (fun K' hK => ?_) AllReadyH.nil
          go_simp
          refine hK.out _ _ k2 (fun hHeld => ?_)
          clear hK K'
          try simp only [Act.put, List.setIfInBounds_toArray, List.set_cons_zero, List.set_cons_succ]
          refine wpAnyH_done (by kernel_rfl) ?_ _
          refine ⟨rfl, A, A2, _, _, cut_intro _ rfl ⟨rfl, rfl, rfl, rfl, rfl, rfl, rfl, rfl, rfl, HF⟩⟩
        · go_simp
          have hs9 : W1.heap.size ≤ V10.heap.size + 1 := by have := HG.out.jm.x.size; first | exact this | (rw [World.size_alloc] at this; exact this)
          have hG := g_a9 HG.out
          rw [show ((V10).alloc (Obj.cells Answer.zero.enc.toArray 32)).heap.size = V10.heap.size + 1 from World.size_alloc _ _] at hG
          clear HG
          have HG := hid_of hG
          clear hG
          refine hK.out _ _ (HG.out.h6.1) (fun hHeld => ?_)
          clear hK K'
          try simp only [Act.put, List.setIfInBounds_toArray, List.set_cons_zero, List.set_cons_succ]
          refine wpAnyH_ready (rs := [5]) (by kernel_rfl) (by simp) ?_
          refine AllReadyH.cons (o := ⟨_, _, _, _, _, _⟩) rfl (fun K' hK => ?_) (AllReadyH.nil)
          go_simp
          refine (g_step HG.out HMSM.out hnm).mono ?_
          rintro e V11 ⟨A2, ts2, sm2, O11, rfl, hG⟩
          clear HG
          have HG := hid_of hG
          clear hG
          dsimp only
          refine hK.out _ _ (HG.out.h6.1) (fun hHeld => ?_)
          clear hK K'
          try simp only [Act.put, List.setIfInBounds_toArray, List.set_cons_zero, List.set_cons_succ]
          have z9 := (HG.out.z9 _ rfl).1
          have z10 := (HG.out.z10 _ rfl).1
          have n69 := (HG.out.z9 _ rfl).2
          have n610 := (HG.out.z10 _ rfl).2
          have n910 := HG.out.ne _ _ rfl rfl
          have HF := hid_of (g_fin HG.out HE.out HRO.out HND.out hs9 hs10)
          have hb9 := z9.blk
          have hf9 := z9.2.1
          have hb10 := z10.blk
          have hf10 := z10.2.1
          have h6 := HG.out.h6.1
          have n109 : ¬ V10.heap.size = V10.heap.size + 1 := fun e => n910 e.symm
          have k1 : blk (put (V11) (V10.heap.size + 1) (Answer.enc A)) b6 = some (GOp.enc op) := by rw [blk_put, if_neg n69]; exact h6
          have k2 : blk (put (put (V11) (V10.heap.size + 1) (Answer.enc A)) (V10.heap.size) (Answer.enc A2)) b6 = some (GOp.enc op) := by rw [blk_put, if_neg n610]; exact k1
          clear z9 z10 HG
          refine wpAnyH_ready (rs := [8]) (by kernel_rfl) (by simp) ?_
          refine AllReadyH.cons (o := ⟨_, _, _, _, _, _⟩) rfl (fun K' hK => ?_) AllReadyH.nil
          go_simp
          refine hK.out _ _ k1 (fun hHeld => ?_)
          clear hK K'
          try simp only [Act.put, List.setIfInBounds_toArray, List.set_cons_zero, List.set_cons_succ]
          refine wpAnyH_ready (rs := [9]) (by kernel_rfl) (by simp) ?_
          refine AllReadyH.cons (o := ⟨_, _, _, _, _, _⟩) rfl (fun K' hK => ?_) AllReadyH.nil
          go_simp
          refine hK.out _ _ k2 (fun hHeld => ?_)
          clear hK K'
          try simp only [Act.put, List.setIfInBounds_toArray, List.set_cons_zero, List.set_cons_succ]
          refine wpAnyH_done (by kernel_rfl) ?_ _
          refine ⟨rfl, A, A2, _, _, cut_intro _ rfl ⟨rfl, rfl, rfl, rfl, rfl, rfl, rfl, rfl, rfl, HF⟩⟩
    · go_simp
      have hs9 : W1.heap.size ≤ V9.heap.size := by have := HG.out.jm.x.size; first | exact this | (rw [World.size_alloc] at this; exact this)
      have hG := g_a9 HG.out
      clear HG
      have HG := hid_of hG
      clear hG
      refine hK.out _ _ (HG.out.h6.1) (fun hHeld => ?_)
      clear hK K'
      try simp only [Act.put, List.setIfInBounds_toArray, List.set_cons_zero, List.set_cons_succ]
      refine wpAnyH_ready (rs := [2, 7]) (by kernel_rfl) (by simp) ?_
      refine AllReadyH.cons (o := ⟨_, _, _, _, _, _⟩) rfl (fun K' hK => ?_) (AllReadyH.cons (o := ⟨_, _, _, _, _, _⟩) rfl (fun K' hK => ?_) (AllReadyH.nil))
      · go_simp
        refine (g_play HG.out hmask hnm).mono ?_
        rintro e V10 ⟨A, ts, st1, O10, rfl, hG⟩
        clear HG
        have HG := hid_of hG
        have hz10 : True := trivial
        clear hG
        dsimp only
        refine hK.out _ _ (HG.out.h6.1) (fun hHeld => ?_)
        clear hK K'
        try simp only [Act.put, List.setIfInBounds_toArray, List.set_cons_zero, List.set_cons_succ]
        refine wpAnyH_ready (rs := [5, 7]) (by kernel_rfl) (by simp) ?_
        refine AllReadyH.cons (o := ⟨_, _, _, _, _, _⟩) rfl (fun K' hK => ?_) (AllReadyH.cons (o := ⟨_, _, _, _, _, _⟩) rfl (fun K' hK => ?_) (AllReadyH.nil))
        · go_simp
          refine (g_step HG.out HMSM.out hnm).mono ?_
          rintro e V11 ⟨A2, ts2, sm2, O11, rfl, hG⟩
          clear HG
          have HG := hid_of hG
          clear hG
          dsimp only
          refine hK.out _ _ (HG.out.h6.1) (fun hHeld => ?_)
          clear hK K'
          try simp only [Act.put, List.setIfInBounds_toArray, List.set_cons_zero, List.set_cons_succ]
          refine wpAnyH_ready (rs := [7]) (by kernel_rfl) (by simp) ?_
          refine AllReadyH.cons (o := ⟨_, _, _, _, _, _⟩) rfl (fun K' hK => ?_) (AllReadyH.nil)
          go_simp
          have hs10 : W1.heap.size ≤ V11.heap.size := by have := HG.out.jm.x.size; first | exact this | (rw [World.size_alloc] at this; exact this)
          have hG := g_a10 HG.out
          clear HG
          have HG := hid_of hG
          clear hG
          refine hK.out _ _ (HG.out.h6.1) (fun hHeld => ?_)
          clear hK K'
          try simp only [Act.put, List.setIfInBounds_toArray, List.set_cons_zero, List.set_cons_succ]
          obtain ⟨VV, hVV⟩ : ∃ VV, VV = (V11).alloc (Obj.cells Answer.zero.enc.toArray 32) := ⟨_, rfl⟩
          rw [← hVV] at HG ⊢
          clear hVV
          have z9 := (HG.out.z9 _ rfl).1
          have z10 := (HG.out.z10 _ rfl).1
          have n69 := (HG.out.z9 _ rfl).2
          have n610 := (HG.out.z10 _ rfl).2
          have n910 := HG.out.ne _ _ rfl rfl
          have HF := hid_of (g_fin HG.out HE.out HRO.out HND.out hs9 hs10)
          have hb9 := z9.blk
          have hf9 := z9.2.1
          have hb10 := z10.blk
          have hf10 := z10.2.1
          have h6 := HG.out.h6.1
          have n109 : ¬ V11.heap.size = V9.heap.size := fun e => n910 e.symm
          have k1 : blk (put (VV) (V9.heap.size) (Answer.enc A)) b6 = some (GOp.enc op) := by rw [blk_put, if_neg n69]; exact h6
          have k2 : blk (put (put (VV) (V9.heap.size) (Answer.enc A)) (V11.heap.size) (Answer.enc A2)) b6 = some (GOp.enc op) := by rw [blk_put, if_neg n610]; exact k1
          clear z9 z10 HG
          refine wpAnyH_ready (rs := [8]) (by kernel_rfl) (by simp) ?_
          refine AllReadyH.cons (o := ⟨_, _, _, _, _, _⟩) rfl (fun K' hK => ?_) AllReadyH.nil
          go_simp
          refine hK.out _ _ k1 (fun hHeld => ?_)
          clear hK K'
          try simp only [Act.put, List.setIfInBounds_toArray, List.set_cons_zero, List.set_cons_succ]
          refine wpAnyH_ready (rs := [9]) (by kernel_rfl) (by simp) ?_
          refine AllReadyH.cons (o := ⟨_, _, _, _, _, _⟩) rfl (fun K' hK => ?_) AllReadyH.nil
          go_simp
          refine hK.out _ _ k2 (fun hHeld => ?_)
          clear hK K'
          try simp only [Act.put, List.setIfInBounds_toArray, List.set_cons_zero, List.set_cons_succ]
          refine wpAnyH_done (by kernel_rfl) ?_ _
          refine ⟨rfl, A, A2, _, _, cut_intro _ rfl ⟨rfl, rfl, rfl, rfl, rfl, rfl, rfl, rfl, rfl, HF⟩⟩
        · go_simp
          have hs10 : W1.heap.size ≤ V10.heap.size := by have := HG.out.jm.x.size; first | exact this | (rw [World.size_alloc] at this; exact this)
          have hG := g_a10 HG.out
          clear HG
          have HG := hid_of hG
          clear hG
          refine hK.out _ _ (HG.out.h6.1) (fun hHeld => ?_)
          clear hK K'
          try simp only [Act.put, List.setIfInBounds_toArray, List.set_cons_zero, List.set_cons_succ]
          refine wpAnyH_ready (rs := [5]) (by kernel_rfl) (by simp) ?_
          refine AllReadyH.cons (o := ⟨_, _, _, _, _, _⟩) rfl (fun K' hK => ?_) (AllReadyH.nil)
          go_simp
          refine (g_step HG.out HMSM.out hnm).mono ?_
          rintro e V11 ⟨A2, ts2, sm2, O11, rfl, hG⟩
          clear HG
          have HG := hid_of hG
          clear hG
          dsimp only
          refine hK.out _ _ (HG.out.h6.1) (fun hHeld => ?_)
          clear hK K'
          try simp only [Act.put, List.setIfInBounds_toArray, List.set_cons_zero, List.set_cons_succ]
          have z9 := (HG.out.z9 _ rfl).1
          have z10 := (HG.out.z10 _ rfl).1
          have n69 := (HG.out.z9 _ rfl).2
          have n610 := (HG.out.z10 _ rfl).2
          have n910 := HG.out.ne _ _ rfl rfl
          have HF := hid_of (g_fin HG.out HE.out HRO.out HND.out hs9 hs10)
          have hb9 := z9.blk
          have hf9 := z9.2.1
          have hb10 := z10.blk
          have hf10 := z10.2.1
          have h6 := HG.out.h6.1
          have n109 : ¬ V10.heap.size = V9.heap.size := fun e => n910 e.symm
          have k1 : blk (put (V11) (V9.heap.size) (Answer.enc A)) b6 = some (GOp.enc op) := by rw [blk_put, if_neg n69]; exact h6
          have k2 : blk (put (put (V11) (V9.heap.size) (Answer.enc A)) (V10.heap.size) (Answer.enc A2)) b6 = some (GOp.enc op) := by rw [blk_put, if_neg n610]; exact k1
          clear z9 z10 HG
          refine wpAnyH_ready (rs := [8]) (by kernel_rfl) (by simp) ?_
          refine AllReadyH.cons (o := ⟨_, _, _, _, _, _⟩) rfl (fun K' hK => ?_) AllReadyH.nil
          go_simp
          refine hK.out _ _ k1 (fun hHeld => ?_)
          clear hK K'
          try simp only [Act.put, List.setIfInBounds_toArray, List.set_cons_zero, List.set_cons_succ]
          refine wpAnyH_ready (rs := [9]) (by kernel_rfl) (by simp) ?_
          refine AllReadyH.cons (o := ⟨_, _, _, _, _, _⟩) rfl (fun K' hK => ?_) AllReadyH.nil
          go_simp
          refine hK.out _ _ k2 (fun hHeld => ?_)
          clear hK K'
          try simp only [Act.put, List.setIfInBounds_toArray, List.set_cons_zero, List.set_cons_succ]
          refine wpAnyH_done (by kernel_rfl) ?_ _
          refine ⟨rfl, A, A2, _, _, cut_intro _ rfl ⟨rfl, rfl, rfl, rfl, rfl, rfl, rfl, rfl, rfl, HF⟩⟩
      · go_simp
        have hs10 : W1.heap.size ≤ V9.heap.size + 1 := by have := HG.out.jm.x.size; first | exact this | (rw [World.size_alloc] at this; exact this)
        have hG := g_a10 HG.out
        rw [show ((V9).alloc (Obj.cells Answer.zero.enc.toArray 32)).heap.size = V9.heap.size + 1 from World.size_alloc _ _] at hG
        clear HG
        have HG := hid_of hG
        clear hG
        refine hK.out _ _ (HG.out.h6.1) (fun hHeld => ?_)
        clear hK K'
        try simp only [Act.put, List.setIfInBounds_toArray, List.set_cons_zero, List.set_cons_succ]
        refine wpAnyH_ready (rs := [2]) (by kernel_rfl) (by simp) ?_
        refine AllReadyH.cons (o := ⟨_, _, _, _, _, _⟩) rfl (fun K' hK => ?_) (AllReadyH.nil)
        go_simp
        refine (g_play HG.out hmask hnm).mono ?_
        rintro e V10 ⟨A, ts, st1, O10, rfl, hG⟩
        clear HG
        have HG := hid_of hG
        have hz10 : True := trivial
        clear hG
        dsimp only
        refine hK.out _ _ (HG.out.h6.1) (fun hHeld => ?_)
        clear hK K'
        try simp only [Act.put, List.setIfInBounds_toArray, List.set_cons_zero, List.set_cons_succ]
        refine wpAnyH_ready (rs := [5]) (by kernel_rfl) (by simp) ?_
        refine AllReadyH.cons (o := ⟨_, _, _, _, _, _⟩) rfl (fun K' hK => ?_) (AllReadyH.nil)
        go_simp
        refine (g_step HG.out HMSM.out hnm).mono ?_
        rintro e V11 ⟨A2, ts2, sm2, O11, rfl, hG⟩
        clear HG
        have HG := hid_of hG
        clear hG
        dsimp only
        refine hK.out _ _ (HG.out.h6.1) (fun hHeld => ?_)
        clear hK K'
        try simp only [Act.put, List.setIfInBounds_toArray, List.set_cons_zero, List.set_cons_succ]
        have z9 := (HG.out.z9 _ rfl).1
        have z10 := (HG.out.z10 _ rfl).1
        have n69 := (HG.out.z9 _ rfl).2
        have n610 := (HG.out.z10 _ rfl).2
        have n910 := HG.out.ne _ _ rfl rfl
        have HF := hid_of (g_fin HG.out HE.out HRO.out HND.out hs9 hs10)
        have hb9 := z9.blk
        have hf9 := z9.2.1
        have hb10 := z10.blk
        have hf10 := z10.2.1
        have h6 := HG.out.h6.1
        have n109 : ¬ V9.heap.size + 1 = V9.heap.size := fun e => n910 e.symm
        have k1 : blk (put (V11) (V9.heap.size) (Answer.enc A)) b6 = some (GOp.enc op) := by rw [blk_put, if_neg n69]; exact h6
        have k2 : blk (put (put (V11) (V9.heap.size) (Answer.enc A)) (V9.heap.size + 1) (Answer.enc A2)) b6 = some (GOp.enc op) := by rw [blk_put, if_neg n610]; exact k1
        clear z9 z10 HG
        refine wpAnyH_ready (rs := [8]) (by kernel_rfl) (by simp) ?_
        refine AllReadyH.cons (o := ⟨_, _, _, _, _, _⟩) rfl (fun K' hK => ?_) AllReadyH.nil
        go_simp
        refine hK.out _ _ k1 (fun hHeld => ?_)
        clear hK K'
        try simp only [Act.put, List.setIfInBounds_toArray, List.set_cons_zero, List.set_cons_succ]
        refine wpAnyH_ready (rs := [9]) (by kernel_rfl) (by simp) ?_
        refine AllReadyH.cons (o := ⟨_, _, _, _, _, _⟩) rfl (fun K' hK => ?_) AllReadyH.nil
        go_simp
        refine hK.out _ _ k2 (fun hHeld => ?_)
        clear hK K'
        try simp only [Act.put, List.setIfInBounds_toArray, List.set_cons_zero, List.set_cons_succ]
        refine wpAnyH_done (by kernel_rfl) ?_ _
        refine ⟨rfl, A, A2, _, _, cut_intro _ rfl ⟨rfl, rfl, rfl, rfl, rfl, rfl, rfl, rfl, rfl, HF⟩⟩
    · go_simp
      have hs10 : W1.heap.size ≤ V9.heap.size := by have := HG.out.jm.x.size; first | exact this | (rw [World.size_alloc] at this; exact this)
      have hG := g_a10 HG.out
      clear HG
      have HG := hid_of hG
      clear hG
      refine hK.out _ _ (HG.out.h6.1) (fun hHeld => ?_)
      clear hK K'
      try simp only [Act.put, List.setIfInBounds_toArray, List.set_cons_zero, List.set_cons_succ]
      refine wpAnyH_ready (rs := [2, 6]) (by kernel_rfl) (by simp) ?_
      refine AllReadyH.cons (o := ⟨_, _, _, _, _, _⟩) rfl (fun K' hK => ?_) (AllReadyH.cons (o := ⟨_, _, _, _, _, _⟩) rfl (fun K' hK => ?_) (AllReadyH.nil))
      · go_simp
        refine (g_play HG.out hmask hnm).mono ?_
        rintro e V10 ⟨A, ts, st1, O10, rfl, hG⟩
        clear HG
        have HG := hid_of hG
        have hz10 : True := trivial
        clear hG
        dsimp only
        refine hK.out _ _ (HG.out.h6.1) (fun hHeld => ?_)
        clear hK K'
        try simp only [Act.put, List.setIfInBounds_toArray, List.set_cons_zero, List.set_cons_succ]
        refine wpAnyH_ready (rs := [5, 6]) (by kernel_rfl) (by simp) ?_
        refine AllReadyH.cons (o := ⟨_, _, _, _, _, _⟩) rfl (fun K' hK => ?_) (AllReadyH.cons (o := ⟨_, _, _, _, _, _⟩) rfl (fun K' hK => ?_) (AllReadyH.nil))
        · go_simp
          refine (g_step HG.out HMSM.out hnm).mono ?_
          rintro e V11 ⟨A2, ts2, sm2, O11, rfl, hG⟩
          clear HG
          have HG := hid_of hG
          clear hG
          dsimp only
          refine hK.out _ _ (HG.out.h6.1) (fun hHeld => ?_)
          clear hK K'
          try simp only [Act.put, List.setIfInBounds_toArray, List.set_cons_zero, List.set_cons_succ]
          refine wpAnyH_ready (rs := [6]) (by kernel_rfl) (by simp) ?_
          refine AllReadyH.cons (o := ⟨_, _, _, _, _, _⟩) rfl (fun K' hK => ?_) (AllReadyH.nil)
          go_simp
          have hs9 : W1.heap.size ≤ V11.heap.size := by have := HG.out.jm.x.size; first | exact this | (rw [World.size_alloc] at this; exact this)
          have hG := g_a9 HG.out
          clear HG
          have HG := hid_of hG
          clear hG
          refine hK.out _ _ (HG.out.h6.1) (fun hHeld => ?_)
          clear hK K'
          try simp only [Act.put, List.setIfInBounds_toArray, List.set_cons_zero, List.set_cons_succ]
          obtain ⟨VV, hVV⟩ : ∃ VV, VV = (V11).alloc (Obj.cells Answer.zero.enc.toArray 32) := ⟨_, rfl⟩
          rw [← hVV] at HG ⊢
          clear hVV
          have z9 := (HG.out.z9 _ rfl).1
          have z10 := (HG.out.z10 _ rfl).1
          have n69 := (HG.out.z9 _ rfl).2
          have n610 := (HG.out.z10 _ rfl).2
          have n910 := HG.out.ne _ _ rfl rfl
          have HF := hid_of (g_fin HG.out HE.out HRO.out HND.out hs9 hs10)
          have hb9 := z9.blk
          have hf9 := z9.2.1
          have hb10 := z10.blk
          have hf10 := z10.2.1
          have h6 := HG.out.h6.1
          have n109 : ¬ V9.heap.size = V11.heap.size := fun e => n910 e.symm
          have k1 : blk (put (VV) (V11.heap.size) (Answer.enc A)) b6 = some (GOp.enc op) := by rw [blk_put, if_neg n69]; exact h6
          have k2 : blk (put (put (VV) (V11.heap.size) (Answer.enc A)) (V9.heap.size) (Answer.enc A2)) b6 = some (GOp.enc op) := by rw [blk_put, if_neg n610]; exact k1
          clear z9 z10 HG
          refine wpAnyH_ready (rs := [8]) (by kernel_rfl) (by simp) ?_
          refine AllReadyH.cons (o := ⟨_, _, _, _, _, _⟩) rfl (fun K' hK => ?_) AllReadyH.nil
          go_simp
          refine hK.out _ _ k1 (fun hHeld => ?_)
          clear hK K'
          try simp only [Act.put, List.setIfInBounds_toArray, List.set_cons_zero, List.set_cons_succ]
          refine wpAnyH_ready (rs := [9]) (by kernel_rfl) (by simp) ?_
          refine AllReadyH.cons (o := ⟨_, _, _, _, _, _⟩) rfl (fun K' hK => ?_) AllReadyH.nil
          go_simp
          refine hK.out _ _ k2 (fun hHeld => ?_)
          clear hK K'
          try simp only [Act.put, List.setIfInBounds_toArray, List.set_cons_zero, List.set_cons_succ]
          refine wpAnyH_done (by kernel_rfl) ?_ _
          refine ⟨rfl, A, A2, _, _, cut_intro _ rfl ⟨rfl, rfl, rfl, rfl, rfl, rfl, rfl, rfl, rfl, HF⟩⟩
        · go_simp
          have hs9 : W1.heap.size ≤ V10.heap.size := by have := HG.out.jm.x.size; first | exact this | (rw [World.size_alloc] at this; exact this)
          have hG := g_a9 HG.out
          clear HG
          have HG := hid_of hG
          clear hG
          refine hK.out _ _ (HG.out.h6.1) (fun hHeld => ?_)
          clear hK K'
          try simp only [Act.put, List.setIfInBounds_toArray, List.set_cons_zero, List.set_cons_succ]
          refine wpAnyH_ready (rs := [5]) (by kernel_rfl) (by simp) ?_
          refine AllReadyH.cons (o := ⟨_, _, _, _, _, _⟩) rfl (fun K' hK => ?_) (AllReadyH.nil)
          go_simp
          refine (g_step HG.out HMSM.out hnm).mono ?_
          rintro e V11 ⟨A2, ts2, sm2, O11, rfl, hG⟩
          clear HG
          have HG := hid_of hG
          clear hG
          dsimp only
          refine hK.out _ _ (HG.out.h6.1) (fun hHeld => ?_)
          clear hK K'
          try simp only [Act.put, List.setIfInBounds_toArray, List.set_cons_zero, List.set_cons_succ]
          have z9 := (HG.out.z9 _ rfl).1
          have z10 := (HG.out.z10 _ rfl).1
          have n69 := (HG.out.z9 _ rfl).2
          have n610 := (HG.out.z10 _ rfl).2
          have n910 := HG.out.ne _ _ rfl rfl
          have HF := hid_of (g_fin HG.out HE.out HRO.out HND.out hs9 hs10)
          have hb9 := z9.blk
          have hf9 := z9.2.1
          have hb10 := z10.blk
          have hf10 := z10.2.1
          have h6 := HG.out.h6.1
          have n109 : ¬ V9.heap.size = V10.heap.size := fun e => n910 e.symm
          have k1 : blk (put (V11) (V10.heap.size) (Answer.enc A)) b6 = some (GOp.enc op) := by rw [blk_put, if_neg n69]; exact h6
          have k2 : blk (put (put (V11) (V10.heap.size) (Answer.enc A)) (V9.heap.size) (Answer.enc A2)) b6 = some (GOp.enc op) := by rw [blk_put, if_neg n610]; exact k1
          clear z9 z10 HG
          refine wpAnyH_ready (rs := [8]) (by kernel_rfl) (by simp) ?_
          refine AllReadyH.cons (o := ⟨_, _, _, _, _, _⟩) rfl (fun K' hK => ?_) AllReadyH.nil
          go_simp
          refine hK.out _ _ k1 (fun hHeld => ?_)
          clear hK K'
          try simp only [Act.put, List.setIfInBounds_toArray, List.set_cons_zero, List.set_cons_succ]
          refine wpAnyH_ready (rs := [9]) (by kernel_rfl) (by simp) ?_
          refine AllReadyH.cons (o := ⟨_, _, _, _, _, _⟩) rfl (fun K' hK => ?_) AllReadyH.nil
          go_simp
          refine hK.out _ _ k2 (fun hHeld => ?_)
          clear hK K'
          try simp only [Act.put, List.setIfInBounds_toArray, List.set_cons_zero, List.set_cons_succ]
          refine wpAnyH_done (by kernel_rfl) ?_ _
          refine ⟨rfl, A, A2, _, _, cut_intro _ rfl ⟨rfl, rfl, rfl, rfl, rfl, rfl, rfl, rfl, rfl, HF⟩⟩
      · go_simp
        have hs9 : W1.heap.size ≤ V9.heap.size + 1 := by have := HG.out.jm.x.size; first | exact this | (rw [World.size_alloc] at this; exact this)
        have hG := g_a9 HG.out
        rw [show ((V9).alloc (Obj.cells Answer.zero.enc.toArray 32)).heap.size = V9.heap.size + 1 from World.size_alloc _ _] at hG
        clear HG
        have HG := hid_of hG
        clear hG
        refine hK.out _ _ (HG.out.h6.1) (fun hHeld => ?_)
        clear hK K'
        try simp only [Act.put, List.setIfInBounds_toArray, List.set_cons_zero, List.set_cons_succ]
        refine wpAnyH_ready (rs := [2]) (by kernel_rfl) (by simp) ?_
        refine AllReadyH.cons (o := ⟨_, _, _, _, _, _⟩) rfl (fun K' hK => ?_) (AllReadyH.nil)
        go_simp
        refine (g_play HG.out hmask hnm).mono ?_
        rintro e V10 ⟨A, ts, st1, O10, rfl, hG⟩
        clear HG
        have HG := hid_of hG
        have hz10 : True := trivial
        clear hG
        dsimp only
        refine hK.out _ _ (HG.out.h6.1) (fun hHeld => ?_)
        clear hK K'
        try simp only [Act.put, List.setIfInBounds_toArray, List.set_cons_zero, List.set_cons_succ]
        refine wpAnyH_ready (rs := [5]) (by kernel_rfl) (by simp) ?_
        refine AllReadyH.cons (o := ⟨_, _, _, _, _, _⟩) rfl (fun K' hK => ?_) (AllReadyH.nil)
        go_simp
        refine (g_step HG.out HMSM.out hnm).mono ?_
        rintro e V11 ⟨A2, ts2, sm2, O11, rfl, hG⟩
        clear HG
        have HG := hid_of hG
        clear hG
        dsimp only
        refine hK.out _ _ (HG.out.h6.1) (fun hHeld => ?_)
        clear hK K'
        try simp only [Act.put, List.setIfInBounds_toArray, List.set_cons_zero, List.set_cons_succ]
        have z9 := (HG.out.z9 _ rfl).1
        have z10 := (HG.out.z10 _ rfl).1
        have n69 := (HG.out.z9 _ rfl).2
        have n610 := (HG.out.z10 _ rfl).2
        have n910 := HG.out.ne _ _ rfl rfl
        have HF := hid_of (g_fin HG.out HE.out HRO.out HND.out hs9 hs10)
        have hb9 := z9.blk
        have hf9 := z9.2.1
        have hb10 := z10.blk
        have hf10 := z10.2.1
        have h6 := HG.out.h6.1
        have n109 : ¬ V9.heap.size = V9.heap.size + 1 := fun e => n910 e.symm
        have k1 : blk (put (V11) (V9.heap.size + 1) (Answer.enc A)) b6 = some (GOp.enc op) := by rw [blk_put, if_neg n69]; exact h6
        have k2 : blk (put (put (V11) (V9.heap.size + 1) (Answer.enc A)) (V9.heap.size) (Answer.enc A2)) b6 = some (GOp.enc op) := by rw [blk_put, if_neg n610]; exact k1
        clear z9 z10 HG
        refine wpAnyH_ready (rs := [8]) (by kernel_rfl) (by simp) ?_
        refine AllReadyH.cons (o := ⟨_, _, _, _, _, _⟩) rfl (fun K' hK => ?_) AllReadyH.nil
        go_simp
        refine hK.out _ _ k1 (fun hHeld => ?_)
        clear hK K'
        try simp only [Act.put, List.setIfInBounds_toArray, List.set_cons_zero, List.set_cons_succ]
        refine wpAnyH_ready (rs := [9]) (by kernel_rfl) (by simp) ?_
        refine AllReadyH.cons (o := ⟨_, _, _, _, _, _⟩) rfl (fun K' hK => ?_) AllReadyH.nil
        go_simp
        refine hK.out _ _ k2 (fun hHeld => ?_)
        clear hK K'
        try simp only [Act.put, List.setIfInBounds_toArray, List.set_cons_zero, List.set_cons_succ]
        refine wpAnyH_done (by kernel_rfl) ?_ _
        refine ⟨rfl, A, A2, _, _, cut_intro _ rfl ⟨rfl, rfl, rfl, rfl, rfl, rfl, rfl, rfl, rfl, HF⟩⟩
  rintro _ V3 ⟨A, A2, b9, b10, f2, rfl, f0, f3, f4, f5, f6, f7, f8, f9, f10, HF⟩
  rw [frame148, f0, f3, f4, f5, f6, f7, f8, f9, f10]
  clear f0 f3 f4 f5 f6 f7 f8 f9 f10 hb6V hG0
  obtain ⟨O3, st1, sm2, ts, ts2, hJ3, hE3, hR3, hP, hP2, hb6, hb9, hb10, hrA, hrA2, ec, en, em, hpm⟩ := HF.out
  have hsa := sameAnswer_eq V3 A A2 ts ts2 hrA hrA2 ec en em hpm (HSML.out _ _ _ hP)
  have HJ3 := hid_of hJ3
  have HE3 := hid_of hE3
  have HR3 := hid_of hR3
  have HP := hid_of hP
  have HLX : Hid (∀ V', V3.Extends V' → L4 W1 B bs bm V') := fun V' hx => ⟨O3, st1, sm2, hJ3.ext hx, hE3, hR3⟩
  have HMS3 := hid_of (hJ3.s.msm hE3)
  clear HF hJ3 hE3 hR3 hP hP2 hrA hrA2 ec en em hpm
  by_cases hk : op.kind = 6
  · have hk6 : (op.kind == 6) = true := by simp [hk]
    go_wp2_with fail
    refine hsa.mono ?_
    rintro e V4 ⟨rfl, hx4⟩
    have HX4 := hid_of hx4
    have hb64 := (hx4.blk (blk_lt hb6)).trans hb6
    have hb94 := (hx4.blk (blk_lt hb9)).trans hb9
    clear hx4 hsa hb6 hb9 hb10
    dsimp only
    cases kn with
    | false =>
      have HLE := hid_of (HLX.out V4 HX4.out)
      clear HLX HX4
      go_wp2_with fail
      refine ⟨rfl, rfl, ⟨rfl, rfl, rfl, i + 1, by omega, ?_, HLE⟩, ?_⟩
      · show Value.int .i64 _ = _
        go_num
      · show len - (intOf (Value.int .i64 _)).toNat < len - (intOf (F 5)).toNat
        rw [H5.out]
        simp [intOf]; omega
    | true =>
      have hid : 0 ≤ op.rel ∧ op.rel < (rn : Int) := of_decide_eq_true HKN.out.symm
      obtain ⟨n, hn⟩ : ∃ n : Nat, op.rel = (n : Int) := ⟨op.rel.toNat, by omega⟩
      have hn1 : n < sm.rels.length := by have := HRN.out; omega
      have hn2 : n < st.rels.length := by rw [← HE.out.len]; exact hn1
      have hn3 : n < st1.rels.length := Nat.lt_of_lt_of_le hn2 (play_rels HP.out)
      obtain ⟨s1, hs1⟩ : ∃ s1, st1.rels[n]? = some s1 := ⟨_, List.getElem?_eq_getElem hn3⟩
      obtain ⟨s2, hs2⟩ : ∃ s2, sm2.rels[n]? = some s2 := ⟨_, List.getElem?_eq_getElem (by rw [HE3.out.len]; exact hn3)⟩
      have hrel := HE3.out.rel n s1 s2 hs1 hs2
      have ers1 : rowsS st1 op.rel = rowsOf s1.L := by rw [hn]; unfold rowsS; rw [relF_some hs1]
      have erc : relCode st1 op.rel = 0 := by rw [hn]; unfold relCode; rw [relF_some hs1]
      have hJ4 := HJ3.out.ext HX4.out
      have HWS : Hid (was = decide (op.t ∈ (rowsS st op.rel).map (·.1))) := by
        show _ = _
        rw [HWAS.out, Bool.true_and]
        exact decide_eq_decide.2 (HE.out.mem op.rel op.t)
      have hw : was = (A.code == 1) := by
        rw [HWS.out]
        obtain ⟨eA, _⟩ := play_kind6 HP.out hk
        rw [eA]
        show _ = (insF st op.rel op.t == 1)
        exact ins_was HRO.out
      have hli := listS_any B O3 V4 bs st1 hJ4.s op.rel
      rw [erc] at hli
      have HH := hid_of (And.intro hs1 (And.intro hs2 (And.intro hrel (And.intro hn (And.intro ers1 hJ4)))))
      clear hid hn1 hn2 hn3 hs1 hs2 hrel ers1 erc hJ4 HWS hn
      subst hw
      obtain ⟨wv, hwv⟩ : ∃ wv, wv = (A.code == 1) := ⟨_, rfl⟩
      rw [← hwv]
      have hwv2 := hwv.symm
      clear hwv
      go_wp2_with fail
      refine hli.mono ?_
      rintro e V5 ⟨a5, n5, c5, tl, rfl, hout5, htl⟩
      obtain ⟨hs1, hs2, hrel, hn, ers1, hJ4⟩ := HH.out
      have hE5 := hout5.2.1
      have hb65 := (hE5.blk (blk_lt hb64)).trans hb64
      have hln := lenS_any B O3 V5 bs st1 (hJ4.s.ext hE5) op.rel
      obtain ⟨wl, hwl0⟩ : ∃ wl, wl = (rowsOf s2.L).length := ⟨_, rfl⟩
      have ele : lenF st1 op.rel = ((wl : Int), 0) := by rw [hn]; unfold lenF; rw [relF_some hs1]; dsimp only; rw [hwl0, hrel.2.2.length_eq]
      have HWL0 := hid_of hwl0
      clear hwl0
      rw [ele] at hln
      have hco := contains_any B O3 V5 bs st1 (hJ4.s.ext hE5) op.rel op.t
      have eco : containsF st1 op.rel op.t = (decide (op.t ∈ (rowsOf s2.L).map (·.1)), (containsF st1 op.rel op.t).2) := by
        have h1 : (containsF st1 op.rel op.t).1 = decide (op.t ∈ (rowsOf s2.L).map (·.1)) := by
          have h2 := contains_mem HR3.out op.rel op.t
          rw [h2, ers1]
          exact decide_eq_decide.2 (((hrel.2.2.map (·.1)).mem_iff).symm)
        rw [← h1]
      rw [eco] at hco
      obtain ⟨cv, hcv⟩ : ∃ cv, cv = (containsF st1 op.rel op.t).2 := ⟨_, rfl⟩
      rw [← hcv] at hco
      obtain ⟨hv, hhv⟩ : ∃ hv, hv = decide (op.t ∈ (rowsOf s2.L).map (·.1)) := ⟨_, rfl⟩
      rw [← hhv] at hco
      have HHV := hid_of hhv
      have HOUT := hid_of (And.intro hout5 htl)
      clear hli hout5 htl hE5 hb64 hb94 ele eco hcv hhv hs1 hs2 hrel hn ers1 hJ4
      dsimp only
      go_wp2_with fail
      refine hln.mono ?_
      rintro e V6 ⟨rfl, rfl⟩
      clear hln
      dsimp only
      go_wp2_with fail
      refine hco.mono ?_
      rintro e V7 ⟨rfl, hx7⟩
      obtain ⟨hs1, hs2, hrel, hn, ers1, hJ4⟩ := HH.out
      have hJ7 := (hJ4.ext HOUT.out.1.2.1).ext hx7
      have hb67 := (hx7.blk (blk_lt hb65)).trans hb65
      have hd7 : V7.Extends V7.drew := extends_drew (ext_Ext (Ext.refl _))
      have htu := tuplesOf_any B O3 V7.drew bm sm2 (hJ7.m.ext hd7) HMS3.out n s2 hs2
      rw [← hn] at htu
      obtain ⟨na2, nn2, nc2, gr, rn2, rc2, Cr, ka, kn2, kc, wa, wn, wc, ho, _, _⟩ := mat_open hJ7.m hs2
      have hbm7 := ho.hb
      have hC7 := ho.bc
      have hl7 := ho.len
      have c2 := ho.c2
      have hwl := ho.rows.1
      have hnr := ho.hn
      obtain rfl : wn = wl := by rw [HWL0.out, hwl]
      have d2 : n * 3 < Cr.length := by omega
      have d3 : n * 3 + 2 + 1 ≤ Cr.length := by omega
      have q0r : (0 : Int) ≤ op.rel := by omega
      have q1r : op.rel < (rn2 : Int) := by omega
      have q2r : op.rel.toNat = n := by omega
      have hSx : ∀ V', V7.Extends V' → blk V' b6 = some (GOp.enc op) ∧ blk V' bm = some (vE na2 nn2 nc2 (some ⟨gr, 0, none⟩) rn2 rc2) ∧ blk V' gr = some Cr := fun V' hx => ⟨(hx.blk (blk_lt hb67)).trans hb67, (hx.blk (blk_lt hbm7)).trans hbm7, (hx.blk (blk_lt hC7)).trans hC7⟩
      have HSX := hid_of hSx
      have HJ7 := hid_of hJ7
      have HX7 := hid_of hx7
      have hn5 : n5 ≤ 10000 := by
        have h1 := HOUT.out.1.2.2
        have h2 := (HMS3.out.rel s2 (List.mem_of_getElem? hs2)).2.1
        rw [h1, HOUT.out.2, ers1, List.length_map, ← hrel.2.2.length_eq]; omega
      clear hco hs1 hs2 hrel ers1 hJ4 ho hl7 hwl hnr hJ7 hx7 hb65 hn
      dsimp only
      go_upto_region 27 with fail
      refine wp_region_held_drew (S := fun W' => blk W' b6 = some (GOp.enc op) ∧ blk W' bm = some (vE na2 nn2 nc2 (some ⟨gr, 0, none⟩) rn2 rc2) ∧ blk W' gr = some Cr) (by kernel_rfl) ⟨hb67, hbm7, hC7⟩ (fun hHeld => ?_)
      refine wpAnyH_take (i := 0) (oi := ⟨_, _, _, _, _, _⟩) (v := ?_) rfl (by kernel_rfl) (by kernel_rfl) (by kernel_rfl) (fun _ _ _ h => h) (Or.inl ⟨by rfl, ?_⟩) (by assumption) ?_
      rotate_left 1
      · intro W' hSw
        obtain ⟨hS1, hS2, hS3⟩ := hSw
        go_simp
        try with_reducible rfl
      try simp only [Act.put, List.setIfInBounds_toArray, List.set_cons_zero, List.set_cons_succ]
      refine wpAnyH_take (i := 1) (oi := ⟨_, _, _, _, _, _⟩) (v := ?_) rfl (by kernel_rfl) (by kernel_rfl) (by kernel_rfl) (fun _ _ _ h => h) (Or.inl ⟨by rfl, ?_⟩) (by assumption) ?_
      rotate_left 1
      · intro W' hSw
        obtain ⟨hS1, hS2, hS3⟩ := hSw
        go_simp
        try with_reducible rfl
      try simp only [Act.put, List.setIfInBounds_toArray, List.set_cons_zero, List.set_cons_succ]
      refine wpAnyH_take (i := 2) (oi := ⟨_, _, _, _, _, _⟩) (v := ?_) rfl (by kernel_rfl) (by kernel_rfl) (by kernel_rfl) (fun _ _ _ h => h) (Or.inl ⟨by rfl, ?_⟩) (by assumption) ?_
      rotate_left 1
      · intro W' hSw
        obtain ⟨hS1, hS2, hS3⟩ := hSw
        go_simp
        try with_reducible rfl
      try simp only [Act.put, List.setIfInBounds_toArray, List.set_cons_zero, List.set_cons_succ]
      refine wpAnyH_take (i := 3) (oi := ⟨_, _, _, _, _, _⟩) (v := ?_) rfl (by kernel_rfl) (by kernel_rfl) (by kernel_rfl) (fun _ _ _ h => h) (Or.inl ⟨by rfl, ?_⟩) (by assumption) ?_
      rotate_left 1
      · intro W' hSw
        obtain ⟨hS1, hS2, hS3⟩ := hSw
        go_simp
        try with_reducible rfl
      try simp only [Act.put, List.setIfInBounds_toArray, List.set_cons_zero, List.set_cons_succ]
      refine wpAnyH_ready (rs := [4]) (by kernel_rfl) (by simp) ?_
      refine AllReadyH.cons (o := ⟨_, _, _, _, _, _⟩) rfl (fun K' hK => ?_) AllReadyH.nil
      go_simp
      refine htu.mono ?_
      rintro e V8 ⟨a8, n8, c8, rfl, hout8⟩
      obtain ⟨hs1, hs2, hrel, hn, ers1, hJ4⟩ := HH.out
      have hx78 := hd7.trans hout8.2.1
      have hsb := sameBag_perm V8 a5 n5 c5 a8 n8 c8 tl ((rowsOf s2.L).map (·.1)) ((rw_own tpl_len ((HOUT.out.1.ext HX7.out).ext hx78).1).1) hout8.rw' (by rw [HOUT.out.2, ers1]; exact hrel.2.2.map _) hn5
      have HX8 := hid_of hx78
      have hS8 := hSx V8 hx78
      clear hs1 hs2 hrel hn ers1 hJ4 hout8 htu hx78
      dsimp only
      refine hK.out _ _ hS8 (fun hHeld => ?_)
      clear hK K'
      try simp only [Act.put, List.setIfInBounds_toArray, List.set_cons_zero, List.set_cons_succ]
      refine wpAnyH_ready (rs := [5]) (by kernel_rfl) (by simp) ?_
      refine AllReadyH.cons (o := ⟨_, _, _, _, _, _⟩) rfl (fun K' hK => ?_) AllReadyH.nil
      go_simp
      refine hsb.mono ?_
      rintro e V9 ⟨rfl, hx9⟩
      obtain ⟨hs1, hs2, hrel, hn, ers1, hJ4⟩ := HH.out
      have hx79 := HX8.out.trans hx9
      have hS9 := hSx V9 hx79
      have hwh := where_any B O3 V9 bm sm2 (HJ7.out.m.ext hx79) HMS3.out n s2 hs2 op.t
      rw [← hn] at hwh
      have HL9 : Hid (∀ V', V9.Extends V' → L4 W1 B bs bm V') := fun V' hx => HLX.out V' (((HX4.out.trans HOUT.out.1.2.1).trans HX7.out).trans (hx79.trans hx))
      have hb69 := hS9.1
      clear hs1 hs2 hrel hn ers1 hJ4 hsb hx79 hx9 HX8 hS8 HLX
      dsimp only
      refine hK.out _ _ hS9 (fun hHeld => ?_)
      clear hK K'
      try simp only [Act.put, List.setIfInBounds_toArray, List.set_cons_zero, List.set_cons_succ]
      refine wpAnyH_take (i := 6) (oi := ⟨_, _, _, _, _, _⟩) (v := ?_) rfl (by kernel_rfl) (by kernel_rfl) (by kernel_rfl) (fun _ _ _ h => h) (Or.inl ⟨by rfl, ?_⟩) (by assumption) ?_
      rotate_left 1
      · intro W' hSw
        obtain ⟨hS1, hS2, hS3⟩ := hSw
        go_simp
        try with_reducible rfl
      try simp only [Act.put, List.setIfInBounds_toArray, List.set_cons_zero, List.set_cons_succ]
      refine wpAnyH_take (i := 7) (oi := ⟨_, _, _, _, _, _⟩) (v := ?_) rfl (by kernel_rfl) (by kernel_rfl) (by kernel_rfl) (fun _ _ _ h => h) (Or.inl ⟨by rfl, ?_⟩) (by assumption) ?_
      rotate_left 1
      · intro W' hSw
        obtain ⟨hS1, hS2, hS3⟩ := hSw
        go_simp
        try with_reducible rfl
      try simp only [Act.put, List.setIfInBounds_toArray, List.set_cons_zero, List.set_cons_succ]
      refine wpAnyH_take (i := 8) (oi := ⟨_, _, _, _, _, _⟩) (v := ?_) rfl (by kernel_rfl) (by kernel_rfl) (by kernel_rfl) (fun _ _ _ h => h) (Or.inl ⟨by rfl, ?_⟩) (by assumption) ?_
      rotate_left 1
      · intro W' hSw
        obtain ⟨hS1, hS2, hS3⟩ := hSw
        go_simp
        try with_reducible rfl
      try simp only [Act.put, List.setIfInBounds_toArray, List.set_cons_zero, List.set_cons_succ]
      refine wpAnyH_take (i := 9) (oi := ⟨_, _, _, _, _, _⟩) (v := ?_) rfl (by kernel_rfl) (by kernel_rfl) (by kernel_rfl) (fun _ _ _ h => h) (Or.inl ⟨by rfl, ?_⟩) (by assumption) ?_
      rotate_left 1
      · intro W' hSw
        obtain ⟨hS1, hS2, hS3⟩ := hSw
        go_simp
        try with_reducible rfl
      try simp only [Act.put, List.setIfInBounds_toArray, List.set_cons_zero, List.set_cons_succ]
      refine wpAnyH_take (i := 10) (oi := ⟨_, _, _, _, _, _⟩) (v := ?_) rfl (by kernel_rfl) (by kernel_rfl) (by kernel_rfl) (fun _ _ _ h => h) (Or.inl ⟨by rfl, ?_⟩) (by assumption) ?_
      rotate_left 1
      · intro W' hSw
        obtain ⟨hS1, hS2, hS3⟩ := hSw
        go_simp
        try with_reducible rfl
      try simp only [Act.put, List.setIfInBounds_toArray, List.set_cons_zero, List.set_cons_succ]
      refine wpAnyH_take (i := 11) (oi := ⟨_, _, _, _, _, _⟩) (v := ?_) rfl (by kernel_rfl) (by kernel_rfl) (by kernel_rfl) (fun _ _ _ h => h) (Or.inl ⟨by rfl, ?_⟩) (by assumption) ?_
      rotate_left 1
      · intro W' hSw
        obtain ⟨hS1, hS2, hS3⟩ := hSw
        go_simp
        try with_reducible rfl
      try simp only [Act.put, List.setIfInBounds_toArray, List.set_cons_zero, List.set_cons_succ]
      refine wpAnyH_take (i := 12) (oi := ⟨_, _, _, _, _, _⟩) (v := ?_) rfl (by kernel_rfl) (by kernel_rfl) (by kernel_rfl) (fun _ _ _ h => h) (Or.inl ⟨by rfl, ?_⟩) (by assumption) ?_
      rotate_left 1
      · intro W' hSw
        obtain ⟨hS1, hS2, hS3⟩ := hSw
        go_simp
        try with_reducible rfl
      try simp only [Act.put, List.setIfInBounds_toArray, List.set_cons_zero, List.set_cons_succ]
      refine wpAnyH_take (i := 13) (oi := ⟨_, _, _, _, _, _⟩) (v := ?_) rfl (by kernel_rfl) (by kernel_rfl) (by kernel_rfl) (fun _ _ _ h => h) (Or.inl ⟨by rfl, ?_⟩) (by assumption) ?_
      rotate_left 1
      · intro W' hSw
        obtain ⟨hS1, hS2, hS3⟩ := hSw
        go_simp
        try with_reducible rfl
      try simp only [Act.put, List.setIfInBounds_toArray, List.set_cons_zero, List.set_cons_succ]
      refine wpAnyH_take (i := 14) (oi := ⟨_, _, _, _, _, _⟩) (v := ?_) rfl (by kernel_rfl) (by kernel_rfl) (by kernel_rfl) (fun _ _ _ h => h) (Or.inl ⟨by rfl, ?_⟩) (by assumption) ?_
      rotate_left 1
      · intro W' hSw
        obtain ⟨hS1, hS2, hS3⟩ := hSw
        go_simp
        try with_reducible rfl
      try simp only [Act.put, List.setIfInBounds_toArray, List.set_cons_zero, List.set_cons_succ]
      refine wpAnyH_take (i := 15) (oi := ⟨_, _, _, _, _, _⟩) (v := ?_) rfl (by kernel_rfl) (by kernel_rfl) (by kernel_rfl) (fun _ _ _ h => h) (Or.inl ⟨by rfl, ?_⟩) (by assumption) ?_
      rotate_left 1
      · intro W' hSw
        obtain ⟨hS1, hS2, hS3⟩ := hSw
        go_simp
        try with_reducible rfl
      try simp only [Act.put, List.setIfInBounds_toArray, List.set_cons_zero, List.set_cons_succ]
      refine wpAnyH_take (i := 16) (oi := ⟨_, _, _, _, _, _⟩) (v := ?_) rfl (by kernel_rfl) (by kernel_rfl) (by kernel_rfl) (fun _ _ _ h => h) (Or.inl ⟨by rfl, ?_⟩) (by assumption) ?_
      rotate_left 1
      · intro W' hSw
        obtain ⟨hS1, hS2, hS3⟩ := hSw
        go_simp
        try with_reducible rfl
      try simp only [Act.put, List.setIfInBounds_toArray, List.set_cons_zero, List.set_cons_succ]
      refine wpAnyH_take (i := 17) (oi := ⟨_, _, _, _, _, _⟩) (v := ?_) rfl (by kernel_rfl) (by kernel_rfl) (by kernel_rfl) (fun _ _ _ h => h) (Or.inl ⟨by rfl, ?_⟩) (by assumption) ?_
      rotate_left 1
      · intro W' hSw
        obtain ⟨hS1, hS2, hS3⟩ := hSw
        go_simp
        try with_reducible rfl
      try simp only [Act.put, List.setIfInBounds_toArray, List.set_cons_zero, List.set_cons_succ]
      refine wpAnyH_take (i := 18) (oi := ⟨_, _, _, _, _, _⟩) (v := ?_) rfl (by kernel_rfl) (by kernel_rfl) (by kernel_rfl) (fun _ _ _ h => h) (Or.inl ⟨by rfl, ?_⟩) (by assumption) ?_
      rotate_left 1
      · intro W' hSw
        obtain ⟨hS1, hS2, hS3⟩ := hSw
        go_simp
        try with_reducible rfl
      try simp only [Act.put, List.setIfInBounds_toArray, List.set_cons_zero, List.set_cons_succ]
      refine wpAnyH_take (i := 19) (oi := ⟨_, _, _, _, _, _⟩) (v := ?_) rfl (by kernel_rfl) (by kernel_rfl) (by kernel_rfl) (fun _ _ _ h => h) (Or.inl ⟨by rfl, ?_⟩) (by assumption) ?_
      rotate_left 1
      · intro W' hSw
        obtain ⟨hS1, hS2, hS3⟩ := hSw
        go_simp
        try with_reducible rfl
      try simp only [Act.put, List.setIfInBounds_toArray, List.set_cons_zero, List.set_cons_succ]
      refine wpAnyH_take (i := 20) (oi := ⟨_, _, _, _, _, _⟩) (v := ?_) rfl (by kernel_rfl) (by kernel_rfl) (by kernel_rfl) (fun _ _ _ h => h) (Or.inl ⟨by rfl, ?_⟩) (by assumption) ?_
      rotate_left 1
      · intro W' hSw
        obtain ⟨hS1, hS2, hS3⟩ := hSw
        go_simp
        try with_reducible rfl
      try simp only [Act.put, List.setIfInBounds_toArray, List.set_cons_zero, List.set_cons_succ]
      refine wpAnyH_done (by kernel_rfl) ?_ _
      obtain ⟨kw, hkw, hkv⟩ : ∃ kw : Int, whR (rowsOf s2.L) op.t = kw ∧ ((hv = true ∧ (0 : Int) ≤ kw) ∨ (hv = false ∧ ¬ (0 : Int) ≤ kw)) := by
        refine ⟨_, rfl, ?_⟩
        by_cases hin : op.t ∈ (rowsOf s2.L).map (·.1)
        · obtain ⟨k, hk', _⟩ := whR_pos hin
          exact .inl ⟨by rw [HHV.out]; exact decide_eq_true hin, by rw [hk']; omega⟩
        · exact .inr ⟨by rw [HHV.out]; exact decide_eq_false hin, by rw [whR_neg hin]; omega⟩
      rw [hkw] at hwh
      clear hkw HHV
      rcases hkv with ⟨rfl, hkw0⟩ | ⟨rfl, hkw0⟩
      all_goals
        skip

        clear hSx
        go_wp2_with fail
        refine hwh.mono ?_
        rintro e V10 ⟨rfl, hx10⟩
        have HLE := hid_of (HL9.out V10 hx10)
        clear hx10 hwh HL9
        dsimp only
        go_wp2_with fail
        refine ⟨rfl, rfl, ⟨rfl, rfl, rfl, i + 1, by omega, ?_, HLE⟩, ?_⟩
        · show Value.int .i64 _ = _
          go_num
        · show len - (intOf (Value.int .i64 _)).toNat < len - (intOf (F 5)).toNat
          rw [H5.out]
          simp [intOf]; omega
  have hk6 : (op.kind == 6) = false := by simp [hk]
  have hkn6 := hk
  clear hk
  by_cases hk : op.kind = 7
  · have hk7 : (op.kind == 7) = true := by simp [hk]
    go_wp2_with fail
    refine hsa.mono ?_
    rintro e V4 ⟨rfl, hx4⟩
    have HX4 := hid_of hx4
    have hb64 := (hx4.blk (blk_lt hb6)).trans hb6
    have hb94 := (hx4.blk (blk_lt hb9)).trans hb9
    clear hx4 hsa hb6 hb9 hb10
    dsimp only
    cases kn with
    | false =>
      have HLE := hid_of (HLX.out V4 HX4.out)
      clear HLX HX4
      go_wp2_with fail
      refine ⟨rfl, rfl, ⟨rfl, rfl, rfl, i + 1, by omega, ?_, HLE⟩, ?_⟩
      · show Value.int .i64 _ = _
        go_num
      · show len - (intOf (Value.int .i64 _)).toNat < len - (intOf (F 5)).toNat
        rw [H5.out]
        simp [intOf]; omega
    | true =>
      have hid : 0 ≤ op.rel ∧ op.rel < (rn : Int) := of_decide_eq_true HKN.out.symm
      obtain ⟨n, hn⟩ : ∃ n : Nat, op.rel = (n : Int) := ⟨op.rel.toNat, by omega⟩
      have hn1 : n < sm.rels.length := by have := HRN.out; omega
      have hn2 : n < st.rels.length := by rw [← HE.out.len]; exact hn1
      have hn3 : n < st1.rels.length := Nat.lt_of_lt_of_le hn2 (play_rels HP.out)
      obtain ⟨s1, hs1⟩ : ∃ s1, st1.rels[n]? = some s1 := ⟨_, List.getElem?_eq_getElem hn3⟩
      obtain ⟨s2, hs2⟩ : ∃ s2, sm2.rels[n]? = some s2 := ⟨_, List.getElem?_eq_getElem (by rw [HE3.out.len]; exact hn3)⟩
      have hrel := HE3.out.rel n s1 s2 hs1 hs2
      have ers1 : rowsS st1 op.rel = rowsOf s1.L := by rw [hn]; unfold rowsS; rw [relF_some hs1]
      have erc : relCode st1 op.rel = 0 := by rw [hn]; unfold relCode; rw [relF_some hs1]
      have hJ4 := HJ3.out.ext HX4.out
      have HWS : Hid (was = decide (op.t ∈ (rowsS st op.rel).map (·.1))) := by
        show _ = _
        rw [HWAS.out, Bool.true_and]
        exact decide_eq_decide.2 (HE.out.mem op.rel op.t)
      have hw : was = (A.code == 0) := by
        rw [HWS.out]
        obtain ⟨eA, _⟩ := play_kind7 HP.out hk
        rw [eA]
        show _ = (delF st op.rel op.t == 0)
        exact del_was HRO.out
      have hli := listS_any B O3 V4 bs st1 hJ4.s op.rel
      rw [erc] at hli
      have HH := hid_of (And.intro hs1 (And.intro hs2 (And.intro hrel (And.intro hn (And.intro ers1 hJ4)))))
      clear hid hn1 hn2 hn3 hs1 hs2 hrel ers1 erc hJ4 HWS hn
      subst hw
      obtain ⟨wv, hwv⟩ : ∃ wv, wv = (A.code == 0) := ⟨_, rfl⟩
      rw [← hwv]
      have hwv2 := hwv.symm
      clear hwv
      go_wp2_with fail
      refine hli.mono ?_
      rintro e V5 ⟨a5, n5, c5, tl, rfl, hout5, htl⟩
      obtain ⟨hs1, hs2, hrel, hn, ers1, hJ4⟩ := HH.out
      have hE5 := hout5.2.1
      have hb65 := (hE5.blk (blk_lt hb64)).trans hb64
      have hln := lenS_any B O3 V5 bs st1 (hJ4.s.ext hE5) op.rel
      obtain ⟨wl, hwl0⟩ : ∃ wl, wl = (rowsOf s2.L).length := ⟨_, rfl⟩
      have ele : lenF st1 op.rel = ((wl : Int), 0) := by rw [hn]; unfold lenF; rw [relF_some hs1]; dsimp only; rw [hwl0, hrel.2.2.length_eq]
      have HWL0 := hid_of hwl0
      clear hwl0
      rw [ele] at hln
      have hco := contains_any B O3 V5 bs st1 (hJ4.s.ext hE5) op.rel op.t
      have eco : containsF st1 op.rel op.t = (decide (op.t ∈ (rowsOf s2.L).map (·.1)), (containsF st1 op.rel op.t).2) := by
        have h1 : (containsF st1 op.rel op.t).1 = decide (op.t ∈ (rowsOf s2.L).map (·.1)) := by
          have h2 := contains_mem HR3.out op.rel op.t
          rw [h2, ers1]
          exact decide_eq_decide.2 (((hrel.2.2.map (·.1)).mem_iff).symm)
        rw [← h1]
      rw [eco] at hco
      obtain ⟨cv, hcv⟩ : ∃ cv, cv = (containsF st1 op.rel op.t).2 := ⟨_, rfl⟩
      rw [← hcv] at hco
      obtain ⟨hv, hhv⟩ : ∃ hv, hv = decide (op.t ∈ (rowsOf s2.L).map (·.1)) := ⟨_, rfl⟩
      rw [← hhv] at hco
      have HHV := hid_of hhv
      have HOUT := hid_of (And.intro hout5 htl)
      clear hli hout5 htl hE5 hb64 hb94 ele eco hcv hhv hs1 hs2 hrel hn ers1 hJ4
      dsimp only
      go_wp2_with fail
      refine hln.mono ?_
      rintro e V6 ⟨rfl, rfl⟩
      clear hln
      dsimp only
      go_wp2_with fail
      refine hco.mono ?_
      rintro e V7 ⟨rfl, hx7⟩
      obtain ⟨hs1, hs2, hrel, hn, ers1, hJ4⟩ := HH.out
      have hJ7 := (hJ4.ext HOUT.out.1.2.1).ext hx7
      have hb67 := (hx7.blk (blk_lt hb65)).trans hb65
      have hd7 : V7.Extends V7.drew := extends_drew (ext_Ext (Ext.refl _))
      have htu := tuplesOf_any B O3 V7.drew bm sm2 (hJ7.m.ext hd7) HMS3.out n s2 hs2
      rw [← hn] at htu
      obtain ⟨na2, nn2, nc2, gr, rn2, rc2, Cr, ka, kn2, kc, wa, wn, wc, ho, _, _⟩ := mat_open hJ7.m hs2
      have hbm7 := ho.hb
      have hC7 := ho.bc
      have hl7 := ho.len
      have c2 := ho.c2
      have hwl := ho.rows.1
      have hnr := ho.hn
      obtain rfl : wn = wl := by rw [HWL0.out, hwl]
      have d2 : n * 3 < Cr.length := by omega
      have d3 : n * 3 + 2 + 1 ≤ Cr.length := by omega
      have q0r : (0 : Int) ≤ op.rel := by omega
      have q1r : op.rel < (rn2 : Int) := by omega
      have q2r : op.rel.toNat = n := by omega
      have hSx : ∀ V', V7.Extends V' → blk V' b6 = some (GOp.enc op) ∧ blk V' bm = some (vE na2 nn2 nc2 (some ⟨gr, 0, none⟩) rn2 rc2) ∧ blk V' gr = some Cr := fun V' hx => ⟨(hx.blk (blk_lt hb67)).trans hb67, (hx.blk (blk_lt hbm7)).trans hbm7, (hx.blk (blk_lt hC7)).trans hC7⟩
      have HSX := hid_of hSx
      have HJ7 := hid_of hJ7
      have HX7 := hid_of hx7
      have hn5 : n5 ≤ 10000 := by
        have h1 := HOUT.out.1.2.2
        have h2 := (HMS3.out.rel s2 (List.mem_of_getElem? hs2)).2.1
        rw [h1, HOUT.out.2, ers1, List.length_map, ← hrel.2.2.length_eq]; omega
      clear hco hs1 hs2 hrel ers1 hJ4 ho hl7 hwl hnr hJ7 hx7 hb65 hn
      dsimp only
      go_upto_region 27 with fail
      refine wp_region_held_drew (S := fun W' => blk W' b6 = some (GOp.enc op) ∧ blk W' bm = some (vE na2 nn2 nc2 (some ⟨gr, 0, none⟩) rn2 rc2) ∧ blk W' gr = some Cr) (by kernel_rfl) ⟨hb67, hbm7, hC7⟩ (fun hHeld => ?_)
      refine wpAnyH_take (i := 0) (oi := ⟨_, _, _, _, _, _⟩) (v := ?_) rfl (by kernel_rfl) (by kernel_rfl) (by kernel_rfl) (fun _ _ _ h => h) (Or.inl ⟨by rfl, ?_⟩) (by assumption) ?_
      rotate_left 1
      · intro W' hSw
        obtain ⟨hS1, hS2, hS3⟩ := hSw
        go_simp
        try with_reducible rfl
      try simp only [Act.put, List.setIfInBounds_toArray, List.set_cons_zero, List.set_cons_succ]
      refine wpAnyH_take (i := 1) (oi := ⟨_, _, _, _, _, _⟩) (v := ?_) rfl (by kernel_rfl) (by kernel_rfl) (by kernel_rfl) (fun _ _ _ h => h) (Or.inl ⟨by rfl, ?_⟩) (by assumption) ?_
      rotate_left 1
      · intro W' hSw
        obtain ⟨hS1, hS2, hS3⟩ := hSw
        go_simp
        try with_reducible rfl
      try simp only [Act.put, List.setIfInBounds_toArray, List.set_cons_zero, List.set_cons_succ]
      refine wpAnyH_take (i := 2) (oi := ⟨_, _, _, _, _, _⟩) (v := ?_) rfl (by kernel_rfl) (by kernel_rfl) (by kernel_rfl) (fun _ _ _ h => h) (Or.inl ⟨by rfl, ?_⟩) (by assumption) ?_
      rotate_left 1
      · intro W' hSw
        obtain ⟨hS1, hS2, hS3⟩ := hSw
        go_simp
        try with_reducible rfl
      try simp only [Act.put, List.setIfInBounds_toArray, List.set_cons_zero, List.set_cons_succ]
      refine wpAnyH_take (i := 3) (oi := ⟨_, _, _, _, _, _⟩) (v := ?_) rfl (by kernel_rfl) (by kernel_rfl) (by kernel_rfl) (fun _ _ _ h => h) (Or.inl ⟨by rfl, ?_⟩) (by assumption) ?_
      rotate_left 1
      · intro W' hSw
        obtain ⟨hS1, hS2, hS3⟩ := hSw
        go_simp
        try with_reducible rfl
      try simp only [Act.put, List.setIfInBounds_toArray, List.set_cons_zero, List.set_cons_succ]
      refine wpAnyH_ready (rs := [4]) (by kernel_rfl) (by simp) ?_
      refine AllReadyH.cons (o := ⟨_, _, _, _, _, _⟩) rfl (fun K' hK => ?_) AllReadyH.nil
      go_simp
      refine htu.mono ?_
      rintro e V8 ⟨a8, n8, c8, rfl, hout8⟩
      obtain ⟨hs1, hs2, hrel, hn, ers1, hJ4⟩ := HH.out
      have hx78 := hd7.trans hout8.2.1
      have hsb := sameBag_perm V8 a5 n5 c5 a8 n8 c8 tl ((rowsOf s2.L).map (·.1)) ((rw_own tpl_len ((HOUT.out.1.ext HX7.out).ext hx78).1).1) hout8.rw' (by rw [HOUT.out.2, ers1]; exact hrel.2.2.map _) hn5
      have HX8 := hid_of hx78
      have hS8 := hSx V8 hx78
      clear hs1 hs2 hrel hn ers1 hJ4 hout8 htu hx78
      dsimp only
      refine hK.out _ _ hS8 (fun hHeld => ?_)
      clear hK K'
      try simp only [Act.put, List.setIfInBounds_toArray, List.set_cons_zero, List.set_cons_succ]
      refine wpAnyH_ready (rs := [5]) (by kernel_rfl) (by simp) ?_
      refine AllReadyH.cons (o := ⟨_, _, _, _, _, _⟩) rfl (fun K' hK => ?_) AllReadyH.nil
      go_simp
      refine hsb.mono ?_
      rintro e V9 ⟨rfl, hx9⟩
      obtain ⟨hs1, hs2, hrel, hn, ers1, hJ4⟩ := HH.out
      have hx79 := HX8.out.trans hx9
      have hS9 := hSx V9 hx79
      have hwh := where_any B O3 V9 bm sm2 (HJ7.out.m.ext hx79) HMS3.out n s2 hs2 op.t
      rw [← hn] at hwh
      have HL9 : Hid (∀ V', V9.Extends V' → L4 W1 B bs bm V') := fun V' hx => HLX.out V' (((HX4.out.trans HOUT.out.1.2.1).trans HX7.out).trans (hx79.trans hx))
      have hb69 := hS9.1
      clear hs1 hs2 hrel hn ers1 hJ4 hsb hx79 hx9 HX8 hS8 HLX
      dsimp only
      refine hK.out _ _ hS9 (fun hHeld => ?_)
      clear hK K'
      try simp only [Act.put, List.setIfInBounds_toArray, List.set_cons_zero, List.set_cons_succ]
      refine wpAnyH_take (i := 6) (oi := ⟨_, _, _, _, _, _⟩) (v := ?_) rfl (by kernel_rfl) (by kernel_rfl) (by kernel_rfl) (fun _ _ _ h => h) (Or.inl ⟨by rfl, ?_⟩) (by assumption) ?_
      rotate_left 1
      · intro W' hSw
        obtain ⟨hS1, hS2, hS3⟩ := hSw
        go_simp
        try with_reducible rfl
      try simp only [Act.put, List.setIfInBounds_toArray, List.set_cons_zero, List.set_cons_succ]
      refine wpAnyH_take (i := 7) (oi := ⟨_, _, _, _, _, _⟩) (v := ?_) rfl (by kernel_rfl) (by kernel_rfl) (by kernel_rfl) (fun _ _ _ h => h) (Or.inl ⟨by rfl, ?_⟩) (by assumption) ?_
      rotate_left 1
      · intro W' hSw
        obtain ⟨hS1, hS2, hS3⟩ := hSw
        go_simp
        try with_reducible rfl
      try simp only [Act.put, List.setIfInBounds_toArray, List.set_cons_zero, List.set_cons_succ]
      refine wpAnyH_take (i := 8) (oi := ⟨_, _, _, _, _, _⟩) (v := ?_) rfl (by kernel_rfl) (by kernel_rfl) (by kernel_rfl) (fun _ _ _ h => h) (Or.inl ⟨by rfl, ?_⟩) (by assumption) ?_
      rotate_left 1
      · intro W' hSw
        obtain ⟨hS1, hS2, hS3⟩ := hSw
        go_simp
        try with_reducible rfl
      try simp only [Act.put, List.setIfInBounds_toArray, List.set_cons_zero, List.set_cons_succ]
      refine wpAnyH_take (i := 9) (oi := ⟨_, _, _, _, _, _⟩) (v := ?_) rfl (by kernel_rfl) (by kernel_rfl) (by kernel_rfl) (fun _ _ _ h => h) (Or.inl ⟨by rfl, ?_⟩) (by assumption) ?_
      rotate_left 1
      · intro W' hSw
        obtain ⟨hS1, hS2, hS3⟩ := hSw
        go_simp
        try with_reducible rfl
      try simp only [Act.put, List.setIfInBounds_toArray, List.set_cons_zero, List.set_cons_succ]
      refine wpAnyH_take (i := 10) (oi := ⟨_, _, _, _, _, _⟩) (v := ?_) rfl (by kernel_rfl) (by kernel_rfl) (by kernel_rfl) (fun _ _ _ h => h) (Or.inl ⟨by rfl, ?_⟩) (by assumption) ?_
      rotate_left 1
      · intro W' hSw
        obtain ⟨hS1, hS2, hS3⟩ := hSw
        go_simp
        try with_reducible rfl
      try simp only [Act.put, List.setIfInBounds_toArray, List.set_cons_zero, List.set_cons_succ]
      refine wpAnyH_take (i := 11) (oi := ⟨_, _, _, _, _, _⟩) (v := ?_) rfl (by kernel_rfl) (by kernel_rfl) (by kernel_rfl) (fun _ _ _ h => h) (Or.inl ⟨by rfl, ?_⟩) (by assumption) ?_
      rotate_left 1
      · intro W' hSw
        obtain ⟨hS1, hS2, hS3⟩ := hSw
        go_simp
        try with_reducible rfl
      try simp only [Act.put, List.setIfInBounds_toArray, List.set_cons_zero, List.set_cons_succ]
      refine wpAnyH_take (i := 12) (oi := ⟨_, _, _, _, _, _⟩) (v := ?_) rfl (by kernel_rfl) (by kernel_rfl) (by kernel_rfl) (fun _ _ _ h => h) (Or.inl ⟨by rfl, ?_⟩) (by assumption) ?_
      rotate_left 1
      · intro W' hSw
        obtain ⟨hS1, hS2, hS3⟩ := hSw
        go_simp
        try with_reducible rfl
      try simp only [Act.put, List.setIfInBounds_toArray, List.set_cons_zero, List.set_cons_succ]
      refine wpAnyH_take (i := 13) (oi := ⟨_, _, _, _, _, _⟩) (v := ?_) rfl (by kernel_rfl) (by kernel_rfl) (by kernel_rfl) (fun _ _ _ h => h) (Or.inl ⟨by rfl, ?_⟩) (by assumption) ?_
      rotate_left 1
      · intro W' hSw
        obtain ⟨hS1, hS2, hS3⟩ := hSw
        go_simp
        try with_reducible rfl
      try simp only [Act.put, List.setIfInBounds_toArray, List.set_cons_zero, List.set_cons_succ]
      refine wpAnyH_take (i := 14) (oi := ⟨_, _, _, _, _, _⟩) (v := ?_) rfl (by kernel_rfl) (by kernel_rfl) (by kernel_rfl) (fun _ _ _ h => h) (Or.inl ⟨by rfl, ?_⟩) (by assumption) ?_
      rotate_left 1
      · intro W' hSw
        obtain ⟨hS1, hS2, hS3⟩ := hSw
        go_simp
        try with_reducible rfl
      try simp only [Act.put, List.setIfInBounds_toArray, List.set_cons_zero, List.set_cons_succ]
      refine wpAnyH_take (i := 15) (oi := ⟨_, _, _, _, _, _⟩) (v := ?_) rfl (by kernel_rfl) (by kernel_rfl) (by kernel_rfl) (fun _ _ _ h => h) (Or.inl ⟨by rfl, ?_⟩) (by assumption) ?_
      rotate_left 1
      · intro W' hSw
        obtain ⟨hS1, hS2, hS3⟩ := hSw
        go_simp
        try with_reducible rfl
      try simp only [Act.put, List.setIfInBounds_toArray, List.set_cons_zero, List.set_cons_succ]
      refine wpAnyH_take (i := 16) (oi := ⟨_, _, _, _, _, _⟩) (v := ?_) rfl (by kernel_rfl) (by kernel_rfl) (by kernel_rfl) (fun _ _ _ h => h) (Or.inl ⟨by rfl, ?_⟩) (by assumption) ?_
      rotate_left 1
      · intro W' hSw
        obtain ⟨hS1, hS2, hS3⟩ := hSw
        go_simp
        try with_reducible rfl
      try simp only [Act.put, List.setIfInBounds_toArray, List.set_cons_zero, List.set_cons_succ]
      refine wpAnyH_take (i := 17) (oi := ⟨_, _, _, _, _, _⟩) (v := ?_) rfl (by kernel_rfl) (by kernel_rfl) (by kernel_rfl) (fun _ _ _ h => h) (Or.inl ⟨by rfl, ?_⟩) (by assumption) ?_
      rotate_left 1
      · intro W' hSw
        obtain ⟨hS1, hS2, hS3⟩ := hSw
        go_simp
        try with_reducible rfl
      try simp only [Act.put, List.setIfInBounds_toArray, List.set_cons_zero, List.set_cons_succ]
      refine wpAnyH_take (i := 18) (oi := ⟨_, _, _, _, _, _⟩) (v := ?_) rfl (by kernel_rfl) (by kernel_rfl) (by kernel_rfl) (fun _ _ _ h => h) (Or.inl ⟨by rfl, ?_⟩) (by assumption) ?_
      rotate_left 1
      · intro W' hSw
        obtain ⟨hS1, hS2, hS3⟩ := hSw
        go_simp
        try with_reducible rfl
      try simp only [Act.put, List.setIfInBounds_toArray, List.set_cons_zero, List.set_cons_succ]
      refine wpAnyH_take (i := 19) (oi := ⟨_, _, _, _, _, _⟩) (v := ?_) rfl (by kernel_rfl) (by kernel_rfl) (by kernel_rfl) (fun _ _ _ h => h) (Or.inl ⟨by rfl, ?_⟩) (by assumption) ?_
      rotate_left 1
      · intro W' hSw
        obtain ⟨hS1, hS2, hS3⟩ := hSw
        go_simp
        try with_reducible rfl
      try simp only [Act.put, List.setIfInBounds_toArray, List.set_cons_zero, List.set_cons_succ]
      refine wpAnyH_take (i := 20) (oi := ⟨_, _, _, _, _, _⟩) (v := ?_) rfl (by kernel_rfl) (by kernel_rfl) (by kernel_rfl) (fun _ _ _ h => h) (Or.inl ⟨by rfl, ?_⟩) (by assumption) ?_
      rotate_left 1
      · intro W' hSw
        obtain ⟨hS1, hS2, hS3⟩ := hSw
        go_simp
        try with_reducible rfl
      try simp only [Act.put, List.setIfInBounds_toArray, List.set_cons_zero, List.set_cons_succ]
      refine wpAnyH_done (by kernel_rfl) ?_ _
      obtain ⟨kw, hkw, hkv⟩ : ∃ kw : Int, whR (rowsOf s2.L) op.t = kw ∧ ((hv = true ∧ (0 : Int) ≤ kw) ∨ (hv = false ∧ ¬ (0 : Int) ≤ kw)) := by
        refine ⟨_, rfl, ?_⟩
        by_cases hin : op.t ∈ (rowsOf s2.L).map (·.1)
        · obtain ⟨k, hk', _⟩ := whR_pos hin
          exact .inl ⟨by rw [HHV.out]; exact decide_eq_true hin, by rw [hk']; omega⟩
        · exact .inr ⟨by rw [HHV.out]; exact decide_eq_false hin, by rw [whR_neg hin]; omega⟩
      rw [hkw] at hwh
      clear hkw HHV
      rcases hkv with ⟨rfl, hkw0⟩ | ⟨rfl, hkw0⟩
      all_goals
        skip

        clear hSx
        go_wp2_with fail
        refine hwh.mono ?_
        rintro e V10 ⟨rfl, hx10⟩
        have HLE := hid_of (HL9.out V10 hx10)
        clear hx10 hwh HL9
        dsimp only
        go_wp2_with fail
        refine ⟨rfl, rfl, ⟨rfl, rfl, rfl, i + 1, by omega, ?_, HLE⟩, ?_⟩
        · show Value.int .i64 _ = _
          go_num
        · show len - (intOf (Value.int .i64 _)).toNat < len - (intOf (F 5)).toNat
          rw [H5.out]
          simp [intOf]; omega
  have hk7 : (op.kind == 7) = false := by simp [hk]
  have hkn7 := hk
  clear hk
  by_cases hk : op.kind = 8
  · have hk8 : (op.kind == 8) = true := by simp [hk]
    go_wp2_with fail
    refine hsa.mono ?_
    rintro e V4 ⟨rfl, hx4⟩
    have HX4 := hid_of hx4
    have hb64 := (hx4.blk (blk_lt hb6)).trans hb6
    have hb94 := (hx4.blk (blk_lt hb9)).trans hb9
    clear hx4 hsa hb6 hb9 hb10
    dsimp only
    cases kn with
    | false =>
      have HLE := hid_of (HLX.out V4 HX4.out)
      clear HLX HX4
      go_wp2_with fail
      refine ⟨rfl, rfl, ⟨rfl, rfl, rfl, i + 1, by omega, ?_, HLE⟩, ?_⟩
      · show Value.int .i64 _ = _
        go_num
      · show len - (intOf (Value.int .i64 _)).toNat < len - (intOf (F 5)).toNat
        rw [H5.out]
        simp [intOf]; omega
    | true =>
      have hid : 0 ≤ op.rel ∧ op.rel < (rn : Int) := of_decide_eq_true HKN.out.symm
      obtain ⟨n, hn⟩ : ∃ n : Nat, op.rel = (n : Int) := ⟨op.rel.toNat, by omega⟩
      have hn1 : n < sm.rels.length := by have := HRN.out; omega
      have hn2 : n < st.rels.length := by rw [← HE.out.len]; exact hn1
      have hn3 : n < st1.rels.length := Nat.lt_of_lt_of_le hn2 (play_rels HP.out)
      obtain ⟨s1, hs1⟩ : ∃ s1, st1.rels[n]? = some s1 := ⟨_, List.getElem?_eq_getElem hn3⟩
      obtain ⟨s2, hs2⟩ : ∃ s2, sm2.rels[n]? = some s2 := ⟨_, List.getElem?_eq_getElem (by rw [HE3.out.len]; exact hn3)⟩
      have hrel := HE3.out.rel n s1 s2 hs1 hs2
      have ers1 : rowsS st1 op.rel = rowsOf s1.L := by rw [hn]; unfold rowsS; rw [relF_some hs1]
      have erc : relCode st1 op.rel = 0 := by rw [hn]; unfold relCode; rw [relF_some hs1]
      have hJ4 := HJ3.out.ext HX4.out
      have HWS : Hid (was = decide (op.t ∈ (rowsS st op.rel).map (·.1))) := by
        show _ = _
        rw [HWAS.out, Bool.true_and]
        exact decide_eq_decide.2 (HE.out.mem op.rel op.t)
      have hli := listS_any B O3 V4 bs st1 hJ4.s op.rel
      rw [erc] at hli
      have HH := hid_of (And.intro hs1 (And.intro hs2 (And.intro hrel (And.intro hn (And.intro ers1 hJ4)))))
      clear hid hn1 hn2 hn3 hs1 hs2 hrel ers1 erc hJ4 HWS hn
      go_wp2_with fail
      refine hli.mono ?_
      rintro e V5 ⟨a5, n5, c5, tl, rfl, hout5, htl⟩
      obtain ⟨hs1, hs2, hrel, hn, ers1, hJ4⟩ := HH.out
      have hE5 := hout5.2.1
      have hb65 := (hE5.blk (blk_lt hb64)).trans hb64
      have hln := lenS_any B O3 V5 bs st1 (hJ4.s.ext hE5) op.rel
      obtain ⟨wl, hwl0⟩ : ∃ wl, wl = (rowsOf s2.L).length := ⟨_, rfl⟩
      have ele : lenF st1 op.rel = ((wl : Int), 0) := by rw [hn]; unfold lenF; rw [relF_some hs1]; dsimp only; rw [hwl0, hrel.2.2.length_eq]
      have HWL0 := hid_of hwl0
      clear hwl0
      rw [ele] at hln
      have hco := contains_any B O3 V5 bs st1 (hJ4.s.ext hE5) op.rel op.t
      have eco : containsF st1 op.rel op.t = (decide (op.t ∈ (rowsOf s2.L).map (·.1)), (containsF st1 op.rel op.t).2) := by
        have h1 : (containsF st1 op.rel op.t).1 = decide (op.t ∈ (rowsOf s2.L).map (·.1)) := by
          have h2 := contains_mem HR3.out op.rel op.t
          rw [h2, ers1]
          exact decide_eq_decide.2 (((hrel.2.2.map (·.1)).mem_iff).symm)
        rw [← h1]
      rw [eco] at hco
      obtain ⟨cv, hcv⟩ : ∃ cv, cv = (containsF st1 op.rel op.t).2 := ⟨_, rfl⟩
      rw [← hcv] at hco
      obtain ⟨hv, hhv⟩ : ∃ hv, hv = decide (op.t ∈ (rowsOf s2.L).map (·.1)) := ⟨_, rfl⟩
      rw [← hhv] at hco
      have HHV := hid_of hhv
      have HOUT := hid_of (And.intro hout5 htl)
      clear hli hout5 htl hE5 hb64 hb94 ele eco hcv hhv hs1 hs2 hrel hn ers1 hJ4
      dsimp only
      go_wp2_with fail
      refine hln.mono ?_
      rintro e V6 ⟨rfl, rfl⟩
      clear hln
      dsimp only
      go_wp2_with fail
      refine hco.mono ?_
      rintro e V7 ⟨rfl, hx7⟩
      obtain ⟨hs1, hs2, hrel, hn, ers1, hJ4⟩ := HH.out
      have hJ7 := (hJ4.ext HOUT.out.1.2.1).ext hx7
      have hb67 := (hx7.blk (blk_lt hb65)).trans hb65
      have hd7 : V7.Extends V7.drew := extends_drew (ext_Ext (Ext.refl _))
      have htu := tuplesOf_any B O3 V7.drew bm sm2 (hJ7.m.ext hd7) HMS3.out n s2 hs2
      rw [← hn] at htu
      obtain ⟨na2, nn2, nc2, gr, rn2, rc2, Cr, ka, kn2, kc, wa, wn, wc, ho, _, _⟩ := mat_open hJ7.m hs2
      have hbm7 := ho.hb
      have hC7 := ho.bc
      have hl7 := ho.len
      have c2 := ho.c2
      have hwl := ho.rows.1
      have hnr := ho.hn
      obtain rfl : wn = wl := by rw [HWL0.out, hwl]
      have d2 : n * 3 < Cr.length := by omega
      have d3 : n * 3 + 2 + 1 ≤ Cr.length := by omega
      have q0r : (0 : Int) ≤ op.rel := by omega
      have q1r : op.rel < (rn2 : Int) := by omega
      have q2r : op.rel.toNat = n := by omega
      have hSx : ∀ V', V7.Extends V' → blk V' b6 = some (GOp.enc op) ∧ blk V' bm = some (vE na2 nn2 nc2 (some ⟨gr, 0, none⟩) rn2 rc2) ∧ blk V' gr = some Cr := fun V' hx => ⟨(hx.blk (blk_lt hb67)).trans hb67, (hx.blk (blk_lt hbm7)).trans hbm7, (hx.blk (blk_lt hC7)).trans hC7⟩
      have HSX := hid_of hSx
      have HJ7 := hid_of hJ7
      have HX7 := hid_of hx7
      have hn5 : n5 ≤ 10000 := by
        have h1 := HOUT.out.1.2.2
        have h2 := (HMS3.out.rel s2 (List.mem_of_getElem? hs2)).2.1
        rw [h1, HOUT.out.2, ers1, List.length_map, ← hrel.2.2.length_eq]; omega
      clear hco hs1 hs2 hrel ers1 hJ4 ho hl7 hwl hnr hJ7 hx7 hb65 hn
      dsimp only
      go_upto_region 27 with fail
      refine wp_region_held_drew (S := fun W' => blk W' b6 = some (GOp.enc op) ∧ blk W' bm = some (vE na2 nn2 nc2 (some ⟨gr, 0, none⟩) rn2 rc2) ∧ blk W' gr = some Cr) (by kernel_rfl) ⟨hb67, hbm7, hC7⟩ (fun hHeld => ?_)
      refine wpAnyH_take (i := 0) (oi := ⟨_, _, _, _, _, _⟩) (v := ?_) rfl (by kernel_rfl) (by kernel_rfl) (by kernel_rfl) (fun _ _ _ h => h) (Or.inl ⟨by rfl, ?_⟩) (by assumption) ?_
      rotate_left 1
      · intro W' hSw
        obtain ⟨hS1, hS2, hS3⟩ := hSw
        go_simp
        try with_reducible rfl
      try simp only [Act.put, List.setIfInBounds_toArray, List.set_cons_zero, List.set_cons_succ]
      refine wpAnyH_take (i := 1) (oi := ⟨_, _, _, _, _, _⟩) (v := ?_) rfl (by kernel_rfl) (by kernel_rfl) (by kernel_rfl) (fun _ _ _ h => h) (Or.inl ⟨by rfl, ?_⟩) (by assumption) ?_
      rotate_left 1
      · intro W' hSw
        obtain ⟨hS1, hS2, hS3⟩ := hSw
        go_simp
        try with_reducible rfl
      try simp only [Act.put, List.setIfInBounds_toArray, List.set_cons_zero, List.set_cons_succ]
      refine wpAnyH_take (i := 2) (oi := ⟨_, _, _, _, _, _⟩) (v := ?_) rfl (by kernel_rfl) (by kernel_rfl) (by kernel_rfl) (fun _ _ _ h => h) (Or.inl ⟨by rfl, ?_⟩) (by assumption) ?_
      rotate_left 1
      · intro W' hSw
        obtain ⟨hS1, hS2, hS3⟩ := hSw
        go_simp
        try with_reducible rfl
      try simp only [Act.put, List.setIfInBounds_toArray, List.set_cons_zero, List.set_cons_succ]
      refine wpAnyH_take (i := 3) (oi := ⟨_, _, _, _, _, _⟩) (v := ?_) rfl (by kernel_rfl) (by kernel_rfl) (by kernel_rfl) (fun _ _ _ h => h) (Or.inl ⟨by rfl, ?_⟩) (by assumption) ?_
      rotate_left 1
      · intro W' hSw
        obtain ⟨hS1, hS2, hS3⟩ := hSw
        go_simp
        try with_reducible rfl
      try simp only [Act.put, List.setIfInBounds_toArray, List.set_cons_zero, List.set_cons_succ]
      refine wpAnyH_ready (rs := [4]) (by kernel_rfl) (by simp) ?_
      refine AllReadyH.cons (o := ⟨_, _, _, _, _, _⟩) rfl (fun K' hK => ?_) AllReadyH.nil
      go_simp
      refine htu.mono ?_
      rintro e V8 ⟨a8, n8, c8, rfl, hout8⟩
      obtain ⟨hs1, hs2, hrel, hn, ers1, hJ4⟩ := HH.out
      have hx78 := hd7.trans hout8.2.1
      have hsb := sameBag_perm V8 a5 n5 c5 a8 n8 c8 tl ((rowsOf s2.L).map (·.1)) ((rw_own tpl_len ((HOUT.out.1.ext HX7.out).ext hx78).1).1) hout8.rw' (by rw [HOUT.out.2, ers1]; exact hrel.2.2.map _) hn5
      have HX8 := hid_of hx78
      have hS8 := hSx V8 hx78
      clear hs1 hs2 hrel hn ers1 hJ4 hout8 htu hx78
      dsimp only
      refine hK.out _ _ hS8 (fun hHeld => ?_)
      clear hK K'
      try simp only [Act.put, List.setIfInBounds_toArray, List.set_cons_zero, List.set_cons_succ]
      refine wpAnyH_ready (rs := [5]) (by kernel_rfl) (by simp) ?_
      refine AllReadyH.cons (o := ⟨_, _, _, _, _, _⟩) rfl (fun K' hK => ?_) AllReadyH.nil
      go_simp
      refine hsb.mono ?_
      rintro e V9 ⟨rfl, hx9⟩
      obtain ⟨hs1, hs2, hrel, hn, ers1, hJ4⟩ := HH.out
      have hx79 := HX8.out.trans hx9
      have hS9 := hSx V9 hx79
      have hwh := where_any B O3 V9 bm sm2 (HJ7.out.m.ext hx79) HMS3.out n s2 hs2 op.t
      rw [← hn] at hwh
      have HL9 : Hid (∀ V', V9.Extends V' → L4 W1 B bs bm V') := fun V' hx => HLX.out V' (((HX4.out.trans HOUT.out.1.2.1).trans HX7.out).trans (hx79.trans hx))
      have hb69 := hS9.1
      clear hs1 hs2 hrel hn ers1 hJ4 hsb hx79 hx9 HX8 hS8 HLX
      dsimp only
      refine hK.out _ _ hS9 (fun hHeld => ?_)
      clear hK K'
      try simp only [Act.put, List.setIfInBounds_toArray, List.set_cons_zero, List.set_cons_succ]
      refine wpAnyH_take (i := 6) (oi := ⟨_, _, _, _, _, _⟩) (v := ?_) rfl (by kernel_rfl) (by kernel_rfl) (by kernel_rfl) (fun _ _ _ h => h) (Or.inl ⟨by rfl, ?_⟩) (by assumption) ?_
      rotate_left 1
      · intro W' hSw
        obtain ⟨hS1, hS2, hS3⟩ := hSw
        go_simp
        try with_reducible rfl
      try simp only [Act.put, List.setIfInBounds_toArray, List.set_cons_zero, List.set_cons_succ]
      refine wpAnyH_take (i := 7) (oi := ⟨_, _, _, _, _, _⟩) (v := ?_) rfl (by kernel_rfl) (by kernel_rfl) (by kernel_rfl) (fun _ _ _ h => h) (Or.inl ⟨by rfl, ?_⟩) (by assumption) ?_
      rotate_left 1
      · intro W' hSw
        obtain ⟨hS1, hS2, hS3⟩ := hSw
        go_simp
        try with_reducible rfl
      try simp only [Act.put, List.setIfInBounds_toArray, List.set_cons_zero, List.set_cons_succ]
      refine wpAnyH_take (i := 8) (oi := ⟨_, _, _, _, _, _⟩) (v := ?_) rfl (by kernel_rfl) (by kernel_rfl) (by kernel_rfl) (fun _ _ _ h => h) (Or.inl ⟨by rfl, ?_⟩) (by assumption) ?_
      rotate_left 1
      · intro W' hSw
        obtain ⟨hS1, hS2, hS3⟩ := hSw
        go_simp
        try with_reducible rfl
      try simp only [Act.put, List.setIfInBounds_toArray, List.set_cons_zero, List.set_cons_succ]
      refine wpAnyH_take (i := 9) (oi := ⟨_, _, _, _, _, _⟩) (v := ?_) rfl (by kernel_rfl) (by kernel_rfl) (by kernel_rfl) (fun _ _ _ h => h) (Or.inl ⟨by rfl, ?_⟩) (by assumption) ?_
      rotate_left 1
      · intro W' hSw
        obtain ⟨hS1, hS2, hS3⟩ := hSw
        go_simp
        try with_reducible rfl
      try simp only [Act.put, List.setIfInBounds_toArray, List.set_cons_zero, List.set_cons_succ]
      refine wpAnyH_take (i := 10) (oi := ⟨_, _, _, _, _, _⟩) (v := ?_) rfl (by kernel_rfl) (by kernel_rfl) (by kernel_rfl) (fun _ _ _ h => h) (Or.inl ⟨by rfl, ?_⟩) (by assumption) ?_
      rotate_left 1
      · intro W' hSw
        obtain ⟨hS1, hS2, hS3⟩ := hSw
        go_simp
        try with_reducible rfl
      try simp only [Act.put, List.setIfInBounds_toArray, List.set_cons_zero, List.set_cons_succ]
      refine wpAnyH_take (i := 11) (oi := ⟨_, _, _, _, _, _⟩) (v := ?_) rfl (by kernel_rfl) (by kernel_rfl) (by kernel_rfl) (fun _ _ _ h => h) (Or.inl ⟨by rfl, ?_⟩) (by assumption) ?_
      rotate_left 1
      · intro W' hSw
        obtain ⟨hS1, hS2, hS3⟩ := hSw
        go_simp
        try with_reducible rfl
      try simp only [Act.put, List.setIfInBounds_toArray, List.set_cons_zero, List.set_cons_succ]
      refine wpAnyH_take (i := 12) (oi := ⟨_, _, _, _, _, _⟩) (v := ?_) rfl (by kernel_rfl) (by kernel_rfl) (by kernel_rfl) (fun _ _ _ h => h) (Or.inl ⟨by rfl, ?_⟩) (by assumption) ?_
      rotate_left 1
      · intro W' hSw
        obtain ⟨hS1, hS2, hS3⟩ := hSw
        go_simp
        try with_reducible rfl
      try simp only [Act.put, List.setIfInBounds_toArray, List.set_cons_zero, List.set_cons_succ]
      refine wpAnyH_take (i := 13) (oi := ⟨_, _, _, _, _, _⟩) (v := ?_) rfl (by kernel_rfl) (by kernel_rfl) (by kernel_rfl) (fun _ _ _ h => h) (Or.inl ⟨by rfl, ?_⟩) (by assumption) ?_
      rotate_left 1
      · intro W' hSw
        obtain ⟨hS1, hS2, hS3⟩ := hSw
        go_simp
        try with_reducible rfl
      try simp only [Act.put, List.setIfInBounds_toArray, List.set_cons_zero, List.set_cons_succ]
      refine wpAnyH_take (i := 14) (oi := ⟨_, _, _, _, _, _⟩) (v := ?_) rfl (by kernel_rfl) (by kernel_rfl) (by kernel_rfl) (fun _ _ _ h => h) (Or.inl ⟨by rfl, ?_⟩) (by assumption) ?_
      rotate_left 1
      · intro W' hSw
        obtain ⟨hS1, hS2, hS3⟩ := hSw
        go_simp
        try with_reducible rfl
      try simp only [Act.put, List.setIfInBounds_toArray, List.set_cons_zero, List.set_cons_succ]
      refine wpAnyH_take (i := 15) (oi := ⟨_, _, _, _, _, _⟩) (v := ?_) rfl (by kernel_rfl) (by kernel_rfl) (by kernel_rfl) (fun _ _ _ h => h) (Or.inl ⟨by rfl, ?_⟩) (by assumption) ?_
      rotate_left 1
      · intro W' hSw
        obtain ⟨hS1, hS2, hS3⟩ := hSw
        go_simp
        try with_reducible rfl
      try simp only [Act.put, List.setIfInBounds_toArray, List.set_cons_zero, List.set_cons_succ]
      refine wpAnyH_take (i := 16) (oi := ⟨_, _, _, _, _, _⟩) (v := ?_) rfl (by kernel_rfl) (by kernel_rfl) (by kernel_rfl) (fun _ _ _ h => h) (Or.inl ⟨by rfl, ?_⟩) (by assumption) ?_
      rotate_left 1
      · intro W' hSw
        obtain ⟨hS1, hS2, hS3⟩ := hSw
        go_simp
        try with_reducible rfl
      try simp only [Act.put, List.setIfInBounds_toArray, List.set_cons_zero, List.set_cons_succ]
      refine wpAnyH_take (i := 17) (oi := ⟨_, _, _, _, _, _⟩) (v := ?_) rfl (by kernel_rfl) (by kernel_rfl) (by kernel_rfl) (fun _ _ _ h => h) (Or.inl ⟨by rfl, ?_⟩) (by assumption) ?_
      rotate_left 1
      · intro W' hSw
        obtain ⟨hS1, hS2, hS3⟩ := hSw
        go_simp
        try with_reducible rfl
      try simp only [Act.put, List.setIfInBounds_toArray, List.set_cons_zero, List.set_cons_succ]
      refine wpAnyH_take (i := 18) (oi := ⟨_, _, _, _, _, _⟩) (v := ?_) rfl (by kernel_rfl) (by kernel_rfl) (by kernel_rfl) (fun _ _ _ h => h) (Or.inl ⟨by rfl, ?_⟩) (by assumption) ?_
      rotate_left 1
      · intro W' hSw
        obtain ⟨hS1, hS2, hS3⟩ := hSw
        go_simp
        try with_reducible rfl
      try simp only [Act.put, List.setIfInBounds_toArray, List.set_cons_zero, List.set_cons_succ]
      refine wpAnyH_take (i := 19) (oi := ⟨_, _, _, _, _, _⟩) (v := ?_) rfl (by kernel_rfl) (by kernel_rfl) (by kernel_rfl) (fun _ _ _ h => h) (Or.inl ⟨by rfl, ?_⟩) (by assumption) ?_
      rotate_left 1
      · intro W' hSw
        obtain ⟨hS1, hS2, hS3⟩ := hSw
        go_simp
        try with_reducible rfl
      try simp only [Act.put, List.setIfInBounds_toArray, List.set_cons_zero, List.set_cons_succ]
      refine wpAnyH_take (i := 20) (oi := ⟨_, _, _, _, _, _⟩) (v := ?_) rfl (by kernel_rfl) (by kernel_rfl) (by kernel_rfl) (fun _ _ _ h => h) (Or.inl ⟨by rfl, ?_⟩) (by assumption) ?_
      rotate_left 1
      · intro W' hSw
        obtain ⟨hS1, hS2, hS3⟩ := hSw
        go_simp
        try with_reducible rfl
      try simp only [Act.put, List.setIfInBounds_toArray, List.set_cons_zero, List.set_cons_succ]
      refine wpAnyH_done (by kernel_rfl) ?_ _
      obtain ⟨kw, hkw, hkv⟩ : ∃ kw : Int, whR (rowsOf s2.L) op.t = kw ∧ ((hv = true ∧ (0 : Int) ≤ kw) ∨ (hv = false ∧ ¬ (0 : Int) ≤ kw)) := by
        refine ⟨_, rfl, ?_⟩
        by_cases hin : op.t ∈ (rowsOf s2.L).map (·.1)
        · obtain ⟨k, hk', _⟩ := whR_pos hin
          exact .inl ⟨by rw [HHV.out]; exact decide_eq_true hin, by rw [hk']; omega⟩
        · exact .inr ⟨by rw [HHV.out]; exact decide_eq_false hin, by rw [whR_neg hin]; omega⟩
      rw [hkw] at hwh
      clear hkw HHV
      rcases hkv with ⟨rfl, hkw0⟩ | ⟨rfl, hkw0⟩
      all_goals
        skip

        clear hSx
        go_wp2_with fail
        refine hwh.mono ?_
        rintro e V10 ⟨rfl, hx10⟩
        have HLE := hid_of (HL9.out V10 hx10)
        clear hx10 hwh HL9
        dsimp only
        go_wp2_with fail
        refine ⟨rfl, rfl, ⟨rfl, rfl, rfl, i + 1, by omega, ?_, HLE⟩, ?_⟩
        · show Value.int .i64 _ = _
          go_num
        · show len - (intOf (Value.int .i64 _)).toNat < len - (intOf (F 5)).toNat
          rw [H5.out]
          simp [intOf]; omega
  have hk8 : (op.kind == 8) = false := by simp [hk]
  have hkn8 := hk
  clear hk
  by_cases hk : op.kind = 9
  · have hk9 : (op.kind == 9) = true := by simp [hk]
    go_wp2_with fail
    refine hsa.mono ?_
    rintro e V4 ⟨rfl, hx4⟩
    have HX4 := hid_of hx4
    have hb64 := (hx4.blk (blk_lt hb6)).trans hb6
    have hb94 := (hx4.blk (blk_lt hb9)).trans hb9
    clear hx4 hsa hb6 hb9 hb10
    dsimp only
    cases kn with
    | false =>
      have HLE := hid_of (HLX.out V4 HX4.out)
      clear HLX HX4
      go_wp2_with fail
      refine ⟨rfl, rfl, ⟨rfl, rfl, rfl, i + 1, by omega, ?_, HLE⟩, ?_⟩
      · show Value.int .i64 _ = _
        go_num
      · show len - (intOf (Value.int .i64 _)).toNat < len - (intOf (F 5)).toNat
        rw [H5.out]
        simp [intOf]; omega
    | true =>
      have hid : 0 ≤ op.rel ∧ op.rel < (rn : Int) := of_decide_eq_true HKN.out.symm
      obtain ⟨n, hn⟩ : ∃ n : Nat, op.rel = (n : Int) := ⟨op.rel.toNat, by omega⟩
      have hn1 : n < sm.rels.length := by have := HRN.out; omega
      have hn2 : n < st.rels.length := by rw [← HE.out.len]; exact hn1
      have hn3 : n < st1.rels.length := Nat.lt_of_lt_of_le hn2 (play_rels HP.out)
      obtain ⟨s1, hs1⟩ : ∃ s1, st1.rels[n]? = some s1 := ⟨_, List.getElem?_eq_getElem hn3⟩
      obtain ⟨s2, hs2⟩ : ∃ s2, sm2.rels[n]? = some s2 := ⟨_, List.getElem?_eq_getElem (by rw [HE3.out.len]; exact hn3)⟩
      have hrel := HE3.out.rel n s1 s2 hs1 hs2
      have ers1 : rowsS st1 op.rel = rowsOf s1.L := by rw [hn]; unfold rowsS; rw [relF_some hs1]
      have erc : relCode st1 op.rel = 0 := by rw [hn]; unfold relCode; rw [relF_some hs1]
      have hJ4 := HJ3.out.ext HX4.out
      have HWS : Hid (was = decide (op.t ∈ (rowsS st op.rel).map (·.1))) := by
        show _ = _
        rw [HWAS.out, Bool.true_and]
        exact decide_eq_decide.2 (HE.out.mem op.rel op.t)
      have hli := listS_any B O3 V4 bs st1 hJ4.s op.rel
      rw [erc] at hli
      have HH := hid_of (And.intro hs1 (And.intro hs2 (And.intro hrel (And.intro hn (And.intro ers1 hJ4)))))
      clear hid hn1 hn2 hn3 hs1 hs2 hrel ers1 erc hJ4 HWS hn
      go_wp2_with fail
      refine hli.mono ?_
      rintro e V5 ⟨a5, n5, c5, tl, rfl, hout5, htl⟩
      obtain ⟨hs1, hs2, hrel, hn, ers1, hJ4⟩ := HH.out
      have hE5 := hout5.2.1
      have hb65 := (hE5.blk (blk_lt hb64)).trans hb64
      have hln := lenS_any B O3 V5 bs st1 (hJ4.s.ext hE5) op.rel
      obtain ⟨wl, hwl0⟩ : ∃ wl, wl = (rowsOf s2.L).length := ⟨_, rfl⟩
      have ele : lenF st1 op.rel = ((wl : Int), 0) := by rw [hn]; unfold lenF; rw [relF_some hs1]; dsimp only; rw [hwl0, hrel.2.2.length_eq]
      have HWL0 := hid_of hwl0
      clear hwl0
      rw [ele] at hln
      have hco := contains_any B O3 V5 bs st1 (hJ4.s.ext hE5) op.rel op.t
      have eco : containsF st1 op.rel op.t = (decide (op.t ∈ (rowsOf s2.L).map (·.1)), (containsF st1 op.rel op.t).2) := by
        have h1 : (containsF st1 op.rel op.t).1 = decide (op.t ∈ (rowsOf s2.L).map (·.1)) := by
          have h2 := contains_mem HR3.out op.rel op.t
          rw [h2, ers1]
          exact decide_eq_decide.2 (((hrel.2.2.map (·.1)).mem_iff).symm)
        rw [← h1]
      rw [eco] at hco
      obtain ⟨cv, hcv⟩ : ∃ cv, cv = (containsF st1 op.rel op.t).2 := ⟨_, rfl⟩
      rw [← hcv] at hco
      obtain ⟨hv, hhv⟩ : ∃ hv, hv = decide (op.t ∈ (rowsOf s2.L).map (·.1)) := ⟨_, rfl⟩
      rw [← hhv] at hco
      have HHV := hid_of hhv
      have HOUT := hid_of (And.intro hout5 htl)
      clear hli hout5 htl hE5 hb64 hb94 ele eco hcv hhv hs1 hs2 hrel hn ers1 hJ4
      dsimp only
      go_wp2_with fail
      refine hln.mono ?_
      rintro e V6 ⟨rfl, rfl⟩
      clear hln
      dsimp only
      go_wp2_with fail
      refine hco.mono ?_
      rintro e V7 ⟨rfl, hx7⟩
      obtain ⟨hs1, hs2, hrel, hn, ers1, hJ4⟩ := HH.out
      have hJ7 := (hJ4.ext HOUT.out.1.2.1).ext hx7
      have hb67 := (hx7.blk (blk_lt hb65)).trans hb65
      have hd7 : V7.Extends V7.drew := extends_drew (ext_Ext (Ext.refl _))
      have htu := tuplesOf_any B O3 V7.drew bm sm2 (hJ7.m.ext hd7) HMS3.out n s2 hs2
      rw [← hn] at htu
      obtain ⟨na2, nn2, nc2, gr, rn2, rc2, Cr, ka, kn2, kc, wa, wn, wc, ho, _, _⟩ := mat_open hJ7.m hs2
      have hbm7 := ho.hb
      have hC7 := ho.bc
      have hl7 := ho.len
      have c2 := ho.c2
      have hwl := ho.rows.1
      have hnr := ho.hn
      obtain rfl : wn = wl := by rw [HWL0.out, hwl]
      have d2 : n * 3 < Cr.length := by omega
      have d3 : n * 3 + 2 + 1 ≤ Cr.length := by omega
      have q0r : (0 : Int) ≤ op.rel := by omega
      have q1r : op.rel < (rn2 : Int) := by omega
      have q2r : op.rel.toNat = n := by omega
      have hSx : ∀ V', V7.Extends V' → blk V' b6 = some (GOp.enc op) ∧ blk V' bm = some (vE na2 nn2 nc2 (some ⟨gr, 0, none⟩) rn2 rc2) ∧ blk V' gr = some Cr := fun V' hx => ⟨(hx.blk (blk_lt hb67)).trans hb67, (hx.blk (blk_lt hbm7)).trans hbm7, (hx.blk (blk_lt hC7)).trans hC7⟩
      have HSX := hid_of hSx
      have HJ7 := hid_of hJ7
      have HX7 := hid_of hx7
      have hn5 : n5 ≤ 10000 := by
        have h1 := HOUT.out.1.2.2
        have h2 := (HMS3.out.rel s2 (List.mem_of_getElem? hs2)).2.1
        rw [h1, HOUT.out.2, ers1, List.length_map, ← hrel.2.2.length_eq]; omega
      clear hco hs1 hs2 hrel ers1 hJ4 ho hl7 hwl hnr hJ7 hx7 hb65 hn
      dsimp only
      go_upto_region 27 with fail
      refine wp_region_held_drew (S := fun W' => blk W' b6 = some (GOp.enc op) ∧ blk W' bm = some (vE na2 nn2 nc2 (some ⟨gr, 0, none⟩) rn2 rc2) ∧ blk W' gr = some Cr) (by kernel_rfl) ⟨hb67, hbm7, hC7⟩ (fun hHeld => ?_)
      refine wpAnyH_take (i := 0) (oi := ⟨_, _, _, _, _, _⟩) (v := ?_) rfl (by kernel_rfl) (by kernel_rfl) (by kernel_rfl) (fun _ _ _ h => h) (Or.inl ⟨by rfl, ?_⟩) (by assumption) ?_
      rotate_left 1
      · intro W' hSw
        obtain ⟨hS1, hS2, hS3⟩ := hSw
        go_simp
        try with_reducible rfl
      try simp only [Act.put, List.setIfInBounds_toArray, List.set_cons_zero, List.set_cons_succ]
      refine wpAnyH_take (i := 1) (oi := ⟨_, _, _, _, _, _⟩) (v := ?_) rfl (by kernel_rfl) (by kernel_rfl) (by kernel_rfl) (fun _ _ _ h => h) (Or.inl ⟨by rfl, ?_⟩) (by assumption) ?_
      rotate_left 1
      · intro W' hSw
        obtain ⟨hS1, hS2, hS3⟩ := hSw
        go_simp
        try with_reducible rfl
      try simp only [Act.put, List.setIfInBounds_toArray, List.set_cons_zero, List.set_cons_succ]
      refine wpAnyH_take (i := 2) (oi := ⟨_, _, _, _, _, _⟩) (v := ?_) rfl (by kernel_rfl) (by kernel_rfl) (by kernel_rfl) (fun _ _ _ h => h) (Or.inl ⟨by rfl, ?_⟩) (by assumption) ?_
      rotate_left 1
      · intro W' hSw
        obtain ⟨hS1, hS2, hS3⟩ := hSw
        go_simp
        try with_reducible rfl
      try simp only [Act.put, List.setIfInBounds_toArray, List.set_cons_zero, List.set_cons_succ]
      refine wpAnyH_take (i := 3) (oi := ⟨_, _, _, _, _, _⟩) (v := ?_) rfl (by kernel_rfl) (by kernel_rfl) (by kernel_rfl) (fun _ _ _ h => h) (Or.inl ⟨by rfl, ?_⟩) (by assumption) ?_
      rotate_left 1
      · intro W' hSw
        obtain ⟨hS1, hS2, hS3⟩ := hSw
        go_simp
        try with_reducible rfl
      try simp only [Act.put, List.setIfInBounds_toArray, List.set_cons_zero, List.set_cons_succ]
      refine wpAnyH_ready (rs := [4]) (by kernel_rfl) (by simp) ?_
      refine AllReadyH.cons (o := ⟨_, _, _, _, _, _⟩) rfl (fun K' hK => ?_) AllReadyH.nil
      go_simp
      refine htu.mono ?_
      rintro e V8 ⟨a8, n8, c8, rfl, hout8⟩
      obtain ⟨hs1, hs2, hrel, hn, ers1, hJ4⟩ := HH.out
      have hx78 := hd7.trans hout8.2.1
      have hsb := sameBag_perm V8 a5 n5 c5 a8 n8 c8 tl ((rowsOf s2.L).map (·.1)) ((rw_own tpl_len ((HOUT.out.1.ext HX7.out).ext hx78).1).1) hout8.rw' (by rw [HOUT.out.2, ers1]; exact hrel.2.2.map _) hn5
      have HX8 := hid_of hx78
      have hS8 := hSx V8 hx78
      clear hs1 hs2 hrel hn ers1 hJ4 hout8 htu hx78
      dsimp only
      refine hK.out _ _ hS8 (fun hHeld => ?_)
      clear hK K'
      try simp only [Act.put, List.setIfInBounds_toArray, List.set_cons_zero, List.set_cons_succ]
      refine wpAnyH_ready (rs := [5]) (by kernel_rfl) (by simp) ?_
      refine AllReadyH.cons (o := ⟨_, _, _, _, _, _⟩) rfl (fun K' hK => ?_) AllReadyH.nil
      go_simp
      refine hsb.mono ?_
      rintro e V9 ⟨rfl, hx9⟩
      obtain ⟨hs1, hs2, hrel, hn, ers1, hJ4⟩ := HH.out
      have hx79 := HX8.out.trans hx9
      have hS9 := hSx V9 hx79
      have hwh := where_any B O3 V9 bm sm2 (HJ7.out.m.ext hx79) HMS3.out n s2 hs2 op.t
      rw [← hn] at hwh
      have HL9 : Hid (∀ V', V9.Extends V' → L4 W1 B bs bm V') := fun V' hx => HLX.out V' (((HX4.out.trans HOUT.out.1.2.1).trans HX7.out).trans (hx79.trans hx))
      have hb69 := hS9.1
      clear hs1 hs2 hrel hn ers1 hJ4 hsb hx79 hx9 HX8 hS8 HLX
      dsimp only
      refine hK.out _ _ hS9 (fun hHeld => ?_)
      clear hK K'
      try simp only [Act.put, List.setIfInBounds_toArray, List.set_cons_zero, List.set_cons_succ]
      refine wpAnyH_take (i := 6) (oi := ⟨_, _, _, _, _, _⟩) (v := ?_) rfl (by kernel_rfl) (by kernel_rfl) (by kernel_rfl) (fun _ _ _ h => h) (Or.inl ⟨by rfl, ?_⟩) (by assumption) ?_
      rotate_left 1
      · intro W' hSw
        obtain ⟨hS1, hS2, hS3⟩ := hSw
        go_simp
        try with_reducible rfl
      try simp only [Act.put, List.setIfInBounds_toArray, List.set_cons_zero, List.set_cons_succ]
      refine wpAnyH_take (i := 7) (oi := ⟨_, _, _, _, _, _⟩) (v := ?_) rfl (by kernel_rfl) (by kernel_rfl) (by kernel_rfl) (fun _ _ _ h => h) (Or.inl ⟨by rfl, ?_⟩) (by assumption) ?_
      rotate_left 1
      · intro W' hSw
        obtain ⟨hS1, hS2, hS3⟩ := hSw
        go_simp
        try with_reducible rfl
      try simp only [Act.put, List.setIfInBounds_toArray, List.set_cons_zero, List.set_cons_succ]
      refine wpAnyH_take (i := 8) (oi := ⟨_, _, _, _, _, _⟩) (v := ?_) rfl (by kernel_rfl) (by kernel_rfl) (by kernel_rfl) (fun _ _ _ h => h) (Or.inl ⟨by rfl, ?_⟩) (by assumption) ?_
      rotate_left 1
      · intro W' hSw
        obtain ⟨hS1, hS2, hS3⟩ := hSw
        go_simp
        try with_reducible rfl
      try simp only [Act.put, List.setIfInBounds_toArray, List.set_cons_zero, List.set_cons_succ]
      refine wpAnyH_take (i := 9) (oi := ⟨_, _, _, _, _, _⟩) (v := ?_) rfl (by kernel_rfl) (by kernel_rfl) (by kernel_rfl) (fun _ _ _ h => h) (Or.inl ⟨by rfl, ?_⟩) (by assumption) ?_
      rotate_left 1
      · intro W' hSw
        obtain ⟨hS1, hS2, hS3⟩ := hSw
        go_simp
        try with_reducible rfl
      try simp only [Act.put, List.setIfInBounds_toArray, List.set_cons_zero, List.set_cons_succ]
      refine wpAnyH_take (i := 10) (oi := ⟨_, _, _, _, _, _⟩) (v := ?_) rfl (by kernel_rfl) (by kernel_rfl) (by kernel_rfl) (fun _ _ _ h => h) (Or.inl ⟨by rfl, ?_⟩) (by assumption) ?_
      rotate_left 1
      · intro W' hSw
        obtain ⟨hS1, hS2, hS3⟩ := hSw
        go_simp
        try with_reducible rfl
      try simp only [Act.put, List.setIfInBounds_toArray, List.set_cons_zero, List.set_cons_succ]
      refine wpAnyH_take (i := 11) (oi := ⟨_, _, _, _, _, _⟩) (v := ?_) rfl (by kernel_rfl) (by kernel_rfl) (by kernel_rfl) (fun _ _ _ h => h) (Or.inl ⟨by rfl, ?_⟩) (by assumption) ?_
      rotate_left 1
      · intro W' hSw
        obtain ⟨hS1, hS2, hS3⟩ := hSw
        go_simp
        try with_reducible rfl
      try simp only [Act.put, List.setIfInBounds_toArray, List.set_cons_zero, List.set_cons_succ]
      refine wpAnyH_take (i := 12) (oi := ⟨_, _, _, _, _, _⟩) (v := ?_) rfl (by kernel_rfl) (by kernel_rfl) (by kernel_rfl) (fun _ _ _ h => h) (Or.inl ⟨by rfl, ?_⟩) (by assumption) ?_
      rotate_left 1
      · intro W' hSw
        obtain ⟨hS1, hS2, hS3⟩ := hSw
        go_simp
        try with_reducible rfl
      try simp only [Act.put, List.setIfInBounds_toArray, List.set_cons_zero, List.set_cons_succ]
      refine wpAnyH_take (i := 13) (oi := ⟨_, _, _, _, _, _⟩) (v := ?_) rfl (by kernel_rfl) (by kernel_rfl) (by kernel_rfl) (fun _ _ _ h => h) (Or.inl ⟨by rfl, ?_⟩) (by assumption) ?_
      rotate_left 1
      · intro W' hSw
        obtain ⟨hS1, hS2, hS3⟩ := hSw
        go_simp
        try with_reducible rfl
      try simp only [Act.put, List.setIfInBounds_toArray, List.set_cons_zero, List.set_cons_succ]
      refine wpAnyH_take (i := 14) (oi := ⟨_, _, _, _, _, _⟩) (v := ?_) rfl (by kernel_rfl) (by kernel_rfl) (by kernel_rfl) (fun _ _ _ h => h) (Or.inl ⟨by rfl, ?_⟩) (by assumption) ?_
      rotate_left 1
      · intro W' hSw
        obtain ⟨hS1, hS2, hS3⟩ := hSw
        go_simp
        try with_reducible rfl
      try simp only [Act.put, List.setIfInBounds_toArray, List.set_cons_zero, List.set_cons_succ]
      refine wpAnyH_take (i := 15) (oi := ⟨_, _, _, _, _, _⟩) (v := ?_) rfl (by kernel_rfl) (by kernel_rfl) (by kernel_rfl) (fun _ _ _ h => h) (Or.inl ⟨by rfl, ?_⟩) (by assumption) ?_
      rotate_left 1
      · intro W' hSw
        obtain ⟨hS1, hS2, hS3⟩ := hSw
        go_simp
        try with_reducible rfl
      try simp only [Act.put, List.setIfInBounds_toArray, List.set_cons_zero, List.set_cons_succ]
      refine wpAnyH_take (i := 16) (oi := ⟨_, _, _, _, _, _⟩) (v := ?_) rfl (by kernel_rfl) (by kernel_rfl) (by kernel_rfl) (fun _ _ _ h => h) (Or.inl ⟨by rfl, ?_⟩) (by assumption) ?_
      rotate_left 1
      · intro W' hSw
        obtain ⟨hS1, hS2, hS3⟩ := hSw
        go_simp
        try with_reducible rfl
      try simp only [Act.put, List.setIfInBounds_toArray, List.set_cons_zero, List.set_cons_succ]
      refine wpAnyH_take (i := 17) (oi := ⟨_, _, _, _, _, _⟩) (v := ?_) rfl (by kernel_rfl) (by kernel_rfl) (by kernel_rfl) (fun _ _ _ h => h) (Or.inl ⟨by rfl, ?_⟩) (by assumption) ?_
      rotate_left 1
      · intro W' hSw
        obtain ⟨hS1, hS2, hS3⟩ := hSw
        go_simp
        try with_reducible rfl
      try simp only [Act.put, List.setIfInBounds_toArray, List.set_cons_zero, List.set_cons_succ]
      refine wpAnyH_take (i := 18) (oi := ⟨_, _, _, _, _, _⟩) (v := ?_) rfl (by kernel_rfl) (by kernel_rfl) (by kernel_rfl) (fun _ _ _ h => h) (Or.inl ⟨by rfl, ?_⟩) (by assumption) ?_
      rotate_left 1
      · intro W' hSw
        obtain ⟨hS1, hS2, hS3⟩ := hSw
        go_simp
        try with_reducible rfl
      try simp only [Act.put, List.setIfInBounds_toArray, List.set_cons_zero, List.set_cons_succ]
      refine wpAnyH_take (i := 19) (oi := ⟨_, _, _, _, _, _⟩) (v := ?_) rfl (by kernel_rfl) (by kernel_rfl) (by kernel_rfl) (fun _ _ _ h => h) (Or.inl ⟨by rfl, ?_⟩) (by assumption) ?_
      rotate_left 1
      · intro W' hSw
        obtain ⟨hS1, hS2, hS3⟩ := hSw
        go_simp
        try with_reducible rfl
      try simp only [Act.put, List.setIfInBounds_toArray, List.set_cons_zero, List.set_cons_succ]
      refine wpAnyH_take (i := 20) (oi := ⟨_, _, _, _, _, _⟩) (v := ?_) rfl (by kernel_rfl) (by kernel_rfl) (by kernel_rfl) (fun _ _ _ h => h) (Or.inl ⟨by rfl, ?_⟩) (by assumption) ?_
      rotate_left 1
      · intro W' hSw
        obtain ⟨hS1, hS2, hS3⟩ := hSw
        go_simp
        try with_reducible rfl
      try simp only [Act.put, List.setIfInBounds_toArray, List.set_cons_zero, List.set_cons_succ]
      refine wpAnyH_done (by kernel_rfl) ?_ _
      obtain ⟨kw, hkw, hkv⟩ : ∃ kw : Int, whR (rowsOf s2.L) op.t = kw ∧ ((hv = true ∧ (0 : Int) ≤ kw) ∨ (hv = false ∧ ¬ (0 : Int) ≤ kw)) := by
        refine ⟨_, rfl, ?_⟩
        by_cases hin : op.t ∈ (rowsOf s2.L).map (·.1)
        · obtain ⟨k, hk', _⟩ := whR_pos hin
          exact .inl ⟨by rw [HHV.out]; exact decide_eq_true hin, by rw [hk']; omega⟩
        · exact .inr ⟨by rw [HHV.out]; exact decide_eq_false hin, by rw [whR_neg hin]; omega⟩
      rw [hkw] at hwh
      clear hkw HHV
      rcases hkv with ⟨rfl, hkw0⟩ | ⟨rfl, hkw0⟩
      all_goals
        skip

        clear hSx
        go_wp2_with fail
        refine hwh.mono ?_
        rintro e V10 ⟨rfl, hx10⟩
        have HLE := hid_of (HL9.out V10 hx10)
        clear hx10 hwh HL9
        dsimp only
        go_wp2_with fail
        refine ⟨rfl, rfl, ⟨rfl, rfl, rfl, i + 1, by omega, ?_, HLE⟩, ?_⟩
        · show Value.int .i64 _ = _
          go_num
        · show len - (intOf (Value.int .i64 _)).toNat < len - (intOf (F 5)).toNat
          rw [H5.out]
          simp [intOf]; omega
  have hk9 : (op.kind == 9) = false := by simp [hk]
  have hkn9 := hk
  clear hk
  by_cases hk : op.kind = 10
  · have hk10 : (op.kind == 10) = true := by simp [hk]
    go_wp2_with fail
    refine hsa.mono ?_
    rintro e V4 ⟨rfl, hx4⟩
    have HX4 := hid_of hx4
    have hb64 := (hx4.blk (blk_lt hb6)).trans hb6
    have hb94 := (hx4.blk (blk_lt hb9)).trans hb9
    clear hx4 hsa hb6 hb9 hb10
    dsimp only
    cases kn with
    | false =>
      have HLE := hid_of (HLX.out V4 HX4.out)
      clear HLX HX4
      go_wp2_with fail
      refine ⟨rfl, rfl, ⟨rfl, rfl, rfl, i + 1, by omega, ?_, HLE⟩, ?_⟩
      · show Value.int .i64 _ = _
        go_num
      · show len - (intOf (Value.int .i64 _)).toNat < len - (intOf (F 5)).toNat
        rw [H5.out]
        simp [intOf]; omega
    | true =>
      have hid : 0 ≤ op.rel ∧ op.rel < (rn : Int) := of_decide_eq_true HKN.out.symm
      obtain ⟨n, hn⟩ : ∃ n : Nat, op.rel = (n : Int) := ⟨op.rel.toNat, by omega⟩
      have hn1 : n < sm.rels.length := by have := HRN.out; omega
      have hn2 : n < st.rels.length := by rw [← HE.out.len]; exact hn1
      have hn3 : n < st1.rels.length := Nat.lt_of_lt_of_le hn2 (play_rels HP.out)
      obtain ⟨s1, hs1⟩ : ∃ s1, st1.rels[n]? = some s1 := ⟨_, List.getElem?_eq_getElem hn3⟩
      obtain ⟨s2, hs2⟩ : ∃ s2, sm2.rels[n]? = some s2 := ⟨_, List.getElem?_eq_getElem (by rw [HE3.out.len]; exact hn3)⟩
      have hrel := HE3.out.rel n s1 s2 hs1 hs2
      have ers1 : rowsS st1 op.rel = rowsOf s1.L := by rw [hn]; unfold rowsS; rw [relF_some hs1]
      have erc : relCode st1 op.rel = 0 := by rw [hn]; unfold relCode; rw [relF_some hs1]
      have hJ4 := HJ3.out.ext HX4.out
      have HWS : Hid (was = decide (op.t ∈ (rowsS st op.rel).map (·.1))) := by
        show _ = _
        rw [HWAS.out, Bool.true_and]
        exact decide_eq_decide.2 (HE.out.mem op.rel op.t)
      have hli := listS_any B O3 V4 bs st1 hJ4.s op.rel
      rw [erc] at hli
      have HH := hid_of (And.intro hs1 (And.intro hs2 (And.intro hrel (And.intro hn (And.intro ers1 hJ4)))))
      clear hid hn1 hn2 hn3 hs1 hs2 hrel ers1 erc hJ4 HWS hn
      go_wp2_with fail
      refine hli.mono ?_
      rintro e V5 ⟨a5, n5, c5, tl, rfl, hout5, htl⟩
      obtain ⟨hs1, hs2, hrel, hn, ers1, hJ4⟩ := HH.out
      have hE5 := hout5.2.1
      have hb65 := (hE5.blk (blk_lt hb64)).trans hb64
      have hln := lenS_any B O3 V5 bs st1 (hJ4.s.ext hE5) op.rel
      obtain ⟨wl, hwl0⟩ : ∃ wl, wl = (rowsOf s2.L).length := ⟨_, rfl⟩
      have ele : lenF st1 op.rel = ((wl : Int), 0) := by rw [hn]; unfold lenF; rw [relF_some hs1]; dsimp only; rw [hwl0, hrel.2.2.length_eq]
      have HWL0 := hid_of hwl0
      clear hwl0
      rw [ele] at hln
      have hco := contains_any B O3 V5 bs st1 (hJ4.s.ext hE5) op.rel op.t
      have eco : containsF st1 op.rel op.t = (decide (op.t ∈ (rowsOf s2.L).map (·.1)), (containsF st1 op.rel op.t).2) := by
        have h1 : (containsF st1 op.rel op.t).1 = decide (op.t ∈ (rowsOf s2.L).map (·.1)) := by
          have h2 := contains_mem HR3.out op.rel op.t
          rw [h2, ers1]
          exact decide_eq_decide.2 (((hrel.2.2.map (·.1)).mem_iff).symm)
        rw [← h1]
      rw [eco] at hco
      obtain ⟨cv, hcv⟩ : ∃ cv, cv = (containsF st1 op.rel op.t).2 := ⟨_, rfl⟩
      rw [← hcv] at hco
      obtain ⟨hv, hhv⟩ : ∃ hv, hv = decide (op.t ∈ (rowsOf s2.L).map (·.1)) := ⟨_, rfl⟩
      rw [← hhv] at hco
      have HHV := hid_of hhv
      have HOUT := hid_of (And.intro hout5 htl)
      clear hli hout5 htl hE5 hb64 hb94 ele eco hcv hhv hs1 hs2 hrel hn ers1 hJ4
      dsimp only
      go_wp2_with fail
      refine hln.mono ?_
      rintro e V6 ⟨rfl, rfl⟩
      clear hln
      dsimp only
      go_wp2_with fail
      refine hco.mono ?_
      rintro e V7 ⟨rfl, hx7⟩
      obtain ⟨hs1, hs2, hrel, hn, ers1, hJ4⟩ := HH.out
      have hJ7 := (hJ4.ext HOUT.out.1.2.1).ext hx7
      have hb67 := (hx7.blk (blk_lt hb65)).trans hb65
      have hd7 : V7.Extends V7.drew := extends_drew (ext_Ext (Ext.refl _))
      have htu := tuplesOf_any B O3 V7.drew bm sm2 (hJ7.m.ext hd7) HMS3.out n s2 hs2
      rw [← hn] at htu
      obtain ⟨na2, nn2, nc2, gr, rn2, rc2, Cr, ka, kn2, kc, wa, wn, wc, ho, _, _⟩ := mat_open hJ7.m hs2
      have hbm7 := ho.hb
      have hC7 := ho.bc
      have hl7 := ho.len
      have c2 := ho.c2
      have hwl := ho.rows.1
      have hnr := ho.hn
      obtain rfl : wn = wl := by rw [HWL0.out, hwl]
      have d2 : n * 3 < Cr.length := by omega
      have d3 : n * 3 + 2 + 1 ≤ Cr.length := by omega
      have q0r : (0 : Int) ≤ op.rel := by omega
      have q1r : op.rel < (rn2 : Int) := by omega
      have q2r : op.rel.toNat = n := by omega
      have hSx : ∀ V', V7.Extends V' → blk V' b6 = some (GOp.enc op) ∧ blk V' bm = some (vE na2 nn2 nc2 (some ⟨gr, 0, none⟩) rn2 rc2) ∧ blk V' gr = some Cr := fun V' hx => ⟨(hx.blk (blk_lt hb67)).trans hb67, (hx.blk (blk_lt hbm7)).trans hbm7, (hx.blk (blk_lt hC7)).trans hC7⟩
      have HSX := hid_of hSx
      have HJ7 := hid_of hJ7
      have HX7 := hid_of hx7
      have hn5 : n5 ≤ 10000 := by
        have h1 := HOUT.out.1.2.2
        have h2 := (HMS3.out.rel s2 (List.mem_of_getElem? hs2)).2.1
        rw [h1, HOUT.out.2, ers1, List.length_map, ← hrel.2.2.length_eq]; omega
      clear hco hs1 hs2 hrel ers1 hJ4 ho hl7 hwl hnr hJ7 hx7 hb65 hn
      dsimp only
      go_upto_region 27 with fail
      refine wp_region_held_drew (S := fun W' => blk W' b6 = some (GOp.enc op) ∧ blk W' bm = some (vE na2 nn2 nc2 (some ⟨gr, 0, none⟩) rn2 rc2) ∧ blk W' gr = some Cr) (by kernel_rfl) ⟨hb67, hbm7, hC7⟩ (fun hHeld => ?_)
      refine wpAnyH_take (i := 0) (oi := ⟨_, _, _, _, _, _⟩) (v := ?_) rfl (by kernel_rfl) (by kernel_rfl) (by kernel_rfl) (fun _ _ _ h => h) (Or.inl ⟨by rfl, ?_⟩) (by assumption) ?_
      rotate_left 1
      · intro W' hSw
        obtain ⟨hS1, hS2, hS3⟩ := hSw
        go_simp
        try with_reducible rfl
      try simp only [Act.put, List.setIfInBounds_toArray, List.set_cons_zero, List.set_cons_succ]
      refine wpAnyH_take (i := 1) (oi := ⟨_, _, _, _, _, _⟩) (v := ?_) rfl (by kernel_rfl) (by kernel_rfl) (by kernel_rfl) (fun _ _ _ h => h) (Or.inl ⟨by rfl, ?_⟩) (by assumption) ?_
      rotate_left 1
      · intro W' hSw
        obtain ⟨hS1, hS2, hS3⟩ := hSw
        go_simp
        try with_reducible rfl
      try simp only [Act.put, List.setIfInBounds_toArray, List.set_cons_zero, List.set_cons_succ]
      refine wpAnyH_take (i := 2) (oi := ⟨_, _, _, _, _, _⟩) (v := ?_) rfl (by kernel_rfl) (by kernel_rfl) (by kernel_rfl) (fun _ _ _ h => h) (Or.inl ⟨by rfl, ?_⟩) (by assumption) ?_
      rotate_left 1
      · intro W' hSw
        obtain ⟨hS1, hS2, hS3⟩ := hSw
        go_simp
        try with_reducible rfl
      try simp only [Act.put, List.setIfInBounds_toArray, List.set_cons_zero, List.set_cons_succ]
      refine wpAnyH_take (i := 3) (oi := ⟨_, _, _, _, _, _⟩) (v := ?_) rfl (by kernel_rfl) (by kernel_rfl) (by kernel_rfl) (fun _ _ _ h => h) (Or.inl ⟨by rfl, ?_⟩) (by assumption) ?_
      rotate_left 1
      · intro W' hSw
        obtain ⟨hS1, hS2, hS3⟩ := hSw
        go_simp
        try with_reducible rfl
      try simp only [Act.put, List.setIfInBounds_toArray, List.set_cons_zero, List.set_cons_succ]
      refine wpAnyH_ready (rs := [4]) (by kernel_rfl) (by simp) ?_
      refine AllReadyH.cons (o := ⟨_, _, _, _, _, _⟩) rfl (fun K' hK => ?_) AllReadyH.nil
      go_simp
      refine htu.mono ?_
      rintro e V8 ⟨a8, n8, c8, rfl, hout8⟩
      obtain ⟨hs1, hs2, hrel, hn, ers1, hJ4⟩ := HH.out
      have hx78 := hd7.trans hout8.2.1
      have hsb := sameBag_perm V8 a5 n5 c5 a8 n8 c8 tl ((rowsOf s2.L).map (·.1)) ((rw_own tpl_len ((HOUT.out.1.ext HX7.out).ext hx78).1).1) hout8.rw' (by rw [HOUT.out.2, ers1]; exact hrel.2.2.map _) hn5
      have HX8 := hid_of hx78
      have hS8 := hSx V8 hx78
      clear hs1 hs2 hrel hn ers1 hJ4 hout8 htu hx78
      dsimp only
      refine hK.out _ _ hS8 (fun hHeld => ?_)
      clear hK K'
      try simp only [Act.put, List.setIfInBounds_toArray, List.set_cons_zero, List.set_cons_succ]
      refine wpAnyH_ready (rs := [5]) (by kernel_rfl) (by simp) ?_
      refine AllReadyH.cons (o := ⟨_, _, _, _, _, _⟩) rfl (fun K' hK => ?_) AllReadyH.nil
      go_simp
      refine hsb.mono ?_
      rintro e V9 ⟨rfl, hx9⟩
      obtain ⟨hs1, hs2, hrel, hn, ers1, hJ4⟩ := HH.out
      have hx79 := HX8.out.trans hx9
      have hS9 := hSx V9 hx79
      have hwh := where_any B O3 V9 bm sm2 (HJ7.out.m.ext hx79) HMS3.out n s2 hs2 op.t
      rw [← hn] at hwh
      have HL9 : Hid (∀ V', V9.Extends V' → L4 W1 B bs bm V') := fun V' hx => HLX.out V' (((HX4.out.trans HOUT.out.1.2.1).trans HX7.out).trans (hx79.trans hx))
      have hb69 := hS9.1
      clear hs1 hs2 hrel hn ers1 hJ4 hsb hx79 hx9 HX8 hS8 HLX
      dsimp only
      refine hK.out _ _ hS9 (fun hHeld => ?_)
      clear hK K'
      try simp only [Act.put, List.setIfInBounds_toArray, List.set_cons_zero, List.set_cons_succ]
      refine wpAnyH_take (i := 6) (oi := ⟨_, _, _, _, _, _⟩) (v := ?_) rfl (by kernel_rfl) (by kernel_rfl) (by kernel_rfl) (fun _ _ _ h => h) (Or.inl ⟨by rfl, ?_⟩) (by assumption) ?_
      rotate_left 1
      · intro W' hSw
        obtain ⟨hS1, hS2, hS3⟩ := hSw
        go_simp
        try with_reducible rfl
      try simp only [Act.put, List.setIfInBounds_toArray, List.set_cons_zero, List.set_cons_succ]
      refine wpAnyH_take (i := 7) (oi := ⟨_, _, _, _, _, _⟩) (v := ?_) rfl (by kernel_rfl) (by kernel_rfl) (by kernel_rfl) (fun _ _ _ h => h) (Or.inl ⟨by rfl, ?_⟩) (by assumption) ?_
      rotate_left 1
      · intro W' hSw
        obtain ⟨hS1, hS2, hS3⟩ := hSw
        go_simp
        try with_reducible rfl
      try simp only [Act.put, List.setIfInBounds_toArray, List.set_cons_zero, List.set_cons_succ]
      refine wpAnyH_take (i := 8) (oi := ⟨_, _, _, _, _, _⟩) (v := ?_) rfl (by kernel_rfl) (by kernel_rfl) (by kernel_rfl) (fun _ _ _ h => h) (Or.inl ⟨by rfl, ?_⟩) (by assumption) ?_
      rotate_left 1
      · intro W' hSw
        obtain ⟨hS1, hS2, hS3⟩ := hSw
        go_simp
        try with_reducible rfl
      try simp only [Act.put, List.setIfInBounds_toArray, List.set_cons_zero, List.set_cons_succ]
      refine wpAnyH_take (i := 9) (oi := ⟨_, _, _, _, _, _⟩) (v := ?_) rfl (by kernel_rfl) (by kernel_rfl) (by kernel_rfl) (fun _ _ _ h => h) (Or.inl ⟨by rfl, ?_⟩) (by assumption) ?_
      rotate_left 1
      · intro W' hSw
        obtain ⟨hS1, hS2, hS3⟩ := hSw
        go_simp
        try with_reducible rfl
      try simp only [Act.put, List.setIfInBounds_toArray, List.set_cons_zero, List.set_cons_succ]
      refine wpAnyH_take (i := 10) (oi := ⟨_, _, _, _, _, _⟩) (v := ?_) rfl (by kernel_rfl) (by kernel_rfl) (by kernel_rfl) (fun _ _ _ h => h) (Or.inl ⟨by rfl, ?_⟩) (by assumption) ?_
      rotate_left 1
      · intro W' hSw
        obtain ⟨hS1, hS2, hS3⟩ := hSw
        go_simp
        try with_reducible rfl
      try simp only [Act.put, List.setIfInBounds_toArray, List.set_cons_zero, List.set_cons_succ]
      refine wpAnyH_take (i := 11) (oi := ⟨_, _, _, _, _, _⟩) (v := ?_) rfl (by kernel_rfl) (by kernel_rfl) (by kernel_rfl) (fun _ _ _ h => h) (Or.inl ⟨by rfl, ?_⟩) (by assumption) ?_
      rotate_left 1
      · intro W' hSw
        obtain ⟨hS1, hS2, hS3⟩ := hSw
        go_simp
        try with_reducible rfl
      try simp only [Act.put, List.setIfInBounds_toArray, List.set_cons_zero, List.set_cons_succ]
      refine wpAnyH_take (i := 12) (oi := ⟨_, _, _, _, _, _⟩) (v := ?_) rfl (by kernel_rfl) (by kernel_rfl) (by kernel_rfl) (fun _ _ _ h => h) (Or.inl ⟨by rfl, ?_⟩) (by assumption) ?_
      rotate_left 1
      · intro W' hSw
        obtain ⟨hS1, hS2, hS3⟩ := hSw
        go_simp
        try with_reducible rfl
      try simp only [Act.put, List.setIfInBounds_toArray, List.set_cons_zero, List.set_cons_succ]
      refine wpAnyH_take (i := 13) (oi := ⟨_, _, _, _, _, _⟩) (v := ?_) rfl (by kernel_rfl) (by kernel_rfl) (by kernel_rfl) (fun _ _ _ h => h) (Or.inl ⟨by rfl, ?_⟩) (by assumption) ?_
      rotate_left 1
      · intro W' hSw
        obtain ⟨hS1, hS2, hS3⟩ := hSw
        go_simp
        try with_reducible rfl
      try simp only [Act.put, List.setIfInBounds_toArray, List.set_cons_zero, List.set_cons_succ]
      refine wpAnyH_take (i := 14) (oi := ⟨_, _, _, _, _, _⟩) (v := ?_) rfl (by kernel_rfl) (by kernel_rfl) (by kernel_rfl) (fun _ _ _ h => h) (Or.inl ⟨by rfl, ?_⟩) (by assumption) ?_
      rotate_left 1
      · intro W' hSw
        obtain ⟨hS1, hS2, hS3⟩ := hSw
        go_simp
        try with_reducible rfl
      try simp only [Act.put, List.setIfInBounds_toArray, List.set_cons_zero, List.set_cons_succ]
      refine wpAnyH_take (i := 15) (oi := ⟨_, _, _, _, _, _⟩) (v := ?_) rfl (by kernel_rfl) (by kernel_rfl) (by kernel_rfl) (fun _ _ _ h => h) (Or.inl ⟨by rfl, ?_⟩) (by assumption) ?_
      rotate_left 1
      · intro W' hSw
        obtain ⟨hS1, hS2, hS3⟩ := hSw
        go_simp
        try with_reducible rfl
      try simp only [Act.put, List.setIfInBounds_toArray, List.set_cons_zero, List.set_cons_succ]
      refine wpAnyH_take (i := 16) (oi := ⟨_, _, _, _, _, _⟩) (v := ?_) rfl (by kernel_rfl) (by kernel_rfl) (by kernel_rfl) (fun _ _ _ h => h) (Or.inl ⟨by rfl, ?_⟩) (by assumption) ?_
      rotate_left 1
      · intro W' hSw
        obtain ⟨hS1, hS2, hS3⟩ := hSw
        go_simp
        try with_reducible rfl
      try simp only [Act.put, List.setIfInBounds_toArray, List.set_cons_zero, List.set_cons_succ]
      refine wpAnyH_take (i := 17) (oi := ⟨_, _, _, _, _, _⟩) (v := ?_) rfl (by kernel_rfl) (by kernel_rfl) (by kernel_rfl) (fun _ _ _ h => h) (Or.inl ⟨by rfl, ?_⟩) (by assumption) ?_
      rotate_left 1
      · intro W' hSw
        obtain ⟨hS1, hS2, hS3⟩ := hSw
        go_simp
        try with_reducible rfl
      try simp only [Act.put, List.setIfInBounds_toArray, List.set_cons_zero, List.set_cons_succ]
      refine wpAnyH_take (i := 18) (oi := ⟨_, _, _, _, _, _⟩) (v := ?_) rfl (by kernel_rfl) (by kernel_rfl) (by kernel_rfl) (fun _ _ _ h => h) (Or.inl ⟨by rfl, ?_⟩) (by assumption) ?_
      rotate_left 1
      · intro W' hSw
        obtain ⟨hS1, hS2, hS3⟩ := hSw
        go_simp
        try with_reducible rfl
      try simp only [Act.put, List.setIfInBounds_toArray, List.set_cons_zero, List.set_cons_succ]
      refine wpAnyH_take (i := 19) (oi := ⟨_, _, _, _, _, _⟩) (v := ?_) rfl (by kernel_rfl) (by kernel_rfl) (by kernel_rfl) (fun _ _ _ h => h) (Or.inl ⟨by rfl, ?_⟩) (by assumption) ?_
      rotate_left 1
      · intro W' hSw
        obtain ⟨hS1, hS2, hS3⟩ := hSw
        go_simp
        try with_reducible rfl
      try simp only [Act.put, List.setIfInBounds_toArray, List.set_cons_zero, List.set_cons_succ]
      refine wpAnyH_take (i := 20) (oi := ⟨_, _, _, _, _, _⟩) (v := ?_) rfl (by kernel_rfl) (by kernel_rfl) (by kernel_rfl) (fun _ _ _ h => h) (Or.inl ⟨by rfl, ?_⟩) (by assumption) ?_
      rotate_left 1
      · intro W' hSw
        obtain ⟨hS1, hS2, hS3⟩ := hSw
        go_simp
        try with_reducible rfl
      try simp only [Act.put, List.setIfInBounds_toArray, List.set_cons_zero, List.set_cons_succ]
      refine wpAnyH_done (by kernel_rfl) ?_ _
      obtain ⟨kw, hkw, hkv⟩ : ∃ kw : Int, whR (rowsOf s2.L) op.t = kw ∧ ((hv = true ∧ (0 : Int) ≤ kw) ∨ (hv = false ∧ ¬ (0 : Int) ≤ kw)) := by
        refine ⟨_, rfl, ?_⟩
        by_cases hin : op.t ∈ (rowsOf s2.L).map (·.1)
        · obtain ⟨k, hk', _⟩ := whR_pos hin
          exact .inl ⟨by rw [HHV.out]; exact decide_eq_true hin, by rw [hk']; omega⟩
        · exact .inr ⟨by rw [HHV.out]; exact decide_eq_false hin, by rw [whR_neg hin]; omega⟩
      rw [hkw] at hwh
      clear hkw HHV
      rcases hkv with ⟨rfl, hkw0⟩ | ⟨rfl, hkw0⟩
      all_goals
        skip

        clear hSx
        go_wp2_with fail
        refine hwh.mono ?_
        rintro e V10 ⟨rfl, hx10⟩
        have HLE := hid_of (HL9.out V10 hx10)
        clear hx10 hwh HL9
        dsimp only
        go_wp2_with fail
        refine ⟨rfl, rfl, ⟨rfl, rfl, rfl, i + 1, by omega, ?_, HLE⟩, ?_⟩
        · show Value.int .i64 _ = _
          go_num
        · show len - (intOf (Value.int .i64 _)).toNat < len - (intOf (F 5)).toNat
          rw [H5.out]
          simp [intOf]; omega
  have hk10 : (op.kind == 10) = false := by simp [hk]
  have hkn10 := hk
  clear hk
  have HX4 : Hid (V3.Extends V3) := ext_Ext (Ext.refl _)
  obtain ⟨V4, hV4⟩ : ∃ V4, V4 = V3 := ⟨_, rfl⟩
  have HX4' : Hid (V3.Extends V4) := by show V3.Extends V4; rw [hV4]; exact HX4.out
  clear HX4
  have HX4 := HX4'
  clear HX4'
  have hb64 : blk V4 b6 = some (GOp.enc op) := by rw [hV4]; exact hb6
  have hb94 : blk V4 b9 = some (Answer.enc A) := by rw [hV4]; exact hb9
  rw [← hV4]
  clear hV4 hsa hb6 hb9 hb10
  cases kn with
  | false =>
    have HLE := hid_of (HLX.out V4 HX4.out)
    clear HLX HX4
    go_wp2_with fail
    refine ⟨rfl, rfl, ⟨rfl, rfl, rfl, i + 1, by omega, ?_, HLE⟩, ?_⟩
    · show Value.int .i64 _ = _
      go_num
    · show len - (intOf (Value.int .i64 _)).toNat < len - (intOf (F 5)).toNat
      rw [H5.out]
      simp [intOf]; omega
  | true =>
    have hid : 0 ≤ op.rel ∧ op.rel < (rn : Int) := of_decide_eq_true HKN.out.symm
    obtain ⟨n, hn⟩ : ∃ n : Nat, op.rel = (n : Int) := ⟨op.rel.toNat, by omega⟩
    have hn1 : n < sm.rels.length := by have := HRN.out; omega
    have hn2 : n < st.rels.length := by rw [← HE.out.len]; exact hn1
    have hn3 : n < st1.rels.length := Nat.lt_of_lt_of_le hn2 (play_rels HP.out)
    obtain ⟨s1, hs1⟩ : ∃ s1, st1.rels[n]? = some s1 := ⟨_, List.getElem?_eq_getElem hn3⟩
    obtain ⟨s2, hs2⟩ : ∃ s2, sm2.rels[n]? = some s2 := ⟨_, List.getElem?_eq_getElem (by rw [HE3.out.len]; exact hn3)⟩
    have hrel := HE3.out.rel n s1 s2 hs1 hs2
    have ers1 : rowsS st1 op.rel = rowsOf s1.L := by rw [hn]; unfold rowsS; rw [relF_some hs1]
    have erc : relCode st1 op.rel = 0 := by rw [hn]; unfold relCode; rw [relF_some hs1]
    have hJ4 := HJ3.out.ext HX4.out
    have HWS : Hid (was = decide (op.t ∈ (rowsS st op.rel).map (·.1))) := by
      show _ = _
      rw [HWAS.out, Bool.true_and]
      exact decide_eq_decide.2 (HE.out.mem op.rel op.t)
    have hli := listS_any B O3 V4 bs st1 hJ4.s op.rel
    rw [erc] at hli
    have HH := hid_of (And.intro hs1 (And.intro hs2 (And.intro hrel (And.intro hn (And.intro ers1 hJ4)))))
    clear hid hn1 hn2 hn3 hs1 hs2 hrel ers1 erc hJ4 HWS hn
    go_wp2_with fail
    refine hli.mono ?_
    rintro e V5 ⟨a5, n5, c5, tl, rfl, hout5, htl⟩
    obtain ⟨hs1, hs2, hrel, hn, ers1, hJ4⟩ := HH.out
    have hE5 := hout5.2.1
    have hb65 := (hE5.blk (blk_lt hb64)).trans hb64
    have hln := lenS_any B O3 V5 bs st1 (hJ4.s.ext hE5) op.rel
    obtain ⟨wl, hwl0⟩ : ∃ wl, wl = (rowsOf s2.L).length := ⟨_, rfl⟩
    have ele : lenF st1 op.rel = ((wl : Int), 0) := by rw [hn]; unfold lenF; rw [relF_some hs1]; dsimp only; rw [hwl0, hrel.2.2.length_eq]
    have HWL0 := hid_of hwl0
    clear hwl0
    rw [ele] at hln
    have hco := contains_any B O3 V5 bs st1 (hJ4.s.ext hE5) op.rel op.t
    have eco : containsF st1 op.rel op.t = (decide (op.t ∈ (rowsOf s2.L).map (·.1)), (containsF st1 op.rel op.t).2) := by
      have h1 : (containsF st1 op.rel op.t).1 = decide (op.t ∈ (rowsOf s2.L).map (·.1)) := by
        have h2 := contains_mem HR3.out op.rel op.t
        rw [h2, ers1]
        exact decide_eq_decide.2 (((hrel.2.2.map (·.1)).mem_iff).symm)
      rw [← h1]
    rw [eco] at hco
    obtain ⟨cv, hcv⟩ : ∃ cv, cv = (containsF st1 op.rel op.t).2 := ⟨_, rfl⟩
    rw [← hcv] at hco
    obtain ⟨hv, hhv⟩ : ∃ hv, hv = decide (op.t ∈ (rowsOf s2.L).map (·.1)) := ⟨_, rfl⟩
    rw [← hhv] at hco
    have HHV := hid_of hhv
    have HOUT := hid_of (And.intro hout5 htl)
    clear hli hout5 htl hE5 hb64 hb94 ele eco hcv hhv hs1 hs2 hrel hn ers1 hJ4
    dsimp only
    go_wp2_with fail
    refine hln.mono ?_
    rintro e V6 ⟨rfl, rfl⟩
    clear hln
    dsimp only
    go_wp2_with fail
    refine hco.mono ?_
    rintro e V7 ⟨rfl, hx7⟩
    obtain ⟨hs1, hs2, hrel, hn, ers1, hJ4⟩ := HH.out
    have hJ7 := (hJ4.ext HOUT.out.1.2.1).ext hx7
    have hb67 := (hx7.blk (blk_lt hb65)).trans hb65
    have hd7 : V7.Extends V7.drew := extends_drew (ext_Ext (Ext.refl _))
    have htu := tuplesOf_any B O3 V7.drew bm sm2 (hJ7.m.ext hd7) HMS3.out n s2 hs2
    rw [← hn] at htu
    obtain ⟨na2, nn2, nc2, gr, rn2, rc2, Cr, ka, kn2, kc, wa, wn, wc, ho, _, _⟩ := mat_open hJ7.m hs2
    have hbm7 := ho.hb
    have hC7 := ho.bc
    have hl7 := ho.len
    have c2 := ho.c2
    have hwl := ho.rows.1
    have hnr := ho.hn
    obtain rfl : wn = wl := by rw [HWL0.out, hwl]
    have d2 : n * 3 < Cr.length := by omega
    have d3 : n * 3 + 2 + 1 ≤ Cr.length := by omega
    have q0r : (0 : Int) ≤ op.rel := by omega
    have q1r : op.rel < (rn2 : Int) := by omega
    have q2r : op.rel.toNat = n := by omega
    have hSx : ∀ V', V7.Extends V' → blk V' b6 = some (GOp.enc op) ∧ blk V' bm = some (vE na2 nn2 nc2 (some ⟨gr, 0, none⟩) rn2 rc2) ∧ blk V' gr = some Cr := fun V' hx => ⟨(hx.blk (blk_lt hb67)).trans hb67, (hx.blk (blk_lt hbm7)).trans hbm7, (hx.blk (blk_lt hC7)).trans hC7⟩
    have HSX := hid_of hSx
    have HJ7 := hid_of hJ7
    have HX7 := hid_of hx7
    have hn5 : n5 ≤ 10000 := by
      have h1 := HOUT.out.1.2.2
      have h2 := (HMS3.out.rel s2 (List.mem_of_getElem? hs2)).2.1
      rw [h1, HOUT.out.2, ers1, List.length_map, ← hrel.2.2.length_eq]; omega
    clear hco hs1 hs2 hrel ers1 hJ4 ho hl7 hwl hnr hJ7 hx7 hb65 hn
    dsimp only
    go_upto_region 27 with fail
    refine wp_region_held_drew (S := fun W' => blk W' b6 = some (GOp.enc op) ∧ blk W' bm = some (vE na2 nn2 nc2 (some ⟨gr, 0, none⟩) rn2 rc2) ∧ blk W' gr = some Cr) (by kernel_rfl) ⟨hb67, hbm7, hC7⟩ (fun hHeld => ?_)
    refine wpAnyH_take (i := 0) (oi := ⟨_, _, _, _, _, _⟩) (v := ?_) rfl (by kernel_rfl) (by kernel_rfl) (by kernel_rfl) (fun _ _ _ h => h) (Or.inl ⟨by rfl, ?_⟩) (by assumption) ?_
    rotate_left 1
    · intro W' hSw
      obtain ⟨hS1, hS2, hS3⟩ := hSw
      go_simp
      try with_reducible rfl
    try simp only [Act.put, List.setIfInBounds_toArray, List.set_cons_zero, List.set_cons_succ]
    refine wpAnyH_take (i := 1) (oi := ⟨_, _, _, _, _, _⟩) (v := ?_) rfl (by kernel_rfl) (by kernel_rfl) (by kernel_rfl) (fun _ _ _ h => h) (Or.inl ⟨by rfl, ?_⟩) (by assumption) ?_
    rotate_left 1
    · intro W' hSw
      obtain ⟨hS1, hS2, hS3⟩ := hSw
      go_simp
      try with_reducible rfl
    try simp only [Act.put, List.setIfInBounds_toArray, List.set_cons_zero, List.set_cons_succ]
    refine wpAnyH_take (i := 2) (oi := ⟨_, _, _, _, _, _⟩) (v := ?_) rfl (by kernel_rfl) (by kernel_rfl) (by kernel_rfl) (fun _ _ _ h => h) (Or.inl ⟨by rfl, ?_⟩) (by assumption) ?_
    rotate_left 1
    · intro W' hSw
      obtain ⟨hS1, hS2, hS3⟩ := hSw
      go_simp
      try with_reducible rfl
    try simp only [Act.put, List.setIfInBounds_toArray, List.set_cons_zero, List.set_cons_succ]
    refine wpAnyH_take (i := 3) (oi := ⟨_, _, _, _, _, _⟩) (v := ?_) rfl (by kernel_rfl) (by kernel_rfl) (by kernel_rfl) (fun _ _ _ h => h) (Or.inl ⟨by rfl, ?_⟩) (by assumption) ?_
    rotate_left 1
    · intro W' hSw
      obtain ⟨hS1, hS2, hS3⟩ := hSw
      go_simp
      try with_reducible rfl
    try simp only [Act.put, List.setIfInBounds_toArray, List.set_cons_zero, List.set_cons_succ]
    refine wpAnyH_ready (rs := [4]) (by kernel_rfl) (by simp) ?_
    refine AllReadyH.cons (o := ⟨_, _, _, _, _, _⟩) rfl (fun K' hK => ?_) AllReadyH.nil
    go_simp
    refine htu.mono ?_
    rintro e V8 ⟨a8, n8, c8, rfl, hout8⟩
    obtain ⟨hs1, hs2, hrel, hn, ers1, hJ4⟩ := HH.out
    have hx78 := hd7.trans hout8.2.1
    have hsb := sameBag_perm V8 a5 n5 c5 a8 n8 c8 tl ((rowsOf s2.L).map (·.1)) ((rw_own tpl_len ((HOUT.out.1.ext HX7.out).ext hx78).1).1) hout8.rw' (by rw [HOUT.out.2, ers1]; exact hrel.2.2.map _) hn5
    have HX8 := hid_of hx78
    have hS8 := hSx V8 hx78
    clear hs1 hs2 hrel hn ers1 hJ4 hout8 htu hx78
    dsimp only
    refine hK.out _ _ hS8 (fun hHeld => ?_)
    clear hK K'
    try simp only [Act.put, List.setIfInBounds_toArray, List.set_cons_zero, List.set_cons_succ]
    refine wpAnyH_ready (rs := [5]) (by kernel_rfl) (by simp) ?_
    refine AllReadyH.cons (o := ⟨_, _, _, _, _, _⟩) rfl (fun K' hK => ?_) AllReadyH.nil
    go_simp
    refine hsb.mono ?_
    rintro e V9 ⟨rfl, hx9⟩
    obtain ⟨hs1, hs2, hrel, hn, ers1, hJ4⟩ := HH.out
    have hx79 := HX8.out.trans hx9
    have hS9 := hSx V9 hx79
    have hwh := where_any B O3 V9 bm sm2 (HJ7.out.m.ext hx79) HMS3.out n s2 hs2 op.t
    rw [← hn] at hwh
    have HL9 : Hid (∀ V', V9.Extends V' → L4 W1 B bs bm V') := fun V' hx => HLX.out V' (((HX4.out.trans HOUT.out.1.2.1).trans HX7.out).trans (hx79.trans hx))
    have hb69 := hS9.1
    clear hs1 hs2 hrel hn ers1 hJ4 hsb hx79 hx9 HX8 hS8 HLX
    dsimp only
    refine hK.out _ _ hS9 (fun hHeld => ?_)
    clear hK K'
    try simp only [Act.put, List.setIfInBounds_toArray, List.set_cons_zero, List.set_cons_succ]
    refine wpAnyH_take (i := 6) (oi := ⟨_, _, _, _, _, _⟩) (v := ?_) rfl (by kernel_rfl) (by kernel_rfl) (by kernel_rfl) (fun _ _ _ h => h) (Or.inl ⟨by rfl, ?_⟩) (by assumption) ?_
    rotate_left 1
    · intro W' hSw
      obtain ⟨hS1, hS2, hS3⟩ := hSw
      go_simp
      try with_reducible rfl
    try simp only [Act.put, List.setIfInBounds_toArray, List.set_cons_zero, List.set_cons_succ]
    refine wpAnyH_take (i := 7) (oi := ⟨_, _, _, _, _, _⟩) (v := ?_) rfl (by kernel_rfl) (by kernel_rfl) (by kernel_rfl) (fun _ _ _ h => h) (Or.inl ⟨by rfl, ?_⟩) (by assumption) ?_
    rotate_left 1
    · intro W' hSw
      obtain ⟨hS1, hS2, hS3⟩ := hSw
      go_simp
      try with_reducible rfl
    try simp only [Act.put, List.setIfInBounds_toArray, List.set_cons_zero, List.set_cons_succ]
    refine wpAnyH_take (i := 8) (oi := ⟨_, _, _, _, _, _⟩) (v := ?_) rfl (by kernel_rfl) (by kernel_rfl) (by kernel_rfl) (fun _ _ _ h => h) (Or.inl ⟨by rfl, ?_⟩) (by assumption) ?_
    rotate_left 1
    · intro W' hSw
      obtain ⟨hS1, hS2, hS3⟩ := hSw
      go_simp
      try with_reducible rfl
    try simp only [Act.put, List.setIfInBounds_toArray, List.set_cons_zero, List.set_cons_succ]
    refine wpAnyH_take (i := 9) (oi := ⟨_, _, _, _, _, _⟩) (v := ?_) rfl (by kernel_rfl) (by kernel_rfl) (by kernel_rfl) (fun _ _ _ h => h) (Or.inl ⟨by rfl, ?_⟩) (by assumption) ?_
    rotate_left 1
    · intro W' hSw
      obtain ⟨hS1, hS2, hS3⟩ := hSw
      go_simp
      try with_reducible rfl
    try simp only [Act.put, List.setIfInBounds_toArray, List.set_cons_zero, List.set_cons_succ]
    refine wpAnyH_take (i := 10) (oi := ⟨_, _, _, _, _, _⟩) (v := ?_) rfl (by kernel_rfl) (by kernel_rfl) (by kernel_rfl) (fun _ _ _ h => h) (Or.inl ⟨by rfl, ?_⟩) (by assumption) ?_
    rotate_left 1
    · intro W' hSw
      obtain ⟨hS1, hS2, hS3⟩ := hSw
      go_simp
      try with_reducible rfl
    try simp only [Act.put, List.setIfInBounds_toArray, List.set_cons_zero, List.set_cons_succ]
    refine wpAnyH_take (i := 11) (oi := ⟨_, _, _, _, _, _⟩) (v := ?_) rfl (by kernel_rfl) (by kernel_rfl) (by kernel_rfl) (fun _ _ _ h => h) (Or.inl ⟨by rfl, ?_⟩) (by assumption) ?_
    rotate_left 1
    · intro W' hSw
      obtain ⟨hS1, hS2, hS3⟩ := hSw
      go_simp
      try with_reducible rfl
    try simp only [Act.put, List.setIfInBounds_toArray, List.set_cons_zero, List.set_cons_succ]
    refine wpAnyH_take (i := 12) (oi := ⟨_, _, _, _, _, _⟩) (v := ?_) rfl (by kernel_rfl) (by kernel_rfl) (by kernel_rfl) (fun _ _ _ h => h) (Or.inl ⟨by rfl, ?_⟩) (by assumption) ?_
    rotate_left 1
    · intro W' hSw
      obtain ⟨hS1, hS2, hS3⟩ := hSw
      go_simp
      try with_reducible rfl
    try simp only [Act.put, List.setIfInBounds_toArray, List.set_cons_zero, List.set_cons_succ]
    refine wpAnyH_take (i := 13) (oi := ⟨_, _, _, _, _, _⟩) (v := ?_) rfl (by kernel_rfl) (by kernel_rfl) (by kernel_rfl) (fun _ _ _ h => h) (Or.inl ⟨by rfl, ?_⟩) (by assumption) ?_
    rotate_left 1
    · intro W' hSw
      obtain ⟨hS1, hS2, hS3⟩ := hSw
      go_simp
      try with_reducible rfl
    try simp only [Act.put, List.setIfInBounds_toArray, List.set_cons_zero, List.set_cons_succ]
    refine wpAnyH_take (i := 14) (oi := ⟨_, _, _, _, _, _⟩) (v := ?_) rfl (by kernel_rfl) (by kernel_rfl) (by kernel_rfl) (fun _ _ _ h => h) (Or.inl ⟨by rfl, ?_⟩) (by assumption) ?_
    rotate_left 1
    · intro W' hSw
      obtain ⟨hS1, hS2, hS3⟩ := hSw
      go_simp
      try with_reducible rfl
    try simp only [Act.put, List.setIfInBounds_toArray, List.set_cons_zero, List.set_cons_succ]
    refine wpAnyH_take (i := 15) (oi := ⟨_, _, _, _, _, _⟩) (v := ?_) rfl (by kernel_rfl) (by kernel_rfl) (by kernel_rfl) (fun _ _ _ h => h) (Or.inl ⟨by rfl, ?_⟩) (by assumption) ?_
    rotate_left 1
    · intro W' hSw
      obtain ⟨hS1, hS2, hS3⟩ := hSw
      go_simp
      try with_reducible rfl
    try simp only [Act.put, List.setIfInBounds_toArray, List.set_cons_zero, List.set_cons_succ]
    refine wpAnyH_take (i := 16) (oi := ⟨_, _, _, _, _, _⟩) (v := ?_) rfl (by kernel_rfl) (by kernel_rfl) (by kernel_rfl) (fun _ _ _ h => h) (Or.inl ⟨by rfl, ?_⟩) (by assumption) ?_
    rotate_left 1
    · intro W' hSw
      obtain ⟨hS1, hS2, hS3⟩ := hSw
      go_simp
      try with_reducible rfl
    try simp only [Act.put, List.setIfInBounds_toArray, List.set_cons_zero, List.set_cons_succ]
    refine wpAnyH_take (i := 17) (oi := ⟨_, _, _, _, _, _⟩) (v := ?_) rfl (by kernel_rfl) (by kernel_rfl) (by kernel_rfl) (fun _ _ _ h => h) (Or.inl ⟨by rfl, ?_⟩) (by assumption) ?_
    rotate_left 1
    · intro W' hSw
      obtain ⟨hS1, hS2, hS3⟩ := hSw
      go_simp
      try with_reducible rfl
    try simp only [Act.put, List.setIfInBounds_toArray, List.set_cons_zero, List.set_cons_succ]
    refine wpAnyH_take (i := 18) (oi := ⟨_, _, _, _, _, _⟩) (v := ?_) rfl (by kernel_rfl) (by kernel_rfl) (by kernel_rfl) (fun _ _ _ h => h) (Or.inl ⟨by rfl, ?_⟩) (by assumption) ?_
    rotate_left 1
    · intro W' hSw
      obtain ⟨hS1, hS2, hS3⟩ := hSw
      go_simp
      try with_reducible rfl
    try simp only [Act.put, List.setIfInBounds_toArray, List.set_cons_zero, List.set_cons_succ]
    refine wpAnyH_take (i := 19) (oi := ⟨_, _, _, _, _, _⟩) (v := ?_) rfl (by kernel_rfl) (by kernel_rfl) (by kernel_rfl) (fun _ _ _ h => h) (Or.inl ⟨by rfl, ?_⟩) (by assumption) ?_
    rotate_left 1
    · intro W' hSw
      obtain ⟨hS1, hS2, hS3⟩ := hSw
      go_simp
      try with_reducible rfl
    try simp only [Act.put, List.setIfInBounds_toArray, List.set_cons_zero, List.set_cons_succ]
    refine wpAnyH_take (i := 20) (oi := ⟨_, _, _, _, _, _⟩) (v := ?_) rfl (by kernel_rfl) (by kernel_rfl) (by kernel_rfl) (fun _ _ _ h => h) (Or.inl ⟨by rfl, ?_⟩) (by assumption) ?_
    rotate_left 1
    · intro W' hSw
      obtain ⟨hS1, hS2, hS3⟩ := hSw
      go_simp
      try with_reducible rfl
    try simp only [Act.put, List.setIfInBounds_toArray, List.set_cons_zero, List.set_cons_succ]
    refine wpAnyH_done (by kernel_rfl) ?_ _
    obtain ⟨kw, hkw, hkv⟩ : ∃ kw : Int, whR (rowsOf s2.L) op.t = kw ∧ ((hv = true ∧ (0 : Int) ≤ kw) ∨ (hv = false ∧ ¬ (0 : Int) ≤ kw)) := by
      refine ⟨_, rfl, ?_⟩
      by_cases hin : op.t ∈ (rowsOf s2.L).map (·.1)
      · obtain ⟨k, hk', _⟩ := whR_pos hin
        exact .inl ⟨by rw [HHV.out]; exact decide_eq_true hin, by rw [hk']; omega⟩
      · exact .inr ⟨by rw [HHV.out]; exact decide_eq_false hin, by rw [whR_neg hin]; omega⟩
    rw [hkw] at hwh
    clear hkw HHV
    rcases hkv with ⟨rfl, hkw0⟩ | ⟨rfl, hkw0⟩
    all_goals
      skip

      clear hSx
      go_wp2_with fail
      refine hwh.mono ?_
      rintro e V10 ⟨rfl, hx10⟩
      have HLE := hid_of (HL9.out V10 hx10)
      clear hx10 hwh HL9
      dsimp only
      go_wp2_with fail
      refine ⟨rfl, rfl, ⟨rfl, rfl, rfl, i + 1, by omega, ?_, HLE⟩, ?_⟩
      · show Value.int .i64 _ = _
        go_num
      · show len - (intOf (Value.int .i64 _)).toNat < len - (intOf (F 5)).toNat
        rw [H5.out]
        simp [intOf]; omega

end Go.Proofs.Qxb6500789a
