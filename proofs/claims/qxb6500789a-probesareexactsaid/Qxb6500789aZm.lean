import Derived.Test.Qxb6500789aZl
import Derived.StillTailTactics
import Derived.Deep.QuietTactic
import Derived.BigQuiet
import Derived.Deep.RegionHeld
import Derived.Deep.CutRange
import Derived.Laws.ResultCell
import Derived.Laws.Rows
import Derived.DeepKeys
import Derived.DataBytes
import Derived.Laws.StructEq
import Derived.Laws.AppendOwn
import Derived.Laws.MakeOwn
import Derived.Lib.AppendStr
set_option linter.unusedSimpArgs false
set_option linter.unusedVariables false
namespace Go.Proofs.Qxb6500789a
open Go.RowKit Go.Blk
attribute [local go_sem ↓] execOp_load execOp_store execOp_alloc
attribute [local go_sem] Try.ld29 Try.st29 Try.ld3 Try.st3 Try.ld9 Try.st9 Try.ld30 Try.st30 Try.ld34 Try.st34 Try.ld35 Try.st35 Try.ld36 Try.st36 Try.ld37 Try.st37 Try.ld44 Try.st44 Try.ld45 Try.st45 Try.ld54 Try.st54 Try.ld55 Try.st55 Try.ld74 Try.st74 Try.ld80 Try.st80 Try.ld84 Try.st84 Try.ld106 Try.st106 Try.ld107 Try.st107 Try.ld4 Try.st4 Try.ld121 Try.st121 Try.ld2 Try.st2 Try.ld5 Try.st5 Try.ld12 Try.st12 Try.ld21 Try.st21 Try.ld22 Try.st22 Try.ld24 Try.st24 Try.ld26 Try.st26 Try.ld63 Try.st63 Try.ld71 Try.st71 Try.ld103 Try.st103 Try.ld130 Try.st130 Try.ld133 Try.st133 Try.ld140 Try.st140 Try.ld152 Try.st152 Try.ld39 Try.st39 Try.ld32 Try.st32 Try.ld41 Try.st41 Try.ld47 Try.st47 Try.ld57 Try.st57 Try.ld62 Try.st62 Try.ld76 Try.st76 Try.ld82 Try.st82 Try.ld86 Try.st86 Try.ld109 Try.st109 Try.ld115 Try.st115 Try.ld123 Try.st123 Try.ld135 Try.st135 Try.al39 Try.al32 Try.al41 Try.al47 Try.al57 Try.al62 Try.al76 Try.al82 Try.al86 Try.al109 Try.al115 Try.al123 Try.al135
attribute [local go_sem] Answer.length_enc Answer.ok_enc Answer.all_get Answer.all_set Answer.code_get Answer.code_set Answer.n_get Answer.n_set Answer.name_get Answer.name_set Answer.rows_get Answer.rows_set GOp.length_enc GOp.ok_enc GOp.all_get GOp.all_set GOp.kind_get GOp.kind_set GOp.rel_get GOp.rel_set GOp.mask_get GOp.mask_set GOp.t_get GOp.t_set GOp.n_get GOp.n_set GOp.name_get GOp.name_set Store.length_enc Store.ok_enc Store.all_get Store.all_set Store.names_get Store.names_set Store.rels_get Store.rels_set GRel.length_enc GRel.ok_enc GRel.all_get GRel.all_set GRel.arity_get GRel.arity_set GRel.masks_get GRel.masks_set GRel.rows_get GRel.rows_set Row.length_enc Row.ok_enc Row.all_get Row.all_set Row.t_get Row.t_set Row.mark_get Row.mark_set View.length_enc View.ok_enc View.all_get View.all_set View.names_get View.names_set View.rels_get View.rels_set Symtab.length_enc Symtab.ok_enc Symtab.all_get Symtab.all_set Symtab.names_get Symtab.names_set Symtab.table_get Symtab.table_set StoreTuplestore.length_enc StoreTuplestore.ok_enc StoreTuplestore.all_get StoreTuplestore.all_set StoreTuplestore.syms_get StoreTuplestore.syms_set StoreTuplestore.rels_get StoreTuplestore.rels_set StoreTuplestore.syms_names_get StoreTuplestore.syms_names_set StoreTuplestore.syms_table_get StoreTuplestore.syms_table_set Relation.length_enc Relation.ok_enc Relation.all_get Relation.all_set Relation.arity_get Relation.arity_set Relation.slots_get Relation.slots_set Relation.live_get Relation.live_set Relation.idx_get Relation.idx_set Slot.length_enc Slot.ok_enc Slot.all_get Slot.all_set Slot.t_get Slot.t_set Slot.mark_get Slot.mark_set Slot.live_get Slot.live_set RelView.length_enc RelView.ok_enc RelView.all_get RelView.all_set RelView.arity_get RelView.arity_set RelView.rows_get RelView.rows_set RelView.marks_get RelView.marks_set RelView.indexed_get RelView.indexed_set Index.length_enc Index.ok_enc Index.all_get Index.all_set Index.mask_get Index.mask_set Index.heads_get Index.heads_set Index.next_get Index.next_set
attribute [local go_sem] size_put size_ext blk_put free_put blk_alloc free_alloc blk_drew free_drew blk_ext free_ext lookOr_some putOr_some segAt_some cellAt_some storeIn_some put_put put_alloc_new length_arr ok_arr_u8 ok_arr_u32 ok_arr_u64 ok_arr_i64 ok_arr_sl cellsV_agg cellsV_int cellsV_bool cellsV_string cellsV_pointer cellsV_slice cellsV_sl ok_int ok_bool ok_string ok_pointer ok_slice ok_sl toList_arr seg_arr set_arr nth_splice nth_splice0 seg_splice seg_splice0 splice_splice splice_splice0 length_splice_if
attribute [local go_sem ↓] execOp_box
attribute [local go_sem] box_run nth_arr_u8 put_arr_u8 blk_drewN free_drewN put_drewN blk_raw free_raw
attribute [local go_sem] v_len v_ok v_n0 v_n1 v_s0 v_s1 v_all v_put
attribute [local go_sem ↓] execOp_build
theorem b41 (w : World) (a b : Int) : (buildOp 41 #[(0, .int .i64 5), (1, .int .i64 a), (2, .int .i64 b)]).run Try.prog w = .ok (.value (.agg (GOp.enc ⟨5, a, b, tup0, 0, ByteArray.empty⟩).toArray)) w := by kernel_rfl
attribute [local go_sem] b41
theorem play_kind5 {st st' : StS} {op : GOp} {A : Answer} {ts : List Tup} (h : PlayR st op st' A ts) (hk : op.kind = 5) : A = ans (hasIxF st op.rel op.mask).2 (if (hasIxF st op.rel op.mask).1 then 1 else 0) ∧ st' = st := by
  cases h with
  | hasIx h => exact ⟨rfl, rfl⟩
  | bad h => exact (h 5 (by omega) hk).elim
  | _ => exfalso; omega
def l3I (W0 : World) (a : Option Addr) (len cap B bs bm : Nat) (f : Nat → Value) (W : World) : Prop := f 0 = .slice a len cap ∧ f 3 = .pointer (some ⟨bs, 0, none⟩) ∧ f 4 = .pointer (some ⟨bm, 0, none⟩) ∧ ∃ i : Nat, i ≤ len ∧ f 5 = .int .i64 (i : Nat) ∧ Hid (L4 W0 B bs bm W)
def l3N (W0 : World) (bs bm nn : Nat) (f : Nat → Value) (W : World) : Prop := f 3 = .pointer (some ⟨bs, 0, none⟩) ∧ f 4 = .pointer (some ⟨bm, 0, none⟩) ∧ W = W0 ∧ ∃ y : Nat, y ≤ nn ∧ f 6 = .int .i64 (y : Nat)
def l3R (W0 : World) (B bs bm rn : Nat) (st sm : StS) (f : Nat → Value) (W : World) : Prop := f 3 = .pointer (some ⟨bs, 0, none⟩) ∧ f 4 = .pointer (some ⟨bm, 0, none⟩) ∧ (∃ n : Nat, n ≤ rn ∧ f 9 = .int .i64 (n : Nat)) ∧ Hid (∃ O, JM W0 B bs bm O W st sm)
def l3M (W0 : World) (B bs bm n ar wn : Nat) (st sm : StS) (f : Nat → Value) (W : World) : Prop := f 3 = .pointer (some ⟨bs, 0, none⟩) ∧ f 4 = .pointer (some ⟨bm, 0, none⟩) ∧ f 9 = .int .i64 (n : Nat) ∧ f 10 = .int .i64 (ar : Nat) ∧ (∃ j : Nat, j ≤ wn ∧ f 14 = .int .i64 (j : Nat)) ∧ Hid (∃ O, JM W0 B bs bm O W st sm)
def l3X (W0 : World) (B bs bm n ar K : Nat) (st sm : StS) (f : Nat → Value) (W : World) : Prop := f 3 = .pointer (some ⟨bs, 0, none⟩) ∧ f 4 = .pointer (some ⟨bm, 0, none⟩) ∧ f 9 = .int .i64 (n : Nat) ∧ f 10 = .int .i64 (ar : Nat) ∧ (∃ m : Nat, m ≤ K ∧ f 17 = .int .i64 (m : Nat)) ∧ Hid (∃ O, JM W0 B bs bm O W st sm)
set_option maxRecDepth 100000 in
theorem frame204 (f : Nat → Value) : frameN 204 f = #[f 0, f 1, f 2, f 3, f 4, f 5, f 6, f 7, f 8, f 9, f 10, f 11, f 12, f 13, f 14, f 15, f 16, f 17, f 18, f 19, f 20, f 21, f 22, f 23, f 24, f 25, f 26, f 27, f 28, f 29, f 30, f 31, f 32, f 33, f 34, f 35, f 36, f 37, f 38, f 39, f 40, f 41, f 42, f 43, f 44, f 45, f 46, f 47, f 48, f 49, f 50, f 51, f 52, f 53, f 54, f 55, f 56, f 57, f 58, f 59, f 60, f 61, f 62, f 63, f 64, f 65, f 66, f 67, f 68, f 69, f 70, f 71, f 72, f 73, f 74, f 75, f 76, f 77, f 78, f 79, f 80, f 81, f 82, f 83, f 84, f 85, f 86, f 87, f 88, f 89, f 90, f 91, f 92, f 93, f 94, f 95, f 96, f 97, f 98, f 99, f 100, f 101, f 102, f 103, f 104, f 105, f 106, f 107, f 108, f 109, f 110, f 111, f 112, f 113, f 114, f 115, f 116, f 117, f 118, f 119, f 120, f 121, f 122, f 123, f 124, f 125, f 126, f 127, f 128, f 129, f 130, f 131, f 132, f 133, f 134, f 135, f 136, f 137, f 138, f 139, f 140, f 141, f 142, f 143, f 144, f 145, f 146, f 147, f 148, f 149, f 150, f 151, f 152, f 153, f 154, f 155, f 156, f 157, f 158, f 159, f 160, f 161, f 162, f 163, f 164, f 165, f 166, f 167, f 168, f 169, f 170, f 171, f 172, f 173, f 174, f 175, f 176, f 177, f 178, f 179, f 180, f 181, f 182, f 183, f 184, f 185, f 186, f 187, f 188, f 189, f 190, f 191, f 192, f 193, f 194, f 195, f 196, f 197, f 198, f 199, f 200, f 201, f 202, f 203] := by kernel_rfl
set_option maxRecDepth 20000 in
set_option maxHeartbeats 4000000 in
theorem law3_any (W : World) (a : Option Addr) (len cap : Nat) (g : Nat → GOp) (hS : ScriptAt W a len cap g) :
    Calls Try.prog 3 #[.slice a len cap] W fun e W' => e = .returned (.bool true) ∧ W.Extends W' := by
  have HS : Hid (ScriptAt W a len cap g) := hS
  have hm : len ≤ 9223372036854775807 := by have := hS.1; have := hS.2.1; simp only [maxLen] at this; omega
  have hsm := small_any W a len cap g hS
  clear hS
  go_enter Try.func3, Try.ntmps3
  go_wp2_with fail
  refine hsm.mono ?_
  rintro e W1 ⟨⟨r, rfl, hr⟩, rfl⟩
  cases r with
  | false =>
    dsimp only
    go_wp2_with fail
    go_ret
    exact ⟨rfl, ext_Ext (Ext.refl _)⟩
  | true =>
  obtain ⟨hlen, hnames⟩ := hr rfl
  have HNAM : Hid (∀ i, i < len → (g i).name.size ≤ 65536) := hnames
  clear hr hnames hsm
  dsimp only
  go_wp2_with fail
  refine (newS_any W1.heap.size (fun _ => .no) W1 (Nat.le_refl _)).mono ?_
  rintro e W2 ⟨bs, O2, rfl, hx2, hk2, hbs, hst2⟩
  have hjn := j_new (B := W1.heap.size) rfl hst2 hx2 (fun k hk => hk2 k hk)
  clear hx2 hk2 hbs hst2
  dsimp only
  go_wp2_with fail
  refine hjn.mono ?_
  rintro e W3 ⟨bm, rfl, O3, hj3⟩
  obtain ⟨B, hB⟩ : ∃ B, B = W1.heap.size := ⟨_, rfl⟩
  rw [← hB] at hj3
  have HLI : Hid (L4 W1 B bs bm W3) := ⟨O3, _, _, hj3, Eqv.nil, RowsOk.nil⟩
  clear hB hj3 hjn
  dsimp only
  go_wp2_with fail
  refine wp_loop_f 204 (l3I W1 a len cap B bs bm) (fun f _ => len - (intOf (f 5)).toNat) rfl ⟨rfl, rfl, rfl, 0, by omega, rfl, HLI⟩ ?_
  clear HLI
  intro F V hrel
  obtain ⟨f0, f3, f4, i, hi, f5, HLI⟩ := hrel
  have H5 := hid_of f5
  rw [frame204, f0, f3, f4, f5]
  clear f0 f3 f4 f5
  by_cases hil : i < len
  · have hil' : (i : Int) < (len : Int) := by omega
    obtain ⟨O, st, sm, hJ, hE, hRO⟩ := HLI.out
    obtain ⟨b, o, C, rfl, hC, hlC, hseg⟩ := (HS.out.mono hJ.x).2.2.2 (by omega)
    obtain ⟨hC1, hbW⟩ : blk W1 b = some C ∧ b < W1.heap.size := by
      obtain ⟨b', o', C', e1, e2, _⟩ := HS.out.2.2.2 (by omega)
      injection e1 with e1
      injection e1 with e1
      have h2 := (hJ.x.blk (blk_lt e2)).trans e2
      rw [← e1, hC] at h2
      rw [← e1] at e2
      have := Option.some.inj h2
      rw [this]
      exact ⟨e2, blk_lt e2⟩
    have hs := hseg i hil
    obtain ⟨op, hop⟩ : ∃ op, op = g i := ⟨_, rfl⟩
    rw [← hop] at hs
    have hmask : op.mask ≤ 9223372036854775807 := by rw [hop]; exact (HS.out.2.2.1 i hil).2.1
    have hnm : (nmO op).length ≤ 1000000 := by
      have := HNAM.out i hil
      rw [← hop] at this
      unfold nmO
      have h2 : op.name.data.toList.length = op.name.size := Array.length_toList
      omega
    have hle : (i + 1) * 9 ≤ len * 9 := Nat.mul_le_mul_right _ (by omega)
    have q0 : (0 : Int) ≤ (i : Int) := by omega
    have q2 : ((i : Int)).toNat = i := by omega
    have q3 : o + i * 9 + 9 ≤ C.length := by omega
    have q4 : o + i * 9 < C.length := by omega
    have hd : V.Extends V.drew := extends_drew (ext_Ext (Ext.refl _))
    have hJd := hJ.ext hd
    have hmsm := hJ.s.msm hE
    have hsml : ∀ st' A ts, PlayR st op st' A ts → ts.length ≤ 10000 := fun st' A ts h => play_small hJ.s h
    have hplay := j_play hJd op hmask hnm
    have hSx : ∀ V', W1.Extends V' → blk V' b = some C := fun V' hx => (hx.blk hbW).trans hC1
    have HSX := hid_of hSx
    have HE := hid_of hE
    have HRO := hid_of hRO
    have HND : Hid (∀ id, ((rowsS st id).map (·.1)).Nodup) := fun id => hJ.s.nodup id
    have HMSM := hid_of hmsm
    have HSML := hid_of hsml
    clear hseg hlC hle hop hJ hE hRO HLI hJd hd hmsm hsml hSx hil hC1 hbW
    go_upto_region 7 with fail
    have hS7 : blk V b = some C := hC
    refine wp_region_held_drew (S := fun W' => blk W' b = some C) (by kernel_rfl) hC (fun hHeld => ?_)
    refine wpAnyH_take (i := 0) (oi := ⟨_, _, _, _, _, _⟩) (v := ?_) rfl (by kernel_rfl) (by kernel_rfl) (by kernel_rfl) (fun _ _ _ h => h) (Or.inl ⟨by rfl, ?_⟩) (by assumption) ?_
    rotate_left 1
    · intro W' hSw
      go_simp
      try with_reducible rfl
    try simp only [Act.put, List.setIfInBounds_toArray, List.set_cons_zero, List.set_cons_succ]
    refine wpAnyH_take (i := 1) (oi := ⟨_, _, _, _, _, _⟩) (v := ?_) rfl (by kernel_rfl) (by kernel_rfl) (by kernel_rfl) (fun _ _ _ h => h) (Or.inl ⟨by rfl, ?_⟩) (by assumption) ?_
    rotate_left 1
    · intro W' hSw
      go_simp
      try with_reducible rfl
    try simp only [Act.put, List.setIfInBounds_toArray, List.set_cons_zero, List.set_cons_succ]
    refine wpAnyH_take (i := 2) (oi := ⟨_, _, _, _, _, _⟩) (v := ?_) rfl (by kernel_rfl) (by kernel_rfl) (by kernel_rfl) (fun _ _ _ h => h) (Or.inl ⟨by rfl, ?_⟩) (by assumption) ?_
    rotate_left 1
    · intro W' hSw
      go_simp
      try with_reducible rfl
    try simp only [Act.put, List.setIfInBounds_toArray, List.set_cons_zero, List.set_cons_succ]
    refine wpAnyH_take (i := 3) (oi := ⟨_, _, _, _, _, _⟩) (v := ?_) rfl (by kernel_rfl) (by kernel_rfl) (by kernel_rfl) (fun _ _ _ h => h) (Or.inl ⟨by rfl, ?_⟩) (by assumption) ?_
    rotate_left 1
    · intro W' hSw
      go_simp
      try with_reducible rfl
    try simp only [Act.put, List.setIfInBounds_toArray, List.set_cons_zero, List.set_cons_succ]
    refine wpAnyH_take (i := 4) (oi := ⟨_, _, _, _, _, _⟩) (v := ?_) rfl (by kernel_rfl) (by kernel_rfl) (by kernel_rfl) (fun _ _ _ h => h) (Or.inl ⟨by rfl, ?_⟩) (by assumption) ?_
    rotate_left 1
    · intro W' hSw
      go_simp
      try with_reducible rfl
    try simp only [Act.put, List.setIfInBounds_toArray, List.set_cons_zero, List.set_cons_succ]
    refine wpAnyH_take (i := 6) (oi := ⟨_, _, _, _, _, _⟩) (v := ?_) rfl (by kernel_rfl) (by kernel_rfl) (by kernel_rfl) (fun _ _ _ h => h) (Or.inl ⟨by rfl, ?_⟩) (by assumption) ?_
    rotate_left 1
    · intro W' hSw
      go_simp
      try with_reducible rfl
    try simp only [Act.put, List.setIfInBounds_toArray, List.set_cons_zero, List.set_cons_succ]
    refine wpAnyH_take (i := 7) (oi := ⟨_, _, _, _, _, _⟩) (v := ?_) rfl (by kernel_rfl) (by kernel_rfl) (by kernel_rfl) (fun _ _ _ h => h) (Or.inl ⟨by rfl, ?_⟩) (by assumption) ?_
    rotate_left 1
    · intro W' hSw
      go_simp
      try with_reducible rfl
    try simp only [Act.put, List.setIfInBounds_toArray, List.set_cons_zero, List.set_cons_succ]
    refine wpAnyH_take (i := 8) (oi := ⟨_, _, _, _, _, _⟩) (v := ?_) rfl (by kernel_rfl) (by kernel_rfl) (by kernel_rfl) (fun _ _ _ h => h) (Or.inl ⟨by rfl, ?_⟩) (by assumption) ?_
    rotate_left 1
    · intro W' hSw
      go_simp
      try with_reducible rfl
    try simp only [Act.put, List.setIfInBounds_toArray, List.set_cons_zero, List.set_cons_succ]
    refine wpAnyH_take (i := 9) (oi := ⟨_, _, _, _, _, _⟩) (v := ?_) rfl (by kernel_rfl) (by kernel_rfl) (by kernel_rfl) (fun _ _ _ h => h) (Or.inl ⟨by rfl, ?_⟩) (by assumption) ?_
    rotate_left 1
    · intro W' hSw
      go_simp
      try with_reducible rfl
    try simp only [Act.put, List.setIfInBounds_toArray, List.set_cons_zero, List.set_cons_succ]
    refine wpAnyH_take (i := 10) (oi := ⟨_, _, _, _, _, _⟩) (v := ?_) rfl (by kernel_rfl) (by kernel_rfl) (by kernel_rfl) (fun _ _ _ h => h) (Or.inl ⟨by rfl, ?_⟩) (by assumption) ?_
    rotate_left 1
    · intro W' hSw
      go_simp
      try with_reducible rfl
    try simp only [Act.put, List.setIfInBounds_toArray, List.set_cons_zero, List.set_cons_succ]
    refine wpAnyH_ready (rs := [5]) (by kernel_rfl) (by simp) ?_
    refine AllReadyH.cons (o := ⟨_, _, _, _, _, _⟩) rfl (fun K' hK => ?_) AllReadyH.nil
    go_simp
    refine hplay.mono ?_
    rintro e V1 ⟨A, rfl, O1, st1, ts1, hJ1, hr1, hP1, hK1, hz1⟩
    have hst := j_step hJ1 HMSM.out op hnm
    have H1 := hid_of (And.intro hr1 (And.intro hP1 hJ1.s))
    have hb1 := HSX.out V1 hJ1.x
    clear hr1 hP1 hJ1 hK1 hz1 hplay
    dsimp only
    refine hK.out _ _ hb1 (fun hHeld => ?_)
    clear hK K'
    try simp only [Act.put, List.setIfInBounds_toArray, List.set_cons_zero, List.set_cons_succ]
    refine wpAnyH_ready (rs := [11]) (by kernel_rfl) (by simp) ?_
    refine AllReadyH.cons (o := ⟨_, _, _, _, _, _⟩) rfl (fun K' hK => ?_) AllReadyH.nil
    go_simp
    refine hst.mono ?_
    rintro e V2 ⟨A2, rfl, O2, sm2, ts2, hJ2, hr2, hP2, hK2, hz2⟩
    obtain ⟨hr1, hP1, _⟩ := H1.out
    obtain ⟨hE2, e1, e2, e3, hpm⟩ := play_det HE.out HND.out hP1 hP2
    have hsa := sameAnswer_eq V2 A A2 ts1 ts2 (rows_rw (hK2.row hr1)) (rows_rw hr2) e1 e2 e3 hpm (HSML.out _ _ _ hP1)
    have HL2 : Hid (∀ V3, V2.Extends V3 → L4 W1 B bs bm V3) := fun V3 hx => ⟨O2, st1, sm2, hJ2.ext hx, hE2, rowsOk_step HRO.out hP1⟩
    have hb2 := HSX.out V2 hJ2.x
    have hb2x : ∀ V3, V2.Extends V3 → blk V3 b = some C := fun V3 hx => (hx.blk (blk_lt hb2)).trans hb2
    have HB2 := hid_of hb2x
    clear hr1 hP1 H1 hr2 hP2 hK2 hz2 hE2 e1 e2 e3 hpm hJ2 hst hb2x
    dsimp only
    refine hK.out _ _ hb2 (fun hHeld => ?_)
    clear hK K'
    try simp only [Act.put, List.setIfInBounds_toArray, List.set_cons_zero, List.set_cons_succ]
    refine wpAnyH_ready (rs := [12]) (by kernel_rfl) (by simp) ?_
    refine AllReadyH.cons (o := ⟨_, _, _, _, _, _⟩) rfl (fun K' hK => ?_) AllReadyH.nil
    go_simp
    refine hsa.mono ?_
    rintro e V3 ⟨rfl, hx3⟩
    have HLE := hid_of (HL2.out V3 hx3)
    have hb3 := HB2.out V3 hx3
    clear hx3 hsa HL2 HB2
    dsimp only
    refine hK.out _ _ hb3 (fun hHeld => ?_)
    clear hK K'
    try simp only [Act.put, List.setIfInBounds_toArray, List.set_cons_zero, List.set_cons_succ]
    refine wpAnyH_take (i := 13) (oi := ⟨_, _, _, _, _, _⟩) (v := ?_) rfl (by kernel_rfl) (by kernel_rfl) (by kernel_rfl) (fun _ _ _ h => h) (Or.inl ⟨by rfl, ?_⟩) (by assumption) ?_
    rotate_left 1
    · intro W' hSw
      go_simp
      try with_reducible rfl
    try simp only [Act.put, List.setIfInBounds_toArray, List.set_cons_zero, List.set_cons_succ]
    refine wpAnyH_done (by kernel_rfl) ?_ _
    go_wp2_with fail
    refine ⟨rfl, rfl, ⟨rfl, rfl, rfl, i + 1, by omega, ?_, HLE⟩, ?_⟩
    · show Value.int .i64 _ = _
      go_num
    · show len - (intOf (Value.int .i64 _)).toNat < len - (intOf (F 5)).toNat
      rw [H5.out]
      simp [intOf]; omega
  · obtain rfl : i = len := by omega
    have hil' : ¬ (i : Int) < (i : Int) := by omega
    obtain ⟨O, st, sm, hJ, hE, hRO⟩ := HLI.out
    have hsy := symsS_any B O V.drew bs st (hJ.s.ext (extends_drew (ext_Ext (Ext.refl _))))
    have hre := relsS_any B O V.drew bs st (hJ.s.ext (extends_drew (ext_Ext (Ext.refl _))))
    obtain ⟨na, nn, nc, ra, rn, rc, hb, _, hrn, hnn, hrw⟩ := mat_bad hJ.m
    have hnn2 : (st.names.length : Int) = (nn : Int) := by rw [hnn, hE.names]
    have hrn2 : (st.rels.length : Int) = (rn : Int) := by rw [hrn, hE.len]
    rw [hnn2] at hsy
    rw [hrn2] at hre
    have hbd : blk V.drew bm = some (vE na nn nc ra rn rc) := hb
    have HJ := hid_of hJ
    have HE := hid_of hE
    have HRO := hid_of hRO
    have HNN := hid_of hnn
    have HRN := hid_of hrn
    have HRW := hid_of hrw
    have hcap : nn ≤ 256 ∧ rn ≤ 192 := by have := hJ.s.caps 0; omega
    obtain ⟨hn256, hr192⟩ := hcap
    clear hJ hE hRO HLI hnn hrn hrw hnn2 hrn2 hi hil
    go_upto_region 9 with fail
    refine wp_region_held_drew (S := fun W' => blk W' bm = some (vE na nn nc ra rn rc)) (by kernel_rfl) hbd (fun hHeld => ?_)
    refine wpAnyH_take (i := 0) (oi := ⟨_, _, _, _, _, _⟩) (v := ?_) rfl (by kernel_rfl) (by kernel_rfl) (by kernel_rfl) (fun _ _ _ h => h) (Or.inl ⟨by rfl, ?_⟩) (by assumption) ?_
    rotate_left 1
    · intro W' hSw
      go_simp
      try with_reducible rfl
    try simp only [Act.put, List.setIfInBounds_toArray, List.set_cons_zero, List.set_cons_succ]
    refine wpAnyH_take (i := 2) (oi := ⟨_, _, _, _, _, _⟩) (v := ?_) rfl (by kernel_rfl) (by kernel_rfl) (by kernel_rfl) (fun _ _ _ h => h) (Or.inl ⟨by rfl, ?_⟩) (by assumption) ?_
    rotate_left 1
    · intro W' hSw
      go_simp
      try with_reducible rfl
    try simp only [Act.put, List.setIfInBounds_toArray, List.set_cons_zero, List.set_cons_succ]
    refine wpAnyH_take (i := 3) (oi := ⟨_, _, _, _, _, _⟩) (v := ?_) rfl (by kernel_rfl) (by kernel_rfl) (by kernel_rfl) (fun _ _ _ h => h) (Or.inl ⟨by rfl, ?_⟩) (by assumption) ?_
    rotate_left 1
    · intro W' hSw
      go_simp
      try with_reducible rfl
    try simp only [Act.put, List.setIfInBounds_toArray, List.set_cons_zero, List.set_cons_succ]
    refine wpAnyH_take (i := 4) (oi := ⟨_, _, _, _, _, _⟩) (v := ?_) rfl (by kernel_rfl) (by kernel_rfl) (by kernel_rfl) (fun _ _ _ h => h) (Or.inl ⟨by rfl, ?_⟩) (by assumption) ?_
    rotate_left 1
    · intro W' hSw
      go_simp
      try with_reducible rfl
    try simp only [Act.put, List.setIfInBounds_toArray, List.set_cons_zero, List.set_cons_succ]
    refine wpAnyH_take (i := 5) (oi := ⟨_, _, _, _, _, _⟩) (v := ?_) rfl (by kernel_rfl) (by kernel_rfl) (by kernel_rfl) (fun _ _ _ h => h) (Or.inl ⟨by rfl, ?_⟩) (by assumption) ?_
    rotate_left 1
    · intro W' hSw
      go_simp
      try with_reducible rfl
    try simp only [Act.put, List.setIfInBounds_toArray, List.set_cons_zero, List.set_cons_succ]
    refine wpAnyH_take (i := 6) (oi := ⟨_, _, _, _, _, _⟩) (v := ?_) rfl (by kernel_rfl) (by kernel_rfl) (by kernel_rfl) (fun _ _ _ h => h) (Or.inl ⟨by rfl, ?_⟩) (by assumption) ?_
    rotate_left 1
    · intro W' hSw
      go_simp
      try with_reducible rfl
    try simp only [Act.put, List.setIfInBounds_toArray, List.set_cons_zero, List.set_cons_succ]
    refine wpAnyH_ready (rs := [1]) (by kernel_rfl) (by simp) ?_
    refine AllReadyH.cons (o := ⟨_, _, _, _, _, _⟩) rfl (fun K' hK => ?_) AllReadyH.nil
    go_simp
    refine hsy.mono ?_
    rintro e V1 ⟨rfl, rfl⟩
    dsimp only
    refine hK.out _ _ hbd (fun hHeld => ?_)
    clear hK K'
    try simp only [Act.put, List.setIfInBounds_toArray, List.set_cons_zero, List.set_cons_succ]
    refine wpAnyH_take (i := 7) (oi := ⟨_, _, _, _, _, _⟩) (v := ?_) rfl (by kernel_rfl) (by kernel_rfl) (by kernel_rfl) (fun _ _ _ h => h) (Or.inl ⟨by rfl, ?_⟩) (by assumption) ?_
    rotate_left 1
    · intro W' hSw
      go_simp
      try with_reducible rfl
    try simp only [Act.put, List.setIfInBounds_toArray, List.set_cons_zero, List.set_cons_succ]
    refine wpAnyH_take (i := 8) (oi := ⟨_, _, _, _, _, _⟩) (v := ?_) rfl (by kernel_rfl) (by kernel_rfl) (by kernel_rfl) (fun _ _ _ h => h) (Or.inl ⟨by rfl, ?_⟩) (by assumption) ?_
    rotate_left 1
    · intro W' hSw
      go_simp
      try with_reducible rfl
    try simp only [Act.put, List.setIfInBounds_toArray, List.set_cons_zero, List.set_cons_succ]
    refine wpAnyH_take (i := 9) (oi := ⟨_, _, _, _, _, _⟩) (v := ?_) rfl (by kernel_rfl) (by kernel_rfl) (by kernel_rfl) (fun _ _ _ h => h) (Or.inl ⟨by rfl, ?_⟩) (by assumption) ?_
    rotate_left 1
    · intro W' hSw
      go_simp
      try with_reducible rfl
    try simp only [Act.put, List.setIfInBounds_toArray, List.set_cons_zero, List.set_cons_succ]
    refine wpAnyH_take (i := 11) (oi := ⟨_, _, _, _, _, _⟩) (v := ?_) rfl (by kernel_rfl) (by kernel_rfl) (by kernel_rfl) (fun _ _ _ h => h) (Or.inl ⟨by rfl, ?_⟩) (by assumption) ?_
    rotate_left 1
    · intro W' hSw
      go_simp
      try with_reducible rfl
    try simp only [Act.put, List.setIfInBounds_toArray, List.set_cons_zero, List.set_cons_succ]
    refine wpAnyH_take (i := 12) (oi := ⟨_, _, _, _, _, _⟩) (v := ?_) rfl (by kernel_rfl) (by kernel_rfl) (by kernel_rfl) (fun _ _ _ h => h) (Or.inl ⟨by rfl, ?_⟩) (by assumption) ?_
    rotate_left 1
    · intro W' hSw
      go_simp
      try with_reducible rfl
    try simp only [Act.put, List.setIfInBounds_toArray, List.set_cons_zero, List.set_cons_succ]
    refine wpAnyH_take (i := 13) (oi := ⟨_, _, _, _, _, _⟩) (v := ?_) rfl (by kernel_rfl) (by kernel_rfl) (by kernel_rfl) (fun _ _ _ h => h) (Or.inl ⟨by rfl, ?_⟩) (by assumption) ?_
    rotate_left 1
    · intro W' hSw
      go_simp
      try with_reducible rfl
    try simp only [Act.put, List.setIfInBounds_toArray, List.set_cons_zero, List.set_cons_succ]
    refine wpAnyH_take (i := 14) (oi := ⟨_, _, _, _, _, _⟩) (v := ?_) rfl (by kernel_rfl) (by kernel_rfl) (by kernel_rfl) (fun _ _ _ h => h) (Or.inl ⟨by rfl, ?_⟩) (by assumption) ?_
    rotate_left 1
    · intro W' hSw
      go_simp
      try with_reducible rfl
    try simp only [Act.put, List.setIfInBounds_toArray, List.set_cons_zero, List.set_cons_succ]
    refine wpAnyH_take (i := 15) (oi := ⟨_, _, _, _, _, _⟩) (v := ?_) rfl (by kernel_rfl) (by kernel_rfl) (by kernel_rfl) (fun _ _ _ h => h) (Or.inl ⟨by rfl, ?_⟩) (by assumption) ?_
    rotate_left 1
    · intro W' hSw
      go_simp
      try with_reducible rfl
    try simp only [Act.put, List.setIfInBounds_toArray, List.set_cons_zero, List.set_cons_succ]
    refine wpAnyH_ready (rs := [10]) (by kernel_rfl) (by simp) ?_
    refine AllReadyH.cons (o := ⟨_, _, _, _, _, _⟩) rfl (fun K' hK => ?_) AllReadyH.nil
    go_simp
    refine hre.mono ?_
    rintro e V1 ⟨rfl, rfl⟩
    dsimp only
    refine hK.out _ _ hbd (fun hHeld => ?_)
    clear hK K'
    try simp only [Act.put, List.setIfInBounds_toArray, List.set_cons_zero, List.set_cons_succ]
    refine wpAnyH_take (i := 16) (oi := ⟨_, _, _, _, _, _⟩) (v := ?_) rfl (by kernel_rfl) (by kernel_rfl) (by kernel_rfl) (fun _ _ _ h => h) (Or.inl ⟨by rfl, ?_⟩) (by assumption) ?_
    rotate_left 1
    · intro W' hSw
      go_simp
      try with_reducible rfl
    try simp only [Act.put, List.setIfInBounds_toArray, List.set_cons_zero, List.set_cons_succ]
    refine wpAnyH_take (i := 17) (oi := ⟨_, _, _, _, _, _⟩) (v := ?_) rfl (by kernel_rfl) (by kernel_rfl) (by kernel_rfl) (fun _ _ _ h => h) (Or.inl ⟨by rfl, ?_⟩) (by assumption) ?_
    rotate_left 1
    · intro W' hSw
      go_simp
      try with_reducible rfl
    try simp only [Act.put, List.setIfInBounds_toArray, List.set_cons_zero, List.set_cons_succ]
    refine wpAnyH_done (by kernel_rfl) ?_ _
    clear hsy hre
    go_wp2_with fail
    refine wp_loop_f 204 (l3N V.drew bs bm nn) (fun f _ => nn - (intOf (f 6)).toNat) rfl ⟨rfl, rfl, rfl, 0, by omega, rfl⟩ ?_
    intro F1 V1 hrel
    obtain ⟨f3, f4, rfl, y, hy, f6⟩ := hrel
    have H6 := hid_of f6
    rw [frame204, f3, f4, f6]
    clear f3 f4 f6
    by_cases hyn : y < nn
    · have hyn' : (y : Int) < (nn : Int) := by omega
      obtain ⟨x, hx⟩ : ∃ x, sm.names[y]? = some x := ⟨_, List.getElem?_eq_getElem (by rw [← HNN.out]; exact hyn)⟩
      obtain ⟨bn, Cn, rfl, hCn, hcn, _, un⟩ := rw_cell (v := .string ⟨x.toArray⟩) HRW.out hx rfl
      have hns : Calls Try.prog 18 #[.pointer (some ⟨bs, 0, none⟩), .int .i64 (y : Int)] V.drew fun e W' => e = .returned (.tuple #[.string ⟨x.toArray⟩, .int .i64 0]) ∧ W' = V.drew := by
        obtain ⟨ra, rn, rc, hy', _⟩ := (HJ.out.s.ext (extends_drew (ext_Ext (Ext.refl _)) : V.Extends V.drew)).sym
        have := nameS_any B O V.drew bs st.names ra rn rc (y : Int) hy'
        have enm : nameF st.names (y : Int) = (x, 0) := by
          rw [← HE.out.names]
          unfold nameF
          rw [if_pos ⟨by omega, by rw [← HNN.out]; omega⟩, Int.toNat_natCast, List.getD_eq_getElem?_getD, hx]; rfl
        rw [enm] at this
        exact this
      have hCnd : blk V.drew bn = some Cn := hCn
      obtain ⟨sv, hsv⟩ : ∃ sv : ByteArray, sv = ⟨x.toArray⟩ := ⟨_, rfl⟩
      rw [← hsv] at hns un
      have p0 : (0 : Int) ≤ (y : Int) := by omega
      have p2 : ((y : Int)).toNat = y := by omega
      clear hx hsv hCn
      go_wp2_with fail
      refine hns.mono ?_
      rintro e V2 ⟨rfl, rfl⟩
      dsimp only
      go_wp2_with fail
      refine ⟨rfl, rfl, ⟨rfl, rfl, rfl, y + 1, by omega, ?_⟩, ?_⟩
      · show Value.int .i64 _ = _
        go_num
      · show nn - (intOf (Value.int .i64 _)).toNat < nn - (intOf (F1 6)).toNat
        rw [H6.out]
        simp [intOf]; omega
    have hyn' : ¬ (y : Int) < (nn : Int) := by omega
    have HJR : Hid (∃ O, JM W1 B bs bm O V.drew st sm) := ⟨O, HJ.out.ext (extends_drew (ext_Ext (Ext.refl _)))⟩
    clear H6 hy hyn
    go_wp2_with fail
    refine wp_loop_f 204 (l3R W1 B bs bm rn st sm) (fun f _ => rn - (intOf (f 9)).toNat) rfl ⟨rfl, rfl, ⟨0, by omega, rfl⟩, HJR⟩ ?_
    clear HJR HJ hb hbd
    intro F2 V2 hrel
    obtain ⟨f3, f4, ⟨n, hn, f9⟩, HJR⟩ := hrel
    have H9 := hid_of f9
    rw [frame204, f3, f4, f9]
    clear f3 f4 f9
    obtain ⟨O, hJ⟩ := HJR.out
    obtain ⟨na, nn', nc, ra, rn', rc, hb, _, hrn, _, _⟩ := mat_bad hJ.m
    obtain rfl : rn' = rn := by rw [hrn, HRN.out]
    by_cases hnr : n < rn'
    rotate_left 1
    · have hnr' : ¬ (n : Int) < (rn' : Int) := by omega
      have HX := hid_of hJ.x
      clear hJ HJR hrn hnr
      go_wp2_with fail
      go_ret
      exact ⟨rfl, HX.out⟩
    have hnr' : (n : Int) < (rn' : Int) := by omega
    obtain ⟨s', hs'⟩ : ∃ s', sm.rels[n]? = some s' := ⟨_, List.getElem?_eq_getElem (by omega)⟩
    obtain ⟨s, hs⟩ : ∃ s, st.rels[n]? = some s := ⟨_, List.getElem?_eq_getElem (by rw [← HE.out.len]; omega)⟩
    have hrel := HE.out.rel n s s' hs hs'
    have hmsm := hJ.s.msm HE.out
    have har4 := (hmsm.rel s' (List.mem_of_getElem? hs')).1
    have h512 := (hmsm.rel s' (List.mem_of_getElem? hs')).2.1
    obtain ⟨na, nn2, nc, gr, rn2, rc, Cr, ka, kn, kc, wa, wn, wc, ho, _, _⟩ := mat_open hJ.m hs'
    have hbb := ho.hb
    rw [hb] at hbb
    have hr2 : rn2 = rn' := by rw [ho.hrn, hrn]
    subst hr2
    have hwl := ho.rows.1
    have hwn : wn ≤ 512 := by omega
    obtain ⟨ar, harr⟩ : ∃ ar, ar = s'.ar := ⟨_, rfl⟩
    have hars := arityS_any B O V2 bs st hJ.s (n : Int)
    have ear : arityF st (n : Int) = ((ar : Int), 0) := by unfold arityF; rw [relF_some hs]; dsimp only; rw [harr, hrel.1]
    rw [ear] at hars
    have hli := listS_any B O V2 bs st hJ.s (n : Int)
    have erc : relCode st (n : Int) = 0 := by unfold relCode; rw [relF_some hs]
    rw [erc] at hli
    have ers : rowsS st (n : Int) = rowsOf s.L := by unfold rowsS; rw [relF_some hs]
    have c0 : nth Cr (n * 3) = some (.int .i64 (ar : Int)) := by rw [harr]; exact ho.c0
    have hbm2 := ho.hb
    have hC2 := ho.bc
    have hl3 := ho.len
    have d0 : n * 3 + 1 ≤ Cr.length := by omega
    have d2 : n * 3 < Cr.length := by omega
    have d3 : n * 3 + 2 + 1 ≤ Cr.length := by omega
    have q0 : (0 : Int) ≤ (n : Int) := by omega
    have q2 : ((n : Int)).toNat = n := by omega
    have c2 := ho.c2
    have HSS := hid_of (And.intro hs (And.intro hs' hrel))
    have HMSM := hid_of hmsm
    have HJ := hid_of hJ
    have HERS := hid_of ers
    have HAR := hid_of harr
    have HW := hid_of ho.rows
    have HWL := hid_of hwl
    have har4' : ar ≤ 4 := by omega
    clear hJ HJR hrn hnr hs hs' hrel hmsm ear erc ers ho hb hbb hl3 hwl h512 harr har4
    go_wp2_with fail
    refine hars.mono ?_
    rintro e V3 ⟨rfl, rfl⟩
    clear hars
    dsimp only
    go_wp2_with fail
    refine hli.mono ?_
    rintro e V4 ⟨a4, n4, c4, ts, rfl, hout, hts⟩
    have hE4 := hout.2.1
    have hbm4 := (hE4.blk (blk_lt hbm2)).trans hbm2
    have hC4 := (hE4.blk (blk_lt hC2)).trans hC2
    have htu := tuplesOf_any B O V4 bm sm (HJ.out.m.ext hE4) HMSM.out n s' HSS.out.2.1
    have HOUT := hid_of hout
    have HTS := hid_of hts
    have hn4 : n4 ≤ 10000 := by
      have := hout.2.2
      rw [this, hts, HERS.out, List.length_map]
      have := (HSS.out.2.2.2.2).length_eq
      have := HWL.out
      omega
    clear hli hout hts hbm2 hC2
    dsimp only
    go_wp2_with fail
    refine htu.mono ?_
    rintro e V5 ⟨a5, n5, c5, rfl, hout5⟩
    have hsb := sameBag_perm V5 a4 n4 c4 a5 n5 c5 ts ((rowsOf s'.L).map (·.1)) ((rw_own tpl_len (HOUT.out.ext hout5.2.1).1).1) hout5.rw' (by rw [HTS.out, HERS.out]; exact HSS.out.2.2.2.2.map _) hn4
    have HE5 := hid_of (hE4.trans hout5.2.1)
    clear htu hout5 hE4 HOUT
    dsimp only
    go_wp2_with fail
    refine hsb.mono ?_
    rintro e V6 ⟨rfl, hx6⟩
    have HJ6 : Hid (∃ O, JM W1 B bs bm O V6 st sm) := ⟨O, HJ.out.ext (HE5.out.trans hx6)⟩
    clear hsb hx6 HE5 HJ hbm4 hC4 HTS
    dsimp only
    go_wp2_with fail
    refine wp_loop_f 204 (l3M W1 B bs bm n ar wn st sm) (fun f _ => wn - (intOf (f 14)).toNat) rfl ⟨rfl, rfl, rfl, rfl, ⟨0, by omega, rfl⟩, HJ6⟩ ?_
    clear HJ6 HW c0 c2 d0 d2 d3
    intro F3 V7 hrel
    obtain ⟨f3, f4, f9, f10, ⟨j, hj, f14⟩, HJ7⟩ := hrel
    have H14 := hid_of f14
    rw [frame204, f3, f4, f9, f10, f14]
    clear f3 f4 f9 f10 f14
    obtain ⟨O, hJ⟩ := HJ7.out
    obtain ⟨hs, hs', hrel⟩ := HSS.out
    obtain ⟨na, nn2, nc, gr, rn3, rc, Cr, ka, kn, kc, wa, wn2, wc, ho, _, _⟩ := mat_open hJ.m hs'
    have hwl2 := ho.rows.1
    obtain rfl : wn2 = wn := by rw [← hwl2, HWL.out]
    have hr3 : rn3 = rn2 := by rw [ho.hrn, ← HRN.out]
    subst hr3
    have hbm := ho.hb
    have hC := ho.bc
    have hl3 := ho.len
    have c2 := ho.c2
    have d2 : n * 3 < Cr.length := by omega
    have d3 : n * 3 + 2 + 1 ≤ Cr.length := by omega
    by_cases hjw : j < wn2
    · have hjw' : (j : Int) < (wn2 : Int) := by omega
      obtain ⟨r, hr⟩ : ∃ r, (rowsOf s'.L)[j]? = some r := ⟨_, List.getElem?_eq_getElem (by omega)⟩
      obtain ⟨bn, Cn, rfl, hCn, hcn, _, un, um, _⟩ := wrow_at ho.rows hr
      have hcode : rowCode sm (n : Int) r.1 = 0 := by
        rw [HE.out.rowCode]
        refine HRO.out (n : Int) r.1 ?_
        rw [HERS.out]
        exact ((hrel.2.2.map (·.1)).mem_iff).1 (List.mem_map.2 ⟨r, List.mem_of_getElem? hr, rfl⟩)
      have emk : markF st (n : Int) r.1 = (r.2, 0) := by
        rw [← HE.out.markF (n : Int) r.1 (hJ.s.nodup (n : Int))]
        exact mark_at hs' hcode (HMSM.out.rel s' (List.mem_of_getElem? hs')).2.2.2 hr
      have hmk := mark_any B O V7 bs st hJ.s (n : Int) r.1
      rw [emk] at hmk
      obtain ⟨x, xm⟩ := r
      dsimp only at un um hmk
      have p0 : (0 : Int) ≤ (j : Int) := by omega
      have p2 : ((j : Int)).toNat = j := by omega
      have p4 : j * 5 + 4 ≤ Cn.length := by omega
      have p5 : j * 5 < Cn.length := by omega
      have p6 : j * 5 + 4 + 1 ≤ Cn.length := by omega
      have HJx := hid_of hJ
      clear hJ HJ7 hs hs' hrel ho hwl2 hr hcode emk hl3 hjw
      go_wp2_with fail
      refine hmk.mono ?_
      rintro e V8 ⟨rfl, hx8⟩
      have hbm8 := (hx8.blk (blk_lt hbm)).trans hbm
      have hC8 := (hx8.blk (blk_lt hC)).trans hC
      have hCn8 := (hx8.blk (blk_lt hCn)).trans hCn
      have HJ8 : Hid (∃ O, JM W1 B bs bm O V8 st sm) := ⟨O, HJx.out.ext hx8⟩
      clear hx8 hmk HJx hbm hC hCn
      dsimp only
      go_wp2_with fail
      refine ⟨rfl, rfl, ⟨rfl, rfl, rfl, rfl, ⟨j + 1, by omega, ?_⟩, HJ8⟩, ?_⟩
      · show Value.int .i64 _ = _
        go_num
      · show wn2 - (intOf (Value.int .i64 _)).toNat < wn2 - (intOf (F3 14)).toNat
        rw [H14.out]
        simp [intOf]; omega
    have hjw' : ¬ (j : Int) < (wn2 : Int) := by omega
    obtain ⟨K, hK, hK16⟩ := shl_ar ar har4'
    have HK := hid_of hK
    clear hJ hs hs' hrel ho hwl2 hl3 hjw hj H14 hK
    go_wp2_with fail
    refine wp_loop_f 204 (l3X W1 B bs bm n ar K st sm) (fun f _ => K - (intOf (f 17)).toNat) rfl ⟨rfl, rfl, rfl, rfl, ⟨0, by omega, rfl⟩, HJ7⟩ ?_
    clear HJ7 hbm hC c2 d2 d3 hjw'
    intro F4 V9 hrel
    obtain ⟨f3, f4, f9, f10, ⟨m, hm', f17⟩, HJ9⟩ := hrel
    have H17 := hid_of f17
    rw [frame204, f3, f4, f9, f10, f17]
    clear f3 f4 f9 f10 f17
    by_cases hmk : m < K
    · have hml' : (m : Int) < wrap64 (2 ^ ar) := by rw [wrap_ar ar har4', ← HK.out]; omega
      obtain ⟨O, hJ⟩ := HJ9.out
      have hhi := hasIxS_any B O V9 bs st hJ.s (n : Int) (m : Int) (by omega)
      obtain ⟨q, hq⟩ : ∃ q, q = hasIxF st (n : Int) (m : Int) := ⟨_, rfl⟩
      rw [← hq] at hhi
      have HQ := hid_of hq
      have hst := j_step hJ HMSM.out ⟨5, (n : Int), (m : Int), tup0, 0, ByteArray.empty⟩ (by show (ByteArray.empty.data.toList).length ≤ _; simp)
      clear hq hJ HJ9
      go_wp2_with fail
      refine hhi.mono ?_
      rintro e V10 ⟨rfl, rfl⟩
      clear hhi
      dsimp only
      go_wp2_with fail
      refine hst.mono ?_
      rintro e V11 ⟨A, rfl, O2, sm2, ts2, hJ2, hr2, hP2, hK2, hz2⟩
      obtain ⟨eA, eS⟩ := play_kind5 hP2 rfl
      subst eS
      have hAn : A.n = if q.1 then 1 else 0 := by rw [eA, HQ.out, ← HE.out.hasIxF]; rfl
      have HJ2 := hid_of hJ2
      clear hst hJ2 hr2 hP2 hK2 hz2 eA
      dsimp only
      go_upto_region 35 with fail
      refine wp_world (fun V12 => blk V12 V11.heap.size = some (Answer.enc A) ∧ V11.Extends V12) ⟨?_, ?_⟩ ?_
      · rw [blk_alloc, if_pos rfl]
      · exact extends_alloc (ext_Ext (Ext.refl _)) _
      rintro V12 ⟨hb20, hx12⟩
      obtain ⟨b20, e20⟩ : ∃ b20, b20 = V11.heap.size := ⟨_, rfl⟩
      rw [← e20] at hb20 ⊢
      have HJE : Hid (∃ O, JM W1 B bs bm O V12.drew st sm2) := ⟨_, (HJ2.out.new hx12).ext (extends_drew (ext_Ext (Ext.refl _)))⟩
      have hfl := flag_any V12.drew q.1
      obtain ⟨fv, hfv⟩ : ∃ fv : Int, fv = if q.1 then 1 else 0 := ⟨_, rfl⟩
      rw [← hfv] at hfl hAn
      have hb20d : blk V12.drew b20 = some (Answer.enc A) := hb20
      clear hfv HJ2 hx12 e20
      refine wp_region_held_drew (S := fun W' => blk W' b20 = some (Answer.enc A)) (by kernel_rfl) hb20d (fun hHeld => ?_)
      refine wpAnyH_take (i := 0) (oi := ⟨_, _, _, _, _, _⟩) (v := ?_) rfl (by kernel_rfl) (by kernel_rfl) (by kernel_rfl) (fun _ _ _ h => h) (Or.inl ⟨by rfl, ?_⟩) (by assumption) ?_
      rotate_left 1
      · intro W' hSw
        go_simp
        try with_reducible rfl
      try simp only [Act.put, List.setIfInBounds_toArray, List.set_cons_zero, List.set_cons_succ]
      refine wpAnyH_take (i := 2) (oi := ⟨_, _, _, _, _, _⟩) (v := ?_) rfl (by kernel_rfl) (by kernel_rfl) (by kernel_rfl) (fun _ _ _ h => h) (Or.inl ⟨by rfl, ?_⟩) (by assumption) ?_
      rotate_left 1
      · intro W' hSw
        go_simp
        try with_reducible rfl
      try simp only [Act.put, List.setIfInBounds_toArray, List.set_cons_zero, List.set_cons_succ]
      refine wpAnyH_take (i := 3) (oi := ⟨_, _, _, _, _, _⟩) (v := ?_) rfl (by kernel_rfl) (by kernel_rfl) (by kernel_rfl) (fun _ _ _ h => h) (Or.inl ⟨by rfl, ?_⟩) (by assumption) ?_
      rotate_left 1
      · intro W' hSw
        go_simp
        try with_reducible rfl
      try simp only [Act.put, List.setIfInBounds_toArray, List.set_cons_zero, List.set_cons_succ]
      refine wpAnyH_ready (rs := [1]) (by kernel_rfl) (by simp) ?_
      refine AllReadyH.cons (o := ⟨_, _, _, _, _, _⟩) rfl (fun K' hK => ?_) AllReadyH.nil
      go_simp
      refine hfl.mono ?_
      rintro e V13 ⟨rfl, rfl⟩
      dsimp only
      refine hK.out _ _ hb20d (fun hHeld => ?_)
      clear hK K'
      try simp only [Act.put, List.setIfInBounds_toArray, List.set_cons_zero, List.set_cons_succ]
      refine wpAnyH_take (i := 4) (oi := ⟨_, _, _, _, _, _⟩) (v := ?_) rfl (by kernel_rfl) (by kernel_rfl) (by kernel_rfl) (fun _ _ _ h => h) (Or.inl ⟨by rfl, ?_⟩) (by assumption) ?_
      rotate_left 1
      · intro W' hSw
        go_simp
        try with_reducible rfl
      try simp only [Act.put, List.setIfInBounds_toArray, List.set_cons_zero, List.set_cons_succ]
      refine wpAnyH_done (by kernel_rfl) ?_ _
      go_wp2_with fail
      refine ⟨rfl, rfl, ⟨rfl, rfl, rfl, rfl, ⟨m + 1, by omega, ?_⟩, HJE⟩, ?_⟩
      · show Value.int .i64 _ = _
        go_num
      · show K - (intOf (Value.int .i64 _)).toNat < K - (intOf (F4 17)).toNat
        rw [H17.out]
        simp [intOf]; omega
    obtain rfl : m = K := by omega
    have hml' : ¬ (m : Int) < wrap64 (2 ^ ar) := by rw [wrap_ar ar har4', ← HK.out]; omega
    clear hmk hm' H17
    go_wp2_with fail
    refine ⟨rfl, rfl, ⟨rfl, rfl, ⟨n + 1, by omega, ?_⟩, HJ9⟩, ?_⟩
    · show Value.int .i64 _ = _
      go_num
    · show rn3 - (intOf (Value.int .i64 _)).toNat < rn3 - (intOf (F2 9)).toNat
      rw [H9.out]
      simp [intOf]; omega
end Go.Proofs.Qxb6500789a
