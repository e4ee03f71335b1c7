import Derived.Test.Qxb6500785aMod9
import Derived.Test.Qxb6500785aStepB3

import Derived.Test.Qxb6500785aStream
import Derived.Test.Qxb6500785aApart
import Derived.Test.Qxb6500785aKnown
import Derived.Deep.RegionHeld
import Derived.Deep.CutRange
import Derived.Laws.ResultCell
import Derived.Laws.Rows
set_option linter.unusedSimpArgs false
set_option linter.unusedVariables false
namespace Go.Proofs.Qxb6500785a
open Go.RowKit Go.Blk
attribute [local go_sem ↓] execOp_load execOp_store execOp_alloc
attribute [local go_sem] Try.ld24 Try.st24 Try.ld5 Try.st5 Try.ld3 Try.st3 Try.ld27 Try.st27 Try.ld32 Try.st32 Try.ld33 Try.st33 Try.ld4 Try.st4 Try.ld41 Try.st41 Try.ld40 Try.st40 Try.ld42 Try.st42 Try.ld47 Try.st47 Try.ld48 Try.st48 Try.ld57 Try.st57 Try.ld58 Try.st58 Try.ld2 Try.st2 Try.ld9 Try.st9 Try.ld12 Try.st12 Try.ld21 Try.st21 Try.ld22 Try.st22 Try.ld46 Try.st46 Try.ld83 Try.st83 Try.ld95 Try.st95 Try.ld99 Try.st99 Try.ld106 Try.st106 Try.ld108 Try.st108 Try.ld134 Try.st134 Try.ld25 Try.st25 Try.ld26 Try.st26 Try.ld34 Try.st34 Try.ld31 Try.st31 Try.ld30 Try.st30 Try.ld74 Try.st74 Try.ld96 Try.st96 Try.ld101 Try.st101 Try.ld115 Try.st115 Try.ld116 Try.st116 Try.ld120 Try.st120 Try.ld121 Try.st121 Try.ld122 Try.st122 Try.ld29 Try.st29 Try.ld36 Try.st36 Try.ld38 Try.st38 Try.ld44 Try.st44 Try.ld50 Try.st50 Try.ld60 Try.st60 Try.ld110 Try.st110 Try.al25 Try.al26 Try.al34 Try.al31 Try.al30 Try.al74 Try.al96 Try.al101 Try.al115 Try.al116 Try.al120 Try.al121 Try.al122 Try.al29 Try.al36 Try.al38 Try.al44 Try.al50 Try.al60 Try.al110
attribute [local go_sem] Hasher.length_enc Hasher.ok_enc Hasher.all_get Hasher.all_set Hasher.state_get Hasher.state_set Hasher.block_get Hasher.block_set Hasher.fill_get Hasher.fill_set Hasher.length_get Hasher.length_set GLog.length_enc GLog.ok_enc GLog.all_get GLog.all_set GLog.entries_get GLog.entries_set GLog.shelves_get GLog.shelves_set GLog.first_get GLog.first_set GLog.second_get GLog.second_set GLog.found_get GLog.found_set Player.length_enc Player.ok_enc Player.all_get Player.all_set Player.hand_get Player.hand_set Player.aside_get Player.aside_set Player.prev_get Player.prev_set Player.last_get Player.last_set Player.log_get Player.log_set Player.hand_state_get Player.hand_state_set Player.hand_block_get Player.hand_block_set Player.hand_fill_get Player.hand_fill_set Player.hand_length_get Player.hand_length_set Player.aside_state_get Player.aside_state_set Player.aside_block_get Player.aside_block_set Player.aside_fill_get Player.aside_fill_set Player.aside_length_get Player.aside_length_set Player.log_entries_get Player.log_entries_set Player.log_shelves_get Player.log_shelves_set Player.log_first_get Player.log_first_set Player.log_second_get Player.log_second_set Player.log_found_get Player.log_found_set GOp.length_enc GOp.ok_enc GOp.all_get GOp.all_set GOp.kind_get GOp.kind_set GOp.data_get GOp.data_set GOp.cut_get GOp.cut_set GOp.n_get GOp.n_set GOp.b_get GOp.b_set GOp.v_get GOp.v_set GOp.dom_get GOp.dom_set GOp.sum_get GOp.sum_set Answer.length_enc Answer.ok_enc Answer.all_get Answer.all_set Answer.code_get Answer.code_set Answer.sum_get Answer.sum_set Answer.len_get Answer.len_set Answer.mark_get Answer.mark_set Answer.noted_get Answer.noted_set Answer.collided_get Answer.collided_set GState.length_enc GState.ok_enc GState.all_get GState.all_set GState.hand_get GState.hand_set GState.aside_get GState.aside_set GState.prev_get GState.prev_set GState.last_get GState.last_set GState.inputs_get GState.inputs_set GState.sums_get GState.sums_set GState.collided_get GState.collided_set GState.older_get GState.older_set GState.younger_get GState.younger_set Noted.length_enc Noted.ok_enc Noted.all_get Noted.all_set Noted.input_get Noted.input_set Noted.sum_get Noted.sum_set
attribute [local go_sem] size_put size_ext blk_put free_put blk_alloc free_alloc blk_drew free_drew blk_ext free_ext lookOr_some putOr_some segAt_some cellAt_some storeIn_some put_put put_alloc_new length_arr ok_arr_u8 ok_arr_u32 ok_arr_u64 ok_arr_i64 ok_arr_sl cellsV_agg cellsV_int cellsV_bool cellsV_string cellsV_pointer cellsV_slice cellsV_sl ok_int ok_bool ok_string ok_pointer ok_slice ok_sl toList_arr seg_arr set_arr nth_splice nth_splice0 seg_splice seg_splice0 splice_splice splice_splice0 length_splice_if
attribute [local go_sem] w32_and w32_or w32_xor w32_add w32_or8 w32_not w8_and w8_or w8_xor w32_shr2 w32_shl2 w32_shr3 w32_shl3 w32_shr6 w32_shl6 w32_shr7 w32_shl7 w32_shr8 w32_shl8 w32_shr10 w32_shl10 w32_shr11 w32_shl11 w32_shr13 w32_shl13 w32_shr14 w32_shl14 w32_shr15 w32_shl15 w32_shr16 w32_shl16 w32_shr17 w32_shl17 w32_shr18 w32_shl18 w32_shr19 w32_shl19 w32_shr21 w32_shl21 w32_shr22 w32_shl22 w32_shr24 w32_shl24 w32_shr25 w32_shl25 w32_shr26 w32_shl26 w32_shr30 w32_shl30 w8_shl24 w8_shl16 w8_shl8 v32_add v32_byte w32_byte0 v8_shl24 v8_shl16 v8_shl8 v32_shr2 v32_shl2 v32_shr3 v32_shl3 v32_shr6 v32_shl6 v32_shr7 v32_shl7 v32_shr8 v32_shl8 v32_shr10 v32_shl10 v32_shr11 v32_shl11 v32_shr13 v32_shl13 v32_shr14 v32_shl14 v32_shr15 v32_shl15 v32_shr16 v32_shl16 v32_shr17 v32_shl17 v32_shr18 v32_shl18 v32_shr19 v32_shl19 v32_shr21 v32_shl21 v32_shr22 v32_shl22 v32_shr24 v32_shl24 v32_shr25 v32_shl25 v32_shr26 v32_shl26 v32_shr30 v32_shl30
attribute [local go_sem ↓] execOp_build
attribute [local go_sem] run_build_kv run_build_iv nth_arr_u32 put_arr_u32 nth_arr_u8 put_arr_u8 v32_of8 blk_drewN free_drewN put_drewN put_drew blk_raw free_raw
attribute [local go_sem ↓] execOp_slice execOp_copy
attribute [local go_sem] Try.sl40lo Try.sl40hi Try.sl26lo Try.sl26hi Try.sl26 Try.sl96lo Try.sl96hi Try.sl96 Try.sl31lo Try.sl31 Try.sl120 Try.sl121 Try.sl121lo Try.sl121hi Try.cp40 copyOr_some copyIn_some srcB_drew srcB_drewN srcB_raw length_bv one_bv
attribute [local go_sem] Hasher.length_zero
attribute [local go_sem] Try.cpv copyOrV_some
attribute [local go_sem ↓] execOp_index execOp_convert execOp_box execOp_convert9
attribute [local go_sem] index_hex box_run conv_bytes eq31
attribute [local go_sem] build31
attribute [local go_sem ↓] execOp_make execOp_bslice
attribute [local go_sem] make40 bslice57 bslice58
theorem OwnB.weaken {base base' : Nat} {w : World} {v : Value} {xs : List UInt8} (h : OwnB base w v xs) (hb : base' ≤ base) : OwnB base' w v xs := by
  obtain ⟨h1, h2 | ⟨g, cap, cur, e1, e2, e3⟩⟩ := h
  · exact ⟨h1, .inl h2⟩
  · exact ⟨h1, .inr ⟨g, cap, cur, e1, Nat.le_trans hb e2, e3⟩⟩
theorem ret_ttct {P : Program} {fn : Func} {R : Ending → World → Prop} {a : Act} {w : World} {p u t q : Tmp} {ty : TypeId} {g : Nat} {C : List Value} {v x y : Value} (h : fn.results = #[.tmp u, .tmp t, .cell p ty, .tmp q]) (hv : a.tmps.getD u undef = v) (hx : a.tmps.getD t undef = x) (hp : a.tmps.getD p undef = .pointer (some ⟨g, 0, none⟩)) (hy : a.tmps.getD q undef = y) (hb : blk w g = some C)
    (hr : ((P.underlying ty).map fun d => (match d with | .struct _ | .array _ _ => true | _ => false)) = some true) (hi : (P.info? ty).map (·.size) = some C.length) (hdf : a.defers = []) (hR : R (.returned (.tuple #[v, x, .agg C.toArray, y])) w) : bodyPost P fn R .ret a w := by
  obtain ⟨t', fz, ht⟩ := blk_some hb
  obtain ⟨d, hu, hd⟩ : ∃ d, P.underlying ty = some d ∧ (match d with | .struct _ | .array _ _ => true | _ => false) = true := by
    cases hx : P.underlying ty with
    | none => simp [hx] at hr
    | some d => exact ⟨d, rfl, by simpa [hx] using hr⟩
  refine bodyPost_ret ?_ hdf hR
  have hq : (results fn a.tmps).run P w = ((asAddr (a.tmps.getD p undef)).run P w).andThen fun b w₁ => ((loadVar ty b).run P w₁).andThen fun v w₂ => .ok (.tuple #[a.tmps.getD u undef, a.tmps.getD t undef, v, a.tmps.getD q undef]) w₂ := by
    simp only [results, h]
    simp [Sem.run_bind, Result.andThen]
  rw [hq, hp, hv, hx, hy]
  have hp' := run_loadVar_row (P := P) w g t' ty C.toArray fz d ht hu (by cases d <;> simp_all) (by simpa using hi)
  simp [asAddr, hp', Result.andThen]
set_option maxRecDepth 20000 in
set_option maxHeartbeats 2000000 in
theorem witness_no (W : World) (B b o : Nat) (C : List Value) (l : GLog) (ns : List Noted) (ix : Nat → List Nat) (A : ALog) (X : Nat → Prop) (hb : blk W b = some (splice C o l.enc)) (hC : o + 68 ≤ C.length) (hL : LogOk B W l ns ix A X) (hf : A.fd = none) :
    Calls Try.prog 21 #[.pointer (some ⟨b, o, none⟩)] W fun e W' => e = .returned (.tuple #[.slice none 0 0, .slice none 0 0, .agg (arr u8v (Vector.replicate 32 (0 : UInt8))).toArray, .bool false]) ∧ Ext W W' := by
  have hlt := blk_lt hb
  have hfo : l.found = false := by rw [hL.fnd, hf]; rfl
  have n1 : ¬ b = W.heap.size := by omega
  have hn67 : nth (splice C o l.enc) (o + 67) = some (.bool false) := by
    rw [nth_splice (by rw [GLog.length_enc]; omega) (by rw [GLog.length_enc]; omega), GLog.found_get, hfo]
  obtain ⟨D, hD⟩ : ∃ D, D = splice C o l.enc := ⟨_, rfl⟩
  rw [← hD] at hb hn67
  clear hL hf hD hfo
  go_enter Try.func21, Try.ntmps21
  go_wp2_with fail
  refine ret_ttct (C := arr u8v (Vector.replicate 32 (0 : UInt8))) rfl rfl rfl rfl rfl (by first | (rw [blk_alloc, if_pos rfl]) | (rw [blk_put, if_pos rfl, blk_alloc, if_pos rfl]; rfl)) (by kernel_rfl) (by rw [length_arr]; kernel_rfl) rfl ?_
  exact ⟨rfl, by first | exact (Ext.refl _).alloc _ | exact ((Ext.refl _).alloc _).put_new _ _ (Nat.le_refl _)⟩
set_option maxRecDepth 20000 in
set_option maxHeartbeats 2000000 in
theorem witness_yes (W : World) (B b o : Nat) (C : List Value) (l : GLog) (ns : List Noted) (ix : Nat → List Nat) (A : ALog) (X : Nat → Prop) (i j : Nat) (x y : Ent) (hb : blk W b = some (splice C o l.enc)) (hC : o + 68 ≤ C.length) (hL : LogOk B W l ns ix A X) (hf : A.fd = some (i, j)) (hi : A.es[i]? = some x) (hj : A.es[j]? = some y) (hns : ns.length ≤ 70000) :
    Calls Try.prog 21 #[.pointer (some ⟨b, o, none⟩)] W fun e W' => ∃ v1 v2, e = .returned (.tuple #[v1, v2, .agg (arr u8v x.2).toArray, .bool true]) ∧ OwnB W.heap.size W' v1 x.1 ∧ OwnB W.heap.size W' v2 y.1 ∧ W.Extends W' := by
  have hlt := blk_lt hb
  have hfo : l.found = true := by rw [hL.fnd, hf]; rfl
  obtain ⟨hfi, hse⟩ := hL.fst i j hf
  have hiN : i < ns.length := by rw [← hL.clen]; exact (List.getElem?_eq_some_iff.1 hi).1
  have hjN : j < ns.length := by rw [← hL.clen]; exact (List.getElem?_eq_some_iff.1 hj).1
  have n1 : ¬ b = W.heap.size := by omega
  obtain ⟨ge, ce, Ce, hen, hCe, hle, hin, hsu⟩ := hL.entry hiN
  obtain ⟨ge', ce', Ce', hen', hCe', hle', hin', hsu'⟩ := hL.entry hjN
  obtain ⟨rfl, rfl⟩ : ge = ge' ∧ ce = ce' := by rw [hen] at hen'; injection hen' with h1 h2 h3; injection h1 with h1; injection h1 with h1; exact ⟨h1, h3⟩
  obtain rfl : Ce = Ce' := by rw [hCe] at hCe'; exact Option.some.inj hCe'
  obtain ⟨x', hxe, hxl, hxo, hxs⟩ := hL.ent hiN
  rw [hi] at hxe
  obtain rfl := Option.some.inj hxe
  obtain ⟨y', hye, hyl, hyo, hys⟩ := hL.ent hjN
  rw [hj] at hye
  obtain rfl := Option.some.inj hye
  obtain ⟨xa, xc, hxv, hxx⟩ := own_bytes hxo (by omega)
  obtain ⟨ya, yc, hyv, hyx⟩ := own_bytes hyo (by omega)
  rw [hxv] at hin
  rw [hyv] at hin'
  rw [hxs] at hsu
  obtain ⟨N, hN⟩ : ∃ N, N = ns.length := ⟨_, rfl⟩
  have hn0 : nth (splice C o l.enc) o = some (.slice (some ⟨ge, 0, none⟩) N ce) := by
    rw [nth_splice0 (by rw [GLog.length_enc]; omega) (by rw [GLog.length_enc]; omega), GLog.entries_get, hen, hN]
    rfl
  have hn65 : nth (splice C o l.enc) (o + 65) = some (.int .i64 (i : Nat)) := by
    rw [nth_splice (by rw [GLog.length_enc]; omega) (by rw [GLog.length_enc]; omega), GLog.first_get, hfi]
  have hn66 : nth (splice C o l.enc) (o + 66) = some (.int .i64 (j : Nat)) := by
    rw [nth_splice (by rw [GLog.length_enc]; omega) (by rw [GLog.length_enc]; omega), GLog.second_get, hse]
  have hn67 : nth (splice C o l.enc) (o + 67) = some (.bool true) := by
    rw [nth_splice (by rw [GLog.length_enc]; omega) (by rw [GLog.length_enc]; omega), GLog.found_get, hfo]
  obtain ⟨D, hD⟩ : ∃ D, D = splice C o l.enc := ⟨_, rfl⟩
  rw [← hD] at hb hn0 hn65 hn66 hn67
  obtain ⟨x1, x2⟩ := x
  obtain ⟨y1, y2⟩ := y
  simp only at hin hin' hsu hxl hyl hxx hyx ⊢
  obtain ⟨xl, xl0⟩ : ∃ xl, xl = x1.length := ⟨_, rfl⟩
  obtain ⟨yl, yl0⟩ : ∃ yl, yl = y1.length := ⟨_, rfl⟩
  rw [← xl0] at hin
  rw [← yl0] at hin'
  have HX : Hid (BytesAt W.heap.size W xa x1.length xc x1) := hxx
  have HY : Hid (BytesAt W.heap.size W ya y1.length yc y1) := hyx
  have HxL : Hid (xl = x1.length) := xl0
  have HyL : Hid (yl = y1.length) := yl0
  clear xl0 yl0
  have r0 : (0 : Int) ≤ (i : Int) := by omega
  have r1 : (i : Int) < (N : Int) := by omega
  have r2 : ((i : Int)).toNat = i := by omega
  have r3 : (0 : Int) ≤ (j : Int) := by omega
  have r4 : (j : Int) < (N : Int) := by omega
  have r5 : ((j : Int)).toNat = j := by omega
  have hi33 : i * 33 + 33 ≤ Ce.length := by
    have : (i + 1) * 33 ≤ ns.length * 33 := Nat.mul_le_mul_right _ hiN
    omega
  have hj33 : j * 33 + 33 ≤ Ce.length := by
    have : (j + 1) * 33 ≤ ns.length * 33 := Nat.mul_le_mul_right _ hjN
    omega
  have r6 : i * 33 + 1 + 32 ≤ Ce.length := by omega
  clear hle' hsu' hCe' hxe hye hD hL hf hi hj hfi hse hen hen' hxo hyo hxs hys hxv hyv hxx hyx hfo hle hiN hjN hN
  have hget := blk_lt hCe
  have n2 : ¬ ge = W.heap.size := by omega
  go_enter Try.func21, Try.ntmps21
  go_upto_region 3 with fail
  refine wp_world (fun W1 => blk W1 b = some D ∧ blk W1 ge = some Ce ∧ blk W1 W.heap.size = some (arr u8v (Vector.replicate 32 (0 : UInt8))) ∧ free W1 W.heap.size = true ∧ W.heap.size ≤ W1.heap.size ∧ Hid (W.Extends W1)) ⟨?_, ?_, ?_, ?_, ?_, extends_alloc (ext_Ext (Ext.refl _)) _⟩ ?_
  · rw [blk_alloc, if_neg n1]; exact hb
  · rw [blk_alloc, if_neg n2]; exact hCe
  · rw [blk_alloc, if_pos rfl]
  · rw [free_alloc, if_pos rfl]
  · rw [World.size_alloc]; omega
  obtain ⟨bz, hbz⟩ : ∃ bz, bz = W.heap.size := ⟨_, rfl⟩
  have HBZ : Hid (bz = W.heap.size) := hbz
  rw [← hbz]
  have m1 : ¬ b = bz := by omega
  have m2 : ¬ ge = bz := by omega
  have m3 : ¬ bz = b := by omega
  have m4 : ¬ bz = ge := by omega
  rw [hbz]
  clear hb hCe n1 n2
  rintro W1 ⟨hD1, hE1, hZ1, hF1, hsz1, HE1⟩
  rw [← hbz] at hZ1 hF1 ⊢
  clear hbz
  have hbz1 := blk_lt hZ1
  have xsrc : srcB W1 xa x1.length = some (bv x1) := by
    have h := (HX.out.at_new (fun k hk => HE1.out.blk hk) hsz1 : BytesAt W1.heap.size W1 xa x1.length xc x1).src (Nat.le_refl _)
    rw [List.take_of_length_le (Nat.le_refl _)] at h
    exact h
  go_wp2_with fail
  refine wp_region_held_drew (S := fun W' => blk W' b = some D ∧ blk W' ge = some Ce ∧ True) (by kernel_rfl) ⟨hD1, hE1, trivial⟩ (fun hHeld => ?_)
  refine wpAnyH_take (i := 0) (oi := ⟨_, _, _, _, _, _⟩) (v := ?_) rfl (by kernel_rfl) (by kernel_rfl) (by kernel_rfl) (fun _ _ _ h => h) (Or.inl ⟨by rfl, ?_⟩) (by assumption) ?_
  rotate_left 1
  · intro W' hSw
    obtain ⟨hS1, hS2, hS3⟩ := hSw
    go_simp
    try with_reducible rfl
  try simp only [Act.put, List.setIfInBounds_toArray, List.set_cons_zero, List.set_cons_succ]
  refine wpAnyH_take (i := 1) (oi := ⟨_, _, _, _, _, _⟩) (v := ?_) rfl (by kernel_rfl) (by kernel_rfl) (by kernel_rfl) (fun _ _ _ h => h) (Or.inl ⟨by rfl, ?_⟩) (by assumption) ?_
  rotate_left 1
  · intro W' hSw
    obtain ⟨hS1, hS2, hS3⟩ := hSw
    go_simp
    try with_reducible rfl
  try simp only [Act.put, List.setIfInBounds_toArray, List.set_cons_zero, List.set_cons_succ]
  refine wpAnyH_take (i := 2) (oi := ⟨_, _, _, _, _, _⟩) (v := ?_) rfl (by kernel_rfl) (by kernel_rfl) (by kernel_rfl) (fun _ _ _ h => h) (Or.inl ⟨by rfl, ?_⟩) (by assumption) ?_
  rotate_left 1
  · intro W' hSw
    obtain ⟨hS1, hS2, hS3⟩ := hSw
    go_simp
    try with_reducible rfl
  try simp only [Act.put, List.setIfInBounds_toArray, List.set_cons_zero, List.set_cons_succ]
  refine wpAnyH_take (i := 3) (oi := ⟨_, _, _, _, _, _⟩) (v := ?_) rfl (by kernel_rfl) (by kernel_rfl) (by kernel_rfl) (fun _ _ _ h => h) (Or.inl ⟨by rfl, ?_⟩) (by assumption) ?_
  rotate_left 1
  · intro W' hSw
    obtain ⟨hS1, hS2, hS3⟩ := hSw
    go_simp
    try with_reducible rfl
  try simp only [Act.put, List.setIfInBounds_toArray, List.set_cons_zero, List.set_cons_succ]
  refine wpAnyH_take (i := 4) (oi := ⟨_, _, _, _, _, _⟩) (v := ?_) rfl (by kernel_rfl) (by kernel_rfl) (by kernel_rfl) (fun _ _ _ h => h) (Or.inl ⟨by rfl, ?_⟩) (by assumption) ?_
  rotate_left 1
  · intro W' hSw
    obtain ⟨hS1, hS2, hS3⟩ := hSw
    go_simp
    try with_reducible rfl
  try simp only [Act.put, List.setIfInBounds_toArray, List.set_cons_zero, List.set_cons_succ]
  refine wpAnyH_take (i := 5) (oi := ⟨_, _, _, _, _, _⟩) (v := ?_) rfl (by kernel_rfl) (by kernel_rfl) (by kernel_rfl) (fun _ _ _ h => h) (Or.inl ⟨by rfl, ?_⟩) (by assumption) ?_
  rotate_left 1
  · intro W' hSw
    obtain ⟨hS1, hS2, hS3⟩ := hSw
    go_simp
    try with_reducible rfl
  try simp only [Act.put, List.setIfInBounds_toArray, List.set_cons_zero, List.set_cons_succ]
  refine wpAnyH_take (i := 6) (oi := ⟨_, _, _, _, _, _⟩) (v := ?_) rfl (by kernel_rfl) (by kernel_rfl) (by kernel_rfl) (fun _ _ _ h => h) (Or.inl ⟨by rfl, ?_⟩) (by assumption) ?_
  rotate_left 1
  · intro W' hSw
    obtain ⟨hS1, hS2, hS3⟩ := hSw
    go_simp
    try with_reducible rfl
  try simp only [Act.put, List.setIfInBounds_toArray, List.set_cons_zero, List.set_cons_succ]
  refine wpAnyH_take (i := 7) (oi := ⟨_, _, _, _, _, _⟩) (v := ?_) rfl (by kernel_rfl) (by kernel_rfl) (by kernel_rfl) (fun _ _ _ h => h) (Or.inl ⟨by rfl, ?_⟩) (by assumption) ?_
  rotate_left 1
  · intro W' hSw
    obtain ⟨hS1, hS2, hS3⟩ := hSw
    go_simp
    try with_reducible rfl
  try simp only [Act.put, List.setIfInBounds_toArray, List.set_cons_zero, List.set_cons_succ]
  refine wpAnyH_take (i := 8) (oi := ⟨_, _, _, _, _, _⟩) (v := ?_) rfl (by kernel_rfl) (by kernel_rfl) (by kernel_rfl) (fun _ _ _ h => h) (Or.inl ⟨by rfl, ?_⟩) (by assumption) ?_
  rotate_left 1
  · intro W' hSw
    obtain ⟨hS1, hS2, hS3⟩ := hSw
    go_simp
    try with_reducible rfl
  try simp only [Act.put, List.setIfInBounds_toArray, List.set_cons_zero, List.set_cons_succ]
  refine wpAnyH_take (i := 9) (oi := ⟨_, _, _, _, _, _⟩) (v := ?_) rfl (by kernel_rfl) (by kernel_rfl) (by kernel_rfl) (fun _ _ _ h => h) (Or.inl ⟨by rfl, ?_⟩) (by assumption) ?_
  rotate_left 1
  · intro W' hSw
    obtain ⟨hS1, hS2, hS3⟩ := hSw
    go_simp
    try with_reducible rfl
  try simp only [Act.put, List.setIfInBounds_toArray, List.set_cons_zero, List.set_cons_succ]
  refine wpAnyH_take (i := 10) (oi := ⟨_, _, _, _, _, _⟩) (v := ?_) rfl (by kernel_rfl) (by kernel_rfl) (by kernel_rfl) (fun _ _ _ h => h) (Or.inl ⟨by rfl, ?_⟩) (by assumption) ?_
  rotate_left 1
  · intro W' hSw
    obtain ⟨hS1, hS2, hS3⟩ := hSw
    go_simp
    try with_reducible rfl
  try simp only [Act.put, List.setIfInBounds_toArray, List.set_cons_zero, List.set_cons_succ]
  refine wpAnyH_take (i := 11) (oi := ⟨_, _, _, _, _, _⟩) (v := ?_) rfl (by kernel_rfl) (by kernel_rfl) (by kernel_rfl) (fun _ _ _ h => h) (Or.inl ⟨by rfl, ?_⟩) (by assumption) ?_
  rotate_left 1
  · intro W' hSw
    obtain ⟨hS1, hS2, hS3⟩ := hSw
    go_simp
    try with_reducible rfl
  try simp only [Act.put, List.setIfInBounds_toArray, List.set_cons_zero, List.set_cons_succ]
  refine wpAnyH_ready (rs := [12]) (by kernel_rfl) (by simp) ?_
  refine AllReadyH.cons (o := ⟨_, _, _, _, _, _⟩) rfl (fun K hK => ?_) AllReadyH.nil
  rw [if_pos (by rfl)]
  obtain ⟨v1, W2, hrun, ho, hg⟩ := append_own (bz + 1) (W1.drew) 40 (.slice none 0 0) [] x1 xa xc (OwnB.nil _ _) (show srcB W1 _ _ = _ from xsrc) (show bz + 1 ≤ W1.heap.size by omega) (by simp; omega)
  rw [← HxL.out] at hrun
  rw [List.nil_append] at ho
  have hx1 : W1.Extends W2 := (OwnB.nil W1.heap.size (W1.drew)).grow (Nat.le_refl _) (extends_drew (ext_Ext (Ext.refl _))) hg
  have HO1 : Hid (OwnB (bz + 1) W2 v1 x1) := ho
  clear ho hg
  refine wp_append_run _ _ 40 rfl _ _ _ _ rfl rfl hrun ?_
  clear hrun
  have hD2 := (hx1.blk (blk_lt hD1)).trans hD1
  have hE2 := (hx1.blk (blk_lt hE1)).trans hE1
  have hZ2 := (hx1.blk (blk_lt hZ1)).trans hZ1
  have hF2 := (free_of_heap (hx1.block _ (blk_lt hZ1))).trans hF1
  have hsz2 : W.heap.size ≤ W2.heap.size := Nat.le_trans hsz1 hx1.size
  have hbz2 := blk_lt hZ2
  refine hK.out _ _ ⟨hD2, hE2, trivial⟩ (fun hHeld => ?_)
  clear hK K
  try simp only [Act.put, List.setIfInBounds_toArray, List.set_cons_zero, List.set_cons_succ]
  refine wpAnyH_take (i := 13) (oi := ⟨_, _, _, _, _, _⟩) (v := ?_) rfl (by kernel_rfl) (by kernel_rfl) (by kernel_rfl) (fun _ _ _ h => h) (Or.inl ⟨by rfl, ?_⟩) (by assumption) ?_
  rotate_left 1
  · intro W' hSw
    obtain ⟨hS1, hS2, hS3⟩ := hSw
    go_simp
    try with_reducible rfl
  try simp only [Act.put, List.setIfInBounds_toArray, List.set_cons_zero, List.set_cons_succ]
  refine wpAnyH_done (by kernel_rfl) ?_ _
  have ysrc : srcB W2 ya y1.length = some (bv y1) := by
    have h := (HY.out.at_new (fun k hk => (HE1.out.trans hx1).blk hk) hsz2 : BytesAt W2.heap.size W2 ya y1.length yc y1).src (Nat.le_refl _)
    rw [List.take_of_length_le (Nat.le_refl _)] at h
    exact h
  have HE2 : Hid (W.Extends W2) := HE1.out.trans hx1
  clear hx1 xsrc
  go_wp2_with fail
  refine wp_region_held_drew (S := fun W' => blk W' b = some D ∧ blk W' ge = some Ce ∧ True) (by kernel_rfl) ⟨hD2, hE2, trivial⟩ (fun hHeld => ?_)
  refine wpAnyH_take (i := 0) (oi := ⟨_, _, _, _, _, _⟩) (v := ?_) rfl (by kernel_rfl) (by kernel_rfl) (by kernel_rfl) (fun _ _ _ h => h) (Or.inl ⟨by rfl, ?_⟩) (by assumption) ?_
  rotate_left 1
  · intro W' hSw
    obtain ⟨hS1, hS2, hS3⟩ := hSw
    go_simp
    try with_reducible rfl
  try simp only [Act.put, List.setIfInBounds_toArray, List.set_cons_zero, List.set_cons_succ]
  refine wpAnyH_take (i := 1) (oi := ⟨_, _, _, _, _, _⟩) (v := ?_) rfl (by kernel_rfl) (by kernel_rfl) (by kernel_rfl) (fun _ _ _ h => h) (Or.inl ⟨by rfl, ?_⟩) (by assumption) ?_
  rotate_left 1
  · intro W' hSw
    obtain ⟨hS1, hS2, hS3⟩ := hSw
    go_simp
    try with_reducible rfl
  try simp only [Act.put, List.setIfInBounds_toArray, List.set_cons_zero, List.set_cons_succ]
  refine wpAnyH_take (i := 2) (oi := ⟨_, _, _, _, _, _⟩) (v := ?_) rfl (by kernel_rfl) (by kernel_rfl) (by kernel_rfl) (fun _ _ _ h => h) (Or.inl ⟨by rfl, ?_⟩) (by assumption) ?_
  rotate_left 1
  · intro W' hSw
    obtain ⟨hS1, hS2, hS3⟩ := hSw
    go_simp
    try with_reducible rfl
  try simp only [Act.put, List.setIfInBounds_toArray, List.set_cons_zero, List.set_cons_succ]
  refine wpAnyH_take (i := 3) (oi := ⟨_, _, _, _, _, _⟩) (v := ?_) rfl (by kernel_rfl) (by kernel_rfl) (by kernel_rfl) (fun _ _ _ h => h) (Or.inl ⟨by rfl, ?_⟩) (by assumption) ?_
  rotate_left 1
  · intro W' hSw
    obtain ⟨hS1, hS2, hS3⟩ := hSw
    go_simp
    try with_reducible rfl
  try simp only [Act.put, List.setIfInBounds_toArray, List.set_cons_zero, List.set_cons_succ]
  refine wpAnyH_take (i := 4) (oi := ⟨_, _, _, _, _, _⟩) (v := ?_) rfl (by kernel_rfl) (by kernel_rfl) (by kernel_rfl) (fun _ _ _ h => h) (Or.inl ⟨by rfl, ?_⟩) (by assumption) ?_
  rotate_left 1
  · intro W' hSw
    obtain ⟨hS1, hS2, hS3⟩ := hSw
    go_simp
    try with_reducible rfl
  try simp only [Act.put, List.setIfInBounds_toArray, List.set_cons_zero, List.set_cons_succ]
  refine wpAnyH_take (i := 5) (oi := ⟨_, _, _, _, _, _⟩) (v := ?_) rfl (by kernel_rfl) (by kernel_rfl) (by kernel_rfl) (fun _ _ _ h => h) (Or.inl ⟨by rfl, ?_⟩) (by assumption) ?_
  rotate_left 1
  · intro W' hSw
    obtain ⟨hS1, hS2, hS3⟩ := hSw
    go_simp
    try with_reducible rfl
  try simp only [Act.put, List.setIfInBounds_toArray, List.set_cons_zero, List.set_cons_succ]
  refine wpAnyH_take (i := 6) (oi := ⟨_, _, _, _, _, _⟩) (v := ?_) rfl (by kernel_rfl) (by kernel_rfl) (by kernel_rfl) (fun _ _ _ h => h) (Or.inl ⟨by rfl, ?_⟩) (by assumption) ?_
  rotate_left 1
  · intro W' hSw
    obtain ⟨hS1, hS2, hS3⟩ := hSw
    go_simp
    try with_reducible rfl
  try simp only [Act.put, List.setIfInBounds_toArray, List.set_cons_zero, List.set_cons_succ]
  refine wpAnyH_take (i := 7) (oi := ⟨_, _, _, _, _, _⟩) (v := ?_) rfl (by kernel_rfl) (by kernel_rfl) (by kernel_rfl) (fun _ _ _ h => h) (Or.inl ⟨by rfl, ?_⟩) (by assumption) ?_
  rotate_left 1
  · intro W' hSw
    obtain ⟨hS1, hS2, hS3⟩ := hSw
    go_simp
    try with_reducible rfl
  try simp only [Act.put, List.setIfInBounds_toArray, List.set_cons_zero, List.set_cons_succ]
  refine wpAnyH_take (i := 8) (oi := ⟨_, _, _, _, _, _⟩) (v := ?_) rfl (by kernel_rfl) (by kernel_rfl) (by kernel_rfl) (fun _ _ _ h => h) (Or.inl ⟨by rfl, ?_⟩) (by assumption) ?_
  rotate_left 1
  · intro W' hSw
    obtain ⟨hS1, hS2, hS3⟩ := hSw
    go_simp
    try with_reducible rfl
  try simp only [Act.put, List.setIfInBounds_toArray, List.set_cons_zero, List.set_cons_succ]
  refine wpAnyH_take (i := 9) (oi := ⟨_, _, _, _, _, _⟩) (v := ?_) rfl (by kernel_rfl) (by kernel_rfl) (by kernel_rfl) (fun _ _ _ h => h) (Or.inl ⟨by rfl, ?_⟩) (by assumption) ?_
  rotate_left 1
  · intro W' hSw
    obtain ⟨hS1, hS2, hS3⟩ := hSw
    go_simp
    try with_reducible rfl
  try simp only [Act.put, List.setIfInBounds_toArray, List.set_cons_zero, List.set_cons_succ]
  refine wpAnyH_take (i := 10) (oi := ⟨_, _, _, _, _, _⟩) (v := ?_) rfl (by kernel_rfl) (by kernel_rfl) (by kernel_rfl) (fun _ _ _ h => h) (Or.inl ⟨by rfl, ?_⟩) (by assumption) ?_
  rotate_left 1
  · intro W' hSw
    obtain ⟨hS1, hS2, hS3⟩ := hSw
    go_simp
    try with_reducible rfl
  try simp only [Act.put, List.setIfInBounds_toArray, List.set_cons_zero, List.set_cons_succ]
  refine wpAnyH_take (i := 11) (oi := ⟨_, _, _, _, _, _⟩) (v := ?_) rfl (by kernel_rfl) (by kernel_rfl) (by kernel_rfl) (fun _ _ _ h => h) (Or.inl ⟨by rfl, ?_⟩) (by assumption) ?_
  rotate_left 1
  · intro W' hSw
    obtain ⟨hS1, hS2, hS3⟩ := hSw
    go_simp
    try with_reducible rfl
  try simp only [Act.put, List.setIfInBounds_toArray, List.set_cons_zero, List.set_cons_succ]
  refine wpAnyH_ready (rs := [12]) (by kernel_rfl) (by simp) ?_
  refine AllReadyH.cons (o := ⟨_, _, _, _, _, _⟩) rfl (fun K hK => ?_) AllReadyH.nil
  rw [if_pos (by rfl)]
  obtain ⟨v2, W3, hrun, ho, hg⟩ := append_own (bz + 1) (W2.drew) 40 (.slice none 0 0) [] y1 ya yc (OwnB.nil _ _) (show srcB W2 _ _ = _ from ysrc) (show bz + 1 ≤ W2.heap.size by omega) (by simp; omega)
  rw [← HyL.out] at hrun
  rw [List.nil_append] at ho
  have hx2 : W2.Extends W3 := (OwnB.nil W2.heap.size (W2.drew)).grow (Nat.le_refl _) (extends_drew (ext_Ext (Ext.refl _))) hg
  have HO2 : Hid (OwnB (bz + 1) W3 v2 y1) := ho
  clear ho hg
  refine wp_append_run _ _ 40 rfl _ _ _ _ rfl rfl hrun ?_
  clear hrun
  have hD3 := (hx2.blk (blk_lt hD2)).trans hD2
  have hE3 := (hx2.blk (blk_lt hE2)).trans hE2
  have hZ3 := (hx2.blk (blk_lt hZ2)).trans hZ2
  have hF3 := (free_of_heap (hx2.block _ (blk_lt hZ2))).trans hF2
  have hsz3 : W.heap.size ≤ W3.heap.size := Nat.le_trans hsz2 hx2.size
  have hbz3 := blk_lt hZ3
  refine hK.out _ _ ⟨hD3, hE3, trivial⟩ (fun hHeld => ?_)
  clear hK K
  try simp only [Act.put, List.setIfInBounds_toArray, List.set_cons_zero, List.set_cons_succ]
  refine wpAnyH_take (i := 13) (oi := ⟨_, _, _, _, _, _⟩) (v := ?_) rfl (by kernel_rfl) (by kernel_rfl) (by kernel_rfl) (fun _ _ _ h => h) (Or.inl ⟨by rfl, ?_⟩) (by assumption) ?_
  rotate_left 1
  · intro W' hSw
    obtain ⟨hS1, hS2, hS3⟩ := hSw
    go_simp
    try with_reducible rfl
  try simp only [Act.put, List.setIfInBounds_toArray, List.set_cons_zero, List.set_cons_succ]
  refine wpAnyH_done (by kernel_rfl) ?_ _
  have HE3 : Hid (W.Extends W3) := HE2.out.trans hx2
  have HO4 : Hid (OwnB (bz + 1) W3 v1 x1) := HO1.out.mono fun k hk => hx2.block k hk
  clear hx2 ysrc
  go_wp2_with fail
  refine wp_region_held_drew (S := fun W' => blk W' b = some D ∧ blk W' ge = some Ce ∧ True) (by kernel_rfl) ⟨hD3, hE3, trivial⟩ (fun hHeld => ?_)
  refine wpAnyH_take (i := 0) (oi := ⟨_, _, _, _, _, _⟩) (v := ?_) rfl (by kernel_rfl) (by kernel_rfl) (by kernel_rfl) (fun _ _ _ h => h) (Or.inl ⟨by rfl, ?_⟩) (by assumption) ?_
  rotate_left 1
  · intro W' hSw
    obtain ⟨hS1, hS2, hS3⟩ := hSw
    go_simp
    try with_reducible rfl
  try simp only [Act.put, List.setIfInBounds_toArray, List.set_cons_zero, List.set_cons_succ]
  refine wpAnyH_take (i := 1) (oi := ⟨_, _, _, _, _, _⟩) (v := ?_) rfl (by kernel_rfl) (by kernel_rfl) (by kernel_rfl) (fun _ _ _ h => h) (Or.inl ⟨by rfl, ?_⟩) (by assumption) ?_
  rotate_left 1
  · intro W' hSw
    obtain ⟨hS1, hS2, hS3⟩ := hSw
    go_simp
    try with_reducible rfl
  try simp only [Act.put, List.setIfInBounds_toArray, List.set_cons_zero, List.set_cons_succ]
  refine wpAnyH_take (i := 2) (oi := ⟨_, _, _, _, _, _⟩) (v := ?_) rfl (by kernel_rfl) (by kernel_rfl) (by kernel_rfl) (fun _ _ _ h => h) (Or.inl ⟨by rfl, ?_⟩) (by assumption) ?_
  rotate_left 1
  · intro W' hSw
    obtain ⟨hS1, hS2, hS3⟩ := hSw
    go_simp
    try with_reducible rfl
  try simp only [Act.put, List.setIfInBounds_toArray, List.set_cons_zero, List.set_cons_succ]
  refine wpAnyH_take (i := 3) (oi := ⟨_, _, _, _, _, _⟩) (v := ?_) rfl (by kernel_rfl) (by kernel_rfl) (by kernel_rfl) (fun _ _ _ h => h) (Or.inl ⟨by rfl, ?_⟩) (by assumption) ?_
  rotate_left 1
  · intro W' hSw
    obtain ⟨hS1, hS2, hS3⟩ := hSw
    go_simp
    try with_reducible rfl
  try simp only [Act.put, List.setIfInBounds_toArray, List.set_cons_zero, List.set_cons_succ]
  refine wpAnyH_take (i := 4) (oi := ⟨_, _, _, _, _, _⟩) (v := ?_) rfl (by kernel_rfl) (by kernel_rfl) (by kernel_rfl) (fun _ _ _ h => h) (Or.inl ⟨by rfl, ?_⟩) (by assumption) ?_
  rotate_left 1
  · intro W' hSw
    obtain ⟨hS1, hS2, hS3⟩ := hSw
    go_simp
    try with_reducible rfl
  try simp only [Act.put, List.setIfInBounds_toArray, List.set_cons_zero, List.set_cons_succ]
  refine wpAnyH_take (i := 5) (oi := ⟨_, _, _, _, _, _⟩) (v := ?_) rfl (by kernel_rfl) (by kernel_rfl) (by kernel_rfl) (fun _ _ _ h => h) (Or.inl ⟨by rfl, ?_⟩) (by assumption) ?_
  rotate_left 1
  · intro W' hSw
    obtain ⟨hS1, hS2, hS3⟩ := hSw
    go_simp
    try with_reducible rfl
  try simp only [Act.put, List.setIfInBounds_toArray, List.set_cons_zero, List.set_cons_succ]
  refine wpAnyH_take (i := 6) (oi := ⟨_, _, _, _, _, _⟩) (v := ?_) rfl (by kernel_rfl) (by kernel_rfl) (by kernel_rfl) (fun _ _ _ h => h) (Or.inl ⟨by rfl, ?_⟩) (by assumption) ?_
  rotate_left 1
  · intro W' hSw
    obtain ⟨hS1, hS2, hS3⟩ := hSw
    go_simp
    try with_reducible rfl
  try simp only [Act.put, List.setIfInBounds_toArray, List.set_cons_zero, List.set_cons_succ]
  refine wpAnyH_take (i := 7) (oi := ⟨_, _, _, _, _, _⟩) (v := ?_) rfl (by kernel_rfl) (by kernel_rfl) (by kernel_rfl) (fun _ _ _ h => h) (Or.inl ⟨by rfl, ?_⟩) (by assumption) ?_
  rotate_left 1
  · intro W' hSw
    obtain ⟨hS1, hS2, hS3⟩ := hSw
    go_simp
    try with_reducible rfl
  try simp only [Act.put, List.setIfInBounds_toArray, List.set_cons_zero, List.set_cons_succ]
  refine wpAnyH_take (i := 8) (oi := ⟨_, _, _, _, _, _⟩) (v := ?_) rfl (by kernel_rfl) (by kernel_rfl) (by kernel_rfl) (fun _ _ _ h => h) (Or.inl ⟨by rfl, ?_⟩) (by assumption) ?_
  rotate_left 1
  · intro W' hSw
    obtain ⟨hS1, hS2, hS3⟩ := hSw
    go_simp
    try with_reducible rfl
  try simp only [Act.put, List.setIfInBounds_toArray, List.set_cons_zero, List.set_cons_succ]
  refine wpAnyH_take (i := 9) (oi := ⟨_, _, _, _, _, _⟩) (v := ?_) rfl (by kernel_rfl) (by kernel_rfl) (by kernel_rfl) (fun _ _ _ h => h) (Or.inl ⟨by rfl, ?_⟩) (by assumption) ?_
  rotate_left 1
  · intro W' hSw
    obtain ⟨hS1, hS2, hS3⟩ := hSw
    go_simp
    try with_reducible rfl
  try simp only [Act.put, List.setIfInBounds_toArray, List.set_cons_zero, List.set_cons_succ]
  refine wpAnyH_take (i := 10) (oi := ⟨_, _, _, _, _, _⟩) (v := ?_) rfl (by kernel_rfl) (by kernel_rfl) (by kernel_rfl) (fun _ _ _ h => h) (Or.inl ⟨by rfl, ?_⟩) (by assumption) ?_
  rotate_left 1
  · intro W' hSw
    obtain ⟨hS1, hS2, hS3⟩ := hSw
    go_simp
    try with_reducible rfl
  try simp only [Act.put, List.setIfInBounds_toArray, List.set_cons_zero, List.set_cons_succ]
  refine wpAnyH_take (i := 11) (oi := ⟨_, _, _, _, _, _⟩) (v := ?_) rfl (by kernel_rfl) (by kernel_rfl) (by kernel_rfl) (fun _ _ _ h => h) (Or.inl ⟨by rfl, ?_⟩) (by assumption) ?_
  rotate_left 1
  · intro W' hSw
    obtain ⟨hS1, hS2, hS3⟩ := hSw
    go_simp
    try with_reducible rfl
  try simp only [Act.put, List.setIfInBounds_toArray, List.set_cons_zero, List.set_cons_succ]
  refine wpAnyH_take (i := 12) (oi := ⟨_, _, _, _, _, _⟩) (v := ?_) rfl (by kernel_rfl) (by kernel_rfl) (by kernel_rfl) (fun _ _ _ h => h) (Or.inl ⟨by rfl, ?_⟩) (by assumption) ?_
  rotate_left 1
  · intro W' hSw
    obtain ⟨hS1, hS2, hS3⟩ := hSw
    go_simp
    try with_reducible rfl
  try simp only [Act.put, List.setIfInBounds_toArray, List.set_cons_zero, List.set_cons_succ]
  refine wpAnyH_take (i := 13) (oi := ⟨_, _, _, _, _, _⟩) (v := ?_) rfl (by kernel_rfl) (by kernel_rfl) (by kernel_rfl) (fun _ _ _ h => h) (Or.inl ⟨by rfl, ?_⟩) (by assumption) ?_
  rotate_left 1
  · intro W' hSw
    obtain ⟨hS1, hS2, hS3⟩ := hSw
    go_simp
    try with_reducible rfl
  try simp only [Act.put, List.setIfInBounds_toArray, List.set_cons_zero, List.set_cons_succ]
  refine wpAnyH_take (i := 14) (oi := ⟨_, _, _, _, _, _⟩) (v := ?_) rfl (by kernel_rfl) (by kernel_rfl) (by kernel_rfl) (fun _ _ _ h => h) (Or.inl ⟨by rfl, ?_⟩) (by assumption) ?_
  rotate_left 1
  · intro W' hSw
    obtain ⟨hS1, hS2, hS3⟩ := hSw
    go_simp
    try with_reducible rfl
  try simp only [Act.put, List.setIfInBounds_toArray, List.set_cons_zero, List.set_cons_succ]
  refine wpAnyH_ready (rs := [15]) (by kernel_rfl) (by simp) ?_
  refine AllReadyH.cons (o := ⟨_, _, _, _, _, _⟩) rfl (fun K hK => ?_) AllReadyH.nil
  go_simp
  refine hK.out _ _ ?_ (fun hHeld => ?_)
  · exact ⟨by rw [blk_drew, blk_put, if_neg m1]; exact hD3, by rw [blk_drew, blk_put, if_neg m2]; exact hE3, trivial⟩
  clear hK K
  try simp only [Act.put, List.setIfInBounds_toArray, List.set_cons_zero, List.set_cons_succ]
  refine wpAnyH_take (i := 16) (oi := ⟨_, _, _, _, _, _⟩) (v := ?_) rfl (by kernel_rfl) (by kernel_rfl) (by kernel_rfl) (fun _ _ _ h => h) (Or.inl ⟨by rfl, ?_⟩) (by assumption) ?_
  rotate_left 1
  · intro W' hSw
    obtain ⟨hS1, hS2, hS3⟩ := hSw
    go_simp
    try with_reducible rfl
  try simp only [Act.put, List.setIfInBounds_toArray, List.set_cons_zero, List.set_cons_succ]
  refine wpAnyH_done (by kernel_rfl) ?_ _
  go_wp2_with fail
  refine ret_ttct (C := arr u8v x2) rfl rfl rfl rfl rfl (by rw [blk_drew, blk_put, if_pos rfl, hZ3]; rfl) (by kernel_rfl) (by rw [length_arr]; kernel_rfl) rfl ?_
  have hbz := HBZ.out
  have hsame : ∀ k, k ≠ bz → ((put W3 bz (arr u8v x2)).drew).heap[k]? = W3.heap[k]? := fun k hk => by show (put W3 bz (arr u8v x2)).heap[k]? = _; rw [heap_put, if_neg hk]
  refine ⟨v1, v2, rfl, (HO4.out.keep fun k hk => hsame k (by have := (row_at HO4.out k hk).1; omega)).weaken (by omega), (HO2.out.keep fun k hk => hsame k (by have := (row_at HO2.out k hk).1; omega)).weaken (by omega), ?_⟩
  exact extends_of (bp := bz) HE3.out (by omega) rfl rfl rfl (by show _ ≤ (put W3 bz _).heap.size; rw [size_put]; exact Nat.le_refl _) fun k h1 _ => hsame k (by omega)
end Go.Proofs.Qxb6500785a
