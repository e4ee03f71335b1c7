import Derived.Test.Qxb6500785aMod1
import Derived.Test.Qxb6500785aStepB3

import Derived.Test.Qxb6500785aStream
import Derived.Test.Qxb6500785aApart
import Derived.Test.Qxb6500785aKnown
import Derived.Deep.RegionHeld
import Derived.Deep.CutRange
import Derived.Laws.ResultCell
import Derived.Laws.Rows
set_option linter.unusedSimpArgs false
set_option linter.unusedVariables false
namespace Go.Proofs.Qxb6500785a
open Go.RowKit Go.Blk
attribute [local go_sem ↓] execOp_load execOp_store execOp_alloc
attribute [local go_sem] Try.ld24 Try.st24 Try.ld5 Try.st5 Try.ld3 Try.st3 Try.ld27 Try.st27 Try.ld32 Try.st32 Try.ld33 Try.st33 Try.ld4 Try.st4 Try.ld41 Try.st41 Try.ld40 Try.st40 Try.ld42 Try.st42 Try.ld47 Try.st47 Try.ld48 Try.st48 Try.ld57 Try.st57 Try.ld58 Try.st58 Try.ld2 Try.st2 Try.ld9 Try.st9 Try.ld12 Try.st12 Try.ld21 Try.st21 Try.ld22 Try.st22 Try.ld46 Try.st46 Try.ld83 Try.st83 Try.ld95 Try.st95 Try.ld99 Try.st99 Try.ld106 Try.st106 Try.ld108 Try.st108 Try.ld134 Try.st134 Try.ld25 Try.st25 Try.ld26 Try.st26 Try.ld34 Try.st34 Try.ld31 Try.st31 Try.ld30 Try.st30 Try.ld74 Try.st74 Try.ld96 Try.st96 Try.ld101 Try.st101 Try.ld115 Try.st115 Try.ld116 Try.st116 Try.ld120 Try.st120 Try.ld121 Try.st121 Try.ld122 Try.st122 Try.ld29 Try.st29 Try.ld36 Try.st36 Try.ld38 Try.st38 Try.ld44 Try.st44 Try.ld50 Try.st50 Try.ld60 Try.st60 Try.ld110 Try.st110 Try.al25 Try.al26 Try.al34 Try.al31 Try.al30 Try.al74 Try.al96 Try.al101 Try.al115 Try.al116 Try.al120 Try.al121 Try.al122 Try.al29 Try.al36 Try.al38 Try.al44 Try.al50 Try.al60 Try.al110
attribute [local go_sem] Hasher.length_enc Hasher.ok_enc Hasher.all_get Hasher.all_set Hasher.state_get Hasher.state_set Hasher.block_get Hasher.block_set Hasher.fill_get Hasher.fill_set Hasher.length_get Hasher.length_set GLog.length_enc GLog.ok_enc GLog.all_get GLog.all_set GLog.entries_get GLog.entries_set GLog.shelves_get GLog.shelves_set GLog.first_get GLog.first_set GLog.second_get GLog.second_set GLog.found_get GLog.found_set Player.length_enc Player.ok_enc Player.all_get Player.all_set Player.hand_get Player.hand_set Player.aside_get Player.aside_set Player.prev_get Player.prev_set Player.last_get Player.last_set Player.log_get Player.log_set Player.hand_state_get Player.hand_state_set Player.hand_block_get Player.hand_block_set Player.hand_fill_get Player.hand_fill_set Player.hand_length_get Player.hand_length_set Player.aside_state_get Player.aside_state_set Player.aside_block_get Player.aside_block_set Player.aside_fill_get Player.aside_fill_set Player.aside_length_get Player.aside_length_set Player.log_entries_get Player.log_entries_set Player.log_shelves_get Player.log_shelves_set Player.log_first_get Player.log_first_set Player.log_second_get Player.log_second_set Player.log_found_get Player.log_found_set GOp.length_enc GOp.ok_enc GOp.all_get GOp.all_set GOp.kind_get GOp.kind_set GOp.data_get GOp.data_set GOp.cut_get GOp.cut_set GOp.n_get GOp.n_set GOp.b_get GOp.b_set GOp.v_get GOp.v_set GOp.dom_get GOp.dom_set GOp.sum_get GOp.sum_set Answer.length_enc Answer.ok_enc Answer.all_get Answer.all_set Answer.code_get Answer.code_set Answer.sum_get Answer.sum_set Answer.len_get Answer.len_set Answer.mark_get Answer.mark_set Answer.noted_get Answer.noted_set Answer.collided_get Answer.collided_set GState.length_enc GState.ok_enc GState.all_get GState.all_set GState.hand_get GState.hand_set GState.aside_get GState.aside_set GState.prev_get GState.prev_set GState.last_get GState.last_set GState.inputs_get GState.inputs_set GState.sums_get GState.sums_set GState.collided_get GState.collided_set GState.older_get GState.older_set GState.younger_get GState.younger_set Noted.length_enc Noted.ok_enc Noted.all_get Noted.all_set Noted.input_get Noted.input_set Noted.sum_get Noted.sum_set
attribute [local go_sem] size_put size_ext blk_put free_put blk_alloc free_alloc blk_drew free_drew blk_ext free_ext lookOr_some putOr_some segAt_some cellAt_some storeIn_some put_put put_alloc_new length_arr ok_arr_u8 ok_arr_u32 ok_arr_u64 ok_arr_i64 ok_arr_sl cellsV_agg cellsV_int cellsV_bool cellsV_string cellsV_pointer cellsV_slice cellsV_sl ok_int ok_bool ok_string ok_pointer ok_slice ok_sl toList_arr seg_arr set_arr nth_splice nth_splice0 seg_splice seg_splice0 splice_splice splice_splice0 length_splice_if
attribute [local go_sem] w32_and w32_or w32_xor w32_add w32_or8 w32_not w8_and w8_or w8_xor w32_shr2 w32_shl2 w32_shr3 w32_shl3 w32_shr6 w32_shl6 w32_shr7 w32_shl7 w32_shr8 w32_shl8 w32_shr10 w32_shl10 w32_shr11 w32_shl11 w32_shr13 w32_shl13 w32_shr14 w32_shl14 w32_shr15 w32_shl15 w32_shr16 w32_shl16 w32_shr17 w32_shl17 w32_shr18 w32_shl18 w32_shr19 w32_shl19 w32_shr21 w32_shl21 w32_shr22 w32_shl22 w32_shr24 w32_shl24 w32_shr25 w32_shl25 w32_shr26 w32_shl26 w32_shr30 w32_shl30 w8_shl24 w8_shl16 w8_shl8 v32_add v32_byte w32_byte0 v8_shl24 v8_shl16 v8_shl8 v32_shr2 v32_shl2 v32_shr3 v32_shl3 v32_shr6 v32_shl6 v32_shr7 v32_shl7 v32_shr8 v32_shl8 v32_shr10 v32_shl10 v32_shr11 v32_shl11 v32_shr13 v32_shl13 v32_shr14 v32_shl14 v32_shr15 v32_shl15 v32_shr16 v32_shl16 v32_shr17 v32_shl17 v32_shr18 v32_shl18 v32_shr19 v32_shl19 v32_shr21 v32_shl21 v32_shr22 v32_shl22 v32_shr24 v32_shl24 v32_shr25 v32_shl25 v32_shr26 v32_shl26 v32_shr30 v32_shl30
attribute [local go_sem ↓] execOp_build
attribute [local go_sem] run_build_kv run_build_iv nth_arr_u32 put_arr_u32 nth_arr_u8 put_arr_u8 v32_of8 blk_drewN free_drewN put_drewN put_drew blk_raw free_raw
attribute [local go_sem ↓] execOp_slice execOp_copy
attribute [local go_sem] Try.sl40lo Try.sl40hi Try.sl26lo Try.sl26hi Try.sl26 Try.sl96lo Try.sl96hi Try.sl96 Try.sl31lo Try.sl31 Try.sl120 Try.sl121 Try.sl121lo Try.sl121hi Try.cp40 copyOr_some copyIn_some srcB_drew srcB_drewN srcB_raw length_bv one_bv
attribute [local go_sem] Hasher.length_zero
attribute [local go_sem] Try.cpv copyOrV_some
attribute [local go_sem ↓] execOp_index execOp_convert execOp_box execOp_convert9
attribute [local go_sem] index_hex box_run conv_bytes eq31
attribute [local go_sem] build31
attribute [local go_sem ↓] execOp_make execOp_bslice
attribute [local go_sem] make40 bslice57 bslice58
set_option maxRecDepth 100000 in
theorem frame106 (f : Nat → Value) : frameN 106 f = #[f 0, f 1, f 2, f 3, f 4, f 5, f 6, f 7, f 8, f 9, f 10, f 11, f 12, f 13, f 14, f 15, f 16, f 17, f 18, f 19, f 20, f 21, f 22, f 23, f 24, f 25, f 26, f 27, f 28, f 29, f 30, f 31, f 32, f 33, f 34, f 35, f 36, f 37, f 38, f 39, f 40, f 41, f 42, f 43, f 44, f 45, f 46, f 47, f 48, f 49, f 50, f 51, f 52, f 53, f 54, f 55, f 56, f 57, f 58, f 59, f 60, f 61, f 62, f 63, f 64, f 65, f 66, f 67, f 68, f 69, f 70, f 71, f 72, f 73, f 74, f 75, f 76, f 77, f 78, f 79, f 80, f 81, f 82, f 83, f 84, f 85, f 86, f 87, f 88, f 89, f 90, f 91, f 92, f 93, f 94, f 95, f 96, f 97, f 98, f 99, f 100, f 101, f 102, f 103, f 104, f 105] := by kernel_rfl
def mnI (W1 : World) (bm bx : Nat) (a : Option Addr) (len cap m : Nat) (L : List Ent) (x : Ent) (f : Nat → Value) (W : World) : Prop :=
  f 0 = .pointer (some ⟨bm, 0, none⟩) ∧ f 1 = .slice a len cap ∧ f 5 = .pointer (some ⟨bx, 0, none⟩) ∧ f 15 = .int .i64 (m : Nat) ∧ ∃ i : Nat, i ≤ m ∧ f 16 = .int .i64 (i : Nat) ∧ Hid (∀ j, j < i → L[j]? ≠ some x) ∧ ∃ n, W = W1.drewN n
def Down (L : List Ent) (d : Vector UInt8 32) (n : Nat) (r : Int) : Prop :=
  (r = -1 ∧ ∀ (j : Nat) e, n ≤ j → L[j]? = some e → e.2 ≠ d) ∨ (∃ (j0 : Nat) (e0 : Ent), r = (j0 : Int) ∧ n ≤ j0 ∧ L[j0]? = some e0 ∧ e0.2 = d ∧ ∀ (j : Nat) e, n ≤ j → j < j0 → L[j]? = some e → e.2 ≠ d)
theorem Down.start (L : List Ent) (d : Vector UInt8 32) : Down L d L.length (-1) := .inl ⟨rfl, fun j e h he => by have := (List.getElem?_eq_some_iff.1 he).1; omega⟩
theorem Down.hit {L : List Ent} {d : Vector UInt8 32} {n : Nat} {r : Int} {e : Ent} (he : L[n]? = some e) (hd : e.2 = d) : Down L d n (n : Int) := .inr ⟨n, e, rfl, Nat.le_refl _, he, hd, fun j _ h1 h2 => by omega⟩
theorem Down.miss {L : List Ent} {d : Vector UInt8 32} {n : Nat} {r : Int} {e : Ent} (h : Down L d (n + 1) r) (he : L[n]? = some e) (hd : e.2 ≠ d) : Down L d n r := by
  have hn : ∀ (j : Nat) e', j = n → L[j]? = some e' → e'.2 ≠ d := fun j e' hj he' => by
    subst hj
    rw [he] at he'
    obtain rfl := Option.some.inj he'
    exact hd
  rcases h with ⟨h1, h2⟩ | ⟨j0, e0, h1, h2, h3, h4, h5⟩
  · refine .inl ⟨h1, fun j e' hj he' => ?_⟩
    by_cases q : j = n
    · exact hn j e' q he'
    · exact h2 j e' (by omega) he'
  · refine .inr ⟨j0, e0, h1, by omega, h3, h4, fun j e' hj hj2 he' => ?_⟩
    by_cases q : j = n
    · exact hn j e' q he'
    · exact h5 j e' (by omega) hj2 he'
theorem Down.end {L : List Ent} {d : Vector UInt8 32} {r : Int} (h : Down L d 0 r) : (r = -1 → L.findIdx? (fun e => decide (e.2 = d)) = none) ∧ (¬ r = -1 → ∃ j : Nat, r = (j : Int) ∧ L.findIdx? (fun e => decide (e.2 = d)) = some j) := by
  rcases h with ⟨h1, h2⟩ | ⟨j0, e0, h1, h2, h3, h4, h5⟩
  · refine ⟨fun _ => ?_, fun q => absurd h1 q⟩
    rw [List.findIdx?_eq_none_iff]
    intro e he
    obtain ⟨j, hj, q⟩ := List.getElem_of_mem he
    exact decide_eq_false (h2 j e (Nat.zero_le _) (List.getElem?_eq_some_iff.2 ⟨hj, q⟩))
  · refine ⟨fun q => by omega, fun _ => ⟨j0, h1, ?_⟩⟩
    obtain ⟨hj, e⟩ := List.getElem?_eq_some_iff.1 h3
    rw [List.findIdx?_eq_some_iff_getElem]
    refine ⟨hj, by rw [e]; exact decide_eq_true h4, fun j hj2 => ?_⟩
    simp only [decide_eq_true_eq]
    exact h5 j _ (Nat.zero_le _) hj2 (List.getElem?_eq_some_iff.2 ⟨by omega, rfl⟩)
def mnD (W1 : World) (bm bx : Nat) (a : Option Addr) (len cap m : Nat) (L : List Ent) (d : Vector UInt8 32) (f : Nat → Value) (W : World) : Prop :=
  f 0 = .pointer (some ⟨bm, 0, none⟩) ∧ f 1 = .slice a len cap ∧ f 5 = .pointer (some ⟨bx, 0, none⟩) ∧ ∃ (n : Nat) (r : Int), n ≤ m ∧ f 9 = .int .i64 ((n : Int) - 1) ∧ f 8 = .int .i64 r ∧ Hid (Down L d n r) ∧ ∃ q, W = W1.drewN q
set_option maxRecDepth 20000 in
set_option maxHeartbeats 4000000 in
theorem mnote_any (w W : World) (bm : Nat) (st : GState) (S : PS) (A : ALog) (av : Nat) (a : Option Addr) (len cap : Nat) (xs : List UInt8) (d : Vector UInt8 32) (hM : MAt w bm st S A.es A.es W) (hFd : MFd st A) (hX : BytesAt av W a len cap xs) (hlen : len ≤ 70000) (hL : A.es.length ≤ 70000) :
    Calls Try.prog 68 #[.pointer (some ⟨bm, 0, none⟩), .slice a len cap, .agg (arr u8v d).toArray] W fun e W' => ∃ st' : GState, e = .returned (.int .i64 (noteA A (xs, d)).2) ∧ MAt w bm st' S (noteA A (xs, d)).1.es (noteA A (xs, d)).1.es W' ∧ MFd st' (noteA A (xs, d)).1 ∧ MOut bm st st' W W' := by
  obtain ⟨A', k', hA⟩ : ∃ A' k', noteA A (xs, d) = (A', k') := ⟨_, _, rfl⟩
  rw [hA]
  have HA : Hid (noteA A (xs, d) = (A', k')) := hA
  clear hA
  dsimp only
  have HM : Hid (MAt w bm st S A.es A.es W) := hM
  have HFD : Hid (MFd st A) := hFd
  have HX : Hid (BytesAt av W a len cap xs) := hX
  have hb := hM.blk
  have hlt := hM.lt
  obtain ⟨m, hm⟩ : ∃ m, m = A.es.length := ⟨_, rfl⟩
  have HML : Hid (m = A.es.length) := hm
  have hil : st.inputs.len = m := by rw [hM.ins.len, hm]
  have hiv : Sl.val st.inputs = .slice st.inputs.a m st.inputs.cap := by rw [← hil]; rfl
  have hn66 : nth st.enc 66 = some (.slice st.inputs.a m st.inputs.cap) := by rw [GState.inputs_get, hiv]
  have hm7 : m ≤ 70000 := by omega
  have nb : ¬ bm = W.heap.size := by omega
  have HIB : Hid (∀ k, (Sl.val st.inputs).ownBlock = some k → bm < k ∧ k < W.heap.size) := fun k hk => by
    obtain ⟨sl, q1, _, _⟩ := hM.ins.row
    exact ⟨(row_ty q1 k hk).1, (row_ty q1 k hk).2.1⟩
  have HSB : Hid (∀ k, (Sl.val st.sums).ownBlock = some k → bm < k ∧ k < W.heap.size) := fun k hk => ⟨(row_ty hM.sms k hk).1, (row_ty hM.sms k hk).2.1⟩
  clear hM hFd hX hm hil
  go_enter Try.func68, Try.ntmps68
  go_wp2_with fail
  refine wp_loop_f 106 (mnI (W.alloc (.cells (arr u8v d).toArray 31)) bm W.heap.size a len cap m A.es (xs, d)) (fun f _ => m - (intOf (f 16)).toNat) rfl ?_ ?_
  · exact ⟨rfl, rfl, rfl, rfl, 0, by omega, rfl, fun j h => by omega, 0, rfl⟩
  obtain ⟨W1, hW1⟩ : ∃ W1, W1 = W.alloc (.cells (arr u8v d).toArray 31) := ⟨_, rfl⟩
  obtain ⟨bx, hbx0⟩ : ∃ bx, bx = W.heap.size := ⟨_, rfl⟩
  have HE1 : Hid (W.Extends W1) := by show World.Extends _ _; rw [hW1]; exact extends_alloc (ext_Ext (Ext.refl W)) _
  have hx1 : blk W1 bx = some (arr u8v d) := by rw [hW1, hbx0, blk_alloc, if_pos rfl]
  have HM1 : Hid (MAt w bm st S A.es A.es W1) := HM.out.grow HE1.out
  have hb1 := HM1.out.blk
  have HX1 : Hid (BytesAt W1.heap.size W1 a len cap xs) := HX.out.at_new (fun b hb => HE1.out.blk hb) HE1.out.size
  have hbbx : bm < bx := by omega
  rw [← hbx0] at HIB HSB
  have HWB : Hid (W.heap.size = bx) := hbx0.symm
  rw [← hW1, ← hbx0]
  clear hW1 hb HX hbx0 nb hlt HM
  intro F Wr hrel
  obtain ⟨h0, h1, h5, h15, i, him, h16, HNO, n, rfl⟩ := hrel
  have H16 : Hid (F 16 = .int .i64 (i : Nat)) := h16
  rw [frame106, h0, h1, h5, h15, h16]
  clear h0 h1 h5 h15 h16
  by_cases hil : i < m
  · skip
    obtain ⟨e, hLj⟩ : ∃ e, A.es[i]? = some e := ⟨_, List.getElem?_eq_some_iff.2 ⟨by have := HML.out; omega, rfl⟩⟩
    have HLJ : Hid (A.es[i]? = some e) := hLj
    obtain ⟨gi, ci, Ci, s, hvi, hCi, hni, hyx⟩ := HM1.out.ins.at HM1.out.ext hLj
    obtain ⟨gs, cs, Cs, hvs, hCs, hls, hsg⟩ := HM1.out.sms.at hLj
    rw [← HML.out] at hvi hvs
    have hn66' : nth st.enc 66 = some (.slice (some ⟨gi, 0, none⟩) m ci) := by rw [GState.inputs_get, hvi]; rfl
    have hn67' : nth st.enc 67 = some (.slice (some ⟨gs, 0, none⟩) m cs) := by rw [GState.sums_get, hvs]; rfl
    have HYX : Hid (BytesAt W1.heap.size W1 s.a s.len s.cap e.1) := hyx
    have hsv : Sl.val s = .slice s.a s.len s.cap := rfl
    rw [hsv] at hni
    obtain ⟨D, hD⟩ : ∃ D, D = st.enc := ⟨_, rfl⟩
    have hDb : blk W1 bm = some D := by rw [hD]; exact hb1
    rw [← hD] at hn66' hn67'
    clear hLj hyx hvi hvs hsv hb1 hn66 hiv hD
    have r0 : (0 : Int) ≤ (i : Int) := by omega
    have r1 : (i : Int) < (m : Int) := by omega
    have r2 : ((i : Int)).toNat = i := by omega
    obtain ⟨ex, ed⟩ := e
    simp only at hsg HYX
    by_cases hed : ed = d
    · have hedd : decide (ed = d) = true := decide_eq_true hed
      go_wp2_with fail
      refine wp_region_held_drew (S := fun W' => blk W' gs = some Cs ∧ blk W' gi = some Ci ∧ blk W' bx = some (arr u8v d) ∧ blk W' bm = some D) (by kernel_rfl) ⟨hCs, hCi, hx1, hDb⟩ (fun hHeld => ?_)
      refine wpAnyH_take (i := 0) (oi := ⟨_, _, _, _, _, _⟩) (v := ?_) rfl (by kernel_rfl) (by kernel_rfl) (by kernel_rfl) (fun _ _ _ h => h) (Or.inl ⟨by rfl, ?_⟩) (by assumption) ?_
      rotate_left 1
      · intro W' hSw
        obtain ⟨hS1, hS2, hS3, hS4⟩ := hSw
        go_simp
        try with_reducible rfl
      try simp only [Act.put, List.setIfInBounds_toArray, List.set_cons_zero, List.set_cons_succ]
      refine wpAnyH_take (i := 1) (oi := ⟨_, _, _, _, _, _⟩) (v := ?_) rfl (by kernel_rfl) (by kernel_rfl) (by kernel_rfl) (fun _ _ _ h => h) (Or.inl ⟨by rfl, ?_⟩) (by assumption) ?_
      rotate_left 1
      · intro W' hSw
        obtain ⟨hS1, hS2, hS3, hS4⟩ := hSw
        go_simp
        try with_reducible rfl
      try simp only [Act.put, List.setIfInBounds_toArray, List.set_cons_zero, List.set_cons_succ]
      refine wpAnyH_take (i := 2) (oi := ⟨_, _, _, _, _, _⟩) (v := ?_) rfl (by kernel_rfl) (by kernel_rfl) (by kernel_rfl) (fun _ _ _ h => h) (Or.inl ⟨by rfl, ?_⟩) (by assumption) ?_
      rotate_left 1
      · intro W' hSw
        obtain ⟨hS1, hS2, hS3, hS4⟩ := hSw
        go_simp
        try with_reducible rfl
      try simp only [Act.put, List.setIfInBounds_toArray, List.set_cons_zero, List.set_cons_succ]
      refine wpAnyH_take (i := 3) (oi := ⟨_, _, _, _, _, _⟩) (v := ?_) rfl (by kernel_rfl) (by kernel_rfl) (by kernel_rfl) (fun _ _ _ h => h) (Or.inl ⟨by rfl, ?_⟩) (by assumption) ?_
      rotate_left 1
      · intro W' hSw
        obtain ⟨hS1, hS2, hS3, hS4⟩ := hSw
        go_simp
        try with_reducible rfl
      try simp only [Act.put, List.setIfInBounds_toArray, List.set_cons_zero, List.set_cons_succ]
      refine wpAnyH_take (i := 4) (oi := ⟨_, _, _, _, _, _⟩) (v := ?_) rfl (by kernel_rfl) (by kernel_rfl) (by kernel_rfl) (fun _ _ _ h => h) (Or.inl ⟨by rfl, ?_⟩) (by assumption) ?_
      rotate_left 1
      · intro W' hSw
        obtain ⟨hS1, hS2, hS3, hS4⟩ := hSw
        go_simp
        try with_reducible rfl
      try simp only [Act.put, List.setIfInBounds_toArray, List.set_cons_zero, List.set_cons_succ]
      refine wpAnyH_take (i := 5) (oi := ⟨_, _, _, _, _, _⟩) (v := ?_) rfl (by kernel_rfl) (by kernel_rfl) (by kernel_rfl) (fun _ _ _ h => h) (Or.inl ⟨by rfl, ?_⟩) (by assumption) ?_
      rotate_left 1
      · intro W' hSw
        obtain ⟨hS1, hS2, hS3, hS4⟩ := hSw
        go_simp
        try with_reducible rfl
      try simp only [Act.put, List.setIfInBounds_toArray, List.set_cons_zero, List.set_cons_succ]
      refine wpAnyH_take (i := 6) (oi := ⟨_, _, _, _, _, _⟩) (v := ?_) rfl (by kernel_rfl) (by kernel_rfl) (by kernel_rfl) (fun _ _ _ h => h) (Or.inl ⟨by rfl, ?_⟩) (by assumption) ?_
      rotate_left 1
      · intro W' hSw
        obtain ⟨hS1, hS2, hS3, hS4⟩ := hSw
        go_simp
        try with_reducible rfl
      try simp only [Act.put, List.setIfInBounds_toArray, List.set_cons_zero, List.set_cons_succ]
      refine wpAnyH_take (i := 7) (oi := ⟨_, _, _, _, _, _⟩) (v := ?_) rfl (by kernel_rfl) (by kernel_rfl) (by kernel_rfl) (fun _ _ _ h => h) (Or.inl ⟨by rfl, ?_⟩) (by assumption) ?_
      rotate_left 1
      · intro W' hSw
        obtain ⟨hS1, hS2, hS3, hS4⟩ := hSw
        go_simp
        try with_reducible rfl
      try simp only [Act.put, List.setIfInBounds_toArray, List.set_cons_zero, List.set_cons_succ]
      refine wpAnyH_take (i := 8) (oi := ⟨_, _, _, _, _, _⟩) (v := ?_) rfl (by kernel_rfl) (by kernel_rfl) (by kernel_rfl) (fun _ _ _ h => h) (Or.inl ⟨by rfl, ?_⟩) (by assumption) ?_
      rotate_left 1
      · intro W' hSw
        obtain ⟨hS1, hS2, hS3, hS4⟩ := hSw
        go_simp
        try with_reducible rfl
      try simp only [Act.put, List.setIfInBounds_toArray, List.set_cons_zero, List.set_cons_succ]
      refine wpAnyH_take (i := 9) (oi := ⟨_, _, _, _, _, _⟩) (v := ?_) rfl (by kernel_rfl) (by kernel_rfl) (by kernel_rfl) (fun _ _ _ h => h) (Or.inl ⟨by rfl, ?_⟩) (by assumption) ?_
      rotate_left 1
      · intro W' hSw
        obtain ⟨hS1, hS2, hS3, hS4⟩ := hSw
        go_simp
        try with_reducible rfl
      try simp only [Act.put, List.setIfInBounds_toArray, List.set_cons_zero, List.set_cons_succ]
      refine wpAnyH_take (i := 10) (oi := ⟨_, _, _, _, _, _⟩) (v := ?_) rfl (by kernel_rfl) (by kernel_rfl) (by kernel_rfl) (fun _ _ _ h => h) (Or.inl ⟨by rfl, ?_⟩) (by assumption) ?_
      rotate_left 1
      · intro W' hSw
        obtain ⟨hS1, hS2, hS3, hS4⟩ := hSw
        go_simp
        try with_reducible rfl
      try simp only [Act.put, List.setIfInBounds_toArray, List.set_cons_zero, List.set_cons_succ]
      refine wpAnyH_take (i := 11) (oi := ⟨_, _, _, _, _, _⟩) (v := ?_) rfl (by kernel_rfl) (by kernel_rfl) (by kernel_rfl) (fun _ _ _ h => h) (Or.inl ⟨by rfl, ?_⟩) (by assumption) ?_
      rotate_left 1
      · intro W' hSw
        obtain ⟨hS1, hS2, hS3, hS4⟩ := hSw
        go_simp
        try with_reducible rfl
      try simp only [Act.put, List.setIfInBounds_toArray, List.set_cons_zero, List.set_cons_succ]
      refine wpAnyH_take (i := 12) (oi := ⟨_, _, _, _, _, _⟩) (v := ?_) rfl (by kernel_rfl) (by kernel_rfl) (by kernel_rfl) (fun _ _ _ h => h) (Or.inl ⟨by rfl, ?_⟩) (by assumption) ?_
      rotate_left 1
      · intro W' hSw
        obtain ⟨hS1, hS2, hS3, hS4⟩ := hSw
        go_simp
        try with_reducible rfl
      try simp only [Act.put, List.setIfInBounds_toArray, List.set_cons_zero, List.set_cons_succ]
      refine wpAnyH_take (i := 13) (oi := ⟨_, _, _, _, _, _⟩) (v := ?_) rfl (by kernel_rfl) (by kernel_rfl) (by kernel_rfl) (fun _ _ _ h => h) (Or.inl ⟨by rfl, ?_⟩) (by assumption) ?_
      rotate_left 1
      · intro W' hSw
        obtain ⟨hS1, hS2, hS3, hS4⟩ := hSw
        go_simp
        try with_reducible rfl
      try simp only [Act.put, List.setIfInBounds_toArray, List.set_cons_zero, List.set_cons_succ]
      refine wpAnyH_take (i := 14) (oi := ⟨_, _, _, _, _, _⟩) (v := ?_) rfl (by kernel_rfl) (by kernel_rfl) (by kernel_rfl) (fun _ _ _ h => h) (Or.inl ⟨by rfl, ?_⟩) (by assumption) ?_
      rotate_left 1
      · intro W' hSw
        obtain ⟨hS1, hS2, hS3, hS4⟩ := hSw
        go_simp
        try with_reducible rfl
      try simp only [Act.put, List.setIfInBounds_toArray, List.set_cons_zero, List.set_cons_succ]
      refine wpAnyH_take (i := 15) (oi := ⟨_, _, _, _, _, _⟩) (v := ?_) rfl (by kernel_rfl) (by kernel_rfl) (by kernel_rfl) (fun _ _ _ h => h) (Or.inl ⟨by rfl, ?_⟩) (by assumption) ?_
      rotate_left 1
      · intro W' hSw
        obtain ⟨hS1, hS2, hS3, hS4⟩ := hSw
        go_simp
        try with_reducible rfl
      try simp only [Act.put, List.setIfInBounds_toArray, List.set_cons_zero, List.set_cons_succ]
      refine wpAnyH_take (i := 16) (oi := ⟨_, _, _, _, _, _⟩) (v := ?_) rfl (by kernel_rfl) (by kernel_rfl) (by kernel_rfl) (fun _ _ _ h => h) (Or.inl ⟨by rfl, ?_⟩) (by assumption) ?_
      rotate_left 1
      · intro W' hSw
        obtain ⟨hS1, hS2, hS3, hS4⟩ := hSw
        go_simp
        try with_reducible rfl
      try simp only [Act.put, List.setIfInBounds_toArray, List.set_cons_zero, List.set_cons_succ]
      refine wpAnyH_take (i := 17) (oi := ⟨_, _, _, _, _, _⟩) (v := ?_) rfl (by kernel_rfl) (by kernel_rfl) (by kernel_rfl) (fun _ _ _ h => h) (Or.inl ⟨by rfl, ?_⟩) (by assumption) ?_
      rotate_left 1
      · intro W' hSw
        obtain ⟨hS1, hS2, hS3, hS4⟩ := hSw
        go_simp
        try with_reducible rfl
      try simp only [Act.put, List.setIfInBounds_toArray, List.set_cons_zero, List.set_cons_succ]
      refine wpAnyH_ready (rs := [18]) (by kernel_rfl) (by simp) ?_
      refine AllReadyH.cons (o := ⟨_, _, _, _, _, _⟩) rfl (fun K hK => ?_) AllReadyH.nil
      go_simp
      refine (same_any (W1.drewN n).drew _ _ s.a a s.len len s.cap cap ex xs (show BytesAt _ ((W1.drewN n).drew) _ _ _ _ from HYX.out) (show BytesAt _ ((W1.drewN n).drew) _ _ _ _ from HX1.out)).mono ?_
      rintro e' W2 ⟨rfl, n2, rfl⟩
      dsimp only
      refine hK.out _ _ ?_ (fun hHeld => ?_)
      · exact hHeld
      clear hK K
      try simp only [Act.put, List.setIfInBounds_toArray, List.set_cons_zero, List.set_cons_succ]
      refine wpAnyH_take (i := 19) (oi := ⟨_, _, _, _, _, _⟩) (v := ?_) rfl (by kernel_rfl) (by kernel_rfl) (by kernel_rfl) (fun _ _ _ h => h) (Or.inl ⟨by rfl, ?_⟩) (by assumption) ?_
      rotate_left 1
      · intro W' hSw
        obtain ⟨hS1, hS2, hS3, hS4⟩ := hSw
        go_simp
        try with_reducible rfl
      try simp only [Act.put, List.setIfInBounds_toArray, List.set_cons_zero, List.set_cons_succ]
      refine wpAnyH_done (by kernel_rfl) ?_ _
      by_cases hxx : ex = xs
      · have hxd : decide (ex = xs) = true := decide_eq_true hxx
        rw [hxd]
        have hq : (A', k') = (A, 2) := HA.out.symm.trans (noteA_seen (by
          have h1 := HLJ.out
          rw [hed, hxx] at h1
          exact List.mem_of_getElem? h1))
        injection hq with hq1 hq2
        subst hq1 hq2
        go_wp2_with fail
        go_ret
        have hxe : W.Extends (((W1.drewN n).drew).drewN n2) := extends_drewN (extends_drew (extends_drewN HE1.out n)) n2
        have hfin : MAt w bm st S A'.es A'.es (((W1.drewN n).drew).drewN n2) ∧ MFd st A' ∧ MOut bm st st W (((W1.drewN n).drew).drewN n2) := ⟨HM1.out.grow (extends_drewN (extends_drew (extends_drewN (ext_Ext (Ext.refl _)) n)) n2), HFD.out, MOut.of_ext hxe⟩
        first | exact ⟨st, rfl, hfin⟩ | exact ⟨rfl, st, hfin⟩
      · have hxd : decide (ex = xs) = false := decide_eq_false hxx
        rw [hxd]
        go_wp2_with fail
        refine ⟨rfl, rfl, ?_, ?_⟩
        · refine ⟨rfl, rfl, rfl, rfl, i + 1, by omega, ?_, ?_, n + 1 + n2, rfl⟩
          · show Value.int .i64 _ = _
            go_num
          · show ∀ j', _
            intro j' hj'
            by_cases q : j' < i
            · exact HNO.out j' q
            · obtain rfl : j' = i := by omega
              rw [HLJ.out]
              exact fun h => hxx (congrArg Prod.fst (Option.some.inj h))
        · show m - (intOf (Value.int .i64 _)).toNat < m - (intOf (F 16)).toNat
          rw [H16.out]
          simp [intOf]; omega
    · have hedd : decide (ed = d) = false := decide_eq_false hed
      go_wp2_with fail
      refine wp_region_held_drew (S := fun W' => blk W' gs = some Cs ∧ blk W' gi = some Ci ∧ blk W' bx = some (arr u8v d) ∧ blk W' bm = some D) (by kernel_rfl) ⟨hCs, hCi, hx1, hDb⟩ (fun hHeld => ?_)
      refine wpAnyH_take (i := 0) (oi := ⟨_, _, _, _, _, _⟩) (v := ?_) rfl (by kernel_rfl) (by kernel_rfl) (by kernel_rfl) (fun _ _ _ h => h) (Or.inl ⟨by rfl, ?_⟩) (by assumption) ?_
      rotate_left 1
      · intro W' hSw
        obtain ⟨hS1, hS2, hS3, hS4⟩ := hSw
        go_simp
        try with_reducible rfl
      try simp only [Act.put, List.setIfInBounds_toArray, List.set_cons_zero, List.set_cons_succ]
      refine wpAnyH_take (i := 1) (oi := ⟨_, _, _, _, _, _⟩) (v := ?_) rfl (by kernel_rfl) (by kernel_rfl) (by kernel_rfl) (fun _ _ _ h => h) (Or.inl ⟨by rfl, ?_⟩) (by assumption) ?_
      rotate_left 1
      · intro W' hSw
        obtain ⟨hS1, hS2, hS3, hS4⟩ := hSw
        go_simp
        try with_reducible rfl
      try simp only [Act.put, List.setIfInBounds_toArray, List.set_cons_zero, List.set_cons_succ]
      refine wpAnyH_take (i := 2) (oi := ⟨_, _, _, _, _, _⟩) (v := ?_) rfl (by kernel_rfl) (by kernel_rfl) (by kernel_rfl) (fun _ _ _ h => h) (Or.inl ⟨by rfl, ?_⟩) (by assumption) ?_
      rotate_left 1
      · intro W' hSw
        obtain ⟨hS1, hS2, hS3, hS4⟩ := hSw
        go_simp
        try with_reducible rfl
      try simp only [Act.put, List.setIfInBounds_toArray, List.set_cons_zero, List.set_cons_succ]
      refine wpAnyH_take (i := 3) (oi := ⟨_, _, _, _, _, _⟩) (v := ?_) rfl (by kernel_rfl) (by kernel_rfl) (by kernel_rfl) (fun _ _ _ h => h) (Or.inl ⟨by rfl, ?_⟩) (by assumption) ?_
      rotate_left 1
      · intro W' hSw
        obtain ⟨hS1, hS2, hS3, hS4⟩ := hSw
        go_simp
        try with_reducible rfl
      try simp only [Act.put, List.setIfInBounds_toArray, List.set_cons_zero, List.set_cons_succ]
      refine wpAnyH_take (i := 4) (oi := ⟨_, _, _, _, _, _⟩) (v := ?_) rfl (by kernel_rfl) (by kernel_rfl) (by kernel_rfl) (fun _ _ _ h => h) (Or.inl ⟨by rfl, ?_⟩) (by assumption) ?_
      rotate_left 1
      · intro W' hSw
        obtain ⟨hS1, hS2, hS3, hS4⟩ := hSw
        go_simp
        try with_reducible rfl
      try simp only [Act.put, List.setIfInBounds_toArray, List.set_cons_zero, List.set_cons_succ]
      refine wpAnyH_take (i := 5) (oi := ⟨_, _, _, _, _, _⟩) (v := ?_) rfl (by kernel_rfl) (by kernel_rfl) (by kernel_rfl) (fun _ _ _ h => h) (Or.inl ⟨by rfl, ?_⟩) (by assumption) ?_
      rotate_left 1
      · intro W' hSw
        obtain ⟨hS1, hS2, hS3, hS4⟩ := hSw
        go_simp
        try with_reducible rfl
      try simp only [Act.put, List.setIfInBounds_toArray, List.set_cons_zero, List.set_cons_succ]
      refine wpAnyH_take (i := 6) (oi := ⟨_, _, _, _, _, _⟩) (v := ?_) rfl (by kernel_rfl) (by kernel_rfl) (by kernel_rfl) (fun _ _ _ h => h) (Or.inl ⟨by rfl, ?_⟩) (by assumption) ?_
      rotate_left 1
      · intro W' hSw
        obtain ⟨hS1, hS2, hS3, hS4⟩ := hSw
        go_simp
        try with_reducible rfl
      try simp only [Act.put, List.setIfInBounds_toArray, List.set_cons_zero, List.set_cons_succ]
      refine wpAnyH_take (i := 7) (oi := ⟨_, _, _, _, _, _⟩) (v := ?_) rfl (by kernel_rfl) (by kernel_rfl) (by kernel_rfl) (fun _ _ _ h => h) (Or.inl ⟨by rfl, ?_⟩) (by assumption) ?_
      rotate_left 1
      · intro W' hSw
        obtain ⟨hS1, hS2, hS3, hS4⟩ := hSw
        go_simp
        try with_reducible rfl
      try simp only [Act.put, List.setIfInBounds_toArray, List.set_cons_zero, List.set_cons_succ]
      refine wpAnyH_take (i := 8) (oi := ⟨_, _, _, _, _, _⟩) (v := ?_) rfl (by kernel_rfl) (by kernel_rfl) (by kernel_rfl) (fun _ _ _ h => h) (Or.inl ⟨by rfl, ?_⟩) (by assumption) ?_
      rotate_left 1
      · intro W' hSw
        obtain ⟨hS1, hS2, hS3, hS4⟩ := hSw
        go_simp
        try with_reducible rfl
      try simp only [Act.put, List.setIfInBounds_toArray, List.set_cons_zero, List.set_cons_succ]
      refine wpAnyH_take (i := 9) (oi := ⟨_, _, _, _, _, _⟩) (v := ?_) rfl (by kernel_rfl) (by kernel_rfl) (by kernel_rfl) (fun _ _ _ h => h) (Or.inl ⟨by rfl, ?_⟩) (by assumption) ?_
      rotate_left 1
      · intro W' hSw
        obtain ⟨hS1, hS2, hS3, hS4⟩ := hSw
        go_simp
        try with_reducible rfl
      try simp only [Act.put, List.setIfInBounds_toArray, List.set_cons_zero, List.set_cons_succ]
      refine wpAnyH_take (i := 10) (oi := ⟨_, _, _, _, _, _⟩) (v := undef) rfl (by kernel_rfl) (by kernel_rfl) (by kernel_rfl) (fun _ _ _ h => h) (Or.inr ⟨by rfl, rfl⟩) (by assumption) ?_
      try simp only [Act.put, List.setIfInBounds_toArray, List.set_cons_zero, List.set_cons_succ]
      refine wpAnyH_take (i := 11) (oi := ⟨_, _, _, _, _, _⟩) (v := undef) rfl (by kernel_rfl) (by kernel_rfl) (by kernel_rfl) (fun _ _ _ h => h) (Or.inr ⟨by rfl, rfl⟩) (by assumption) ?_
      try simp only [Act.put, List.setIfInBounds_toArray, List.set_cons_zero, List.set_cons_succ]
      refine wpAnyH_take (i := 12) (oi := ⟨_, _, _, _, _, _⟩) (v := undef) rfl (by kernel_rfl) (by kernel_rfl) (by kernel_rfl) (fun _ _ _ h => h) (Or.inr ⟨by rfl, rfl⟩) (by assumption) ?_
      try simp only [Act.put, List.setIfInBounds_toArray, List.set_cons_zero, List.set_cons_succ]
      refine wpAnyH_take (i := 13) (oi := ⟨_, _, _, _, _, _⟩) (v := undef) rfl (by kernel_rfl) (by kernel_rfl) (by kernel_rfl) (fun _ _ _ h => h) (Or.inr ⟨by rfl, rfl⟩) (by assumption) ?_
      try simp only [Act.put, List.setIfInBounds_toArray, List.set_cons_zero, List.set_cons_succ]
      refine wpAnyH_take (i := 14) (oi := ⟨_, _, _, _, _, _⟩) (v := undef) rfl (by kernel_rfl) (by kernel_rfl) (by kernel_rfl) (fun _ _ _ h => h) (Or.inr ⟨by rfl, rfl⟩) (by assumption) ?_
      try simp only [Act.put, List.setIfInBounds_toArray, List.set_cons_zero, List.set_cons_succ]
      refine wpAnyH_take (i := 15) (oi := ⟨_, _, _, _, _, _⟩) (v := undef) rfl (by kernel_rfl) (by kernel_rfl) (by kernel_rfl) (fun _ _ _ h => h) (Or.inr ⟨by rfl, rfl⟩) (by assumption) ?_
      try simp only [Act.put, List.setIfInBounds_toArray, List.set_cons_zero, List.set_cons_succ]
      refine wpAnyH_take (i := 16) (oi := ⟨_, _, _, _, _, _⟩) (v := undef) rfl (by kernel_rfl) (by kernel_rfl) (by kernel_rfl) (fun _ _ _ h => h) (Or.inr ⟨by rfl, rfl⟩) (by assumption) ?_
      try simp only [Act.put, List.setIfInBounds_toArray, List.set_cons_zero, List.set_cons_succ]
      refine wpAnyH_take (i := 17) (oi := ⟨_, _, _, _, _, _⟩) (v := undef) rfl (by kernel_rfl) (by kernel_rfl) (by kernel_rfl) (fun _ _ _ h => h) (Or.inr ⟨by rfl, rfl⟩) (by assumption) ?_
      try simp only [Act.put, List.setIfInBounds_toArray, List.set_cons_zero, List.set_cons_succ]
      refine wpAnyH_take (i := 18) (oi := ⟨_, _, _, _, _, _⟩) (v := undef) rfl (by kernel_rfl) (by kernel_rfl) (by kernel_rfl) (fun _ _ _ h => h) (Or.inr ⟨by rfl, rfl⟩) (by assumption) ?_
      try simp only [Act.put, List.setIfInBounds_toArray, List.set_cons_zero, List.set_cons_succ]
      refine wpAnyH_take (i := 19) (oi := ⟨_, _, _, _, _, _⟩) (v := ?_) rfl (by kernel_rfl) (by kernel_rfl) (by kernel_rfl) (fun _ _ _ h => h) (Or.inl ⟨by rfl, ?_⟩) (by assumption) ?_
      rotate_left 1
      · intro W' hSw
        obtain ⟨hS1, hS2, hS3, hS4⟩ := hSw
        go_simp
        try with_reducible rfl
      try simp only [Act.put, List.setIfInBounds_toArray, List.set_cons_zero, List.set_cons_succ]
      refine wpAnyH_done (by kernel_rfl) ?_ _
      go_wp2_with fail
      refine ⟨rfl, rfl, ?_, ?_⟩
      · refine ⟨rfl, rfl, rfl, rfl, i + 1, by omega, ?_, ?_, n + 1, rfl⟩
        · show Value.int .i64 _ = _
          go_num
        · show ∀ j', _
          intro j' hj'
          by_cases q : j' < i
          · exact HNO.out j' q
          · obtain rfl : j' = i := by omega
            rw [HLJ.out]
            exact fun h => hed (congrArg Prod.snd (Option.some.inj h))
      · show m - (intOf (Value.int .i64 _)).toNat < m - (intOf (F 16)).toNat
        rw [H16.out]
        simp [intOf]; omega
  · obtain rfl : i = m := by omega
    have HNI : Hid ((xs, d) ∉ A.es) := fun hx => by
      obtain ⟨j, hj, e⟩ := List.getElem_of_mem hx
      exact HNO.out j (by rw [HML.out]; exact hj) (List.getElem?_eq_some_iff.2 ⟨hj, e⟩)
    clear HNO H16
    go_wp2_with fail
    refine wp_loop_f 106 (mnD W1 bm bx a len cap i A.es d) (fun f _ => (intOf (f 9) + 1).toNat) rfl ?_ ?_
    · refine ⟨rfl, rfl, rfl, i, -1, Nat.le_refl _, ?_, rfl, by show Down _ _ _ _; rw [HML.out]; exact Down.start _ _, n, rfl⟩
      show Value.int .i64 _ = _
      first | rfl | (congr 1; rw [wraps_i64 _ (by omega) (by omega)])
    intro F2 Wr hrel
    obtain ⟨h0, h1, h5, n2, r, hn2, h9, h8, HDW, q, rfl⟩ := hrel
    have H9 : Hid (F2 9 = .int .i64 ((n2 : Int) - 1)) := h9
    rw [frame106, h0, h1, h5, h9, h8]
    clear h0 h1 h5 h9 h8
    cases n2 with
    | succ j =>
      have hj1 : ((j + 1 : Nat) : Int) - 1 = (j : Int) := by omega
      rw [hj1]
      have hjge : (0 : Int) ≤ (j : Int) := by omega
      have hwj : IntKind.i64.wrap ((j : Int) - 1) = (j : Int) - 1 := by rw [IntKind.wrap_i64]; omega
      obtain ⟨e, hLj⟩ : ∃ e, A.es[j]? = some e := ⟨_, List.getElem?_eq_some_iff.2 ⟨by have := HML.out; omega, rfl⟩⟩
      have HLJ : Hid (A.es[j]? = some e) := hLj
      obtain ⟨gi, ci, Ci, s, hvi, hCi, hni, hyx⟩ := HM1.out.ins.at HM1.out.ext hLj
      obtain ⟨gs, cs, Cs, hvs, hCs, hls, hsg⟩ := HM1.out.sms.at hLj
      rw [← HML.out] at hvi hvs
      have hn66' : nth st.enc 66 = some (.slice (some ⟨gi, 0, none⟩) i ci) := by rw [GState.inputs_get, hvi]; rfl
      have hn67' : nth st.enc 67 = some (.slice (some ⟨gs, 0, none⟩) i cs) := by rw [GState.sums_get, hvs]; rfl
      have HYX : Hid (BytesAt W1.heap.size W1 s.a s.len s.cap e.1) := hyx
      have hsv : Sl.val s = .slice s.a s.len s.cap := rfl
      rw [hsv] at hni
      obtain ⟨D, hD⟩ : ∃ D, D = st.enc := ⟨_, rfl⟩
      have hDb : blk W1 bm = some D := by rw [hD]; exact hb1
      rw [← hD] at hn66' hn67'
      clear hLj hyx hvi hvs hsv hb1 hn66 hiv hD
      have r0 : (0 : Int) ≤ (j : Int) := by omega
      have r1 : (j : Int) < (i : Int) := by omega
      have r2 : ((j : Int)).toNat = j := by omega
      obtain ⟨ex, ed⟩ := e
      simp only at hsg HYX
      by_cases hed : ed = d
      · have hedd : decide (ed = d) = true := decide_eq_true hed
        go_wp2_with fail
        go_quiet (fail)
        go_wp2_with fail
        refine ⟨rfl, rfl, ?_, ?_⟩
        · refine ⟨rfl, rfl, rfl, j, (j : Int), by omega, ?_, rfl, Down.hit (r := r) HLJ.out hed, q + nq, rfl⟩
          show Value.int .i64 _ = _
          first | rfl | rw [hwj]
        · show (intOf (Value.int .i64 _) + 1).toNat < (intOf (F2 9) + 1).toNat
          rw [H9.out]
          first | (simp [intOf]; done) | (simp [intOf]; omega)
      · have hedd : decide (ed = d) = false := decide_eq_false hed
        go_wp2_with fail
        go_quiet (fail)
        go_wp2_with fail
        refine ⟨rfl, rfl, ?_, ?_⟩
        · refine ⟨rfl, rfl, rfl, j, r, by omega, ?_, rfl, Down.miss HDW.out HLJ.out hed, q + nq, rfl⟩
          show Value.int .i64 _ = _
          first | rfl | rw [hwj]
        · show (intOf (Value.int .i64 _) + 1).toNat < (intOf (F2 9) + 1).toNat
          rw [H9.out]
          first | (simp [intOf]; done) | (simp [intOf]; omega)
    | zero =>
      obtain ⟨hno, hyes⟩ := HDW.out.end
      have HNO : Hid (r = -1 → A.es.findIdx? (fun e => decide (e.2 = d)) = none) := hno
      have HYES : Hid (¬ r = -1 → ∃ j : Nat, r = (j : Int) ∧ A.es.findIdx? (fun e => decide (e.2 = d)) = some j) := hyes
      clear hno hyes HDW H9
      have hz1 : ((0 : Nat) : Int) - 1 = -1 := by omega
      rw [hz1]
      obtain ⟨V, hV⟩ : ∃ V, V = W1.drewN q := ⟨_, rfl⟩
      have HMV : Hid (MAt w bm st S A.es A.es V) := by show MAt _ _ _ _ _ _ _; rw [hV]; exact HM1.out.grow (extends_drewN (ext_Ext (Ext.refl _)) q)
      have HXV : Hid (BytesAt V.heap.size V a len cap xs) := by show BytesAt _ _ _ _ _ _; rw [hV]; exact HX1.out
      have hxV : blk V bx = some (arr u8v d) := by rw [hV]; exact hx1
      have HEV : Hid (W.Extends V) := by show World.Extends _ _; rw [hV]; exact extends_drewN HE1.out q
      have hbV := HMV.out.blk
      rw [← hV]
      clear hV hb1 hx1 HM1 HX1 HE1
      have hltV := HMV.out.lt
      have hsrc := HXV.out.src (Nat.le_refl len)
      have hxl := HXV.out.1
      rw [List.take_of_length_le (by omega)] at hsrc
      have HSRC : Hid (srcB V a xs.length = some (bv xs)) := by show _ = _; rw [hxl]; exact hsrc
      have HXL : Hid (len = xs.length) := hxl.symm
      clear hsrc hxl
      go_upto_region 15 with (at_builtin; refine wpList_append2 rfl _ _ rfl (bm + 1) (.slice none 0 0) [] xs a len cap rfl rfl HXL.out (OwnB.nil _ _) HSRC.out hltV (by simp; have := HXL.out; omega) ?_; intro v1 V1 ho1 hg1 hbk1)
      rw [List.nil_append] at ho1
      have hx1 : V.Extends V1 := (OwnB.nil V.heap.size V).grow (Nat.le_refl _) (ext_Ext (Ext.refl _)) hg1
      obtain ⟨kp, rfl, hkl⟩ := row_val ho1
      have HSR : Hid (SrcAt w (bm + 1) (hx st) V1 kp xs) := ⟨by have := HXL.out; omega, .inr ⟨ho1, fun k hk hxk => by
        rcases hbk1 with e | e
        · rw [e] at hk; simp [Value.ownBlock] at hk
        · rw [e] at hk
          have h1 := Option.some.inj hk
          have h2 := (HMV.out.hx_lt hxk).2.1
          omega⟩⟩
      have HM1 : Hid (MAt w bm st S A.es A.es V1) := HMV.out.grow hx1
      have hxb1 : blk V1 bx = some (arr u8v d) := (hx1.blk (blk_lt hxV)).trans hxV
      have HE1 : Hid (W.Extends V1) := HEV.out.trans hx1
      clear ho1 hg1 hbk1 hx1 hkl HSRC HXL HXV hltV HMV HEV hbV hxV
      have hbx1 := blk_lt hxb1
      have hbV1 := HM1.out.blk
      obtain ⟨ka, hka⟩ : ∃ ka, ka = kp.a := ⟨_, rfl⟩
      obtain ⟨kl, hkl⟩ : ∃ kl, kl = kp.len := ⟨_, rfl⟩
      obtain ⟨kc, hkc⟩ : ∃ kc, kc = kp.cap := ⟨_, rfl⟩
      have hkv : Sl.val kp = .slice ka kl kc := by rw [hka, hkl, hkc]; rfl
      rw [hkv]
      have hX2 : V1.Extends (V1.alloc (.cells #[.slice ka kl kc] 40)) := extends_alloc (ext_Ext (Ext.refl _)) _
      have HM2 : Hid (MAt w bm st S A.es A.es (V1.alloc (.cells #[.slice ka kl kc] 40))) := HM1.out.grow hX2
      have HSR2 : Hid (SrcAt w (bm + 1) (hx st) (V1.alloc (.cells #[.slice ka kl kc] 40)) kp xs) := HSR.out.keep fun c _ hc _ _ => hX2.block c hc
      have hg2 : blk (V1.alloc (.cells #[.slice ka kl kc] 40)) V1.heap.size = some [Sl.val kp] := by rw [blk_alloc, if_pos rfl, hkv]
      obtain ⟨vi', V3, hrun, hI3, hg3⟩ := InsI.add (xs, d) HM2.out.ins hg2 HSR2.out HM2.out.lt (by omega) 57
      rw [hiv] at hrun
      have hin_ne : some bm ≠ (Sl.val st.inputs).ownBlock := fun e => by
        obtain ⟨sl, q1, _, _⟩ := HM2.out.ins.row
        have := (row_ty q1 bm e.symm).1
        omega
      have hb3 : blk V3 bm = some st.enc := (blk_of_heap (hg3.block bm HM2.out.lt hin_ne)).trans HM2.out.blk
      have hf3 : free V3 bm = true := (free_of_heap (hg3.block bm HM2.out.lt hin_ne)).trans HM2.out.free
      have hbx2 : blk (V1.alloc (.cells #[.slice ka kl kc] 40)) bx = some (arr u8v d) := (hX2.blk hbx1).trans hxb1
      have hbx3 : blk V3 bx = some (arr u8v d) := (blk_of_heap (hg3.block bx (blk_lt hbx2) (fun e => by have := HIB.out bx e.symm; omega))).trans hbx2
      have HR3 := HM2.out.rowI hI3 hg3 hb3 hf3
      have HMO3 := (MOut.of_ext (bm := bm) (st := st) (HE1.out.trans hX2)).trans HR3.2
      have HM3 : Hid (MAt w bm { st with inputs := vi' } S (A.es ++ [(xs, d)]) A.es (put V3 bm ({ st with inputs := vi' } : GState).enc)) := HR3.1
      have HMO4 : Hid (MOut bm st { st with inputs := vi' } W (put V3 bm ({ st with inputs := vi' } : GState).enc)) := HMO3
      have hsz3 := hg3.size
      rw [World.size_alloc] at hsz3
      clear HR3 HMO3 hI3 hg3 hg2 hin_ne HM2 HSR2 HSR hX2 HM1 hka hkl hkc
      go_upto_region 16 with (at_builtin; refine wpList_append_run rfl _ _ 57 rfl _ _ _ _ rfl rfl hrun ?_)
      refine wp_world (fun V4 => blk V4 bm = some ({ st with inputs := vi' } : GState).enc ∧ blk V4 bx = some (arr u8v d) ∧ bx < V4.heap.size ∧ Hid (MAt w bm { st with inputs := vi' } S (A.es ++ [(xs, d)]) A.es V4) ∧ Hid (MOut bm st { st with inputs := vi' } W V4)) ⟨?_, ?_, ?_, HM3, HMO4⟩ ?_
      · rw [blk_put, if_pos rfl, hb3]; rfl
      · rw [blk_put, if_neg (by omega)]; exact hbx3
      · rw [size_put]; omega
      obtain ⟨st1, hst1⟩ : ∃ st1 : GState, st1 = { st with inputs := vi' } := ⟨_, rfl⟩
      rw [← hst1]
      have HST1 : Hid (st1.sums = st.sums ∧ st1.collided = st.collided ∧ st1.older = st.older ∧ st1.younger = st.younger) := by show _ ∧ _; rw [hst1]; exact ⟨rfl, rfl, rfl, rfl⟩
      clear hst1 hrun HM3 HMO4 hb3 hf3 hbx3 hbx2 hxb1 hbx1 hsz3 hkv
      rintro V4 ⟨hb4, hx4, hs4, HM4, HMO4⟩
      have hlt4 := HM4.out.lt
      have nb4 : ¬ bm = V4.heap.size := by omega
      have nx4 : ¬ bx = V4.heap.size := by omega
      go_wp2_with fail
      refine wp_region_held_drew (S := fun W' => blk W' bx = some (arr u8v d) ∧ True) (by kernel_rfl) ⟨hx4, trivial⟩ (fun hHeld => ?_)
      refine wpAnyH_take (i := 0) (oi := ⟨_, _, _, _, _, _⟩) (v := ?_) rfl (by kernel_rfl) (by kernel_rfl) (by kernel_rfl) (fun _ _ _ h => h) (Or.inl ⟨by rfl, ?_⟩) (by assumption) ?_
      rotate_left 1
      · intro W' hSw
        obtain ⟨hS1, hS2⟩ := hSw
        go_simp
        try with_reducible rfl
      try simp only [Act.put, List.setIfInBounds_toArray, List.set_cons_zero, List.set_cons_succ]
      refine wpAnyH_take (i := 1) (oi := ⟨_, _, _, _, _, _⟩) (v := ?_) rfl (by kernel_rfl) (by kernel_rfl) (by kernel_rfl) (fun _ _ _ h => h) (Or.inl ⟨by rfl, ?_⟩) (by assumption) ?_
      rotate_left 1
      · intro W' hSw
        obtain ⟨hS1, hS2⟩ := hSw
        go_simp
        try with_reducible rfl
      try simp only [Act.put, List.setIfInBounds_toArray, List.set_cons_zero, List.set_cons_succ]
      refine wpAnyH_take (i := 2) (oi := ⟨_, _, _, _, _, _⟩) (v := ?_) rfl (by kernel_rfl) (by kernel_rfl) (by kernel_rfl) (fun _ _ _ h => h) (Or.inl ⟨by rfl, ?_⟩) (by assumption) ?_
      rotate_left 1
      · intro W' hSw
        obtain ⟨hS1, hS2⟩ := hSw
        go_simp
        try with_reducible rfl
      try simp only [Act.put, List.setIfInBounds_toArray, List.set_cons_zero, List.set_cons_succ]
      refine wpAnyH_take (i := 3) (oi := ⟨_, _, _, _, _, _⟩) (v := ?_) rfl (by kernel_rfl) (by kernel_rfl) (by kernel_rfl) (fun _ _ _ h => h) (Or.inl ⟨by rfl, ?_⟩) (by assumption) ?_
      rotate_left 1
      · intro W' hSw
        obtain ⟨hS1, hS2⟩ := hSw
        go_simp
        try with_reducible rfl
      try simp only [Act.put, List.setIfInBounds_toArray, List.set_cons_zero, List.set_cons_succ]
      refine wpAnyH_take (i := 5) (oi := ⟨_, _, _, _, _, _⟩) (v := ?_) rfl (by kernel_rfl) (by kernel_rfl) (by kernel_rfl) (fun _ _ _ h => h) (Or.inl ⟨by rfl, ?_⟩) (by assumption) ?_
      rotate_left 1
      · intro W' hSw
        obtain ⟨hS1, hS2⟩ := hSw
        go_simp
        try with_reducible rfl
      try simp only [Act.put, List.setIfInBounds_toArray, List.set_cons_zero, List.set_cons_succ]
      refine wpAnyH_ready (rs := [4, 6]) (by kernel_rfl) (by simp) ?_
      refine AllReadyH.cons (o := ⟨_, _, _, _, _, _⟩) rfl (fun K hK => ?_) (AllReadyH.cons (o := ⟨_, _, _, _, _, _⟩) rfl (fun K hK => ?_) AllReadyH.nil)
      · skip
        go_simp
        refine hK.out _ _ ?_ (fun hHeld => ?_)
        · exact ⟨by first | exact hx4 | (simp only [blk_drew, blk_alloc, nx4, if_false]; exact hx4), trivial⟩
        clear hK K
        try simp only [Act.put, List.setIfInBounds_toArray, List.set_cons_zero, List.set_cons_succ]
        refine wpAnyH_ready (rs := [6]) (by kernel_rfl) (by simp) ?_
        refine AllReadyH.cons (o := ⟨_, _, _, _, _, _⟩) rfl (fun K hK => ?_) AllReadyH.nil
        go_simp
        refine hK.out _ _ ?_ (fun hHeld => ?_)
        · exact ⟨by first | exact hx4 | (simp only [blk_drew, blk_alloc, nx4, if_false]; exact hx4), trivial⟩
        clear hK K
        try simp only [Act.put, List.setIfInBounds_toArray, List.set_cons_zero, List.set_cons_succ]
        refine wpAnyH_ready (rs := [7]) (by kernel_rfl) (by simp) ?_
        refine AllReadyH.cons (o := ⟨_, _, _, _, _, _⟩) rfl (fun K hK => ?_) AllReadyH.nil
        rw [if_pos (by rfl)]
        have hX5 : V4.Extends ((V4.alloc (.cells (arr u8v d).toArray 31)).drew) := extends_drew (extends_alloc (ext_Ext (Ext.refl _)) _)
        have HM5 := HM4.out.grow hX5
        obtain ⟨vs', V5, hrun, hS5, hg5⟩ := append58 ((V4.alloc (.cells (arr u8v d).toArray 31)).drew) (bm + 1) st1.sums A.es (xs, d) V4.heap.size HM5.sms (by show blk (V4.alloc _) _ = _; rw [blk_alloc, if_pos rfl]) HM5.lt (by omega) 58
        refine wp_append_run _ _ 58 rfl _ _ _ _ rfl rfl hrun ?_
        have hsne : ∀ c, (c = bm ∨ c = bx) → some c ≠ (Sl.val st1.sums).ownBlock := fun c hc e => by
          rw [HST1.out.1] at e
          have := HSB.out c e.symm
          omega
        have hl5 : V4.heap.size ≤ (((V4.alloc (.cells (arr u8v d).toArray 31)).drew)).heap.size := hX5.size
        have hb5 : blk V5 bm = some st1.enc := (blk_of_heap (hg5.block bm (Nat.lt_of_lt_of_le hlt4 hl5) (hsne bm (.inl rfl)))).trans HM5.blk
        have hf5 : free V5 bm = true := (free_of_heap (hg5.block bm (Nat.lt_of_lt_of_le hlt4 hl5) (hsne bm (.inl rfl)))).trans HM5.free
        have hx5 : blk V5 bx = some (arr u8v d) := (blk_of_heap (hg5.block bx (Nat.lt_of_lt_of_le hs4 hl5) (hsne bx (.inr rfl)))).trans ((hX5.blk hs4).trans hx4)
        have HR5 := HM5.rowS hS5 hg5 hb5 hf5
        have HM6 : Hid (MAt w bm { st1 with sums := vs' } S (A.es ++ [(xs, d)]) (A.es ++ [(xs, d)]) (put V5 bm ({ st1 with sums := vs' } : GState).enc)) := HR5.1
        have HMO6 : Hid (MOut bm st { st1 with sums := vs' } W (put V5 bm ({ st1 with sums := vs' } : GState).enc)) := (HMO4.out.trans (MOut.of_ext hX5)).trans HR5.2
        refine hK.out _ _ ⟨hx5, trivial⟩ (fun hHeld => ?_)
        clear hK K HR5 hS5 hg5 hrun hsne hl5 HM5 hX5
        try simp only [Act.put, List.setIfInBounds_toArray, List.set_cons_zero, List.set_cons_succ]
        refine wpAnyH_take (i := 8) (oi := ⟨_, _, _, _, _, _⟩) (v := ?_) rfl (by kernel_rfl) (by kernel_rfl) (by kernel_rfl) (fun _ _ _ h => h) (Or.inl ⟨by rfl, ?_⟩) (by assumption) ?_
        rotate_left 1
        · intro W' hSw
          obtain ⟨hS1, hS2⟩ := hSw
          go_simp
          try with_reducible rfl
        try simp only [Act.put, List.setIfInBounds_toArray, List.set_cons_zero, List.set_cons_succ]
        refine wpAnyH_take (i := 9) (oi := ⟨_, _, _, _, _, _⟩) (v := ?_) rfl (by kernel_rfl) (by kernel_rfl) (by kernel_rfl) (fun _ _ _ h => h) (Or.inl ⟨by rfl, ?_⟩) (by assumption) ?_
        rotate_left 1
        · intro W' hSw
          obtain ⟨hS1, hS2⟩ := hSw
          go_simp
          try with_reducible rfl
        try simp only [Act.put, List.setIfInBounds_toArray, List.set_cons_zero, List.set_cons_succ]
        refine wpAnyH_ready (rs := [10]) (by kernel_rfl) (by simp) ?_
        refine AllReadyH.cons (o := ⟨_, _, _, _, _, _⟩) rfl (fun K hK => ?_) AllReadyH.nil
        go_simp
        refine hK.out _ _ ?_ (fun hHeld => ?_)
        · exact ⟨by rw [blk_put, if_neg (by omega)]; exact hx5, trivial⟩
        clear hK K
        try simp only [Act.put, List.setIfInBounds_toArray, List.set_cons_zero, List.set_cons_succ]
        refine wpAnyH_done (by kernel_rfl) ?_ _
        go_upto_region 17 with fail
        refine wp_world (fun V6 => blk V6 bm = some ({ st1 with sums := vs' } : GState).enc ∧ Hid (MAt w bm { st1 with sums := vs' } S (A.es ++ [(xs, d)]) (A.es ++ [(xs, d)]) V6) ∧ Hid (MOut bm st { st1 with sums := vs' } W V6)) ⟨?_, HM6, HMO6⟩ ?_
        · rw [blk_put, if_pos rfl, hb5]; rfl
        obtain ⟨st2, hst2⟩ : ∃ st2 : GState, st2 = { st1 with sums := vs' } := ⟨_, rfl⟩
        rw [← hst2]
        have HST2 : Hid (st2.collided = st.collided ∧ st2.older = st.older ∧ st2.younger = st.younger) := by show _ ∧ _; rw [hst2]; exact HST1.out.2
        have hil2 : st2.inputs.len = i + 1 := by
          have h1 := HM6.out.ins.len
          rw [← hst2] at h1
          rw [h1, List.length_append, HML.out]
          rfl
        have hiv2 : Sl.val st2.inputs = .slice st2.inputs.a (i + 1) st2.inputs.cap := by rw [← hil2]; rfl
        have hn66b : nth st2.enc 66 = some (.slice st2.inputs.a (i + 1) st2.inputs.cap) := by rw [GState.inputs_get, hiv2]
        clear hst2 HM6 HMO6 hb5 hf5 hx5 hb4 hx4 hil2
        rintro V6 ⟨hb6, HM6, HMO6⟩
        have hlt6 := HM6.out.lt
        have hf6 := HM6.out.free
        have hwi : IntKind.i64.wrap (((i + 1 : Nat) : Int) - 1) = (i : Int) := by rw [wraps_i64 _ (by omega) (by omega)]; omega
        have hwi2 : IntKind.i64.wrap ((i : Int) + 1 - 1) = (i : Int) := by rw [wraps_i64 _ (by omega) (by omega)]; omega
        have hwi3 : IntKind.i64.wrap (i : Int) = (i : Int) := by rw [wraps_i64 _ (by omega) (by omega)]
        by_cases hrn : r = -1
        · have hq : (A', k') = (⟨A.es ++ [(xs, d)], A.fd⟩, 1) := HA.out.symm.trans (noteA_fresh HNI.out (HNO.out hrn))
          injection hq with hq1 hq2
          subst hq1 hq2
          subst hrn
          go_wp2_with fail
          go_ret
          have hfin : MAt w bm st2 S (A.es ++ [(xs, d)]) (A.es ++ [(xs, d)]) V6 ∧ MFd st2 ⟨A.es ++ [(xs, d)], A.fd⟩ ∧ MOut bm st st2 W V6 := ⟨HM6.out, ⟨HST2.out.1.trans HFD.out.1, fun i j h => ⟨HST2.out.2.1.trans (HFD.out.2 i j h).1, HST2.out.2.2.trans (HFD.out.2 i j h).2⟩⟩, HMO6.out⟩
          first | exact ⟨st2, rfl, hfin⟩ | exact ⟨rfl, st2, hfin⟩
        · obtain ⟨rj, hrj, hfi⟩ := HYES.out hrn
          have hrb : (r == -1) = false := by simp [hrn]
          have HRJ : Hid (r = (rj : Int)) := hrj
          clear hrj
          by_cases hfo : st2.collided = true
          · have hq : (A', k') = (⟨A.es ++ [(xs, d)], A.fd⟩, 3) := HA.out.symm.trans (noteA_old HNI.out hfi (by rw [← HFD.out.1, ← HST2.out.1]; exact hfo))
            injection hq with hq1 hq2
            subst hq1 hq2
            go_wp2_with fail
            go_ret
            have hfin : MAt w bm st2 S (A.es ++ [(xs, d)]) (A.es ++ [(xs, d)]) V6 ∧ MFd st2 ⟨A.es ++ [(xs, d)], A.fd⟩ ∧ MOut bm st st2 W V6 := ⟨HM6.out, ⟨HST2.out.1.trans HFD.out.1, fun i j h => ⟨HST2.out.2.1.trans (HFD.out.2 i j h).1, HST2.out.2.2.trans (HFD.out.2 i j h).2⟩⟩, HMO6.out⟩
            first | exact ⟨st2, rfl, hfin⟩ | exact ⟨rfl, st2, hfin⟩
          · have hfo' : st2.collided = false := by simpa using hfo
            have hnon : A.fd = none := by
              have h1 := HFD.out.1
              rw [← HST2.out.1, hfo'] at h1
              cases hh : A.fd with
              | none => rfl
              | some q => rw [hh] at h1; simp at h1
            have hq : (A', k') = (⟨A.es ++ [(xs, d)], some (rj, A.es.length)⟩, 3) := HA.out.symm.trans (noteA_met HNI.out hfi hnon)
            injection hq with hq1 hq2
            subst hq1 hq2
            clear hnon
            go_wp2_with fail
            go_ret
            have hO : Out V6 (put V6 bm ({ st2 with collided := true, older := r, younger := (i : Int) } : GState).enc) bm ({ st2 with collided := true, older := r, younger := (i : Int) } : GState).enc := (Out.mk0 hb6).put _ hlt6
            have hR := HM6.out.out (S' := S) hO HM6.out.hd HM6.out.asd HM6.out.ne (fun k q => q) rfl rfl HM6.out.pv HM6.out.ls
            have hfin : MAt w bm { st2 with collided := true, older := r, younger := (i : Int) } S (A.es ++ [(xs, d)]) (A.es ++ [(xs, d)]) (put V6 bm ({ st2 with collided := true, older := r, younger := (i : Int) } : GState).enc) ∧ MFd { st2 with collided := true, older := r, younger := (i : Int) } ⟨A.es ++ [(xs, d)], some (rj, A.es.length)⟩ ∧ MOut bm st { st2 with collided := true, older := r, younger := (i : Int) } W (put V6 bm ({ st2 with collided := true, older := r, younger := (i : Int) } : GState).enc) := ⟨hR.1, ⟨rfl, fun i' j' h => by injection h with h; injection h with h1 h2; subst h1 h2; exact ⟨HRJ.out, by show (i : Int) = _; rw [HML.out]⟩⟩, HMO6.out.trans hR.2⟩
            first | exact ⟨_, rfl, hfin⟩ | exact ⟨rfl, _, hfin⟩
      · skip
        go_simp
        refine hK.out _ _ ?_ (fun hHeld => ?_)
        · exact ⟨by first | exact hx4 | (simp only [blk_drew, blk_alloc, nx4, if_false]; exact hx4), trivial⟩
        clear hK K
        try simp only [Act.put, List.setIfInBounds_toArray, List.set_cons_zero, List.set_cons_succ]
        refine wpAnyH_ready (rs := [4]) (by kernel_rfl) (by simp) ?_
        refine AllReadyH.cons (o := ⟨_, _, _, _, _, _⟩) rfl (fun K hK => ?_) AllReadyH.nil
        go_simp
        refine hK.out _ _ ?_ (fun hHeld => ?_)
        · exact ⟨by first | exact hx4 | (simp only [blk_drew, blk_alloc, nx4, if_false]; exact hx4), trivial⟩
        clear hK K
        try simp only [Act.put, List.setIfInBounds_toArray, List.set_cons_zero, List.set_cons_succ]
        refine wpAnyH_ready (rs := [7]) (by kernel_rfl) (by simp) ?_
        refine AllReadyH.cons (o := ⟨_, _, _, _, _, _⟩) rfl (fun K hK => ?_) AllReadyH.nil
        rw [if_pos (by rfl)]
        have hX5 : V4.Extends ((V4.alloc (.cells (arr u8v d).toArray 31)).drew) := extends_drew (extends_alloc (ext_Ext (Ext.refl _)) _)
        have HM5 := HM4.out.grow hX5
        obtain ⟨vs', V5, hrun, hS5, hg5⟩ := append58 ((V4.alloc (.cells (arr u8v d).toArray 31)).drew) (bm + 1) st1.sums A.es (xs, d) V4.heap.size HM5.sms (by show blk (V4.alloc _) _ = _; rw [blk_alloc, if_pos rfl]) HM5.lt (by omega) 58
        refine wp_append_run _ _ 58 rfl _ _ _ _ rfl rfl hrun ?_
        have hsne : ∀ c, (c = bm ∨ c = bx) → some c ≠ (Sl.val st1.sums).ownBlock := fun c hc e => by
          rw [HST1.out.1] at e
          have := HSB.out c e.symm
          omega
        have hl5 : V4.heap.size ≤ (((V4.alloc (.cells (arr u8v d).toArray 31)).drew)).heap.size := hX5.size
        have hb5 : blk V5 bm = some st1.enc := (blk_of_heap (hg5.block bm (Nat.lt_of_lt_of_le hlt4 hl5) (hsne bm (.inl rfl)))).trans HM5.blk
        have hf5 : free V5 bm = true := (free_of_heap (hg5.block bm (Nat.lt_of_lt_of_le hlt4 hl5) (hsne bm (.inl rfl)))).trans HM5.free
        have hx5 : blk V5 bx = some (arr u8v d) := (blk_of_heap (hg5.block bx (Nat.lt_of_lt_of_le hs4 hl5) (hsne bx (.inr rfl)))).trans ((hX5.blk hs4).trans hx4)
        have HR5 := HM5.rowS hS5 hg5 hb5 hf5
        have HM6 : Hid (MAt w bm { st1 with sums := vs' } S (A.es ++ [(xs, d)]) (A.es ++ [(xs, d)]) (put V5 bm ({ st1 with sums := vs' } : GState).enc)) := HR5.1
        have HMO6 : Hid (MOut bm st { st1 with sums := vs' } W (put V5 bm ({ st1 with sums := vs' } : GState).enc)) := (HMO4.out.trans (MOut.of_ext hX5)).trans HR5.2
        refine hK.out _ _ ⟨hx5, trivial⟩ (fun hHeld => ?_)
        clear hK K HR5 hS5 hg5 hrun hsne hl5 HM5 hX5
        try simp only [Act.put, List.setIfInBounds_toArray, List.set_cons_zero, List.set_cons_succ]
        refine wpAnyH_take (i := 8) (oi := ⟨_, _, _, _, _, _⟩) (v := ?_) rfl (by kernel_rfl) (by kernel_rfl) (by kernel_rfl) (fun _ _ _ h => h) (Or.inl ⟨by rfl, ?_⟩) (by assumption) ?_
        rotate_left 1
        · intro W' hSw
          obtain ⟨hS1, hS2⟩ := hSw
          go_simp
          try with_reducible rfl
        try simp only [Act.put, List.setIfInBounds_toArray, List.set_cons_zero, List.set_cons_succ]
        refine wpAnyH_take (i := 9) (oi := ⟨_, _, _, _, _, _⟩) (v := ?_) rfl (by kernel_rfl) (by kernel_rfl) (by kernel_rfl) (fun _ _ _ h => h) (Or.inl ⟨by rfl, ?_⟩) (by assumption) ?_
        rotate_left 1
        · intro W' hSw
          obtain ⟨hS1, hS2⟩ := hSw
          go_simp
          try with_reducible rfl
        try simp only [Act.put, List.setIfInBounds_toArray, List.set_cons_zero, List.set_cons_succ]
        refine wpAnyH_ready (rs := [10]) (by kernel_rfl) (by simp) ?_
        refine AllReadyH.cons (o := ⟨_, _, _, _, _, _⟩) rfl (fun K hK => ?_) AllReadyH.nil
        go_simp
        refine hK.out _ _ ?_ (fun hHeld => ?_)
        · exact ⟨by rw [blk_put, if_neg (by omega)]; exact hx5, trivial⟩
        clear hK K
        try simp only [Act.put, List.setIfInBounds_toArray, List.set_cons_zero, List.set_cons_succ]
        refine wpAnyH_done (by kernel_rfl) ?_ _
        go_upto_region 17 with fail
        refine wp_world (fun V6 => blk V6 bm = some ({ st1 with sums := vs' } : GState).enc ∧ Hid (MAt w bm { st1 with sums := vs' } S (A.es ++ [(xs, d)]) (A.es ++ [(xs, d)]) V6) ∧ Hid (MOut bm st { st1 with sums := vs' } W V6)) ⟨?_, HM6, HMO6⟩ ?_
        · rw [blk_put, if_pos rfl, hb5]; rfl
        obtain ⟨st2, hst2⟩ : ∃ st2 : GState, st2 = { st1 with sums := vs' } := ⟨_, rfl⟩
        rw [← hst2]
        have HST2 : Hid (st2.collided = st.collided ∧ st2.older = st.older ∧ st2.younger = st.younger) := by show _ ∧ _; rw [hst2]; exact HST1.out.2
        have hil2 : st2.inputs.len = i + 1 := by
          have h1 := HM6.out.ins.len
          rw [← hst2] at h1
          rw [h1, List.length_append, HML.out]
          rfl
        have hiv2 : Sl.val st2.inputs = .slice st2.inputs.a (i + 1) st2.inputs.cap := by rw [← hil2]; rfl
        have hn66b : nth st2.enc 66 = some (.slice st2.inputs.a (i + 1) st2.inputs.cap) := by rw [GState.inputs_get, hiv2]
        clear hst2 HM6 HMO6 hb5 hf5 hx5 hb4 hx4 hil2
        rintro V6 ⟨hb6, HM6, HMO6⟩
        have hlt6 := HM6.out.lt
        have hf6 := HM6.out.free
        have hwi : IntKind.i64.wrap (((i + 1 : Nat) : Int) - 1) = (i : Int) := by rw [wraps_i64 _ (by omega) (by omega)]; omega
        have hwi2 : IntKind.i64.wrap ((i : Int) + 1 - 1) = (i : Int) := by rw [wraps_i64 _ (by omega) (by omega)]; omega
        have hwi3 : IntKind.i64.wrap (i : Int) = (i : Int) := by rw [wraps_i64 _ (by omega) (by omega)]
        by_cases hrn : r = -1
        · have hq : (A', k') = (⟨A.es ++ [(xs, d)], A.fd⟩, 1) := HA.out.symm.trans (noteA_fresh HNI.out (HNO.out hrn))
          injection hq with hq1 hq2
          subst hq1 hq2
          subst hrn
          go_wp2_with fail
          go_ret
          have hfin : MAt w bm st2 S (A.es ++ [(xs, d)]) (A.es ++ [(xs, d)]) V6 ∧ MFd st2 ⟨A.es ++ [(xs, d)], A.fd⟩ ∧ MOut bm st st2 W V6 := ⟨HM6.out, ⟨HST2.out.1.trans HFD.out.1, fun i j h => ⟨HST2.out.2.1.trans (HFD.out.2 i j h).1, HST2.out.2.2.trans (HFD.out.2 i j h).2⟩⟩, HMO6.out⟩
          first | exact ⟨st2, rfl, hfin⟩ | exact ⟨rfl, st2, hfin⟩
        · obtain ⟨rj, hrj, hfi⟩ := HYES.out hrn
          have hrb : (r == -1) = false := by simp [hrn]
          have HRJ : Hid (r = (rj : Int)) := hrj
          clear hrj
          by_cases hfo : st2.collided = true
          · have hq : (A', k') = (⟨A.es ++ [(xs, d)], A.fd⟩, 3) := HA.out.symm.trans (noteA_old HNI.out hfi (by rw [← HFD.out.1, ← HST2.out.1]; exact hfo))
            injection hq with hq1 hq2
            subst hq1 hq2
            go_wp2_with fail
            go_ret
            have hfin : MAt w bm st2 S (A.es ++ [(xs, d)]) (A.es ++ [(xs, d)]) V6 ∧ MFd st2 ⟨A.es ++ [(xs, d)], A.fd⟩ ∧ MOut bm st st2 W V6 := ⟨HM6.out, ⟨HST2.out.1.trans HFD.out.1, fun i j h => ⟨HST2.out.2.1.trans (HFD.out.2 i j h).1, HST2.out.2.2.trans (HFD.out.2 i j h).2⟩⟩, HMO6.out⟩
            first | exact ⟨st2, rfl, hfin⟩ | exact ⟨rfl, st2, hfin⟩
          · have hfo' : st2.collided = false := by simpa using hfo
            have hnon : A.fd = none := by
              have h1 := HFD.out.1
              rw [← HST2.out.1, hfo'] at h1
              cases hh : A.fd with
              | none => rfl
              | some q => rw [hh] at h1; simp at h1
            have hq : (A', k') = (⟨A.es ++ [(xs, d)], some (rj, A.es.length)⟩, 3) := HA.out.symm.trans (noteA_met HNI.out hfi hnon)
            injection hq with hq1 hq2
            subst hq1 hq2
            clear hnon
            go_wp2_with fail
            go_ret
            have hO : Out V6 (put V6 bm ({ st2 with collided := true, older := r, younger := (i : Int) } : GState).enc) bm ({ st2 with collided := true, older := r, younger := (i : Int) } : GState).enc := (Out.mk0 hb6).put _ hlt6
            have hR := HM6.out.out (S' := S) hO HM6.out.hd HM6.out.asd HM6.out.ne (fun k q => q) rfl rfl HM6.out.pv HM6.out.ls
            have hfin : MAt w bm { st2 with collided := true, older := r, younger := (i : Int) } S (A.es ++ [(xs, d)]) (A.es ++ [(xs, d)]) (put V6 bm ({ st2 with collided := true, older := r, younger := (i : Int) } : GState).enc) ∧ MFd { st2 with collided := true, older := r, younger := (i : Int) } ⟨A.es ++ [(xs, d)], some (rj, A.es.length)⟩ ∧ MOut bm st { st2 with collided := true, older := r, younger := (i : Int) } W (put V6 bm ({ st2 with collided := true, older := r, younger := (i : Int) } : GState).enc) := ⟨hR.1, ⟨rfl, fun i' j' h => by injection h with h; injection h with h1 h2; subst h1 h2; exact ⟨HRJ.out, by show (i : Int) = _; rw [HML.out]⟩⟩, HMO6.out.trans hR.2⟩
            first | exact ⟨_, rfl, hfin⟩ | exact ⟨rfl, _, hfin⟩
end Go.Proofs.Qxb6500785a
