import Derived.Test.Qxb6500785aSmall
import Derived.Test.Qxb6500785aKnown
import Derived.Deep.RegionHeld
import Derived.Deep.CutRange
import Derived.Laws.ResultCell
import Derived.Laws.Rows
set_option linter.unusedSimpArgs false
set_option linter.unusedVariables false
namespace Go.Proofs.Qxb6500785a
open Go.RowKit Go.Blk
attribute [local go_sem ↓] execOp_load execOp_store execOp_alloc
attribute [local go_sem] Try.ld24 Try.st24 Try.ld5 Try.st5 Try.ld3 Try.st3 Try.ld27 Try.st27 Try.ld32 Try.st32 Try.ld33 Try.st33 Try.ld4 Try.st4 Try.ld41 Try.st41 Try.ld40 Try.st40 Try.ld42 Try.st42 Try.ld47 Try.st47 Try.ld48 Try.st48 Try.ld57 Try.st57 Try.ld58 Try.st58 Try.ld2 Try.st2 Try.ld9 Try.st9 Try.ld12 Try.st12 Try.ld21 Try.st21 Try.ld22 Try.st22 Try.ld46 Try.st46 Try.ld83 Try.st83 Try.ld95 Try.st95 Try.ld99 Try.st99 Try.ld106 Try.st106 Try.ld108 Try.st108 Try.ld134 Try.st134 Try.ld25 Try.st25 Try.ld26 Try.st26 Try.ld34 Try.st34 Try.ld31 Try.st31 Try.ld30 Try.st30 Try.ld74 Try.st74 Try.ld96 Try.st96 Try.ld101 Try.st101 Try.ld115 Try.st115 Try.ld116 Try.st116 Try.ld120 Try.st120 Try.ld121 Try.st121 Try.ld122 Try.st122 Try.ld29 Try.st29 Try.ld36 Try.st36 Try.ld38 Try.st38 Try.ld44 Try.st44 Try.ld50 Try.st50 Try.ld60 Try.st60 Try.ld110 Try.st110 Try.al25 Try.al26 Try.al34 Try.al31 Try.al30 Try.al74 Try.al96 Try.al101 Try.al115 Try.al116 Try.al120 Try.al121 Try.al122 Try.al29 Try.al36 Try.al38 Try.al44 Try.al50 Try.al60 Try.al110
attribute [local go_sem] Hasher.length_enc Hasher.ok_enc Hasher.all_get Hasher.all_set Hasher.state_get Hasher.state_set Hasher.block_get Hasher.block_set Hasher.fill_get Hasher.fill_set Hasher.length_get Hasher.length_set GLog.length_enc GLog.ok_enc GLog.all_get GLog.all_set GLog.entries_get GLog.entries_set GLog.shelves_get GLog.shelves_set GLog.first_get GLog.first_set GLog.second_get GLog.second_set GLog.found_get GLog.found_set Player.length_enc Player.ok_enc Player.all_get Player.all_set Player.hand_get Player.hand_set Player.aside_get Player.aside_set Player.prev_get Player.prev_set Player.last_get Player.last_set Player.log_get Player.log_set Player.hand_state_get Player.hand_state_set Player.hand_block_get Player.hand_block_set Player.hand_fill_get Player.hand_fill_set Player.hand_length_get Player.hand_length_set Player.aside_state_get Player.aside_state_set Player.aside_block_get Player.aside_block_set Player.aside_fill_get Player.aside_fill_set Player.aside_length_get Player.aside_length_set Player.log_entries_get Player.log_entries_set Player.log_shelves_get Player.log_shelves_set Player.log_first_get Player.log_first_set Player.log_second_get Player.log_second_set Player.log_found_get Player.log_found_set GOp.length_enc GOp.ok_enc GOp.all_get GOp.all_set GOp.kind_get GOp.kind_set GOp.data_get GOp.data_set GOp.cut_get GOp.cut_set GOp.n_get GOp.n_set GOp.b_get GOp.b_set GOp.v_get GOp.v_set GOp.dom_get GOp.dom_set GOp.sum_get GOp.sum_set Answer.length_enc Answer.ok_enc Answer.all_get Answer.all_set Answer.code_get Answer.code_set Answer.sum_get Answer.sum_set Answer.len_get Answer.len_set Answer.mark_get Answer.mark_set Answer.noted_get Answer.noted_set Answer.collided_get Answer.collided_set GState.length_enc GState.ok_enc GState.all_get GState.all_set GState.hand_get GState.hand_set GState.aside_get GState.aside_set GState.prev_get GState.prev_set GState.last_get GState.last_set GState.inputs_get GState.inputs_set GState.sums_get GState.sums_set GState.collided_get GState.collided_set GState.older_get GState.older_set GState.younger_get GState.younger_set Noted.length_enc Noted.ok_enc Noted.all_get Noted.all_set Noted.input_get Noted.input_set Noted.sum_get Noted.sum_set
attribute [local go_sem] size_put size_ext blk_put free_put blk_alloc free_alloc blk_drew free_drew blk_ext free_ext lookOr_some putOr_some segAt_some cellAt_some storeIn_some put_put put_alloc_new length_arr ok_arr_u8 ok_arr_u32 ok_arr_u64 ok_arr_i64 ok_arr_sl cellsV_agg cellsV_int cellsV_bool cellsV_string cellsV_pointer cellsV_slice cellsV_sl ok_int ok_bool ok_string ok_pointer ok_slice ok_sl toList_arr seg_arr set_arr nth_splice nth_splice0 seg_splice seg_splice0 splice_splice splice_splice0 length_splice_if
attribute [local go_sem] w32_and w32_or w32_xor w32_add w32_or8 w32_not w8_and w8_or w8_xor w32_shr2 w32_shl2 w32_shr3 w32_shl3 w32_shr6 w32_shl6 w32_shr7 w32_shl7 w32_shr8 w32_shl8 w32_shr10 w32_shl10 w32_shr11 w32_shl11 w32_shr13 w32_shl13 w32_shr14 w32_shl14 w32_shr15 w32_shl15 w32_shr16 w32_shl16 w32_shr17 w32_shl17 w32_shr18 w32_shl18 w32_shr19 w32_shl19 w32_shr21 w32_shl21 w32_shr22 w32_shl22 w32_shr24 w32_shl24 w32_shr25 w32_shl25 w32_shr26 w32_shl26 w32_shr30 w32_shl30 w8_shl24 w8_shl16 w8_shl8 v32_add v32_byte w32_byte0 v8_shl24 v8_shl16 v8_shl8 v32_shr2 v32_shl2 v32_shr3 v32_shl3 v32_shr6 v32_shl6 v32_shr7 v32_shl7 v32_shr8 v32_shl8 v32_shr10 v32_shl10 v32_shr11 v32_shl11 v32_shr13 v32_shl13 v32_shr14 v32_shl14 v32_shr15 v32_shl15 v32_shr16 v32_shl16 v32_shr17 v32_shl17 v32_shr18 v32_shl18 v32_shr19 v32_shl19 v32_shr21 v32_shl21 v32_shr22 v32_shl22 v32_shr24 v32_shl24 v32_shr25 v32_shl25 v32_shr26 v32_shl26 v32_shr30 v32_shl30
attribute [local go_sem ↓] execOp_build
attribute [local go_sem] run_build_kv run_build_iv nth_arr_u32 put_arr_u32 nth_arr_u8 put_arr_u8 v32_of8 blk_drewN free_drewN put_drewN put_drew blk_raw free_raw
attribute [local go_sem ↓] execOp_slice execOp_copy
attribute [local go_sem] Try.sl40lo Try.sl40hi Try.sl26lo Try.sl26hi Try.sl26 Try.sl96lo Try.sl96hi Try.sl96 Try.sl31lo Try.sl31 Try.sl120 Try.sl121 Try.sl121lo Try.sl121hi Try.cp40 copyOr_some copyIn_some srcB_drew srcB_drewN srcB_raw length_bv one_bv
attribute [local go_sem] Hasher.length_zero
attribute [local go_sem] Try.cpv copyOrV_some
attribute [local go_sem ↓] execOp_index execOp_convert execOp_box execOp_convert9
attribute [local go_sem] index_hex box_run conv_bytes eq31
attribute [local go_sem] build31
attribute [local go_sem ↓] execOp_make
theorem hlen_any (w : World) (b o : Nat) (C : List Value) (h : Hasher) (hb : blk w b = some (splice C o h.enc)) (hC : o + 74 ≤ C.length) :
    Calls Try.prog 18 #[.pointer (some ⟨b, o, none⟩)] w fun e w' => e = .returned (.int .u64 (w64 h.length)) ∧ w' = w := by
  go_enter Try.func18, Try.ntmps18
  go_wp2_with fail
  go_ret
  exact ⟨rfl, rfl⟩
theorem whole_at {n : Nat} (w : World) (d : Vector UInt8 n) (av b : Nat) (hb : blk w b = some (arr u8v d)) (hn : b ≠ av) (hs : n < 1000) : BytesAt av w (some ⟨b, 0, none⟩) n n d.toList := by
  refine ⟨by simp, Nat.le_refl _, ⟨by omega, by omega⟩, fun _ => ⟨b, 0, _, rfl, hn, hb, by rw [length_arr]; omega, ?_⟩⟩
  rw [seg_arr]
  unfold arr bv
  rfl
def v4 (x : UInt32) : Vector UInt8 4 := #v[(x >>> 24).toUInt8, (x >>> 16).toUInt8, (x >>> 8).toUInt8, x.toUInt8]
theorem v4_list (x : UInt32) : (v4 x).toList = be4 x := rfl
theorem v4_put (z : Vector UInt8 4) (x : UInt32) : splice (arr u8v z) 0 (bv [(x >>> 24).toUInt8, (x >>> 16).toUInt8, (x >>> 8).toUInt8, x.toUInt8]) = arr u8v (v4 x) := by
  rw [show bv [(x >>> 24).toUInt8, (x >>> 16).toUInt8, (x >>> 8).toUInt8, x.toUInt8] = arr u8v (v4 x) from rfl]
  exact set_arr _ _ _ _
set_option maxRecDepth 20000 in
set_option maxHeartbeats 2000000 in
theorem uint32_ok (w : World) (b o : Nat) (C : List Value) (h : Hasher) (m : List UInt8) (x : UInt32) (hb : blk w b = some (splice C o h.enc)) (hC : o + 74 ≤ C.length) (hf : free w b = true) (hR : Rep h m) (hroom : m.length + 4 ≤ 2305843009213693951) :
    Calls Try.prog 47 #[.pointer (some ⟨b, o, none⟩), .int .u32 (w32 x)] w fun e w' => e = .returned (.int .i64 0) ∧ ∃ h', Rep h' (m ++ be4 x) ∧ Out w w' b (splice C o h'.enc) := by
  have hlt := blk_lt hb
  have HR : Hid (Rep h m) := hR
  clear hR
  go_enter Try.func47, Try.ntmps47
  go_wp2_with fail
  refine (put32_any _ w.heap.size 0 4 4 (arr u8v (Vector.replicate 4 0)) x (by rw [blk_alloc, if_pos rfl]) (by rw [length_arr]; omega) (by rw [free_alloc, if_pos rfl]) (by omega)).mono ?_
  rintro e w2 ⟨rfl, ho⟩
  rw [v4_put] at ho
  have h4 := ho.blk_at (C := arr u8v (Vector.replicate 4 (0 : UInt8))) (by rw [blk_alloc, if_pos rfl])
  have hb2 : blk w2 b = some (splice C o h.enc) := by rw [ho.blk_other (by rw [World.size_alloc]; omega) (by omega), blk_alloc, if_neg (by omega)]; exact hb
  have hf2 : free w2 b = true := by rw [ho.free (by rw [World.size_alloc]; omega), free_alloc, if_neg (by omega)]; exact hf
  have HE2 : Hid (Ext w w2) := by
    obtain ⟨G, n, e⟩ := ho
    rw [e]
    exact (((Ext.refl w).alloc _).put_new _ _ (Nat.le_refl _)).ext G n
  clear ho
  go_wp2_with fail
  refine (write_ok _ b o C h m (v4 x).toList _ _ _ hb2 hC hf2 HR.out (whole_at w2 (v4 x) b w.heap.size h4 (by omega) (by omega)) hroom).mono ?_
  rintro e w3 ⟨rfl, h', hR', ho⟩
  rw [v4_list] at hR'
  have HR' : Hid (Rep h' (m ++ be4 x)) := hR'
  have HO : Hid (Out w w3 b (splice C o h'.enc)) := (Out.of_ext hb HE2.out).step hlt ho
  clear ho hR'
  go_wp2_with fail
  go_ret
  exact ⟨rfl, h', HR'.out, HO.out⟩
def v8 (n : Nat) : Vector UInt8 8 := Vector.ofFn fun i : Fin 8 => (be8 n).getD i.val 0
theorem v8_list (n : Nat) : (v8 n).toList = be8 n := by
  apply List.ext_getElem?
  intro i
  by_cases hi : i < 8
  · have : i < (be8 n).length := by rw [length_be8]; exact hi
    simp [v8, hi, this]
  · rw [List.getElem?_eq_none (by simp; omega), List.getElem?_eq_none (by rw [length_be8]; omega)]
theorem v8_put (z : Vector UInt8 8) (n : Nat) : splice (splice (arr u8v z) 0 (bv (be4 (UInt32.ofNat (n / 4294967296))))) 4 (bv (be4 (UInt32.ofNat n))) = arr u8v (v8 n) := by
  have h1 := splice_snoc (C := arr u8v z) (o := 0) (xs := bv (be4 (UInt32.ofNat (n / 4294967296)))) (ys := bv (be4 (UInt32.ofNat n))) (by rw [length_arr, length_bv, length_bv, length_be4, length_be4]; omega)
  rw [length_bv, length_be4, Nat.zero_add, ← bv_append] at h1
  rw [h1, show be4 (UInt32.ofNat (n / 4294967296)) ++ be4 (UInt32.ofNat n) = be8 n from rfl, ← v8_list, show bv (v8 n).toList = arr u8v (v8 n) from rfl]
  exact set_arr _ _ _ _
set_option maxRecDepth 20000 in
set_option maxHeartbeats 2000000 in
theorem uint64_ok (w : World) (b o : Nat) (C : List Value) (h : Hasher) (m : List UInt8) (n : Nat) (hn : n < 18446744073709551616) (hb : blk w b = some (splice C o h.enc)) (hC : o + 74 ≤ C.length) (hf : free w b = true) (hR : Rep h m) (hroom : m.length + 8 ≤ 2305843009213693951) :
    Calls Try.prog 48 #[.pointer (some ⟨b, o, none⟩), .int .u64 (n : Nat)] w fun e w' => e = .returned (.int .i64 0) ∧ ∃ h', Rep h' (m ++ be8 n) ∧ Out w w' b (splice C o h'.enc) := by
  have hlt := blk_lt hb
  have HR : Hid (Rep h m) := hR
  clear hR
  have e8 : IntKind.u32.wrap ((n : Int) / 4294967296) = w32 (UInt32.ofNat (n / 4294967296)) := by
    rw [IntKind.wrap_u32]; unfold w32; rw [UInt32.toNat_ofNat']; omega
  have e9 : IntKind.u32.wrap (n : Int) = w32 (UInt32.ofNat n) := by
    rw [IntKind.wrap_u32]; unfold w32; rw [UInt32.toNat_ofNat']; omega
  go_enter Try.func48, Try.ntmps48
  go_wp2_with fail
  refine (put32_any _ w.heap.size 0 4 8 (arr u8v (Vector.replicate 8 0)) (UInt32.ofNat (n / 4294967296)) (by rw [blk_alloc, if_pos rfl]) (by rw [length_arr]; omega) (by rw [free_alloc, if_pos rfl]) (by omega)).mono ?_
  rintro e w2 ⟨rfl, ho⟩
  have h4 := ho.blk_at (C := arr u8v (Vector.replicate 8 (0 : UInt8))) (by rw [blk_alloc, if_pos rfl])
  have hf4 := (ho.free (c := w.heap.size) (by rw [World.size_alloc]; omega)).trans (by rw [free_alloc, if_pos rfl] : free (w.alloc (.cells (arr u8v (Vector.replicate 8 (0 : UInt8))).toArray 121)) w.heap.size = true)
  have hl4 : (splice (arr u8v (Vector.replicate 8 (0 : UInt8))) 0 (bv (be4 (UInt32.ofNat (n / 4294967296))))).length = 8 := by rw [length_splice _ _ _ (by rw [length_arr, length_bv, length_be4]; omega), length_arr]
  have hb2 : blk w2 b = some (splice C o h.enc) := by rw [ho.blk_other (by rw [World.size_alloc]; omega) (by omega), blk_alloc, if_neg (by omega)]; exact hb
  have hf2 : free w2 b = true := by rw [ho.free (by rw [World.size_alloc]; omega), free_alloc, if_neg (by omega)]; exact hf
  have HE2 : Hid (Ext w w2) := by
    obtain ⟨G, n, e⟩ := ho
    rw [e]
    exact (((Ext.refl w).alloc _).put_new _ _ (Nat.le_refl _)).ext G n
  have hsz2 : w.heap.size < w2.heap.size := by have := ho.size; rw [World.size_alloc] at this; omega
  have H4 : Hid (blk w2 w.heap.size = some (splice (arr u8v (Vector.replicate 8 (0 : UInt8))) 0 (bv (be4 (UInt32.ofNat (n / 4294967296)))))) := h4
  clear ho h4
  go_wp2_with fail
  refine (put32_any _ w.heap.size 4 4 4 _ (UInt32.ofNat n) H4.out (by rw [hl4]; omega) hf4 (by omega)).mono ?_
  rintro e w3 ⟨rfl, ho⟩
  have ho' : Out w2 w3 w.heap.size (arr u8v (v8 n)) := by rw [← v8_put (Vector.replicate 8 0) n]; exact ho
  have h8 := ho'.blk_at H4.out
  have hb3 := (ho'.blk_other (c := b) (by omega) (by omega)).trans hb2
  have hf3 := (ho'.free (c := b) (by omega)).trans hf2
  have HE3 : Hid (Ext w w3) := by
    obtain ⟨G, n, e⟩ := ho'
    rw [e]
    exact (HE2.out.put_new _ _ (Nat.le_refl _)).ext G n
  clear ho ho' hb2 hf2 hf4 H4 HE2 hl4
  go_wp2_with fail
  refine (write_ok _ b o C h m (v8 n).toList _ _ _ hb3 hC hf3 HR.out (whole_at w3 (v8 n) b w.heap.size h8 (by omega) (by omega)) hroom).mono ?_
  rintro e w4 ⟨rfl, h', hR', ho⟩
  rw [v8_list] at hR'
  have HR' : Hid (Rep h' (m ++ be8 n)) := hR'
  have HO : Hid (Out w w4 b (splice C o h'.enc)) := (Out.of_ext hb HE3.out).step hlt ho
  clear ho hR'
  go_wp2_with fail
  go_ret
  exact ⟨rfl, h', HR'.out, HO.out⟩
theorem answer_any (w : World) (b : Nat) (p : Player) (d : Vector UInt8 32) (hb : blk w b = some p.enc) (hf : free w b = true) :
    Calls Try.prog 49 #[.pointer (some ⟨b, 0, none⟩), .agg (arr u8v d).toArray] w fun e w' => e = .returned (.tuple #[]) ∧ Out w w' b ({ p with prev := p.last, last := d } : Player).enc := by
  have hlt := blk_lt hb
  have hne : ¬ b = w.heap.size := by omega
  have hne2 : ¬ w.heap.size = b := by omega
  go_enter Try.func49, Try.ntmps49
  go_wp2_with fail
  go_end0
  refine ⟨rfl, ?_⟩
  exact ((Out.mk0 hb).alloc _).put _ hlt
theorem loglen_any (w : World) (b : Nat) (p : Player) (hb : blk w b = some p.enc) :
    Calls Try.prog 54 #[.pointer (some ⟨b, 212, none⟩)] w fun e w' => e = .returned (.int .i64 (p.log.entries.len : Nat)) ∧ w' = w := by
  have hsv : Sl.val p.log.entries = .slice p.log.entries.a p.log.entries.len p.log.entries.cap := rfl
  go_enter Try.func54, Try.ntmps54
  go_wp2_with fail
  go_ret
  exact ⟨rfl, rfl⟩
theorem collided_any (w : World) (b : Nat) (p : Player) (hb : blk w b = some p.enc) :
    Calls Try.prog 25 #[.pointer (some ⟨b, 212, none⟩)] w fun e w' => e = .returned (.bool p.log.found) ∧ w' = w := by
  go_enter Try.func25, Try.ntmps25
  go_wp2_with fail
  go_ret
  exact ⟨rfl, rfl⟩

theorem newPlayer_any (w : World) : Calls Try.prog 13 #[] w fun e w' => (∃ p : Player, e = .returned (.agg p.enc.toArray) ∧ Rep p.hand [] ∧ Rep p.aside [] ∧ p.prev = Vector.replicate 32 0 ∧ p.last = Vector.replicate 32 0 ∧ p.log = GLog.zero) ∧ Ext w w' := by
  go_enter Try.func13, Try.ntmps13
  go_wp2_with fail
  refine (new_any _).mono ?_
  rintro e w2 ⟨⟨h, hR, rfl⟩, hE⟩
  have HR : Hid (Rep h []) := hR
  have hb0 : blk w2 w.heap.size = some Player.zero.enc := by
    rw [hE.blk (by simp only [World.size_alloc]; omega), blk_alloc, if_neg (by simp only [World.size_alloc]; omega), blk_alloc, if_pos rfl]
  have hf0 : free w2 w.heap.size = true := by
    rw [hE.free (by simp only [World.size_alloc]; omega), free_alloc, if_neg (by simp only [World.size_alloc]; omega), free_alloc, if_pos rfl]
  have hb1 : blk w2 (w.heap.size + 1) = some Player.zero.enc := by
    rw [hE.blk (by simp only [World.size_alloc]; omega), blk_alloc, if_pos (by simp only [World.size_alloc])]
  have hf1 : free w2 (w.heap.size + 1) = true := by
    rw [hE.free (by simp only [World.size_alloc]; omega), free_alloc, if_pos (by simp only [World.size_alloc])]
  have hsz : w.heap.size + 2 ≤ w2.heap.size := by have := hE.size; simp only [World.size_alloc] at this; omega
  have HE : Hid (Ext w w2) := (((Ext.refl w).alloc _).alloc _).trans hE
  clear hR hE
  go_wp2_with fail
  refine (new_any _).mono ?_
  rintro e w3 ⟨⟨h', hR', rfl⟩, hE3⟩
  have HR' : Hid (Rep h' []) := hR'
  have hb03 : blk w3 w.heap.size = some Player.zero.enc := by
    rw [hE3.blk (by rw [size_put]; omega), blk_put, if_neg (by omega)]; exact hb0
  have hf03 : free w3 w.heap.size = true := by
    rw [hE3.free (by rw [size_put]; omega), free_put]; exact hf0
  have hb13 : blk w3 (w.heap.size + 1) = some ({ Player.zero with hand := h } : Player).enc := by
    rw [hE3.blk (by rw [size_put]; omega), blk_put, if_pos rfl, hb1]; rfl
  have hf13 : free w3 (w.heap.size + 1) = true := by
    rw [hE3.free (by rw [size_put]; omega), free_put]; exact hf1
  have HE3 : Hid (Ext w w3) := (HE.out.put_new _ _ (by omega)).trans hE3
  have hne : ¬ w.heap.size + 1 = w.heap.size := by omega
  have hsz3 : w.heap.size + 2 ≤ w3.heap.size := by have := hE3.size; rw [size_put] at this; omega
  clear hR' hE3 hb0 hf0 hb1 hf1 HE
  go_wp2_with fail
  refine ret_cell (C := ({ Player.zero with hand := h, aside := h' } : Player).enc) rfl rfl (by rw [blk_put, if_pos rfl, blk_put, if_neg (by omega), hb03]; rfl) (by kernel_rfl) (by rw [Player.length_enc]; kernel_rfl) rfl ?_
  exact ⟨⟨_, rfl, HR.out, HR'.out, rfl, rfl, rfl⟩, (HE3.out.put_new _ _ (by omega)).put_new _ _ (by omega)⟩
def fillN (x : Int) : Nat := if x < 0 then 0 else if 4096 < x then 4096 else x.toNat
theorem fillN_le (x : Int) : fillN x ≤ 4096 := by
  unfold fillN
  split
  · omega
  · split <;> omega

def fillL (k i : Nat) (x : UInt8) : List Value := bv (List.replicate i x ++ List.replicate (k - i) 0)
theorem length_fillL (k i : Nat) (x : UInt8) (h : i ≤ k) : (fillL k i x).length = k := by rw [fillL, length_bv]; simp; omega
theorem fillL_zero (k : Nat) (x : UInt8) : fillL k 0 x = bv (List.replicate k 0) := by simp [fillL]
theorem fillL_step (k i : Nat) (x : UInt8) (h : i < k) : splice (fillL k i x) i [.int .u8 (w8 x)] = fillL k (i + 1) x := by
  obtain ⟨j, rfl⟩ : ∃ j, k = i + 1 + j := ⟨k - (i + 1), by omega⟩
  unfold splice fillL
  rw [show i + 1 + j - i = j + 1 by omega, show i + 1 + j - (i + 1) = j by omega, bv_append, bv_append]
  rw [List.take_append_of_le_length (by rw [length_bv]; simp), List.take_of_length_le (by rw [length_bv]; simp)]
  rw [show i + [Value.int IntKind.u8 (w8 x)].length = i + 1 from rfl, List.drop_append, List.drop_of_length_le (by rw [length_bv]; simp), length_bv, List.length_replicate, List.nil_append, show i + 1 - i = 1 by omega]
  rw [List.replicate_succ' (n := i), bv_append, List.replicate_succ (n := j), List.append_assoc]
  rw [List.append_assoc]
  rfl
theorem fill_at {w W : World} {k : Nat} {x : UInt8} (hr : blk W (w.heap.size + 1) = some (fillL k k x)) (hk : k ≤ 4096) (av : Nat) (hav : av ≠ w.heap.size + 1) : BytesAt av W (some ⟨w.heap.size + 1, 0, none⟩) k k (List.replicate k x) := by
  have e : fillL k k x = bv (List.replicate k x) := by simp [fillL]
  refine ⟨by simp, Nat.le_refl _, ⟨by omega, by omega⟩, fun _ => ⟨_, 0, _, rfl, Ne.symm hav, hr, by rw [length_fillL _ _ _ (Nat.le_refl _)]; omega, ?_⟩⟩
  rw [seg_all _ _ (length_fillL _ _ _ (Nat.le_refl _)), e]
def flI (w : World) (g : GOp) (k : Nat) (f : Nat → Value) (W : World) : Prop :=
  f 1 = .pointer (some ⟨w.heap.size, 0, none⟩) ∧ f 3 = .int .i64 (k : Nat) ∧ f 4 = .slice (some ⟨w.heap.size + 1, 0, none⟩) k k ∧ ∃ i : Nat, i ≤ k ∧ f 5 = .int .i64 (i : Nat) ∧
    blk W w.heap.size = some g.enc ∧ blk W (w.heap.size + 1) = some (fillL k i g.b) ∧ free W (w.heap.size + 1) = true ∧ Hid (Ext w W)
set_option maxRecDepth 20000 in
set_option maxHeartbeats 2000000 in
theorem fill_any (w : World) (g : GOp) :
    Calls Try.prog 14 #[.agg g.enc.toArray] w fun e w' => ∃ a l c, e = .returned (.slice a l c) ∧ (∀ av, av ≠ w.heap.size + 1 → BytesAt av w' a l c (List.replicate (fillN g.n) g.b)) ∧ w.heap.size + 1 < w'.heap.size ∧ Ext w w' := by
  by_cases c1 : g.n < 0
  · have mk0 : ∀ w : World, (makeOp 40 (.int .i64 0) (.int .i64 0)).run Try.prog w = .ok (.value (.slice (some ⟨w.heap.size, 0, none⟩) 0 0)) (w.alloc (.cells (zerosA 0) 5)) := fun w => make40 w 0 0 (by omega) (by omega)
    go_enter Try.func14, Try.ntmps14
    go_wp2_with fail
    refine wp_loop_f 25 (flI w g 0) (fun f _ => 0 - (intOf (f 5)).toNat) rfl ?_ ?_
    · refine ⟨rfl, rfl, rfl, 0, by omega, rfl, ?_, ?_, ?_, ?_⟩
      · rw [blk_alloc, if_neg (by rw [World.size_alloc]; omega), blk_alloc, if_pos rfl]
      · rw [blk_alloc, if_pos (by rw [World.size_alloc]), fillL_zero]; rfl
      · rw [free_alloc, if_pos (by rw [World.size_alloc])]
      · exact ((Ext.refl w).alloc _).alloc _
    intro F W hrel
    obtain ⟨h1, h3, h4, i, hi, h5, hb, hr, hrf, HE⟩ := hrel
    have H5 : Hid (F 5 = .int .i64 (i : Nat)) := h5
    rw [frame25, h1, h3, h4, h5]
    clear h1 h3 h4 h5
    have hl := length_fillL 0 i g.b hi
    by_cases hik : i < 0
    · omega
    · have hi0 : i = 0 := by omega
      subst hi0
      go_wp2_with fail
      go_ret
      refine ⟨_, _, _, rfl, ?_, blk_lt hr, HE.out⟩
      have hfn : fillN g.n = 0 := by unfold fillN; rw [if_pos c1]
      rw [hfn]
      exact fill_at hr (by omega)
  by_cases c2 : 4096 < g.n
  · have mk0 : ∀ w : World, (makeOp 40 (.int .i64 4096) (.int .i64 4096)).run Try.prog w = .ok (.value (.slice (some ⟨w.heap.size, 0, none⟩) 4096 4096)) (w.alloc (.cells (zerosA 4096) 5)) := fun w => make40 w 4096 4096 (by omega) (by omega)
    go_enter Try.func14, Try.ntmps14
    go_wp2_with fail
    refine wp_loop_f 25 (flI w g 4096) (fun f _ => 4096 - (intOf (f 5)).toNat) rfl ?_ ?_
    · refine ⟨rfl, rfl, rfl, 0, by omega, rfl, ?_, ?_, ?_, ?_⟩
      · rw [blk_alloc, if_neg (by rw [World.size_alloc]; omega), blk_alloc, if_pos rfl]
      · rw [blk_alloc, if_pos (by rw [World.size_alloc]), fillL_zero]; rfl
      · rw [free_alloc, if_pos (by rw [World.size_alloc])]
      · exact ((Ext.refl w).alloc _).alloc _
    intro F W hrel
    obtain ⟨h1, h3, h4, i, hi, h5, hb, hr, hrf, HE⟩ := hrel
    have H5 : Hid (F 5 = .int .i64 (i : Nat)) := h5
    rw [frame25, h1, h3, h4, h5]
    clear h1 h3 h4 h5
    have hl := length_fillL 4096 i g.b hi
    by_cases hik : i < 4096
    · have q0 : (0 : Int) ≤ (i : Int) := by omega
      have q1 : (i : Int) < (4096 : Nat) := by omega
      have q1' : (i : Int) < 4096 := by omega
      have q2 : ((i : Int)).toNat = i := by omega
      have hs := fillL_step 4096 i g.b hik
      have hne : ¬ w.heap.size = w.heap.size + 1 := by omega
      have q3 : i + 1 ≤ 4096 := by omega
      go_wp2_with fail
      refine ⟨rfl, rfl, ?_, ?_⟩
      · refine ⟨rfl, rfl, rfl, i + 1, by omega, ?_, ?_, ?_, ?_, HE.out.put_new _ _ (by omega)⟩
        · show Value.int .i64 _ = _
          go_num
        · rw [blk_put, if_neg (by omega)]; exact hb
        · rw [blk_put, if_pos rfl, hr, ← hs]; rfl
        · rw [free_put]; exact hrf
      · show 4096 - (intOf (Value.int .i64 _)).toNat < 4096 - (intOf (F 5)).toNat
        rw [H5.out]
        simp [intOf]; omega
    · have hi4096 : i = 4096 := by omega
      subst hi4096
      go_wp2_with fail
      go_ret
      refine ⟨_, _, _, rfl, ?_, blk_lt hr, HE.out⟩
      have hfn : fillN g.n = 4096 := by unfold fillN; rw [if_neg (by omega), if_pos (by omega)]
      rw [hfn]
      exact fill_at hr (by omega)
  · obtain ⟨K, hK⟩ : ∃ K : Nat, g.n = (K : Int) := ⟨g.n.toNat, by omega⟩
    have hK4 : K ≤ 4096 := by omega
    have mk0 := fun w : World => make40 w K K (by omega) (by omega)
    go_enter Try.func14, Try.ntmps14
    go_wp2_with fail
    refine wp_loop_f 25 (flI w g K) (fun f _ => K - (intOf (f 5)).toNat) rfl ?_ ?_
    · refine ⟨rfl, rfl, rfl, 0, by omega, rfl, ?_, ?_, ?_, ?_⟩
      · rw [blk_alloc, if_neg (by rw [World.size_alloc]; omega), blk_alloc, if_pos rfl]
      · rw [blk_alloc, if_pos (by rw [World.size_alloc]), fillL_zero]; rfl
      · rw [free_alloc, if_pos (by rw [World.size_alloc])]
      · exact ((Ext.refl w).alloc _).alloc _
    intro F W hrel
    obtain ⟨h1, h3, h4, i, hi, h5, hb, hr, hrf, HE⟩ := hrel
    have H5 : Hid (F 5 = .int .i64 (i : Nat)) := h5
    rw [frame25, h1, h3, h4, h5]
    clear h1 h3 h4 h5
    have hl := length_fillL K i g.b hi
    by_cases hik : i < K
    · have q0 : (0 : Int) ≤ (i : Int) := by omega
      have q1 : (i : Int) < (K : Nat) := by omega
      have q1' : (i : Int) < (K : Int) := by omega
      have q2 : ((i : Int)).toNat = i := by omega
      have hs := fillL_step K i g.b hik
      have hne : ¬ w.heap.size = w.heap.size + 1 := by omega
      have q3 : i + 1 ≤ K := by omega
      go_wp2_with fail
      refine ⟨rfl, rfl, ?_, ?_⟩
      · refine ⟨rfl, rfl, rfl, i + 1, by omega, ?_, ?_, ?_, ?_, HE.out.put_new _ _ (by omega)⟩
        · show Value.int .i64 _ = _
          go_num
        · rw [blk_put, if_neg (by omega)]; exact hb
        · rw [blk_put, if_pos rfl, hr, ← hs]; rfl
        · rw [free_put]; exact hrf
      · show K - (intOf (Value.int .i64 _)).toNat < K - (intOf (F 5)).toNat
        rw [H5.out]
        simp [intOf]; omega
    · have hfn : fillN g.n = K := by
        unfold fillN
        rw [if_neg (by omega), if_neg (by omega)]
        omega
      obtain rfl : i = K := by omega
      go_wp2_with fail
      go_ret
      refine ⟨_, _, _, rfl, ?_, blk_lt hr, HE.out⟩
      rw [hfn]
      exact fill_at hr (by omega)
end Go.Proofs.Qxb6500785a
