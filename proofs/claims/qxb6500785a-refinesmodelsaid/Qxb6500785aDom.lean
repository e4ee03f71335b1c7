import Derived.Test.Qxb6500785aMsum
import Derived.Test.Qxb6500785aEq
import Derived.Deep.RegionHeld
import Derived.Deep.CutRange
import Derived.Laws.ResultCell
import Derived.Laws.Rows
set_option linter.unusedSimpArgs false
set_option linter.unusedVariables false
namespace Go.Proofs.Qxb6500785a
open Go.RowKit Go.Blk
attribute [local go_sem ↓] execOp_load execOp_store execOp_alloc
attribute [local go_sem] Try.ld24 Try.st24 Try.ld5 Try.st5 Try.ld3 Try.st3 Try.ld27 Try.st27 Try.ld32 Try.st32 Try.ld33 Try.st33 Try.ld4 Try.st4 Try.ld41 Try.st41 Try.ld40 Try.st40 Try.ld42 Try.st42 Try.ld47 Try.st47 Try.ld48 Try.st48 Try.ld57 Try.st57 Try.ld58 Try.st58 Try.ld2 Try.st2 Try.ld9 Try.st9 Try.ld12 Try.st12 Try.ld21 Try.st21 Try.ld22 Try.st22 Try.ld46 Try.st46 Try.ld83 Try.st83 Try.ld95 Try.st95 Try.ld99 Try.st99 Try.ld106 Try.st106 Try.ld108 Try.st108 Try.ld134 Try.st134 Try.ld25 Try.st25 Try.ld26 Try.st26 Try.ld34 Try.st34 Try.ld31 Try.st31 Try.ld30 Try.st30 Try.ld74 Try.st74 Try.ld96 Try.st96 Try.ld101 Try.st101 Try.ld115 Try.st115 Try.ld116 Try.st116 Try.ld120 Try.st120 Try.ld121 Try.st121 Try.ld122 Try.st122 Try.ld29 Try.st29 Try.ld36 Try.st36 Try.ld38 Try.st38 Try.ld44 Try.st44 Try.ld50 Try.st50 Try.ld60 Try.st60 Try.ld110 Try.st110 Try.al25 Try.al26 Try.al34 Try.al31 Try.al30 Try.al74 Try.al96 Try.al101 Try.al115 Try.al116 Try.al120 Try.al121 Try.al122 Try.al29 Try.al36 Try.al38 Try.al44 Try.al50 Try.al60 Try.al110
attribute [local go_sem] Hasher.length_enc Hasher.ok_enc Hasher.all_get Hasher.all_set Hasher.state_get Hasher.state_set Hasher.block_get Hasher.block_set Hasher.fill_get Hasher.fill_set Hasher.length_get Hasher.length_set GLog.length_enc GLog.ok_enc GLog.all_get GLog.all_set GLog.entries_get GLog.entries_set GLog.shelves_get GLog.shelves_set GLog.first_get GLog.first_set GLog.second_get GLog.second_set GLog.found_get GLog.found_set Player.length_enc Player.ok_enc Player.all_get Player.all_set Player.hand_get Player.hand_set Player.aside_get Player.aside_set Player.prev_get Player.prev_set Player.last_get Player.last_set Player.log_get Player.log_set Player.hand_state_get Player.hand_state_set Player.hand_block_get Player.hand_block_set Player.hand_fill_get Player.hand_fill_set Player.hand_length_get Player.hand_length_set Player.aside_state_get Player.aside_state_set Player.aside_block_get Player.aside_block_set Player.aside_fill_get Player.aside_fill_set Player.aside_length_get Player.aside_length_set Player.log_entries_get Player.log_entries_set Player.log_shelves_get Player.log_shelves_set Player.log_first_get Player.log_first_set Player.log_second_get Player.log_second_set Player.log_found_get Player.log_found_set GOp.length_enc GOp.ok_enc GOp.all_get GOp.all_set GOp.kind_get GOp.kind_set GOp.data_get GOp.data_set GOp.cut_get GOp.cut_set GOp.n_get GOp.n_set GOp.b_get GOp.b_set GOp.v_get GOp.v_set GOp.dom_get GOp.dom_set GOp.sum_get GOp.sum_set Answer.length_enc Answer.ok_enc Answer.all_get Answer.all_set Answer.code_get Answer.code_set Answer.sum_get Answer.sum_set Answer.len_get Answer.len_set Answer.mark_get Answer.mark_set Answer.noted_get Answer.noted_set Answer.collided_get Answer.collided_set GState.length_enc GState.ok_enc GState.all_get GState.all_set GState.hand_get GState.hand_set GState.aside_get GState.aside_set GState.prev_get GState.prev_set GState.last_get GState.last_set GState.inputs_get GState.inputs_set GState.sums_get GState.sums_set GState.collided_get GState.collided_set GState.older_get GState.older_set GState.younger_get GState.younger_set Noted.length_enc Noted.ok_enc Noted.all_get Noted.all_set Noted.input_get Noted.input_set Noted.sum_get Noted.sum_set
attribute [local go_sem] size_put size_ext blk_put free_put blk_alloc free_alloc blk_drew free_drew blk_ext free_ext lookOr_some putOr_some segAt_some cellAt_some storeIn_some put_put put_alloc_new length_arr ok_arr_u8 ok_arr_u32 ok_arr_u64 ok_arr_i64 ok_arr_sl cellsV_agg cellsV_int cellsV_bool cellsV_string cellsV_pointer cellsV_slice cellsV_sl ok_int ok_bool ok_string ok_pointer ok_slice ok_sl toList_arr seg_arr set_arr nth_splice nth_splice0 seg_splice seg_splice0 splice_splice splice_splice0 length_splice_if
attribute [local go_sem] w32_and w32_or w32_xor w32_add w32_or8 w32_not w8_and w8_or w8_xor w32_shr2 w32_shl2 w32_shr3 w32_shl3 w32_shr6 w32_shl6 w32_shr7 w32_shl7 w32_shr8 w32_shl8 w32_shr10 w32_shl10 w32_shr11 w32_shl11 w32_shr13 w32_shl13 w32_shr14 w32_shl14 w32_shr15 w32_shl15 w32_shr16 w32_shl16 w32_shr17 w32_shl17 w32_shr18 w32_shl18 w32_shr19 w32_shl19 w32_shr21 w32_shl21 w32_shr22 w32_shl22 w32_shr24 w32_shl24 w32_shr25 w32_shl25 w32_shr26 w32_shl26 w32_shr30 w32_shl30 w8_shl24 w8_shl16 w8_shl8 v32_add v32_byte w32_byte0 v8_shl24 v8_shl16 v8_shl8 v32_shr2 v32_shl2 v32_shr3 v32_shl3 v32_shr6 v32_shl6 v32_shr7 v32_shl7 v32_shr8 v32_shl8 v32_shr10 v32_shl10 v32_shr11 v32_shl11 v32_shr13 v32_shl13 v32_shr14 v32_shl14 v32_shr15 v32_shl15 v32_shr16 v32_shl16 v32_shr17 v32_shl17 v32_shr18 v32_shl18 v32_shr19 v32_shl19 v32_shr21 v32_shl21 v32_shr22 v32_shl22 v32_shr24 v32_shl24 v32_shr25 v32_shl25 v32_shr26 v32_shl26 v32_shr30 v32_shl30
attribute [local go_sem ↓] execOp_build
attribute [local go_sem] run_build_kv run_build_iv nth_arr_u32 put_arr_u32 nth_arr_u8 put_arr_u8 v32_of8 blk_drewN free_drewN put_drewN put_drew blk_raw free_raw
attribute [local go_sem ↓] execOp_slice execOp_copy
attribute [local go_sem] Try.sl40lo Try.sl40hi Try.sl26lo Try.sl26hi Try.sl26 Try.sl96lo Try.sl96hi Try.sl96 Try.sl31lo Try.sl31 Try.sl120 Try.sl121 Try.sl121lo Try.sl121hi Try.cp40 copyOr_some copyIn_some srcB_drew srcB_drewN srcB_raw length_bv one_bv
attribute [local go_sem] Hasher.length_zero
attribute [local go_sem] Try.cpv copyOrV_some
attribute [local go_sem ↓] execOp_index execOp_convert execOp_box execOp_convert9
attribute [local go_sem] index_hex box_run conv_bytes eq31
theorem build31 (w : World) : (buildOp 31 #[]).run Try.prog w = .ok (.value (.agg (arr u8v (Vector.replicate 32 (0 : UInt8))).toArray)) w := by kernel_rfl
attribute [local go_sem] build31
theorem own_bytes {base : Nat} {w : World} {v : Value} {xs : List UInt8} (h : OwnB base w v xs) (hl : xs.length < 4611686018427387904) : ∃ a cap, v = .slice a xs.length cap ∧ BytesAt w.heap.size w a xs.length cap xs := by
  obtain ⟨h1, h2 | ⟨g, cap, cur, e1, e2, e3, e4, e5, e6, e7⟩⟩ := h
  · refine ⟨none, 0, ?_, rfl, ?_, ⟨by omega, by omega⟩, fun h => absurd h2.2 h⟩
    · rw [h2.1, h2.2]
    · have := h2.2; omega
  · simp only [maxLen] at e5
    have hb := blk_mk e3
    refine ⟨_, cap, e1, rfl, e4, ⟨hl, by omega⟩, fun _ => ⟨g, 0, _, rfl, Nat.ne_of_lt (blk_lt hb), hb, ?_, ?_⟩⟩
    · rw [Nat.mul_one] at e6
      have : cur.toList.length = cur.size := Array.length_toList
      omega
    · rw [Nat.mul_one] at e7; unfold seg; rw [List.drop_zero]; exact e7
def okDom (x : UInt8) : Bool := decide (1 ≤ x.toNat) && decide (x.toNat ≤ 8)
theorem valid_any (w : World) (x : UInt8) : Calls Try.prog 70 #[.int .u8 (w8 x)] w fun e w' => e = .returned (.bool (okDom x)) ∧ w' = w := by
  obtain ⟨n, hn⟩ : ∃ n, n = x.toNat := ⟨_, rfl⟩
  have e1 : w8 x = (n : Int) := by rw [hn]; rfl
  have e2 : okDom x = (decide (1 ≤ n) && decide (n ≤ 8)) := by rw [hn]; rfl
  rw [e1, e2]
  clear e1 e2 hn
  by_cases h1 : 1 ≤ n
  · by_cases h2 : n ≤ 8
    · go_enter Try.func70, Try.ntmps70
      go_wp2
      go_ret
      simp [h1, h2]
      omega
    · go_enter Try.func70, Try.ntmps70
      go_wp2
      go_ret
      simp [h1, h2]
      omega
  · go_enter Try.func70, Try.ntmps70
    go_wp2
    go_ret
    simp [h1]
theorem digest_at (w : World) (d : Vector UInt8 32) (av b : Nat) (hb : blk w b = some (arr u8v d)) (hn : b ≠ av) : BytesAt av w (some ⟨b, 0, none⟩) 32 32 d.toList := by
  refine ⟨by simp, Nat.le_refl _, ⟨by omega, by omega⟩, fun _ => ⟨b, 0, _, rfl, hn, hb, by rw [length_arr]; omega, ?_⟩⟩
  rw [seg_arr]
  unfold arr bv
  rfl
set_option maxRecDepth 20000 in
set_option maxHeartbeats 2000000 in
theorem writeDigest_ok (w : World) (b o : Nat) (C : List Value) (h : Hasher) (m : List UInt8) (d : Vector UInt8 32) (hb : blk w b = some (splice C o h.enc)) (hC : o + 74 ≤ C.length) (hf : free w b = true) (hR : Rep h m) (hroom : m.length + 32 ≤ 2305843009213693951) :
    Calls Try.prog 71 #[.pointer (some ⟨b, o, none⟩), .agg (arr u8v d).toArray] w fun e w' => e = .returned (.int .i64 0) ∧ ∃ h', Rep h' (m ++ d.toList) ∧ Out w w' b (splice C o h'.enc) := by
  have hlt := blk_lt hb
  have HR : Hid (Rep h m) := hR
  clear hR
  go_enter Try.func71, Try.ntmps71
  go_wp2_with fail
  have n0 : ¬ b = w.heap.size := by omega
  have hb2 : blk (w.alloc (.cells (arr u8v d).toArray 31)) b = some (splice C o h.enc) := by rw [blk_alloc, if_neg n0]; exact hb
  have hf2 : free (w.alloc (.cells (arr u8v d).toArray 31)) b = true := by rw [free_alloc, if_neg n0]; exact hf
  refine (write_ok _ b o C h m d.toList _ _ _ hb2 hC hf2 HR.out (digest_at _ d b w.heap.size (by rw [blk_alloc, if_pos rfl]) (by omega)) hroom).mono ?_
  rintro e w2 ⟨rfl, h', hR', ho⟩
  have HR' : Hid (Rep h' (m ++ d.toList)) := hR'
  have HO : Hid (Out w w2 b (splice C o h'.enc)) := ((Out.mk0 hb).alloc _).step hlt ho
  clear ho hR'
  go_wp2_with fail
  go_ret
  exact ⟨rfl, h', HR'.out, HO.out⟩
set_option maxRecDepth 20000 in
set_option maxHeartbeats 2000000 in
theorem tagged_ok (w : World) (av : Nat) (x : UInt8) (a : Option Addr) (len cap : Nat) (xs : List UInt8) (hX : BytesAt av w a len cap xs) (hd : okDom x = true) (hroom : len ≤ 1000000000) :
    Calls Try.prog 27 #[.int .u8 (w8 x), .slice a len cap] w fun e w' => e = .returned (.tuple #[.agg (arr u8v (sha (x :: xs))).toArray, .int .i64 0]) ∧ Ext w w' := by
  have HX : Hid (BytesAt av w a len cap xs) := hX
  clear hX
  go_enter Try.func27, Try.ntmps27
  go_wp2_with fail
  refine (valid_any _ x).mono ?_
  rintro e w1 ⟨rfl, rfl⟩
  rw [hd]
  go_wp2_with fail
  refine (new_any _).mono ?_
  rintro e w2 ⟨⟨h, hR, rfl⟩, hE⟩
  have HR : Hid (Rep h []) := hR
  have hb0 : blk w2 w.heap.size = some (arr u8v (Vector.replicate 32 0)) := by
    rw [hE.blk (by rw [World.size_alloc]; omega), blk_alloc, if_pos rfl]
  have hf0 : free w2 w.heap.size = true := by
    rw [hE.free (by rw [World.size_alloc]; omega), free_alloc, if_pos rfl]
  have hsz : w.heap.size + 1 ≤ w2.heap.size := by have := hE.size; rw [World.size_alloc] at this; exact this
  have HE : Hid (Ext w w2) := ((Ext.refl w).alloc _).trans hE
  clear hR hE
  go_wp2_with fail
  have hb : blk (w2.alloc (Obj.cells h.enc.toArray 29)) w2.heap.size = some (splice h.enc 0 h.enc) := by rw [blk_alloc, if_pos rfl, Hasher.all_set]
  have hf : free (w2.alloc (Obj.cells h.enc.toArray 29)) w2.heap.size = true := by rw [free_alloc, if_pos rfl]
  have hl74 : 0 + 74 ≤ h.enc.length := by rw [Hasher.length_enc]; omega
  refine (octet_ok _ w2.heap.size 0 h.enc h [] x hb hl74 hf HR.out (by simp)).mono ?_
  rintro e w3 ⟨rfl, h', hR', ho⟩
  rw [Hasher.all_set] at ho
  have HR' : Hid (Rep h' [x]) := hR'
  have hb3 := ho.blk_at hb
  have hf3 := (ho.free (c := w2.heap.size) (by rw [World.size_alloc]; omega)).trans hf
  have hb30 : blk w3 w.heap.size = some (arr u8v (Vector.replicate 32 0)) := by
    rw [ho.blk_other (by rw [World.size_alloc]; omega) (by omega), blk_alloc, if_neg (by omega)]; exact hb0
  have hf30 : free w3 w.heap.size = true := by
    rw [ho.free (by rw [World.size_alloc]; omega), free_alloc, if_neg (by omega)]; exact hf0
  have HE3 : Hid (Ext w w3) := by
    obtain ⟨G, n, e⟩ := ho
    rw [e]
    exact ((HE.out.alloc _).put_new _ _ (by omega)).ext G n
  have hsz3 : w2.heap.size < w3.heap.size := by have := ho.size; rw [World.size_alloc] at this; omega
  clear hb hf ho hb0 hf0 hR' HE HR hl74
  go_wp2_with fail
  have hX3 : BytesAt w2.heap.size w3 a len cap xs := HX.out.at_new (fun b hb => HE3.out.blk hb) (by omega)
  refine (write_ok _ w2.heap.size 0 h'.enc h' [x] xs a len cap (by rw [Hasher.all_set]; exact hb3) (by rw [Hasher.length_enc]; omega) hf3 HR'.out hX3 (by simp; omega)).mono ?_
  rintro e w4 ⟨rfl, h2, hR2, ho⟩
  rw [Hasher.all_set] at ho
  have HR2 : Hid (Rep h2 (x :: xs)) := hR2
  have hb4 := ho.blk_at hb3
  have hb40 : blk w4 w.heap.size = some (arr u8v (Vector.replicate 32 0)) := (ho.blk_other (by omega) (by omega)).trans hb30
  have hf40 : free w4 w.heap.size = true := (ho.free (by omega)).trans hf30
  have HE4 : Hid (Ext w w4) := by
    obtain ⟨G, n, e⟩ := ho
    rw [e]
    exact (HE3.out.put_new _ _ (by omega)).ext G n
  have hsz4 : w2.heap.size < w4.heap.size := by have := ho.size; omega
  clear ho hb3 hf3 hb30 hf30 HE3 HR' hR2 hX3
  go_wp2_with fail
  refine (sum_any w4 w2.heap.size 0 h2.enc h2 (x :: xs) (by rw [Hasher.all_set]; exact hb4) (by rw [Hasher.length_enc]; omega) HR2.out).mono ?_
  rintro e w5 ⟨rfl, hE5⟩
  rw [sum_sha _ _ HR2.out]
  have hb5 : blk w5 w.heap.size = some (arr u8v (Vector.replicate 32 0)) := (hE5.blk (by omega)).trans hb40
  have hf5 : free w5 w.heap.size = true := (hE5.free (by omega)).trans hf40
  have HE5 : Hid (Ext w w5) := HE4.out.trans hE5
  clear hE5 hb40 hf40 HE4 hb4
  go_wp2_with fail
  refine ret_cell_tmp rfl rfl rfl (by rw [blk_put, if_pos rfl, hb5]; rfl) (by kernel_rfl) (by rw [length_arr]; kernel_rfl) rfl ?_
  exact ⟨rfl, HE5.out.put_new _ _ (Nat.le_refl _)⟩
set_option maxRecDepth 20000 in
set_option maxHeartbeats 2000000 in
theorem tagged_bad (w : World) (x : UInt8) (v : Value) (hd : okDom x = false) :
    Calls Try.prog 27 #[.int .u8 (w8 x), v] w fun e w' => e = .returned (.tuple #[.agg (arr u8v (Vector.replicate 32 (0 : UInt8))).toArray, .int .i64 2]) ∧ Ext w w' := by
  go_enter Try.func27, Try.ntmps27
  go_wp2_with fail
  refine (valid_any _ x).mono ?_
  rintro e w1 ⟨rfl, rfl⟩
  rw [hd]
  go_wp2_with fail
  refine ret_cell_tmp (C := arr u8v (Vector.replicate 32 (0 : UInt8))) rfl rfl rfl (by rw [blk_alloc, if_pos rfl]) (by kernel_rfl) (by rw [length_arr]; kernel_rfl) rfl ?_
  exact ⟨rfl, (Ext.refl w).alloc _⟩
def nodeD (l r : Vector UInt8 32) : Vector UInt8 32 := sha (3 :: (l.toList ++ r.toList))
set_option maxRecDepth 20000 in
set_option maxHeartbeats 2000000 in
theorem node_any (w : World) (l r : Vector UInt8 32) :
    Calls Try.prog 29 #[.agg (arr u8v l).toArray, .agg (arr u8v r).toArray] w fun e w' => e = .returned (.agg (arr u8v (nodeD l r)).toArray) ∧ Ext w w' := by
  go_enter Try.func29, Try.ntmps29
  go_wp2_with fail
  refine (new_any _).mono ?_
  rintro e w2 ⟨⟨h, hR, rfl⟩, hE⟩
  have HR : Hid (Rep h []) := hR
  have hL : blk w2 w.heap.size = some (arr u8v l) := by
    rw [hE.blk (by simp only [World.size_alloc]; omega), blk_alloc, if_neg (by simp only [World.size_alloc]; omega), blk_alloc, if_neg (by simp only [World.size_alloc]; omega), blk_alloc, if_pos rfl]
  have hr : blk w2 (w.heap.size + 1) = some (arr u8v r) := by
    rw [hE.blk (by simp only [World.size_alloc]; omega), blk_alloc, if_neg (by simp only [World.size_alloc]; omega), blk_alloc, if_pos (by simp only [World.size_alloc])]
  have hb0 : blk w2 (w.heap.size + 1 + 1) = some (arr u8v (Vector.replicate 32 0)) := by
    rw [hE.blk (by simp only [World.size_alloc]; omega), blk_alloc, if_pos (by simp only [World.size_alloc])]
  have hf0 : free w2 (w.heap.size + 1 + 1) = true := by
    rw [hE.free (by simp only [World.size_alloc]; omega), free_alloc, if_pos (by simp only [World.size_alloc])]
  have hsz : w.heap.size + 3 ≤ w2.heap.size := by have := hE.size; simp only [World.size_alloc] at this; omega
  have HE : Hid (Ext w w2) := ((((Ext.refl w).alloc _).alloc _).alloc _).trans hE
  clear hR hE
  go_wp2_with fail
  have hb : blk (w2.alloc (Obj.cells h.enc.toArray 29)) w2.heap.size = some (splice h.enc 0 h.enc) := by rw [blk_alloc, if_pos rfl, Hasher.all_set]
  have hf : free (w2.alloc (Obj.cells h.enc.toArray 29)) w2.heap.size = true := by rw [free_alloc, if_pos rfl]
  have hl74 : 0 + 74 ≤ h.enc.length := by rw [Hasher.length_enc]; omega
  refine (octet_ok _ w2.heap.size 0 h.enc h [] 3 hb hl74 hf HR.out (by simp)).mono ?_
  rintro e w3 ⟨rfl, h', hR', ho⟩
  rw [Hasher.all_set] at ho
  have HR' : Hid (Rep h' [3]) := hR'
  have hb3 := ho.blk_at hb
  have hf3 := (ho.free (c := w2.heap.size) (by rw [World.size_alloc]; omega)).trans hf
  have hL3 : blk w3 w.heap.size = some (arr u8v l) := by
    rw [ho.blk_other (by rw [World.size_alloc]; omega) (by omega), blk_alloc, if_neg (by omega)]; exact hL
  have hr3 : blk w3 (w.heap.size + 1) = some (arr u8v r) := by
    rw [ho.blk_other (by rw [World.size_alloc]; omega) (by omega), blk_alloc, if_neg (by omega)]; exact hr
  have hb30 : blk w3 (w.heap.size + 1 + 1) = some (arr u8v (Vector.replicate 32 0)) := by
    rw [ho.blk_other (by rw [World.size_alloc]; omega) (by omega), blk_alloc, if_neg (by omega)]; exact hb0
  have hf30 : free w3 (w.heap.size + 1 + 1) = true := by
    rw [ho.free (by rw [World.size_alloc]; omega), free_alloc, if_neg (by omega)]; exact hf0
  have HE3 : Hid (Ext w w3) := by
    obtain ⟨G, n, e⟩ := ho
    rw [e]
    exact ((HE.out.alloc _).put_new _ _ (by omega)).ext G n
  have hsz3 : w2.heap.size < w3.heap.size := by have := ho.size; rw [World.size_alloc] at this; omega
  clear hb hf ho hb0 hf0 hR' HE HR hl74 hL hr
  go_wp2_with fail
  refine (writeDigest_ok _ w2.heap.size 0 h'.enc h' [3] l (by rw [Hasher.all_set]; exact hb3) (by rw [Hasher.length_enc]; omega) hf3 HR'.out (by simp)).mono ?_
  rintro e w4 ⟨rfl, h2, hR2, ho⟩
  rw [Hasher.all_set] at ho
  have HR2 : Hid (Rep h2 (3 :: l.toList)) := hR2
  have hb4 := ho.blk_at hb3
  have hf4 := (ho.free (c := w2.heap.size) hsz3).trans hf3
  have hr4 : blk w4 (w.heap.size + 1) = some (arr u8v r) := (ho.blk_other (by omega) (by omega)).trans hr3
  have hb40 : blk w4 (w.heap.size + 1 + 1) = some (arr u8v (Vector.replicate 32 0)) := (ho.blk_other (by omega) (by omega)).trans hb30
  have hf40 : free w4 (w.heap.size + 1 + 1) = true := (ho.free (by omega)).trans hf30
  have HE4 : Hid (Ext w w4) := by
    obtain ⟨G, n, e⟩ := ho
    rw [e]
    exact (HE3.out.put_new _ _ (by omega)).ext G n
  have hsz4 : w2.heap.size < w4.heap.size := by have := ho.size; omega
  clear ho hb3 hf3 hb30 hf30 HE3 HR' hR2 hL3 hr3
  go_wp2_with fail
  refine (writeDigest_ok _ w2.heap.size 0 h2.enc h2 (3 :: l.toList) r (by rw [Hasher.all_set]; exact hb4) (by rw [Hasher.length_enc]; omega) hf4 HR2.out (by simp)).mono ?_
  rintro e w5 ⟨rfl, h5, hR5, ho⟩
  rw [Hasher.all_set] at ho
  have HR5 : Hid (Rep h5 (3 :: (l.toList ++ r.toList))) := hR5
  have hb5 := ho.blk_at hb4
  have hb50 : blk w5 (w.heap.size + 1 + 1) = some (arr u8v (Vector.replicate 32 0)) := (ho.blk_other (by omega) (by omega)).trans hb40
  have hf50 : free w5 (w.heap.size + 1 + 1) = true := (ho.free (by omega)).trans hf40
  have HE5 : Hid (Ext w w5) := by
    obtain ⟨G, n, e⟩ := ho
    rw [e]
    exact (HE4.out.put_new _ _ (by omega)).ext G n
  have hsz5 : w2.heap.size < w5.heap.size := by have := ho.size; omega
  clear ho hb4 hf4 hb40 hf40 HE4 HR2 hR5 hr4
  go_wp2_with fail
  refine (sum_any w5 w2.heap.size 0 h5.enc h5 _ (by rw [Hasher.all_set]; exact hb5) (by rw [Hasher.length_enc]; omega) HR5.out).mono ?_
  rintro e w6 ⟨rfl, hE6⟩
  rw [sum_sha _ _ HR5.out]
  have hb6 : blk w6 (w.heap.size + 1 + 1) = some (arr u8v (Vector.replicate 32 0)) := (hE6.blk (by omega)).trans hb50
  have hf6 : free w6 (w.heap.size + 1 + 1) = true := (hE6.free (by omega)).trans hf50
  have HE6 : Hid (Ext w w6) := HE5.out.trans hE6
  clear hE6 hb50 hf50 HE5 hb5
  go_wp2_with fail
  refine ret_cell rfl rfl (by rw [blk_put, if_pos rfl, hb6]; rfl) (by kernel_rfl) (by rw [length_arr]; kernel_rfl) rfl ?_
  exact ⟨rfl, HE6.out.put_new _ _ (by omega)⟩
end Go.Proofs.Qxb6500785a
