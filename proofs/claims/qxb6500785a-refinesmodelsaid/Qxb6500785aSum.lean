import Derived.Test.Qxb6500785aHashB
import Derived.Deep.CutRange
import Derived.Laws.ResultCell
import Derived.Laws.Rows
set_option linter.unusedSimpArgs false
set_option linter.unusedVariables false
namespace Go.Proofs.Qxb6500785a
open Go.RowKit Go.Blk
attribute [local go_sem ↓] execOp_load execOp_store execOp_alloc
attribute [local go_sem] Try.ld24 Try.st24 Try.ld5 Try.st5 Try.ld3 Try.st3 Try.ld27 Try.st27 Try.ld32 Try.st32 Try.ld33 Try.st33 Try.ld4 Try.st4 Try.ld41 Try.st41 Try.ld40 Try.st40 Try.ld42 Try.st42 Try.ld47 Try.st47 Try.ld48 Try.st48 Try.ld57 Try.st57 Try.ld58 Try.st58 Try.ld2 Try.st2 Try.ld9 Try.st9 Try.ld12 Try.st12 Try.ld21 Try.st21 Try.ld22 Try.st22 Try.ld46 Try.st46 Try.ld83 Try.st83 Try.ld95 Try.st95 Try.ld99 Try.st99 Try.ld106 Try.st106 Try.ld108 Try.st108 Try.ld134 Try.st134 Try.ld25 Try.st25 Try.ld26 Try.st26 Try.ld34 Try.st34 Try.ld31 Try.st31 Try.ld30 Try.st30 Try.ld74 Try.st74 Try.ld96 Try.st96 Try.ld101 Try.st101 Try.ld115 Try.st115 Try.ld116 Try.st116 Try.ld120 Try.st120 Try.ld121 Try.st121 Try.ld122 Try.st122 Try.ld29 Try.st29 Try.ld36 Try.st36 Try.ld38 Try.st38 Try.ld44 Try.st44 Try.ld50 Try.st50 Try.ld60 Try.st60 Try.ld110 Try.st110 Try.al25 Try.al26 Try.al34 Try.al31 Try.al30 Try.al74 Try.al96 Try.al101 Try.al115 Try.al116 Try.al120 Try.al121 Try.al122 Try.al29 Try.al36 Try.al38 Try.al44 Try.al50 Try.al60 Try.al110
attribute [local go_sem] Hasher.length_enc Hasher.ok_enc Hasher.all_get Hasher.all_set Hasher.state_get Hasher.state_set Hasher.block_get Hasher.block_set Hasher.fill_get Hasher.fill_set Hasher.length_get Hasher.length_set GLog.length_enc GLog.ok_enc GLog.all_get GLog.all_set GLog.entries_get GLog.entries_set GLog.shelves_get GLog.shelves_set GLog.first_get GLog.first_set GLog.second_get GLog.second_set GLog.found_get GLog.found_set Player.length_enc Player.ok_enc Player.all_get Player.all_set Player.hand_get Player.hand_set Player.aside_get Player.aside_set Player.prev_get Player.prev_set Player.last_get Player.last_set Player.log_get Player.log_set Player.hand_state_get Player.hand_state_set Player.hand_block_get Player.hand_block_set Player.hand_fill_get Player.hand_fill_set Player.hand_length_get Player.hand_length_set Player.aside_state_get Player.aside_state_set Player.aside_block_get Player.aside_block_set Player.aside_fill_get Player.aside_fill_set Player.aside_length_get Player.aside_length_set Player.log_entries_get Player.log_entries_set Player.log_shelves_get Player.log_shelves_set Player.log_first_get Player.log_first_set Player.log_second_get Player.log_second_set Player.log_found_get Player.log_found_set GOp.length_enc GOp.ok_enc GOp.all_get GOp.all_set GOp.kind_get GOp.kind_set GOp.data_get GOp.data_set GOp.cut_get GOp.cut_set GOp.n_get GOp.n_set GOp.b_get GOp.b_set GOp.v_get GOp.v_set GOp.dom_get GOp.dom_set GOp.sum_get GOp.sum_set Answer.length_enc Answer.ok_enc Answer.all_get Answer.all_set Answer.code_get Answer.code_set Answer.sum_get Answer.sum_set Answer.len_get Answer.len_set Answer.mark_get Answer.mark_set Answer.noted_get Answer.noted_set Answer.collided_get Answer.collided_set GState.length_enc GState.ok_enc GState.all_get GState.all_set GState.hand_get GState.hand_set GState.aside_get GState.aside_set GState.prev_get GState.prev_set GState.last_get GState.last_set GState.inputs_get GState.inputs_set GState.sums_get GState.sums_set GState.collided_get GState.collided_set GState.older_get GState.older_set GState.younger_get GState.younger_set Noted.length_enc Noted.ok_enc Noted.all_get Noted.all_set Noted.input_get Noted.input_set Noted.sum_get Noted.sum_set
attribute [local go_sem] size_put size_ext blk_put free_put blk_alloc free_alloc blk_drew free_drew blk_ext free_ext lookOr_some putOr_some segAt_some cellAt_some storeIn_some put_put put_alloc_new length_arr ok_arr_u8 ok_arr_u32 ok_arr_u64 ok_arr_i64 ok_arr_sl cellsV_agg cellsV_int cellsV_bool cellsV_string cellsV_pointer cellsV_slice cellsV_sl ok_int ok_bool ok_string ok_pointer ok_slice ok_sl toList_arr seg_arr set_arr nth_splice nth_splice0 seg_splice seg_splice0 splice_splice splice_splice0 length_splice_if
attribute [local go_sem] w32_and w32_or w32_xor w32_add w32_or8 w32_not w8_and w8_or w8_xor w32_shr2 w32_shl2 w32_shr3 w32_shl3 w32_shr6 w32_shl6 w32_shr7 w32_shl7 w32_shr8 w32_shl8 w32_shr10 w32_shl10 w32_shr11 w32_shl11 w32_shr13 w32_shl13 w32_shr14 w32_shl14 w32_shr15 w32_shl15 w32_shr16 w32_shl16 w32_shr17 w32_shl17 w32_shr18 w32_shl18 w32_shr19 w32_shl19 w32_shr21 w32_shl21 w32_shr22 w32_shl22 w32_shr24 w32_shl24 w32_shr25 w32_shl25 w32_shr26 w32_shl26 w32_shr30 w32_shl30 w8_shl24 w8_shl16 w8_shl8 v32_add v32_byte w32_byte0 v8_shl24 v8_shl16 v8_shl8 v32_shr2 v32_shl2 v32_shr3 v32_shl3 v32_shr6 v32_shl6 v32_shr7 v32_shl7 v32_shr8 v32_shl8 v32_shr10 v32_shl10 v32_shr11 v32_shl11 v32_shr13 v32_shl13 v32_shr14 v32_shl14 v32_shr15 v32_shl15 v32_shr16 v32_shl16 v32_shr17 v32_shl17 v32_shr18 v32_shl18 v32_shr19 v32_shl19 v32_shr21 v32_shl21 v32_shr22 v32_shl22 v32_shr24 v32_shl24 v32_shr25 v32_shl25 v32_shr26 v32_shl26 v32_shr30 v32_shl30
attribute [local go_sem ↓] execOp_build
attribute [local go_sem] run_build_kv run_build_iv nth_arr_u32 put_arr_u32 nth_arr_u8 put_arr_u8 v32_of8 blk_drewN free_drewN put_drewN put_drew blk_raw free_raw
attribute [local go_sem ↓] execOp_slice execOp_copy
attribute [local go_sem] Try.sl40lo Try.sl40hi Try.sl26lo Try.sl26hi Try.sl26 Try.sl96lo Try.sl96hi Try.sl96 Try.sl31lo Try.sl31 Try.sl120 Try.sl121 Try.sl121lo Try.sl121hi Try.cp40 copyOr_some copyIn_some srcB_drew srcB_drewN srcB_raw length_bv one_bv
attribute [local go_sem] Hasher.length_zero
attribute [local go_sem] Try.cpv copyOrV_some
theorem Try.sl96_56 (w : World) (b : Nat) : (sliceOp 96 (.pointer (some ⟨b, 0, none⟩)) (some (.int .i64 56)) none none).run Try.prog w = .ok (.value (.slice (some ⟨b, 56, none⟩) 72 72)) w := slice_arr_lo (e := 5) (n := 128) (by kernel_rfl) (by kernel_rfl) w b 0 56 (by decide)
theorem Try.sl96_60 (w : World) (b : Nat) : (sliceOp 96 (.pointer (some ⟨b, 0, none⟩)) (some (.int .i64 60)) none none).run Try.prog w = .ok (.value (.slice (some ⟨b, 60, none⟩) 68 68)) w := slice_arr_lo (e := 5) (n := 128) (by kernel_rfl) (by kernel_rfl) w b 0 60 (by decide)
theorem Try.sl96_120 (w : World) (b : Nat) : (sliceOp 96 (.pointer (some ⟨b, 0, none⟩)) (some (.int .i64 120)) none none).run Try.prog w = .ok (.value (.slice (some ⟨b, 120, none⟩) 8 8)) w := slice_arr_lo (e := 5) (n := 128) (by kernel_rfl) (by kernel_rfl) w b 0 120 (by decide)
theorem Try.sl96_124 (w : World) (b : Nat) : (sliceOp 96 (.pointer (some ⟨b, 0, none⟩)) (some (.int .i64 124)) none none).run Try.prog w = .ok (.value (.slice (some ⟨b, 124, none⟩) 4 4)) w := slice_arr_lo (e := 5) (n := 128) (by kernel_rfl) (by kernel_rfl) w b 0 124 (by decide)
theorem Try.sl96_64 (w : World) (b : Nat) : (sliceOp 96 (.pointer (some ⟨b, 0, none⟩)) none (some (.int .i64 64)) none).run Try.prog w = .ok (.value (.slice (some ⟨b, 0, none⟩) 64 128)) w := slice_arr_hi (e := 5) (n := 128) (by kernel_rfl) (by kernel_rfl) w b 0 64 (by decide)
theorem Try.sl96_128 (w : World) (b : Nat) : (sliceOp 96 (.pointer (some ⟨b, 0, none⟩)) none (some (.int .i64 128)) none).run Try.prog w = .ok (.value (.slice (some ⟨b, 0, none⟩) 128 128)) w := slice_arr_hi (e := 5) (n := 128) (by kernel_rfl) (by kernel_rfl) w b 0 128 (by decide)
attribute [local go_sem] Try.sl96_56 Try.sl96_60 Try.sl96_120 Try.sl96_124 Try.sl96_64 Try.sl96_128
def be4 (v : UInt32) : List UInt8 := [(v >>> 24).toUInt8, (v >>> 16).toUInt8, (v >>> 8).toUInt8, v.toUInt8]
theorem length_be4 (v : UInt32) : (be4 v).length = 4 := rfl
def digK (S : Vector UInt32 8) (i : Nat) : Vector UInt8 32 := Vector.ofFn fun j : Fin 32 => if j.val < 4 * i then (be4 (S.toList.getD (j.val / 4) 0)).getD (j.val % 4) 0 else 0
def digV (S : Vector UInt32 8) : Vector UInt8 32 := digK S 8
theorem digK_zero (S : Vector UInt32 8) : digK S 0 = Vector.replicate 32 0 := by apply Vector.ext; intro i hi; simp [digK]
theorem digK_step (S : Vector UInt32 8) (i : Nat) (h : i < 8) : lay (digK S i) (4 * i) (be4 S[i]) = digK S (i + 1) := by
  apply Vector.ext
  intro j hj
  rw [lay_at _ _ _ _ hj, length_be4]
  simp only [digK, Vector.getElem_ofFn]
  by_cases h1 : 4 * i ≤ j ∧ j < 4 * i + 4
  · rw [if_pos h1, if_pos (by omega)]
    have e1 : j / 4 = i := by omega
    have e2 : j % 4 = j - 4 * i := by omega
    rw [e1, e2]
    simp [h]
  · rw [if_neg h1]
    by_cases h2 : j < 4 * i
    · rw [if_pos h2, if_pos (by omega)]
    · rw [if_neg h2, if_neg (by omega)]
def endOf (f : Nat) : Nat := if f + 9 ≤ 64 then 64 else 128
def tailOf (bs : List UInt8) (f B : Nat) : Vector UInt8 128 :=
  lay (lay (lay (lay (Vector.replicate 128 0) 0 bs) f [128]) (endOf f - 8) (be4 (UInt32.ofNat (B / 4294967296)))) (endOf f - 4) (be4 (UInt32.ofNat B))
def sumOf (h : Hasher) (f N : Nat) : Vector UInt8 32 := digV (compN (tailOf (h.block.toList.take f) f (8 * N)).toList h.state (endOf f / 64))
set_option maxRecDepth 100000 in
theorem frame62 (f : Nat → Value) : frameN 62 f = #[f 0, f 1, f 2, f 3, f 4, f 5, f 6, f 7, f 8, f 9, f 10, f 11, f 12, f 13, f 14, f 15, f 16, f 17, f 18, f 19, f 20, f 21, f 22, f 23, f 24, f 25, f 26, f 27, f 28, f 29, f 30, f 31, f 32, f 33, f 34, f 35, f 36, f 37, f 38, f 39, f 40, f 41, f 42, f 43, f 44, f 45, f 46, f 47, f 48, f 49, f 50, f 51, f 52, f 53, f 54, f 55, f 56, f 57, f 58, f 59, f 60, f 61] := by kernel_rfl
def sumI (w : World) (g : Nat) (S : Vector UInt32 8) (f : Nat → Value) (wr : World) : Prop :=
  f 2 = .pointer (some ⟨w.heap.size, 0, none⟩) ∧ f 3 = .pointer (some ⟨w.heap.size + 1, 0, none⟩) ∧ f 8 = .pointer (some ⟨g, 0, none⟩) ∧ ∃ i, i ≤ 8 ∧ f 9 = .int .i64 (i : Nat) ∧
    blk wr w.heap.size = some (arr u8v (Vector.replicate 32 0)) ∧ free wr w.heap.size = true ∧ blk wr (w.heap.size + 1) = some (arr u32v S) ∧ blk wr g = some (arr u8v (digK S i)) ∧ free wr g = true ∧ Hid (Ext w wr)
set_option maxRecDepth 20000 in
set_option maxHeartbeats 2000000 in
theorem sum_any (w : World) (b o : Nat) (C : List Value) (h : Hasher) (m : List UInt8) (hb : blk w b = some (splice C o h.enc)) (hC : o + 74 ≤ C.length) (hR : Rep h m) :
    Calls Try.prog 16 #[.pointer (some ⟨b, o, none⟩)] w fun e w' => e = .returned (.agg (arr u8v (sumOf h (m.length % 64) m.length)).toArray) ∧ Ext w w' := by
  have hlt := blk_lt hb
  obtain ⟨N, hN⟩ : ∃ N, N = m.length := ⟨_, rfl⟩
  have hlen : w64 h.length = (N : Int) := by rw [hN]; exact hR.w64
  obtain ⟨f, hfd⟩ : ∃ f, f = m.length % 64 := ⟨_, rfl⟩
  have hfill : h.fill = (f : Int) := by rw [hfd]; exact hR.fill
  have hf64 : f < 64 := by omega
  have f64 : f ≤ 64 := by omega
  have HR : Hid (Rep h m) := hR
  have HN : Hid (N = m.length) := hN
  have HF : Hid (f = m.length % 64) := hfd
  rw [← hfd, ← hN]
  clear hR hN hfd
  go_enter Try.func16, Try.ntmps16
  go_upto_region 3 with fail
  refine wp_world (fun W => blk W b = some (splice C o h.enc) ∧ blk W w.heap.size = some (arr u8v (Vector.replicate 32 0)) ∧ free W w.heap.size = true ∧ blk W (w.heap.size + 1) = some (arr u32v h.state) ∧ free W (w.heap.size + 1) = true ∧ blk W (w.heap.size + 1 + 1) = some (arr u8v (Vector.replicate 128 0)) ∧ free W (w.heap.size + 1 + 1) = true ∧ W.heap.size = w.heap.size + 3 ∧ Hid (Ext w W)) ?_ ?_
  · have n3 : ¬ w.heap.size = w.heap.size + 1 := by omega
    have n4 : ¬ w.heap.size = w.heap.size + 1 + 1 := by omega
    have n5 : ¬ w.heap.size + 1 = w.heap.size + 1 + 1 := by omega
    have n0 : ¬ b = w.heap.size := by omega
    have n1 : ¬ b = w.heap.size + 1 := by omega
    have n2 : ¬ b = w.heap.size + 1 + 1 := by omega
    refine ⟨?_, ?_, ?_, ?_, ?_, ?_, ?_, ?_, (((Ext.refl w).alloc _).alloc _).put_new _ _ (by omega) |>.alloc _⟩
    all_goals simp only [blk_alloc, free_alloc, blk_put, free_put, size_put, World.size_alloc, n0, n1, n2, n3, n4, n5, hb, if_true, if_false, Option.map_some, List.toList_toArray]
  rintro W ⟨hb1, hr0, hrf0, hs0, hsf0, ht0, htf0, hsz, HE⟩
  clear hb
  have n0 : ¬ b = w.heap.size := by omega
  have n1 : ¬ b = w.heap.size + 1 := by omega
  have n2 : ¬ b = w.heap.size + 1 + 1 := by omega
  obtain ⟨bs, hbs⟩ : ∃ bs, bs = h.block.toList.take f := ⟨_, rfl⟩
  have hbl : bs.length = f := by rw [hbs]; simp; omega
  have c1 : srcB W (some ⟨b, o + 8, none⟩) f = some (bv bs) := by
    unfold srcB
    split
    · rename_i h0
      have : bs = [] := List.eq_nil_of_length_eq_zero (by omega)
      rw [this]; rfl
    · simp only [hb1]
      have hl : (splice C o h.enc).length = C.length := length_splice _ _ _ (by rw [Hasher.length_enc]; omega)
      rw [if_pos (by rw [hl]; omega), seg_splice (by rw [Hasher.length_enc]; omega) (by rw [Hasher.length_enc]; omega)]
      have h1 := seg_sub (C := h.enc) (o := 8) (n := 64) (l := 0) (m := f) (by omega)
      rw [Nat.add_zero, Hasher.block_get] at h1
      rw [h1, hbs]
      simp [arr, bv]
  have HB : Hid (bs = h.block.toList.take f) := hbs
  have HBL : Hid (bs.length = f) := hbl
  have c2 : min f 128 = f := by omega
  have c4 : splice (arr u8v (Vector.replicate 128 (0 : UInt8))) 0 (bv bs) = arr u8v (lay (Vector.replicate 128 0) 0 bs) := arr_lay _ _ _ (by omega)
  have c5 : splice (arr u8v (lay (Vector.replicate 128 (0 : UInt8)) 0 bs)) f [.int .u8 128] = arr u8v (lay (lay (Vector.replicate 128 0) 0 bs) f [128]) := arr_lay _ f [128] (by simp; omega)
  have c6 : bs.length ≤ 128 := by omega
  have e6 : IntKind.i64.wrap ((f : Int) + 9) = (f : Int) + 9 := wraps_i64 _ (by omega) (by omega)
  clear hbs hbl
  obtain ⟨B, hB⟩ : ∃ B, B = 8 * N := ⟨_, rfl⟩
  have hNs : N ≤ 2305843009213693951 := by have := HN.out; have := HR.out.small; omega
  have e7 : IntKind.u64.wrap ((N : Int) * 8) = (B : Int) := by rw [wrap_u64 _ (by omega) (by omega)]; omega
  have e8 : IntKind.u32.wrap ((B : Int) / 4294967296) = w32 (UInt32.ofNat (B / 4294967296)) := by
    rw [IntKind.wrap_u32]; unfold w32; rw [UInt32.toNat_ofNat']; omega
  have e9 : IntKind.u32.wrap (B : Int) = w32 (UInt32.ofNat B) := by
    rw [IntKind.wrap_u32]; unfold w32; rw [UInt32.toNat_ofNat']; omega
  obtain ⟨T2, hT2⟩ : ∃ T2, lay (lay (Vector.replicate 128 (0 : UInt8)) 0 bs) f [128] = T2 := ⟨_, rfl⟩
  have HT2 : Hid (lay (lay (Vector.replicate 128 (0 : UInt8)) 0 bs) f [128] = T2) := hT2
  have HBB : Hid (B = 8 * N) := hB
  clear hB
  rw [hT2] at c5
  clear hT2
  go_still_tail 9, Try.mixed
  by_cases hn : f + 9 ≤ 64
  · go_upto_region 9 with fail
    refine wp_world (fun W => blk W b = some (splice C o h.enc) ∧ blk W w.heap.size = some (arr u8v (Vector.replicate 32 0)) ∧ free W w.heap.size = true ∧ blk W (w.heap.size + 1) = some (arr u32v h.state) ∧ free W (w.heap.size + 1) = true ∧ blk W (w.heap.size + 1 + 1) = some (arr u8v T2) ∧ free W (w.heap.size + 1 + 1) = true ∧ W.heap.size = w.heap.size + 3 ∧ Hid (Ext w W)) ?_ ?_
    · have n3 : ¬ w.heap.size = w.heap.size + 1 + 1 := by omega
      have n4 : ¬ w.heap.size + 1 = w.heap.size + 1 + 1 := by omega
      refine ⟨?_, ?_, ?_, ?_, ?_, ?_, ?_, ?_, (HE.out.put_new _ _ (by omega)).drew⟩
      all_goals simp only [blk_drew, free_drew, blk_put, free_put, size_put, World.size_drew, n2, n3, n4, hb1, hr0, hrf0, hs0, hsf0, ht0, htf0, if_true, if_false, Option.map_some, hsz]
    clear hb1 hr0 hrf0 hs0 hsf0 ht0 htf0 hsz HE c4 c5 c1
    rintro W ⟨hb1, hr0, hrf0, hs0, hsf0, ht0, htf0, hsz, HE⟩
    go_wp2_with fail
    refine (put32_any W (w.heap.size + 1 + 1) 56 72 72 (arr u8v T2) (UInt32.ofNat (B / 4294967296)) ht0 (by rw [length_arr]; omega) htf0 (by omega)).mono ?_
    rintro e w2 ⟨rfl, ho⟩
    rw [show [(UInt32.ofNat (B / 4294967296) >>> 24).toUInt8, (UInt32.ofNat (B / 4294967296) >>> 16).toUInt8, (UInt32.ofNat (B / 4294967296) >>> 8).toUInt8, (UInt32.ofNat (B / 4294967296)).toUInt8] = be4 (UInt32.ofNat (B / 4294967296)) from rfl, arr_lay _ _ _ (by rw [length_be4]; omega)] at ho
    have ht1 := ho.blk_at ht0
    have htf1 := (ho.free (c := w.heap.size + 1 + 1) (by omega)).trans htf0
    have ho1 : Hid (Out W w2 (w.heap.size + 1 + 1) _) := ho
    clear ho
    go_wp2_with fail
    refine (put32_any w2 (w.heap.size + 1 + 1) 60 68 68 _ (UInt32.ofNat B) ht1 (by rw [length_arr]; omega) htf1 (by omega)).mono ?_
    rintro e w3 ⟨rfl, ho⟩
    rw [show [(UInt32.ofNat B >>> 24).toUInt8, (UInt32.ofNat B >>> 16).toUInt8, (UInt32.ofNat B >>> 8).toUInt8, (UInt32.ofNat B).toUInt8] = be4 (UInt32.ofNat B) from rfl, arr_lay _ _ _ (by rw [length_be4]; omega)] at ho
    have HT4 : Hid (lay (lay T2 56 (be4 (UInt32.ofNat (B / 4294967296)))) 60 (be4 (UInt32.ofNat B)) = tailOf bs f B) := by
      show _ = _
      have he : endOf f = 64 := if_pos hn
      rw [← HT2.out, tailOf, he]
    rw [HT4.out] at ho
    have ho3 : Hid (Out W w3 (w.heap.size + 1 + 1) (arr u8v (tailOf bs f B))) := ho1.out.step (by omega) ho
    have hsz3 : w.heap.size + 3 ≤ w3.heap.size := by have := ho3.out.size; omega
    clear ho ho1 ht1 htf1
    have ht3 := ho3.out.blk_at ht0
    have hs3 := (ho3.out.blk_other (c := w.heap.size + 1) (by omega) (by omega)).trans hs0
    have hsf3 := (ho3.out.free (c := w.heap.size + 1) (by omega)).trans hsf0
    have hr3 := (ho3.out.blk_other (c := w.heap.size) (by omega) (by omega)).trans hr0
    have hrf3 := (ho3.out.free (c := w.heap.size) (by omega)).trans hrf0
    have HE3 : Hid (Ext w w3) := by
      obtain ⟨G, n, e⟩ := ho3.out
      rw [e]
      exact (HE.out.put_new _ _ (by omega)).ext G n
    clear ho3 HE hb1 hr0 hrf0 hs0 hsf0 ht0 htf0
    go_wp2_with fail
    have hz8 : splice (arr u32v h.state) 0 (arr u32v h.state) = arr u32v h.state := set_arr _ _ _ _
    refine (compress_any w3 (w.heap.size + 1) 0 (w.heap.size + 1 + 1) 0 64 128 (arr u32v h.state) (tailOf bs f B).toList h.state (by rw [hz8]; exact hs3) (by rw [length_arr]; omega) hsf3 (by omega) (by omega) (by omega) ?_ (by omega)).mono ?_
    · intro X _ j hj
      rw [blk_put, if_neg (by omega), ht3, cellAt_some, Nat.zero_add]
      show (arr u8v (tailOf bs f B))[j]? = _
      rw [arr_at _ _ (by omega)]
      have hj2 : j < 128 := by omega
      simp [byteAt, hj2, u8v]
    rintro e w4 ⟨rfl, ho⟩
    rw [set_arr] at ho
    obtain ⟨S, hS⟩ : ∃ S, compN (tailOf bs f B).toList h.state (64 / 64) = S := ⟨_, rfl⟩
    rw [hS] at ho
    have HS : Hid (sumOf h f N = digV S) := by
      show _ = _
      have he : endOf f = 64 := if_pos hn
      rw [← hS, sumOf, he, ← HB.out, ← HBB.out]
    have hs4 := ho.blk_at hs3
    have hr4 := (ho.blk_other (c := w.heap.size) (by omega) (by omega)).trans hr3
    have hrf4 := (ho.free (c := w.heap.size) (by omega)).trans hrf3
    have hsz4 : w.heap.size + 3 ≤ w4.heap.size := by have := ho.size; omega
    have HE4 : Hid (Ext w w4) := by
      obtain ⟨G, n, e⟩ := ho
      rw [e]
      exact (HE3.out.put_new _ _ (by omega)).ext G n
    clear ho HE3 hs3 hsf3 hr3 hrf3 ht3 hsz3 hS
    go_wp2_with fail
    refine wp_loop_f 62 (sumI w w4.heap.size S) (fun f _ => 8 - (intOf (f 9)).toNat) rfl ?_ ?_
    · refine ⟨rfl, rfl, rfl, 0, by omega, rfl, ?_, ?_, ?_, ?_, ?_, HE4.out.alloc _⟩
      · rw [blk_alloc, if_neg (by omega)]; exact hr4
      · rw [free_alloc, if_neg (by omega)]; exact hrf4
      · rw [blk_alloc, if_neg (by omega)]; exact hs4
      · rw [blk_alloc, if_pos rfl, digK_zero]
      · rw [free_alloc, if_pos rfl]
    clear hr4 hrf4 hs4 HE4
    intro F wr hrel
    obtain ⟨h2, h3, h8, i, hi, h9, hr, hrf, hs, hd, hdf, HE⟩ := hrel
    have hgs := blk_lt hd
    have H9 : Hid (F 9 = .int .i64 (i : Nat)) := h9
    rw [frame62, h2, h3, h8, h9]
    clear h2 h3 h8 h9
    by_cases hi8 : i < 8
    · obtain ⟨k4, hk4⟩ : ∃ k4, k4 = 4 * i := ⟨_, rfl⟩
      have e1 : IntKind.i64.wrap (4 * (i : Int)) = (k4 : Int) := by rw [wraps_i64 _ (by omega) (by omega)]; omega
      have e2 : k4 ≤ 32 := by omega
      have e3 : cutA (some ⟨w4.heap.size, 0, none⟩) k4 32 = some ⟨w4.heap.size, k4, none⟩ := by rw [cut_at _ _ _ _ (by omega), Nat.zero_add]
      have HK4 : Hid (k4 = 4 * i) := hk4
      clear hk4
      have q0 : (0 : Int) ≤ (i : Int) := by omega
      have q1 : (i : Int) < 8 := by omega
      have q2 : ((i : Int)).toNat = i := by omega
      go_wp2_with fail
      go_still_tail 6, Try.mixed
      go_wp2_with fail
      refine (put32_any wr.drew w4.heap.size k4 (32 - k4) (32 - k4) (arr u8v (digK S i)) S[i] hd (by rw [length_arr]; have := HK4.out; omega) hdf (by have := HK4.out; omega)).mono ?_
      rintro e w5 ⟨rfl, ho⟩
      rw [show [(S[i] >>> 24).toUInt8, (S[i] >>> 16).toUInt8, (S[i] >>> 8).toUInt8, S[i].toUInt8] = be4 S[i] from rfl, arr_lay _ _ _ (by rw [length_be4]; have := HK4.out; omega), HK4.out, digK_step _ _ hi8] at ho
      have HO : Hid (Out wr w5 w4.heap.size (arr u8v (digK S (i + 1)))) := (show Out wr wr.drew w4.heap.size (arr u8v (digK S i)) from (Out.mk0 hd).drew).step hgs ho
      clear ho
      have hne1 : w.heap.size ≠ w4.heap.size := by omega
      have hne2 : w.heap.size + 1 ≠ w4.heap.size := by omega
      go_wp2_with fail
      refine ⟨rfl, rfl, ?_, ?_⟩
      · refine ⟨rfl, rfl, rfl, i + 1, by omega, ?_, ?_, ?_, ?_, ?_, ?_, ?_⟩
        · show Value.int .i64 _ = _
          go_num
        · exact (HO.out.blk_other (by omega) hne1).trans hr
        · exact (HO.out.free (by omega)).trans hrf
        · exact (HO.out.blk_other (by omega) hne2).trans hs
        · exact HO.out.blk_at hd
        · exact (HO.out.free hgs).trans hdf
        · obtain ⟨G, n, e⟩ := HO.out
          rw [e]
          exact (HE.out.put_new _ _ (by omega)).ext G n
      · show 8 - (intOf (Value.int .i64 _)).toNat < 8 - (intOf (F 9)).toNat
        rw [H9.out]
        simp [intOf]; omega
    · obtain rfl : i = 8 := by omega
      have hne1 : ¬ w4.heap.size = w.heap.size := by omega
      go_wp2_with fail
      refine ret_cell rfl rfl (by rw [blk_put, if_pos rfl, hr]; rfl) (by kernel_rfl) (by rw [length_arr]; kernel_rfl) rfl ?_
      rw [HS.out]
      exact ⟨rfl, HE.out.put_new _ _ (Nat.le_refl _)⟩
  · go_upto_region 9 with fail
    refine wp_world (fun W => blk W b = some (splice C o h.enc) ∧ blk W w.heap.size = some (arr u8v (Vector.replicate 32 0)) ∧ free W w.heap.size = true ∧ blk W (w.heap.size + 1) = some (arr u32v h.state) ∧ free W (w.heap.size + 1) = true ∧ blk W (w.heap.size + 1 + 1) = some (arr u8v T2) ∧ free W (w.heap.size + 1 + 1) = true ∧ W.heap.size = w.heap.size + 3 ∧ Hid (Ext w W)) ?_ ?_
    · have n3 : ¬ w.heap.size = w.heap.size + 1 + 1 := by omega
      have n4 : ¬ w.heap.size + 1 = w.heap.size + 1 + 1 := by omega
      refine ⟨?_, ?_, ?_, ?_, ?_, ?_, ?_, ?_, (HE.out.put_new _ _ (by omega)).drew⟩
      all_goals simp only [blk_drew, free_drew, blk_put, free_put, size_put, World.size_drew, n2, n3, n4, hb1, hr0, hrf0, hs0, hsf0, ht0, htf0, if_true, if_false, Option.map_some, hsz]
    clear hb1 hr0 hrf0 hs0 hsf0 ht0 htf0 hsz HE c4 c5 c1
    rintro W ⟨hb1, hr0, hrf0, hs0, hsf0, ht0, htf0, hsz, HE⟩
    go_wp2_with fail
    refine (put32_any W (w.heap.size + 1 + 1) 120 8 8 (arr u8v T2) (UInt32.ofNat (B / 4294967296)) ht0 (by rw [length_arr]; omega) htf0 (by omega)).mono ?_
    rintro e w2 ⟨rfl, ho⟩
    rw [show [(UInt32.ofNat (B / 4294967296) >>> 24).toUInt8, (UInt32.ofNat (B / 4294967296) >>> 16).toUInt8, (UInt32.ofNat (B / 4294967296) >>> 8).toUInt8, (UInt32.ofNat (B / 4294967296)).toUInt8] = be4 (UInt32.ofNat (B / 4294967296)) from rfl, arr_lay _ _ _ (by rw [length_be4]; omega)] at ho
    have ht1 := ho.blk_at ht0
    have htf1 := (ho.free (c := w.heap.size + 1 + 1) (by omega)).trans htf0
    have ho1 : Hid (Out W w2 (w.heap.size + 1 + 1) _) := ho
    clear ho
    go_wp2_with fail
    refine (put32_any w2 (w.heap.size + 1 + 1) 124 4 4 _ (UInt32.ofNat B) ht1 (by rw [length_arr]; omega) htf1 (by omega)).mono ?_
    rintro e w3 ⟨rfl, ho⟩
    rw [show [(UInt32.ofNat B >>> 24).toUInt8, (UInt32.ofNat B >>> 16).toUInt8, (UInt32.ofNat B >>> 8).toUInt8, (UInt32.ofNat B).toUInt8] = be4 (UInt32.ofNat B) from rfl, arr_lay _ _ _ (by rw [length_be4]; omega)] at ho
    have HT4 : Hid (lay (lay T2 120 (be4 (UInt32.ofNat (B / 4294967296)))) 124 (be4 (UInt32.ofNat B)) = tailOf bs f B) := by
      show _ = _
      have he : endOf f = 128 := if_neg hn
      rw [← HT2.out, tailOf, he]
    rw [HT4.out] at ho
    have ho3 : Hid (Out W w3 (w.heap.size + 1 + 1) (arr u8v (tailOf bs f B))) := ho1.out.step (by omega) ho
    have hsz3 : w.heap.size + 3 ≤ w3.heap.size := by have := ho3.out.size; omega
    clear ho ho1 ht1 htf1
    have ht3 := ho3.out.blk_at ht0
    have hs3 := (ho3.out.blk_other (c := w.heap.size + 1) (by omega) (by omega)).trans hs0
    have hsf3 := (ho3.out.free (c := w.heap.size + 1) (by omega)).trans hsf0
    have hr3 := (ho3.out.blk_other (c := w.heap.size) (by omega) (by omega)).trans hr0
    have hrf3 := (ho3.out.free (c := w.heap.size) (by omega)).trans hrf0
    have HE3 : Hid (Ext w w3) := by
      obtain ⟨G, n, e⟩ := ho3.out
      rw [e]
      exact (HE.out.put_new _ _ (by omega)).ext G n
    clear ho3 HE hb1 hr0 hrf0 hs0 hsf0 ht0 htf0
    go_wp2_with fail
    have hz8 : splice (arr u32v h.state) 0 (arr u32v h.state) = arr u32v h.state := set_arr _ _ _ _
    refine (compress_any w3 (w.heap.size + 1) 0 (w.heap.size + 1 + 1) 0 128 128 (arr u32v h.state) (tailOf bs f B).toList h.state (by rw [hz8]; exact hs3) (by rw [length_arr]; omega) hsf3 (by omega) (by omega) (by omega) ?_ (by omega)).mono ?_
    · intro X _ j hj
      rw [blk_put, if_neg (by omega), ht3, cellAt_some, Nat.zero_add]
      show (arr u8v (tailOf bs f B))[j]? = _
      rw [arr_at _ _ (by omega)]
      have hj2 : j < 128 := by omega
      simp [byteAt, hj2, u8v]
    rintro e w4 ⟨rfl, ho⟩
    rw [set_arr] at ho
    obtain ⟨S, hS⟩ : ∃ S, compN (tailOf bs f B).toList h.state (128 / 64) = S := ⟨_, rfl⟩
    rw [hS] at ho
    have HS : Hid (sumOf h f N = digV S) := by
      show _ = _
      have he : endOf f = 128 := if_neg hn
      rw [← hS, sumOf, he, ← HB.out, ← HBB.out]
    have hs4 := ho.blk_at hs3
    have hr4 := (ho.blk_other (c := w.heap.size) (by omega) (by omega)).trans hr3
    have hrf4 := (ho.free (c := w.heap.size) (by omega)).trans hrf3
    have hsz4 : w.heap.size + 3 ≤ w4.heap.size := by have := ho.size; omega
    have HE4 : Hid (Ext w w4) := by
      obtain ⟨G, n, e⟩ := ho
      rw [e]
      exact (HE3.out.put_new _ _ (by omega)).ext G n
    clear ho HE3 hs3 hsf3 hr3 hrf3 ht3 hsz3 hS
    go_wp2_with fail
    refine wp_loop_f 62 (sumI w w4.heap.size S) (fun f _ => 8 - (intOf (f 9)).toNat) rfl ?_ ?_
    · refine ⟨rfl, rfl, rfl, 0, by omega, rfl, ?_, ?_, ?_, ?_, ?_, HE4.out.alloc _⟩
      · rw [blk_alloc, if_neg (by omega)]; exact hr4
      · rw [free_alloc, if_neg (by omega)]; exact hrf4
      · rw [blk_alloc, if_neg (by omega)]; exact hs4
      · rw [blk_alloc, if_pos rfl, digK_zero]
      · rw [free_alloc, if_pos rfl]
    clear hr4 hrf4 hs4 HE4
    intro F wr hrel
    obtain ⟨h2, h3, h8, i, hi, h9, hr, hrf, hs, hd, hdf, HE⟩ := hrel
    have hgs := blk_lt hd
    have H9 : Hid (F 9 = .int .i64 (i : Nat)) := h9
    rw [frame62, h2, h3, h8, h9]
    clear h2 h3 h8 h9
    by_cases hi8 : i < 8
    · obtain ⟨k4, hk4⟩ : ∃ k4, k4 = 4 * i := ⟨_, rfl⟩
      have e1 : IntKind.i64.wrap (4 * (i : Int)) = (k4 : Int) := by rw [wraps_i64 _ (by omega) (by omega)]; omega
      have e2 : k4 ≤ 32 := by omega
      have e3 : cutA (some ⟨w4.heap.size, 0, none⟩) k4 32 = some ⟨w4.heap.size, k4, none⟩ := by rw [cut_at _ _ _ _ (by omega), Nat.zero_add]
      have HK4 : Hid (k4 = 4 * i) := hk4
      clear hk4
      have q0 : (0 : Int) ≤ (i : Int) := by omega
      have q1 : (i : Int) < 8 := by omega
      have q2 : ((i : Int)).toNat = i := by omega
      go_wp2_with fail
      go_still_tail 6, Try.mixed
      go_wp2_with fail
      refine (put32_any wr.drew w4.heap.size k4 (32 - k4) (32 - k4) (arr u8v (digK S i)) S[i] hd (by rw [length_arr]; have := HK4.out; omega) hdf (by have := HK4.out; omega)).mono ?_
      rintro e w5 ⟨rfl, ho⟩
      rw [show [(S[i] >>> 24).toUInt8, (S[i] >>> 16).toUInt8, (S[i] >>> 8).toUInt8, S[i].toUInt8] = be4 S[i] from rfl, arr_lay _ _ _ (by rw [length_be4]; have := HK4.out; omega), HK4.out, digK_step _ _ hi8] at ho
      have HO : Hid (Out wr w5 w4.heap.size (arr u8v (digK S (i + 1)))) := (show Out wr wr.drew w4.heap.size (arr u8v (digK S i)) from (Out.mk0 hd).drew).step hgs ho
      clear ho
      have hne1 : w.heap.size ≠ w4.heap.size := by omega
      have hne2 : w.heap.size + 1 ≠ w4.heap.size := by omega
      go_wp2_with fail
      refine ⟨rfl, rfl, ?_, ?_⟩
      · refine ⟨rfl, rfl, rfl, i + 1, by omega, ?_, ?_, ?_, ?_, ?_, ?_, ?_⟩
        · show Value.int .i64 _ = _
          go_num
        · exact (HO.out.blk_other (by omega) hne1).trans hr
        · exact (HO.out.free (by omega)).trans hrf
        · exact (HO.out.blk_other (by omega) hne2).trans hs
        · exact HO.out.blk_at hd
        · exact (HO.out.free hgs).trans hdf
        · obtain ⟨G, n, e⟩ := HO.out
          rw [e]
          exact (HE.out.put_new _ _ (by omega)).ext G n
      · show 8 - (intOf (Value.int .i64 _)).toNat < 8 - (intOf (F 9)).toNat
        rw [H9.out]
        simp [intOf]; omega
    · obtain rfl : i = 8 := by omega
      have hne1 : ¬ w4.heap.size = w.heap.size := by omega
      go_wp2_with fail
      refine ret_cell rfl rfl (by rw [blk_put, if_pos rfl, hr]; rfl) (by kernel_rfl) (by rw [length_arr]; kernel_rfl) rfl ?_
      rw [HS.out]
      exact ⟨rfl, HE.out.put_new _ _ (Nat.le_refl _)⟩
end Go.Proofs.Qxb6500785a
