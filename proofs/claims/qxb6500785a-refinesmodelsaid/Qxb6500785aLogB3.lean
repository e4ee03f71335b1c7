import Derived.Test.Qxb6500785aNote3
import Derived.Test.Qxb6500785aKnown
import Derived.Deep.RegionHeld
import Derived.Deep.CutRange
import Derived.Laws.ResultCell
import Derived.Laws.Rows
set_option linter.unusedSimpArgs false
set_option linter.unusedVariables false
namespace Go.Proofs.Qxb6500785a
open Go.RowKit Go.Blk
attribute [local go_sem ↓] execOp_load execOp_store execOp_alloc
attribute [local go_sem] Try.ld24 Try.st24 Try.ld5 Try.st5 Try.ld3 Try.st3 Try.ld27 Try.st27 Try.ld32 Try.st32 Try.ld33 Try.st33 Try.ld4 Try.st4 Try.ld41 Try.st41 Try.ld40 Try.st40 Try.ld42 Try.st42 Try.ld47 Try.st47 Try.ld48 Try.st48 Try.ld57 Try.st57 Try.ld58 Try.st58 Try.ld2 Try.st2 Try.ld9 Try.st9 Try.ld12 Try.st12 Try.ld21 Try.st21 Try.ld22 Try.st22 Try.ld46 Try.st46 Try.ld83 Try.st83 Try.ld95 Try.st95 Try.ld99 Try.st99 Try.ld106 Try.st106 Try.ld108 Try.st108 Try.ld134 Try.st134 Try.ld25 Try.st25 Try.ld26 Try.st26 Try.ld34 Try.st34 Try.ld31 Try.st31 Try.ld30 Try.st30 Try.ld74 Try.st74 Try.ld96 Try.st96 Try.ld101 Try.st101 Try.ld115 Try.st115 Try.ld116 Try.st116 Try.ld120 Try.st120 Try.ld121 Try.st121 Try.ld122 Try.st122 Try.ld29 Try.st29 Try.ld36 Try.st36 Try.ld38 Try.st38 Try.ld44 Try.st44 Try.ld50 Try.st50 Try.ld60 Try.st60 Try.ld110 Try.st110 Try.al25 Try.al26 Try.al34 Try.al31 Try.al30 Try.al74 Try.al96 Try.al101 Try.al115 Try.al116 Try.al120 Try.al121 Try.al122 Try.al29 Try.al36 Try.al38 Try.al44 Try.al50 Try.al60 Try.al110
attribute [local go_sem] Hasher.length_enc Hasher.ok_enc Hasher.all_get Hasher.all_set Hasher.state_get Hasher.state_set Hasher.block_get Hasher.block_set Hasher.fill_get Hasher.fill_set Hasher.length_get Hasher.length_set GLog.length_enc GLog.ok_enc GLog.all_get GLog.all_set GLog.entries_get GLog.entries_set GLog.shelves_get GLog.shelves_set GLog.first_get GLog.first_set GLog.second_get GLog.second_set GLog.found_get GLog.found_set Player.length_enc Player.ok_enc Player.all_get Player.all_set Player.hand_get Player.hand_set Player.aside_get Player.aside_set Player.prev_get Player.prev_set Player.last_get Player.last_set Player.log_get Player.log_set Player.hand_state_get Player.hand_state_set Player.hand_block_get Player.hand_block_set Player.hand_fill_get Player.hand_fill_set Player.hand_length_get Player.hand_length_set Player.aside_state_get Player.aside_state_set Player.aside_block_get Player.aside_block_set Player.aside_fill_get Player.aside_fill_set Player.aside_length_get Player.aside_length_set Player.log_entries_get Player.log_entries_set Player.log_shelves_get Player.log_shelves_set Player.log_first_get Player.log_first_set Player.log_second_get Player.log_second_set Player.log_found_get Player.log_found_set GOp.length_enc GOp.ok_enc GOp.all_get GOp.all_set GOp.kind_get GOp.kind_set GOp.data_get GOp.data_set GOp.cut_get GOp.cut_set GOp.n_get GOp.n_set GOp.b_get GOp.b_set GOp.v_get GOp.v_set GOp.dom_get GOp.dom_set GOp.sum_get GOp.sum_set Answer.length_enc Answer.ok_enc Answer.all_get Answer.all_set Answer.code_get Answer.code_set Answer.sum_get Answer.sum_set Answer.len_get Answer.len_set Answer.mark_get Answer.mark_set Answer.noted_get Answer.noted_set Answer.collided_get Answer.collided_set GState.length_enc GState.ok_enc GState.all_get GState.all_set GState.hand_get GState.hand_set GState.aside_get GState.aside_set GState.prev_get GState.prev_set GState.last_get GState.last_set GState.inputs_get GState.inputs_set GState.sums_get GState.sums_set GState.collided_get GState.collided_set GState.older_get GState.older_set GState.younger_get GState.younger_set Noted.length_enc Noted.ok_enc Noted.all_get Noted.all_set Noted.input_get Noted.input_set Noted.sum_get Noted.sum_set
attribute [local go_sem] size_put size_ext blk_put free_put blk_alloc free_alloc blk_drew free_drew blk_ext free_ext lookOr_some putOr_some segAt_some cellAt_some storeIn_some put_put put_alloc_new length_arr ok_arr_u8 ok_arr_u32 ok_arr_u64 ok_arr_i64 ok_arr_sl cellsV_agg cellsV_int cellsV_bool cellsV_string cellsV_pointer cellsV_slice cellsV_sl ok_int ok_bool ok_string ok_pointer ok_slice ok_sl toList_arr seg_arr set_arr nth_splice nth_splice0 seg_splice seg_splice0 splice_splice splice_splice0 length_splice_if
attribute [local go_sem] w32_and w32_or w32_xor w32_add w32_or8 w32_not w8_and w8_or w8_xor w32_shr2 w32_shl2 w32_shr3 w32_shl3 w32_shr6 w32_shl6 w32_shr7 w32_shl7 w32_shr8 w32_shl8 w32_shr10 w32_shl10 w32_shr11 w32_shl11 w32_shr13 w32_shl13 w32_shr14 w32_shl14 w32_shr15 w32_shl15 w32_shr16 w32_shl16 w32_shr17 w32_shl17 w32_shr18 w32_shl18 w32_shr19 w32_shl19 w32_shr21 w32_shl21 w32_shr22 w32_shl22 w32_shr24 w32_shl24 w32_shr25 w32_shl25 w32_shr26 w32_shl26 w32_shr30 w32_shl30 w8_shl24 w8_shl16 w8_shl8 v32_add v32_byte w32_byte0 v8_shl24 v8_shl16 v8_shl8 v32_shr2 v32_shl2 v32_shr3 v32_shl3 v32_shr6 v32_shl6 v32_shr7 v32_shl7 v32_shr8 v32_shl8 v32_shr10 v32_shl10 v32_shr11 v32_shl11 v32_shr13 v32_shl13 v32_shr14 v32_shl14 v32_shr15 v32_shl15 v32_shr16 v32_shl16 v32_shr17 v32_shl17 v32_shr18 v32_shl18 v32_shr19 v32_shl19 v32_shr21 v32_shl21 v32_shr22 v32_shl22 v32_shr24 v32_shl24 v32_shr25 v32_shl25 v32_shr26 v32_shl26 v32_shr30 v32_shl30
attribute [local go_sem ↓] execOp_build
attribute [local go_sem] run_build_kv run_build_iv nth_arr_u32 put_arr_u32 nth_arr_u8 put_arr_u8 v32_of8 blk_drewN free_drewN put_drewN put_drew blk_raw free_raw
attribute [local go_sem ↓] execOp_slice execOp_copy
attribute [local go_sem] Try.sl40lo Try.sl40hi Try.sl26lo Try.sl26hi Try.sl26 Try.sl96lo Try.sl96hi Try.sl96 Try.sl31lo Try.sl31 Try.sl120 Try.sl121 Try.sl121lo Try.sl121hi Try.cp40 copyOr_some copyIn_some srcB_drew srcB_drewN srcB_raw length_bv one_bv
attribute [local go_sem] Hasher.length_zero
attribute [local go_sem] Try.cpv copyOrV_some
attribute [local go_sem ↓] execOp_index execOp_convert execOp_box execOp_convert9
attribute [local go_sem] index_hex box_run conv_bytes eq31
attribute [local go_sem] build31
attribute [local go_sem ↓] execOp_make
def nibV (c : UInt8) : Option UInt8 := if 48 ≤ c.toNat ∧ c.toNat ≤ 57 then some (UInt8.ofNat (c.toNat - 48)) else if 97 ≤ c.toNat ∧ c.toNat ≤ 102 then some (UInt8.ofNat (c.toNat - 87)) else none
theorem nibble_any (w : World) (c : UInt8) : Calls Try.prog 72 #[.int .u8 (w8 c)] w fun e w' => e = .returned (.tuple #[.int .u8 (w8 ((nibV c).getD 0)), .bool (nibV c).isSome]) ∧ w' = w := by
  obtain ⟨n, hn⟩ : ∃ n, c.toNat = n := ⟨_, rfl⟩
  have hc : w8 c = (n : Int) := by unfold w8; rw [hn]
  have hl : n < 256 := by have := w8_lt c; omega
  have hnv : nibV c = if 48 ≤ n ∧ n ≤ 57 then some (UInt8.ofNat (n - 48)) else if 97 ≤ n ∧ n ≤ 102 then some (UInt8.ofNat (n - 87)) else none := by rw [← hn]; rfl
  rw [hc, hnv]
  clear hc hnv hn
  by_cases h1 : 48 ≤ n
  · by_cases h2 : n ≤ 57
    · rw [if_pos ⟨h1, h2⟩]
      have g1 : (48 : Int) ≤ (n : Int) := by omega
      have g2 : (n : Int) ≤ 57 := by omega
      have e1 : IntKind.u8.wrap ((n : Int) - 48) = w8 (UInt8.ofNat (n - 48)) := by
        rw [IntKind.wrap_u8]; unfold w8; rw [UInt8.toNat_ofNat']; omega
      go_enter Try.func72, Try.ntmps72
      go_wp2_with fail
      go_ret2
      exact ⟨rfl, rfl⟩
    · rw [if_neg (fun h => h2 h.2)]
      have g1 : (48 : Int) ≤ (n : Int) := by omega
      have g2 : ¬ (n : Int) ≤ 57 := by omega
      by_cases h3 : 97 ≤ n
      · by_cases h4 : n ≤ 102
        · rw [if_pos ⟨h3, h4⟩]
          have g3 : (97 : Int) ≤ (n : Int) := by omega
          have g4 : (n : Int) ≤ 102 := by omega
          have e1 : IntKind.u8.wrap ((n : Int) - 97) = (n : Int) - 97 := by rw [IntKind.wrap_u8]; omega
          have e2 : IntKind.u8.wrap ((n : Int) - 97 + 10) = w8 (UInt8.ofNat (n - 87)) := by
            rw [IntKind.wrap_u8]; unfold w8; rw [UInt8.toNat_ofNat']; omega
          go_enter Try.func72, Try.ntmps72
          go_wp2_with fail
          go_ret2
          exact ⟨rfl, rfl⟩
        · rw [if_neg (fun h => h4 h.2)]
          have g3 : (97 : Int) ≤ (n : Int) := by omega
          have g4 : ¬ (n : Int) ≤ 102 := by omega
          go_enter Try.func72, Try.ntmps72
          go_wp2_with fail
          go_ret2
          exact ⟨rfl, rfl⟩
      · rw [if_neg (fun h => h3 h.1)]
        have g3 : ¬ (97 : Int) ≤ (n : Int) := by omega
        go_enter Try.func72, Try.ntmps72
        go_wp2_with fail
        go_ret2
        exact ⟨rfl, rfl⟩
  · rw [if_neg (fun h => h1 h.1), if_neg (fun h => by omega)]
    have g1 : ¬ (48 : Int) ≤ (n : Int) := by omega
    have g3 : ¬ (97 : Int) ≤ (n : Int) := by omega
    go_enter Try.func72, Try.ntmps72
    go_wp2_with fail
    go_ret2
    exact ⟨rfl, rfl⟩
def parseK (xs : List UInt8) (i : Nat) : Option (Vector UInt8 32) → Option (Vector UInt8 32)
  | some d => match nibV (xs.getD (2 * i) 0), nibV (xs.getD (2 * i + 1) 0) with
    | some a, some b => if h : i < 32 then some (d.set i (a <<< 4 ||| b) h) else none
    | _, _ => none
  | none => none
def parseN (xs : List UInt8) : Nat → Option (Vector UInt8 32)
  | 0 => some (Vector.replicate 32 0)
  | i + 1 => parseK xs i (parseN xs i)
def parseH (xs : List UInt8) : Option (Vector UInt8 32) := if xs.length = 64 then parseN xs 32 else none
theorem parse_stays (xs : List UInt8) (i : Nat) (h : parseN xs i = none) : ∀ d, parseN xs (i + d) = none := by
  intro d
  induction d with
  | zero => exact h
  | succ d ih => rw [← Nat.add_assoc]; show parseK xs (i + d) _ = none; rw [ih]; rfl
def phI (w : World) (a : Option Addr) (cap : Nat) (xs : List UInt8) (f : Nat → Value) (W : World) : Prop :=
  f 0 = .slice a 64 cap ∧ f 2 = .pointer (some ⟨w.heap.size, 0, none⟩) ∧ f 4 = .pointer (some ⟨w.heap.size + 1, 0, none⟩) ∧ ∃ (i : Nat) (d : Vector UInt8 32), i ≤ 32 ∧ f 5 = .int .i64 (i : Nat) ∧ Hid (parseN xs i = some d) ∧
    blk W w.heap.size = some (arr u8v (Vector.replicate 32 0)) ∧ free W w.heap.size = true ∧ blk W (w.heap.size + 1) = some (arr u8v d) ∧ free W (w.heap.size + 1) = true ∧ Hid (Ext w W)
def parseV (xs : List UInt8) : Value := .tuple #[.agg (arr u8v ((parseH xs).getD (Vector.replicate 32 0))).toArray, .int .i64 (if (parseH xs).isSome then 0 else 3)]
set_option maxRecDepth 100000 in
theorem frame51 (f : Nat → Value) : frameN 51 f = #[f 0, f 1, f 2, f 3, f 4, f 5, f 6, f 7, f 8, f 9, f 10, f 11, f 12, f 13, f 14, f 15, f 16, f 17, f 18, f 19, f 20, f 21, f 22, f 23, f 24, f 25, f 26, f 27, f 28, f 29, f 30, f 31, f 32, f 33, f 34, f 35, f 36, f 37, f 38, f 39, f 40, f 41, f 42, f 43, f 44, f 45, f 46, f 47, f 48, f 49, f 50] := by kernel_rfl
theorem w8_shl4 (a : UInt8) : w8 a * (16 : Int) % (256 : Int) = w8 (a <<< 4) := by unfold w8; rw [UInt8.toNat_shiftLeft, Nat.shiftLeft_eq]; rfl
theorem v8_shl4 (a : UInt8) : IntKind.u8.wrap (w8 a * (16 : Int)) = w8 (a <<< 4) := by rw [IntKind.wrap_u8]; exact w8_shl4 a
attribute [local go_sem] w8_shl4 v8_shl4
theorem parseN_some {xs : List UInt8} {i : Nat} {d : Vector UInt8 32} {a b : UInt8} (h : parseN xs i = some d) (hi : i < 32) (h1 : nibV (xs.getD (2 * i) 0) = some a) (h2 : nibV (xs.getD (2 * i + 1) 0) = some b) : parseN xs (i + 1) = some (d.set i (a <<< 4 ||| b) hi) := by
  show parseK xs i (parseN xs i) = _
  rw [h]
  simp only [parseK, h1, h2, hi, dif_pos]
theorem parseN_none {xs : List UInt8} {i : Nat} {d : Vector UInt8 32} (h : parseN xs i = some d) (hi : i < 32) (h1 : nibV (xs.getD (2 * i) 0) = none ∨ nibV (xs.getD (2 * i + 1) 0) = none) : parseN xs 32 = none := by
  have : parseN xs (i + 1) = none := by
    show parseK xs i (parseN xs i) = _
    rw [h]
    rcases h1 with h1 | h1
    · simp only [parseK, h1]
    · simp only [parseK, h1]
      cases nibV (xs.getD (2 * i) 0) <;> rfl
  have := parse_stays xs (i + 1) this (32 - (i + 1))
  rwa [show i + 1 + (32 - (i + 1)) = 32 by omega] at this
set_option maxRecDepth 20000 in
set_option maxHeartbeats 2000000 in
theorem parseHex_any (w : World) (av : Nat) (a : Option Addr) (len cap : Nat) (xs : List UInt8) (hX : BytesAt av w a len cap xs) :
    Calls Try.prog 31 #[.slice a len cap] w fun e w' => e = .returned (parseV xs) ∧ Ext w w' := by
  have HX : Hid (BytesAt av w a len cap xs) := hX
  have hxl := hX.1
  clear hX
  by_cases h64 : len = 64
  · subst h64
    go_enter Try.func31, Try.ntmps31
    go_wp2_with fail
    refine wp_loop_f 51 (phI w a cap xs) (fun f _ => 32 - (intOf (f 5)).toNat) rfl ?_ ?_
    · refine ⟨rfl, rfl, rfl, 0, Vector.replicate 32 0, by omega, rfl, rfl, ?_, ?_, ?_, ?_, ((Ext.refl w).alloc _).alloc _⟩
      · rw [blk_alloc, if_neg (by rw [World.size_alloc]; omega), blk_alloc, if_pos rfl]
      · rw [free_alloc, if_neg (by rw [World.size_alloc]; omega), free_alloc, if_pos rfl]
      · rw [blk_alloc, if_pos (by rw [World.size_alloc])]
      · rw [free_alloc, if_pos (by rw [World.size_alloc])]
    intro F W hrel
    obtain ⟨h0, h2, h4, i, d, hi, h5, HP, hb, hf, hr, hrf, HE⟩ := hrel
    have H5 : Hid (F 5 = .int .i64 (i : Nat)) := h5
    rw [frame51, h0, h2, h4, h5]
    clear h0 h2 h4 h5
    have hsz := blk_lt hr
    have hne : ¬ w.heap.size = w.heap.size + 1 := by omega
    have hne2 : ¬ w.heap.size + 1 = w.heap.size := by omega
    by_cases hil : i < 32
    · have hXW : BytesAt W.heap.size W a 64 cap xs := HX.out.at_new (fun b hb => HE.out.blk hb) HE.out.size
      obtain ⟨bq, oq, rfl, _, _, hc⟩ := hXW.cell (j := 0) (by omega)
      have g1 := hc (2 * i) (by omega)
      have g2 := hc (2 * i + 1) (by omega)
      obtain ⟨k, hk⟩ : ∃ k, k = 2 * i := ⟨_, rfl⟩
      rw [← hk] at g1 g2
      have HK : Hid (k = 2 * i) := hk
      have e1 : IntKind.i64.wrap (2 * (i : Int)) = (k : Int) := by rw [wraps_i64 _ (by omega) (by omega)]; omega
      have e1' : 2 * (i : Int) = (k : Int) := by omega
      have hk62 : k ≤ 62 := by omega
      obtain ⟨x, hx⟩ : ∃ x, xs.getD k 0 = x := ⟨_, rfl⟩
      obtain ⟨y, hy⟩ : ∃ y, xs.getD (k + 1) 0 = y := ⟨_, rfl⟩
      rw [hx] at g1
      rw [hy] at g2
      have HXX : Hid (xs.getD k 0 = x) := hx
      have HYY : Hid (xs.getD (k + 1) 0 = y) := hy
      clear hc hx hy hXW hk
      go_wp2_with fail
      refine (nibble_any _ x).mono ?_
      rintro e W2 ⟨rfl, rfl⟩
      go_wp2_with fail
      refine (nibble_any _ y).mono ?_
      rintro e W2 ⟨rfl, rfl⟩
      cases hnx : nibV x with
      | none =>
        have HNX : Hid (nibV x = none) := hnx
        clear hnx
        simp only [Option.isSome_none, Option.getD_none]
        go_wp2_with fail
        refine ret_cell_tmp rfl rfl rfl (by rw [blk_put, if_pos rfl, hb]; rfl) (by kernel_rfl) (by rw [length_arr]; kernel_rfl) rfl ?_
        refine ⟨?_, HE.out.put_new _ _ (Nat.le_refl _)⟩
        have hpn : parseN xs 32 = none := parseN_none HP.out hil (.inl (by rw [← HK.out, HXX.out]; exact HNX.out))
        simp only [parseV, parseH, hxl, if_true, hpn]
        rfl
      | some u =>
        have HNX : Hid (nibV x = some u) := hnx
        clear hnx
        simp only [Option.isSome_some, Option.getD_some]
        cases hny : nibV y with
        | none =>
          have HNY : Hid (nibV y = none) := hny
          clear hny
          simp only [Option.isSome_none, Option.getD_none]
          go_wp2_with fail
          refine ret_cell_tmp rfl rfl rfl (by rw [blk_put, if_pos rfl, hb]; rfl) (by kernel_rfl) (by rw [length_arr]; kernel_rfl) rfl ?_
          refine ⟨?_, HE.out.put_new _ _ (Nat.le_refl _)⟩
          have hpn : parseN xs 32 = none := parseN_none HP.out hil (.inr (by rw [← HK.out, HYY.out]; exact HNY.out))
          simp only [parseV, parseH, hxl, if_true, hpn]
          rfl
        | some v =>
          have HNY : Hid (nibV y = some v) := hny
          clear hny
          simp only [Option.isSome_some, Option.getD_some]
          have q0 : (0 : Int) ≤ (i : Int) := by omega
          have q1 : (i : Int) < 32 := by omega
          have q2 : ((i : Int)).toNat = i := by omega
          go_wp2_with fail
          refine ⟨rfl, rfl, ?_, ?_⟩
          · refine ⟨rfl, rfl, rfl, i + 1, _, by omega, ?_, parseN_some HP.out hil (by rw [← HK.out, HXX.out]; exact HNX.out) (by rw [← HK.out, HYY.out]; exact HNY.out), ?_, ?_, ?_, ?_, ?_⟩
            · show Value.int .i64 _ = _
              go_num
            · rw [blk_put, if_neg hne]; exact hb
            · rw [free_put]; exact hf
            · rw [blk_put, if_pos rfl, hr]; rfl
            · rw [free_put]; exact hrf
            · exact HE.out.put_new _ _ (by omega)
          · show 32 - (intOf (Value.int .i64 _)).toNat < 32 - (intOf (F 5)).toNat
            rw [H5.out]
            simp [intOf]; omega
    · obtain rfl : i = 32 := by omega
      go_wp2_with fail
      refine ret_cell_tmp rfl rfl rfl (by rw [blk_put, if_pos rfl, hb]; rfl) (by kernel_rfl) (by rw [length_arr]; kernel_rfl) rfl ?_
      refine ⟨?_, HE.out.put_new _ _ (Nat.le_refl _)⟩
      simp only [parseV, parseH, hxl, if_true, HP.out]
      rfl
  · have hne : ¬ ((len : Int) = 64) := by omega
    go_enter Try.func31, Try.ntmps31
    go_wp2_with fail
    refine ret_cell_tmp (C := arr u8v (Vector.replicate 32 (0 : UInt8))) rfl rfl rfl (by rw [blk_alloc, if_pos rfl]) (by kernel_rfl) (by rw [length_arr]; kernel_rfl) rfl ?_
    refine ⟨?_, (Ext.refl w).alloc _⟩
    have : ¬ xs.length = 64 := by omega
    simp only [parseV, parseH, this, if_false]
    rfl
set_option maxRecDepth 20000 in
set_option maxHeartbeats 2000000 in
theorem dnodeInput_any (w : World) (l r : Vector UInt8 32) :
    Calls Try.prog 30 #[.agg (arr u8v l).toArray, .agg (arr u8v r).toArray] w fun e w' => ∃ v, e = .returned v ∧ OwnB w.heap.size w' v (3 :: (l.toList ++ r.toList)) ∧ w.Extends w' := by
  have m1 := fun w : World => make40 w 0 65 (by omega) (by omega)
  simp only [Int.natCast_zero, Int.cast_ofNat_Int] at m1
  go_enter Try.func30, Try.ntmps30
  go_upto_region 2 with fail
  have ho0 := made_own ((w.alloc (.cells (arr u8v l).toArray 31)).alloc (.cells (arr u8v r).toArray 31)) 65 (w.heap.size + 2) (by simp only [World.size_alloc]; omega) (by omega)
  refine wp_world (fun W => OwnB (w.heap.size + 2) W (.slice (some ⟨w.heap.size + 2, 0, none⟩) 0 65) [] ∧ blk W w.heap.size = some (arr u8v l) ∧ blk W (w.heap.size + 1) = some (arr u8v r) ∧ w.heap.size + 2 ≤ W.heap.size ∧ Hid (w.Extends W)) ⟨?_, ?_, ?_, ?_, extends_alloc (extends_alloc (extends_alloc (ext_Ext (Ext.refl w)) _) _) _⟩ ?_
  · simpa only [World.size_alloc] using ho0
  · rw [blk_alloc, if_neg (by simp only [World.size_alloc]; omega), blk_alloc, if_neg (by simp only [World.size_alloc]; omega), blk_alloc, if_pos rfl]
  · rw [blk_alloc, if_neg (by simp only [World.size_alloc]; omega), blk_alloc, if_pos (by simp only [World.size_alloc])]
  · simp only [World.size_alloc]; omega
  clear ho0 m1
  rintro W ⟨ho0, hl, hr, hsz, HE⟩
  go_upto_region 3 with (at_builtin; refine wpList_append rfl _ _ rfl (w.heap.size + 2) (.slice (some ⟨w.heap.size + 2, 0, none⟩) 0 65) [] [3] (some ⟨W.heap.size, 0, none⟩) 1 1 rfl rfl rfl (ho0.mono fun k hk => heap_alloc_old _ _ hk) (srcB_new W 3 5) (by rw [World.size_alloc]; omega) (by simp) ?_; intro v1 w1 ho1 hg1)
  rw [List.nil_append] at ho1
  have hk1 : ∀ k, k < w.heap.size + 2 → w1.heap[k]? = W.heap[k]? := fun k hk => (hg1.block k (by rw [World.size_alloc]; omega) (fun e => by have := (row_at ho0 k e.symm).1; omega)).trans (heap_alloc_old _ _ (by omega))
  have hl1 : blk w1 w.heap.size = some (arr u8v l) := (blk_of_heap (hk1 _ (by omega))).trans hl
  have hr1 : blk w1 (w.heap.size + 1) = some (arr u8v r) := (blk_of_heap (hk1 _ (by omega))).trans hr
  have HE1 : Hid (w.Extends w1) := (ho0.mono fun k hk => heap_alloc_old _ _ hk).grow (by omega) (extends_alloc HE.out _) hg1
  have hsz1 : w.heap.size + 2 ≤ w1.heap.size := by have := hg1.size; rw [World.size_alloc] at this; omega
  clear hg1 hk1 HE hl hr ho0
  have hls := (digest_at w1 l w1.heap.size w.heap.size hl1 (by omega)).src (Nat.le_refl 32)
  rw [List.take_of_length_le (by simp)] at hls
  go_upto_region 4 with (at_builtin; refine wpList_append rfl _ _ rfl (w.heap.size + 2) v1 [3] l.toList (some ⟨w.heap.size, 0, none⟩) 32 32 rfl rfl (by simp) ho1 (by rw [Vector.length_toList]; exact hls) hsz1 (by simp) ?_; intro v2 w2 ho2 hg2)
  have hr2 : blk w2 (w.heap.size + 1) = some (arr u8v r) := (blk_of_heap (hg2.block _ (by omega) (fun e => by have := (row_at ho1 _ e.symm).1; omega))).trans hr1
  have HE2 : Hid (w.Extends w2) := ho1.grow (by omega) HE1.out hg2
  have hsz2 : w.heap.size + 2 ≤ w2.heap.size := Nat.le_trans hsz1 hg2.size
  clear hg2 HE1 hl1 hr1 ho1 hls
  have hrs := (digest_at w2 r w2.heap.size (w.heap.size + 1) hr2 (by omega)).src (Nat.le_refl 32)
  rw [List.take_of_length_le (by simp)] at hrs
  go_wp2_with (at_builtin; refine wpList_append rfl _ _ rfl (w.heap.size + 2) v2 ([3] ++ l.toList) r.toList (some ⟨w.heap.size + 1, 0, none⟩) 32 32 rfl rfl (by simp) ho2 (by rw [Vector.length_toList]; exact hrs) hsz2 (by simp) ?_; intro v3 w3 ho3 hg3)
  have HE3 : Hid (w.Extends w3) := ho2.grow (by omega) HE2.out hg3
  have HO3 : Hid (OwnB (w.heap.size + 2) w3 v3 ([3] ++ l.toList ++ r.toList)) := ho3
  clear hg3 ho3 ho2 hrs HE2
  go_wp2_with fail
  go_ret
  exact ⟨v3, rfl, HO3.out.base (by omega), HE3.out⟩
theorem ret_cell_tmp2 {P : Program} {fn : Func} {R : Ending → World → Prop} {a : Act} {w : World} {p u t : Tmp} {ty : TypeId} {g : Nat} {C : List Value} {v x : Value} (h : fn.results = #[.cell p ty, .tmp u, .tmp t]) (hp : a.tmps.getD p undef = .pointer (some ⟨g, 0, none⟩)) (hv : a.tmps.getD u undef = v) (hx : a.tmps.getD t undef = x) (hb : blk w g = some C)
    (hr : ((P.underlying ty).map fun d => (match d with | .struct _ | .array _ _ => true | _ => false)) = some true) (hi : (P.info? ty).map (·.size) = some C.length) (hdf : a.defers = []) (hR : R (.returned (.tuple #[.agg C.toArray, v, x])) w) : bodyPost P fn R .ret a w := by
  obtain ⟨t', fz, ht⟩ := blk_some hb
  obtain ⟨d, hu, hd⟩ : ∃ d, P.underlying ty = some d ∧ (match d with | .struct _ | .array _ _ => true | _ => false) = true := by
    cases hx : P.underlying ty with
    | none => simp [hx] at hr
    | some d => exact ⟨d, rfl, by simpa [hx] using hr⟩
  refine bodyPost_ret ?_ hdf hR
  have hq : (results fn a.tmps).run P w = ((asAddr (a.tmps.getD p undef)).run P w).andThen fun b w₁ => ((loadVar ty b).run P w₁).andThen fun v w₂ => .ok (.tuple #[v, a.tmps.getD u undef, a.tmps.getD t undef]) w₂ := by
    simp only [results, h]
    simp [Sem.run_bind, Result.andThen]
  rw [hq, hp, hv, hx]
  have hp' := run_loadVar_row (P := P) w g t' ty C.toArray fz d ht hu (by cases d <;> simp_all) (by simpa using hi)
  simp [asAddr, hp', Result.andThen]
def logTy (W : World) (k : Nat) : Prop := ∃ cur t fz, W.heap[k]? = some (.cells cur t fz) ∧ (t = 110 ∨ t = 3 ∨ t = 5)
structure Side (B : Nat) (W W' : World) : Prop where
  size : W.heap.size ≤ W'.heap.size
  os : W'.os = W.os
  tape : W'.tape = W.tape
  output : W'.output = W.output
  keep : ∀ k, k < W.heap.size → B ≤ k → logTy W k → W'.heap[k]? = W.heap[k]?
theorem row_side {B : Nat} {W W' : World} {e : TypeId} {size : Nat} {v : Value} {n : Nat} {xs : List Value} (h : W.ownsRow B e size v n xs) (he : e = 110 ∨ e = 3 ∨ e = 5) (hs : Side B W W') : W'.ownsRow B e size v n xs :=
  row_keep h fun k hk => by
    obtain ⟨h1, h2, cur, fz, h3⟩ := row_at h k hk
    exact hs.keep k h2 h1 ⟨cur, e, fz, h3, he⟩
theorem LogOk.side {B : Nat} {W W' : World} {l : GLog} {ns : List Noted} {ix : Nat → List Nat} {A : ALog} {X : Nat → Prop} (h : LogOk B W l ns ix A X) (hs : Side B W W') : LogOk B W' l ns ix A X := by
  refine ⟨row_side h.rowE (.inl rfl) hs, h.clen, fun j n e hn hj => ?_, fun s q => row_side (h.rowS s q) (.inr (.inl rfl)) hs, h.rng, h.few, h.sep, h.ixs, h.fnd, h.fst⟩
  obtain ⟨h1, h2, h3⟩ := h.con j n e hn hj
  exact ⟨h1, row_side h2 (.inr (.inr rfl)) hs, h3⟩
theorem Side.refl (B : Nat) (W : World) : Side B W W := ⟨Nat.le_refl _, rfl, rfl, rfl, fun _ _ _ _ => rfl⟩
theorem Side.of_extends {B : Nat} {W W' : World} (h : W.Extends W') : Side B W W' := ⟨h.size, h.os, h.tape, h.output, fun k hk _ _ => h.block k hk⟩
theorem Side.trans {B : Nat} {W W' W'' : World} (h : Side B W W') (h' : Side B W' W'') : Side B W W'' := by
  refine ⟨Nat.le_trans h.size h'.size, h'.os.trans h.os, h'.tape.trans h.tape, h'.output.trans h.output, fun k hk hB hy => ?_⟩
  have e := h.keep k hk hB hy
  refine (h'.keep k (Nat.lt_of_lt_of_le hk h.size) hB ?_).trans e
  obtain ⟨cur, t, fz, h1, h2⟩ := hy
  exact ⟨cur, t, fz, e.trans h1, h2⟩
theorem Side.put (B : Nat) (W : World) (c : Nat) (X : List Value) (hc : c < B ∨ ¬ logTy W c) : Side B W (put W c X) := by
  refine ⟨by rw [size_put]; exact Nat.le_refl _, rfl, rfl, rfl, fun k hk hB hy => ?_⟩
  rw [heap_put, if_neg]
  rintro rfl
  rcases hc with h | h
  · omega
  · exact h hy
theorem Side.out {B : Nat} {W W' : World} {c : Nat} {X : List Value} (ho : Out W W' c X) (hc : c < B ∨ ¬ logTy W c) : Side B W W' := by
  obtain ⟨G, n, rfl⟩ := ho
  exact (Side.put B W c X hc).trans (Side.of_extends (ext_Ext ⟨G, n, rfl⟩))
theorem not_logTy {W : World} {c : Nat} {cur : Array Value} {t : TypeId} {fz : Nat × Nat} (h : W.heap[c]? = some (.cells cur t fz)) (ht : ¬ (t = 110 ∨ t = 3 ∨ t = 5)) : ¬ logTy W c := by
  rintro ⟨cur', t', fz', h1, h2⟩
  rw [h] at h1
  injection h1 with h1
  injection h1 with _ e _
  exact ht (e ▸ h2)
theorem NoteOut.of_ext {B b o : Nat} {C : List Value} {l : GLog} {ns : List Noted} {w W W' : World} {l' : GLog} {ns' : List Noted} {ix' : Nat → List Nat} {A' : ALog} {X' : Nat → Prop} (h : NoteOut B b o C l ns W W' l' ns' ix' A' X') (he : w.Extends W) : NoteOut B b o C l ns w W' l' ns' ix' A' X' := by
  obtain ⟨h1, h2, h3, h4, h5, h6, h7, h8, h9⟩ := h
  refine ⟨h1, h2, h3, h4, Nat.le_trans he.size h5, h6.trans he.os, h7.trans he.tape, h8.trans he.output, fun k hk a1 a2 a3 => ?_⟩
  rw [h9 k (Nat.lt_of_lt_of_le hk he.size) a1 a2 a3, he.block k hk]
theorem NoteOut.put_new {B b o : Nat} {C : List Value} {l : GLog} {ns : List Noted} {w W' : World} {l' : GLog} {ns' : List Noted} {ix' : Nat → List Nat} {A' : ALog} {X' : Nat → Prop} (h : NoteOut B b o C l ns w W' l' ns' ix' A' X') (c : Nat) (X : List Value) (hc : w.heap.size ≤ c) (hb : b < w.heap.size) (hy : ¬ logTy W' c) : NoteOut B b o C l ns w (put W' c X) l' ns' ix' A' X' := by
  obtain ⟨h1, h2, h3, h4, h5, h6, h7, h8, h9⟩ := h
  refine ⟨?_, ?_, h3.side (Side.put B W' c X (.inr hy)), h4, by rw [size_put]; exact h5, h6, h7, h8, fun k hk a1 a2 a3 => ?_⟩
  · rw [blk_put, if_neg (by omega)]; exact h1
  · rw [free_put]; exact h2
  · rw [heap_put, if_neg (by omega)]; exact h9 k hk a1 a2 a3
attribute [local go_sem] make40 build31
attribute [local go_sem ↓] execOp_make
set_option maxRecDepth 20000 in
set_option maxHeartbeats 2000000 in
theorem logTagged_ok (w : World) (B b o : Nat) (C : List Value) (l : GLog) (ns : List Noted) (ix : Nat → List Nat) (A : ALog) (X : Nat → Prop) (hXw : ∀ k, X k → k < w.heap.size) (av : Nat) (x : UInt8) (a : Option Addr) (len cap : Nat) (xs : List UInt8)
    (hb : blk w b = some (splice C o l.enc)) (hC : o + 68 ≤ C.length) (hf : free w b = true) (hL : LogOk B w l ns ix A X) (hX : BytesAt av w a len cap xs) (hlen : len ≤ 69999) (hns : ns.length ≤ 70000) (hB : B ≤ w.heap.size) (hbB : b < B) (hd : okDom x = true) :
    Calls Try.prog 51 #[.pointer (some ⟨b, o, none⟩), .int .u8 (w8 x), .slice a len cap] w fun e w' => ∃ (k : Int) (l' : GLog) (ns' : List Noted) (ix' : Nat → List Nat) (A' : ALog), e = .returned (.tuple #[.agg (arr u8v (sha (x :: xs))).toArray, .int .i64 k, .int .i64 0]) ∧ NoteOut B b o C l ns w w' l' ns' ix' A' X ∧ (A', k) = noteA A (x :: xs, sha (x :: xs)) := by
  have hlt := blk_lt hb
  have HL : Hid (LogOk B w l ns ix A X) := hL
  have HXW : Hid (∀ k, X k → k < w.heap.size) := hXw
  clear hXw
  have HX : Hid (BytesAt av w a len cap xs) := hX
  have hxl := hX.1
  clear hL hX
  go_enter Try.func51, Try.ntmps51
  go_wp2_with fail
  refine (tagged_ok _ (w.heap.size + 1) x a len cap xs ((HX.out.at_new (fun k hk => by rw [blk_alloc, if_neg (by omega)]) (by omega))) hd (by omega)).mono ?_
  rintro e w2 ⟨rfl, hE⟩
  obtain ⟨d, hdd⟩ : ∃ d, d = sha (x :: xs) := ⟨_, rfl⟩
  rw [← hdd]
  have HD : Hid (d = sha (x :: xs)) := hdd
  have HE2 : Hid (Ext w w2) := ((Ext.refl w).alloc _).trans hE
  have hc6 : w2.heap[w.heap.size]? = some (.cells (arr u8v (Vector.replicate 32 (0 : UInt8))).toArray 31) := by
    rw [(ext_Ext hE).block _ (by rw [World.size_alloc]; omega), heap_alloc, if_pos rfl]
  have hsz2 : w.heap.size < w2.heap.size := by have := hE.size; rw [World.size_alloc] at this; omega
  clear hE hdd
  go_upto_region 4 with fail
  obtain ⟨b6, hb6⟩ : ∃ b6, b6 = w.heap.size := ⟨_, rfl⟩
  obtain ⟨b9, hb9⟩ : ∃ b9, b9 = w2.heap.size := ⟨_, rfl⟩
  rw [← hb6, ← hb9] 
  refine wp_world (fun W => blk W b = some (splice C o l.enc) ∧ free W b = true ∧ Hid (W.heap[b6]? = some (.cells (arr u8v (Vector.replicate 32 (0 : UInt8))).toArray 31)) ∧ blk W b9 = some (arr u8v d) ∧ b9 < W.heap.size ∧ Hid (w.Extends W)) ⟨?_, ?_, ?_, ?_, ?_, extends_alloc (ext_Ext HE2.out) _⟩ ?_
  · rw [blk_alloc, if_neg (by omega)]; exact (HE2.out.blk hlt).trans hb
  · rw [free_alloc, if_neg (by omega)]; exact (HE2.out.free hlt).trans hf
  · show _ = _
    rw [heap_alloc, if_neg (by omega), hb6]; exact hc6
  · rw [hb9, blk_alloc, if_pos rfl]
  · rw [hb9, World.size_alloc]; omega
  have h69 : b6 < b9 := by omega
  have hwb : w.heap.size ≤ b6 := by omega
  have hbb : b < b6 := by omega
  clear hb6 hb9 hc6 hsz2 HE2
  rintro W ⟨hb1, hf1, HC6, hx1, hsz, HE⟩
  go_wp2_with fail
  refine wp_region_held_drew (S := fun W' => blk W' b9 = some (arr u8v d) ∧ True) (by kernel_rfl) ⟨hx1, trivial⟩ (fun hHeld => ?_)
  refine wpAnyH_take (i := 0) (oi := ⟨_, _, _, _, _, _⟩) (v := ?_) rfl (by kernel_rfl) (by kernel_rfl) (by kernel_rfl) (fun _ _ _ h => h) (Or.inl ⟨by rfl, ?_⟩) (by assumption) ?_
  rotate_left 1
  · intro W' hSw
    obtain ⟨hS1, hS2⟩ := hSw
    go_simp
    try with_reducible rfl
  try simp only [Act.put, List.setIfInBounds_toArray, List.set_cons_zero, List.set_cons_succ]
  refine wpAnyH_take (i := 1) (oi := ⟨_, _, _, _, _, _⟩) (v := ?_) rfl (by kernel_rfl) (by kernel_rfl) (by kernel_rfl) (fun _ _ _ h => h) (Or.inl ⟨by rfl, ?_⟩) (by assumption) ?_
  rotate_left 1
  · intro W' hSw
    obtain ⟨hS1, hS2⟩ := hSw
    go_simp
    try with_reducible rfl
  try simp only [Act.put, List.setIfInBounds_toArray, List.set_cons_zero, List.set_cons_succ]
  refine wpAnyH_take (i := 2) (oi := ⟨_, _, _, _, _, _⟩) (v := ?_) rfl (by kernel_rfl) (by kernel_rfl) (by kernel_rfl) (fun _ _ _ h => h) (Or.inl ⟨by rfl, ?_⟩) (by assumption) ?_
  rotate_left 1
  · intro W' hSw
    obtain ⟨hS1, hS2⟩ := hSw
    go_simp
    try with_reducible rfl
  try simp only [Act.put, List.setIfInBounds_toArray, List.set_cons_zero, List.set_cons_succ]
  refine wpAnyH_take (i := 3) (oi := ⟨_, _, _, _, _, _⟩) (v := ?_) rfl (by kernel_rfl) (by kernel_rfl) (by kernel_rfl) (fun _ _ _ h => h) (Or.inl ⟨by rfl, ?_⟩) (by assumption) ?_
  rotate_left 1
  · intro W' hSw
    obtain ⟨hS1, hS2⟩ := hSw
    go_simp
    try with_reducible rfl
  try simp only [Act.put, List.setIfInBounds_toArray, List.set_cons_zero, List.set_cons_succ]
  refine wpAnyH_take (i := 5) (oi := ⟨_, _, _, _, _, _⟩) (v := ?_) rfl (by kernel_rfl) (by kernel_rfl) (by kernel_rfl) (fun _ _ _ h => h) (Or.inl ⟨by rfl, ?_⟩) (by assumption) ?_
  rotate_left 1
  · intro W' hSw
    obtain ⟨hS1, hS2⟩ := hSw
    go_simp
    try with_reducible rfl
  try simp only [Act.put, List.setIfInBounds_toArray, List.set_cons_zero, List.set_cons_succ]
  refine wpAnyH_ready (rs := [4]) (by kernel_rfl) (by simp) ?_
  refine AllReadyH.cons (o := ⟨_, _, _, _, _, _⟩) rfl (fun K hK => ?_) AllReadyH.nil
  go_simp
  refine (taggedInput_any W.drew (W.heap.size + 1) x a len cap xs (show BytesAt _ W _ _ _ _ from HX.out.at_new (fun k hk => HE.out.blk hk) (by have := HE.out.size; omega)) (by omega)).mono ?_
  rintro e W3 ⟨v3, rfl, ho3, he3⟩
  have hext3 : W.Extends W3 := (extends_drew (ext_Ext (Ext.refl W))).trans he3
  obtain ⟨ia, icap, rfl, hX3⟩ := own_bytes ho3 (by simp <;> omega)
  obtain ⟨m, hm⟩ : ∃ m, m = (x :: xs).length := ⟨_, rfl⟩
  have hm7 : m ≤ 70000 := by rw [hm]; simp <;> omega
  rw [← hm] at hX3 ⊢
  have HX3 : Hid (BytesAt W3.heap.size W3 ia m icap (x :: xs)) := hX3
  have hx3 : blk W3 b9 = some (arr u8v d) := (hext3.blk hsz).trans hx1
  have hb3 : blk W3 b = some (splice C o l.enc) := (hext3.blk (by omega)).trans hb1
  have hf3 : free W3 b = true := (free_of_heap (hext3.block b (by omega))).trans hf1
  have HC3 : Hid (W3.heap[b6]? = some (.cells (arr u8v (Vector.replicate 32 (0 : UInt8))).toArray 31)) := (hext3.block b6 (by omega)).trans HC6.out
  have HE3 : Hid (w.Extends W3) := HE.out.trans hext3
  have hsz3 : b9 < W3.heap.size := Nat.lt_of_lt_of_le hsz hext3.size
  dsimp only
  refine hK.out _ _ ?_ (fun hHeld => ?_)
  · exact ⟨hx3, trivial⟩
  clear hK K
  clear ho3 he3 hext3 hX3 hm
  try simp only [Act.put, List.setIfInBounds_toArray, List.set_cons_zero, List.set_cons_succ]
  refine wpAnyH_ready (rs := [6]) (by kernel_rfl) (by simp) ?_
  refine AllReadyH.cons (o := ⟨_, _, _, _, _, _⟩) rfl (fun K hK => ?_) AllReadyH.nil
  go_simp
  refine (note_any W3 B b o C l ns ix A X (fun k hk => Nat.lt_of_lt_of_le (HXW.out k hk) HE3.out.size) W3.heap.size ia m icap (x :: xs) d hb3 hC hf3 (HL.out.grow HE3.out) HX3.out hm7 hns (Nat.le_trans hB HE3.out.size) hbB).mono ?_
  rintro e W4 ⟨l', ns', ix', rfl, ho4⟩
  obtain ⟨A', k, hna⟩ : ∃ A' k, (A', k) = noteA A (x :: xs, d) := ⟨_, _, rfl⟩
  rw [← hna] at ho4 ⊢
  dsimp only at ho4 ⊢
  have HNA : Hid ((A', k) = noteA A (x :: xs, d)) := hna
  clear hna
  have hk4 : ∀ c, w.heap.size ≤ c → c < W3.heap.size → W4.heap[c]? = W3.heap[c]? := fun c hc hc2 => ho4.2.2.2.2.2.2.2.2 c hc2 (by omega) (fun e => by have := (row_at HL.out.rowE c e).2.1; omega) (fun s hs e => by have := (row_at (HL.out.rowS s hs) c e).2.1; omega)
  have hx4 : blk W4 b9 = some (arr u8v d) := (blk_of_heap (hk4 b9 (by omega) hsz3)).trans hx3
  have HC4 : Hid (W4.heap[b6]? = some (.cells (arr u8v (Vector.replicate 32 (0 : UInt8))).toArray 31)) := (hk4 b6 hwb (by omega)).trans HC3.out
  have h64 : blk W4 b6 = some (arr u8v (Vector.replicate 32 (0 : UInt8))) := blk_mk HC4.out
  have hf64 : free W4 b6 = true := free_mk HC4.out
  have HO4 : Hid (NoteOut B b o C l ns w W4 l' ns' ix' A' X) := ho4.of_ext HE3.out
  try dsimp only
  refine hK.out _ _ ?_ (fun hHeld => ?_)
  · exact ⟨hx4, trivial⟩
  clear hK K
  clear ho4 hk4
  try simp only [Act.put, List.setIfInBounds_toArray, List.set_cons_zero, List.set_cons_succ]
  refine wpAnyH_ready (rs := [7]) (by kernel_rfl) (by simp) ?_
  refine AllReadyH.cons (o := ⟨_, _, _, _, _, _⟩) rfl (fun K hK => ?_) AllReadyH.nil
  go_simp
  refine hK.out _ _ ?_ (fun hHeld => ?_)
  · refine ⟨?_, trivial⟩
    rw [blk_put, if_neg (by omega)]; exact hx4
  clear hK K
  try simp only [Act.put, List.setIfInBounds_toArray, List.set_cons_zero, List.set_cons_succ]
  refine wpAnyH_take (i := 8) (oi := ⟨_, _, _, _, _, _⟩) (v := ?_) rfl (by kernel_rfl) (by kernel_rfl) (by kernel_rfl) (fun _ _ _ h => h) (Or.inl ⟨by rfl, ?_⟩) (by assumption) ?_
  rotate_left 1
  · intro W' hSw
    obtain ⟨hS1, hS2⟩ := hSw
    go_simp
    try with_reducible rfl
  try simp only [Act.put, List.setIfInBounds_toArray, List.set_cons_zero, List.set_cons_succ]
  refine wpAnyH_take (i := 9) (oi := ⟨_, _, _, _, _, _⟩) (v := ?_) rfl (by kernel_rfl) (by kernel_rfl) (by kernel_rfl) (fun _ _ _ h => h) (Or.inl ⟨by rfl, ?_⟩) (by assumption) ?_
  rotate_left 1
  · intro W' hSw
    obtain ⟨hS1, hS2⟩ := hSw
    go_simp
    try with_reducible rfl
  try simp only [Act.put, List.setIfInBounds_toArray, List.set_cons_zero, List.set_cons_succ]
  refine wpAnyH_done (by kernel_rfl) ?_ _
  go_wp2_with fail
  refine ret_cell_tmp2 (C := arr u8v d) rfl rfl rfl rfl (by rw [blk_put, if_pos rfl, h64]; rfl) (by kernel_rfl) (by rw [length_arr]; kernel_rfl) rfl ?_
  refine ⟨k, l', ns', ix', A', by rw [← HD.out]; rfl, HO4.out.put_new b6 _ hwb hlt (not_logTy HC4.out (by decide)), by rw [← HD.out]; exact HNA.out⟩
set_option maxRecDepth 20000 in
set_option maxHeartbeats 2000000 in
theorem logTagged_bad (w : World) (b o : Nat) (x : UInt8) (v : Value) (hd : okDom x = false) :
    Calls Try.prog 51 #[.pointer (some ⟨b, o, none⟩), .int .u8 (w8 x), v] w fun e w' => e = .returned (.tuple #[.agg (arr u8v Z32).toArray, .int .i64 0, .int .i64 2]) ∧ Ext w w' := by
  go_enter Try.func51, Try.ntmps51
  go_wp2_with fail
  refine (tagged_bad _ x v hd).mono ?_
  rintro e w2 ⟨rfl, hE⟩
  have h6 : blk w2 w.heap.size = some (arr u8v (Vector.replicate 32 (0 : UInt8))) := by
    rw [hE.blk (by rw [World.size_alloc]; omega), blk_alloc, if_pos rfl]
  have hf6 : free w2 w.heap.size = true := by
    rw [hE.free (by rw [World.size_alloc]; omega), free_alloc, if_pos rfl]
  have hsz2 : w.heap.size < w2.heap.size := by have := hE.size; rw [World.size_alloc] at this; omega
  have HE2 : Hid (Ext w w2) := ((Ext.refl w).alloc _).trans hE
  have n1 : ¬ w.heap.size = w2.heap.size := by omega
  clear hE
  go_wp2_with fail
  refine ret_cell_tmp2 (C := arr u8v (Vector.replicate 32 (0 : UInt8))) rfl rfl rfl rfl (by simp only [blk_put, blk_alloc, n1, if_false, if_true, h6]; rfl) (by kernel_rfl) (by rw [length_arr]; kernel_rfl) rfl ?_
  exact ⟨rfl, (HE2.out.alloc _).put_new _ _ (Nat.le_refl _)⟩
set_option maxRecDepth 20000 in
set_option maxHeartbeats 2000000 in
theorem logNode_any (w : World) (B b o : Nat) (C : List Value) (l : GLog) (ns : List Noted) (ix : Nat → List Nat) (A : ALog) (X : Nat → Prop) (hXw : ∀ k, X k → k < w.heap.size) (x y : Vector UInt8 32)
    (hb : blk w b = some (splice C o l.enc)) (hC : o + 68 ≤ C.length) (hf : free w b = true) (hL : LogOk B w l ns ix A X) (hns : ns.length ≤ 70000) (hB : B ≤ w.heap.size) (hbB : b < B) :
    Calls Try.prog 52 #[.pointer (some ⟨b, o, none⟩), .agg (arr u8v x).toArray, .agg (arr u8v y).toArray] w fun e w' => ∃ (k : Int) (l' : GLog) (ns' : List Noted) (ix' : Nat → List Nat) (A' : ALog), e = .returned (.tuple #[.agg (arr u8v (nodeD x y)).toArray, .int .i64 k]) ∧ NoteOut B b o C l ns w w' l' ns' ix' A' X ∧ (A', k) = noteA A (3 :: (x.toList ++ y.toList), nodeD x y) := by
  have hlt := blk_lt hb
  have HL : Hid (LogOk B w l ns ix A X) := hL
  have HXW : Hid (∀ k, X k → k < w.heap.size) := hXw
  clear hXw
  clear hL
  go_enter Try.func52, Try.ntmps52
  go_wp2_with fail
  refine (node_any _ x y).mono ?_
  rintro e w2 ⟨rfl, hE⟩
  obtain ⟨d, hdd⟩ : ∃ d, d = nodeD x y := ⟨_, rfl⟩
  rw [← hdd]
  have HD : Hid (d = nodeD x y) := hdd
  have HE2 : Hid (Ext w w2) := ((((Ext.refl w).alloc _).alloc _).alloc _).trans hE
  have hsz2 : w.heap.size + 2 < w2.heap.size := by have := hE.size; simp only [World.size_alloc] at this; omega
  have hc4 : blk w2 w.heap.size = some (arr u8v x) := by
    rw [hE.blk (by simp only [World.size_alloc]; omega), blk_alloc, if_neg (by simp only [World.size_alloc]; omega), blk_alloc, if_neg (by simp only [World.size_alloc]; omega), blk_alloc, if_pos rfl]
  have hc5 : blk w2 (w.heap.size + 1) = some (arr u8v y) := by
    rw [hE.blk (by simp only [World.size_alloc]; omega), blk_alloc, if_neg (by simp only [World.size_alloc]; omega), blk_alloc, if_pos (by simp only [World.size_alloc])]
  have hc6 : w2.heap[w.heap.size + 1 + 1]? = some (.cells (arr u8v (Vector.replicate 32 (0 : UInt8))).toArray 31) := by
    rw [(ext_Ext hE).block _ (by simp only [World.size_alloc]; omega), heap_alloc, if_pos (by simp only [World.size_alloc])]
  clear hE hdd
  go_upto_region 2 with fail
  obtain ⟨b4, hb4⟩ : ∃ b4, b4 = w.heap.size := ⟨_, rfl⟩
  obtain ⟨b9, hb9⟩ : ∃ b9, b9 = w2.heap.size := ⟨_, rfl⟩
  rw [← hb4, ← hb9]
  obtain ⟨b6, hb6⟩ : ∃ b6, b6 = b4 + 1 + 1 := ⟨_, rfl⟩
  rw [← hb6]
  refine wp_world (fun W => blk W b = some (splice C o l.enc) ∧ free W b = true ∧ Hid (W.heap[b6]? = some (.cells (arr u8v (Vector.replicate 32 (0 : UInt8))).toArray 31)) ∧ blk W b9 = some (arr u8v d) ∧ blk W b4 = some (arr u8v x) ∧ blk W (b4 + 1) = some (arr u8v y) ∧ b9 < W.heap.size ∧ Hid (w.Extends W)) ⟨?_, ?_, ?_, ?_, ?_, ?_, ?_, extends_alloc (ext_Ext HE2.out) _⟩ ?_
  · rw [blk_alloc, if_neg (by omega)]; exact (HE2.out.blk hlt).trans hb
  · rw [free_alloc, if_neg (by omega)]; exact (HE2.out.free hlt).trans hf
  · show _ = _
    rw [heap_alloc, if_neg (by omega), hb6, hb4]; exact hc6
  · rw [hb9, blk_alloc, if_pos rfl]
  · rw [blk_alloc, if_neg (by omega), hb4]; exact hc4
  · rw [blk_alloc, if_neg (by omega), hb4]; exact hc5
  · rw [hb9, World.size_alloc]; omega
  have h69 : b6 < b9 := by omega
  have hwb : w.heap.size ≤ b6 := by omega
  have hw4 : w.heap.size ≤ b4 := by omega
  have h46 : b4 + 1 < b6 := by omega
  have hbb : b < b4 := by omega
  clear hb6 hb9 hc6 hsz2 HE2 hc4 hc5 hb4
  rintro W ⟨hb1, hf1, HC6, hx1, h41, h51, hsz, HE⟩
  go_wp2_with fail
  refine wp_region_held_drew (S := fun W' => (blk W' b9 = some (arr u8v d) ∧ blk W' b4 = some (arr u8v x) ∧ blk W' (b4 + 1) = some (arr u8v y)) ∧ True) (by kernel_rfl) ⟨⟨hx1, h41, h51⟩, trivial⟩ (fun hHeld => ?_)
  refine wpAnyH_take (i := 0) (oi := ⟨_, _, _, _, _, _⟩) (v := ?_) rfl (by kernel_rfl) (by kernel_rfl) (by kernel_rfl) (fun _ _ _ h => h) (Or.inl ⟨by rfl, ?_⟩) (by assumption) ?_
  rotate_left 1
  · intro W' hSw
    obtain ⟨⟨hS1, hS3, hS4⟩, hS2⟩ := hSw
    go_simp
    try with_reducible rfl
  try simp only [Act.put, List.setIfInBounds_toArray, List.set_cons_zero, List.set_cons_succ]
  refine wpAnyH_take (i := 1) (oi := ⟨_, _, _, _, _, _⟩) (v := ?_) rfl (by kernel_rfl) (by kernel_rfl) (by kernel_rfl) (fun _ _ _ h => h) (Or.inl ⟨by rfl, ?_⟩) (by assumption) ?_
  rotate_left 1
  · intro W' hSw
    obtain ⟨⟨hS1, hS3, hS4⟩, hS2⟩ := hSw
    go_simp
    try with_reducible rfl
  try simp only [Act.put, List.setIfInBounds_toArray, List.set_cons_zero, List.set_cons_succ]
  refine wpAnyH_take (i := 2) (oi := ⟨_, _, _, _, _, _⟩) (v := ?_) rfl (by kernel_rfl) (by kernel_rfl) (by kernel_rfl) (fun _ _ _ h => h) (Or.inl ⟨by rfl, ?_⟩) (by assumption) ?_
  rotate_left 1
  · intro W' hSw
    obtain ⟨⟨hS1, hS3, hS4⟩, hS2⟩ := hSw
    go_simp
    try with_reducible rfl
  try simp only [Act.put, List.setIfInBounds_toArray, List.set_cons_zero, List.set_cons_succ]
  refine wpAnyH_take (i := 3) (oi := ⟨_, _, _, _, _, _⟩) (v := ?_) rfl (by kernel_rfl) (by kernel_rfl) (by kernel_rfl) (fun _ _ _ h => h) (Or.inl ⟨by rfl, ?_⟩) (by assumption) ?_
  rotate_left 1
  · intro W' hSw
    obtain ⟨⟨hS1, hS3, hS4⟩, hS2⟩ := hSw
    go_simp
    try with_reducible rfl
  try simp only [Act.put, List.setIfInBounds_toArray, List.set_cons_zero, List.set_cons_succ]
  refine wpAnyH_take (i := 5) (oi := ⟨_, _, _, _, _, _⟩) (v := ?_) rfl (by kernel_rfl) (by kernel_rfl) (by kernel_rfl) (fun _ _ _ h => h) (Or.inl ⟨by rfl, ?_⟩) (by assumption) ?_
  rotate_left 1
  · intro W' hSw
    obtain ⟨⟨hS1, hS3, hS4⟩, hS2⟩ := hSw
    go_simp
    try with_reducible rfl
  try simp only [Act.put, List.setIfInBounds_toArray, List.set_cons_zero, List.set_cons_succ]
  refine wpAnyH_ready (rs := [4]) (by kernel_rfl) (by simp) ?_
  refine AllReadyH.cons (o := ⟨_, _, _, _, _, _⟩) rfl (fun K hK => ?_) AllReadyH.nil
  go_simp
  refine (dnodeInput_any W.drew x y).mono ?_
  rintro e W3 ⟨v3, rfl, ho3, he3⟩
  have hext3 : W.Extends W3 := (extends_drew (ext_Ext (Ext.refl W))).trans he3
  obtain ⟨ia, icap, rfl, hX3⟩ := own_bytes ho3 (by simp <;> omega)
  obtain ⟨m, hm⟩ : ∃ m, m = (3 :: (x.toList ++ y.toList)).length := ⟨_, rfl⟩
  have hm7 : m ≤ 70000 := by rw [hm]; simp <;> omega
  rw [← hm] at hX3 ⊢
  have HX3 : Hid (BytesAt W3.heap.size W3 ia m icap (3 :: (x.toList ++ y.toList))) := hX3
  have h43 : blk W3 b4 = some (arr u8v x) := (hext3.blk (by omega)).trans h41
  have h53 : blk W3 (b4 + 1) = some (arr u8v y) := (hext3.blk (by omega)).trans h51
  have hx3 : blk W3 b9 = some (arr u8v d) := (hext3.blk hsz).trans hx1
  have hb3 : blk W3 b = some (splice C o l.enc) := (hext3.blk (by omega)).trans hb1
  have hf3 : free W3 b = true := (free_of_heap (hext3.block b (by omega))).trans hf1
  have HC3 : Hid (W3.heap[b6]? = some (.cells (arr u8v (Vector.replicate 32 (0 : UInt8))).toArray 31)) := (hext3.block b6 (by omega)).trans HC6.out
  have HE3 : Hid (w.Extends W3) := HE.out.trans hext3
  have hsz3 : b9 < W3.heap.size := Nat.lt_of_lt_of_le hsz hext3.size
  dsimp only
  refine hK.out _ _ ?_ (fun hHeld => ?_)
  · exact ⟨⟨hx3, h43, h53⟩, trivial⟩
  clear hK K
  clear ho3 he3 hext3 hX3 hm
  try simp only [Act.put, List.setIfInBounds_toArray, List.set_cons_zero, List.set_cons_succ]
  refine wpAnyH_ready (rs := [6]) (by kernel_rfl) (by simp) ?_
  refine AllReadyH.cons (o := ⟨_, _, _, _, _, _⟩) rfl (fun K hK => ?_) AllReadyH.nil
  go_simp
  refine (note_any W3 B b o C l ns ix A X (fun k hk => Nat.lt_of_lt_of_le (HXW.out k hk) HE3.out.size) W3.heap.size ia m icap (3 :: (x.toList ++ y.toList)) d hb3 hC hf3 (HL.out.grow HE3.out) HX3.out hm7 hns (Nat.le_trans hB HE3.out.size) hbB).mono ?_
  rintro e W4 ⟨l', ns', ix', rfl, ho4⟩
  obtain ⟨A', k, hna⟩ : ∃ A' k, (A', k) = noteA A (3 :: (x.toList ++ y.toList), d) := ⟨_, _, rfl⟩
  rw [← hna] at ho4 ⊢
  dsimp only at ho4 ⊢
  have HNA : Hid ((A', k) = noteA A (3 :: (x.toList ++ y.toList), d)) := hna
  clear hna
  have hk4 : ∀ c, w.heap.size ≤ c → c < W3.heap.size → W4.heap[c]? = W3.heap[c]? := fun c hc hc2 => ho4.2.2.2.2.2.2.2.2 c hc2 (by omega) (fun e => by have := (row_at HL.out.rowE c e).2.1; omega) (fun s hs e => by have := (row_at (HL.out.rowS s hs) c e).2.1; omega)
  have h44 : blk W4 b4 = some (arr u8v x) := (blk_of_heap (hk4 b4 (by omega) (by omega))).trans h43
  have h54 : blk W4 (b4 + 1) = some (arr u8v y) := (blk_of_heap (hk4 (b4 + 1) (by omega) (by omega))).trans h53
  have hx4 : blk W4 b9 = some (arr u8v d) := (blk_of_heap (hk4 b9 (by omega) hsz3)).trans hx3
  have HC4 : Hid (W4.heap[b6]? = some (.cells (arr u8v (Vector.replicate 32 (0 : UInt8))).toArray 31)) := (hk4 b6 hwb (by omega)).trans HC3.out
  have h64 : blk W4 b6 = some (arr u8v (Vector.replicate 32 (0 : UInt8))) := blk_mk HC4.out
  have hf64 : free W4 b6 = true := free_mk HC4.out
  have HO4 : Hid (NoteOut B b o C l ns w W4 l' ns' ix' A' X) := ho4.of_ext HE3.out
  try dsimp only
  refine hK.out _ _ ?_ (fun hHeld => ?_)
  · exact ⟨⟨hx4, h44, h54⟩, trivial⟩
  clear hK K
  clear ho4 hk4
  try simp only [Act.put, List.setIfInBounds_toArray, List.set_cons_zero, List.set_cons_succ]
  refine wpAnyH_ready (rs := [7]) (by kernel_rfl) (by simp) ?_
  refine AllReadyH.cons (o := ⟨_, _, _, _, _, _⟩) rfl (fun K hK => ?_) AllReadyH.nil
  go_simp
  refine hK.out _ _ ?_ (fun hHeld => ?_)
  · refine ⟨⟨?_, ?_, ?_⟩, trivial⟩
    · rw [blk_put, if_neg (by omega)]; exact hx4
    · rw [blk_put, if_neg (by omega)]; exact h44
    · rw [blk_put, if_neg (by omega)]; exact h54
  clear hK K
  try simp only [Act.put, List.setIfInBounds_toArray, List.set_cons_zero, List.set_cons_succ]
  refine wpAnyH_take (i := 8) (oi := ⟨_, _, _, _, _, _⟩) (v := ?_) rfl (by kernel_rfl) (by kernel_rfl) (by kernel_rfl) (fun _ _ _ h => h) (Or.inl ⟨by rfl, ?_⟩) (by assumption) ?_
  rotate_left 1
  · intro W' hSw
    obtain ⟨⟨hS1, hS3, hS4⟩, hS2⟩ := hSw
    go_simp
    try with_reducible rfl
  try simp only [Act.put, List.setIfInBounds_toArray, List.set_cons_zero, List.set_cons_succ]
  refine wpAnyH_done (by kernel_rfl) ?_ _
  go_wp2_with fail
  refine ret_cell_tmp (C := arr u8v d) rfl rfl rfl (by rw [blk_put, if_pos rfl, h64]; rfl) (by kernel_rfl) (by rw [length_arr]; kernel_rfl) rfl ?_
  refine ⟨k, l', ns', ix', A', by rw [← HD.out]; rfl, HO4.out.put_new b6 _ hwb hlt (not_logTy HC4.out (by decide)), by rw [← HD.out]; exact HNA.out⟩
end Go.Proofs.Qxb6500785a
