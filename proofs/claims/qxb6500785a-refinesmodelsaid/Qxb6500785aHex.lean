import Derived.Test.Qxb6500785aOne
import Derived.Deep.CutRange
import Derived.Laws.ResultCell
import Derived.Laws.Rows
set_option linter.unusedSimpArgs false
set_option linter.unusedVariables false
namespace Go.Proofs.Qxb6500785a
open Go.RowKit Go.Blk
attribute [local go_sem ↓] execOp_load execOp_store execOp_alloc
attribute [local go_sem] Try.ld24 Try.st24 Try.ld5 Try.st5 Try.ld3 Try.st3 Try.ld27 Try.st27 Try.ld32 Try.st32 Try.ld33 Try.st33 Try.ld4 Try.st4 Try.ld41 Try.st41 Try.ld40 Try.st40 Try.ld42 Try.st42 Try.ld47 Try.st47 Try.ld48 Try.st48 Try.ld57 Try.st57 Try.ld58 Try.st58 Try.ld2 Try.st2 Try.ld9 Try.st9 Try.ld12 Try.st12 Try.ld21 Try.st21 Try.ld22 Try.st22 Try.ld46 Try.st46 Try.ld83 Try.st83 Try.ld95 Try.st95 Try.ld99 Try.st99 Try.ld106 Try.st106 Try.ld108 Try.st108 Try.ld134 Try.st134 Try.ld25 Try.st25 Try.ld26 Try.st26 Try.ld34 Try.st34 Try.ld31 Try.st31 Try.ld30 Try.st30 Try.ld74 Try.st74 Try.ld96 Try.st96 Try.ld101 Try.st101 Try.ld115 Try.st115 Try.ld116 Try.st116 Try.ld120 Try.st120 Try.ld121 Try.st121 Try.ld122 Try.st122 Try.ld29 Try.st29 Try.ld36 Try.st36 Try.ld38 Try.st38 Try.ld44 Try.st44 Try.ld50 Try.st50 Try.ld60 Try.st60 Try.ld110 Try.st110 Try.al25 Try.al26 Try.al34 Try.al31 Try.al30 Try.al74 Try.al96 Try.al101 Try.al115 Try.al116 Try.al120 Try.al121 Try.al122 Try.al29 Try.al36 Try.al38 Try.al44 Try.al50 Try.al60 Try.al110
attribute [local go_sem] Hasher.length_enc Hasher.ok_enc Hasher.all_get Hasher.all_set Hasher.state_get Hasher.state_set Hasher.block_get Hasher.block_set Hasher.fill_get Hasher.fill_set Hasher.length_get Hasher.length_set GLog.length_enc GLog.ok_enc GLog.all_get GLog.all_set GLog.entries_get GLog.entries_set GLog.shelves_get GLog.shelves_set GLog.first_get GLog.first_set GLog.second_get GLog.second_set GLog.found_get GLog.found_set Player.length_enc Player.ok_enc Player.all_get Player.all_set Player.hand_get Player.hand_set Player.aside_get Player.aside_set Player.prev_get Player.prev_set Player.last_get Player.last_set Player.log_get Player.log_set Player.hand_state_get Player.hand_state_set Player.hand_block_get Player.hand_block_set Player.hand_fill_get Player.hand_fill_set Player.hand_length_get Player.hand_length_set Player.aside_state_get Player.aside_state_set Player.aside_block_get Player.aside_block_set Player.aside_fill_get Player.aside_fill_set Player.aside_length_get Player.aside_length_set Player.log_entries_get Player.log_entries_set Player.log_shelves_get Player.log_shelves_set Player.log_first_get Player.log_first_set Player.log_second_get Player.log_second_set Player.log_found_get Player.log_found_set GOp.length_enc GOp.ok_enc GOp.all_get GOp.all_set GOp.kind_get GOp.kind_set GOp.data_get GOp.data_set GOp.cut_get GOp.cut_set GOp.n_get GOp.n_set GOp.b_get GOp.b_set GOp.v_get GOp.v_set GOp.dom_get GOp.dom_set GOp.sum_get GOp.sum_set Answer.length_enc Answer.ok_enc Answer.all_get Answer.all_set Answer.code_get Answer.code_set Answer.sum_get Answer.sum_set Answer.len_get Answer.len_set Answer.mark_get Answer.mark_set Answer.noted_get Answer.noted_set Answer.collided_get Answer.collided_set GState.length_enc GState.ok_enc GState.all_get GState.all_set GState.hand_get GState.hand_set GState.aside_get GState.aside_set GState.prev_get GState.prev_set GState.last_get GState.last_set GState.inputs_get GState.inputs_set GState.sums_get GState.sums_set GState.collided_get GState.collided_set GState.older_get GState.older_set GState.younger_get GState.younger_set Noted.length_enc Noted.ok_enc Noted.all_get Noted.all_set Noted.input_get Noted.input_set Noted.sum_get Noted.sum_set
attribute [local go_sem] size_put size_ext blk_put free_put blk_alloc free_alloc blk_drew free_drew blk_ext free_ext lookOr_some putOr_some segAt_some cellAt_some storeIn_some put_put put_alloc_new length_arr ok_arr_u8 ok_arr_u32 ok_arr_u64 ok_arr_i64 ok_arr_sl cellsV_agg cellsV_int cellsV_bool cellsV_string cellsV_pointer cellsV_slice cellsV_sl ok_int ok_bool ok_string ok_pointer ok_slice ok_sl toList_arr seg_arr set_arr nth_splice nth_splice0 seg_splice seg_splice0 splice_splice splice_splice0 length_splice_if
attribute [local go_sem] w32_and w32_or w32_xor w32_add w32_or8 w32_not w8_and w8_or w8_xor w32_shr2 w32_shl2 w32_shr3 w32_shl3 w32_shr6 w32_shl6 w32_shr7 w32_shl7 w32_shr8 w32_shl8 w32_shr10 w32_shl10 w32_shr11 w32_shl11 w32_shr13 w32_shl13 w32_shr14 w32_shl14 w32_shr15 w32_shl15 w32_shr16 w32_shl16 w32_shr17 w32_shl17 w32_shr18 w32_shl18 w32_shr19 w32_shl19 w32_shr21 w32_shl21 w32_shr22 w32_shl22 w32_shr24 w32_shl24 w32_shr25 w32_shl25 w32_shr26 w32_shl26 w32_shr30 w32_shl30 w8_shl24 w8_shl16 w8_shl8 v32_add v32_byte w32_byte0 v8_shl24 v8_shl16 v8_shl8 v32_shr2 v32_shl2 v32_shr3 v32_shl3 v32_shr6 v32_shl6 v32_shr7 v32_shl7 v32_shr8 v32_shl8 v32_shr10 v32_shl10 v32_shr11 v32_shl11 v32_shr13 v32_shl13 v32_shr14 v32_shl14 v32_shr15 v32_shl15 v32_shr16 v32_shl16 v32_shr17 v32_shl17 v32_shr18 v32_shl18 v32_shr19 v32_shl19 v32_shr21 v32_shl21 v32_shr22 v32_shl22 v32_shr24 v32_shl24 v32_shr25 v32_shl25 v32_shr26 v32_shl26 v32_shr30 v32_shl30
attribute [local go_sem ↓] execOp_build
attribute [local go_sem] run_build_kv run_build_iv nth_arr_u32 put_arr_u32 nth_arr_u8 put_arr_u8 v32_of8 blk_drewN free_drewN put_drewN put_drew blk_raw free_raw
attribute [local go_sem ↓] execOp_slice execOp_copy
attribute [local go_sem] Try.sl40lo Try.sl40hi Try.sl26lo Try.sl26hi Try.sl26 Try.sl96lo Try.sl96hi Try.sl96 Try.sl31lo Try.sl31 Try.sl120 Try.sl121 Try.sl121lo Try.sl121hi Try.cp40 copyOr_some copyIn_some srcB_drew srcB_drewN srcB_raw length_bv one_bv
attribute [local go_sem] Hasher.length_zero
attribute [local go_sem] Try.cpv copyOrV_some
def indexOp (t : TypeId) (x i : Value) : Sem Next := do pure (.value (← Instr.index t x i))
theorem execOp_index (a : Act) (dst : Option Tmp) (x i : Operand) (ty : TypeId) (pos : String) (after : Array Edge) (guard : Option (Nat × Bool)) :
    execOp a.eval { dst, op := .index 9 x i, type := ty, pos, after, guard } = indexOp 9 (a.eval x) (a.eval i) := rfl
def hexL : List UInt8 := [48, 49, 50, 51, 52, 53, 54, 55, 56, 57, 97, 98, 99, 100, 101, 102]
def hexD (n : Nat) : UInt8 := hexL.getD n 0
theorem index_hex (w : World) (n : Nat) (h : n < 16) : (indexOp 9 (.string ⟨#[48, 49, 50, 51, 52, 53, 54, 55, 56, 57, 97, 98, 99, 100, 101, 102]⟩) (.int .u8 (n : Int))).run Try.prog w = .ok (.value (.int .u8 (w8 (hexD n)))) w := by
  have hu : Try.prog.underlying 9 = some .string := Try.underlying9
  have h0 : (0 : Int) ≤ (n : Int) := by omega
  have hs : (⟨#[48, 49, 50, 51, 52, 53, 54, 55, 56, 57, 97, 98, 99, 100, 101, 102]⟩ : ByteArray)[n]? = some (hexD n) := by
    have : n = 0 ∨ n = 1 ∨ n = 2 ∨ n = 3 ∨ n = 4 ∨ n = 5 ∨ n = 6 ∨ n = 7 ∨ n = 8 ∨ n = 9 ∨ n = 10 ∨ n = 11 ∨ n = 12 ∨ n = 13 ∨ n = 14 ∨ n = 15 := by omega
    rcases this with rfl | rfl | rfl | rfl | rfl | rfl | rfl | rfl | rfl | rfl | rfl | rfl | rfl | rfl | rfl | rfl <;> rfl
  simp [indexOp, Instr.index, asIntOf, run_underlying hu, h0, hs, w8]
def hexK (d : Vector UInt8 32) (i : Nat) : Vector UInt8 64 := Vector.ofFn fun j : Fin 64 => if j.val < 2 * i then (if j.val % 2 = 0 then hexD ((d.toList.getD (j.val / 2) 0).toNat / 16) else hexD ((d.toList.getD (j.val / 2) 0).toNat % 16)) else 0
theorem hexK_zero (d : Vector UInt8 32) : hexK d 0 = Vector.replicate 64 0 := by apply Vector.ext; intro i hi; simp [hexK]
theorem hexK_step (d : Vector UInt8 32) (i : Nat) (h : i < 32) : ((hexK d i).set (2 * i) (hexD (d[i].toNat / 16)) (by omega)).set (2 * i + 1) (hexD (d[i].toNat % 16)) (by omega) = hexK d (i + 1) := by
  apply Vector.ext
  intro j hj
  rw [Vector.getElem_set, Vector.getElem_set]
  simp only [hexK, Vector.getElem_ofFn]
  by_cases h1 : 2 * i + 1 = j
  · subst h1
    have e1 : (2 * i + 1) / 2 = i := by omega
    have e2 : (2 * i + 1) % 2 = 1 := by omega
    simp [e1, e2, h]; omega
  · by_cases h2 : 2 * i = j
    · subst h2
      have e1 : (2 * i) / 2 = i := by omega
      have e2 : (2 * i) % 2 = 0 := by omega
      have e3 : 2 * i < 2 * (i + 1) := by omega
      simp [e1, e2, h, e3]
    · rw [if_neg h1, if_neg h2]
      by_cases h3 : j < 2 * i
      · have h4 : j < 2 * (i + 1) := by omega
        simp only [h3, h4, if_true]
      · have h4 : ¬ j < 2 * (i + 1) := by omega
        simp only [h3, h4, if_false]
def hexOf (d : Vector UInt8 32) : List UInt8 := (hexK d 32).toList
def convOp (s d : TypeId) (v : Value) : Sem Next := do pure (.value (← convert s d v))
theorem execOp_convert (a : Act) (dst : Option Tmp) (x : Operand) (ty : TypeId) (pos : String) (after : Array Edge) (guard : Option (Nat × Bool)) :
    execOp a.eval { dst, op := .convert 40 9 x, type := ty, pos, after, guard } = convOp 40 9 (a.eval x) := rfl
theorem conv_arr {n : Nat} (V : Vector UInt8 n) (w : World) (b c : Nat) (hb : blk w b = some (arr u8v V)) :
    (convOp 40 9 (.slice (some ⟨b, 0, none⟩) n c)).run Try.prog w = .ok (.value (.string ⟨V.toList.toArray⟩)) w := by
  have hc := run_convert_bytes_arg (P := Try.prog) w 40 5 Try.underlying40 Try.underlying5 b 0 n c (V.toList.map fun x => (x.toNat : Int)) (by simp) (by
    intro i hi
    rw [cell_blk hb, Nat.zero_add]
    rw [arr_at _ _ hi]
    simp [u8v, w8, List.getElem?_map, hi]) 9 Try.underlying9
  unfold convOp
  rw [Sem.run_bind, hc]
  simp [strOfNums, Function.comp_def]
attribute [local go_sem ↓] execOp_index execOp_convert execOp_box
attribute [local go_sem] index_hex box_run
set_option maxRecDepth 100000 in
theorem frame28 (f : Nat → Value) : frameN 28 f = #[f 0, f 1, f 2, f 3, f 4, f 5, f 6, f 7, f 8, f 9, f 10, f 11, f 12, f 13, f 14, f 15, f 16, f 17, f 18, f 19, f 20, f 21, f 22, f 23, f 24, f 25, f 26, f 27] := by kernel_rfl
def hexI (w : World) (d : Vector UInt8 32) (f : Nat → Value) (wr : World) : Prop :=
  f 1 = .pointer (some ⟨w.heap.size, 0, none⟩) ∧ f 3 = .pointer (some ⟨w.heap.size + 1, 0, none⟩) ∧ ∃ i, i ≤ 32 ∧ f 4 = .int .i64 (i : Nat) ∧
    blk wr w.heap.size = some (arr u8v d) ∧ blk wr (w.heap.size + 1) = some (arr u8v (hexK d i)) ∧ free wr (w.heap.size + 1) = true ∧ Hid (Ext w wr)
set_option maxRecDepth 20000 in
set_option maxHeartbeats 2000000 in
theorem hex_any (w : World) (d : Vector UInt8 32) : Calls Try.prog 32 #[.agg (arr u8v d).toArray] w fun e w' => e = .returned (.string ⟨(hexOf d).toArray⟩) ∧ Ext w w' := by
  go_enter Try.func32, Try.ntmps32
  go_wp2_with fail
  refine wp_loop_f 28 (hexI w d) (fun f _ => 32 - (intOf (f 4)).toNat) rfl ?_ ?_
  · refine ⟨rfl, rfl, 0, by omega, rfl, ?_, ?_, ?_, ((Ext.refl w).alloc _).alloc _⟩
    · rw [blk_alloc, World.size_alloc, if_neg (by omega), blk_alloc, if_pos rfl]
    · rw [blk_alloc, World.size_alloc, if_pos rfl, hexK_zero]
    · rw [free_alloc, World.size_alloc, if_pos rfl]
  intro F wr hrel
  obtain ⟨h1, h3, i, hi, h4, hd, ho, hof, HE⟩ := hrel
  have H4 : Hid (F 4 = .int .i64 (i : Nat)) := h4
  rw [frame28, h1, h3, h4]
  clear h1 h3 h4
  by_cases hi8 : i < 32
  · obtain ⟨x, hx⟩ : ∃ x, d[i] = x := ⟨_, rfl⟩
    obtain ⟨hi4, hh⟩ : ∃ k, k = x.toNat / 16 := ⟨_, rfl⟩
    obtain ⟨lo4, hl⟩ : ∃ k, k = x.toNat % 16 := ⟨_, rfl⟩
    have hx8 := w8_lt x
    have g1 : w8 x / 16 = (hi4 : Int) := by unfold w8; omega
    have g2 : Int.fdiv (w8 x) 16 = (hi4 : Int) := by rw [Int.fdiv_eq_ediv_of_nonneg _ (by decide)]; exact g1
    have g3 : bits .and .u8 (w8 x) 15 = (lo4 : Int) := by
      have := bits_mask .u8 8 (by decide) (fun n h0 h1 => by rw [IntKind.wrap_u8]; omega) 4 (by decide) (w8 x) (by unfold w8; omega) (by unfold w8; omega)
      have h15 : bits .and .u8 (w8 x) 15 = w8 x % 16 := by simpa using this
      rw [h15]; unfold w8; omega
    have g4 : hi4 < 16 := by omega
    have g5 : lo4 < 16 := by omega
    have HX : Hid (d[i] = x) := hx
    have HH : Hid (hi4 = x.toNat / 16) := hh
    have HL : Hid (lo4 = x.toNat % 16) := hl
    have k1 : 2 * i < 64 := by omega
    have k2 : 2 * i + 1 < 64 := by omega
    have w1 : IntKind.i64.wrap (2 * (i : Int)) = 2 * (i : Int) := wraps_i64 _ (by omega) (by omega)
    have w2 : IntKind.i64.wrap (2 * (i : Int) + 1) = 2 * (i : Int) + 1 := wraps_i64 _ (by omega) (by omega)
    have s1 : ∀ V : Vector UInt8 64, splice (arr u8v V) (2 * i) [.int .u8 (w8 (hexD hi4))] = arr u8v (V.set (2 * i) (hexD hi4) k1) := fun V => put_arr_u8 V _ k1
    have s2 : ∀ V : Vector UInt8 64, splice (arr u8v V) (2 * i + 1) [.int .u8 (w8 (hexD lo4))] = arr u8v (V.set (2 * i + 1) (hexD lo4) k2) := fun V => put_arr_u8 V _ k2
    clear hh hl hx8
    go_wp2_with fail
    refine ⟨rfl, rfl, ?_, ?_⟩
    · refine ⟨rfl, rfl, i + 1, by omega, ?_, ?_, ?_, ?_, HE.out.put_new _ _ (by omega)⟩
      · show Value.int .i64 _ = _
        go_num
      · rw [blk_put, if_neg (by omega)]; exact hd
      · rw [blk_put, if_pos rfl, ho, Option.map_some, ← hexK_step d i hi8, HX.out, ← HH.out, ← HL.out]
      · rw [free_put]; exact hof
    · show 32 - (intOf (Value.int .i64 _)).toNat < 32 - (intOf (F 4)).toNat
      rw [H4.out]
      simp [intOf]; omega
  · obtain rfl : i = 32 := by omega
    go_wp2_with fail
    rw [conv_arr (hexK d 32) wr _ 64 ho]
    go_wp2_with fail
    go_ret
    exact ⟨rfl, HE.out⟩
end Go.Proofs.Qxb6500785a
