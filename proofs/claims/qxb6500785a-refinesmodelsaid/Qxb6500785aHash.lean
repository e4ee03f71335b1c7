/- The hasher's methods: Reset, Write. -/
import Derived.Test.Qxb6500785aRep
import Derived.Deep.CutRange
set_option linter.unusedSimpArgs false
set_option linter.unusedVariables false
namespace Go.Proofs.Qxb6500785a
open Go.RowKit Go.Blk
theorem Try.sl40lo (w : World) (a : Option Addr) (len cap l : Nat) (h : l ≤ len) : (sliceOp 40 (.slice a len cap) (some (.int .i64 (l : Int))) none none).run Try.prog w = .ok (.value (.slice (cutA a l cap) (len - l) (cap - l))) w := slice_lo (e := 5) (by kernel_rfl) (by kernel_rfl) w a len cap l h
theorem Try.sl40hi (w : World) (a : Option Addr) (len cap l : Nat) (h : l ≤ cap) : (sliceOp 40 (.slice a len cap) none (some (.int .i64 (l : Int))) none).run Try.prog w = .ok (.value (.slice a l cap)) w := slice_hi (e := 5) (by kernel_rfl) (by kernel_rfl) w a len cap l h
theorem Try.sl26lo (w : World) (b o l : Nat) (h : l ≤ 64) : (sliceOp 26 (.pointer (some ⟨b, o, none⟩)) (some (.int .i64 (l : Int))) none none).run Try.prog w = .ok (.value (.slice (cutA (some ⟨b, o, none⟩) l 64) (64 - l) (64 - l))) w := slice_arr_lo (e := 5) (by kernel_rfl) (by kernel_rfl) w b o l h
theorem Try.sl26hi (w : World) (b o l : Nat) (h : l ≤ 64) : (sliceOp 26 (.pointer (some ⟨b, o, none⟩)) none (some (.int .i64 (l : Int))) none).run Try.prog w = .ok (.value (.slice (some ⟨b, o, none⟩) l 64)) w := slice_arr_hi (e := 5) (by kernel_rfl) (by kernel_rfl) w b o l h
theorem Try.sl26 (w : World) (b o : Nat) : (sliceOp 26 (.pointer (some ⟨b, o, none⟩)) none none none).run Try.prog w = .ok (.value (.slice (some ⟨b, o, none⟩) 64 64)) w := slice_arr (e := 5) (by kernel_rfl) (by kernel_rfl) w b o
theorem Try.sl96lo (w : World) (b o l : Nat) (h : l ≤ 128) : (sliceOp 96 (.pointer (some ⟨b, o, none⟩)) (some (.int .i64 (l : Int))) none none).run Try.prog w = .ok (.value (.slice (cutA (some ⟨b, o, none⟩) l 128) (128 - l) (128 - l))) w := slice_arr_lo (e := 5) (by kernel_rfl) (by kernel_rfl) w b o l h
theorem Try.sl96hi (w : World) (b o l : Nat) (h : l ≤ 128) : (sliceOp 96 (.pointer (some ⟨b, o, none⟩)) none (some (.int .i64 (l : Int))) none).run Try.prog w = .ok (.value (.slice (some ⟨b, o, none⟩) l 128)) w := slice_arr_hi (e := 5) (by kernel_rfl) (by kernel_rfl) w b o l h
theorem Try.sl96 (w : World) (b o : Nat) : (sliceOp 96 (.pointer (some ⟨b, o, none⟩)) none none none).run Try.prog w = .ok (.value (.slice (some ⟨b, o, none⟩) 128 128)) w := slice_arr (e := 5) (by kernel_rfl) (by kernel_rfl) w b o
theorem Try.sl31lo (w : World) (b o l : Nat) (h : l ≤ 32) : (sliceOp 31 (.pointer (some ⟨b, o, none⟩)) (some (.int .i64 (l : Int))) none none).run Try.prog w = .ok (.value (.slice (cutA (some ⟨b, o, none⟩) l 32) (32 - l) (32 - l))) w := slice_arr_lo (e := 5) (by kernel_rfl) (by kernel_rfl) w b o l h
theorem Try.sl31 (w : World) (b o : Nat) : (sliceOp 31 (.pointer (some ⟨b, o, none⟩)) none none none).run Try.prog w = .ok (.value (.slice (some ⟨b, o, none⟩) 32 32)) w := slice_arr (e := 5) (by kernel_rfl) (by kernel_rfl) w b o
theorem Try.sl120 (w : World) (b o : Nat) : (sliceOp 120 (.pointer (some ⟨b, o, none⟩)) none none none).run Try.prog w = .ok (.value (.slice (some ⟨b, o, none⟩) 4 4)) w := slice_arr (e := 5) (by kernel_rfl) (by kernel_rfl) w b o
theorem Try.sl121 (w : World) (b o : Nat) : (sliceOp 121 (.pointer (some ⟨b, o, none⟩)) none none none).run Try.prog w = .ok (.value (.slice (some ⟨b, o, none⟩) 8 8)) w := slice_arr (e := 5) (by kernel_rfl) (by kernel_rfl) w b o
theorem Try.sl121lo (w : World) (b o : Nat) : (sliceOp 121 (.pointer (some ⟨b, o, none⟩)) (some (.int .i64 4)) none none).run Try.prog w = .ok (.value (.slice (some ⟨b, o + 4, none⟩) 4 4)) w := slice_arr_lo (e := 5) (n := 8) (by kernel_rfl) (by kernel_rfl) w b o 4 (by decide)
theorem Try.sl121hi (w : World) (b o : Nat) : (sliceOp 121 (.pointer (some ⟨b, o, none⟩)) none (some (.int .i64 4)) none).run Try.prog w = .ok (.value (.slice (some ⟨b, o, none⟩) 4 8)) w := slice_arr_hi (e := 5) (n := 8) (by kernel_rfl) (by kernel_rfl) w b o 4 (by decide)
theorem Try.cp40 (w : World) (ty : TypeId) (b o dl dc : Nat) (sp : Option Addr) (sl sc : Nat) :
    (copyOp 40 40 ty (.slice (some ⟨b, o, none⟩) dl dc) (.slice sp sl sc)).run Try.prog w = copyOr (copyIn w (blk w b) b o (srcB w sp (min sl dl))) (min sl dl) (rawCopy Try.prog 40 40 ty (.slice (some ⟨b, o, none⟩) dl dc) (.slice sp sl sc) w) := copy_run (e := 5) (by kernel_rfl) (by kernel_rfl) w b o dl dc sp sl sc
theorem cut_at (b o l c : Nat) (h : l < c) : cutA (some ⟨b, o, none⟩) l c = some ⟨b, o + l, none⟩ := by
  unfold cutA; rw [if_neg (by omega)]; simp [add_addr]
theorem Hasher.length_zero (x : Hasher) : splice x.enc 73 [.int .u64 0] = ({ x with length := 0 } : Hasher).enc := Hasher.length_set x 0
theorem and63 (x : Nat) (hx : x < 18446744073709551616) : x &&& 18446744073709551552 = 64 * (x / 64) := by
  apply Nat.eq_of_testBit_eq
  intro i
  rw [Nat.testBit_and, show (18446744073709551552 : Nat) = 2 ^ 6 * (2 ^ 58 - 1) by decide, Nat.testBit_two_pow_mul, show 64 * (x / 64) = 2 ^ 6 * (x / 2 ^ 6) from rfl, Nat.testBit_two_pow_mul, Nat.testBit_two_pow_sub_one, ← Nat.shiftRight_eq_div_pow, Nat.testBit_shiftRight]
  by_cases h : 6 ≤ i
  · have e : 6 + (i - 6) = i := by omega
    simp only [h, decide_true, Bool.true_and, e, ge_iff_le]
    by_cases h2 : i - 6 < 58
    · simp [h2]
    · have : x.testBit i = false := Nat.testBit_lt_two_pow (Nat.lt_of_lt_of_le hx (by
        have : 2 ^ 64 ≤ 2 ^ i := Nat.pow_le_pow_right (by omega) (by omega)
        simpa using this))
      simp [this]
  · simp [h]
theorem andNot63 (x : Nat) (hx : x < 4611686018427387904) : bits .andNot .i64 (x : Int) 63 = ((64 * (x / 64) : Nat) : Int) := by
  show IntKind.i64.wrap ((BitVec.ofInt 64 (x : Int) &&& ~~~BitVec.ofInt 64 63).toNat : Int) = _
  have h1 : (BitVec.ofInt 64 63).toNat = 63 := by decide
  have h2 : (BitVec.ofInt 64 (x : Int)).toNat = x := by simp [BitVec.toNat_ofInt]; omega
  rw [BitVec.toNat_and, BitVec.toNat_not, h1, h2, show 2 ^ 64 - 1 - 63 = 18446744073709551552 by decide, and63 x (by omega)]
  exact wraps_i64 _ (by omega) (by omega)
def copyOrV (x : Option World) (n : Nat) (raw : Result Value) : Result Value :=
  match x with
  | some w => .ok (.int .i64 n) w
  | none => raw
theorem copyOrV_some (w : World) (n : Nat) (raw : Result Value) : copyOrV (some w) n raw = .ok (.int .i64 n) w := rfl
def rawCopyV (P : Program) (dT sT ty : TypeId) (x y : Value) (w : World) : Result Value := (Builtin.copy_ #[dT, sT] ty #[x, y]).run P w
theorem copy_runV {P : Program} {dT sT ty e : TypeId} (hu : P.underlying dT = some (.slice e)) (hs : (P.info? e).map (·.size) = some 1) (w : World) (b o dl dc : Nat) (sp : Option Addr) (sl sc : Nat) :
    (Builtin.copy_ #[dT, sT] ty #[.slice (some ⟨b, o, none⟩) dl dc, .slice sp sl sc]).run P w = copyOrV (copyIn w (blk w b) b o (srcB w sp (min sl dl))) (min sl dl) (rawCopyV P dT sT ty (.slice (some ⟨b, o, none⟩) dl dc) (.slice sp sl sc) w) := by
  have h := copy_run (ty := ty) (sT := sT) hu hs w b o dl dc sp sl sc
  cases hc : copyIn w (blk w b) b o (srcB w sp (min sl dl)) with
  | none => rfl
  | some w' =>
    rw [hc, copyOr_some, copyOp, Sem.run_bind] at h
    rw [copyOrV_some]
    cases hr : (Builtin.copy_ #[dT, sT] ty #[.slice (some ⟨b, o, none⟩) dl dc, .slice sp sl sc]).run P w with
    | ok v w2 =>
      rw [hr] at h
      simp [Result.andThen] at h
      rw [h.1, h.2]
    | _ =>
      rw [hr] at h
      simp [Result.andThen] at h
theorem Try.cpv (w : World) (ty : TypeId) (b o dl dc : Nat) (sp : Option Addr) (sl sc : Nat) :
    (Builtin.copy_ #[40, 40] ty #[.slice (some ⟨b, o, none⟩) dl dc, .slice sp sl sc]).run Try.prog w = copyOrV (copyIn w (blk w b) b o (srcB w sp (min sl dl))) (min sl dl) (rawCopyV Try.prog 40 40 ty (.slice (some ⟨b, o, none⟩) dl dc) (.slice sp sl sc) w) :=
  copy_runV (e := 5) (by kernel_rfl) (by kernel_rfl) w b o dl dc sp sl sc
def u64n (n : Nat) : UInt64 := UInt64.ofNat n
attribute [local go_sem ↓] execOp_load execOp_store execOp_alloc
attribute [local go_sem] Try.ld24 Try.st24 Try.ld5 Try.st5 Try.ld3 Try.st3 Try.ld27 Try.st27 Try.ld32 Try.st32 Try.ld33 Try.st33 Try.ld4 Try.st4 Try.ld41 Try.st41 Try.ld40 Try.st40 Try.ld42 Try.st42 Try.ld47 Try.st47 Try.ld48 Try.st48 Try.ld57 Try.st57 Try.ld58 Try.st58 Try.ld2 Try.st2 Try.ld9 Try.st9 Try.ld12 Try.st12 Try.ld21 Try.st21 Try.ld22 Try.st22 Try.ld46 Try.st46 Try.ld83 Try.st83 Try.ld95 Try.st95 Try.ld99 Try.st99 Try.ld106 Try.st106 Try.ld108 Try.st108 Try.ld134 Try.st134 Try.ld25 Try.st25 Try.ld26 Try.st26 Try.ld34 Try.st34 Try.ld31 Try.st31 Try.ld30 Try.st30 Try.ld74 Try.st74 Try.ld96 Try.st96 Try.ld101 Try.st101 Try.ld115 Try.st115 Try.ld116 Try.st116 Try.ld120 Try.st120 Try.ld121 Try.st121 Try.ld122 Try.st122 Try.ld29 Try.st29 Try.ld36 Try.st36 Try.ld38 Try.st38 Try.ld44 Try.st44 Try.ld50 Try.st50 Try.ld60 Try.st60 Try.ld110 Try.st110 Try.al25 Try.al26 Try.al34 Try.al31 Try.al30 Try.al74 Try.al96 Try.al101 Try.al115 Try.al116 Try.al120 Try.al121 Try.al122 Try.al29 Try.al36 Try.al38 Try.al44 Try.al50 Try.al60 Try.al110
attribute [local go_sem] Hasher.length_enc Hasher.ok_enc Hasher.all_get Hasher.all_set Hasher.state_get Hasher.state_set Hasher.block_get Hasher.block_set Hasher.fill_get Hasher.fill_set Hasher.length_get Hasher.length_set GLog.length_enc GLog.ok_enc GLog.all_get GLog.all_set GLog.entries_get GLog.entries_set GLog.shelves_get GLog.shelves_set GLog.first_get GLog.first_set GLog.second_get GLog.second_set GLog.found_get GLog.found_set Player.length_enc Player.ok_enc Player.all_get Player.all_set Player.hand_get Player.hand_set Player.aside_get Player.aside_set Player.prev_get Player.prev_set Player.last_get Player.last_set Player.log_get Player.log_set Player.hand_state_get Player.hand_state_set Player.hand_block_get Player.hand_block_set Player.hand_fill_get Player.hand_fill_set Player.hand_length_get Player.hand_length_set Player.aside_state_get Player.aside_state_set Player.aside_block_get Player.aside_block_set Player.aside_fill_get Player.aside_fill_set Player.aside_length_get Player.aside_length_set Player.log_entries_get Player.log_entries_set Player.log_shelves_get Player.log_shelves_set Player.log_first_get Player.log_first_set Player.log_second_get Player.log_second_set Player.log_found_get Player.log_found_set GOp.length_enc GOp.ok_enc GOp.all_get GOp.all_set GOp.kind_get GOp.kind_set GOp.data_get GOp.data_set GOp.cut_get GOp.cut_set GOp.n_get GOp.n_set GOp.b_get GOp.b_set GOp.v_get GOp.v_set GOp.dom_get GOp.dom_set GOp.sum_get GOp.sum_set Answer.length_enc Answer.ok_enc Answer.all_get Answer.all_set Answer.code_get Answer.code_set Answer.sum_get Answer.sum_set Answer.len_get Answer.len_set Answer.mark_get Answer.mark_set Answer.noted_get Answer.noted_set Answer.collided_get Answer.collided_set GState.length_enc GState.ok_enc GState.all_get GState.all_set GState.hand_get GState.hand_set GState.aside_get GState.aside_set GState.prev_get GState.prev_set GState.last_get GState.last_set GState.inputs_get GState.inputs_set GState.sums_get GState.sums_set GState.collided_get GState.collided_set GState.older_get GState.older_set GState.younger_get GState.younger_set Noted.length_enc Noted.ok_enc Noted.all_get Noted.all_set Noted.input_get Noted.input_set Noted.sum_get Noted.sum_set
attribute [local go_sem] size_put size_ext blk_put free_put blk_alloc free_alloc blk_drew free_drew blk_ext free_ext lookOr_some putOr_some segAt_some cellAt_some storeIn_some put_put put_alloc_new length_arr ok_arr_u8 ok_arr_u32 ok_arr_u64 ok_arr_i64 ok_arr_sl cellsV_agg cellsV_int cellsV_bool cellsV_string cellsV_pointer cellsV_slice cellsV_sl ok_int ok_bool ok_string ok_pointer ok_slice ok_sl toList_arr seg_arr set_arr nth_splice nth_splice0 seg_splice seg_splice0 splice_splice splice_splice0 length_splice_if
attribute [local go_sem] w32_and w32_or w32_xor w32_add w32_or8 w32_not w8_and w8_or w8_xor w32_shr2 w32_shl2 w32_shr3 w32_shl3 w32_shr6 w32_shl6 w32_shr7 w32_shl7 w32_shr8 w32_shl8 w32_shr10 w32_shl10 w32_shr11 w32_shl11 w32_shr13 w32_shl13 w32_shr14 w32_shl14 w32_shr15 w32_shl15 w32_shr16 w32_shl16 w32_shr17 w32_shl17 w32_shr18 w32_shl18 w32_shr19 w32_shl19 w32_shr21 w32_shl21 w32_shr22 w32_shl22 w32_shr24 w32_shl24 w32_shr25 w32_shl25 w32_shr26 w32_shl26 w32_shr30 w32_shl30 w8_shl24 w8_shl16 w8_shl8 v32_add v32_byte w32_byte0 v8_shl24 v8_shl16 v8_shl8 v32_shr2 v32_shl2 v32_shr3 v32_shl3 v32_shr6 v32_shl6 v32_shr7 v32_shl7 v32_shr8 v32_shl8 v32_shr10 v32_shl10 v32_shr11 v32_shl11 v32_shr13 v32_shl13 v32_shr14 v32_shl14 v32_shr15 v32_shl15 v32_shr16 v32_shl16 v32_shr17 v32_shl17 v32_shr18 v32_shl18 v32_shr19 v32_shl19 v32_shr21 v32_shl21 v32_shr22 v32_shl22 v32_shr24 v32_shl24 v32_shr25 v32_shl25 v32_shr26 v32_shl26 v32_shr30 v32_shl30
attribute [local go_sem ↓] execOp_build
attribute [local go_sem] run_build_kv run_build_iv nth_arr_u32 put_arr_u32 nth_arr_u8 put_arr_u8 v32_of8 blk_drewN free_drewN put_drewN put_drew blk_raw free_raw
attribute [local go_sem ↓] execOp_slice execOp_copy
attribute [local go_sem] Try.sl40lo Try.sl40hi Try.sl26lo Try.sl26hi Try.sl26 Try.sl96lo Try.sl96hi Try.sl96 Try.sl31lo Try.sl31 Try.sl120 Try.sl121 Try.sl121lo Try.sl121hi Try.cp40 copyOr_some copyIn_some srcB_drew srcB_drewN srcB_raw length_bv one_bv
attribute [local go_sem] Hasher.length_zero
attribute [local go_sem] Try.cpv copyOrV_some
set_option maxRecDepth 20000 in
set_option maxHeartbeats 2000000 in
theorem reset_any (w : World) (b o : Nat) (C : List Value) (h : Hasher) (hb : blk w b = some (splice C o h.enc)) (hC : o + 74 ≤ C.length) (hf : free w b = true) :
    Calls Try.prog 50 #[.pointer (some ⟨b, o, none⟩)] w fun e w' => e = .returned (.tuple #[]) ∧ Out w w' b (splice C o ({ h with state := iv, fill := 0, length := 0 } : Hasher).enc) := by
  have hlt := blk_lt hb
  go_enter Try.func50, Try.ntmps50
  go_wp2
  go_end0
  exact ⟨rfl, (Out.mk0 hb).put _ hlt⟩
theorem _root_.Go.Blk.Out.step {w w1 w2 : World} {b : Nat} {X Y : List Value} (h : Out w w1 b X) (hb : b < w.heap.size) (h2 : Out w1 w2 b Y) : Out w w2 b Y := by
  obtain ⟨G, n, rfl⟩ := h2
  exact (h.put Y hb).ext G n
theorem compress_h (w : World) (b o : Nat) (C : List Value) (h : Hasher) (a : Option Addr) (len cap : Nat) (xs : List UInt8) (hb : blk w b = some (splice C o h.enc)) (hC : o + 74 ≤ C.length) (hf : free w b = true) (hX : BytesAt b w a len cap xs) (h0 : 0 < len) :
    Calls Try.prog 56 #[.pointer (some ⟨b, o, none⟩), .slice a len cap] w fun e w' => e = .returned (.tuple #[]) ∧ Out w w' b (splice C o ({ h with state := compN xs h.state (len / 64) } : Hasher).enc) := by
  have hlt := blk_lt hb
  obtain ⟨bp, op, rfl, hne, hbp, hcell⟩ := hX.cell (j := 0) h0
  have hl : (splice C o h.enc).length = C.length := length_splice _ _ _ (by rw [Hasher.length_enc]; omega)
  refine (compress_any w b o bp op len cap (splice C o h.enc) xs h.state ?_ (by rw [hl]; omega) hf hlt hX.2.1 hX.2.2.1 ?_ hbp).mono ?_
  · rw [Hasher.state_C _ _ _ _ hC, hb]
  · intro X _ j hj
    rw [blk_put, if_neg hne]
    exact hcell j hj
  · rintro e w' ⟨he, ho⟩
    refine ⟨he, ?_⟩
    rw [Hasher.state_C _ _ _ _ hC] at ho
    exact ho
theorem compress_b (w : World) (b o : Nat) (C : List Value) (h : Hasher) (hb : blk w b = some (splice C o h.enc)) (hC : o + 74 ≤ C.length) (hf : free w b = true) :
    Calls Try.prog 56 #[.pointer (some ⟨b, o, none⟩), .slice (some ⟨b, o + 8, none⟩) 64 64] w fun e w' => e = .returned (.tuple #[]) ∧ Out w w' b (splice C o ({ h with state := compN h.block.toList h.state 1 } : Hasher).enc) := by
  have hlt := blk_lt hb
  have hl : (splice C o h.enc).length = C.length := length_splice _ _ _ (by rw [Hasher.length_enc]; omega)
  refine (compress_any w b o b (o + 8) 64 64 (splice C o h.enc) h.block.toList h.state ?_ (by rw [hl]; omega) hf hlt (by omega) (by omega) ?_ hlt).mono ?_
  · rw [Hasher.state_C _ _ _ _ hC, hb]
  · intro X hX j hj
    rw [blk_put, if_pos rfl, hb, Option.map_some, cellAt_some, Hasher.block_cell C o h X hX hC j hj]
    simp [byteAt, hj]
  · rintro e w' ⟨he, ho⟩
    refine ⟨he, ?_⟩
    rw [Hasher.state_C _ _ _ _ hC] at ho
    exact ho
theorem hlenN (x : Hasher) (a b : Nat) (h : a + b < 18446744073709551616) : splice x.enc 73 [.int .u64 ((a : Int) + (b : Int))] = ({ x with length := u64n (a + b) } : Hasher).enc := by
  have := Hasher.length_set x (u64n (a + b))
  rw [u64n, w64_ofNat _ h] at this
  exact this
theorem wrap_u64 (n : Int) (h0 : 0 ≤ n) (h1 : n < 18446744073709551616) : IntKind.u64.wrap n = n := by rw [IntKind.wrap_u64]; omega
set_option maxRecDepth 20000 in
set_option maxHeartbeats 2000000 in
theorem write_ok (w : World) (b o : Nat) (C : List Value) (h : Hasher) (m xs : List UInt8) (a : Option Addr) (len cap : Nat) (hb : blk w b = some (splice C o h.enc)) (hC : o + 74 ≤ C.length) (hf : free w b = true) (hR : Rep h m) (hX : BytesAt b w a len cap xs)
    (hroom : m.length + len ≤ 2305843009213693951) :
    Calls Try.prog 65 #[.pointer (some ⟨b, o, none⟩), .slice a len cap] w fun e w' => e = .returned (.int .i64 0) ∧ ∃ h', Rep h' (m ++ xs) ∧ Out w w' b (splice C o h'.enc) := by
  have hlt := blk_lt hb
  obtain ⟨N, hN⟩ : ∃ N, N = m.length := ⟨_, rfl⟩
  have hlen : w64 h.length = (N : Int) := by rw [hN]; exact hR.w64
  obtain ⟨f, hfd⟩ : ∃ f, f = m.length % 64 := ⟨_, rfl⟩
  have hfill : h.fill = (f : Int) := by rw [hfd]; exact hR.fill
  have hf64 : f < 64 := by omega
  have HR : Hid (Rep h m) := hR
  have HX : Hid (BytesAt b w a len cap xs) := hX
  have hlc : len ≤ cap := hX.2.1
  have hcb : cap < 9223372036854775808 := hX.2.2.1.2
  have hlb : len < 4611686018427387904 := hX.2.2.1.1
  rw [← hN] at hroom
  have HN : Hid (N = m.length) := hN
  have HF : Hid (f = m.length % 64) := hfd
  clear hR hX hN hfd
  have e1 : IntKind.u64.wrap (2305843009213693951 - (N : Int)) = 2305843009213693951 - (N : Int) := wrap_u64 _ (by omega) (by omega)
  have e2 : IntKind.u64.wrap (len : Int) = (len : Int) := wrap_u64 _ (by omega) (by omega)
  have e3 : IntKind.u64.wrap ((N : Int) + (len : Int)) = (N : Int) + (len : Int) := wrap_u64 _ (by omega) (by omega)
  have e4 : ∀ x : Hasher, splice x.enc 73 [.int .u64 ((N : Int) + (len : Int))] = ({ x with length := u64n (N + len) } : Hasher).enc := fun x => hlenN x _ _ (by omega)
  go_enter Try.func65, Try.ntmps65
  by_cases hf0 : f = 0
  · subst hf0
    go_upto_region 12 with fail
    refine wp_world (fun W => ∃ (h1 : Hasher) (m1 xs1 : List UInt8), blk W b = some (splice C o h1.enc) ∧ free W b = true ∧ Hid (BytesAt b W a len cap xs1) ∧ h1.fill = 0 ∧ Hid (Rep ({ h1 with length := UInt64.ofNat m1.length } : Hasher) m1) ∧ Hid (h1.length = UInt64.ofNat (m1.length + xs1.length)) ∧ Hid (Out w W b (splice C o h1.enc)) ∧ Hid (m ++ xs = m1 ++ xs1) ∧ Hid (m1.length % 64 = 0) ∧ Hid (m1.length + xs1.length ≤ 2305843009213693951)) ?_ ?_
    · refine ⟨({ h with fill := 0, length := u64n (N + len) } : Hasher), m, xs, ?_, ?_, ?_, rfl, ?_, ?_, ?_, rfl, HF.out.symm, ?_⟩
      · simp only [blk_put, if_true, hb, Option.map_some]
      · simp only [free_put, hf]
      · exact HX.out.out ((Out.mk0 hb).put _ hlt)
      · have := HR.out; exact ⟨this.small, this.state, by rw [← HF.out]; rfl, rfl, this.block⟩
      · show u64n (N + len) = _
        rw [HN.out, HX.out.1]; rfl
      · exact (Out.mk0 hb).put _ hlt
      · have := HX.out.1; have := HN.out; show _ ≤ _; omega
    clear hb hf hlen hfill HR HX HN HF e1 e2 e3 e4 hf64
    rintro W ⟨h1, m1, xs1, hb1, hf1, HX1, hfill, HR1, HL1, HO1, HM, H0, HN1⟩
    have hlc1 : len ≤ cap := HX1.out.2.1
    have hcb1 : cap < 9223372036854775808 := HX1.out.2.2.1.2
    have hlb1 : len < 4611686018427387904 := HX1.out.2.2.1.1

    obtain ⟨q, hq⟩ : ∃ q, q = 64 * (len / 64) := ⟨_, rfl⟩
    have e5 : bits .andNot .i64 (len : Int) 63 = (q : Int) := by rw [hq]; exact andNot63 len (by omega)
    have HQ : Hid (q = 64 * (len / 64)) := hq
    have hql : q ≤ len := by omega
    have hqr : len - q < 64 := by omega
    have hqc : q ≤ cap := by omega
    clear hq
    by_cases hq0 : q = 0
    · subst hq0
      have c1 : srcB W a len = some (bv xs1) := by
        have := HX1.out.src (Nat.le_refl _)
        rw [List.take_of_length_le (by have := HX1.out.1; omega)] at this
        exact this
      have c2 : min len 64 = len := by omega
      have c3 : o + 8 + xs1.length ≤ C.length := by have := HX1.out.1; omega
      have c4 := Hasher.block_lay0 C o h1 xs1 hC (by have := HX1.out.1; omega)
      go_wp2_with fail
      go_ret
      refine ⟨rfl, _, ?_, HO1.out.put _ hlt⟩
      have hx := HX1.out.1
      have hz := HQ.out
      rw [HM.out]
      exact Rep.blocks HR1.out (by have := HN1.out; omega) H0.out (by rw [show xs1.length / 64 = 0 by omega]; rfl) (by show ((len : Nat) : Int) = _; congr 1; omega) HL1.out (by rw [show 64 * (xs1.length / 64) = 0 by omega]; rfl)
    · have qn : 0 < q := by omega
      have c2 : min (len - q) 64 = len - q := by omega
      obtain ⟨ys, hys⟩ : ∃ ys, ys = xs1.drop q := ⟨_, rfl⟩
      have HY : Hid (ys = xs1.drop q) := hys
      have hyl : ys.length = len - q := by rw [hys, List.length_drop, HX1.out.1]
      have c3 : o + 8 + ys.length ≤ C.length := by omega
      have c4 := Hasher.block_lay0 C o ({ state := compN (xs1.take q) h1.state (q / 64), block := h1.block, fill := 0, length := h1.length } : Hasher) ys hC (by omega)
      have hh1 : h1 = { state := h1.state, block := h1.block, fill := 0, length := h1.length } := by rw [← hfill]
      have HH1 : Hid (h1 = { state := h1.state, block := h1.block, fill := 0, length := h1.length }) := hh1
      clear hys hyl hh1
      go_wp2_with fail
      go_still_tail 6, Try.mixed
      go_wp2_with fail
      have HX3 : BytesAt b W.drew a len cap xs1 := HX1.out.mono fun _ _ _ => rfl
      refine (compress_h W.drew b o C h1 a q cap (xs1.take q) hb1 hC hf1 (HX3.head hql) qn).mono ?_
      rintro e w2 ⟨rfl, ho2⟩
      have hb2 := ho2.blk_at hb1
      have hf2 := (ho2.free (c := b) (blk_lt hb1)).trans hf1
      have hx2 := ((HX3.out ho2).cut hql).src (Nat.le_refl _)
      rw [List.take_of_length_le (by have := HX1.out.1; rw [List.length_drop]; omega), ← HY.out] at hx2
      have HO2 : Hid (Out w w2 b (splice C o ({ h1 with state := compN (xs1.take q) h1.state (q / 64) } : Hasher).enc)) := (HO1.out.drew).step hlt ho2
      clear ho2 HX3 hb1 hf1
      go_wp2_with fail
      go_ret
      refine ⟨rfl, _, ?_, HO2.out.put _ hlt⟩
      have hx := HX1.out.1
      have hz := HQ.out
      rw [HM.out]
      refine Rep.blocks HR1.out (by have := HN1.out; omega) H0.out ?_ (by show ((len - q : Nat) : Int) = _; congr 1; omega) HL1.out (by rw [hx, ← hz, ← HY.out])
      show compN (xs1.take q) h1.state (q / 64) = compN xs1 h1.state (xs1.length / 64)
      rw [hx, show q / 64 = len / 64 by omega]
      exact compN_congr _ fun i hi => byteAt_take (by omega)
  · have f0 : 0 < f := by omega
    have c0 : ∀ b o : Nat, cutA (some ⟨b, o, none⟩) f 64 = some ⟨b, o + f, none⟩ := fun b o => cut_at b o f 64 hf64
    have f64 : f ≤ 64 := by omega
    by_cases hn : len < 64 - f
    · have c2 : min len (64 - f) = len := by omega
      have c3 : o + 8 + f + xs.length ≤ C.length := by have := HX.out.1; omega
      have c4 := Hasher.block_layC C o ({ state := h.state, block := h.block, fill := (f : Int), length := u64n (N + len) } : Hasher) f xs hC (by have := HX.out.1; omega)
      have e6 : IntKind.i64.wrap ((f : Int) + (len : Int)) = (f : Int) + (len : Int) := wraps_i64 _ (by omega) (by omega)
      go_upto_region 5 with fail
      refine wp_world (fun W => blk W b = some (splice C o ({ state := h.state, block := h.block, fill := (f : Int), length := u64n (N + len) } : Hasher).enc) ∧ free W b = true ∧ srcB W a len = some (bv xs) ∧ Hid (Out w W b (splice C o ({ state := h.state, block := h.block, fill := (f : Int), length := u64n (N + len) } : Hasher).enc))) ?_ ?_
      · refine ⟨?_, ?_, ?_, ?_⟩
        · simp only [blk_put, if_true, hb, Option.map_some]
        · simp only [free_put, hf]
        · have hX2 := (HX.out.out ((Out.mk0 hb).put (splice C o ({ state := h.state, block := h.block, fill := (f : Int), length := u64n (N + len) } : Hasher).enc) hlt)).src (Nat.le_refl _)
          rw [List.take_of_length_le (by have := HX.out.1; omega)] at hX2
          exact hX2
        · exact (Out.mk0 hb).put _ hlt
      clear hb hf
      rintro W ⟨hb1, hf1, c1, HO1⟩
      go_still_tail 9, Try.mixed
      go_wp2_with fail
      go_ret
      refine ⟨rfl, _, ?_, (HO1.out.put _ hlt).drew⟩
      have hx := HX.out.1
      exact Rep.part HR.out (by have := HN.out; omega) (by have := HF.out; omega) rfl (by show (f : Int) + (len : Int) = _; rw [← HF.out, hx]; omega) (by show u64n (N + len) = _; rw [HN.out, hx]; rfl) (by rw [← HF.out])
    · obtain ⟨k, hk⟩ : ∃ k, k = 64 - f := ⟨_, rfl⟩
      have hk' : f + k = 64 := by omega
      have c2 : min len (64 - f) = k := by omega
      have hkl : k ≤ len := by omega
      obtain ⟨ys, hys⟩ : ∃ ys, ys = xs.take k := ⟨_, rfl⟩
      have HY : Hid (ys = xs.take k) := hys
      have hyl : ys.length = k := by rw [hys, List.length_take, HX.out.1]; omega
      have HYL : Hid (ys.length = k) := hyl
      have c3 : o + 8 + f + ys.length ≤ C.length := by omega
      have c4 := Hasher.block_layC C o ({ state := h.state, block := h.block, fill := (f : Int), length := u64n (N + len) } : Hasher) f ys hC (by omega)
      have e6 : IntKind.i64.wrap ((f : Int) + (k : Int)) = 64 := by rw [wraps_i64 _ (by omega) (by omega)]; omega
      obtain ⟨len1, hl1⟩ : ∃ x, len - k = x := ⟨_, rfl⟩
      obtain ⟨cap1, hc1⟩ : ∃ x, cap - k = x := ⟨_, rfl⟩
      obtain ⟨a1, ha1⟩ : ∃ x, cutA a k cap = x := ⟨_, rfl⟩
      clear hys hyl hk
      go_upto_region 5 with fail
      refine wp_world (fun W => blk W b = some (splice C o ({ state := h.state, block := h.block, fill := (f : Int), length := u64n (N + len) } : Hasher).enc) ∧ free W b = true ∧ srcB W a k = some (bv ys) ∧ Hid (Out w W b (splice C o ({ state := h.state, block := h.block, fill := (f : Int), length := u64n (N + len) } : Hasher).enc))) ?_ ?_
      · refine ⟨?_, ?_, ?_, ?_⟩
        · simp only [blk_put, if_true, hb, Option.map_some]
        · simp only [free_put, hf]
        · have hX2 := (HX.out.out ((Out.mk0 hb).put (splice C o ({ state := h.state, block := h.block, fill := (f : Int), length := u64n (N + len) } : Hasher).enc) hlt)).src hkl
          rw [← HY.out] at hX2
          exact hX2
        · exact (Out.mk0 hb).put _ hlt
      rintro W ⟨hb1, hf1, c1, HO1⟩
      go_still_tail 9, Try.mixed
      go_upto_region 10 with fail
      refine wp_world (fun W => blk W b = some (splice C o ({ state := h.state, block := lay h.block f ys, fill := 64, length := u64n (N + len) } : Hasher).enc) ∧ free W b = true ∧ Hid (Out w W b (splice C o ({ state := h.state, block := lay h.block f ys, fill := 64, length := u64n (N + len) } : Hasher).enc))) ?_ ?_
      · refine ⟨?_, ?_, (HO1.out.put _ hlt).drew⟩
        · simp only [blk_drew, blk_put, if_true, hb1, Option.map_some]
        · simp only [free_drew, free_put, hf1]
      clear hb1 hf1 c1 HO1 c4
      rintro W ⟨hb1, hf1, HO1⟩
      go_still_tail 7, Try.mixed
      go_wp2_with fail
      refine (compress_b W.drew b o C _ hb1 hC hf1).mono ?_
      rintro e w2 ⟨rfl, ho2⟩
      have hb2 := ho2.blk_at hb1
      have hf2 := (ho2.free (c := b) (blk_lt hb1)).trans hf1
      have HO2 : Hid (Out w w2 b (splice C o ({ state := compN (lay h.block f ys).toList h.state 1, block := lay h.block f ys, fill := 64, length := u64n (N + len) } : Hasher).enc)) := (HO1.out.drew).step hlt ho2
      clear ho2 hb1 hf1 HO1
      go_upto_region 12 with fail
      refine wp_world (fun W => ∃ (h1 : Hasher) (m1 xs1 : List UInt8), blk W b = some (splice C o h1.enc) ∧ free W b = true ∧ Hid (BytesAt b W a1 len1 cap1 xs1) ∧ h1.fill = 0 ∧ Hid (Rep ({ h1 with length := UInt64.ofNat m1.length } : Hasher) m1) ∧ Hid (h1.length = UInt64.ofNat (m1.length + xs1.length)) ∧ Hid (Out w W b (splice C o h1.enc)) ∧ Hid (m ++ xs = m1 ++ xs1) ∧ Hid (m1.length % 64 = 0) ∧ Hid (m1.length + xs1.length ≤ 2305843009213693951)) ?_ ?_
      · refine ⟨({ state := compN (lay h.block f ys).toList h.state 1, block := lay h.block f ys, fill := 0, length := u64n (N + len) } : Hasher), m ++ ys, xs.drop k, ?_, ?_, ?_, rfl, ?_, ?_, HO2.out.put _ hlt, ?_, ?_, ?_⟩
        · simp only [blk_put, if_true, hb2, Option.map_some]
        · simp only [free_put, hf2]
        · rw [← ha1, ← hl1, ← hc1]
          exact (HX.out.out (HO2.out.put _ hlt)).cut hkl
        · refine Rep.full HR.out (by have := HN.out; have := HYL.out; omega) (by have := HF.out; have := HYL.out; omega) (lay h.block f ys).toList (by intro j hj; rw [← HF.out]; simp [byteAt, hj]) rfl rfl (by show UInt64.ofNat _ = _; rw [List.length_append])
        · show u64n (N + len) = _
          rw [List.length_append, List.length_drop, HYL.out, HX.out.1, HN.out]
          show UInt64.ofNat _ = _
          congr 1; omega
        · show _ = _
          rw [HY.out, List.append_assoc, List.take_append_drop]
        · show _ = _
          rw [List.length_append, HYL.out]; have := HF.out; omega
        · show _ ≤ _
          rw [List.length_append, List.length_drop, HYL.out, HX.out.1]; have := HN.out; omega
      clear hb2 hf2 HO2 c0 c2 c3 e6 hn hk' hl1 hc1 ha1 hkl hlc hcb hroom HY HYL f64
      clear hb hf hlen hfill HR HX HN HF e1 e2 e3 e4 hf64
      rintro W ⟨h1, m1, xs1, hb1, hf1, HX1, hfill, HR1, HL1, HO1, HM, H0, HN1⟩
      have hlc1 : len1 ≤ cap1 := HX1.out.2.1
      have hcb1 : cap1 < 9223372036854775808 := HX1.out.2.2.1.2
      have hlb1 : len1 < 4611686018427387904 := HX1.out.2.2.1.1

      obtain ⟨q, hq⟩ : ∃ q, q = 64 * (len1 / 64) := ⟨_, rfl⟩
      have e5 : bits .andNot .i64 (len1 : Int) 63 = (q : Int) := by rw [hq]; exact andNot63 len1 (by omega)
      have HQ : Hid (q = 64 * (len1 / 64)) := hq
      have hql : q ≤ len1 := by omega
      have hqr : len1 - q < 64 := by omega
      have hqc : q ≤ cap1 := by omega
      clear hq
      by_cases hq0 : q = 0
      · subst hq0
        have c1 : srcB W a1 len1 = some (bv xs1) := by
          have := HX1.out.src (Nat.le_refl _)
          rw [List.take_of_length_le (by have := HX1.out.1; omega)] at this
          exact this
        have c2 : min len1 64 = len1 := by omega
        have c3 : o + 8 + xs1.length ≤ C.length := by have := HX1.out.1; omega
        have c4 := Hasher.block_lay0 C o h1 xs1 hC (by have := HX1.out.1; omega)
        go_wp2_with fail
        go_ret
        refine ⟨rfl, _, ?_, HO1.out.put _ hlt⟩
        have hx := HX1.out.1
        have hz := HQ.out
        rw [HM.out]
        exact Rep.blocks HR1.out (by have := HN1.out; omega) H0.out (by rw [show xs1.length / 64 = 0 by omega]; rfl) (by show ((len1 : Nat) : Int) = _; congr 1; omega) HL1.out (by rw [show 64 * (xs1.length / 64) = 0 by omega]; rfl)
      · have qn : 0 < q := by omega
        have c2 : min (len1 - q) 64 = len1 - q := by omega
        obtain ⟨ys, hys⟩ : ∃ ys, ys = xs1.drop q := ⟨_, rfl⟩
        have HY : Hid (ys = xs1.drop q) := hys
        have hyl : ys.length = len1 - q := by rw [hys, List.length_drop, HX1.out.1]
        have c3 : o + 8 + ys.length ≤ C.length := by omega
        have c4 := Hasher.block_lay0 C o ({ state := compN (xs1.take q) h1.state (q / 64), block := h1.block, fill := 0, length := h1.length } : Hasher) ys hC (by omega)
        have hh1 : h1 = { state := h1.state, block := h1.block, fill := 0, length := h1.length } := by rw [← hfill]
        have HH1 : Hid (h1 = { state := h1.state, block := h1.block, fill := 0, length := h1.length }) := hh1
        clear hys hyl hh1
        go_wp2_with fail
        go_still_tail 6, Try.mixed
        go_wp2_with fail
        have HX3 : BytesAt b W.drew a1 len1 cap1 xs1 := HX1.out.mono fun _ _ _ => rfl
        refine (compress_h W.drew b o C h1 a1 q cap1 (xs1.take q) hb1 hC hf1 (HX3.head hql) qn).mono ?_
        rintro e w2 ⟨rfl, ho2⟩
        have hb2 := ho2.blk_at hb1
        have hf2 := (ho2.free (c := b) (blk_lt hb1)).trans hf1
        have hx2 := ((HX3.out ho2).cut hql).src (Nat.le_refl _)
        rw [List.take_of_length_le (by have := HX1.out.1; rw [List.length_drop]; omega), ← HY.out] at hx2
        have HO2 : Hid (Out w w2 b (splice C o ({ h1 with state := compN (xs1.take q) h1.state (q / 64) } : Hasher).enc)) := (HO1.out.drew).step hlt ho2
        clear ho2 HX3 hb1 hf1
        go_wp2_with fail
        go_ret
        refine ⟨rfl, _, ?_, HO2.out.put _ hlt⟩
        have hx := HX1.out.1
        have hz := HQ.out
        rw [HM.out]
        refine Rep.blocks HR1.out (by have := HN1.out; omega) H0.out ?_ (by show ((len1 - q : Nat) : Int) = _; congr 1; omega) HL1.out (by rw [hx, ← hz, ← HY.out])
        show compN (xs1.take q) h1.state (q / 64) = compN xs1 h1.state (xs1.length / 64)
        rw [hx, show q / 64 = len1 / 64 by omega]
        exact compN_congr _ fun i hi => byteAt_take (by omega)
end Go.Proofs.Qxb6500785a
