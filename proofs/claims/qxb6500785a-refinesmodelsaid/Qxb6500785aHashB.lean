import Derived.Test.Qxb6500785aHash
import Derived.Deep.CutRange
import Derived.Laws.ResultCell
import Derived.Laws.Rows
set_option linter.unusedSimpArgs false
set_option linter.unusedVariables false
namespace Go.Proofs.Qxb6500785a
open Go.RowKit Go.Blk
attribute [local go_sem ↓] execOp_load execOp_store execOp_alloc
attribute [local go_sem] Try.ld24 Try.st24 Try.ld5 Try.st5 Try.ld3 Try.st3 Try.ld27 Try.st27 Try.ld32 Try.st32 Try.ld33 Try.st33 Try.ld4 Try.st4 Try.ld41 Try.st41 Try.ld40 Try.st40 Try.ld42 Try.st42 Try.ld47 Try.st47 Try.ld48 Try.st48 Try.ld57 Try.st57 Try.ld58 Try.st58 Try.ld2 Try.st2 Try.ld9 Try.st9 Try.ld12 Try.st12 Try.ld21 Try.st21 Try.ld22 Try.st22 Try.ld46 Try.st46 Try.ld83 Try.st83 Try.ld95 Try.st95 Try.ld99 Try.st99 Try.ld106 Try.st106 Try.ld108 Try.st108 Try.ld134 Try.st134 Try.ld25 Try.st25 Try.ld26 Try.st26 Try.ld34 Try.st34 Try.ld31 Try.st31 Try.ld30 Try.st30 Try.ld74 Try.st74 Try.ld96 Try.st96 Try.ld101 Try.st101 Try.ld115 Try.st115 Try.ld116 Try.st116 Try.ld120 Try.st120 Try.ld121 Try.st121 Try.ld122 Try.st122 Try.ld29 Try.st29 Try.ld36 Try.st36 Try.ld38 Try.st38 Try.ld44 Try.st44 Try.ld50 Try.st50 Try.ld60 Try.st60 Try.ld110 Try.st110 Try.al25 Try.al26 Try.al34 Try.al31 Try.al30 Try.al74 Try.al96 Try.al101 Try.al115 Try.al116 Try.al120 Try.al121 Try.al122 Try.al29 Try.al36 Try.al38 Try.al44 Try.al50 Try.al60 Try.al110
attribute [local go_sem] Hasher.length_enc Hasher.ok_enc Hasher.all_get Hasher.all_set Hasher.state_get Hasher.state_set Hasher.block_get Hasher.block_set Hasher.fill_get Hasher.fill_set Hasher.length_get Hasher.length_set GLog.length_enc GLog.ok_enc GLog.all_get GLog.all_set GLog.entries_get GLog.entries_set GLog.shelves_get GLog.shelves_set GLog.first_get GLog.first_set GLog.second_get GLog.second_set GLog.found_get GLog.found_set Player.length_enc Player.ok_enc Player.all_get Player.all_set Player.hand_get Player.hand_set Player.aside_get Player.aside_set Player.prev_get Player.prev_set Player.last_get Player.last_set Player.log_get Player.log_set Player.hand_state_get Player.hand_state_set Player.hand_block_get Player.hand_block_set Player.hand_fill_get Player.hand_fill_set Player.hand_length_get Player.hand_length_set Player.aside_state_get Player.aside_state_set Player.aside_block_get Player.aside_block_set Player.aside_fill_get Player.aside_fill_set Player.aside_length_get Player.aside_length_set Player.log_entries_get Player.log_entries_set Player.log_shelves_get Player.log_shelves_set Player.log_first_get Player.log_first_set Player.log_second_get Player.log_second_set Player.log_found_get Player.log_found_set GOp.length_enc GOp.ok_enc GOp.all_get GOp.all_set GOp.kind_get GOp.kind_set GOp.data_get GOp.data_set GOp.cut_get GOp.cut_set GOp.n_get GOp.n_set GOp.b_get GOp.b_set GOp.v_get GOp.v_set GOp.dom_get GOp.dom_set GOp.sum_get GOp.sum_set Answer.length_enc Answer.ok_enc Answer.all_get Answer.all_set Answer.code_get Answer.code_set Answer.sum_get Answer.sum_set Answer.len_get Answer.len_set Answer.mark_get Answer.mark_set Answer.noted_get Answer.noted_set Answer.collided_get Answer.collided_set GState.length_enc GState.ok_enc GState.all_get GState.all_set GState.hand_get GState.hand_set GState.aside_get GState.aside_set GState.prev_get GState.prev_set GState.last_get GState.last_set GState.inputs_get GState.inputs_set GState.sums_get GState.sums_set GState.collided_get GState.collided_set GState.older_get GState.older_set GState.younger_get GState.younger_set Noted.length_enc Noted.ok_enc Noted.all_get Noted.all_set Noted.input_get Noted.input_set Noted.sum_get Noted.sum_set
attribute [local go_sem] size_put size_ext blk_put free_put blk_alloc free_alloc blk_drew free_drew blk_ext free_ext lookOr_some putOr_some segAt_some cellAt_some storeIn_some put_put put_alloc_new length_arr ok_arr_u8 ok_arr_u32 ok_arr_u64 ok_arr_i64 ok_arr_sl cellsV_agg cellsV_int cellsV_bool cellsV_string cellsV_pointer cellsV_slice cellsV_sl ok_int ok_bool ok_string ok_pointer ok_slice ok_sl toList_arr seg_arr set_arr nth_splice nth_splice0 seg_splice seg_splice0 splice_splice splice_splice0 length_splice_if
attribute [local go_sem] w32_and w32_or w32_xor w32_add w32_or8 w32_not w8_and w8_or w8_xor w32_shr2 w32_shl2 w32_shr3 w32_shl3 w32_shr6 w32_shl6 w32_shr7 w32_shl7 w32_shr8 w32_shl8 w32_shr10 w32_shl10 w32_shr11 w32_shl11 w32_shr13 w32_shl13 w32_shr14 w32_shl14 w32_shr15 w32_shl15 w32_shr16 w32_shl16 w32_shr17 w32_shl17 w32_shr18 w32_shl18 w32_shr19 w32_shl19 w32_shr21 w32_shl21 w32_shr22 w32_shl22 w32_shr24 w32_shl24 w32_shr25 w32_shl25 w32_shr26 w32_shl26 w32_shr30 w32_shl30 w8_shl24 w8_shl16 w8_shl8 v32_add v32_byte w32_byte0 v8_shl24 v8_shl16 v8_shl8 v32_shr2 v32_shl2 v32_shr3 v32_shl3 v32_shr6 v32_shl6 v32_shr7 v32_shl7 v32_shr8 v32_shl8 v32_shr10 v32_shl10 v32_shr11 v32_shl11 v32_shr13 v32_shl13 v32_shr14 v32_shl14 v32_shr15 v32_shl15 v32_shr16 v32_shl16 v32_shr17 v32_shl17 v32_shr18 v32_shl18 v32_shr19 v32_shl19 v32_shr21 v32_shl21 v32_shr22 v32_shl22 v32_shr24 v32_shl24 v32_shr25 v32_shl25 v32_shr26 v32_shl26 v32_shr30 v32_shl30
attribute [local go_sem ↓] execOp_build
attribute [local go_sem] run_build_kv run_build_iv nth_arr_u32 put_arr_u32 nth_arr_u8 put_arr_u8 v32_of8 blk_drewN free_drewN put_drewN put_drew blk_raw free_raw
attribute [local go_sem ↓] execOp_slice execOp_copy
attribute [local go_sem] Try.sl40lo Try.sl40hi Try.sl26lo Try.sl26hi Try.sl26 Try.sl96lo Try.sl96hi Try.sl96 Try.sl31lo Try.sl31 Try.sl120 Try.sl121 Try.sl121lo Try.sl121hi Try.cp40 copyOr_some copyIn_some srcB_drew srcB_drewN srcB_raw length_bv one_bv
attribute [local go_sem] Hasher.length_zero
attribute [local go_sem] Try.cpv copyOrV_some
theorem ret_cell {P : Program} {fn : Func} {R : Ending → World → Prop} {a : Act} {w : World} {p : Tmp} {ty : TypeId} {g : Nat} {C : List Value} (h : fn.results = #[.cell p ty]) (hp : a.tmps.getD p undef = .pointer (some ⟨g, 0, none⟩)) (hb : blk w g = some C)
    (hr : ((P.underlying ty).map fun d => (match d with | .struct _ | .array _ _ => true | _ => false)) = some true) (hi : (P.info? ty).map (·.size) = some C.length) (hdf : a.defers = []) (hR : R (.returned (.agg C.toArray)) w) : bodyPost P fn R .ret a w := by
  obtain ⟨t, fz, ht⟩ := blk_some hb
  obtain ⟨d, hu, hd⟩ : ∃ d, P.underlying ty = some d ∧ (match d with | .struct _ | .array _ _ => true | _ => false) = true := by
    cases hx : P.underlying ty with
    | none => simp [hx] at hr
    | some d => exact ⟨d, rfl, by simpa [hx] using hr⟩
  exact bodyPost_ret (results_cell_row h a.tmps w g t C.toArray fz d hp ht hu (by cases d <;> simp_all) (by simpa using hi)) hdf hR
theorem ret_cell_tmp {P : Program} {fn : Func} {R : Ending → World → Prop} {a : Act} {w : World} {p u : Tmp} {ty : TypeId} {g : Nat} {C : List Value} {v : Value} (h : fn.results = #[.cell p ty, .tmp u]) (hp : a.tmps.getD p undef = .pointer (some ⟨g, 0, none⟩)) (hv : a.tmps.getD u undef = v) (hb : blk w g = some C)
    (hr : ((P.underlying ty).map fun d => (match d with | .struct _ | .array _ _ => true | _ => false)) = some true) (hi : (P.info? ty).map (·.size) = some C.length) (hdf : a.defers = []) (hR : R (.returned (.tuple #[.agg C.toArray, v])) w) : bodyPost P fn R .ret a w := by
  obtain ⟨t, fz, ht⟩ := blk_some hb
  obtain ⟨d, hu, hd⟩ : ∃ d, P.underlying ty = some d ∧ (match d with | .struct _ | .array _ _ => true | _ => false) = true := by
    cases hx : P.underlying ty with
    | none => simp [hx] at hr
    | some d => exact ⟨d, rfl, by simpa [hx] using hr⟩
  refine bodyPost_ret ?_ hdf hR
  rw [results_cell_tmp h, hp, hv]
  have hp' := run_loadVar_row (P := P) w g t ty C.toArray fz d ht hu (by cases d <;> simp_all) (by simpa using hi)
  simp [asAddr, hp', Result.andThen]
theorem dig32 (v : Vector UInt8 32) : (arr u8v v).length = 32 := length_arr _ _
set_option maxRecDepth 20000 in
set_option maxHeartbeats 2000000 in
theorem write_long (w : World) (b o : Nat) (C : List Value) (h : Hasher) (m xs : List UInt8) (a : Option Addr) (len cap : Nat) (hb : blk w b = some (splice C o h.enc)) (hC : o + 74 ≤ C.length) (hf : free w b = true) (hR : Rep h m) (hX : BytesAt b w a len cap xs)
    (hroom : ¬ m.length + len ≤ 2305843009213693951) :
    Calls Try.prog 65 #[.pointer (some ⟨b, o, none⟩), .slice a len cap] w fun e w' => e = .returned (.int .i64 1) ∧ w' = w := by
  have hlt := blk_lt hb
  obtain ⟨N, hN⟩ : ∃ N, N = m.length := ⟨_, rfl⟩
  have hlen : w64 h.length = (N : Int) := by rw [hN]; exact hR.w64
  have hsm : N ≤ 2305843009213693951 := by rw [hN]; exact hR.small
  have hlc : len ≤ cap := hX.2.1
  have hcb : cap < 9223372036854775808 := hX.2.2.1.2
  have hlb : len < 4611686018427387904 := hX.2.2.1.1
  rw [← hN] at hroom
  clear hR hX hN
  have e1 : IntKind.u64.wrap (2305843009213693951 - (N : Int)) = 2305843009213693951 - (N : Int) := wrap_u64 _ (by omega) (by omega)
  have e2 : IntKind.u64.wrap (len : Int) = (len : Int) := wrap_u64 _ (by omega) (by omega)
  go_enter Try.func65, Try.ntmps65
  go_wp2_with fail
  go_ret
  exact ⟨rfl, rfl⟩
set_option maxRecDepth 20000 in
set_option maxHeartbeats 2000000 in
theorem new_any (w : World) : Calls Try.prog 44 #[] w fun e w' => (∃ h, Rep h [] ∧ e = .returned (.agg h.enc.toArray)) ∧ Ext w w' := by
  go_enter Try.func44, Try.ntmps44
  go_wp2_with fail
  have hb : blk ((w.alloc (Obj.cells Hasher.zero.enc.toArray 29)).alloc (Obj.cells Hasher.zero.enc.toArray 29)) (w.heap.size + 1) = some (splice Hasher.zero.enc 0 Hasher.zero.enc) := by
    rw [blk_alloc, World.size_alloc, if_pos rfl, Hasher.all_set]
  have hf : free ((w.alloc (Obj.cells Hasher.zero.enc.toArray 29)).alloc (Obj.cells Hasher.zero.enc.toArray 29)) (w.heap.size + 1) = true := by
    rw [free_alloc, World.size_alloc, if_pos rfl]
  have hlt := blk_lt hb
  refine (reset_any _ (w.heap.size + 1) 0 Hasher.zero.enc Hasher.zero hb (by rw [Hasher.length_enc]; omega) hf).mono ?_
  rintro e w2 ⟨rfl, ho⟩
  rw [Hasher.all_set] at ho
  obtain ⟨h, hh⟩ : ∃ h : Hasher, h = { Hasher.zero with state := iv, fill := 0, length := 0 } := ⟨_, rfl⟩
  rw [← hh] at ho
  have hR : Rep h [] := by subst hh; exact ⟨by simp, rfl, rfl, rfl, by intro j hj h; simp at h⟩
  have HR : Hid (Rep h []) := hR
  have hb1 := ho.blk_at hb
  have hb0 : blk w2 w.heap.size = some Hasher.zero.enc := by
    rw [ho.blk_other (by rw [World.size_alloc, World.size_alloc]; omega) (by omega), blk_alloc, World.size_alloc, if_neg (by omega), blk_alloc, if_pos rfl]
  have hf0 : free w2 w.heap.size = true := by
    rw [ho.free (by rw [World.size_alloc, World.size_alloc]; omega), free_alloc, World.size_alloc, if_neg (by omega), free_alloc, if_pos rfl]
  have hE : Ext w w2 := by
    obtain ⟨G, n, rfl⟩ := ho
    exact ((((Ext.refl w).alloc _).alloc _).put_new _ _ (by omega)).ext G n
  have HE : Hid (Ext w w2) := hE
  clear hh hR hE ho hb hf hlt
  go_wp2_with fail
  refine ret_cell rfl rfl (by rw [blk_put, if_pos rfl, hb0]; rfl) (by kernel_rfl) (by rw [Hasher.length_enc]; kernel_rfl) rfl ?_
  exact ⟨⟨h, HR.out, rfl⟩, HE.out.put_new _ _ (Nat.le_refl _)⟩
set_option maxRecDepth 20000 in
set_option maxHeartbeats 2000000 in
theorem put32_any (w : World) (b o len cap : Nat) (C : List Value) (v : UInt32) (hb : blk w b = some C) (hC : o + 4 ≤ C.length) (hf : free w b = true) (hl : 4 ≤ len) :
    Calls Try.prog 55 #[.slice (some ⟨b, o, none⟩) len cap, .int .u32 (w32 v)] w fun e w' => e = .returned (.tuple #[]) ∧ Out w w' b (splice C o (bv [(v >>> 24).toUInt8, (v >>> 16).toUInt8, (v >>> 8).toUInt8, v.toUInt8])) := by
  have hlt := blk_lt hb
  go_enter Try.func55, Try.ntmps55
  go_wp2_with fail
  go_end0
  refine ⟨rfl, ?_⟩
  have e1 := splice_snoc (C := C) (o := o) (xs := [Value.int IntKind.u8 (w8 (v >>> 24).toUInt8)]) (ys := [Value.int IntKind.u8 (w8 (v >>> 16).toUInt8)]) (by simp; omega)
  have e2 := splice_snoc (C := C) (o := o) (xs := [Value.int IntKind.u8 (w8 (v >>> 24).toUInt8), Value.int IntKind.u8 (w8 (v >>> 16).toUInt8)]) (ys := [Value.int IntKind.u8 (w8 (v >>> 8).toUInt8)]) (by simp; omega)
  have e3 := splice_snoc (C := C) (o := o) (xs := [Value.int IntKind.u8 (w8 (v >>> 24).toUInt8), Value.int IntKind.u8 (w8 (v >>> 16).toUInt8), Value.int IntKind.u8 (w8 (v >>> 8).toUInt8)]) (ys := [Value.int IntKind.u8 (w8 v.toUInt8)]) (by simp; omega)
  simp only [List.length_cons, List.length_nil, List.cons_append, List.nil_append, Nat.zero_add, Nat.reduceAdd] at e1 e2 e3
  rw [e1, e2, e3]
  exact (Out.mk0 hb).put _ hlt
set_option maxRecDepth 20000 in
set_option maxHeartbeats 2000000 in
theorem octet_ok (w : World) (b o : Nat) (C : List Value) (h : Hasher) (m : List UInt8) (x : UInt8) (hb : blk w b = some (splice C o h.enc)) (hC : o + 74 ≤ C.length) (hf : free w b = true) (hR : Rep h m) (hroom : m.length + 1 ≤ 2305843009213693951) :
    Calls Try.prog 46 #[.pointer (some ⟨b, o, none⟩), .int .u8 (w8 x)] w fun e w' => e = .returned (.int .i64 0) ∧ ∃ h', Rep h' (m ++ [x]) ∧ Out w w' b (splice C o h'.enc) := by
  have hlt := blk_lt hb
  obtain ⟨N, hN⟩ : ∃ N, N = m.length := ⟨_, rfl⟩
  have hlen : w64 h.length = (N : Int) := by rw [hN]; exact hR.w64
  obtain ⟨f, hfd⟩ : ∃ f, f = m.length % 64 := ⟨_, rfl⟩
  have hfill : h.fill = (f : Int) := by rw [hfd]; exact hR.fill
  have hf64 : f < 64 := by omega
  have HR : Hid (Rep h m) := hR
  rw [← hN] at hroom
  have HN : Hid (N = m.length) := hN
  have HF : Hid (f = m.length % 64) := hfd
  clear hR hN hfd
  have e3 : IntKind.u64.wrap ((N : Int) + 1) = (N : Int) + 1 := wrap_u64 _ (by omega) (by omega)
  have e4 : ∀ x : Hasher, splice x.enc 73 [.int .u64 ((N : Int) + 1)] = ({ x with length := u64n (N + 1) } : Hasher).enc := fun x => hlenN x N 1 (by omega)
  have c4 : splice (splice C o ({ state := h.state, block := h.block, fill := (f : Int), length := u64n (N + 1) } : Hasher).enc) (o + 8 + f) [.int .u8 (w8 x)] = splice C o ({ state := h.state, block := lay h.block f [x], fill := (f : Int), length := u64n (N + 1) } : Hasher).enc := Hasher.block_layC C o _ f [x] hC (by simp; omega)
  have c3 : o + 8 + f + 1 ≤ C.length := by omega
  have d1 : decide ((2305843009213693951 : Int) ≤ (N : Int)) = false := by rw [decide_eq_false_iff_not]; omega
  have d2 : ¬ (2305843009213693951 : Int) ≤ (N : Int) := by omega
  have HRm : Hid (N + 1 ≤ 2305843009213693951) := hroom
  clear hroom
  have q0 : (0 : Int) ≤ (f : Int) := by omega
  have q1 : (f : Int) < 64 := by omega
  have q2 : ((f : Int)).toNat = f := by omega
  go_enter Try.func46, Try.ntmps46
  by_cases hn : f + 1 < 64
  · have e6 : IntKind.i64.wrap ((f : Int) + 1) = (f : Int) + 1 := wraps_i64 _ (by omega) (by omega)
    go_upto_region 4 with fail
    go_still_tail 9, Try.mixed
    go_wp2_with fail
    go_ret
    refine ⟨rfl, _, ?_, ((Out.mk0 hb).put _ hlt).drew⟩
    exact Rep.part HR.out (by have := HN.out; have := HRm.out; simp; omega) (by have := HF.out; simp; omega) rfl (by show (f : Int) + 1 = _; rw [← HF.out]; simp) (by show u64n (N + 1) = _; rw [HN.out]; rfl) (by rw [← HF.out])
  · have e6 : IntKind.i64.wrap ((f : Int) + 1) = 64 := by rw [wraps_i64 _ (by omega) (by omega)]; omega
    go_upto_region 4 with fail
    go_still_tail 9, Try.mixed
    go_upto_region 7 with fail
    refine wp_world (fun W => blk W b = some (splice C o ({ state := h.state, block := lay h.block f [x], fill := 64, length := u64n (N + 1) } : Hasher).enc) ∧ free W b = true ∧ Hid (Out w W b (splice C o ({ state := h.state, block := lay h.block f [x], fill := 64, length := u64n (N + 1) } : Hasher).enc))) ?_ ?_
    · refine ⟨?_, ?_, ((Out.mk0 hb).put _ hlt).drew⟩
      · simp only [blk_drew, blk_put, if_true, hb, Option.map_some]
      · simp only [free_drew, free_put, hf]
    clear c4
    rintro W ⟨hb1, hf1, HO1⟩
    go_still_tail 7, Try.mixed
    go_wp2_with fail
    refine (compress_b W.drew b o C _ hb1 hC hf1).mono ?_
    rintro e w2 ⟨rfl, ho2⟩
    have hb2 := ho2.blk_at hb1
    have hf2 := (ho2.free (c := b) (blk_lt hb1)).trans hf1
    have HO2 : Hid (Out w w2 b (splice C o ({ state := compN (lay h.block f [x]).toList h.state 1, block := lay h.block f [x], fill := 64, length := u64n (N + 1) } : Hasher).enc)) := (HO1.out.drew).step hlt ho2
    clear ho2 hb1 hf1 HO1
    go_wp2_with fail
    go_ret
    refine ⟨rfl, _, ?_, HO2.out.put _ hlt⟩
    exact Rep.full HR.out (by have := HN.out; have := HRm.out; simp; omega) (by have := HF.out; simp; omega) (lay h.block f [x]).toList (by intro j hj; rw [← HF.out]; simp [byteAt, hj]) rfl rfl (by show u64n (N + 1) = _; rw [HN.out]; rfl)
set_option maxRecDepth 20000 in
set_option maxHeartbeats 2000000 in
theorem octet_long (w : World) (b o : Nat) (C : List Value) (h : Hasher) (m : List UInt8) (x : UInt8) (hb : blk w b = some (splice C o h.enc)) (hC : o + 74 ≤ C.length) (hR : Rep h m) (hroom : ¬ m.length + 1 ≤ 2305843009213693951) :
    Calls Try.prog 46 #[.pointer (some ⟨b, o, none⟩), .int .u8 (w8 x)] w fun e w' => e = .returned (.int .i64 1) ∧ w' = w := by
  have hN : m.length = 2305843009213693951 := by have := hR.small; omega
  have hlen : w64 h.length = 2305843009213693951 := by rw [hR.w64, hN]; rfl
  clear hroom hR hN
  go_enter Try.func46, Try.ntmps46
  go_wp2_with fail
  go_ret
  exact ⟨rfl, rfl⟩
end Go.Proofs.Qxb6500785a
