import Derived.Test.Qxb6500785aOwn
import Derived.Deep.CutRange
import Derived.Laws.ResultCell
import Derived.Laws.Rows
set_option linter.unusedSimpArgs false
set_option linter.unusedVariables false
namespace Go.Proofs.Qxb6500785a
open Go.RowKit Go.Blk
attribute [local go_sem ↓] execOp_load execOp_store execOp_alloc
attribute [local go_sem] Try.ld24 Try.st24 Try.ld5 Try.st5 Try.ld3 Try.st3 Try.ld27 Try.st27 Try.ld32 Try.st32 Try.ld33 Try.st33 Try.ld4 Try.st4 Try.ld41 Try.st41 Try.ld40 Try.st40 Try.ld42 Try.st42 Try.ld47 Try.st47 Try.ld48 Try.st48 Try.ld57 Try.st57 Try.ld58 Try.st58 Try.ld2 Try.st2 Try.ld9 Try.st9 Try.ld12 Try.st12 Try.ld21 Try.st21 Try.ld22 Try.st22 Try.ld46 Try.st46 Try.ld83 Try.st83 Try.ld95 Try.st95 Try.ld99 Try.st99 Try.ld106 Try.st106 Try.ld108 Try.st108 Try.ld134 Try.st134 Try.ld25 Try.st25 Try.ld26 Try.st26 Try.ld34 Try.st34 Try.ld31 Try.st31 Try.ld30 Try.st30 Try.ld74 Try.st74 Try.ld96 Try.st96 Try.ld101 Try.st101 Try.ld115 Try.st115 Try.ld116 Try.st116 Try.ld120 Try.st120 Try.ld121 Try.st121 Try.ld122 Try.st122 Try.ld29 Try.st29 Try.ld36 Try.st36 Try.ld38 Try.st38 Try.ld44 Try.st44 Try.ld50 Try.st50 Try.ld60 Try.st60 Try.ld110 Try.st110 Try.al25 Try.al26 Try.al34 Try.al31 Try.al30 Try.al74 Try.al96 Try.al101 Try.al115 Try.al116 Try.al120 Try.al121 Try.al122 Try.al29 Try.al36 Try.al38 Try.al44 Try.al50 Try.al60 Try.al110
attribute [local go_sem] Hasher.length_enc Hasher.ok_enc Hasher.all_get Hasher.all_set Hasher.state_get Hasher.state_set Hasher.block_get Hasher.block_set Hasher.fill_get Hasher.fill_set Hasher.length_get Hasher.length_set GLog.length_enc GLog.ok_enc GLog.all_get GLog.all_set GLog.entries_get GLog.entries_set GLog.shelves_get GLog.shelves_set GLog.first_get GLog.first_set GLog.second_get GLog.second_set GLog.found_get GLog.found_set Player.length_enc Player.ok_enc Player.all_get Player.all_set Player.hand_get Player.hand_set Player.aside_get Player.aside_set Player.prev_get Player.prev_set Player.last_get Player.last_set Player.log_get Player.log_set Player.hand_state_get Player.hand_state_set Player.hand_block_get Player.hand_block_set Player.hand_fill_get Player.hand_fill_set Player.hand_length_get Player.hand_length_set Player.aside_state_get Player.aside_state_set Player.aside_block_get Player.aside_block_set Player.aside_fill_get Player.aside_fill_set Player.aside_length_get Player.aside_length_set Player.log_entries_get Player.log_entries_set Player.log_shelves_get Player.log_shelves_set Player.log_first_get Player.log_first_set Player.log_second_get Player.log_second_set Player.log_found_get Player.log_found_set GOp.length_enc GOp.ok_enc GOp.all_get GOp.all_set GOp.kind_get GOp.kind_set GOp.data_get GOp.data_set GOp.cut_get GOp.cut_set GOp.n_get GOp.n_set GOp.b_get GOp.b_set GOp.v_get GOp.v_set GOp.dom_get GOp.dom_set GOp.sum_get GOp.sum_set Answer.length_enc Answer.ok_enc Answer.all_get Answer.all_set Answer.code_get Answer.code_set Answer.sum_get Answer.sum_set Answer.len_get Answer.len_set Answer.mark_get Answer.mark_set Answer.noted_get Answer.noted_set Answer.collided_get Answer.collided_set GState.length_enc GState.ok_enc GState.all_get GState.all_set GState.hand_get GState.hand_set GState.aside_get GState.aside_set GState.prev_get GState.prev_set GState.last_get GState.last_set GState.inputs_get GState.inputs_set GState.sums_get GState.sums_set GState.collided_get GState.collided_set GState.older_get GState.older_set GState.younger_get GState.younger_set Noted.length_enc Noted.ok_enc Noted.all_get Noted.all_set Noted.input_get Noted.input_set Noted.sum_get Noted.sum_set
attribute [local go_sem] size_put size_ext blk_put free_put blk_alloc free_alloc blk_drew free_drew blk_ext free_ext lookOr_some putOr_some segAt_some cellAt_some storeIn_some put_put put_alloc_new length_arr ok_arr_u8 ok_arr_u32 ok_arr_u64 ok_arr_i64 ok_arr_sl cellsV_agg cellsV_int cellsV_bool cellsV_string cellsV_pointer cellsV_slice cellsV_sl ok_int ok_bool ok_string ok_pointer ok_slice ok_sl toList_arr seg_arr set_arr nth_splice nth_splice0 seg_splice seg_splice0 splice_splice splice_splice0 length_splice_if
attribute [local go_sem] w32_and w32_or w32_xor w32_add w32_or8 w32_not w8_and w8_or w8_xor w32_shr2 w32_shl2 w32_shr3 w32_shl3 w32_shr6 w32_shl6 w32_shr7 w32_shl7 w32_shr8 w32_shl8 w32_shr10 w32_shl10 w32_shr11 w32_shl11 w32_shr13 w32_shl13 w32_shr14 w32_shl14 w32_shr15 w32_shl15 w32_shr16 w32_shl16 w32_shr17 w32_shl17 w32_shr18 w32_shl18 w32_shr19 w32_shl19 w32_shr21 w32_shl21 w32_shr22 w32_shl22 w32_shr24 w32_shl24 w32_shr25 w32_shl25 w32_shr26 w32_shl26 w32_shr30 w32_shl30 w8_shl24 w8_shl16 w8_shl8 v32_add v32_byte w32_byte0 v8_shl24 v8_shl16 v8_shl8 v32_shr2 v32_shl2 v32_shr3 v32_shl3 v32_shr6 v32_shl6 v32_shr7 v32_shl7 v32_shr8 v32_shl8 v32_shr10 v32_shl10 v32_shr11 v32_shl11 v32_shr13 v32_shl13 v32_shr14 v32_shl14 v32_shr15 v32_shl15 v32_shr16 v32_shl16 v32_shr17 v32_shl17 v32_shr18 v32_shl18 v32_shr19 v32_shl19 v32_shr21 v32_shl21 v32_shr22 v32_shl22 v32_shr24 v32_shl24 v32_shr25 v32_shl25 v32_shr26 v32_shl26 v32_shr30 v32_shl30
attribute [local go_sem ↓] execOp_build
attribute [local go_sem] run_build_kv run_build_iv nth_arr_u32 put_arr_u32 nth_arr_u8 put_arr_u8 v32_of8 blk_drewN free_drewN put_drewN put_drew blk_raw free_raw
attribute [local go_sem ↓] execOp_slice execOp_copy
attribute [local go_sem] Try.sl40lo Try.sl40hi Try.sl26lo Try.sl26hi Try.sl26 Try.sl96lo Try.sl96hi Try.sl96 Try.sl31lo Try.sl31 Try.sl120 Try.sl121 Try.sl121lo Try.sl121hi Try.cp40 copyOr_some copyIn_some srcB_drew srcB_drewN srcB_raw length_bv one_bv
attribute [local go_sem] Hasher.length_zero
attribute [local go_sem] Try.cpv copyOrV_some
theorem ext_Ext {w w' : World} (h : Ext w w') : w.Extends w' := by
  obtain ⟨G, n, rfl⟩ := h
  have hb : ∀ i, i < w.heap.size → (ext w G n).heap[i]? = w.heap[i]? := fun i hi => by rw [heap_ext, if_pos hi]
  exact ⟨rfl, rfl, rfl, by rw [size_ext]; omega, fun a ha => World.cell?_of_block (hb _ ha), fun a ha => World.frozen?_of_block (hb _ ha), hb⟩
theorem wpList_append {w : World} {ops : Array Oper} {rest : List Oper} {o : Oper} {a : Act} {Q : Exit → Act → World → Prop} (hgd : o.guard = none) (s x : Operand)
    (ho : o.op = .call { callee := .builtin .append, args := #[s, x], argTypes := #[40, 40] }) (base : Nat) (v : Value) (xs ys : List UInt8) (sp : Option Addr) (n c : Nat) (hs : a.eval s = v) (hx : a.eval x = .slice sp n c) (hn : n = ys.length)
    (h : OwnB base w v xs) (hsrc : srcB w sp ys.length = some (bv ys)) (hb : base ≤ w.heap.size) (hl : xs.length + ys.length ≤ 70368744177664)
    (hK : ∀ v' w', OwnB base w' v' (xs ++ ys) → w.grownBy w' v.ownBlock → wpList Try.prog ops Q rest (a.put o.dst v') w') : wpList Try.prog ops Q (o :: rest) a w := by
  refine wpList_plain hgd fun K hK' => ?_
  obtain ⟨v', w', hrun, h1, h2⟩ := append_own base w o.type v xs ys sp c h hsrc hb hl
  subst hn
  unfold Oper.wp
  simp [execOp, ho, resolve, invoke, builtin, hs, hx, hrun, Result.andThen]
  exact hK' _ _ (hK v' w' h1 h2)
theorem OwnB.nil (base : Nat) (w : World) : OwnB base w (.slice none 0 0) [] := ⟨rfl, .inl ⟨rfl, rfl⟩⟩
theorem OwnB.mono {base : Nat} {w w' : World} {v : Value} {xs : List UInt8} (h : OwnB base w v xs) (hw : ∀ k, k < w.heap.size → w'.heap[k]? = w.heap[k]?) : OwnB base w' v xs := by
  obtain ⟨h1, h2 | ⟨g, cap, cur, e1, e2, e3, e4⟩⟩ := h
  · exact ⟨h1, .inl h2⟩
  · exact ⟨h1, .inr ⟨g, cap, cur, e1, e2, by rw [hw g (Array.getElem?_eq_some_iff.1 e3).1]; exact e3, e4⟩⟩
theorem OwnB.block {base : Nat} {w : World} {v : Value} {xs : List UInt8} (h : OwnB base w v xs) (k : Nat) (hk : v.ownBlock = some k) : base ≤ k := by
  obtain ⟨h1, h2 | ⟨g, cap, cur, e1, e2, e3⟩⟩ := h
  · rw [h2.1] at hk; simp [Value.ownBlock] at hk
  · rw [e1] at hk; simp [Value.ownBlock] at hk; omega
theorem OwnB.val {base : Nat} {w : World} {v : Value} {xs : List UInt8} (h : OwnB base w v xs) : ∃ sp c, v = .slice sp xs.length c ∧ xs.length ≤ c := by
  obtain ⟨h1, h2 | ⟨g, cap, cur, e1, e2, e3, e4, e5⟩⟩ := h
  · exact ⟨none, 0, by rw [h2.1, h2.2], by omega⟩
  · exact ⟨_, cap, e1, e4⟩
theorem OwnB.grow {base : Nat} {w W W' : World} {v : Value} {xs : List UInt8} (h : OwnB base W v xs) (hb : w.heap.size ≤ base) (he : w.Extends W) (hg : W.grownBy W' v.ownBlock) : w.Extends W' :=
  he.grown hg fun k hk => Nat.le_trans hb (h.block k hk)
theorem extends_alloc {w W : World} (h : w.Extends W) (o : Obj) : w.Extends (W.alloc o) := by
  have hb : ∀ i, i < w.heap.size → (W.alloc o).heap[i]? = w.heap[i]? := fun i hi => by rw [heap_alloc_old _ _ (Nat.lt_of_lt_of_le hi h.size)]; exact h.block i hi
  exact ⟨h.os, h.tape, h.output, by rw [World.size_alloc]; have := h.size; omega, fun a ha => World.cell?_of_block (hb _ ha), fun a ha => World.frozen?_of_block (hb _ ha), hb⟩
theorem srcB_new (w : World) (x : UInt8) (t : TypeId) : srcB (w.alloc (.cells #[.int .u8 (w8 x)] t)) (some ⟨w.heap.size, 0, none⟩) [x].length = some (bv [x]) := by
  unfold srcB
  rw [if_neg (by simp)]
  simp only [blk_alloc, if_true]
  rfl
set_option maxRecDepth 100000 in
theorem frame37 (f : Nat → Value) : frameN 37 f = #[f 0, f 1, f 2, f 3, f 4, f 5, f 6, f 7, f 8, f 9, f 10, f 11, f 12, f 13, f 14, f 15, f 16, f 17, f 18, f 19, f 20, f 21, f 22, f 23, f 24, f 25, f 26, f 27, f 28, f 29, f 30, f 31, f 32, f 33, f 34, f 35, f 36] := by kernel_rfl
theorem byte_of32 (n k : Nat) (hk : k < 32) : w8 ((UInt32.ofNat n >>> UInt32.ofNat k).toUInt8) = ((n % 4294967296 / 2 ^ k % 256 : Nat) : Int) := by
  unfold w8
  rw [UInt32.toNat_toUInt8, UInt32.toNat_shiftRight, UInt32.toNat_ofNat', UInt32.toNat_ofNat', Nat.shiftRight_eq_div_pow]
  have : k % 2 ^ 32 % 32 = k := by omega
  rw [this]
theorem be8_0 (B : Nat) : ((B / 72057594037927936 % 256 : Nat) : Int) = w8 ((be8 B).getD 0 0) := by rw [show (be8 B).getD 0 0 = (UInt32.ofNat (B / 4294967296) >>> UInt32.ofNat 24).toUInt8 from rfl, byte_of32 _ _ (by omega)]; omega
theorem be8_1 (B : Nat) : ((B / 281474976710656 % 256 : Nat) : Int) = w8 ((be8 B).getD 1 0) := by rw [show (be8 B).getD 1 0 = (UInt32.ofNat (B / 4294967296) >>> UInt32.ofNat 16).toUInt8 from rfl, byte_of32 _ _ (by omega)]; omega
theorem be8_2 (B : Nat) : ((B / 1099511627776 % 256 : Nat) : Int) = w8 ((be8 B).getD 2 0) := by rw [show (be8 B).getD 2 0 = (UInt32.ofNat (B / 4294967296) >>> UInt32.ofNat 8).toUInt8 from rfl, byte_of32 _ _ (by omega)]; omega
theorem be8_3 (B : Nat) : ((B / 4294967296 % 256 : Nat) : Int) = w8 ((be8 B).getD 3 0) := by
  rw [show (be8 B).getD 3 0 = (UInt32.ofNat (B / 4294967296)).toUInt8 from rfl]; unfold w8; rw [UInt32.toNat_toUInt8, UInt32.toNat_ofNat']; omega
theorem be8_4 (B : Nat) : ((B / 16777216 % 256 : Nat) : Int) = w8 ((be8 B).getD 4 0) := by rw [show (be8 B).getD 4 0 = (UInt32.ofNat B >>> UInt32.ofNat 24).toUInt8 from rfl, byte_of32 _ _ (by omega)]; omega
theorem be8_5 (B : Nat) : ((B / 65536 % 256 : Nat) : Int) = w8 ((be8 B).getD 5 0) := by rw [show (be8 B).getD 5 0 = (UInt32.ofNat B >>> UInt32.ofNat 16).toUInt8 from rfl, byte_of32 _ _ (by omega)]; omega
theorem be8_6 (B : Nat) : ((B / 256 % 256 : Nat) : Int) = w8 ((be8 B).getD 6 0) := by rw [show (be8 B).getD 6 0 = (UInt32.ofNat B >>> UInt32.ofNat 8).toUInt8 from rfl, byte_of32 _ _ (by omega)]; omega
theorem be8_7 (B : Nat) : ((B % 256 : Nat) : Int) = w8 ((be8 B).getD 7 0) := by
  rw [show (be8 B).getD 7 0 = (UInt32.ofNat B).toUInt8 from rfl]; unfold w8; rw [UInt32.toNat_toUInt8, UInt32.toNat_ofNat']; omega
theorem be8_take (B t : Nat) (h : t < 8) : (be8 B).take (t + 1) = (be8 B).take t ++ [(be8 B).getD t 0] := by
  rw [List.take_add_one]
  congr 1
  have : t < (be8 B).length := by rw [length_be8]; exact h
  simp [this]
def padI2 (w : World) (B : Nat) (P : List UInt8) (F : Nat → Value) (W : World) : Prop :=
  F 4 = .int .u64 (B : Nat) ∧ ∃ (t : Nat) (v : Value), t ≤ 8 ∧ F 3 = v ∧ F 5 = .int .i64 (7 - (t : Int)) ∧ OwnB w.heap.size W v (P ++ (be8 B).take t) ∧ Hid (w.Extends W)
def padI1 (w : World) (a : Option Addr) (len cap : Nat) (xs : List UInt8) (F : Nat → Value) (W : World) : Prop :=
  F 0 = .slice a len cap ∧ ∃ (j : Nat) (v : Value), j ≤ zerosOf len ∧ F 3 = v ∧ OwnB w.heap.size W v (xs ++ ([128] ++ List.replicate j 0)) ∧ Hid (w.Extends W)
set_option maxRecDepth 20000 in
set_option maxHeartbeats 2000000 in
theorem pad_any (w : World) (av : Nat) (a : Option Addr) (len cap : Nat) (xs : List UInt8) (hX : BytesAt av w a len cap xs) (hroom : len ≤ 35184372088832) :
    Calls Try.prog 57 #[.slice a len cap] w fun e w' => ∃ v, e = .returned v ∧ OwnB w.heap.size w' v (padM xs) ∧ w.Extends w' := by
  have HX : Hid (BytesAt av w a len cap xs) := hX
  clear hX
  go_enter Try.func57, Try.ntmps57
  have hn := HX.out.1
  have hsrc := HX.out.src (Nat.le_refl len)
  rw [List.take_of_length_le (by omega)] at hsrc
  go_upto_region 3 with (at_builtin; refine wpList_append rfl _ _ rfl w.heap.size (.slice none 0 0) [] xs a len cap rfl rfl hn.symm (OwnB.nil _ _) (by rw [hn]; exact hsrc) (Nat.le_refl _) (by simp; omega) ?_; intro v1 w1 ho1 hg1)
  rw [List.nil_append] at ho1
  have hE1 : w.Extends w1 := (OwnB.nil w.heap.size w).grow (Nat.le_refl _) (ext_Ext (Ext.refl w)) hg1
  have HE1 : Hid (w.Extends w1) := hE1
  clear hg1 hsrc hE1
  go_upto_region 4 with (at_builtin; refine wpList_append rfl _ _ rfl w.heap.size v1 xs [128] (some ⟨w1.heap.size, 0, none⟩) 1 1 rfl rfl rfl (ho1.mono fun k hk => heap_alloc_old _ _ hk) (srcB_new w1 128 5) (by rw [World.size_alloc]; have := HE1.out.size; omega) (by simp; omega) ?_; intro v2 w2 ho2 hg2)
  have HE2 : Hid (w.Extends w2) := (ho1.mono fun k hk => heap_alloc_old _ _ hk).grow (Nat.le_refl _) (extends_alloc HE1.out _) hg2
  clear hg2 ho1 HE1
  refine wp_loop_f 37 (padI1 w a len cap xs) (fun F _ => len + 65 - lenV (F 3)) rfl ?_ ?_
  · exact ⟨rfl, 0, v2, by omega, rfl, ho2, HE2⟩
  clear ho2 HE2
  intro F W hrel
  obtain ⟨h0, j, v, hj, h3, hown, HE⟩ := hrel
  obtain ⟨sp, c, rfl, hlc⟩ := hown.val
  obtain ⟨L, hL⟩ : ∃ L, (xs ++ ([128] ++ List.replicate j (0 : UInt8))).length = L := ⟨_, rfl⟩
  have hLv : L = len + 1 + j := by rw [← hL]; simp; omega
  rw [hL] at h3 hlc
  have HO : Hid (OwnB w.heap.size W (.slice sp L c) (xs ++ ([128] ++ List.replicate j 0))) := by show OwnB _ _ _ _; rw [← hL]; exact hown
  have H3 : Hid (F 3 = .slice sp L c) := h3
  have HLv : Hid (L = len + 1 + j) := hLv
  have hz : zerosOf len ≤ 63 := by unfold zerosOf; omega
  have hLs : L ≤ 35184372089000 := by omega
  clear hown hL hLv
  rw [frame37, h0, h3]
  clear h0 h3
  have r1 : Int.tmod (L : Int) 64 = ((L % 64 : Nat) : Int) := by rw [Int.tmod_eq_emod_of_nonneg (by omega)]; omega
  by_cases hjz : j < zerosOf len
  · have hne : ¬ L % 64 = 56 := by have := HLv.out; unfold zerosOf at hjz; omega
    have hd : ((L : Int) % 64 != 56) = true := by simp; omega
    have hd2 : ¬ (L : Int) % 64 = 56 := by omega
    have hsz : (xs ++ ([128] ++ List.replicate j (0 : UInt8))).length + [(0 : UInt8)].length ≤ 70368744177664 := by simp; omega
    go_wp2_with (at_builtin; refine wpList_append rfl _ _ rfl w.heap.size (.slice sp L c) _ [0] (some ⟨W.heap.size, 0, none⟩) 1 1 rfl rfl rfl (HO.out.mono fun k hk => heap_alloc_old _ _ hk) (srcB_new W 0 5) (by rw [World.size_alloc]; have := HE.out.size; omega) hsz ?_; intro v3 w3 ho3 hg3)
    have HE3 : w.Extends w3 := (HO.out.mono fun k hk => heap_alloc_old _ _ hk).grow (Nat.le_refl _) (extends_alloc HE.out _) hg3
    obtain ⟨sp3, c3, e3, _⟩ := ho3.val
    refine ⟨rfl, rfl, ?_, ?_⟩
    · refine ⟨rfl, j + 1, v3, by omega, rfl, ?_, HE3⟩
      rw [List.replicate_succ', ← List.append_assoc [128], ← List.append_assoc xs]
      exact ho3
    · show len + 65 - lenV v3 < len + 65 - lenV (F 3)
      rw [H3.out, e3]
      show len + 65 - (_ ++ [(0 : UInt8)]).length < len + 65 - L
      have := HLv.out
      simp
      omega
  · have hjj : j = zerosOf len := by omega
    have hd : ((L : Int) % 64 != 56) = false := by have := HLv.out; unfold zerosOf at hjj; simp; omega
    have hd2 : (L : Int) % 64 = 56 := by have := HLv.out; unfold zerosOf at hjj; omega
    obtain ⟨B, hB⟩ : ∃ B, B = 8 * len := ⟨_, rfl⟩
    have b1 : IntKind.u64.wrap ((len : Int) * 8) = (B : Int) := by rw [wrap_u64 _ (by omega) (by omega)]; omega
    have b2 : IntKind.u64.wrap (len : Int) = (len : Int) := wrap_u64 _ (by omega) (by omega)
    have HB : Hid (B = 8 * len) := hB
    have hBs : B ≤ 281474976710656 := by omega
    subst hjj
    clear hB
    go_wp2_with fail
    refine wp_loop_f 37 (padI2 w B (xs ++ ([128] ++ List.replicate (zerosOf len) 0))) (fun F _ => (1 + intOf (F 5)).toNat) rfl ?_ ?_
    · exact ⟨rfl, 0, _, by omega, rfl, rfl, by rw [List.take_zero, List.append_nil]; exact HO.out, HE⟩
    have hPl : (xs ++ ([128] ++ List.replicate (zerosOf len) (0 : UInt8))).length = L := by have := HLv.out; simp; omega
    have HPl : Hid ((xs ++ ([128] ++ List.replicate (zerosOf len) (0 : UInt8))).length = L) := hPl
    clear HO HE H3 hd hd2 hPl b1 b2 hlc
    intro F2 W2 hrel
    obtain ⟨h4, t, v, ht, h3, h5, hown, HE⟩ := hrel
    obtain ⟨sp2, c2, hv, hlc2⟩ := hown.val
    obtain ⟨L2, hL2⟩ : ∃ L2, (xs ++ ([128] ++ List.replicate (zerosOf len) (0 : UInt8)) ++ (be8 B).take t).length = L2 := ⟨_, rfl⟩
    rw [hL2] at hv hlc2
    subst hv
    have HO : Hid (OwnB w.heap.size W2 (.slice sp2 L2 c2) (xs ++ ([128] ++ List.replicate (zerosOf len) 0) ++ (be8 B).take t)) := hown
    have hL2s : L2 ≤ 35184372090000 := by rw [← hL2, List.length_append, HPl.out, List.length_take, length_be8]; omega
    have hsz : (xs ++ ([128] ++ List.replicate (zerosOf len) (0 : UInt8)) ++ (be8 B).take t).length + 1 ≤ 70368744177664 := by omega
    have H5 : Hid (F2 5 = .int .i64 (7 - (t : Int))) := h5
    clear hown hL2
    rw [frame37, h4, h3, h5]
    clear h3 h4
    by_cases ht8 : t < 8
    · have tt : t = 0 ∨ t = 1 ∨ t = 2 ∨ t = 3 ∨ t = 4 ∨ t = 5 ∨ t = 6 ∨ t = 7 := by omega
      obtain ⟨x, hx⟩ : ∃ x, (be8 B).getD t 0 = x := ⟨_, rfl⟩
      have HX8 : Hid ((be8 B).getD t 0 = x) := hx
      clear h5
      rcases tt with rfl | rfl | rfl | rfl | rfl | rfl | rfl | rfl
      · have d0 : IntKind.u8.wrap ((B : Int) / 72057594037927936) = w8 x := by
          rw [IntKind.wrap_u8, ← hx, ← be8_0]; omega
        clear hx
        rw [show (Value.int .i64 (7 - (((0 : Nat)) : Int))) = Value.int .i64 7 from rfl]
        go_wp2_with (at_builtin; refine wpList_append rfl _ _ rfl w.heap.size (.slice sp2 L2 c2) _ [x] (some ⟨W2.heap.size, 0, none⟩) 1 1 rfl rfl rfl (HO.out.mono fun k hk => heap_alloc_old _ _ hk) (srcB_new W2 x 5) (by rw [World.size_alloc]; have := HE.out.size; omega) hsz ?_; intro v3 w3 ho3 hg3)
        have HE3 : w.Extends w3 := (HO.out.mono fun k hk => heap_alloc_old _ _ hk).grow (Nat.le_refl _) (extends_alloc HE.out _) hg3
        refine ⟨rfl, rfl, ?_, ?_⟩
        · refine ⟨rfl, 1, v3, by omega, rfl, rfl, ?_, HE3⟩
          rw [be8_take B 0 (by omega), HX8.out, ← List.append_assoc]
          exact ho3
        · show (1 + intOf (Value.int .i64 _)).toNat < (1 + intOf (F2 5)).toNat
          rw [H5.out]
          decide
      · have d0 : IntKind.u8.wrap ((B : Int) / 281474976710656) = w8 x := by
          rw [IntKind.wrap_u8, ← hx, ← be8_1]; omega
        clear hx
        rw [show (Value.int .i64 (7 - (((1 : Nat)) : Int))) = Value.int .i64 6 from rfl]
        go_wp2_with (at_builtin; refine wpList_append rfl _ _ rfl w.heap.size (.slice sp2 L2 c2) _ [x] (some ⟨W2.heap.size, 0, none⟩) 1 1 rfl rfl rfl (HO.out.mono fun k hk => heap_alloc_old _ _ hk) (srcB_new W2 x 5) (by rw [World.size_alloc]; have := HE.out.size; omega) hsz ?_; intro v3 w3 ho3 hg3)
        have HE3 : w.Extends w3 := (HO.out.mono fun k hk => heap_alloc_old _ _ hk).grow (Nat.le_refl _) (extends_alloc HE.out _) hg3
        refine ⟨rfl, rfl, ?_, ?_⟩
        · refine ⟨rfl, 2, v3, by omega, rfl, rfl, ?_, HE3⟩
          rw [be8_take B 1 (by omega), HX8.out, ← List.append_assoc]
          exact ho3
        · show (1 + intOf (Value.int .i64 _)).toNat < (1 + intOf (F2 5)).toNat
          rw [H5.out]
          decide
      · have d0 : IntKind.u8.wrap ((B : Int) / 1099511627776) = w8 x := by
          rw [IntKind.wrap_u8, ← hx, ← be8_2]; omega
        clear hx
        rw [show (Value.int .i64 (7 - (((2 : Nat)) : Int))) = Value.int .i64 5 from rfl]
        go_wp2_with (at_builtin; refine wpList_append rfl _ _ rfl w.heap.size (.slice sp2 L2 c2) _ [x] (some ⟨W2.heap.size, 0, none⟩) 1 1 rfl rfl rfl (HO.out.mono fun k hk => heap_alloc_old _ _ hk) (srcB_new W2 x 5) (by rw [World.size_alloc]; have := HE.out.size; omega) hsz ?_; intro v3 w3 ho3 hg3)
        have HE3 : w.Extends w3 := (HO.out.mono fun k hk => heap_alloc_old _ _ hk).grow (Nat.le_refl _) (extends_alloc HE.out _) hg3
        refine ⟨rfl, rfl, ?_, ?_⟩
        · refine ⟨rfl, 3, v3, by omega, rfl, rfl, ?_, HE3⟩
          rw [be8_take B 2 (by omega), HX8.out, ← List.append_assoc]
          exact ho3
        · show (1 + intOf (Value.int .i64 _)).toNat < (1 + intOf (F2 5)).toNat
          rw [H5.out]
          decide
      · have d0 : IntKind.u8.wrap ((B : Int) / 4294967296) = w8 x := by
          rw [IntKind.wrap_u8, ← hx, ← be8_3]; omega
        clear hx
        rw [show (Value.int .i64 (7 - (((3 : Nat)) : Int))) = Value.int .i64 4 from rfl]
        go_wp2_with (at_builtin; refine wpList_append rfl _ _ rfl w.heap.size (.slice sp2 L2 c2) _ [x] (some ⟨W2.heap.size, 0, none⟩) 1 1 rfl rfl rfl (HO.out.mono fun k hk => heap_alloc_old _ _ hk) (srcB_new W2 x 5) (by rw [World.size_alloc]; have := HE.out.size; omega) hsz ?_; intro v3 w3 ho3 hg3)
        have HE3 : w.Extends w3 := (HO.out.mono fun k hk => heap_alloc_old _ _ hk).grow (Nat.le_refl _) (extends_alloc HE.out _) hg3
        refine ⟨rfl, rfl, ?_, ?_⟩
        · refine ⟨rfl, 4, v3, by omega, rfl, rfl, ?_, HE3⟩
          rw [be8_take B 3 (by omega), HX8.out, ← List.append_assoc]
          exact ho3
        · show (1 + intOf (Value.int .i64 _)).toNat < (1 + intOf (F2 5)).toNat
          rw [H5.out]
          decide
      · have d0 : IntKind.u8.wrap ((B : Int) / 16777216) = w8 x := by
          rw [IntKind.wrap_u8, ← hx, ← be8_4]; omega
        clear hx
        rw [show (Value.int .i64 (7 - (((4 : Nat)) : Int))) = Value.int .i64 3 from rfl]
        go_wp2_with (at_builtin; refine wpList_append rfl _ _ rfl w.heap.size (.slice sp2 L2 c2) _ [x] (some ⟨W2.heap.size, 0, none⟩) 1 1 rfl rfl rfl (HO.out.mono fun k hk => heap_alloc_old _ _ hk) (srcB_new W2 x 5) (by rw [World.size_alloc]; have := HE.out.size; omega) hsz ?_; intro v3 w3 ho3 hg3)
        have HE3 : w.Extends w3 := (HO.out.mono fun k hk => heap_alloc_old _ _ hk).grow (Nat.le_refl _) (extends_alloc HE.out _) hg3
        refine ⟨rfl, rfl, ?_, ?_⟩
        · refine ⟨rfl, 5, v3, by omega, rfl, rfl, ?_, HE3⟩
          rw [be8_take B 4 (by omega), HX8.out, ← List.append_assoc]
          exact ho3
        · show (1 + intOf (Value.int .i64 _)).toNat < (1 + intOf (F2 5)).toNat
          rw [H5.out]
          decide
      · have d0 : IntKind.u8.wrap ((B : Int) / 65536) = w8 x := by
          rw [IntKind.wrap_u8, ← hx, ← be8_5]; omega
        clear hx
        rw [show (Value.int .i64 (7 - (((5 : Nat)) : Int))) = Value.int .i64 2 from rfl]
        go_wp2_with (at_builtin; refine wpList_append rfl _ _ rfl w.heap.size (.slice sp2 L2 c2) _ [x] (some ⟨W2.heap.size, 0, none⟩) 1 1 rfl rfl rfl (HO.out.mono fun k hk => heap_alloc_old _ _ hk) (srcB_new W2 x 5) (by rw [World.size_alloc]; have := HE.out.size; omega) hsz ?_; intro v3 w3 ho3 hg3)
        have HE3 : w.Extends w3 := (HO.out.mono fun k hk => heap_alloc_old _ _ hk).grow (Nat.le_refl _) (extends_alloc HE.out _) hg3
        refine ⟨rfl, rfl, ?_, ?_⟩
        · refine ⟨rfl, 6, v3, by omega, rfl, rfl, ?_, HE3⟩
          rw [be8_take B 5 (by omega), HX8.out, ← List.append_assoc]
          exact ho3
        · show (1 + intOf (Value.int .i64 _)).toNat < (1 + intOf (F2 5)).toNat
          rw [H5.out]
          decide
      · have d0 : IntKind.u8.wrap ((B : Int) / 256) = w8 x := by
          rw [IntKind.wrap_u8, ← hx, ← be8_6]; omega
        clear hx
        rw [show (Value.int .i64 (7 - (((6 : Nat)) : Int))) = Value.int .i64 1 from rfl]
        go_wp2_with (at_builtin; refine wpList_append rfl _ _ rfl w.heap.size (.slice sp2 L2 c2) _ [x] (some ⟨W2.heap.size, 0, none⟩) 1 1 rfl rfl rfl (HO.out.mono fun k hk => heap_alloc_old _ _ hk) (srcB_new W2 x 5) (by rw [World.size_alloc]; have := HE.out.size; omega) hsz ?_; intro v3 w3 ho3 hg3)
        have HE3 : w.Extends w3 := (HO.out.mono fun k hk => heap_alloc_old _ _ hk).grow (Nat.le_refl _) (extends_alloc HE.out _) hg3
        refine ⟨rfl, rfl, ?_, ?_⟩
        · refine ⟨rfl, 7, v3, by omega, rfl, rfl, ?_, HE3⟩
          rw [be8_take B 6 (by omega), HX8.out, ← List.append_assoc]
          exact ho3
        · show (1 + intOf (Value.int .i64 _)).toNat < (1 + intOf (F2 5)).toNat
          rw [H5.out]
          decide
      · have d0 : IntKind.u8.wrap ((B : Int)) = w8 x := by
          rw [IntKind.wrap_u8, ← hx, ← be8_7]; omega
        clear hx
        rw [show (Value.int .i64 (7 - (((7 : Nat)) : Int))) = Value.int .i64 0 from rfl]
        go_wp2_with (at_builtin; refine wpList_append rfl _ _ rfl w.heap.size (.slice sp2 L2 c2) _ [x] (some ⟨W2.heap.size, 0, none⟩) 1 1 rfl rfl rfl (HO.out.mono fun k hk => heap_alloc_old _ _ hk) (srcB_new W2 x 5) (by rw [World.size_alloc]; have := HE.out.size; omega) hsz ?_; intro v3 w3 ho3 hg3)
        have HE3 : w.Extends w3 := (HO.out.mono fun k hk => heap_alloc_old _ _ hk).grow (Nat.le_refl _) (extends_alloc HE.out _) hg3
        refine ⟨rfl, rfl, ?_, ?_⟩
        · refine ⟨rfl, 8, v3, by omega, rfl, rfl, ?_, HE3⟩
          rw [be8_take B 7 (by omega), HX8.out, ← List.append_assoc]
          exact ho3
        · show (1 + intOf (Value.int .i64 _)).toNat < (1 + intOf (F2 5)).toNat
          rw [H5.out]
          decide
    · obtain rfl : t = 8 := by omega
      rw [show (Value.int .i64 (7 - (((8 : Nat)) : Int))) = Value.int .i64 (-1) from rfl]
      go_wp2_with fail
      go_ret
      refine ⟨_, rfl, ?_, HE.out⟩
      have e1 : padM xs = xs ++ ([128] ++ List.replicate (zerosOf len) 0) ++ (be8 B).take 8 := by
        rw [List.take_of_length_le (by rw [length_be8]; exact Nat.le_refl 8), padM, hn, HB.out]
        simp
      rw [e1]
      exact HO.out
end Go.Proofs.Qxb6500785a
