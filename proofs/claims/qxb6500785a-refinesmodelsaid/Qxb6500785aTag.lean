import Derived.Test.Qxb6500785aEmpty
import Derived.Test.Qxb6500785aOpen
import Derived.Laws.MakeOwn
import Derived.Test.Qxb6500785aKnown
import Derived.Deep.RegionHeld
import Derived.Deep.CutRange
import Derived.Laws.ResultCell
import Derived.Laws.Rows
set_option linter.unusedSimpArgs false
set_option linter.unusedVariables false
namespace Go.Proofs.Qxb6500785a
open Go.RowKit Go.Blk
attribute [local go_sem ↓] execOp_load execOp_store execOp_alloc
attribute [local go_sem] Try.ld24 Try.st24 Try.ld5 Try.st5 Try.ld3 Try.st3 Try.ld27 Try.st27 Try.ld32 Try.st32 Try.ld33 Try.st33 Try.ld4 Try.st4 Try.ld41 Try.st41 Try.ld40 Try.st40 Try.ld42 Try.st42 Try.ld47 Try.st47 Try.ld48 Try.st48 Try.ld57 Try.st57 Try.ld58 Try.st58 Try.ld2 Try.st2 Try.ld9 Try.st9 Try.ld12 Try.st12 Try.ld21 Try.st21 Try.ld22 Try.st22 Try.ld46 Try.st46 Try.ld83 Try.st83 Try.ld95 Try.st95 Try.ld99 Try.st99 Try.ld106 Try.st106 Try.ld108 Try.st108 Try.ld134 Try.st134 Try.ld25 Try.st25 Try.ld26 Try.st26 Try.ld34 Try.st34 Try.ld31 Try.st31 Try.ld30 Try.st30 Try.ld74 Try.st74 Try.ld96 Try.st96 Try.ld101 Try.st101 Try.ld115 Try.st115 Try.ld116 Try.st116 Try.ld120 Try.st120 Try.ld121 Try.st121 Try.ld122 Try.st122 Try.ld29 Try.st29 Try.ld36 Try.st36 Try.ld38 Try.st38 Try.ld44 Try.st44 Try.ld50 Try.st50 Try.ld60 Try.st60 Try.ld110 Try.st110 Try.al25 Try.al26 Try.al34 Try.al31 Try.al30 Try.al74 Try.al96 Try.al101 Try.al115 Try.al116 Try.al120 Try.al121 Try.al122 Try.al29 Try.al36 Try.al38 Try.al44 Try.al50 Try.al60 Try.al110
attribute [local go_sem] Hasher.length_enc Hasher.ok_enc Hasher.all_get Hasher.all_set Hasher.state_get Hasher.state_set Hasher.block_get Hasher.block_set Hasher.fill_get Hasher.fill_set Hasher.length_get Hasher.length_set GLog.length_enc GLog.ok_enc GLog.all_get GLog.all_set GLog.entries_get GLog.entries_set GLog.shelves_get GLog.shelves_set GLog.first_get GLog.first_set GLog.second_get GLog.second_set GLog.found_get GLog.found_set Player.length_enc Player.ok_enc Player.all_get Player.all_set Player.hand_get Player.hand_set Player.aside_get Player.aside_set Player.prev_get Player.prev_set Player.last_get Player.last_set Player.log_get Player.log_set Player.hand_state_get Player.hand_state_set Player.hand_block_get Player.hand_block_set Player.hand_fill_get Player.hand_fill_set Player.hand_length_get Player.hand_length_set Player.aside_state_get Player.aside_state_set Player.aside_block_get Player.aside_block_set Player.aside_fill_get Player.aside_fill_set Player.aside_length_get Player.aside_length_set Player.log_entries_get Player.log_entries_set Player.log_shelves_get Player.log_shelves_set Player.log_first_get Player.log_first_set Player.log_second_get Player.log_second_set Player.log_found_get Player.log_found_set GOp.length_enc GOp.ok_enc GOp.all_get GOp.all_set GOp.kind_get GOp.kind_set GOp.data_get GOp.data_set GOp.cut_get GOp.cut_set GOp.n_get GOp.n_set GOp.b_get GOp.b_set GOp.v_get GOp.v_set GOp.dom_get GOp.dom_set GOp.sum_get GOp.sum_set Answer.length_enc Answer.ok_enc Answer.all_get Answer.all_set Answer.code_get Answer.code_set Answer.sum_get Answer.sum_set Answer.len_get Answer.len_set Answer.mark_get Answer.mark_set Answer.noted_get Answer.noted_set Answer.collided_get Answer.collided_set GState.length_enc GState.ok_enc GState.all_get GState.all_set GState.hand_get GState.hand_set GState.aside_get GState.aside_set GState.prev_get GState.prev_set GState.last_get GState.last_set GState.inputs_get GState.inputs_set GState.sums_get GState.sums_set GState.collided_get GState.collided_set GState.older_get GState.older_set GState.younger_get GState.younger_set Noted.length_enc Noted.ok_enc Noted.all_get Noted.all_set Noted.input_get Noted.input_set Noted.sum_get Noted.sum_set
attribute [local go_sem] size_put size_ext blk_put free_put blk_alloc free_alloc blk_drew free_drew blk_ext free_ext lookOr_some putOr_some segAt_some cellAt_some storeIn_some put_put put_alloc_new length_arr ok_arr_u8 ok_arr_u32 ok_arr_u64 ok_arr_i64 ok_arr_sl cellsV_agg cellsV_int cellsV_bool cellsV_string cellsV_pointer cellsV_slice cellsV_sl ok_int ok_bool ok_string ok_pointer ok_slice ok_sl toList_arr seg_arr set_arr nth_splice nth_splice0 seg_splice seg_splice0 splice_splice splice_splice0 length_splice_if
attribute [local go_sem] w32_and w32_or w32_xor w32_add w32_or8 w32_not w8_and w8_or w8_xor w32_shr2 w32_shl2 w32_shr3 w32_shl3 w32_shr6 w32_shl6 w32_shr7 w32_shl7 w32_shr8 w32_shl8 w32_shr10 w32_shl10 w32_shr11 w32_shl11 w32_shr13 w32_shl13 w32_shr14 w32_shl14 w32_shr15 w32_shl15 w32_shr16 w32_shl16 w32_shr17 w32_shl17 w32_shr18 w32_shl18 w32_shr19 w32_shl19 w32_shr21 w32_shl21 w32_shr22 w32_shl22 w32_shr24 w32_shl24 w32_shr25 w32_shl25 w32_shr26 w32_shl26 w32_shr30 w32_shl30 w8_shl24 w8_shl16 w8_shl8 v32_add v32_byte w32_byte0 v8_shl24 v8_shl16 v8_shl8 v32_shr2 v32_shl2 v32_shr3 v32_shl3 v32_shr6 v32_shl6 v32_shr7 v32_shl7 v32_shr8 v32_shl8 v32_shr10 v32_shl10 v32_shr11 v32_shl11 v32_shr13 v32_shl13 v32_shr14 v32_shl14 v32_shr15 v32_shl15 v32_shr16 v32_shl16 v32_shr17 v32_shl17 v32_shr18 v32_shl18 v32_shr19 v32_shl19 v32_shr21 v32_shl21 v32_shr22 v32_shl22 v32_shr24 v32_shl24 v32_shr25 v32_shl25 v32_shr26 v32_shl26 v32_shr30 v32_shl30
attribute [local go_sem ↓] execOp_build
attribute [local go_sem] run_build_kv run_build_iv nth_arr_u32 put_arr_u32 nth_arr_u8 put_arr_u8 v32_of8 blk_drewN free_drewN put_drewN put_drew blk_raw free_raw
attribute [local go_sem ↓] execOp_slice execOp_copy
attribute [local go_sem] Try.sl40lo Try.sl40hi Try.sl26lo Try.sl26hi Try.sl26 Try.sl96lo Try.sl96hi Try.sl96 Try.sl31lo Try.sl31 Try.sl120 Try.sl121 Try.sl121lo Try.sl121hi Try.cp40 copyOr_some copyIn_some srcB_drew srcB_drewN srcB_raw length_bv one_bv
attribute [local go_sem] Hasher.length_zero
attribute [local go_sem] Try.cpv copyOrV_some
attribute [local go_sem ↓] execOp_index execOp_convert execOp_box execOp_convert9
attribute [local go_sem] index_hex box_run conv_bytes eq31
attribute [local go_sem] build31
def makeOp (t : TypeId) (l c : Value) : Sem Next := do pure (.value (← Instr.makeSlice t l c))
theorem execOp_make (a : Act) (dst : Option Tmp) (t : TypeId) (l c : Operand) (ty : TypeId) (pos : String) (after : Array Edge) (guard : Option (Nat × Bool)) :
    execOp a.eval { dst, op := .makeSlice t l c, type := ty, pos, after, guard } = makeOp t (a.eval l) (a.eval c) := rfl
def zerosA (c : Nat) : Array Value := (bv (List.replicate c 0)).toArray
theorem made_zeros (c : Nat) : madeCells (Value.int .u8 0).cells c = zerosA c := by
  apply Array.ext
  · simp [madeCells, zerosA, length_bv]
  · intro i h1 h2
    simp [madeCells, zerosA, bv, Value.cells]
    rw [Nat.mod_one]
    rfl
theorem make40 (w : World) (l c : Nat) (h : l ≤ c) (hc : c ≤ 281474976710656) : (makeOp 40 (.int .i64 (l : Int)) (.int .i64 (c : Int))).run Try.prog w = .ok (.value (.slice (some ⟨w.heap.size, 0, none⟩) l c)) (w.alloc (.cells (zerosA c) 5)) := by
  obtain ⟨i, hi, hz, hsz, hby⟩ : ∃ i, Try.prog.info? 5 = some i ∧ i.zero = some (.int .u8 0) ∧ i.size = 1 ∧ i.bytes = 1 := by
    have hq : (Try.prog.info? 5).map (fun i => (i.zero, i.size, i.bytes)) = some (some (.int .u8 0), 1, 1) := by kernel_rfl
    cases hx : Try.prog.info? 5 with
    | none => rw [hx] at hq; simp at hq
    | some i =>
      rw [hx] at hq
      simp only [Option.map_some, Option.some.injEq, Prod.mk.injEq] at hq
      exact ⟨i, rfl, hq.1, hq.2.1, hq.2.2⟩
  have hr := run_make (P := Try.prog) w 40 5 i _ Try.underlying40 hi hz .i64 .i64 (l : Int) (c : Int) (by omega) (by omega) (by rw [hby]; omega) (by omega)
  unfold makeOp
  rw [Sem.run_bind, hr, hsz, Int.toNat_natCast, Int.toNat_natCast, Nat.mul_one, made_zeros]
  rfl
theorem made_own (w : World) (c base : Nat) (hb : base ≤ w.heap.size) (hc : c ≤ 281474976710656) : OwnB base (w.alloc (.cells (zerosA c) 5)) (.slice (some ⟨w.heap.size, 0, none⟩) 0 c) [] := by
  refine ⟨rfl, .inr ⟨w.heap.size, c, zerosA c, rfl, hb, ?_, Nat.zero_le _, by simp only [maxLen]; omega, ?_, rfl⟩⟩
  · rw [heap_alloc, if_pos rfl]
  · simp [zerosA, length_bv]
attribute [local go_sem ↓] execOp_make
set_option maxRecDepth 20000 in
set_option maxHeartbeats 2000000 in
theorem taggedInput_any (w : World) (av : Nat) (x : UInt8) (a : Option Addr) (len cap : Nat) (xs : List UInt8) (hX : BytesAt av w a len cap xs) (hroom : len ≤ 1000000000) :
    Calls Try.prog 28 #[.int .u8 (w8 x), .slice a len cap] w fun e w' => ∃ v, e = .returned v ∧ OwnB w.heap.size w' v (x :: xs) ∧ w.Extends w' := by
  have HX : Hid (BytesAt av w a len cap xs) := hX
  clear hX
  have hn := HX.out.1
  obtain ⟨c, hc⟩ : ∃ c, c = len + 1 := ⟨_, rfl⟩
  have e1 : IntKind.i64.wrap (1 + (len : Int)) = (c : Int) := by rw [wraps_i64 _ (by omega) (by omega)]; omega
  have m1 := fun w : World => make40 w 0 c (by omega) (by omega)
  simp only [Int.natCast_zero] at m1
  have HC : Hid (c = len + 1) := hc
  clear hc
  go_enter Try.func28, Try.ntmps28
  go_upto_region 2 with fail
  have ho0 := made_own w c w.heap.size (Nat.le_refl _) (by have := HC.out; omega)
  refine wp_world (fun W => OwnB w.heap.size W (.slice (some ⟨w.heap.size, 0, none⟩) 0 c) [] ∧ Hid (w.Extends W)) ⟨ho0, extends_alloc (ext_Ext (Ext.refl w)) _⟩ ?_
  clear ho0 m1
  rintro W ⟨ho0, HE0⟩
  go_upto_region 3 with (at_builtin; refine wpList_append rfl _ _ rfl w.heap.size (.slice (some ⟨w.heap.size, 0, none⟩) 0 c) [] [x] (some ⟨W.heap.size, 0, none⟩) 1 1 rfl rfl rfl (ho0.mono fun k hk => heap_alloc_old _ _ hk) (srcB_new W x 5) (by rw [World.size_alloc]; have := HE0.out.size; omega) (by simp) ?_; intro v1 w1 ho1 hg1)
  rw [List.nil_append] at ho1
  have HE1 : Hid (w.Extends w1) := (ho0.mono fun k hk => heap_alloc_old _ _ hk).grow (Nat.le_refl _) (extends_alloc HE0.out _) hg1
  clear hg1 ho0 HE0
  have hX1 : BytesAt w1.heap.size w1 a len cap xs := HX.out.at_new (fun b hb => HE1.out.blk hb) HE1.out.size
  have hsrc := hX1.src (Nat.le_refl len)
  rw [List.take_of_length_le (by omega)] at hsrc
  clear hX1
  go_wp2_with (at_builtin; refine wpList_append rfl _ _ rfl w.heap.size v1 [x] xs a len cap rfl rfl hn.symm ho1 (by rw [hn]; exact hsrc) HE1.out.size (by simp; omega) ?_; intro v2 w2 ho2 hg2)
  have HE2 : Hid (w.Extends w2) := ho1.grow (Nat.le_refl _) HE1.out hg2
  have HO2 : Hid (OwnB w.heap.size w2 v2 (x :: xs)) := ho2
  clear hg2 ho1 HE1 hsrc ho2
  go_wp2_with fail
  go_ret
  exact ⟨v2, rfl, HO2.out, HE2.out⟩
set_option maxRecDepth 100000 in
theorem frame26 (f : Nat → Value) : frameN 26 f = #[f 0, f 1, f 2, f 3, f 4, f 5, f 6, f 7, f 8, f 9, f 10, f 11, f 12, f 13, f 14, f 15, f 16, f 17, f 18, f 19, f 20, f 21, f 22, f 23, f 24, f 25] := by kernel_rfl
def smI (w : World) (a b : Option Addr) (len ca cb : Nat) (xs ys : List UInt8) (f : Nat → Value) (W : World) : Prop :=
  f 0 = .slice a len ca ∧ f 1 = .slice b len cb ∧ f 12 = .int .i64 (len : Nat) ∧ ∃ i : Nat, i ≤ len ∧ f 13 = .int .i64 (i : Nat) ∧ xs.take i = ys.take i ∧ ∃ n, W = w.drewN n
theorem take_next (xs ys : List UInt8) (i : Nat) (h : xs.take i = ys.take i) (hx : i < xs.length) (hy : i < ys.length) (e : xs.getD i 0 = ys.getD i 0) : xs.take (i + 1) = ys.take (i + 1) := by
  rw [List.take_add_one, List.take_add_one, h]
  congr 1
  simp [hx, hy] at e
  simp [hx, hy, e]
set_option maxRecDepth 20000 in
set_option maxHeartbeats 2000000 in
theorem same_any (w : World) (av av' : Nat) (a b : Option Addr) (la lb ca cb : Nat) (xs ys : List UInt8) (hX : BytesAt av w a la ca xs) (hY : BytesAt av' w b lb cb ys) :
    Calls Try.prog 22 #[.slice a la ca, .slice b lb cb] w fun e w' => e = .returned (.bool (decide (xs = ys))) ∧ ∃ n, w' = w.drewN n := by
  have HX : Hid (BytesAt av w a la ca xs) := hX
  have HY : Hid (BytesAt av' w b lb cb ys) := hY
  have hx := hX.1
  have hy := hY.1
  have hs : la < 4611686018427387904 := hX.2.2.1.1
  have hs' : lb < 4611686018427387904 := hY.2.2.1.1
  clear hX hY
  by_cases hll : la = lb
  · subst hll
    go_enter Try.func22, Try.ntmps22
    go_wp2_with fail
    refine wp_loop_f 26 (smI w a b la ca cb xs ys) (fun f _ => la - (intOf (f 13)).toNat) rfl ?_ ?_
    · exact ⟨rfl, rfl, rfl, 0, by omega, rfl, rfl, 0, rfl⟩
    intro F W hrel
    obtain ⟨h0, h1, h12, i, hi, h13, ht, n, rfl⟩ := hrel
    have H13 : Hid (F 13 = .int .i64 (i : Nat)) := h13
    have HT : Hid (xs.take i = ys.take i) := ht
    rw [frame26, h0, h1, h12, h13]
    clear h0 h1 h12 h13 ht
    by_cases hil : i < la
    · obtain ⟨bp, op, rfl, _, _, hcx⟩ := HX.out.cell (j := 0) (by omega)
      obtain ⟨bq, oq, rfl, _, _, hcy⟩ := HY.out.cell (j := 0) (by omega)
      have g1 := hcx i hil
      have g2 := hcy i hil
      obtain ⟨u, hu⟩ : ∃ u, xs.getD i 0 = u := ⟨_, rfl⟩
      obtain ⟨v, hv⟩ : ∃ v, ys.getD i 0 = v := ⟨_, rfl⟩
      rw [hu] at g1
      rw [hv] at g2
      have HU : Hid (xs.getD i 0 = u) := hu
      have HV : Hid (ys.getD i 0 = v) := hv
      clear hcx hcy hu hv
      have q0 : (0 : Int) ≤ (i : Int) := by omega
      have q1 : (i : Int) < (la : Int) := by omega
      have q2 : ((i : Int)).toNat = i := by omega
      by_cases huv : u = v
      · subst huv
        go_wp2_with fail
        go_quiet (fail)
        go_wp2_with fail
        refine ⟨rfl, rfl, ?_, ?_⟩
        · refine ⟨rfl, rfl, rfl, i + 1, by omega, ?_, take_next xs ys i HT.out (by omega) (by omega) (HU.out.trans HV.out.symm), n + nq, ?_⟩
          · show Value.int .i64 _ = _
            go_num
          · simp [World.drewN, Nat.add_assoc]
        · show la - (intOf (Value.int .i64 _)).toNat < la - (intOf (F 13)).toNat
          rw [H13.out]
          simp [intOf]; omega
      · have hne : ¬ w8 u = w8 v := fun h => huv (by unfold w8 at h; exact UInt8.toNat_inj.1 (by omega))
        go_wp2_with fail
        go_quiet (fail)
        go_wp2_with fail
        go_ret
        refine ⟨?_, n + nq, by simp [World.drewN, Nat.add_assoc]⟩
        have : ¬ xs = ys := by
          rintro rfl
          exact huv (HU.out.symm.trans HV.out)
        simp [this]
    · obtain rfl : i = la := by omega
      go_wp2_with fail
      go_ret
      refine ⟨?_, n, rfl⟩
      have := HT.out
      rw [List.take_of_length_le (by omega), List.take_of_length_le (by omega)] at this
      simp [this]
  · have hne : ¬ ((la : Int) = (lb : Int)) := by omega
    have hxy : ¬ xs = ys := fun h => hll (by rw [← hx, ← hy, h])
    go_enter Try.func22, Try.ntmps22
    go_wp2_with fail
    go_ret
    exact ⟨by simp [hxy], 0, rfl⟩
end Go.Proofs.Qxb6500785a
