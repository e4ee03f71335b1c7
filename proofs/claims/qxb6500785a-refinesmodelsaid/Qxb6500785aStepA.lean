import Derived.Test.Qxb6500785aPlay
import Derived.Test.Qxb6500785aKnown
import Derived.Deep.RegionHeld
import Derived.Deep.CutRange
import Derived.Laws.ResultCell
import Derived.Laws.Rows
set_option linter.unusedSimpArgs false
set_option linter.unusedVariables false
namespace Go.Proofs.Qxb6500785a
open Go.RowKit Go.Blk
attribute [local go_sem ↓] execOp_load execOp_store execOp_alloc
attribute [local go_sem] Try.ld24 Try.st24 Try.ld5 Try.st5 Try.ld3 Try.st3 Try.ld27 Try.st27 Try.ld32 Try.st32 Try.ld33 Try.st33 Try.ld4 Try.st4 Try.ld41 Try.st41 Try.ld40 Try.st40 Try.ld42 Try.st42 Try.ld47 Try.st47 Try.ld48 Try.st48 Try.ld57 Try.st57 Try.ld58 Try.st58 Try.ld2 Try.st2 Try.ld9 Try.st9 Try.ld12 Try.st12 Try.ld21 Try.st21 Try.ld22 Try.st22 Try.ld46 Try.st46 Try.ld83 Try.st83 Try.ld95 Try.st95 Try.ld99 Try.st99 Try.ld106 Try.st106 Try.ld108 Try.st108 Try.ld134 Try.st134 Try.ld25 Try.st25 Try.ld26 Try.st26 Try.ld34 Try.st34 Try.ld31 Try.st31 Try.ld30 Try.st30 Try.ld74 Try.st74 Try.ld96 Try.st96 Try.ld101 Try.st101 Try.ld115 Try.st115 Try.ld116 Try.st116 Try.ld120 Try.st120 Try.ld121 Try.st121 Try.ld122 Try.st122 Try.ld29 Try.st29 Try.ld36 Try.st36 Try.ld38 Try.st38 Try.ld44 Try.st44 Try.ld50 Try.st50 Try.ld60 Try.st60 Try.ld110 Try.st110 Try.al25 Try.al26 Try.al34 Try.al31 Try.al30 Try.al74 Try.al96 Try.al101 Try.al115 Try.al116 Try.al120 Try.al121 Try.al122 Try.al29 Try.al36 Try.al38 Try.al44 Try.al50 Try.al60 Try.al110
attribute [local go_sem] Hasher.length_enc Hasher.ok_enc Hasher.all_get Hasher.all_set Hasher.state_get Hasher.state_set Hasher.block_get Hasher.block_set Hasher.fill_get Hasher.fill_set Hasher.length_get Hasher.length_set GLog.length_enc GLog.ok_enc GLog.all_get GLog.all_set GLog.entries_get GLog.entries_set GLog.shelves_get GLog.shelves_set GLog.first_get GLog.first_set GLog.second_get GLog.second_set GLog.found_get GLog.found_set Player.length_enc Player.ok_enc Player.all_get Player.all_set Player.hand_get Player.hand_set Player.aside_get Player.aside_set Player.prev_get Player.prev_set Player.last_get Player.last_set Player.log_get Player.log_set Player.hand_state_get Player.hand_state_set Player.hand_block_get Player.hand_block_set Player.hand_fill_get Player.hand_fill_set Player.hand_length_get Player.hand_length_set Player.aside_state_get Player.aside_state_set Player.aside_block_get Player.aside_block_set Player.aside_fill_get Player.aside_fill_set Player.aside_length_get Player.aside_length_set Player.log_entries_get Player.log_entries_set Player.log_shelves_get Player.log_shelves_set Player.log_first_get Player.log_first_set Player.log_second_get Player.log_second_set Player.log_found_get Player.log_found_set GOp.length_enc GOp.ok_enc GOp.all_get GOp.all_set GOp.kind_get GOp.kind_set GOp.data_get GOp.data_set GOp.cut_get GOp.cut_set GOp.n_get GOp.n_set GOp.b_get GOp.b_set GOp.v_get GOp.v_set GOp.dom_get GOp.dom_set GOp.sum_get GOp.sum_set Answer.length_enc Answer.ok_enc Answer.all_get Answer.all_set Answer.code_get Answer.code_set Answer.sum_get Answer.sum_set Answer.len_get Answer.len_set Answer.mark_get Answer.mark_set Answer.noted_get Answer.noted_set Answer.collided_get Answer.collided_set GState.length_enc GState.ok_enc GState.all_get GState.all_set GState.hand_get GState.hand_set GState.aside_get GState.aside_set GState.prev_get GState.prev_set GState.last_get GState.last_set GState.inputs_get GState.inputs_set GState.sums_get GState.sums_set GState.collided_get GState.collided_set GState.older_get GState.older_set GState.younger_get GState.younger_set Noted.length_enc Noted.ok_enc Noted.all_get Noted.all_set Noted.input_get Noted.input_set Noted.sum_get Noted.sum_set
attribute [local go_sem] size_put size_ext blk_put free_put blk_alloc free_alloc blk_drew free_drew blk_ext free_ext lookOr_some putOr_some segAt_some cellAt_some storeIn_some put_put put_alloc_new length_arr ok_arr_u8 ok_arr_u32 ok_arr_u64 ok_arr_i64 ok_arr_sl cellsV_agg cellsV_int cellsV_bool cellsV_string cellsV_pointer cellsV_slice cellsV_sl ok_int ok_bool ok_string ok_pointer ok_slice ok_sl toList_arr seg_arr set_arr nth_splice nth_splice0 seg_splice seg_splice0 splice_splice splice_splice0 length_splice_if
attribute [local go_sem] w32_and w32_or w32_xor w32_add w32_or8 w32_not w8_and w8_or w8_xor w32_shr2 w32_shl2 w32_shr3 w32_shl3 w32_shr6 w32_shl6 w32_shr7 w32_shl7 w32_shr8 w32_shl8 w32_shr10 w32_shl10 w32_shr11 w32_shl11 w32_shr13 w32_shl13 w32_shr14 w32_shl14 w32_shr15 w32_shl15 w32_shr16 w32_shl16 w32_shr17 w32_shl17 w32_shr18 w32_shl18 w32_shr19 w32_shl19 w32_shr21 w32_shl21 w32_shr22 w32_shl22 w32_shr24 w32_shl24 w32_shr25 w32_shl25 w32_shr26 w32_shl26 w32_shr30 w32_shl30 w8_shl24 w8_shl16 w8_shl8 v32_add v32_byte w32_byte0 v8_shl24 v8_shl16 v8_shl8 v32_shr2 v32_shl2 v32_shr3 v32_shl3 v32_shr6 v32_shl6 v32_shr7 v32_shl7 v32_shr8 v32_shl8 v32_shr10 v32_shl10 v32_shr11 v32_shl11 v32_shr13 v32_shl13 v32_shr14 v32_shl14 v32_shr15 v32_shl15 v32_shr16 v32_shl16 v32_shr17 v32_shl17 v32_shr18 v32_shl18 v32_shr19 v32_shl19 v32_shr21 v32_shl21 v32_shr22 v32_shl22 v32_shr24 v32_shl24 v32_shr25 v32_shl25 v32_shr26 v32_shl26 v32_shr30 v32_shl30
attribute [local go_sem ↓] execOp_build
attribute [local go_sem] run_build_kv run_build_iv nth_arr_u32 put_arr_u32 nth_arr_u8 put_arr_u8 v32_of8 blk_drewN free_drewN put_drewN put_drew blk_raw free_raw
attribute [local go_sem ↓] execOp_slice execOp_copy
attribute [local go_sem] Try.sl40lo Try.sl40hi Try.sl26lo Try.sl26hi Try.sl26 Try.sl96lo Try.sl96hi Try.sl96 Try.sl31lo Try.sl31 Try.sl120 Try.sl121 Try.sl121lo Try.sl121hi Try.cp40 copyOr_some copyIn_some srcB_drew srcB_drewN srcB_raw length_bv one_bv
attribute [local go_sem] Hasher.length_zero
attribute [local go_sem] Try.cpv copyOrV_some
attribute [local go_sem ↓] execOp_index execOp_convert execOp_box execOp_convert9
attribute [local go_sem] index_hex box_run conv_bytes eq31
attribute [local go_sem] build31
attribute [local go_sem ↓] execOp_make
def wcI (w : World) (b c len cap : Nat) (C : List Value) (m xs : List UInt8) (f : Nat → Value) (W : World) : Prop :=
  f 0 = .pointer (some ⟨b, 0, none⟩) ∧ f 2 = .int .i64 (c : Nat) ∧ ∃ (k : Nat) (A : Option Addr) (h : Hasher), k ≤ len ∧ f 1 = .slice A (len - k) (cap - k) ∧ Hid (BytesAt b W A (len - k) (cap - k) (xs.drop k)) ∧ Hid (Rep h (m ++ xs.take k)) ∧ Hid (Out w W b (splice C 0 h.enc))
theorem take_more (m xs : List UInt8) (k c : Nat) : m ++ xs.take k ++ (xs.drop k).take c = m ++ xs.take (k + c) := by
  rw [List.append_assoc]
  congr 1
  rw [List.take_add]
set_option maxRecDepth 20000 in
set_option maxHeartbeats 2000000 in
theorem writeCut_ok (w : World) (b : Nat) (C : List Value) (h : Hasher) (m xs : List UInt8) (a : Option Addr) (len cap : Nat) (cut : Int) (hb : blk w b = some (splice C 0 h.enc)) (hC : 0 + 74 ≤ C.length) (hf : free w b = true) (hR : Rep h m) (hX : BytesAt b w a len cap xs)
    (hroom : m.length + len ≤ 2305843009213693951) :
    Calls Try.prog 45 #[.pointer (some ⟨b, 0, none⟩), .slice a len cap, .int .i64 cut] w fun e w' => e = .returned (.int .i64 0) ∧ ∃ h', Rep h' (m ++ xs) ∧ Out w w' b (splice C 0 h'.enc) := by
  have hlt := blk_lt hb
  have HR : Hid (Rep h m) := hR
  have HX : Hid (BytesAt b w a len cap xs) := hX
  have hxl := hX.1
  clear hR hX
  by_cases hc : cut < 1
  · go_enter Try.func45, Try.ntmps45
    go_wp2_with fail
    refine (write_ok w b 0 C h m xs a len cap hb hC hf HR.out HX.out hroom).mono ?_
    rintro e w2 ⟨rfl, h', hR', ho⟩
    have HR' : Hid (Rep h' (m ++ xs)) := hR'
    have HO : Hid (Out w w2 b (splice C 0 h'.enc)) := ho
    clear ho hR'
    go_wp2_with fail
    go_ret
    exact ⟨rfl, h', HR'.out, HO.out⟩
  · obtain ⟨c, rfl⟩ : ∃ c : Nat, cut = (c : Int) := ⟨cut.toNat, by omega⟩
    have hc1 : 1 ≤ c := by omega
    clear hc
    go_enter Try.func45, Try.ntmps45
    go_wp2_with fail
    refine wp_loop_f 37 (wcI w b c len cap C m xs) (fun f _ => lenV (f 1)) rfl ?_ ?_
    · exact ⟨rfl, rfl, 0, a, h, by omega, rfl, HX.out, by show Rep h _; rw [List.take_zero, List.append_nil]; exact HR.out, Out.mk0 hb⟩
    intro F W hrel
    obtain ⟨h0, h2, k, A, h1, hk, hF1, HXk, HRk, HO⟩ := hrel
    have H1 : Hid (F 1 = .slice A (len - k) (cap - k)) := hF1
    rw [frame37, h0, h2, hF1]
    clear h0 h2 hF1
    have hbk := HO.out.blk_at hb
    have hfk := (HO.out.free hlt).trans hf
    obtain ⟨L, hL⟩ : ∃ L, L = len - k := ⟨_, rfl⟩
    obtain ⟨K, hK⟩ : ∃ K, K = cap - k := ⟨_, rfl⟩
    rw [← hL, ← hK] at HXk H1 ⊢
    have HLL : Hid (L = len - k) := hL
    have HKK : Hid (K = cap - k) := hK
    have hLK : L ≤ K := HXk.out.2.1
    have hL62 : L < 4611686018427387904 := HXk.out.2.2.1.1
    clear hL hK
    by_cases hcl : c < L
    · have g1 : (c : Int) < (L : Int) := by omega
      have g2 : c ≤ K := by omega
      have g3 : c ≤ L := by omega
      go_wp2_with fail
      go_still_tail 6, Try.mixed
      go_wp2_with fail
      refine (write_ok W.drew b 0 C h1 _ _ A c K hbk hC hfk HRk.out (HXk.out.head g3) (by rw [List.length_append, List.length_take]; have := HLL.out; omega)).mono ?_
      rintro e W2 ⟨rfl, h3, hR3, ho⟩
      rw [take_more] at hR3
      have HR3 : Hid (Rep h3 (m ++ xs.take (k + c))) := hR3
      have HO3 : Hid (Out w W2 b (splice C 0 h3.enc)) := HO.out.drew.step hlt ho
      have HX3 : Hid (BytesAt b W2 (cutA A c K) (L - c) (K - c) ((xs.drop k).drop c)) := BytesAt.out (w := W.drew) (show BytesAt b W.drew _ _ _ _ from HXk.out.cut g3) ho
      clear hR3 ho
      go_wp2_with fail
      refine ⟨rfl, rfl, ?_, ?_⟩
      · refine ⟨rfl, rfl, k + c, cutA A c K, h3, by have := HLL.out; omega, ?_, ?_, HR3, HO3⟩
        · show Value.slice _ _ _ = _
          rw [HLL.out, HKK.out, Nat.sub_sub, Nat.sub_sub]
        · show BytesAt _ _ _ _ _ _
          have := HX3.out
          rw [List.drop_drop] at this
          rw [← Nat.sub_sub, ← Nat.sub_sub, ← HLL.out, ← HKK.out]
          exact this
      · show L - c < lenV (F 1)
        rw [H1.out]
        show L - c < L
        omega
    · have g1 : ¬ (c : Int) < (L : Int) := by omega
      go_wp2_with fail
      refine (write_ok W b 0 C h1 _ _ A L K hbk hC hfk HRk.out HXk.out (by rw [List.length_append, List.length_take]; have := HLL.out; omega)).mono ?_
      rintro e W2 ⟨rfl, h3, hR3, ho⟩
      have HR3 : Hid (Rep h3 (m ++ xs)) := by
        show Rep _ _
        rw [List.append_assoc, List.take_append_drop] at hR3
        exact hR3
      have HO3 : Hid (Out w W2 b (splice C 0 h3.enc)) := HO.out.step hlt ho
      clear hR3 ho
      go_wp2_with fail
      go_ret
      exact ⟨rfl, h3, HR3.out, HO3.out⟩
def stepAns (code : Int) (sum : Vector UInt8 32) (mark : Int) (p : Player) : Answer := ⟨code, sum, p.hand.length, mark, (p.log.entries.len : Nat), p.log.found⟩
def Z32 : Vector UInt8 32 := Vector.replicate 32 0
theorem hand_eq (p : Player) : splice p.enc 0 p.hand.enc = p.enc := Player.hand_set p p.hand
theorem aside_eq (p : Player) : splice p.enc 74 p.aside.enc = p.enc := Player.aside_set p p.aside
def StepOut (w w' : World) (bp : Nat) (p p' : Player) (mh ma : List UInt8) : Prop := Out w w' bp p'.enc ∧ Rep p'.hand mh ∧ Rep p'.aside ma ∧ p'.log = p.log
set_option maxRecDepth 20000 in
set_option maxHeartbeats 2000000 in
theorem step_1 (w : World) (bp : Nat) (p : Player) (g : GOp) (mh ma : List UInt8) (xs : List UInt8) (hb : blk w bp = some p.enc) (hf : free w bp = true) (hRh : Rep p.hand mh) (hRa : Rep p.aside ma) (hk : g.kind = 1) (hX : BytesAt bp w g.data.a g.data.len g.data.cap xs) (hroom : mh.length + g.data.len ≤ 2305843009213693951) :
    Calls Try.prog 15 #[.pointer (some ⟨bp, 0, none⟩), .agg g.enc.toArray] w fun e w' => ∃ p' : Player, e = .returned (.agg (stepAns 0 Z32 0 p').enc.toArray) ∧ StepOut w w' bp p p' (mh ++ xs) ma ∧ p'.prev = p.prev ∧ p'.last = p.last := by
  have hlt := blk_lt hb
  have HRh : Hid (Rep p.hand mh) := hRh
  have HRa : Hid (Rep p.aside ma) := hRa
  clear hRh hRa
  have HX : Hid (BytesAt bp w g.data.a g.data.len g.data.cap xs) := hX
  clear hX
  have hsv : Sl.val g.data = .slice g.data.a g.data.len g.data.cap := rfl
  go_enter Try.func15, Try.ntmps15
  go_upto_region 4 with fail
  obtain ⟨bo, hbo⟩ : ∃ bo, bo = w.heap.size := ⟨_, rfl⟩
  rw [← hbo]
  refine wp_world (fun W => blk W bp = some p.enc ∧ free W bp = true ∧ blk W bo = some g.enc ∧ blk W (bo + 1) = some Answer.zero.enc ∧ free W (bo + 1) = true ∧ blk W (bo + 1 + 1) = some Answer.zero.enc ∧ free W (bo + 1 + 1) = true ∧ bo + 2 < W.heap.size ∧ Hid (Ext w W)) ⟨?_, ?_, ?_, ?_, ?_, ?_, ?_, ?_, ((((Ext.refl w).alloc _).alloc _).alloc _)⟩ ?_
  · rw [blk_alloc, if_neg (by simp only [World.size_alloc]; omega), blk_alloc, if_neg (by simp only [World.size_alloc]; omega), blk_alloc, if_neg (by omega)]; exact hb
  · rw [free_alloc, if_neg (by simp only [World.size_alloc]; omega), free_alloc, if_neg (by simp only [World.size_alloc]; omega), free_alloc, if_neg (by omega)]; exact hf
  · rw [hbo, blk_alloc, if_neg (by simp only [World.size_alloc]; omega), blk_alloc, if_neg (by simp only [World.size_alloc]; omega), blk_alloc, if_pos rfl]
  · rw [hbo, blk_alloc, if_neg (by simp only [World.size_alloc]; omega), blk_alloc, if_pos (by simp only [World.size_alloc])]
  · rw [hbo, free_alloc, if_neg (by simp only [World.size_alloc]; omega), free_alloc, if_pos (by simp only [World.size_alloc])]
  · rw [hbo, blk_alloc, if_pos (by simp only [World.size_alloc])]
  · rw [hbo, free_alloc, if_pos (by simp only [World.size_alloc])]
  · rw [hbo]; simp only [World.size_alloc]; omega
  have hbpo : bp < bo := by omega
  have hwb : w.heap.size ≤ bo := by omega
  clear hbo
  have HB : Hid (blk w bp = some p.enc) := hb
  clear hb hf
  have n1 : ¬ bp = bo + 1 + 1 := by omega
  have n2 : ¬ bo + 1 + 1 = bp := by omega
  have n3 : ¬ bo + 1 + 1 = bo := by omega
  have n4 : ¬ bo + 1 = bo + 1 + 1 := by omega
  have n5 : ¬ bo + 1 + 1 = bo + 1 := by omega
  have n6 : ¬ bo = bo + 1 + 1 := by omega
  rintro W ⟨hb1, hf1, hg1, ha1, haf1, hz1, hzf1, hsz1, HE1⟩
  have HX1 : Hid (BytesAt bp W g.data.a g.data.len g.data.cap xs) := HX.out.mono fun b hb hn => HE1.out.blk hb
  have hbs : blk W bp = some (splice p.enc 0 p.hand.enc) := by rw [hand_eq]; exact hb1
  go_wp2_with fail
  refine (writeCut_ok W bp p.enc p.hand mh xs _ _ _ _ hbs (by rw [Player.length_enc]; omega) hf1 HRh.out HX1.out hroom).mono ?_
  rintro e W2 ⟨rfl, h2, hR2, ho⟩
  rw [Player.hand_set] at ho
  have HR2 : Hid (Rep h2 (mh ++ xs)) := hR2
  have HO2 : Hid (Out W W2 bp ({ p with hand := h2 } : Player).enc) := ho
  have hz2 := (HO2.out.blk_other (c := bo + 1 + 1) (by omega) (by omega)).trans hz1
  have hzf2 := (HO2.out.free (c := bo + 1 + 1) (by omega)).trans hzf1
  clear ho hR2
  go_upto_region 38 with fail
  refine wp_world (fun W3 => blk W3 bp = some ({ p with hand := h2 } : Player).enc ∧ free W3 bp = true ∧ blk W3 (bo + 1) = some Answer.zero.enc ∧ free W3 (bo + 1) = true ∧ blk W3 (bo + 1 + 1) = some ({ Answer.zero with code := 0 } : Answer).enc ∧ free W3 (bo + 1 + 1) = true ∧ bo + 2 < W3.heap.size ∧ Hid (Out w W3 bp ({ p with hand := h2 } : Player).enc)) ?_ ?_
  · have hsz2 := HO2.out.size
    refine ⟨?_, ?_, ?_, ?_, ?_, ?_, ?_, ?_⟩
    · rw [blk_put, if_neg n1]; exact HO2.out.blk_at hbs
    · rw [free_put, HO2.out.free (by omega)]; exact hf1
    · rw [blk_put, if_neg n4, HO2.out.blk_other (by omega) (by omega)]; exact ha1
    · rw [free_put, HO2.out.free (by omega)]; exact haf1
    · rw [blk_put, if_pos rfl, hz2]; rfl
    · rw [free_put]; exact hzf2
    · rw [size_put]; omega
    · exact ((Out.of_ext HB.out HE1.out).step hlt HO2.out).put_new _ _ (by omega)
  clear hb1 hf1 hg1 ha1 haf1 hz1 hzf1 hsz1 HE1 hbs HO2 HX1
  obtain ⟨p2, hp2⟩ : ∃ p2, p2 = ({ p with hand := h2 } : Player) := ⟨_, rfl⟩
  rw [← hp2]
  have HP2 : Hid (p2 = ({ p with hand := h2 } : Player)) := hp2
  clear hp2
  rintro W3 ⟨hb3, hf3, ha3, haf3, hz3, hzf3, hsz3, HO3⟩
  go_wp2_with fail
  refine (hlen_any W3 bp 0 p2.enc p2.hand (by rw [hand_eq]; exact hb3) (by rw [Player.length_enc]; omega)).mono ?_
  rintro e W4 ⟨rfl, rfl⟩
  go_wp2_with fail
  refine (loglen_any _ bp p2 (by rw [blk_put, if_neg n1]; exact hb3)).mono ?_
  rintro e W4 ⟨rfl, rfl⟩
  go_wp2_with fail
  refine (collided_any _ bp p2 (by rw [blk_put, if_neg n1]; exact hb3)).mono ?_
  rintro e W4 ⟨rfl, rfl⟩
  go_wp2_with fail
  refine ret_cell (C := (stepAns 0 Z32 0 p2).enc) rfl rfl ?_ (by kernel_rfl) (by rw [Answer.length_enc]; kernel_rfl) rfl ?_
  · rw [blk_put, if_pos rfl]
    simp only [blk_put, n4, if_false, ha3]
    rfl
  · refine ⟨p2, rfl, ⟨?_, ?_, ?_, ?_⟩, ?_, ?_⟩
    · exact ((HO3.out.put_new _ _ (by omega)).put_new _ _ (by omega))
    · show Rep _ _
      rw [HP2.out]; exact HR2.out
    · show Rep _ _
      rw [HP2.out]; exact HRa.out
    · rw [HP2.out]
    · rw [HP2.out]
    · rw [HP2.out]
set_option maxRecDepth 20000 in
set_option maxHeartbeats 2000000 in
theorem step_3 (w : World) (bp : Nat) (p : Player) (g : GOp) (mh ma : List UInt8) (hb : blk w bp = some p.enc) (hf : free w bp = true) (hRh : Rep p.hand mh) (hRa : Rep p.aside ma) (hk : g.kind = 3) (hroom : mh.length + 1 ≤ 2305843009213693951) :
    Calls Try.prog 15 #[.pointer (some ⟨bp, 0, none⟩), .agg g.enc.toArray] w fun e w' => ∃ p' : Player, e = .returned (.agg (stepAns 0 Z32 0 p').enc.toArray) ∧ StepOut w w' bp p p' (mh ++ [g.b]) ma ∧ p'.prev = p.prev ∧ p'.last = p.last := by
  have hlt := blk_lt hb
  have HRh : Hid (Rep p.hand mh) := hRh
  have HRa : Hid (Rep p.aside ma) := hRa
  clear hRh hRa
  go_enter Try.func15, Try.ntmps15
  go_upto_region 4 with fail
  obtain ⟨bo, hbo⟩ : ∃ bo, bo = w.heap.size := ⟨_, rfl⟩
  rw [← hbo]
  refine wp_world (fun W => blk W bp = some p.enc ∧ free W bp = true ∧ blk W bo = some g.enc ∧ blk W (bo + 1) = some Answer.zero.enc ∧ free W (bo + 1) = true ∧ blk W (bo + 1 + 1) = some Answer.zero.enc ∧ free W (bo + 1 + 1) = true ∧ bo + 2 < W.heap.size ∧ Hid (Ext w W)) ⟨?_, ?_, ?_, ?_, ?_, ?_, ?_, ?_, ((((Ext.refl w).alloc _).alloc _).alloc _)⟩ ?_
  · rw [blk_alloc, if_neg (by simp only [World.size_alloc]; omega), blk_alloc, if_neg (by simp only [World.size_alloc]; omega), blk_alloc, if_neg (by omega)]; exact hb
  · rw [free_alloc, if_neg (by simp only [World.size_alloc]; omega), free_alloc, if_neg (by simp only [World.size_alloc]; omega), free_alloc, if_neg (by omega)]; exact hf
  · rw [hbo, blk_alloc, if_neg (by simp only [World.size_alloc]; omega), blk_alloc, if_neg (by simp only [World.size_alloc]; omega), blk_alloc, if_pos rfl]
  · rw [hbo, blk_alloc, if_neg (by simp only [World.size_alloc]; omega), blk_alloc, if_pos (by simp only [World.size_alloc])]
  · rw [hbo, free_alloc, if_neg (by simp only [World.size_alloc]; omega), free_alloc, if_pos (by simp only [World.size_alloc])]
  · rw [hbo, blk_alloc, if_pos (by simp only [World.size_alloc])]
  · rw [hbo, free_alloc, if_pos (by simp only [World.size_alloc])]
  · rw [hbo]; simp only [World.size_alloc]; omega
  have hbpo : bp < bo := by omega
  have hwb : w.heap.size ≤ bo := by omega
  clear hbo
  have HB : Hid (blk w bp = some p.enc) := hb
  clear hb hf
  have n1 : ¬ bp = bo + 1 + 1 := by omega
  have n2 : ¬ bo + 1 + 1 = bp := by omega
  have n3 : ¬ bo + 1 + 1 = bo := by omega
  have n4 : ¬ bo + 1 = bo + 1 + 1 := by omega
  have n5 : ¬ bo + 1 + 1 = bo + 1 := by omega
  have n6 : ¬ bo = bo + 1 + 1 := by omega
  rintro W ⟨hb1, hf1, hg1, ha1, haf1, hz1, hzf1, hsz1, HE1⟩
  have hbs : blk W bp = some (splice p.enc 0 p.hand.enc) := by rw [hand_eq]; exact hb1
  go_wp2_with fail
  go_still_tail 5, Try.mixed
  go_wp2_with fail
  refine (octet_ok W.drew bp 0 p.enc p.hand mh g.b hbs (by rw [Player.length_enc]; omega) hf1 HRh.out hroom).mono ?_
  rintro e W2 ⟨rfl, h2, hR2, ho⟩
  rw [Player.hand_set] at ho
  have HR2 : Hid (Rep h2 (mh ++ [g.b])) := hR2
  have HO2 : Hid (Out W W2 bp ({ p with hand := h2 } : Player).enc) := (Out.mk0 hbs).drew.step (by omega) ho
  have hz2 := (HO2.out.blk_other (c := bo + 1 + 1) (by omega) (by omega)).trans hz1
  have hzf2 := (HO2.out.free (c := bo + 1 + 1) (by omega)).trans hzf1
  clear ho hR2
  go_upto_region 38 with fail
  refine wp_world (fun W3 => blk W3 bp = some ({ p with hand := h2 } : Player).enc ∧ free W3 bp = true ∧ blk W3 (bo + 1) = some Answer.zero.enc ∧ free W3 (bo + 1) = true ∧ blk W3 (bo + 1 + 1) = some ({ Answer.zero with code := 0 } : Answer).enc ∧ free W3 (bo + 1 + 1) = true ∧ bo + 2 < W3.heap.size ∧ Hid (Out w W3 bp ({ p with hand := h2 } : Player).enc)) ?_ ?_
  · have hsz2 := HO2.out.size
    refine ⟨?_, ?_, ?_, ?_, ?_, ?_, ?_, ?_⟩
    · rw [blk_put, if_neg n1]; exact HO2.out.blk_at hbs
    · rw [free_put, HO2.out.free (by omega)]; exact hf1
    · rw [blk_put, if_neg n4, HO2.out.blk_other (by omega) (by omega)]; exact ha1
    · rw [free_put, HO2.out.free (by omega)]; exact haf1
    · rw [blk_put, if_pos rfl, hz2]; rfl
    · rw [free_put]; exact hzf2
    · rw [size_put]; omega
    · exact ((Out.of_ext HB.out HE1.out).step hlt HO2.out).put_new _ _ (by omega)
  clear hb1 hf1 hg1 ha1 haf1 hz1 hzf1 hsz1 HE1 hbs HO2
  obtain ⟨p2, hp2⟩ : ∃ p2, p2 = ({ p with hand := h2 } : Player) := ⟨_, rfl⟩
  rw [← hp2]
  have HP2 : Hid (p2 = ({ p with hand := h2 } : Player)) := hp2
  clear hp2
  rintro W3 ⟨hb3, hf3, ha3, haf3, hz3, hzf3, hsz3, HO3⟩
  go_wp2_with fail
  refine (hlen_any W3 bp 0 p2.enc p2.hand (by rw [hand_eq]; exact hb3) (by rw [Player.length_enc]; omega)).mono ?_
  rintro e W4 ⟨rfl, rfl⟩
  go_wp2_with fail
  refine (loglen_any _ bp p2 (by rw [blk_put, if_neg n1]; exact hb3)).mono ?_
  rintro e W4 ⟨rfl, rfl⟩
  go_wp2_with fail
  refine (collided_any _ bp p2 (by rw [blk_put, if_neg n1]; exact hb3)).mono ?_
  rintro e W4 ⟨rfl, rfl⟩
  go_wp2_with fail
  refine ret_cell (C := (stepAns 0 Z32 0 p2).enc) rfl rfl ?_ (by kernel_rfl) (by rw [Answer.length_enc]; kernel_rfl) rfl ?_
  · rw [blk_put, if_pos rfl]
    simp only [blk_put, n4, if_false, ha3]
    rfl
  · refine ⟨p2, rfl, ⟨?_, ?_, ?_, ?_⟩, ?_, ?_⟩
    · exact ((HO3.out.put_new _ _ (by omega)).put_new _ _ (by omega))
    · show Rep _ _
      rw [HP2.out]; exact HR2.out
    · show Rep _ _
      rw [HP2.out]; exact HRa.out
    · rw [HP2.out]
    · rw [HP2.out]
    · rw [HP2.out]
set_option maxRecDepth 20000 in
set_option maxHeartbeats 2000000 in
theorem step_4 (w : World) (bp : Nat) (p : Player) (g : GOp) (mh ma : List UInt8) (hb : blk w bp = some p.enc) (hf : free w bp = true) (hRh : Rep p.hand mh) (hRa : Rep p.aside ma) (hk : g.kind = 4) (hroom : mh.length + 4 ≤ 2305843009213693951) :
    Calls Try.prog 15 #[.pointer (some ⟨bp, 0, none⟩), .agg g.enc.toArray] w fun e w' => ∃ p' : Player, e = .returned (.agg (stepAns 0 Z32 0 p').enc.toArray) ∧ StepOut w w' bp p p' (mh ++ be4 (UInt32.ofNat g.v.toNat)) ma ∧ p'.prev = p.prev ∧ p'.last = p.last := by
  have hlt := blk_lt hb
  have HRh : Hid (Rep p.hand mh) := hRh
  have HRa : Hid (Rep p.aside ma) := hRa
  clear hRh hRa
  have hv : IntKind.u32.wrap (w64 g.v) = w32 (UInt32.ofNat g.v.toNat) := by
    rw [IntKind.wrap_u32]; unfold w32 w64; rw [UInt32.toNat_ofNat']; omega
  go_enter Try.func15, Try.ntmps15
  go_upto_region 4 with fail
  obtain ⟨bo, hbo⟩ : ∃ bo, bo = w.heap.size := ⟨_, rfl⟩
  rw [← hbo]
  refine wp_world (fun W => blk W bp = some p.enc ∧ free W bp = true ∧ blk W bo = some g.enc ∧ blk W (bo + 1) = some Answer.zero.enc ∧ free W (bo + 1) = true ∧ blk W (bo + 1 + 1) = some Answer.zero.enc ∧ free W (bo + 1 + 1) = true ∧ bo + 2 < W.heap.size ∧ Hid (Ext w W)) ⟨?_, ?_, ?_, ?_, ?_, ?_, ?_, ?_, ((((Ext.refl w).alloc _).alloc _).alloc _)⟩ ?_
  · rw [blk_alloc, if_neg (by simp only [World.size_alloc]; omega), blk_alloc, if_neg (by simp only [World.size_alloc]; omega), blk_alloc, if_neg (by omega)]; exact hb
  · rw [free_alloc, if_neg (by simp only [World.size_alloc]; omega), free_alloc, if_neg (by simp only [World.size_alloc]; omega), free_alloc, if_neg (by omega)]; exact hf
  · rw [hbo, blk_alloc, if_neg (by simp only [World.size_alloc]; omega), blk_alloc, if_neg (by simp only [World.size_alloc]; omega), blk_alloc, if_pos rfl]
  · rw [hbo, blk_alloc, if_neg (by simp only [World.size_alloc]; omega), blk_alloc, if_pos (by simp only [World.size_alloc])]
  · rw [hbo, free_alloc, if_neg (by simp only [World.size_alloc]; omega), free_alloc, if_pos (by simp only [World.size_alloc])]
  · rw [hbo, blk_alloc, if_pos (by simp only [World.size_alloc])]
  · rw [hbo, free_alloc, if_pos (by simp only [World.size_alloc])]
  · rw [hbo]; simp only [World.size_alloc]; omega
  have hbpo : bp < bo := by omega
  have hwb : w.heap.size ≤ bo := by omega
  clear hbo
  have HB : Hid (blk w bp = some p.enc) := hb
  clear hb hf
  have n1 : ¬ bp = bo + 1 + 1 := by omega
  have n2 : ¬ bo + 1 + 1 = bp := by omega
  have n3 : ¬ bo + 1 + 1 = bo := by omega
  have n4 : ¬ bo + 1 = bo + 1 + 1 := by omega
  have n5 : ¬ bo + 1 + 1 = bo + 1 := by omega
  have n6 : ¬ bo = bo + 1 + 1 := by omega
  rintro W ⟨hb1, hf1, hg1, ha1, haf1, hz1, hzf1, hsz1, HE1⟩
  have hbs : blk W bp = some (splice p.enc 0 p.hand.enc) := by rw [hand_eq]; exact hb1
  go_wp2_with fail
  go_still_tail 6, Try.mixed
  go_wp2_with fail
  refine (uint32_ok W.drew bp 0 p.enc p.hand mh (UInt32.ofNat g.v.toNat) hbs (by rw [Player.length_enc]; omega) hf1 HRh.out hroom).mono ?_
  rintro e W2 ⟨rfl, h2, hR2, ho⟩
  rw [Player.hand_set] at ho
  have HR2 : Hid (Rep h2 (mh ++ be4 (UInt32.ofNat g.v.toNat))) := hR2
  have HO2 : Hid (Out W W2 bp ({ p with hand := h2 } : Player).enc) := (Out.mk0 hbs).drew.step (by omega) ho
  have hz2 := (HO2.out.blk_other (c := bo + 1 + 1) (by omega) (by omega)).trans hz1
  have hzf2 := (HO2.out.free (c := bo + 1 + 1) (by omega)).trans hzf1
  clear ho hR2
  go_upto_region 38 with fail
  refine wp_world (fun W3 => blk W3 bp = some ({ p with hand := h2 } : Player).enc ∧ free W3 bp = true ∧ blk W3 (bo + 1) = some Answer.zero.enc ∧ free W3 (bo + 1) = true ∧ blk W3 (bo + 1 + 1) = some ({ Answer.zero with code := 0 } : Answer).enc ∧ free W3 (bo + 1 + 1) = true ∧ bo + 2 < W3.heap.size ∧ Hid (Out w W3 bp ({ p with hand := h2 } : Player).enc)) ?_ ?_
  · have hsz2 := HO2.out.size
    refine ⟨?_, ?_, ?_, ?_, ?_, ?_, ?_, ?_⟩
    · rw [blk_put, if_neg n1]; exact HO2.out.blk_at hbs
    · rw [free_put, HO2.out.free (by omega)]; exact hf1
    · rw [blk_put, if_neg n4, HO2.out.blk_other (by omega) (by omega)]; exact ha1
    · rw [free_put, HO2.out.free (by omega)]; exact haf1
    · rw [blk_put, if_pos rfl, hz2]; rfl
    · rw [free_put]; exact hzf2
    · rw [size_put]; omega
    · exact ((Out.of_ext HB.out HE1.out).step hlt HO2.out).put_new _ _ (by omega)
  clear hb1 hf1 hg1 ha1 haf1 hz1 hzf1 hsz1 HE1 hbs HO2
  obtain ⟨p2, hp2⟩ : ∃ p2, p2 = ({ p with hand := h2 } : Player) := ⟨_, rfl⟩
  rw [← hp2]
  have HP2 : Hid (p2 = ({ p with hand := h2 } : Player)) := hp2
  clear hp2
  rintro W3 ⟨hb3, hf3, ha3, haf3, hz3, hzf3, hsz3, HO3⟩
  go_wp2_with fail
  refine (hlen_any W3 bp 0 p2.enc p2.hand (by rw [hand_eq]; exact hb3) (by rw [Player.length_enc]; omega)).mono ?_
  rintro e W4 ⟨rfl, rfl⟩
  go_wp2_with fail
  refine (loglen_any _ bp p2 (by rw [blk_put, if_neg n1]; exact hb3)).mono ?_
  rintro e W4 ⟨rfl, rfl⟩
  go_wp2_with fail
  refine (collided_any _ bp p2 (by rw [blk_put, if_neg n1]; exact hb3)).mono ?_
  rintro e W4 ⟨rfl, rfl⟩
  go_wp2_with fail
  refine ret_cell (C := (stepAns 0 Z32 0 p2).enc) rfl rfl ?_ (by kernel_rfl) (by rw [Answer.length_enc]; kernel_rfl) rfl ?_
  · rw [blk_put, if_pos rfl]
    simp only [blk_put, n4, if_false, ha3]
    rfl
  · refine ⟨p2, rfl, ⟨?_, ?_, ?_, ?_⟩, ?_, ?_⟩
    · exact ((HO3.out.put_new _ _ (by omega)).put_new _ _ (by omega))
    · show Rep _ _
      rw [HP2.out]; exact HR2.out
    · show Rep _ _
      rw [HP2.out]; exact HRa.out
    · rw [HP2.out]
    · rw [HP2.out]
    · rw [HP2.out]
set_option maxRecDepth 20000 in
set_option maxHeartbeats 2000000 in
theorem step_5 (w : World) (bp : Nat) (p : Player) (g : GOp) (mh ma : List UInt8) (hb : blk w bp = some p.enc) (hf : free w bp = true) (hRh : Rep p.hand mh) (hRa : Rep p.aside ma) (hk : g.kind = 5) (hroom : mh.length + 8 ≤ 2305843009213693951) :
    Calls Try.prog 15 #[.pointer (some ⟨bp, 0, none⟩), .agg g.enc.toArray] w fun e w' => ∃ p' : Player, e = .returned (.agg (stepAns 0 Z32 0 p').enc.toArray) ∧ StepOut w w' bp p p' (mh ++ be8 g.v.toNat) ma ∧ p'.prev = p.prev ∧ p'.last = p.last := by
  have hlt := blk_lt hb
  have HRh : Hid (Rep p.hand mh) := hRh
  have HRa : Hid (Rep p.aside ma) := hRa
  clear hRh hRa
  go_enter Try.func15, Try.ntmps15
  go_upto_region 4 with fail
  obtain ⟨bo, hbo⟩ : ∃ bo, bo = w.heap.size := ⟨_, rfl⟩
  rw [← hbo]
  refine wp_world (fun W => blk W bp = some p.enc ∧ free W bp = true ∧ blk W bo = some g.enc ∧ blk W (bo + 1) = some Answer.zero.enc ∧ free W (bo + 1) = true ∧ blk W (bo + 1 + 1) = some Answer.zero.enc ∧ free W (bo + 1 + 1) = true ∧ bo + 2 < W.heap.size ∧ Hid (Ext w W)) ⟨?_, ?_, ?_, ?_, ?_, ?_, ?_, ?_, ((((Ext.refl w).alloc _).alloc _).alloc _)⟩ ?_
  · rw [blk_alloc, if_neg (by simp only [World.size_alloc]; omega), blk_alloc, if_neg (by simp only [World.size_alloc]; omega), blk_alloc, if_neg (by omega)]; exact hb
  · rw [free_alloc, if_neg (by simp only [World.size_alloc]; omega), free_alloc, if_neg (by simp only [World.size_alloc]; omega), free_alloc, if_neg (by omega)]; exact hf
  · rw [hbo, blk_alloc, if_neg (by simp only [World.size_alloc]; omega), blk_alloc, if_neg (by simp only [World.size_alloc]; omega), blk_alloc, if_pos rfl]
  · rw [hbo, blk_alloc, if_neg (by simp only [World.size_alloc]; omega), blk_alloc, if_pos (by simp only [World.size_alloc])]
  · rw [hbo, free_alloc, if_neg (by simp only [World.size_alloc]; omega), free_alloc, if_pos (by simp only [World.size_alloc])]
  · rw [hbo, blk_alloc, if_pos (by simp only [World.size_alloc])]
  · rw [hbo, free_alloc, if_pos (by simp only [World.size_alloc])]
  · rw [hbo]; simp only [World.size_alloc]; omega
  have hbpo : bp < bo := by omega
  have hwb : w.heap.size ≤ bo := by omega
  clear hbo
  have HB : Hid (blk w bp = some p.enc) := hb
  clear hb hf
  have n1 : ¬ bp = bo + 1 + 1 := by omega
  have n2 : ¬ bo + 1 + 1 = bp := by omega
  have n3 : ¬ bo + 1 + 1 = bo := by omega
  have n4 : ¬ bo + 1 = bo + 1 + 1 := by omega
  have n5 : ¬ bo + 1 + 1 = bo + 1 := by omega
  have n6 : ¬ bo = bo + 1 + 1 := by omega
  rintro W ⟨hb1, hf1, hg1, ha1, haf1, hz1, hzf1, hsz1, HE1⟩
  have hbs : blk W bp = some (splice p.enc 0 p.hand.enc) := by rw [hand_eq]; exact hb1
  go_wp2_with fail
  go_still_tail 5, Try.mixed
  go_wp2_with fail
  refine (uint64_ok W.drew bp 0 p.enc p.hand mh g.v.toNat (by have := g.v.toNat_lt; omega) hbs (by rw [Player.length_enc]; omega) hf1 HRh.out hroom).mono ?_
  rintro e W2 ⟨rfl, h2, hR2, ho⟩
  rw [Player.hand_set] at ho
  have HR2 : Hid (Rep h2 (mh ++ be8 g.v.toNat)) := hR2
  have HO2 : Hid (Out W W2 bp ({ p with hand := h2 } : Player).enc) := (Out.mk0 hbs).drew.step (by omega) ho
  have hz2 := (HO2.out.blk_other (c := bo + 1 + 1) (by omega) (by omega)).trans hz1
  have hzf2 := (HO2.out.free (c := bo + 1 + 1) (by omega)).trans hzf1
  clear ho hR2
  go_upto_region 38 with fail
  refine wp_world (fun W3 => blk W3 bp = some ({ p with hand := h2 } : Player).enc ∧ free W3 bp = true ∧ blk W3 (bo + 1) = some Answer.zero.enc ∧ free W3 (bo + 1) = true ∧ blk W3 (bo + 1 + 1) = some ({ Answer.zero with code := 0 } : Answer).enc ∧ free W3 (bo + 1 + 1) = true ∧ bo + 2 < W3.heap.size ∧ Hid (Out w W3 bp ({ p with hand := h2 } : Player).enc)) ?_ ?_
  · have hsz2 := HO2.out.size
    refine ⟨?_, ?_, ?_, ?_, ?_, ?_, ?_, ?_⟩
    · rw [blk_put, if_neg n1]; exact HO2.out.blk_at hbs
    · rw [free_put, HO2.out.free (by omega)]; exact hf1
    · rw [blk_put, if_neg n4, HO2.out.blk_other (by omega) (by omega)]; exact ha1
    · rw [free_put, HO2.out.free (by omega)]; exact haf1
    · rw [blk_put, if_pos rfl, hz2]; rfl
    · rw [free_put]; exact hzf2
    · rw [size_put]; omega
    · exact ((Out.of_ext HB.out HE1.out).step hlt HO2.out).put_new _ _ (by omega)
  clear hb1 hf1 hg1 ha1 haf1 hz1 hzf1 hsz1 HE1 hbs HO2
  obtain ⟨p2, hp2⟩ : ∃ p2, p2 = ({ p with hand := h2 } : Player) := ⟨_, rfl⟩
  rw [← hp2]
  have HP2 : Hid (p2 = ({ p with hand := h2 } : Player)) := hp2
  clear hp2
  rintro W3 ⟨hb3, hf3, ha3, haf3, hz3, hzf3, hsz3, HO3⟩
  go_wp2_with fail
  refine (hlen_any W3 bp 0 p2.enc p2.hand (by rw [hand_eq]; exact hb3) (by rw [Player.length_enc]; omega)).mono ?_
  rintro e W4 ⟨rfl, rfl⟩
  go_wp2_with fail
  refine (loglen_any _ bp p2 (by rw [blk_put, if_neg n1]; exact hb3)).mono ?_
  rintro e W4 ⟨rfl, rfl⟩
  go_wp2_with fail
  refine (collided_any _ bp p2 (by rw [blk_put, if_neg n1]; exact hb3)).mono ?_
  rintro e W4 ⟨rfl, rfl⟩
  go_wp2_with fail
  refine ret_cell (C := (stepAns 0 Z32 0 p2).enc) rfl rfl ?_ (by kernel_rfl) (by rw [Answer.length_enc]; kernel_rfl) rfl ?_
  · rw [blk_put, if_pos rfl]
    simp only [blk_put, n4, if_false, ha3]
    rfl
  · refine ⟨p2, rfl, ⟨?_, ?_, ?_, ?_⟩, ?_, ?_⟩
    · exact ((HO3.out.put_new _ _ (by omega)).put_new _ _ (by omega))
    · show Rep _ _
      rw [HP2.out]; exact HR2.out
    · show Rep _ _
      rw [HP2.out]; exact HRa.out
    · rw [HP2.out]
    · rw [HP2.out]
    · rw [HP2.out]
set_option maxRecDepth 20000 in
set_option maxHeartbeats 2000000 in
theorem step_7 (w : World) (bp : Nat) (p : Player) (g : GOp) (mh ma : List UInt8) (hb : blk w bp = some p.enc) (hf : free w bp = true) (hRh : Rep p.hand mh) (hRa : Rep p.aside ma) (hk : g.kind = 7) :
    Calls Try.prog 15 #[.pointer (some ⟨bp, 0, none⟩), .agg g.enc.toArray] w fun e w' => ∃ p' : Player, e = .returned (.agg (stepAns 0 Z32 0 p').enc.toArray) ∧ StepOut w w' bp p p' [] ma ∧ p'.prev = p.prev ∧ p'.last = p.last := by
  have hlt := blk_lt hb
  have HRh : Hid (Rep p.hand mh) := hRh
  have HRa : Hid (Rep p.aside ma) := hRa
  clear hRh hRa
  go_enter Try.func15, Try.ntmps15
  go_upto_region 4 with fail
  obtain ⟨bo, hbo⟩ : ∃ bo, bo = w.heap.size := ⟨_, rfl⟩
  rw [← hbo]
  refine wp_world (fun W => blk W bp = some p.enc ∧ free W bp = true ∧ blk W bo = some g.enc ∧ blk W (bo + 1) = some Answer.zero.enc ∧ free W (bo + 1) = true ∧ blk W (bo + 1 + 1) = some Answer.zero.enc ∧ free W (bo + 1 + 1) = true ∧ bo + 2 < W.heap.size ∧ Hid (Ext w W)) ⟨?_, ?_, ?_, ?_, ?_, ?_, ?_, ?_, ((((Ext.refl w).alloc _).alloc _).alloc _)⟩ ?_
  · rw [blk_alloc, if_neg (by simp only [World.size_alloc]; omega), blk_alloc, if_neg (by simp only [World.size_alloc]; omega), blk_alloc, if_neg (by omega)]; exact hb
  · rw [free_alloc, if_neg (by simp only [World.size_alloc]; omega), free_alloc, if_neg (by simp only [World.size_alloc]; omega), free_alloc, if_neg (by omega)]; exact hf
  · rw [hbo, blk_alloc, if_neg (by simp only [World.size_alloc]; omega), blk_alloc, if_neg (by simp only [World.size_alloc]; omega), blk_alloc, if_pos rfl]
  · rw [hbo, blk_alloc, if_neg (by simp only [World.size_alloc]; omega), blk_alloc, if_pos (by simp only [World.size_alloc])]
  · rw [hbo, free_alloc, if_neg (by simp only [World.size_alloc]; omega), free_alloc, if_pos (by simp only [World.size_alloc])]
  · rw [hbo, blk_alloc, if_pos (by simp only [World.size_alloc])]
  · rw [hbo, free_alloc, if_pos (by simp only [World.size_alloc])]
  · rw [hbo]; simp only [World.size_alloc]; omega
  have hbpo : bp < bo := by omega
  have hwb : w.heap.size ≤ bo := by omega
  clear hbo
  have HB : Hid (blk w bp = some p.enc) := hb
  clear hb hf
  have n1 : ¬ bp = bo + 1 + 1 := by omega
  have n2 : ¬ bo + 1 + 1 = bp := by omega
  have n3 : ¬ bo + 1 + 1 = bo := by omega
  have n4 : ¬ bo + 1 = bo + 1 + 1 := by omega
  have n5 : ¬ bo + 1 + 1 = bo + 1 := by omega
  have n6 : ¬ bo = bo + 1 + 1 := by omega
  rintro W ⟨hb1, hf1, hg1, ha1, haf1, hz1, hzf1, hsz1, HE1⟩
  have hbs : blk W bp = some (splice p.enc 0 p.hand.enc) := by rw [hand_eq]; exact hb1
  go_wp2_with fail
  refine (reset_any W bp 0 p.enc p.hand hbs (by rw [Player.length_enc]; omega) hf1).mono ?_
  rintro e W2 ⟨rfl, ho⟩
  rw [Player.hand_set] at ho
  obtain ⟨h2, hh2⟩ : ∃ h2 : Hasher, h2 = { p.hand with state := iv, fill := 0, length := 0 } := ⟨_, rfl⟩
  rw [← hh2] at ho
  have HR2 : Hid (Rep h2 []) := by subst hh2; exact ⟨by simp, rfl, rfl, rfl, by intro j hj h; simp at h⟩
  have HO2 : Hid (Out W W2 bp ({ p with hand := h2 } : Player).enc) := ho
  have hz2 := (HO2.out.blk_other (c := bo + 1 + 1) (by omega) (by omega)).trans hz1
  have hzf2 := (HO2.out.free (c := bo + 1 + 1) (by omega)).trans hzf1
  clear ho hh2
  go_upto_region 38 with fail
  refine wp_world (fun W3 => blk W3 bp = some ({ p with hand := h2 } : Player).enc ∧ free W3 bp = true ∧ blk W3 (bo + 1) = some Answer.zero.enc ∧ free W3 (bo + 1) = true ∧ blk W3 (bo + 1 + 1) = some (Answer.zero : Answer).enc ∧ free W3 (bo + 1 + 1) = true ∧ bo + 2 < W3.heap.size ∧ Hid (Out w W3 bp ({ p with hand := h2 } : Player).enc)) ?_ ?_
  · have hsz2 := HO2.out.size
    refine ⟨?_, ?_, ?_, ?_, ?_, ?_, ?_, ?_⟩
    · exact HO2.out.blk_at hbs
    · rw [HO2.out.free (by omega)]; exact hf1
    · rw [HO2.out.blk_other (by omega) (by omega)]; exact ha1
    · rw [HO2.out.free (by omega)]; exact haf1
    · exact hz2
    · exact hzf2
    · omega
    · exact ((Out.of_ext HB.out HE1.out).step hlt HO2.out)
  clear hb1 hf1 hg1 ha1 haf1 hz1 hzf1 hsz1 HE1 hbs HO2
  obtain ⟨p2, hp2⟩ : ∃ p2, p2 = ({ p with hand := h2 } : Player) := ⟨_, rfl⟩
  rw [← hp2]
  have HP2 : Hid (p2 = ({ p with hand := h2 } : Player)) := hp2
  clear hp2
  rintro W3 ⟨hb3, hf3, ha3, haf3, hz3, hzf3, hsz3, HO3⟩
  go_wp2_with fail
  refine (hlen_any W3 bp 0 p2.enc p2.hand (by rw [hand_eq]; exact hb3) (by rw [Player.length_enc]; omega)).mono ?_
  rintro e W4 ⟨rfl, rfl⟩
  go_wp2_with fail
  refine (loglen_any _ bp p2 (by rw [blk_put, if_neg n1]; exact hb3)).mono ?_
  rintro e W4 ⟨rfl, rfl⟩
  go_wp2_with fail
  refine (collided_any _ bp p2 (by rw [blk_put, if_neg n1]; exact hb3)).mono ?_
  rintro e W4 ⟨rfl, rfl⟩
  go_wp2_with fail
  refine ret_cell (C := (stepAns 0 Z32 0 p2).enc) rfl rfl ?_ (by kernel_rfl) (by rw [Answer.length_enc]; kernel_rfl) rfl ?_
  · rw [blk_put, if_pos rfl]
    simp only [blk_put, n4, if_false, ha3]
    rfl
  · refine ⟨p2, rfl, ⟨?_, ?_, ?_, ?_⟩, ?_, ?_⟩
    · exact ((HO3.out.put_new _ _ (by omega)).put_new _ _ (by omega))
    · show Rep _ _
      rw [HP2.out]; exact HR2.out
    · show Rep _ _
      rw [HP2.out]; exact HRa.out
    · rw [HP2.out]
    · rw [HP2.out]
    · rw [HP2.out]
set_option maxRecDepth 20000 in
set_option maxHeartbeats 2000000 in
theorem step_6 (w : World) (bp : Nat) (p : Player) (g : GOp) (mh ma : List UInt8) (hb : blk w bp = some p.enc) (hf : free w bp = true) (hRh : Rep p.hand mh) (hRa : Rep p.aside ma) (hk : g.kind = 6) :
    Calls Try.prog 15 #[.pointer (some ⟨bp, 0, none⟩), .agg g.enc.toArray] w fun e w' => ∃ p' : Player, e = .returned (.agg (stepAns 0 (sha mh) 0 p').enc.toArray) ∧ StepOut w w' bp p p' mh ma ∧ p'.prev = p.last ∧ p'.last = (sha mh) := by
  have hlt := blk_lt hb
  have HRh : Hid (Rep p.hand mh) := hRh
  have HRa : Hid (Rep p.aside ma) := hRa
  clear hRh hRa
  go_enter Try.func15, Try.ntmps15
  go_upto_region 4 with fail
  obtain ⟨bo, hbo⟩ : ∃ bo, bo = w.heap.size := ⟨_, rfl⟩
  rw [← hbo]
  refine wp_world (fun W => blk W bp = some p.enc ∧ free W bp = true ∧ blk W bo = some g.enc ∧ blk W (bo + 1) = some Answer.zero.enc ∧ free W (bo + 1) = true ∧ blk W (bo + 1 + 1) = some Answer.zero.enc ∧ free W (bo + 1 + 1) = true ∧ bo + 2 < W.heap.size ∧ Hid (Ext w W)) ⟨?_, ?_, ?_, ?_, ?_, ?_, ?_, ?_, ((((Ext.refl w).alloc _).alloc _).alloc _)⟩ ?_
  · rw [blk_alloc, if_neg (by simp only [World.size_alloc]; omega), blk_alloc, if_neg (by simp only [World.size_alloc]; omega), blk_alloc, if_neg (by omega)]; exact hb
  · rw [free_alloc, if_neg (by simp only [World.size_alloc]; omega), free_alloc, if_neg (by simp only [World.size_alloc]; omega), free_alloc, if_neg (by omega)]; exact hf
  · rw [hbo, blk_alloc, if_neg (by simp only [World.size_alloc]; omega), blk_alloc, if_neg (by simp only [World.size_alloc]; omega), blk_alloc, if_pos rfl]
  · rw [hbo, blk_alloc, if_neg (by simp only [World.size_alloc]; omega), blk_alloc, if_pos (by simp only [World.size_alloc])]
  · rw [hbo, free_alloc, if_neg (by simp only [World.size_alloc]; omega), free_alloc, if_pos (by simp only [World.size_alloc])]
  · rw [hbo, blk_alloc, if_pos (by simp only [World.size_alloc])]
  · rw [hbo, free_alloc, if_pos (by simp only [World.size_alloc])]
  · rw [hbo]; simp only [World.size_alloc]; omega
  have hbpo : bp < bo := by omega
  have hwb : w.heap.size ≤ bo := by omega
  clear hbo
  have HB : Hid (blk w bp = some p.enc) := hb
  clear hb hf
  have n1 : ¬ bp = bo + 1 + 1 := by omega
  have n2 : ¬ bo + 1 + 1 = bp := by omega
  have n3 : ¬ bo + 1 + 1 = bo := by omega
  have n4 : ¬ bo + 1 = bo + 1 + 1 := by omega
  have n5 : ¬ bo + 1 + 1 = bo + 1 := by omega
  have n6 : ¬ bo = bo + 1 + 1 := by omega
  rintro W ⟨hb1, hf1, hg1, ha1, haf1, hz1, hzf1, hsz1, HE1⟩
  have hbs : blk W bp = some (splice p.enc 0 p.hand.enc) := by rw [hand_eq]; exact hb1
  go_wp2_with fail
  refine (sum_any W bp 0 p.enc p.hand mh hbs (by rw [Player.length_enc]; omega) HRh.out).mono ?_
  rintro e W2 ⟨rfl, he2⟩
  rw [sum_sha _ _ HRh.out]
  obtain ⟨sm, hsm⟩ : ∃ sm, sm = sha mh := ⟨_, rfl⟩
  rw [← hsm]
  have HSM : Hid (sm = sha mh) := hsm
  have hb2 := (he2.blk (b := bp) (by omega)).trans hb1
  have hf2 := (he2.free (b := bp) (by omega)).trans hf1
  have hz2 := (he2.blk (b := bo + 1 + 1) (by omega)).trans hz1
  have hzf2 := (he2.free (b := bo + 1 + 1) (by omega)).trans hzf1
  have ha2 := (he2.blk (b := bo + 1) (by omega)).trans ha1
  have haf2 := (he2.free (b := bo + 1) (by omega)).trans haf1
  have hsz2 := he2.size
  have HE2 : Hid (Ext w W2) := HE1.out.trans he2
  clear he2 hsm
  go_wp2_with fail
  refine (answer_any _ bp p sm (by rw [blk_put, if_neg n1]; exact hb2) (by rw [free_put]; exact hf2)).mono ?_
  rintro e W5 ⟨rfl, ho⟩
  have HO5 : Hid (Out (put W2 (bo + 1 + 1) ({ Answer.zero with sum := sm } : Answer).enc) W5 bp ({ p with prev := p.last, last := sm } : Player).enc) := ho
  clear ho
  go_upto_region 38 with fail
  refine wp_world (fun W3 => blk W3 bp = some ({ p with prev := p.last, last := sm } : Player).enc ∧ free W3 bp = true ∧ blk W3 (bo + 1) = some Answer.zero.enc ∧ free W3 (bo + 1) = true ∧ blk W3 (bo + 1 + 1) = some ({ Answer.zero with sum := sm } : Answer).enc ∧ free W3 (bo + 1 + 1) = true ∧ bo + 2 < W3.heap.size ∧ Hid (Out w W3 bp ({ p with prev := p.last, last := sm } : Player).enc)) ?_ ?_
  · have hszp := HO5.out.size
    rw [size_put] at hszp
    refine ⟨?_, ?_, ?_, ?_, ?_, ?_, ?_, ?_⟩
    · exact HO5.out.blk_at (C := p.enc) (by rw [blk_put, if_neg n1]; exact hb2)
    · rw [HO5.out.free (by rw [size_put]; omega), free_put]; exact hf2
    · rw [HO5.out.blk_other (by rw [size_put]; omega) (by omega), blk_put, if_neg n4]; exact ha2
    · rw [HO5.out.free (by rw [size_put]; omega), free_put]; exact haf2
    · rw [HO5.out.blk_other (by rw [size_put]; omega) (by omega), blk_put, if_pos rfl, hz2]; rfl
    · rw [HO5.out.free (by rw [size_put]; omega), free_put]; exact hzf2
    · omega
    · exact ((Out.of_ext HB.out HE2.out).put_new _ _ (by omega)).step hlt HO5.out
  clear hb1 hf1 hg1 ha1 haf1 hz1 hzf1 hsz1 HE1 hbs HO5 hb2 hf2 hz2 hzf2 ha2 haf2 HE2 hsz2
  obtain ⟨p2, hp2⟩ : ∃ p2, p2 = ({ p with prev := p.last, last := sm } : Player) := ⟨_, rfl⟩
  rw [← hp2]
  have HP2 : Hid (p2 = ({ p with prev := p.last, last := sm } : Player)) := hp2
  clear hp2
  rintro W3 ⟨hb3, hf3, ha3, haf3, hz3, hzf3, hsz3, HO3⟩
  go_wp2_with fail
  refine (hlen_any W3 bp 0 p2.enc p2.hand (by rw [hand_eq]; exact hb3) (by rw [Player.length_enc]; omega)).mono ?_
  rintro e W4 ⟨rfl, rfl⟩
  go_wp2_with fail
  refine (loglen_any _ bp p2 (by rw [blk_put, if_neg n1]; exact hb3)).mono ?_
  rintro e W4 ⟨rfl, rfl⟩
  go_wp2_with fail
  refine (collided_any _ bp p2 (by rw [blk_put, if_neg n1]; exact hb3)).mono ?_
  rintro e W4 ⟨rfl, rfl⟩
  go_wp2_with fail
  refine ret_cell (C := (stepAns 0 sm 0 p2).enc) rfl rfl ?_ (by kernel_rfl) (by rw [Answer.length_enc]; kernel_rfl) rfl ?_
  · rw [blk_put, if_pos rfl]
    simp only [blk_put, n4, if_false, ha3]
    rfl
  · refine ⟨p2, by rw [← HSM.out], ⟨?_, ?_, ?_, ?_⟩, ?_, ?_⟩
    · exact ((HO3.out.put_new _ _ (by omega)).put_new _ _ (by omega))
    · show Rep _ _
      rw [HP2.out]; exact HRh.out
    · show Rep _ _
      rw [HP2.out]; exact HRa.out
    · rw [HP2.out]
    · rw [HP2.out]
    · rw [HP2.out, ← HSM.out]
set_option maxRecDepth 20000 in
set_option maxHeartbeats 2000000 in
theorem step_2 (w : World) (bp : Nat) (p : Player) (g : GOp) (mh ma : List UInt8) (hb : blk w bp = some p.enc) (hf : free w bp = true) (hRh : Rep p.hand mh) (hRa : Rep p.aside ma) (hk : g.kind = 2) (hroom : mh.length + 4096 ≤ 2305843009213693951) :
    Calls Try.prog 15 #[.pointer (some ⟨bp, 0, none⟩), .agg g.enc.toArray] w fun e w' => ∃ p' : Player, e = .returned (.agg (stepAns 0 Z32 0 p').enc.toArray) ∧ StepOut w w' bp p p' (mh ++ List.replicate (fillN g.n) g.b) ma ∧ p'.prev = p.prev ∧ p'.last = p.last := by
  have hlt := blk_lt hb
  have HRh : Hid (Rep p.hand mh) := hRh
  have HRa : Hid (Rep p.aside ma) := hRa
  clear hRh hRa
  go_enter Try.func15, Try.ntmps15
  go_upto_region 4 with fail
  obtain ⟨bo, hbo⟩ : ∃ bo, bo = w.heap.size := ⟨_, rfl⟩
  rw [← hbo]
  refine wp_world (fun W => blk W bp = some p.enc ∧ free W bp = true ∧ blk W bo = some g.enc ∧ blk W (bo + 1) = some Answer.zero.enc ∧ free W (bo + 1) = true ∧ blk W (bo + 1 + 1) = some Answer.zero.enc ∧ free W (bo + 1 + 1) = true ∧ bo + 2 < W.heap.size ∧ Hid (Ext w W)) ⟨?_, ?_, ?_, ?_, ?_, ?_, ?_, ?_, ((((Ext.refl w).alloc _).alloc _).alloc _)⟩ ?_
  · rw [blk_alloc, if_neg (by simp only [World.size_alloc]; omega), blk_alloc, if_neg (by simp only [World.size_alloc]; omega), blk_alloc, if_neg (by omega)]; exact hb
  · rw [free_alloc, if_neg (by simp only [World.size_alloc]; omega), free_alloc, if_neg (by simp only [World.size_alloc]; omega), free_alloc, if_neg (by omega)]; exact hf
  · rw [hbo, blk_alloc, if_neg (by simp only [World.size_alloc]; omega), blk_alloc, if_neg (by simp only [World.size_alloc]; omega), blk_alloc, if_pos rfl]
  · rw [hbo, blk_alloc, if_neg (by simp only [World.size_alloc]; omega), blk_alloc, if_pos (by simp only [World.size_alloc])]
  · rw [hbo, free_alloc, if_neg (by simp only [World.size_alloc]; omega), free_alloc, if_pos (by simp only [World.size_alloc])]
  · rw [hbo, blk_alloc, if_pos (by simp only [World.size_alloc])]
  · rw [hbo, free_alloc, if_pos (by simp only [World.size_alloc])]
  · rw [hbo]; simp only [World.size_alloc]; omega
  have hbpo : bp < bo := by omega
  have hwb : w.heap.size ≤ bo := by omega
  clear hbo
  have HB : Hid (blk w bp = some p.enc) := hb
  clear hb hf
  have n1 : ¬ bp = bo + 1 + 1 := by omega
  have n2 : ¬ bo + 1 + 1 = bp := by omega
  have n3 : ¬ bo + 1 + 1 = bo := by omega
  have n4 : ¬ bo + 1 = bo + 1 + 1 := by omega
  have n5 : ¬ bo + 1 + 1 = bo + 1 := by omega
  have n6 : ¬ bo = bo + 1 + 1 := by omega
  rintro W ⟨hb1, hf1, hg1, ha1, haf1, hz1, hzf1, hsz1, HE1⟩
  have hbs : blk W bp = some (splice p.enc 0 p.hand.enc) := by rw [hand_eq]; exact hb1
  go_wp2_with fail
  refine wp_region_held_drew (S := fun W' => blk W' bo = some g.enc ∧ True) (by kernel_rfl) ⟨hg1, trivial⟩ (fun hHeld => ?_)
  refine wpAnyH_take (i := 0) (oi := ⟨_, _, _, _, _, _⟩) (v := ?_) rfl (by kernel_rfl) (by kernel_rfl) (by kernel_rfl) (fun _ _ _ h => h) (Or.inl ⟨by rfl, ?_⟩) (by assumption) ?_
  rotate_left 1
  · intro W' hSw
    obtain ⟨hS1, hS2⟩ := hSw
    go_simp
    try with_reducible rfl
  try simp only [Act.put, List.setIfInBounds_toArray, List.set_cons_zero, List.set_cons_succ]
  refine wpAnyH_take (i := 1) (oi := ⟨_, _, _, _, _, _⟩) (v := ?_) rfl (by kernel_rfl) (by kernel_rfl) (by kernel_rfl) (fun _ _ _ h => h) (Or.inl ⟨by rfl, ?_⟩) (by assumption) ?_
  rotate_left 1
  · intro W' hSw
    obtain ⟨hS1, hS2⟩ := hSw
    go_simp
    try with_reducible rfl
  try simp only [Act.put, List.setIfInBounds_toArray, List.set_cons_zero, List.set_cons_succ]
  refine wpAnyH_take (i := 3) (oi := ⟨_, _, _, _, _, _⟩) (v := ?_) rfl (by kernel_rfl) (by kernel_rfl) (by kernel_rfl) (fun _ _ _ h => h) (Or.inl ⟨by rfl, ?_⟩) (by assumption) ?_
  rotate_left 1
  · intro W' hSw
    obtain ⟨hS1, hS2⟩ := hSw
    go_simp
    try with_reducible rfl
  try simp only [Act.put, List.setIfInBounds_toArray, List.set_cons_zero, List.set_cons_succ]
  refine wpAnyH_take (i := 4) (oi := ⟨_, _, _, _, _, _⟩) (v := ?_) rfl (by kernel_rfl) (by kernel_rfl) (by kernel_rfl) (fun _ _ _ h => h) (Or.inl ⟨by rfl, ?_⟩) (by assumption) ?_
  rotate_left 1
  · intro W' hSw
    obtain ⟨hS1, hS2⟩ := hSw
    go_simp
    try with_reducible rfl
  try simp only [Act.put, List.setIfInBounds_toArray, List.set_cons_zero, List.set_cons_succ]
  refine wpAnyH_ready (rs := [2]) (by kernel_rfl) (by simp) ?_
  refine AllReadyH.cons (o := ⟨_, _, _, _, _, _⟩) rfl (fun K hK => ?_) AllReadyH.nil
  go_simp
  refine (fill_any _ g).mono ?_
  rintro e W5 ⟨fa, fl, fc, rfl, hfx, hfs, he5⟩
  have HFX : Hid (BytesAt bp W5 fa fl fc (List.replicate (fillN g.n) g.b)) := hfx bp (by show _ ≠ W.heap.size + 1; omega)
  have hb5 := (he5.blk (b := bp) (show bp < W.heap.size by omega)).trans hb1
  have hf5 := (he5.free (b := bp) (show bp < W.heap.size by omega)).trans hf1
  have hg5 := (he5.blk (b := bo) (show bo < W.heap.size by omega)).trans hg1
  have ha5 := (he5.blk (b := bo + 1) (show bo + 1 < W.heap.size by omega)).trans ha1
  have haf5 := (he5.free (b := bo + 1) (show bo + 1 < W.heap.size by omega)).trans haf1
  have hz5 := (he5.blk (b := bo + 1 + 1) (show bo + 1 + 1 < W.heap.size by omega)).trans hz1
  have hzf5 := (he5.free (b := bo + 1 + 1) (show bo + 1 + 1 < W.heap.size by omega)).trans hzf1
  have hsz5 : W.heap.size ≤ W5.heap.size := he5.size
  have HE5 : Hid (Ext w W5) := HE1.out.drew.trans he5
  have hfl := (hfx bp (by show _ ≠ W.heap.size + 1; omega)).1
  rw [List.length_replicate] at hfl
  have HFL : Hid (fillN g.n = fl) := hfl
  dsimp only
  refine hK.out _ _ ?_ (fun hHeld => ?_)
  · exact ⟨hg5, trivial⟩
  clear hK K
  clear hfx he5 hfl
  try simp only [Act.put, List.setIfInBounds_toArray, List.set_cons_zero, List.set_cons_succ]
  refine wpAnyH_ready (rs := [5]) (by kernel_rfl) (by simp) ?_
  refine AllReadyH.cons (o := ⟨_, _, _, _, _, _⟩) rfl (fun K hK => ?_) AllReadyH.nil
  go_simp
  refine (writeCut_ok W5 bp p.enc p.hand mh _ fa fl fc _ (by rw [hand_eq]; exact hb5) (by rw [Player.length_enc]; omega) hf5 HRh.out HFX.out (by have := fillN_le g.n; have := HFL.out; omega)).mono ?_
  rintro e W2 ⟨rfl, h2, hR2, ho⟩
  rw [Player.hand_set] at ho
  have HR2 : Hid (Rep h2 (mh ++ List.replicate (fillN g.n) g.b)) := hR2
  have HO2 : Hid (Out W5 W2 bp ({ p with hand := h2 } : Player).enc) := ho
  have hz2 := (HO2.out.blk_other (c := bo + 1 + 1) (by omega) (by omega)).trans hz5
  have hzf2 := (HO2.out.free (c := bo + 1 + 1) (by omega)).trans hzf5
  dsimp only
  refine hK.out _ _ ?_ (fun hHeld => ?_)
  · exact ⟨(ho.blk_other (by omega) (by omega)).trans hg5, trivial⟩
  clear hK K
  clear ho hR2
  try simp only [Act.put, List.setIfInBounds_toArray, List.set_cons_zero, List.set_cons_succ]
  refine wpAnyH_take (i := 6) (oi := ⟨_, _, _, _, _, _⟩) (v := ?_) rfl (by kernel_rfl) (by kernel_rfl) (by kernel_rfl) (fun _ _ _ h => h) (Or.inl ⟨by rfl, ?_⟩) (by assumption) ?_
  rotate_left 1
  · intro W' hSw
    obtain ⟨hS1, hS2⟩ := hSw
    go_simp
    try with_reducible rfl
  try simp only [Act.put, List.setIfInBounds_toArray, List.set_cons_zero, List.set_cons_succ]
  refine wpAnyH_ready (rs := [7]) (by kernel_rfl) (by simp) ?_
  refine AllReadyH.cons (o := ⟨_, _, _, _, _, _⟩) rfl (fun K hK => ?_) AllReadyH.nil
  go_simp
  refine hK.out _ _ ?_ (fun hHeld => ?_)
  · exact ⟨by rw [blk_put, if_neg n6]; exact (HO2.out.blk_other (by omega) (by omega)).trans hg5, trivial⟩
  clear hK K
  try simp only [Act.put, List.setIfInBounds_toArray, List.set_cons_zero, List.set_cons_succ]
  refine wpAnyH_done (by kernel_rfl) ?_ _
  go_upto_region 38 with fail
  refine wp_world (fun W3 => blk W3 bp = some ({ p with hand := h2 } : Player).enc ∧ free W3 bp = true ∧ blk W3 (bo + 1) = some Answer.zero.enc ∧ free W3 (bo + 1) = true ∧ blk W3 (bo + 1 + 1) = some ({ Answer.zero with code := 0 } : Answer).enc ∧ free W3 (bo + 1 + 1) = true ∧ bo + 2 < W3.heap.size ∧ Hid (Out w W3 bp ({ p with hand := h2 } : Player).enc)) ?_ ?_
  · have hsz2 := HO2.out.size
    refine ⟨?_, ?_, ?_, ?_, ?_, ?_, ?_, ?_⟩
    · rw [blk_put, if_neg n1]; exact HO2.out.blk_at hb5
    · rw [free_put, HO2.out.free (by omega)]; exact hf5
    · rw [blk_put, if_neg n4, HO2.out.blk_other (by omega) (by omega)]; exact ha5
    · rw [free_put, HO2.out.free (by omega)]; exact haf5
    · rw [blk_put, if_pos rfl, hz2]; rfl
    · rw [free_put]; exact hzf2
    · rw [size_put]; omega
    · exact ((Out.of_ext HB.out HE5.out).step hlt HO2.out).put_new _ _ (by omega)
  clear hb1 hf1 hg1 ha1 haf1 hz1 hzf1 hsz1 HE1 hbs HO2 hb5 hf5 hg5 ha5 haf5 hz5 hzf5 hz2 hzf2 HE5 HFX
  obtain ⟨p2, hp2⟩ : ∃ p2, p2 = ({ p with hand := h2 } : Player) := ⟨_, rfl⟩
  rw [← hp2]
  have HP2 : Hid (p2 = ({ p with hand := h2 } : Player)) := hp2
  clear hp2
  rintro W3 ⟨hb3, hf3, ha3, haf3, hz3, hzf3, hsz3, HO3⟩
  go_wp2_with fail
  refine (hlen_any W3 bp 0 p2.enc p2.hand (by rw [hand_eq]; exact hb3) (by rw [Player.length_enc]; omega)).mono ?_
  rintro e W4 ⟨rfl, rfl⟩
  go_wp2_with fail
  refine (loglen_any _ bp p2 (by rw [blk_put, if_neg n1]; exact hb3)).mono ?_
  rintro e W4 ⟨rfl, rfl⟩
  go_wp2_with fail
  refine (collided_any _ bp p2 (by rw [blk_put, if_neg n1]; exact hb3)).mono ?_
  rintro e W4 ⟨rfl, rfl⟩
  go_wp2_with fail
  refine ret_cell (C := (stepAns 0 Z32 0 p2).enc) rfl rfl ?_ (by kernel_rfl) (by rw [Answer.length_enc]; kernel_rfl) rfl ?_
  · rw [blk_put, if_pos rfl]
    simp only [blk_put, n4, if_false, ha3]
    rfl
  · refine ⟨p2, rfl, ⟨?_, ?_, ?_, ?_⟩, ?_, ?_⟩
    · exact ((HO3.out.put_new _ _ (by omega)).put_new _ _ (by omega))
    · show Rep _ _
      rw [HP2.out]; exact HR2.out
    · show Rep _ _
      rw [HP2.out]; exact HRa.out
    · rw [HP2.out]
    · rw [HP2.out]
    · rw [HP2.out]
set_option maxRecDepth 20000 in
set_option maxHeartbeats 2000000 in
theorem step_8 (w : World) (bp : Nat) (p : Player) (g : GOp) (mh ma : List UInt8) (hb : blk w bp = some p.enc) (hf : free w bp = true) (hRh : Rep p.hand mh) (hRa : Rep p.aside ma) (hk : g.kind = 8) :
    Calls Try.prog 15 #[.pointer (some ⟨bp, 0, none⟩), .agg g.enc.toArray] w fun e w' => ∃ p' : Player, e = .returned (.agg (stepAns 0 Z32 0 p').enc.toArray) ∧ StepOut w w' bp p p' ma mh ∧ p'.prev = p.prev ∧ p'.last = p.last := by
  have hlt := blk_lt hb
  have HRh : Hid (Rep p.hand mh) := hRh
  have HRa : Hid (Rep p.aside ma) := hRa
  clear hRh hRa
  go_enter Try.func15, Try.ntmps15
  go_upto_region 4 with fail
  obtain ⟨bo, hbo⟩ : ∃ bo, bo = w.heap.size := ⟨_, rfl⟩
  rw [← hbo]
  refine wp_world (fun W => blk W bp = some p.enc ∧ free W bp = true ∧ blk W bo = some g.enc ∧ blk W (bo + 1) = some Answer.zero.enc ∧ free W (bo + 1) = true ∧ blk W (bo + 1 + 1) = some Answer.zero.enc ∧ free W (bo + 1 + 1) = true ∧ bo + 2 < W.heap.size ∧ Hid (Ext w W)) ⟨?_, ?_, ?_, ?_, ?_, ?_, ?_, ?_, ((((Ext.refl w).alloc _).alloc _).alloc _)⟩ ?_
  · rw [blk_alloc, if_neg (by simp only [World.size_alloc]; omega), blk_alloc, if_neg (by simp only [World.size_alloc]; omega), blk_alloc, if_neg (by omega)]; exact hb
  · rw [free_alloc, if_neg (by simp only [World.size_alloc]; omega), free_alloc, if_neg (by simp only [World.size_alloc]; omega), free_alloc, if_neg (by omega)]; exact hf
  · rw [hbo, blk_alloc, if_neg (by simp only [World.size_alloc]; omega), blk_alloc, if_neg (by simp only [World.size_alloc]; omega), blk_alloc, if_pos rfl]
  · rw [hbo, blk_alloc, if_neg (by simp only [World.size_alloc]; omega), blk_alloc, if_pos (by simp only [World.size_alloc])]
  · rw [hbo, free_alloc, if_neg (by simp only [World.size_alloc]; omega), free_alloc, if_pos (by simp only [World.size_alloc])]
  · rw [hbo, blk_alloc, if_pos (by simp only [World.size_alloc])]
  · rw [hbo, free_alloc, if_pos (by simp only [World.size_alloc])]
  · rw [hbo]; simp only [World.size_alloc]; omega
  have hbpo : bp < bo := by omega
  have hwb : w.heap.size ≤ bo := by omega
  clear hbo
  have HB : Hid (blk w bp = some p.enc) := hb
  clear hb hf
  have n1 : ¬ bp = bo + 1 + 1 := by omega
  have n2 : ¬ bo + 1 + 1 = bp := by omega
  have n3 : ¬ bo + 1 + 1 = bo := by omega
  have n4 : ¬ bo + 1 = bo + 1 + 1 := by omega
  have n5 : ¬ bo + 1 + 1 = bo + 1 := by omega
  have n6 : ¬ bo = bo + 1 + 1 := by omega
  rintro W ⟨hb1, hf1, hg1, ha1, haf1, hz1, hzf1, hsz1, HE1⟩
  have hbs : blk W bp = some (splice p.enc 0 p.hand.enc) := by rw [hand_eq]; exact hb1
  go_wp2_with fail
  refine wp_region_held_drew (S := fun _ => True) (by kernel_rfl) trivial (fun _ => ?_)
  refine wpAnyH_take (i := 0) (oi := ⟨_, _, _, _, _, _⟩) (v := ?_) rfl (by kernel_rfl) (by kernel_rfl) (by kernel_rfl) (fun _ _ _ h => h) (Or.inl ⟨by rfl, ?_⟩) trivial ?_
  rotate_left 1
  · intro W' hSw
    clear hSw
    go_simp
    try with_reducible rfl
  try simp only [Act.put, List.setIfInBounds_toArray, List.set_cons_zero, List.set_cons_succ]
  refine wpAnyH_take (i := 1) (oi := ⟨_, _, _, _, _, _⟩) (v := ?_) rfl (by kernel_rfl) (by kernel_rfl) (by kernel_rfl) (fun _ _ _ h => h) (Or.inl ⟨by rfl, ?_⟩) trivial ?_
  rotate_left 1
  · intro W' hSw
    clear hSw
    go_simp
    try with_reducible rfl
  try simp only [Act.put, List.setIfInBounds_toArray, List.set_cons_zero, List.set_cons_succ]
  refine wpAnyH_take (i := 2) (oi := ⟨_, _, _, _, _, _⟩) (v := ?_) rfl (by kernel_rfl) (by kernel_rfl) (by kernel_rfl) (fun _ _ _ h => h) (Or.inl ⟨by rfl, ?_⟩) trivial ?_
  rotate_left 1
  · intro W' hSw
    clear hSw
    go_simp
    try with_reducible rfl
  try simp only [Act.put, List.setIfInBounds_toArray, List.set_cons_zero, List.set_cons_succ]
  refine wpAnyH_take (i := 3) (oi := ⟨_, _, _, _, _, _⟩) (v := ?_) rfl (by kernel_rfl) (by kernel_rfl) (by kernel_rfl) (fun _ _ _ h => h) (Or.inl ⟨by rfl, ?_⟩) trivial ?_
  rotate_left 1
  · intro W' hSw
    clear hSw
    go_simp
    try with_reducible rfl
  try simp only [Act.put, List.setIfInBounds_toArray, List.set_cons_zero, List.set_cons_succ]
  refine wpAnyH_take (i := 4) (oi := ⟨_, _, _, _, _, _⟩) (v := ?_) rfl (by kernel_rfl) (by kernel_rfl) (by kernel_rfl) (fun _ _ _ h => h) (Or.inl ⟨by rfl, ?_⟩) trivial ?_
  rotate_left 1
  · intro W' hSw
    clear hSw
    go_simp
    try with_reducible rfl
  try simp only [Act.put, List.setIfInBounds_toArray, List.set_cons_zero, List.set_cons_succ]
  refine wpAnyH_take (i := 6) (oi := ⟨_, _, _, _, _, _⟩) (v := ?_) rfl (by kernel_rfl) (by kernel_rfl) (by kernel_rfl) (fun _ _ _ h => h) (Or.inl ⟨by rfl, ?_⟩) trivial ?_
  rotate_left 1
  · intro W' hSw
    clear hSw
    go_simp
    try with_reducible rfl
  try simp only [Act.put, List.setIfInBounds_toArray, List.set_cons_zero, List.set_cons_succ]
  refine wpAnyH_take (i := 7) (oi := ⟨_, _, _, _, _, _⟩) (v := ?_) rfl (by kernel_rfl) (by kernel_rfl) (by kernel_rfl) (fun _ _ _ h => h) (Or.inl ⟨by rfl, ?_⟩) trivial ?_
  rotate_left 1
  · intro W' hSw
    clear hSw
    go_simp
    try with_reducible rfl
  try simp only [Act.put, List.setIfInBounds_toArray, List.set_cons_zero, List.set_cons_succ]
  refine wpAnyH_take (i := 8) (oi := ⟨_, _, _, _, _, _⟩) (v := ?_) rfl (by kernel_rfl) (by kernel_rfl) (by kernel_rfl) (fun _ _ _ h => h) (Or.inl ⟨by rfl, ?_⟩) trivial ?_
  rotate_left 1
  · intro W' hSw
    clear hSw
    go_simp
    try with_reducible rfl
  try simp only [Act.put, List.setIfInBounds_toArray, List.set_cons_zero, List.set_cons_succ]
  refine wpAnyH_ready (rs := [5, 9]) (by kernel_rfl) (by simp) ?_
  refine AllReadyH.cons (o := ⟨_, _, _, _, _, _⟩) rfl (fun K hK => ?_) (AllReadyH.cons (o := ⟨_, _, _, _, _, _⟩) rfl (fun K hK => ?_) AllReadyH.nil)
  · go_simp
    refine hK.out _ _ trivial (fun _ => ?_)
    clear hK K
    try simp only [Act.put, List.setIfInBounds_toArray, List.set_cons_zero, List.set_cons_succ]
    refine wpAnyH_ready (rs := [9]) (by kernel_rfl) (by simp) ?_
    refine AllReadyH.cons (o := ⟨_, _, _, _, _, _⟩) rfl (fun K hK => ?_) AllReadyH.nil
    go_simp
    refine hK.out _ _ trivial (fun _ => ?_)
    clear hK K
    try simp only [Act.put, List.setIfInBounds_toArray, List.set_cons_zero, List.set_cons_succ]
    refine wpAnyH_take (i := 10) (oi := ⟨_, _, _, _, _, _⟩) (v := ?_) rfl (by kernel_rfl) (by kernel_rfl) (by kernel_rfl) (fun _ _ _ h => h) (Or.inl ⟨by rfl, ?_⟩) trivial ?_
    rotate_left 1
    · intro W' hSw
      clear hSw
      go_simp
      try with_reducible rfl
    try simp only [Act.put, List.setIfInBounds_toArray, List.set_cons_zero, List.set_cons_succ]
    refine wpAnyH_take (i := 11) (oi := ⟨_, _, _, _, _, _⟩) (v := ?_) rfl (by kernel_rfl) (by kernel_rfl) (by kernel_rfl) (fun _ _ _ h => h) (Or.inl ⟨by rfl, ?_⟩) trivial ?_
    rotate_left 1
    · intro W' hSw
      clear hSw
      go_simp
      try with_reducible rfl
    try simp only [Act.put, List.setIfInBounds_toArray, List.set_cons_zero, List.set_cons_succ]
    refine wpAnyH_ready (rs := [12]) (by kernel_rfl) (by simp) ?_
    refine AllReadyH.cons (o := ⟨_, _, _, _, _, _⟩) rfl (fun K hK => ?_) AllReadyH.nil
    go_simp
    refine hK.out _ _ trivial (fun _ => ?_)
    clear hK K
    try simp only [Act.put, List.setIfInBounds_toArray, List.set_cons_zero, List.set_cons_succ]
    refine wpAnyH_take (i := 13) (oi := ⟨_, _, _, _, _, _⟩) (v := ?_) rfl (by kernel_rfl) (by kernel_rfl) (by kernel_rfl) (fun _ _ _ h => h) (Or.inl ⟨by rfl, ?_⟩) trivial ?_
    rotate_left 1
    · intro W' hSw
      clear hSw
      go_simp
      try with_reducible rfl
    try simp only [Act.put, List.setIfInBounds_toArray, List.set_cons_zero, List.set_cons_succ]
    refine wpAnyH_take (i := 14) (oi := ⟨_, _, _, _, _, _⟩) (v := ?_) rfl (by kernel_rfl) (by kernel_rfl) (by kernel_rfl) (fun _ _ _ h => h) (Or.inl ⟨by rfl, ?_⟩) trivial ?_
    rotate_left 1
    · intro W' hSw
      clear hSw
      go_simp
      try with_reducible rfl
    try simp only [Act.put, List.setIfInBounds_toArray, List.set_cons_zero, List.set_cons_succ]
    refine wpAnyH_ready (rs := [15]) (by kernel_rfl) (by simp) ?_
    refine AllReadyH.cons (o := ⟨_, _, _, _, _, _⟩) rfl (fun K hK => ?_) AllReadyH.nil
    go_simp
    refine hK.out _ _ trivial (fun _ => ?_)
    clear hK K
    try simp only [Act.put, List.setIfInBounds_toArray, List.set_cons_zero, List.set_cons_succ]
    refine wpAnyH_done (by kernel_rfl) ?_ _
    go_upto_region 38 with fail
    refine wp_world (fun W3 => blk W3 bp = some ({ p with hand := p.aside, aside := p.hand } : Player).enc ∧ free W3 bp = true ∧ blk W3 (bo + 1) = some Answer.zero.enc ∧ free W3 (bo + 1) = true ∧ blk W3 (bo + 1 + 1) = some (Answer.zero : Answer).enc ∧ free W3 (bo + 1 + 1) = true ∧ bo + 2 < W3.heap.size ∧ Hid (Out w W3 bp ({ p with hand := p.aside, aside := p.hand } : Player).enc)) ?_ ?_
    · refine ⟨?_, ?_, ?_, ?_, ?_, ?_, ?_, ?_⟩
      · simp only [blk_drew, blk_put, if_true, hb1, Option.map_some]
      · simp only [free_drew, free_put]; exact hf1
      · simp only [blk_drew, blk_put]; rw [if_neg (by omega)]; exact ha1
      · simp only [free_drew, free_put]; exact haf1
      · simp only [blk_drew, blk_put]; rw [if_neg n2]; exact hz1
      · simp only [free_drew, free_put]; exact hzf1
      · show _ < (put W bp _).heap.size
        rw [size_put]; exact hsz1
      · exact ((Out.of_ext HB.out HE1.out).put _ hlt).drew
    clear hb1 hf1 hg1 ha1 haf1 hz1 hzf1 hsz1 HE1 hbs
    obtain ⟨p2, hp2⟩ : ∃ p2, p2 = ({ p with hand := p.aside, aside := p.hand } : Player) := ⟨_, rfl⟩
    rw [← hp2]
    have HP2 : Hid (p2 = ({ p with hand := p.aside, aside := p.hand } : Player)) := hp2
    clear hp2
    rintro W3 ⟨hb3, hf3, ha3, haf3, hz3, hzf3, hsz3, HO3⟩
    go_wp2_with fail
    refine (hlen_any W3 bp 0 p2.enc p2.hand (by rw [hand_eq]; exact hb3) (by rw [Player.length_enc]; omega)).mono ?_
    rintro e W4 ⟨rfl, rfl⟩
    go_wp2_with fail
    refine (loglen_any _ bp p2 (by rw [blk_put, if_neg n1]; exact hb3)).mono ?_
    rintro e W4 ⟨rfl, rfl⟩
    go_wp2_with fail
    refine (collided_any _ bp p2 (by rw [blk_put, if_neg n1]; exact hb3)).mono ?_
    rintro e W4 ⟨rfl, rfl⟩
    go_wp2_with fail
    refine ret_cell (C := (stepAns 0 Z32 0 p2).enc) rfl rfl ?_ (by kernel_rfl) (by rw [Answer.length_enc]; kernel_rfl) rfl ?_
    · rw [blk_put, if_pos rfl]
      simp only [blk_put, n4, if_false, ha3]
      rfl
    · refine ⟨p2, rfl, ⟨?_, ?_, ?_, ?_⟩, ?_, ?_⟩
      · exact ((HO3.out.put_new _ _ (by omega)).put_new _ _ (by omega))
      · show Rep _ _
        rw [HP2.out]; exact HRa.out
      · show Rep _ _
        rw [HP2.out]; exact HRh.out
      · rw [HP2.out]
      · rw [HP2.out]
      · rw [HP2.out]
  · go_simp
    refine hK.out _ _ trivial (fun _ => ?_)
    clear hK K
    try simp only [Act.put, List.setIfInBounds_toArray, List.set_cons_zero, List.set_cons_succ]
    refine wpAnyH_ready (rs := [5]) (by kernel_rfl) (by simp) ?_
    refine AllReadyH.cons (o := ⟨_, _, _, _, _, _⟩) rfl (fun K hK => ?_) AllReadyH.nil
    go_simp
    refine hK.out _ _ trivial (fun _ => ?_)
    clear hK K
    try simp only [Act.put, List.setIfInBounds_toArray, List.set_cons_zero, List.set_cons_succ]
    refine wpAnyH_take (i := 10) (oi := ⟨_, _, _, _, _, _⟩) (v := ?_) rfl (by kernel_rfl) (by kernel_rfl) (by kernel_rfl) (fun _ _ _ h => h) (Or.inl ⟨by rfl, ?_⟩) trivial ?_
    rotate_left 1
    · intro W' hSw
      clear hSw
      go_simp
      try with_reducible rfl
    try simp only [Act.put, List.setIfInBounds_toArray, List.set_cons_zero, List.set_cons_succ]
    refine wpAnyH_take (i := 11) (oi := ⟨_, _, _, _, _, _⟩) (v := ?_) rfl (by kernel_rfl) (by kernel_rfl) (by kernel_rfl) (fun _ _ _ h => h) (Or.inl ⟨by rfl, ?_⟩) trivial ?_
    rotate_left 1
    · intro W' hSw
      clear hSw
      go_simp
      try with_reducible rfl
    try simp only [Act.put, List.setIfInBounds_toArray, List.set_cons_zero, List.set_cons_succ]
    refine wpAnyH_ready (rs := [12]) (by kernel_rfl) (by simp) ?_
    refine AllReadyH.cons (o := ⟨_, _, _, _, _, _⟩) rfl (fun K hK => ?_) AllReadyH.nil
    go_simp
    refine hK.out _ _ trivial (fun _ => ?_)
    clear hK K
    try simp only [Act.put, List.setIfInBounds_toArray, List.set_cons_zero, List.set_cons_succ]
    refine wpAnyH_take (i := 13) (oi := ⟨_, _, _, _, _, _⟩) (v := ?_) rfl (by kernel_rfl) (by kernel_rfl) (by kernel_rfl) (fun _ _ _ h => h) (Or.inl ⟨by rfl, ?_⟩) trivial ?_
    rotate_left 1
    · intro W' hSw
      clear hSw
      go_simp
      try with_reducible rfl
    try simp only [Act.put, List.setIfInBounds_toArray, List.set_cons_zero, List.set_cons_succ]
    refine wpAnyH_take (i := 14) (oi := ⟨_, _, _, _, _, _⟩) (v := ?_) rfl (by kernel_rfl) (by kernel_rfl) (by kernel_rfl) (fun _ _ _ h => h) (Or.inl ⟨by rfl, ?_⟩) trivial ?_
    rotate_left 1
    · intro W' hSw
      clear hSw
      go_simp
      try with_reducible rfl
    try simp only [Act.put, List.setIfInBounds_toArray, List.set_cons_zero, List.set_cons_succ]
    refine wpAnyH_ready (rs := [15]) (by kernel_rfl) (by simp) ?_
    refine AllReadyH.cons (o := ⟨_, _, _, _, _, _⟩) rfl (fun K hK => ?_) AllReadyH.nil
    go_simp
    refine hK.out _ _ trivial (fun _ => ?_)
    clear hK K
    try simp only [Act.put, List.setIfInBounds_toArray, List.set_cons_zero, List.set_cons_succ]
    refine wpAnyH_done (by kernel_rfl) ?_ _
    go_upto_region 38 with fail
    refine wp_world (fun W3 => blk W3 bp = some ({ p with hand := p.aside, aside := p.hand } : Player).enc ∧ free W3 bp = true ∧ blk W3 (bo + 1) = some Answer.zero.enc ∧ free W3 (bo + 1) = true ∧ blk W3 (bo + 1 + 1) = some (Answer.zero : Answer).enc ∧ free W3 (bo + 1 + 1) = true ∧ bo + 2 < W3.heap.size ∧ Hid (Out w W3 bp ({ p with hand := p.aside, aside := p.hand } : Player).enc)) ?_ ?_
    · refine ⟨?_, ?_, ?_, ?_, ?_, ?_, ?_, ?_⟩
      · simp only [blk_drew, blk_put, if_true, hb1, Option.map_some]
      · simp only [free_drew, free_put]; exact hf1
      · simp only [blk_drew, blk_put]; rw [if_neg (by omega)]; exact ha1
      · simp only [free_drew, free_put]; exact haf1
      · simp only [blk_drew, blk_put]; rw [if_neg n2]; exact hz1
      · simp only [free_drew, free_put]; exact hzf1
      · show _ < (put W bp _).heap.size
        rw [size_put]; exact hsz1
      · exact ((Out.of_ext HB.out HE1.out).put _ hlt).drew
    clear hb1 hf1 hg1 ha1 haf1 hz1 hzf1 hsz1 HE1 hbs
    obtain ⟨p2, hp2⟩ : ∃ p2, p2 = ({ p with hand := p.aside, aside := p.hand } : Player) := ⟨_, rfl⟩
    rw [← hp2]
    have HP2 : Hid (p2 = ({ p with hand := p.aside, aside := p.hand } : Player)) := hp2
    clear hp2
    rintro W3 ⟨hb3, hf3, ha3, haf3, hz3, hzf3, hsz3, HO3⟩
    go_wp2_with fail
    refine (hlen_any W3 bp 0 p2.enc p2.hand (by rw [hand_eq]; exact hb3) (by rw [Player.length_enc]; omega)).mono ?_
    rintro e W4 ⟨rfl, rfl⟩
    go_wp2_with fail
    refine (loglen_any _ bp p2 (by rw [blk_put, if_neg n1]; exact hb3)).mono ?_
    rintro e W4 ⟨rfl, rfl⟩
    go_wp2_with fail
    refine (collided_any _ bp p2 (by rw [blk_put, if_neg n1]; exact hb3)).mono ?_
    rintro e W4 ⟨rfl, rfl⟩
    go_wp2_with fail
    refine ret_cell (C := (stepAns 0 Z32 0 p2).enc) rfl rfl ?_ (by kernel_rfl) (by rw [Answer.length_enc]; kernel_rfl) rfl ?_
    · rw [blk_put, if_pos rfl]
      simp only [blk_put, n4, if_false, ha3]
      rfl
    · refine ⟨p2, rfl, ⟨?_, ?_, ?_, ?_⟩, ?_, ?_⟩
      · exact ((HO3.out.put_new _ _ (by omega)).put_new _ _ (by omega))
      · show Rep _ _
        rw [HP2.out]; exact HRa.out
      · show Rep _ _
        rw [HP2.out]; exact HRh.out
      · rw [HP2.out]
      · rw [HP2.out]
      · rw [HP2.out]
end Go.Proofs.Qxb6500785a
