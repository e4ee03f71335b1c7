
import Derived.Test.Qxb6500787aGreatRy
import Derived.StillTailTactics
import Derived.Deep.QuietTactic
import Derived.BigQuiet
import Derived.Deep.RegionHeld
import Derived.Deep.CutRange
import Derived.Laws.ResultCell
import Derived.Laws.Rows
import Derived.DeepKeys
import Derived.DataBytes
import Derived.Laws.StructEq
import Derived.Laws.AppendOwn
import Derived.Laws.MakeOwn
import Derived.Lib.AppendStr
set_option linter.unusedSimpArgs false
set_option linter.unusedVariables false
namespace Go.Proofs.Qxb6500787aGreat
open Go.RowKit Go.Blk
attribute [local go_sem ↓] execOp_load execOp_store execOp_alloc
attribute [local go_sem] Tryz.ld26 Tryz.st26 Tryz.ld27 Tryz.st27 Tryz.ld28 Tryz.st28 Tryz.ld3 Tryz.st3 Tryz.ld29 Tryz.st29 Tryz.ld4 Tryz.st4 Tryz.ld50 Tryz.st50 Tryz.ld68 Tryz.st68 Tryz.ld9 Tryz.st9 Tryz.ld2 Tryz.st2 Tryz.ld5 Tryz.st5 Tryz.ld12 Tryz.st12 Tryz.ld21 Tryz.st21 Tryz.ld22 Tryz.st22 Tryz.ld24 Tryz.st24 Tryz.ld32 Tryz.st32 Tryz.ld40 Tryz.st40 Tryz.ld44 Tryz.st44 Tryz.ld49 Tryz.st49 Tryz.ld58 Tryz.st58 Tryz.ld97 Tryz.st97 Tryz.ld101 Tryz.st101 Tryz.ld116 Tryz.st116 Tryz.ld121 Tryz.st121 Tryz.ld135 Tryz.st135 Tryz.ld136 Tryz.st136 Tryz.ld138 Tryz.st138 Tryz.ld139 Tryz.st139 Tryz.ld142 Tryz.st142 Tryz.ld143 Tryz.st143 Tryz.ld146 Tryz.st146 Tryz.ld148 Tryz.st148 Tryz.ld154 Tryz.st154 Tryz.ld159 Tryz.st159 Tryz.ld173 Tryz.st173 Tryz.ld183 Tryz.st183 Tryz.ld184 Tryz.st184 Tryz.ld187 Tryz.st187 Tryz.ld192 Tryz.st192 Tryz.ld195 Tryz.st195 Tryz.ld217 Tryz.st217 Tryz.ld222 Tryz.st222 Tryz.ld241 Tryz.st241 Tryz.ld248 Tryz.st248 Tryz.ld268 Tryz.st268 Tryz.ld272 Tryz.st272 Tryz.ld129 Tryz.st129 Tryz.ld31 Tryz.st31 Tryz.ld52 Tryz.st52 Tryz.ld70 Tryz.st70 Tryz.ld74 Tryz.st74 Tryz.ld93 Tryz.st93 Tryz.al129 Tryz.al31 Tryz.al52 Tryz.al70 Tryz.al74 Tryz.al93
attribute [local go_sem] Request.length_enc Request.ok_enc Request.all_get Request.all_set Request.kind_get Request.kind_set Request.blob_get Request.blob_set Request.items_get Request.items_set Request.pred_get Request.pred_set Request.slots_get Request.slots_set Item.length_enc Item.ok_enc Item.all_get Item.all_set Item.del_get Item.del_set Item.pred_get Item.pred_set Item.args_get Item.args_set GOp.length_enc GOp.ok_enc GOp.all_get GOp.all_set GOp.kind_get GOp.kind_set GOp.raw_get GOp.raw_set Reader.length_enc Reader.ok_enc Reader.all_get Reader.all_set Reader.buf_get Reader.buf_set Reader.at__get Reader.at__set Slot.length_enc Slot.ok_enc Slot.all_get Slot.all_set Slot.bound_get Slot.bound_set Slot.name_get Slot.name_set
attribute [local go_sem] size_put size_ext blk_put free_put blk_alloc free_alloc blk_drew free_drew blk_ext free_ext lookOr_some putOr_some segAt_some cellAt_some storeIn_some put_put put_alloc_new length_arr ok_arr_u8 ok_arr_u32 ok_arr_u64 ok_arr_i64 ok_arr_sl cellsV_agg cellsV_int cellsV_bool cellsV_string cellsV_pointer cellsV_slice cellsV_sl ok_int ok_bool ok_string ok_pointer ok_slice ok_sl toList_arr seg_arr set_arr nth_splice nth_splice0 seg_splice seg_splice0 splice_splice splice_splice0 length_splice_if
attribute [local go_sem ↓] execOp_box
attribute [local go_sem] box_run nth_arr_u8 put_arr_u8 blk_drewN free_drewN put_drewN blk_raw free_raw
/-- A text of bounded size, perhaps empty. -/
def TPost (W : World) (m : Nat) (e : Ending) (W' : World) : Prop := ∃ s : ByteArray, e = .returned (.string s) ∧ s.size ≤ m ∧ W.Extends W'
theorem hexDigit_any (W : World) (n : Nat) (hn : n < 16) : Calls Tryz.prog 153 #[.int .u8 (n : Int)] W fun e W' => (∃ y : UInt8, e = .returned (.int .u8 (w8 y))) ∧ W' = W := by
  by_cases h : n < 10
  · have h' : (n : Int) < 10 := by omega
    have e1 : IntKind.u8.wrap (48 + (n : Int)) = w8 (UInt8.ofNat (48 + n)) := by unfold w8; rw [IntKind.wrap_u8, UInt8.toNat_ofNat']; omega
    go_enter Tryz.func153, Tryz.ntmps153
    go_wp2_with fail
    go_ret
    exact ⟨⟨_, rfl⟩, rfl⟩
  · have h' : ¬ (n : Int) < 10 := by omega
    go_enter Tryz.func153, Tryz.ntmps153
    go_wp2_with fail
    go_ret
    have e2 : (97 + (n : Int) - 10) = w8 (UInt8.ofNat (87 + n)) := by unfold w8; rw [UInt8.toNat_ofNat']; omega
    refine ⟨⟨UInt8.ofNat (87 + n), ?_⟩, rfl⟩
    rw [← e2]
    rfl
def zerosA (c : Nat) : Array Value := (bv (List.replicate c 0)).toArray
theorem made_zeros (c : Nat) : madeCells (Value.int .u8 0).cells c = zerosA c := by
  apply Array.ext
  · simp [madeCells, zerosA, length_bv]
  · intro i h1 h2
    simp [madeCells, zerosA, bv, Value.cells]
    rw [Nat.mod_one]
    rfl
theorem make27 (w : World) (l c : Nat) (h : l ≤ c) (hc : c ≤ 281474976710656) : (makeOp 31 (.int .i64 (l : Int)) (.int .i64 (c : Int))).run Tryz.prog w = .ok (.value (.slice (some ⟨w.heap.size, 0, none⟩) l c)) (w.alloc (.cells (zerosA c) 5)) := by
  obtain ⟨i, hi, hz, hsz, hby⟩ := info5z
  have hr := run_make (P := Tryz.prog) w 31 5 i _ Tryz.underlying31 hi hz .i64 .i64 (l : Int) (c : Int) (by omega) (by omega) (by rw [hby]; omega) (by omega)
  unfold makeOp
  rw [Sem.run_bind, hr, hsz, Int.toNat_natCast, Int.toNat_natCast, Nat.mul_one, made_zeros]
  rfl
theorem made_ob (w : World) (c : Nat) (hc : c ≤ 281474976710656) : Ob w (w.alloc (.cells (zerosA c) 5)) (some ⟨w.heap.size, 0, none⟩) 0 c [] := by
  refine ⟨⟨rfl, .inr ⟨w.heap.size, c, zerosA c, rfl, Nat.le_refl _, ?_, Nat.zero_le _, by simp only [maxLen]; omega, ?_, rfl⟩⟩, extends_alloc (ext_Ext (Ext.refl w)) _, rfl⟩
  · rw [heap_alloc, if_pos rfl]
  · simp [zerosA, length_bv]
theorem Ob.bs {w0 W : World} {a : Option Addr} {n c : Nat} {zs : List UInt8} (h : Ob w0 W a n c zs) : Bs W a n zs := by
  have := (bs_own (W := W) (B := w0.heap.size) (a := a) (n := n) (c := c) (xs := zs) h.1).1
  exact this
set_option maxRecDepth 100000 in
theorem frame81 (f : Nat → Value) : frameN 81 f = #[f 0, f 1, f 2, f 3, f 4, f 5, f 6, f 7, f 8, f 9, f 10, f 11, f 12, f 13, f 14, f 15, f 16, f 17, f 18, f 19, f 20, f 21, f 22, f 23, f 24, f 25, f 26, f 27, f 28, f 29, f 30, f 31, f 32, f 33, f 34, f 35, f 36, f 37, f 38, f 39, f 40, f 41, f 42, f 43, f 44, f 45, f 46, f 47, f 48, f 49, f 50, f 51, f 52, f 53, f 54, f 55, f 56, f 57, f 58, f 59, f 60, f 61, f 62, f 63, f 64, f 65, f 66, f 67, f 68, f 69, f 70, f 71, f 72, f 73, f 74, f 75, f 76, f 77, f 78, f 79, f 80] := by kernel_rfl
def quI (w : World) (s : ByteArray) (f : Nat → Value) (W : World) : Prop := f 0 = .string s ∧ ∃ (i : Nat) (a : Option Addr) (n c : Nat), i ≤ s.size ∧ f 4 = .int .i64 (i : Nat) ∧ f 3 = .slice a n c ∧ Hid (∃ zs, Ob w W a n c zs ∧ zs.length ≤ 4 * i)
attribute [local go_sem ↓] execOp_slice execOp_convert execOp_add9 execOp_index execOp_make execOp_bslice
attribute [local go_sem] Tryz.sl129lo add_run bslice27a bslice27d
set_option maxRecDepth 20000 in
set_option maxHeartbeats 2000000 in
theorem quote_any (w : World) (nm : List UInt8) (hN : nm.length ≤ 64) : Calls Tryz.prog 125 #[.string ⟨nm.toArray⟩] w (TPost w 256) := by
  obtain ⟨s, hs⟩ : ∃ s : ByteArray, s = ⟨nm.toArray⟩ := ⟨_, rfl⟩
  obtain ⟨k, hk⟩ : ∃ k, k = nm.length := ⟨_, rfl⟩
  have hss : s.size = k := by rw [hs, hk]; simp [ByteArray.size]
  have hk64 : k ≤ 64 := by omega
  have HS : Hid (s = ⟨nm.toArray⟩) := hs
  have HK : Hid (k = nm.length) := hk
  rw [← hs]
  clear hs hk
  have m1 := fun w : World => make27 w 0 k (by omega) (by omega)
  simp only [Int.natCast_zero] at m1
  go_enter Tryz.func125, Tryz.ntmps125
  go_upto_region 2 with fail
  refine wp_world (fun W => Hid (∃ zs, Ob w W (some ⟨w.heap.size, 0, none⟩) 0 k zs ∧ zs.length ≤ 4 * 0)) ⟨[], made_ob w k (by omega), by simp⟩ ?_
  clear m1
  intro W0 HO0
  go_wp2_with fail
  refine wp_loop_f 81 (quI w s) (fun f _ => s.size - (intOf (f 4)).toNat) rfl ⟨rfl, 0, _, 0, k, by omega, rfl, rfl, HO0⟩ ?_
  clear HO0
  intro F V hrel
  obtain ⟨f0, i, a, n, c, hi, f4, f3, HO⟩ := hrel
  have H4 : Hid (F 4 = .int .i64 (i : Nat)) := f4
  rw [frame81, f0, f4, f3]
  clear f0 f4 f3
  by_cases hin : i < k
  · have hin' : (i : Int) < (k : Int) := by omega
    obtain ⟨x, hx⟩ : ∃ x, nm[i]? = some x := ⟨_, List.getElem?_eq_getElem (by rw [← HK.out]; exact hin)⟩
    have hix := fun w : World => index_str w nm i x hx
    rw [← HS.out] at hix
    obtain ⟨v0, v1⟩ := w8_le x
    obtain ⟨v, hv⟩ : ∃ v, v = w8 x := ⟨_, rfl⟩
    obtain ⟨zs, hob, hzl⟩ := HO.out
    obtain ⟨a3, c3, W3, hr3, ho3, hn3⟩ := ob_app hob (by omega) [x] (by simp) (by simp) #[.int .u8 v] (by rw [hv]; rfl) 1 rfl
    have HQ3 : Hid (∃ zs, Ob w W3 a3 (n + 1) c3 zs ∧ zs.length ≤ 4 * (i + 1)) := ⟨_, ho3, by simp; omega⟩
    have HOB : Hid (Ob w V a n c zs) := hob
    rw [← hv] at hix v0 v1
    obtain ⟨hi4, hh⟩ : ∃ k, k = x.toNat / 16 := ⟨_, rfl⟩
    obtain ⟨lo4, hlo⟩ : ∃ k, k = x.toNat % 16 := ⟨_, rfl⟩
    have hx8 := w8_lt x
    have g1 : v / 16 = (hi4 : Int) := by rw [hv]; unfold w8; omega
    have g2 : Int.fdiv v 16 = (hi4 : Int) := by rw [Int.fdiv_eq_ediv_of_nonneg _ (by decide)]; exact g1
    have g3 : bits .and .u8 v 15 = (lo4 : Int) := by
      have := bits_mask .u8 8 (by decide) (fun n h0 h1 => by rw [IntKind.wrap_u8]; omega) 4 (by decide) v (by omega) (by omega)
      have h15 : bits .and .u8 v 15 = v % 16 := by simpa using this
      rw [h15, hv]; unfold w8; omega
    have g4 : hi4 < 16 := by omega
    have g5 : lo4 < 16 := by omega
    clear ho3 hn3 hx hob hh hlo hx8 hv
    go_upto_region 6 with fail
    go_cut [5, 6] from 10 to 78 (fun s5 s6 wx => s5 = .int .u8 v ∧ (∃ b : Bool, s6 = .bool b) ∧ wx = V)
    case first =>
      clear hix hr3 HQ3 HOB HO HS HK
      go_wp2_with fail
      all_goals
        go_meet
        exact ⟨by first | rfl | (show Value.int .u8 _ = Value.int .u8 v; congr 1; omega), ⟨_, rfl⟩, rfl⟩
    case rest =>
      obtain ⟨rfl, ⟨pb, rfl⟩, rfl⟩ := hcut
      cases pb
      · go_wp2_with fail
        refine (hexDigit_any _ hi4 g4).mono ?_
        rintro e W1 ⟨⟨y1, rfl⟩, rfl⟩
        dsimp only
        go_wp2_with fail
        refine (hexDigit_any _ lo4 g5).mono ?_
        rintro e W1 ⟨⟨y2, rfl⟩, rfl⟩
        dsimp only
        obtain ⟨a4, c4, W4, hr4, ho4, hn4⟩ := ob_app HOB.out (by omega) [92, 120, y1, y2] (by simp) (by simp) #[.int .u8 92, .int .u8 120, .int .u8 (w8 y1), .int .u8 (w8 y2)] rfl 4 rfl
        have HQ4 : Hid (∃ zs, Ob w W4 a4 (n + 4) c4 zs ∧ zs.length ≤ 4 * (i + 1)) := ⟨_, ho4, by simp; omega⟩
        clear ho4 hn4
        go_wp2_with (at_builtin; refine wpList_append_run rfl _ _ 31 rfl _ _ _ _ rfl rfl hr4 ?_)
        refine ⟨rfl, rfl, ⟨rfl, i + 1, a4, n + 4, c4, by omega, ?_, rfl, HQ4⟩, ?_⟩
        · show Value.int .i64 _ = _
          go_num
        · show s.size - (intOf (Value.int .i64 _)).toNat < s.size - (intOf (F 4)).toNat
          rw [H4.out]
          simp [intOf]; omega
      · go_wp2_with (at_builtin; refine wpList_append_run rfl _ _ 31 rfl _ _ _ _ rfl rfl hr3 ?_)
        refine ⟨rfl, rfl, ⟨rfl, i + 1, a3, n + 1, c3, by omega, ?_, rfl, HQ3⟩, ?_⟩
        · show Value.int .i64 _ = _
          go_num
        · show s.size - (intOf (Value.int .i64 _)).toNat < s.size - (intOf (F 4)).toNat
          rw [H4.out]
          simp [intOf]; omega
  · obtain rfl : i = k := by omega
    have hin' : ¬ ((i : Int) < (i : Int)) := by omega
    obtain ⟨zs, hob, hzl⟩ := HO.out
    have hcv := conv_str (c := c) hob.bs
    have HP : Hid (TPost w 256 (.returned (.string ⟨zs.toArray⟩)) V) := ⟨_, rfl, by simp [ByteArray.size]; omega, hob.2.1⟩
    clear HO hob
    go_wp2_with fail
    go_ret
    exact HP.out
end Go.Proofs.Qxb6500787aGreat
