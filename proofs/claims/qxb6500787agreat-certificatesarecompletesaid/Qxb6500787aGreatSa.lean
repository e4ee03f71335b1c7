
import Derived.Test.Qxb6500787aGreatRz
import Derived.StillTailTactics
import Derived.Deep.QuietTactic
import Derived.BigQuiet
import Derived.Deep.RegionHeld
import Derived.Deep.CutRange
import Derived.Laws.ResultCell
import Derived.Laws.Rows
import Derived.DeepKeys
import Derived.DataBytes
import Derived.Laws.StructEq
import Derived.Laws.AppendOwn
import Derived.Laws.MakeOwn
import Derived.Lib.AppendStr
set_option linter.unusedSimpArgs false
set_option linter.unusedVariables false
namespace Go.Proofs.Qxb6500787aGreat
open Go.RowKit Go.Blk
attribute [local go_sem ↓] execOp_load execOp_store execOp_alloc
attribute [local go_sem] Tryz.ld26 Tryz.st26 Tryz.ld27 Tryz.st27 Tryz.ld28 Tryz.st28 Tryz.ld3 Tryz.st3 Tryz.ld29 Tryz.st29 Tryz.ld4 Tryz.st4 Tryz.ld50 Tryz.st50 Tryz.ld68 Tryz.st68 Tryz.ld9 Tryz.st9 Tryz.ld2 Tryz.st2 Tryz.ld5 Tryz.st5 Tryz.ld12 Tryz.st12 Tryz.ld21 Tryz.st21 Tryz.ld22 Tryz.st22 Tryz.ld24 Tryz.st24 Tryz.ld32 Tryz.st32 Tryz.ld40 Tryz.st40 Tryz.ld44 Tryz.st44 Tryz.ld49 Tryz.st49 Tryz.ld58 Tryz.st58 Tryz.ld97 Tryz.st97 Tryz.ld101 Tryz.st101 Tryz.ld116 Tryz.st116 Tryz.ld121 Tryz.st121 Tryz.ld135 Tryz.st135 Tryz.ld136 Tryz.st136 Tryz.ld138 Tryz.st138 Tryz.ld139 Tryz.st139 Tryz.ld142 Tryz.st142 Tryz.ld143 Tryz.st143 Tryz.ld146 Tryz.st146 Tryz.ld148 Tryz.st148 Tryz.ld154 Tryz.st154 Tryz.ld159 Tryz.st159 Tryz.ld173 Tryz.st173 Tryz.ld183 Tryz.st183 Tryz.ld184 Tryz.st184 Tryz.ld187 Tryz.st187 Tryz.ld192 Tryz.st192 Tryz.ld195 Tryz.st195 Tryz.ld217 Tryz.st217 Tryz.ld222 Tryz.st222 Tryz.ld241 Tryz.st241 Tryz.ld248 Tryz.st248 Tryz.ld268 Tryz.st268 Tryz.ld272 Tryz.st272 Tryz.ld129 Tryz.st129 Tryz.ld31 Tryz.st31 Tryz.ld52 Tryz.st52 Tryz.ld70 Tryz.st70 Tryz.ld74 Tryz.st74 Tryz.ld93 Tryz.st93 Tryz.al129 Tryz.al31 Tryz.al52 Tryz.al70 Tryz.al74 Tryz.al93
attribute [local go_sem] Request.length_enc Request.ok_enc Request.all_get Request.all_set Request.kind_get Request.kind_set Request.blob_get Request.blob_set Request.items_get Request.items_set Request.pred_get Request.pred_set Request.slots_get Request.slots_set Item.length_enc Item.ok_enc Item.all_get Item.all_set Item.del_get Item.del_set Item.pred_get Item.pred_set Item.args_get Item.args_set GOp.length_enc GOp.ok_enc GOp.all_get GOp.all_set GOp.kind_get GOp.kind_set GOp.raw_get GOp.raw_set Reader.length_enc Reader.ok_enc Reader.all_get Reader.all_set Reader.buf_get Reader.buf_set Reader.at__get Reader.at__set Slot.length_enc Slot.ok_enc Slot.all_get Slot.all_set Slot.bound_get Slot.bound_set Slot.name_get Slot.name_set
attribute [local go_sem] size_put size_ext blk_put free_put blk_alloc free_alloc blk_drew free_drew blk_ext free_ext lookOr_some putOr_some segAt_some cellAt_some storeIn_some put_put put_alloc_new length_arr ok_arr_u8 ok_arr_u32 ok_arr_u64 ok_arr_i64 ok_arr_sl cellsV_agg cellsV_int cellsV_bool cellsV_string cellsV_pointer cellsV_slice cellsV_sl ok_int ok_bool ok_string ok_pointer ok_slice ok_sl toList_arr seg_arr set_arr nth_splice nth_splice0 seg_splice seg_splice0 splice_splice splice_splice0 length_splice_if
attribute [local go_sem ↓] execOp_box
attribute [local go_sem] box_run nth_arr_u8 put_arr_u8 blk_drewN free_drewN put_drewN blk_raw free_raw
set_option maxRecDepth 100000 in
theorem frame31 (f : Nat → Value) : frameN 31 f = #[f 0, f 1, f 2, f 3, f 4, f 5, f 6, f 7, f 8, f 9, f 10, f 11, f 12, f 13, f 14, f 15, f 16, f 17, f 18, f 19, f 20, f 21, f 22, f 23, f 24, f 25, f 26, f 27, f 28, f 29, f 30] := by kernel_rfl
def ftI (w : World) (b1 : Nat) (D : List Value) (nn : Nat) (f : Nat → Value) (W : World) : Prop := f 1 = .pointer (some ⟨b1, 0, none⟩) ∧ ∃ (i : Nat) (s : ByteArray), i ≤ nn ∧ f 4 = .int .i64 (i : Nat) ∧ f 3 = .string s ∧ s.size ≤ 30 + 300 * i ∧ Hid (blk W b1 = some D ∧ w.Extends W)
attribute [local go_sem ↓] execOp_slice execOp_convert execOp_add9 execOp_index execOp_make execOp_bslice
attribute [local go_sem] add_run it_len it0 it1 it2 it_set0 it_set2 it_all it_put it_put2 it_ok
set_option maxRecDepth 20000 in
set_option maxHeartbeats 2000000 in
theorem factText_any (w0 w : World) (he0 : w0.Extends w) (dl : Bool) (p : Nat) (hp : p ≤ 255) (na : Option Addr) (nn nc : Nat) (L : List (List UInt8)) (hL : Rw encS 1 w0 na nn L) (hnn : nn ≤ 4) (h64 : ∀ nm ∈ L, nm.length ≤ 64) :
    Calls Tryz.prog 92 #[.agg (itemE dl (p : Int) na nn nc).toArray] w (TPost w 2000) := by
  have HL : Hid (Rw encS 1 w0 na nn L) := hL
  have H64 : Hid (∀ nm ∈ L, nm.length ≤ 64) := h64
  have HE0 : Hid (w0.Extends w) := he0
  clear hL h64 he0
  go_enter Tryz.func92, Tryz.ntmps92
  go_upto_region 1 with fail
  refine wp_world (fun W0 => blk W0 w.heap.size = some (itemE dl (p : Int) na nn nc) ∧ Hid (w.Extends W0)) ⟨?_, extends_alloc (ext_Ext (Ext.refl _)) _⟩ ?_
  · rw [blk_alloc, if_pos rfl]
  rintro W0 ⟨h1, HE1⟩
  obtain ⟨b1, hb1⟩ : ∃ b1, b1 = w.heap.size := ⟨_, rfl⟩
  rw [← hb1] at h1 ⊢
  clear hb1
  go_wp2_with fail
  refine (itoa_any W0 p (by omega)).mono ?_
  rintro e W1 ⟨s, rfl, hs20, hs1, he1⟩
  dsimp only
  have r1 : room (⟨#[112]⟩ : ByteArray) s = true := room_of (m := 1) (n := 20) (by decide) hs20 (by decide)
  have r2 : room ((⟨#[112]⟩ : ByteArray) ++ s) ⟨#[40]⟩ = true := room_of (m := 21) (n := 1) (size_cat (m := 1) (n := 20) (by decide) hs20) (by decide) (by decide)
  have hz : (((⟨#[112]⟩ : ByteArray) ++ s) ++ ⟨#[40]⟩).size ≤ 30 + 300 * 0 := Nat.le_trans (size_cat (m := 21) (n := 1) (size_cat (m := 1) (n := 20) (by decide) hs20) (by decide)) (by decide)
  have HQ : Hid (blk W1 b1 = some (itemE dl (p : Int) na nn nc) ∧ w.Extends W1) := ⟨(he1.blk (blk_lt h1)).trans h1, HE1.out.trans he1⟩
  clear he1 hs20 hs1 HE1 h1
  go_wp2_with fail
  refine wp_loop_f 31 (ftI w b1 (itemE dl (p : Int) na nn nc) nn) (fun f _ => nn - (intOf (f 4)).toNat) rfl ⟨rfl, 0, _, by omega, rfl, rfl, hz, HQ⟩ ?_
  clear HQ hz r1 r2
  intro F V hrel
  obtain ⟨f1, i, t, hi, f4, f3, hts, HQ⟩ := hrel
  have H4 : Hid (F 4 = .int .i64 (i : Nat)) := f4
  rw [frame31, f1, f4, f3]
  clear f1 f4 f3
  have h1 := HQ.out.1
  by_cases hin : i < nn
  · have hin' : (i : Int) < (nn : Int) := by omega
    obtain ⟨x, b, C, hx, rfl, hC, hCl, u0⟩ := HL.out.at hin
    have u1 : nth C i = some (.string ⟨x.toArray⟩) := by
      rw [Nat.mul_one] at u0
      exact nth_in (j := 0) u0 (show nth (encS x) 0 = some _ from rfl) (by omega)
    have hx64 : x.length ≤ 64 := H64.out x (List.mem_of_getElem? hx)
    have hCV : blk V b = some C := ((HE0.out.trans HQ.out.2).blk (blk_lt hC)).trans hC
    have p0 : (0 : Int) ≤ (i : Int) := by omega
    have p2 : ((i : Int)).toNat = i := by omega
    have c1' : i + 1 ≤ C.length := by omega
    have r1 : room t (⟨#[44]⟩ : ByteArray) = true := room_of (m := 3000) (n := 1) (by omega) (by decide) (by decide)
    obtain ⟨t2, ht2⟩ : ∃ t2, t2 = t ++ (⟨#[44]⟩ : ByteArray) := ⟨_, rfl⟩
    have hts2 : t2.size ≤ 31 + 300 * i := by rw [ht2]; exact Nat.le_trans (size_cat hts (n := 1) (by decide)) (by omega)
    have ht2' : t ++ (⟨#[44]⟩ : ByteArray) = t2 := ht2.symm
    clear hC hx u0 ht2
    by_cases hi0 : i = 0
    · have hi1 : ¬ (0 : Int) < (i : Int) := by omega
      clear hi0
      go_wp2_with fail
      refine (quote_any V x hx64).mono ?_
      rintro e V1 ⟨s1, rfl, hs1, he1⟩
      dsimp only
      have r3 : room t s1 = true := room_of (m := 3000) (n := 256) (by omega) hs1 (by decide)
      have hz : (t ++ s1).size ≤ 30 + 300 * (i + 1) := Nat.le_trans (size_cat hts hs1) (by omega)
      have HQ' : Hid (blk V1 b1 = some (itemE dl (p : Int) (some ⟨b, 0, none⟩) nn nc) ∧ w.Extends V1) := ⟨(he1.blk (blk_lt h1)).trans h1, HQ.out.2.trans he1⟩
      clear he1 HQ h1 hCV
      go_wp2_with fail
      refine ⟨rfl, rfl, ⟨rfl, i + 1, _, by omega, ?_, rfl, hz, HQ'⟩, ?_⟩
      · show Value.int .i64 _ = _
        go_num
      · show nn - (intOf (Value.int .i64 _)).toNat < nn - (intOf (F 4)).toNat
        rw [H4.out]
        simp [intOf]; omega
    · have hi1 : (0 : Int) < (i : Int) := by omega
      clear hi0
      go_wp2_with fail
      refine (quote_any V x hx64).mono ?_
      rintro e V1 ⟨s1, rfl, hs1, he1⟩
      dsimp only
      have r3 : room t2 s1 = true := room_of (m := 3000) (n := 256) (by omega) hs1 (by decide)
      have hz : (t2 ++ s1).size ≤ 30 + 300 * (i + 1) := Nat.le_trans (size_cat hts2 hs1) (by omega)
      have HQ' : Hid (blk V1 b1 = some (itemE dl (p : Int) (some ⟨b, 0, none⟩) nn nc) ∧ w.Extends V1) := ⟨(he1.blk (blk_lt h1)).trans h1, HQ.out.2.trans he1⟩
      clear he1 HQ h1 hCV
      go_wp2_with fail
      refine ⟨rfl, rfl, ⟨rfl, i + 1, _, by omega, ?_, rfl, hz, HQ'⟩, ?_⟩
      · show Value.int .i64 _ = _
        go_num
      · show nn - (intOf (Value.int .i64 _)).toNat < nn - (intOf (F 4)).toNat
        rw [H4.out]
        simp [intOf]; omega
  · obtain rfl : i = nn := by omega
    have hin' : ¬ ((i : Int) < (i : Int)) := by omega
    have r1 : room t (⟨#[41]⟩ : ByteArray) = true := room_of (m := 3000) (n := 1) (by omega) (by decide) (by decide)
    have HP : Hid (TPost w 2000 (.returned (.string (t ++ ⟨#[41]⟩))) V) := ⟨_, rfl, Nat.le_trans (size_cat hts (n := 1) (by decide)) (by omega), HQ.out.2⟩
    clear HQ
    go_wp2_with fail
    go_ret
    exact HP.out
set_option maxRecDepth 20000 in
theorem kindName_any (W : World) (k : Nat) (h1 : 1 ≤ k) (h7 : k ≤ 7) : Calls Tryz.prog 89 #[.int .i64 (k : Int)] W fun e W' => ∃ s : ByteArray, e = .returned (.string s) ∧ s.size ≤ 20 ∧ 1 ≤ s.size ∧ W' = W := by
  have hk : k = 1 ∨ k = 2 ∨ k = 3 ∨ k = 4 ∨ k = 5 ∨ k = 6 ∨ k = 7 := by omega
  rcases hk with rfl | rfl | rfl | rfl | rfl | rfl | rfl
  all_goals
    go_enter Tryz.func89, Tryz.ntmps89
    go_wp2_with fail
    go_ret
    exact ⟨_, rfl, by decide, by decide, rfl⟩
end Go.Proofs.Qxb6500787aGreat
