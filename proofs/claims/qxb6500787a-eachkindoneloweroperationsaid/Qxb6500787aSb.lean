import Derived.Test.Qxb6500787aSa
import Derived.StillTailTactics
import Derived.Deep.QuietTactic
import Derived.BigQuiet
import Derived.Deep.RegionHeld
import Derived.Deep.CutRange
import Derived.Laws.ResultCell
import Derived.Laws.Rows
import Derived.DeepKeys
import Derived.DataBytes
import Derived.Laws.StructEq
import Derived.Laws.AppendOwn
import Derived.Laws.MakeOwn
import Derived.Lib.AppendStr
set_option linter.unusedSimpArgs false
set_option linter.unusedVariables false
namespace Go.Proofs.Qxb6500787a
open Go.RowKit Go.Blk
attribute [local go_sem ↓] execOp_load execOp_store execOp_alloc
attribute [local go_sem] Try.ld26 Try.st26 Try.ld27 Try.st27 Try.ld28 Try.st28 Try.ld3 Try.st3 Try.ld29 Try.st29 Try.ld4 Try.st4 Try.ld50 Try.st50 Try.ld68 Try.st68 Try.ld9 Try.st9 Try.ld2 Try.st2 Try.ld5 Try.st5 Try.ld12 Try.st12 Try.ld21 Try.st21 Try.ld22 Try.st22 Try.ld24 Try.st24 Try.ld32 Try.st32 Try.ld40 Try.st40 Try.ld44 Try.st44 Try.ld49 Try.st49 Try.ld58 Try.st58 Try.ld63 Try.st63 Try.ld97 Try.st97 Try.ld101 Try.st101 Try.ld116 Try.st116 Try.ld121 Try.st121 Try.ld135 Try.st135 Try.ld136 Try.st136 Try.ld138 Try.st138 Try.ld139 Try.st139 Try.ld142 Try.st142 Try.ld143 Try.st143 Try.ld146 Try.st146 Try.ld148 Try.st148 Try.ld154 Try.st154 Try.ld159 Try.st159 Try.ld173 Try.st173 Try.ld183 Try.st183 Try.ld184 Try.st184 Try.ld187 Try.st187 Try.ld192 Try.st192 Try.ld195 Try.st195 Try.ld217 Try.st217 Try.ld222 Try.st222 Try.ld241 Try.st241 Try.ld248 Try.st248 Try.ld268 Try.st268 Try.ld272 Try.st272 Try.ld129 Try.st129 Try.ld31 Try.st31 Try.ld52 Try.st52 Try.ld70 Try.st70 Try.ld74 Try.st74 Try.ld93 Try.st93 Try.al129 Try.al31 Try.al52 Try.al70 Try.al74 Try.al93
attribute [local go_sem] Request.length_enc Request.ok_enc Request.all_get Request.all_set Request.kind_get Request.kind_set Request.blob_get Request.blob_set Request.items_get Request.items_set Request.pred_get Request.pred_set Request.slots_get Request.slots_set Item.length_enc Item.ok_enc Item.all_get Item.all_set Item.del_get Item.del_set Item.pred_get Item.pred_set Item.args_get Item.args_set GOp.length_enc GOp.ok_enc GOp.all_get GOp.all_set GOp.kind_get GOp.kind_set GOp.raw_get GOp.raw_set Reader.length_enc Reader.ok_enc Reader.all_get Reader.all_set Reader.buf_get Reader.buf_set Reader.at__get Reader.at__set Slot.length_enc Slot.ok_enc Slot.all_get Slot.all_set Slot.bound_get Slot.bound_set Slot.name_get Slot.name_set
attribute [local go_sem] size_put size_ext blk_put free_put blk_alloc free_alloc blk_drew free_drew blk_ext free_ext lookOr_some putOr_some segAt_some cellAt_some storeIn_some put_put put_alloc_new length_arr ok_arr_u8 ok_arr_u32 ok_arr_u64 ok_arr_i64 ok_arr_sl cellsV_agg cellsV_int cellsV_bool cellsV_string cellsV_pointer cellsV_slice cellsV_sl ok_int ok_bool ok_string ok_pointer ok_slice ok_sl toList_arr seg_arr set_arr nth_splice nth_splice0 seg_splice seg_splice0 splice_splice splice_splice0 length_splice_if
attribute [local go_sem ↓] execOp_box
attribute [local go_sem] box_run nth_arr_u8 put_arr_u8 blk_drewN free_drewN put_drewN blk_raw free_raw
set_option maxRecDepth 100000 in
theorem frame110 (f : Nat → Value) : frameN 110 f = #[f 0, f 1, f 2, f 3, f 4, f 5, f 6, f 7, f 8, f 9, f 10, f 11, f 12, f 13, f 14, f 15, f 16, f 17, f 18, f 19, f 20, f 21, f 22, f 23, f 24, f 25, f 26, f 27, f 28, f 29, f 30, f 31, f 32, f 33, f 34, f 35, f 36, f 37, f 38, f 39, f 40, f 41, f 42, f 43, f 44, f 45, f 46, f 47, f 48, f 49, f 50, f 51, f 52, f 53, f 54, f 55, f 56, f 57, f 58, f 59, f 60, f 61, f 62, f 63, f 64, f 65, f 66, f 67, f 68, f 69, f 70, f 71, f 72, f 73, f 74, f 75, f 76, f 77, f 78, f 79, f 80, f 81, f 82, f 83, f 84, f 85, f 86, f 87, f 88, f 89, f 90, f 91, f 92, f 93, f 94, f 95, f 96, f 97, f 98, f 99, f 100, f 101, f 102, f 103, f 104, f 105, f 106, f 107, f 108, f 109] := by kernel_rfl
def rtI (w : World) (b1 : Nat) (D : List Value) (N sl : Nat) (f : Nat → Value) (W : World) : Prop := f 1 = .pointer (some ⟨b1, 0, none⟩) ∧ ∃ (i : Nat) (s : ByteArray), i ≤ N ∧ f sl = .int .i64 (i : Nat) ∧ f 3 = .string s ∧ 1 ≤ s.size ∧ s.size ≤ 100 + 2100 * i ∧ Hid (blk W b1 = some D ∧ w.Extends W)
theorem size_cat1 {a b : ByteArray} (ha : 1 ≤ a.size) : 1 ≤ (a ++ b).size := by rw [ByteArray.size_append]; omega
attribute [local go_sem ↓] execOp_slice execOp_convert execOp_add9 execOp_index execOp_make execOp_bslice
attribute [local go_sem] add_run it_len it0 it1 it2 it_set0 it_set2 it_all it_put it_put2 it_ok rq_len rq0 rq1 rq2 rq3 rq4 rq_all rq_ok so_len so_all so_ok
set_option maxRecDepth 20000 in
set_option maxHeartbeats 4000000 in
theorem requestText_ok (w0 w : World) (he0 : w0.Extends w) (B : Nat) (k : Int) (ba : Option Addr) (bn bc : Nat) (ia : Option Addr) (iN ic : Nat) (p : Int) (sa : Option Addr) (sn sc : Nat) (q : Rq) (hR : ReqOk w0 B k ba bn bc ia iN ic p sa sn sc q) (kk : Nat) (pay : List UInt8) (hV : RqV kk q pay) :
    Calls Try.prog 18 #[.agg (reqE k ba bn bc ia iN ic p sa sn sc).toArray] w (SPost w 200000) := by
  obtain ⟨hk, hb, ⟨K, hK, hI⟩, hp, hs⟩ := hR
  obtain ⟨hkk, k1, k7, hpay, v1, v2, v4, v6⟩ := hV
  have hkn : k = (kk : Int) := hk.trans hkk
  subst hkn
  have hbs := (bs_own hb).1
  have HK : Hid (Rw encD 3 w0 ia iN K) := (rw_own encD_len hK).1
  have HS : Hid (Rw encL 2 w0 sa sn q.slots) := (rw_own encL_len hs).1
  have HI : Hid (ItemsOk w0 B K q.items) := hI
  have hKI : iN = q.items.length := by rw [← hI.1]; exact HK.out.1.symm
  have hSI : sn = q.slots.length := HS.out.1.symm
  have HE0 : Hid (w0.Extends w) := he0
  have hbn : (kk = 1 ∨ kk = 7) → bn ≤ 65535 := fun h => by rw [← hbs.1, ← (v1 h).1]; exact hpay
  have HV : Hid (((kk = 2 ∨ kk = 3 ∨ kk = 5 ∨ kk = 4) → iN ≤ 32 ∧ ∀ it ∈ q.items, ItV it) ∧ (kk = 6 → ∃ p' : Nat, p = (p' : Int) ∧ p' ≤ 255 ∧ sn ≤ 4 ∧ ∀ s ∈ q.slots, SlV s)) := by
    refine ⟨fun h => ?_, fun h => ?_⟩
    · rcases h with h | h | h | h
      · obtain ⟨it, e1, e2, _⟩ := v2 (by omega); rw [hKI, e1]; exact ⟨by simp, fun x hx => by rw [List.mem_singleton.1 hx]; exact e2⟩
      · obtain ⟨it, e1, e2, _⟩ := v2 (by omega); rw [hKI, e1]; exact ⟨by simp, fun x hx => by rw [List.mem_singleton.1 hx]; exact e2⟩
      · obtain ⟨it, e1, e2, _⟩ := v2 (by omega); rw [hKI, e1]; exact ⟨by simp, fun x hx => by rw [List.mem_singleton.1 hx]; exact e2⟩
      · obtain ⟨e1, e2, _⟩ := v4 h; rw [hKI]; exact ⟨e1, e2⟩
    · obtain ⟨p', e1, e2, e3, e4, _⟩ := v6 h
      exact ⟨p', hp.trans e1, e2, by rw [hSI]; exact e3, e4⟩
  clear hb hK hI hs v1 v2 v4 v6 hk hp hkk hbs hKI hSI he0 hpay
  go_enter Try.func18, Try.ntmps18
  go_upto_region 1 with fail
  refine wp_world (fun W0 => blk W0 w.heap.size = some (reqE (kk : Int) ba bn bc ia iN ic p sa sn sc) ∧ Hid (w.Extends W0)) ⟨?_, extends_alloc (ext_Ext (Ext.refl _)) _⟩ ?_
  · rw [blk_alloc, if_pos rfl]
  rintro W0 ⟨h1, HE1⟩
  obtain ⟨b1, hb1⟩ : ∃ b1, b1 = w.heap.size := ⟨_, rfl⟩
  rw [← hb1] at h1 ⊢
  clear hb1
  go_wp2_with fail
  refine (kindName_any W0 kk k1 k7).mono ?_
  rintro e W1 ⟨s0, rfl, hs20, hs1, rfl⟩
  dsimp only
  have HQ0 : Hid (blk W1 b1 = some (reqE (kk : Int) ba bn bc ia iN ic p sa sn sc) ∧ w.Extends W1) := ⟨h1, HE1.out⟩
  have hkc : kk = 1 ∨ kk = 7 ∨ kk = 2 ∨ kk = 3 ∨ kk = 5 ∨ kk = 4 ∨ kk = 6 := by omega
  rcases hkc with rfl | rfl | rfl | rfl | rfl | rfl | rfl
  · rw [show ((1 : Nat) : Int) = 1 from rfl] at h1 HQ0
    have hb5 := hbn (by decide)
    clear hbn
    go_wp2_with fail
    refine (itoa_any W1 bn (by omega)).mono ?_
    rintro e W2 ⟨s2, rfl, hs22, hs21, he2⟩
    dsimp only
    have r1 : room (⟨#[32]⟩ : ByteArray) s2 = true := room_of (m := 1) (n := 20) (by decide) hs22 (by decide)
    have r2 : room ((⟨#[32]⟩ : ByteArray) ++ s2) ⟨#[32, 98, 121, 116, 101, 115]⟩ = true := room_of (m := 21) (n := 6) (size_cat (m := 1) (n := 20) (by decide) hs22) (by decide) (by decide)
    have z2 : (((⟨#[32]⟩ : ByteArray) ++ s2) ++ ⟨#[32, 98, 121, 116, 101, 115]⟩).size ≤ 27 := size_cat (m := 21) (n := 6) (size_cat (m := 1) (n := 20) (by decide) hs22) (by decide)
    have r3 : room s0 (((⟨#[32]⟩ : ByteArray) ++ s2) ++ ⟨#[32, 98, 121, 116, 101, 115]⟩) = true := room_of (m := 20) (n := 27) hs20 z2 (by decide)
    have HP : Hid (SPost w 200000 (.returned (.string (s0 ++ (((⟨#[32]⟩ : ByteArray) ++ s2) ++ ⟨#[32, 98, 121, 116, 101, 115]⟩)))) W2) := ⟨_, rfl, Nat.le_trans (size_cat hs20 z2) (by decide), size_cat1 hs1, HE1.out.trans he2⟩
    clear he2 z2 HQ0 h1 HE1 hs22 hs21
    go_wp2_with fail
    go_ret
    exact HP.out
  · rw [show ((7 : Nat) : Int) = 7 from rfl] at h1 HQ0
    have hb5 := hbn (by decide)
    clear hbn
    go_wp2_with fail
    refine (itoa_any W1 bn (by omega)).mono ?_
    rintro e W2 ⟨s2, rfl, hs22, hs21, he2⟩
    dsimp only
    have r1 : room (⟨#[32]⟩ : ByteArray) s2 = true := room_of (m := 1) (n := 20) (by decide) hs22 (by decide)
    have r2 : room ((⟨#[32]⟩ : ByteArray) ++ s2) ⟨#[32, 98, 121, 116, 101, 115]⟩ = true := room_of (m := 21) (n := 6) (size_cat (m := 1) (n := 20) (by decide) hs22) (by decide) (by decide)
    have z2 : (((⟨#[32]⟩ : ByteArray) ++ s2) ++ ⟨#[32, 98, 121, 116, 101, 115]⟩).size ≤ 27 := size_cat (m := 21) (n := 6) (size_cat (m := 1) (n := 20) (by decide) hs22) (by decide)
    have r3 : room s0 (((⟨#[32]⟩ : ByteArray) ++ s2) ++ ⟨#[32, 98, 121, 116, 101, 115]⟩) = true := room_of (m := 20) (n := 27) hs20 z2 (by decide)
    have HP : Hid (SPost w 200000 (.returned (.string (s0 ++ (((⟨#[32]⟩ : ByteArray) ++ s2) ++ ⟨#[32, 98, 121, 116, 101, 115]⟩)))) W2) := ⟨_, rfl, Nat.le_trans (size_cat hs20 z2) (by decide), size_cat1 hs1, HE1.out.trans he2⟩
    clear he2 z2 HQ0 h1 HE1 hs22 hs21
    go_wp2_with fail
    go_ret
    exact HP.out
  · rw [show ((2 : Nat) : Int) = 2 from rfl] at h1 HQ0
    obtain ⟨h32, hvs⟩ := HV.out.1 (by decide)
    clear hbn
    go_wp2_with fail
    refine wp_loop_f 110 (rtI w b1 (reqE 2 ba bn bc ia iN ic p sa sn sc) iN 4) (fun f _ => iN - (intOf (f 4)).toNat) rfl ⟨rfl, 0, _, by omega, rfl, rfl, hs1, by omega, HQ0⟩ ?_
    clear HQ0 h1 HE1 hs20 hs1
    intro F V hrel
    obtain ⟨f1, i, t, hi, fi, f3, ht1, hts, HQ⟩ := hrel
    have H4 : Hid (F 4 = .int .i64 (i : Nat)) := fi
    rw [frame110, f1, fi, f3]
    clear f1 fi f3
    have h1 := HQ.out.1
    by_cases hin : i < iN
    · have hin' : (i : Int) < (iN : Int) := by omega
      obtain ⟨d, b, C, hx, rfl, hC, hCl, u0⟩ := HK.out.at hin
      obtain ⟨it, g1, g2⟩ := HI.out.at hx
      have hv := hvs it (List.mem_of_getElem? g1)
      obtain ⟨dl, pp, na, nn, nc⟩ := d
      obtain ⟨e1, e2, e3⟩ := g2
      dsimp only at e1 e2 e3
      obtain ⟨p', hpp⟩ : ∃ p' : Nat, pp = (p' : Int) := ⟨pp.toNat, by have := hv.1; omega⟩
      subst hpp
      have hr := (rw_own encS_len e3).1
      have u1 : seg C (i * 3) 3 = itemE dl (p' : Int) na nn nc := u0
      have u2 : nth C (i * 3) = some (.bool dl) := nth_in (j := 0) u0 (show nth (itemE dl (p' : Int) na nn nc) 0 = some (.bool dl) from rfl) (by omega)
      have hCV : blk V b = some C := ((HE0.out.trans HQ.out.2).blk (blk_lt hC)).trans hC
      have p0 : (0 : Int) ≤ (i : Int) := by omega
      have p2 : ((i : Int)).toNat = i := by omega
      have c3 : i * 3 + 3 ≤ C.length := by omega
      have c3a : i * 3 < C.length := by omega
      have hp255 : p' ≤ 255 := by have := hv.2.1; omega
      have hn4 : nn ≤ 4 := by rw [← hr.1]; exact hv.2.2.1
      have HRW : Hid (Rw encS 1 w0 na nn it.2.2) := hr
      have H64 : Hid (∀ nm ∈ it.2.2, nm.length ≤ 64) := hv.2.2.2
      clear hC hx u0 g1 e1 e2 e3 hv hr
      go_wp2_with fail
      refine (factText_any w0 V (HE0.out.trans HQ.out.2) dl p' hp255 na nn nc it.2.2 HRW.out hn4 H64.out).mono ?_
      rintro e V1 ⟨s1, rfl, hs1, he1⟩
      dsimp only
      have r1 : room (⟨#[32]⟩ : ByteArray) s1 = true := room_of (m := 1) (n := 2000) (by decide) hs1 (by decide)
      have z1 : ((⟨#[32]⟩ : ByteArray) ++ s1).size ≤ 2001 := size_cat (m := 1) (n := 2000) (by decide) hs1
      have r2 : room t ((⟨#[32]⟩ : ByteArray) ++ s1) = true := room_of (m := 100000) (n := 2001) (by omega) z1 (by decide)
      have hz1 : 1 ≤ (t ++ ((⟨#[32]⟩ : ByteArray) ++ s1)).size := size_cat1 ht1
      have hz2 : (t ++ ((⟨#[32]⟩ : ByteArray) ++ s1)).size ≤ 100 + 2100 * (i + 1) := Nat.le_trans (size_cat hts z1) (by omega)
      have HQ' : Hid (blk V1 b1 = some (reqE 2 ba bn bc (some ⟨b, 0, none⟩) iN ic p sa sn sc) ∧ w.Extends V1) := ⟨(he1.blk (blk_lt h1)).trans h1, HQ.out.2.trans he1⟩
      clear he1 HQ h1 hCV z1
      go_wp2_with fail
      refine ⟨rfl, rfl, ⟨rfl, i + 1, _, by omega, ?_, rfl, hz1, hz2, HQ'⟩, ?_⟩
      · show Value.int .i64 _ = _
        go_num
      · show iN - (intOf (Value.int .i64 _)).toNat < iN - (intOf (F 4)).toNat
        rw [H4.out]
        simp [intOf]; omega
    · obtain rfl : i = iN := by omega
      have hin' : ¬ ((i : Int) < (i : Int)) := by omega
      have HP : Hid (SPost w 200000 (.returned (.string t)) V) := ⟨_, rfl, by omega, ht1, HQ.out.2⟩
      clear HQ
      go_wp2_with fail
      go_ret
      exact HP.out
  · rw [show ((3 : Nat) : Int) = 3 from rfl] at h1 HQ0
    obtain ⟨h32, hvs⟩ := HV.out.1 (by decide)
    clear hbn
    go_wp2_with fail
    refine wp_loop_f 110 (rtI w b1 (reqE 3 ba bn bc ia iN ic p sa sn sc) iN 4) (fun f _ => iN - (intOf (f 4)).toNat) rfl ⟨rfl, 0, _, by omega, rfl, rfl, hs1, by omega, HQ0⟩ ?_
    clear HQ0 h1 HE1 hs20 hs1
    intro F V hrel
    obtain ⟨f1, i, t, hi, fi, f3, ht1, hts, HQ⟩ := hrel
    have H4 : Hid (F 4 = .int .i64 (i : Nat)) := fi
    rw [frame110, f1, fi, f3]
    clear f1 fi f3
    have h1 := HQ.out.1
    by_cases hin : i < iN
    · have hin' : (i : Int) < (iN : Int) := by omega
      obtain ⟨d, b, C, hx, rfl, hC, hCl, u0⟩ := HK.out.at hin
      obtain ⟨it, g1, g2⟩ := HI.out.at hx
      have hv := hvs it (List.mem_of_getElem? g1)
      obtain ⟨dl, pp, na, nn, nc⟩ := d
      obtain ⟨e1, e2, e3⟩ := g2
      dsimp only at e1 e2 e3
      obtain ⟨p', hpp⟩ : ∃ p' : Nat, pp = (p' : Int) := ⟨pp.toNat, by have := hv.1; omega⟩
      subst hpp
      have hr := (rw_own encS_len e3).1
      have u1 : seg C (i * 3) 3 = itemE dl (p' : Int) na nn nc := u0
      have u2 : nth C (i * 3) = some (.bool dl) := nth_in (j := 0) u0 (show nth (itemE dl (p' : Int) na nn nc) 0 = some (.bool dl) from rfl) (by omega)
      have hCV : blk V b = some C := ((HE0.out.trans HQ.out.2).blk (blk_lt hC)).trans hC
      have p0 : (0 : Int) ≤ (i : Int) := by omega
      have p2 : ((i : Int)).toNat = i := by omega
      have c3 : i * 3 + 3 ≤ C.length := by omega
      have c3a : i * 3 < C.length := by omega
      have hp255 : p' ≤ 255 := by have := hv.2.1; omega
      have hn4 : nn ≤ 4 := by rw [← hr.1]; exact hv.2.2.1
      have HRW : Hid (Rw encS 1 w0 na nn it.2.2) := hr
      have H64 : Hid (∀ nm ∈ it.2.2, nm.length ≤ 64) := hv.2.2.2
      clear hC hx u0 g1 e1 e2 e3 hv hr
      go_wp2_with fail
      refine (factText_any w0 V (HE0.out.trans HQ.out.2) dl p' hp255 na nn nc it.2.2 HRW.out hn4 H64.out).mono ?_
      rintro e V1 ⟨s1, rfl, hs1, he1⟩
      dsimp only
      have r1 : room (⟨#[32]⟩ : ByteArray) s1 = true := room_of (m := 1) (n := 2000) (by decide) hs1 (by decide)
      have z1 : ((⟨#[32]⟩ : ByteArray) ++ s1).size ≤ 2001 := size_cat (m := 1) (n := 2000) (by decide) hs1
      have r2 : room t ((⟨#[32]⟩ : ByteArray) ++ s1) = true := room_of (m := 100000) (n := 2001) (by omega) z1 (by decide)
      have hz1 : 1 ≤ (t ++ ((⟨#[32]⟩ : ByteArray) ++ s1)).size := size_cat1 ht1
      have hz2 : (t ++ ((⟨#[32]⟩ : ByteArray) ++ s1)).size ≤ 100 + 2100 * (i + 1) := Nat.le_trans (size_cat hts z1) (by omega)
      have HQ' : Hid (blk V1 b1 = some (reqE 3 ba bn bc (some ⟨b, 0, none⟩) iN ic p sa sn sc) ∧ w.Extends V1) := ⟨(he1.blk (blk_lt h1)).trans h1, HQ.out.2.trans he1⟩
      clear he1 HQ h1 hCV z1
      go_wp2_with fail
      refine ⟨rfl, rfl, ⟨rfl, i + 1, _, by omega, ?_, rfl, hz1, hz2, HQ'⟩, ?_⟩
      · show Value.int .i64 _ = _
        go_num
      · show iN - (intOf (Value.int .i64 _)).toNat < iN - (intOf (F 4)).toNat
        rw [H4.out]
        simp [intOf]; omega
    · obtain rfl : i = iN := by omega
      have hin' : ¬ ((i : Int) < (i : Int)) := by omega
      have HP : Hid (SPost w 200000 (.returned (.string t)) V) := ⟨_, rfl, by omega, ht1, HQ.out.2⟩
      clear HQ
      go_wp2_with fail
      go_ret
      exact HP.out
  · rw [show ((5 : Nat) : Int) = 5 from rfl] at h1 HQ0
    obtain ⟨h32, hvs⟩ := HV.out.1 (by decide)
    clear hbn
    go_wp2_with fail
    refine wp_loop_f 110 (rtI w b1 (reqE 5 ba bn bc ia iN ic p sa sn sc) iN 4) (fun f _ => iN - (intOf (f 4)).toNat) rfl ⟨rfl, 0, _, by omega, rfl, rfl, hs1, by omega, HQ0⟩ ?_
    clear HQ0 h1 HE1 hs20 hs1
    intro F V hrel
    obtain ⟨f1, i, t, hi, fi, f3, ht1, hts, HQ⟩ := hrel
    have H4 : Hid (F 4 = .int .i64 (i : Nat)) := fi
    rw [frame110, f1, fi, f3]
    clear f1 fi f3
    have h1 := HQ.out.1
    by_cases hin : i < iN
    · have hin' : (i : Int) < (iN : Int) := by omega
      obtain ⟨d, b, C, hx, rfl, hC, hCl, u0⟩ := HK.out.at hin
      obtain ⟨it, g1, g2⟩ := HI.out.at hx
      have hv := hvs it (List.mem_of_getElem? g1)
      obtain ⟨dl, pp, na, nn, nc⟩ := d
      obtain ⟨e1, e2, e3⟩ := g2
      dsimp only at e1 e2 e3
      obtain ⟨p', hpp⟩ : ∃ p' : Nat, pp = (p' : Int) := ⟨pp.toNat, by have := hv.1; omega⟩
      subst hpp
      have hr := (rw_own encS_len e3).1
      have u1 : seg C (i * 3) 3 = itemE dl (p' : Int) na nn nc := u0
      have u2 : nth C (i * 3) = some (.bool dl) := nth_in (j := 0) u0 (show nth (itemE dl (p' : Int) na nn nc) 0 = some (.bool dl) from rfl) (by omega)
      have hCV : blk V b = some C := ((HE0.out.trans HQ.out.2).blk (blk_lt hC)).trans hC
      have p0 : (0 : Int) ≤ (i : Int) := by omega
      have p2 : ((i : Int)).toNat = i := by omega
      have c3 : i * 3 + 3 ≤ C.length := by omega
      have c3a : i * 3 < C.length := by omega
      have hp255 : p' ≤ 255 := by have := hv.2.1; omega
      have hn4 : nn ≤ 4 := by rw [← hr.1]; exact hv.2.2.1
      have HRW : Hid (Rw encS 1 w0 na nn it.2.2) := hr
      have H64 : Hid (∀ nm ∈ it.2.2, nm.length ≤ 64) := hv.2.2.2
      clear hC hx u0 g1 e1 e2 e3 hv hr
      go_wp2_with fail
      refine (factText_any w0 V (HE0.out.trans HQ.out.2) dl p' hp255 na nn nc it.2.2 HRW.out hn4 H64.out).mono ?_
      rintro e V1 ⟨s1, rfl, hs1, he1⟩
      dsimp only
      have r1 : room (⟨#[32]⟩ : ByteArray) s1 = true := room_of (m := 1) (n := 2000) (by decide) hs1 (by decide)
      have z1 : ((⟨#[32]⟩ : ByteArray) ++ s1).size ≤ 2001 := size_cat (m := 1) (n := 2000) (by decide) hs1
      have r2 : room t ((⟨#[32]⟩ : ByteArray) ++ s1) = true := room_of (m := 100000) (n := 2001) (by omega) z1 (by decide)
      have hz1 : 1 ≤ (t ++ ((⟨#[32]⟩ : ByteArray) ++ s1)).size := size_cat1 ht1
      have hz2 : (t ++ ((⟨#[32]⟩ : ByteArray) ++ s1)).size ≤ 100 + 2100 * (i + 1) := Nat.le_trans (size_cat hts z1) (by omega)
      have HQ' : Hid (blk V1 b1 = some (reqE 5 ba bn bc (some ⟨b, 0, none⟩) iN ic p sa sn sc) ∧ w.Extends V1) := ⟨(he1.blk (blk_lt h1)).trans h1, HQ.out.2.trans he1⟩
      clear he1 HQ h1 hCV z1
      go_wp2_with fail
      refine ⟨rfl, rfl, ⟨rfl, i + 1, _, by omega, ?_, rfl, hz1, hz2, HQ'⟩, ?_⟩
      · show Value.int .i64 _ = _
        go_num
      · show iN - (intOf (Value.int .i64 _)).toNat < iN - (intOf (F 4)).toNat
        rw [H4.out]
        simp [intOf]; omega
    · obtain rfl : i = iN := by omega
      have hin' : ¬ ((i : Int) < (i : Int)) := by omega
      have HP : Hid (SPost w 200000 (.returned (.string t)) V) := ⟨_, rfl, by omega, ht1, HQ.out.2⟩
      clear HQ
      go_wp2_with fail
      go_ret
      exact HP.out
  · rw [show ((4 : Nat) : Int) = 4 from rfl] at h1 HQ0
    obtain ⟨h32, hvs⟩ := HV.out.1 (by decide)
    clear hbn
    go_wp2_with fail
    refine wp_loop_f 110 (rtI w b1 (reqE 4 ba bn bc ia iN ic p sa sn sc) iN 5) (fun f _ => iN - (intOf (f 5)).toNat) rfl ⟨rfl, 0, _, by omega, rfl, rfl, hs1, by omega, HQ0⟩ ?_
    clear HQ0 h1 HE1 hs20 hs1
    intro F V hrel
    obtain ⟨f1, i, t, hi, fi, f3, ht1, hts, HQ⟩ := hrel
    have H5 : Hid (F 5 = .int .i64 (i : Nat)) := fi
    rw [frame110, f1, fi, f3]
    clear f1 fi f3
    have h1 := HQ.out.1
    by_cases hin : i < iN
    · have hin' : (i : Int) < (iN : Int) := by omega
      obtain ⟨d, b, C, hx, rfl, hC, hCl, u0⟩ := HK.out.at hin
      obtain ⟨it, g1, g2⟩ := HI.out.at hx
      have hv := hvs it (List.mem_of_getElem? g1)
      obtain ⟨dl, pp, na, nn, nc⟩ := d
      obtain ⟨e1, e2, e3⟩ := g2
      dsimp only at e1 e2 e3
      obtain ⟨p', hpp⟩ : ∃ p' : Nat, pp = (p' : Int) := ⟨pp.toNat, by have := hv.1; omega⟩
      subst hpp
      have hr := (rw_own encS_len e3).1
      have u1 : seg C (i * 3) 3 = itemE dl (p' : Int) na nn nc := u0
      have u2 : nth C (i * 3) = some (.bool dl) := nth_in (j := 0) u0 (show nth (itemE dl (p' : Int) na nn nc) 0 = some (.bool dl) from rfl) (by omega)
      have hCV : blk V b = some C := ((HE0.out.trans HQ.out.2).blk (blk_lt hC)).trans hC
      have p0 : (0 : Int) ≤ (i : Int) := by omega
      have p2 : ((i : Int)).toNat = i := by omega
      have c3 : i * 3 + 3 ≤ C.length := by omega
      have c3a : i * 3 < C.length := by omega
      have hp255 : p' ≤ 255 := by have := hv.2.1; omega
      have hn4 : nn ≤ 4 := by rw [← hr.1]; exact hv.2.2.1
      have HRW : Hid (Rw encS 1 w0 na nn it.2.2) := hr
      have H64 : Hid (∀ nm ∈ it.2.2, nm.length ≤ 64) := hv.2.2.2
      clear hC hx u0 g1 e1 e2 e3 hv hr
      cases dl
      · have r0 : room t (⟨#[32, 43]⟩ : ByteArray) = true := room_of (m := 100000) (n := 2) (by omega) (by decide) (by decide)
        obtain ⟨t2, ht2⟩ : ∃ t2, t2 = t ++ (⟨#[32, 43]⟩ : ByteArray) := ⟨_, rfl⟩
        have hts2 : t2.size ≤ 102 + 2100 * i := by rw [ht2]; exact Nat.le_trans (size_cat hts (n := 2) (by decide)) (by omega)
        have ht21 : 1 ≤ t2.size := by rw [ht2]; exact size_cat1 ht1
        have ht2' : t ++ (⟨#[32, 43]⟩ : ByteArray) = t2 := ht2.symm
        clear ht2
        go_wp2_with fail
        refine (factText_any w0 V (HE0.out.trans HQ.out.2) _ p' hp255 na nn nc it.2.2 HRW.out hn4 H64.out).mono ?_
        rintro e V1 ⟨s1, rfl, hs1, he1⟩
        dsimp only
        have r2 : room t2 s1 = true := room_of (m := 100000) (n := 2000) (by omega) hs1 (by decide)
        have hz1 : 1 ≤ (t2 ++ s1).size := size_cat1 ht21
        have hz2 : (t2 ++ s1).size ≤ 100 + 2100 * (i + 1) := Nat.le_trans (size_cat hts2 hs1) (by omega)
        have HQ' : Hid (blk V1 b1 = some (reqE 4 ba bn bc (some ⟨b, 0, none⟩) iN ic p sa sn sc) ∧ w.Extends V1) := ⟨(he1.blk (blk_lt h1)).trans h1, HQ.out.2.trans he1⟩
        clear he1 HQ h1 hCV
        go_wp2_with fail
        refine ⟨rfl, rfl, ⟨rfl, i + 1, _, by omega, ?_, rfl, hz1, hz2, HQ'⟩, ?_⟩
        · show Value.int .i64 _ = _
          go_num
        · show iN - (intOf (Value.int .i64 _)).toNat < iN - (intOf (F 5)).toNat
          rw [H5.out]
          simp [intOf]; omega
      · have r0 : room t (⟨#[32, 45]⟩ : ByteArray) = true := room_of (m := 100000) (n := 2) (by omega) (by decide) (by decide)
        obtain ⟨t2, ht2⟩ : ∃ t2, t2 = t ++ (⟨#[32, 45]⟩ : ByteArray) := ⟨_, rfl⟩
        have hts2 : t2.size ≤ 102 + 2100 * i := by rw [ht2]; exact Nat.le_trans (size_cat hts (n := 2) (by decide)) (by omega)
        have ht21 : 1 ≤ t2.size := by rw [ht2]; exact size_cat1 ht1
        have ht2' : t ++ (⟨#[32, 45]⟩ : ByteArray) = t2 := ht2.symm
        clear ht2
        go_wp2_with fail
        refine (factText_any w0 V (HE0.out.trans HQ.out.2) _ p' hp255 na nn nc it.2.2 HRW.out hn4 H64.out).mono ?_
        rintro e V1 ⟨s1, rfl, hs1, he1⟩
        dsimp only
        have r2 : room t2 s1 = true := room_of (m := 100000) (n := 2000) (by omega) hs1 (by decide)
        have hz1 : 1 ≤ (t2 ++ s1).size := size_cat1 ht21
        have hz2 : (t2 ++ s1).size ≤ 100 + 2100 * (i + 1) := Nat.le_trans (size_cat hts2 hs1) (by omega)
        have HQ' : Hid (blk V1 b1 = some (reqE 4 ba bn bc (some ⟨b, 0, none⟩) iN ic p sa sn sc) ∧ w.Extends V1) := ⟨(he1.blk (blk_lt h1)).trans h1, HQ.out.2.trans he1⟩
        clear he1 HQ h1 hCV
        go_wp2_with fail
        refine ⟨rfl, rfl, ⟨rfl, i + 1, _, by omega, ?_, rfl, hz1, hz2, HQ'⟩, ?_⟩
        · show Value.int .i64 _ = _
          go_num
        · show iN - (intOf (Value.int .i64 _)).toNat < iN - (intOf (F 5)).toNat
          rw [H5.out]
          simp [intOf]; omega
    · obtain rfl : i = iN := by omega
      have hin' : ¬ ((i : Int) < (i : Int)) := by omega
      have HP : Hid (SPost w 200000 (.returned (.string t)) V) := ⟨_, rfl, by omega, ht1, HQ.out.2⟩
      clear HQ
      go_wp2_with fail
      go_ret
      exact HP.out
  · rw [show ((6 : Nat) : Int) = 6 from rfl] at h1 HQ0
    obtain ⟨p', rfl, hp255, hs4, hvs⟩ := HV.out.2 (by decide)
    clear hbn
    go_wp2_with fail
    refine (itoa_any W1 p' (by omega)).mono ?_
    rintro e W2 ⟨s2, rfl, hs22, hs21, he2⟩
    dsimp only
    have r1 : room (⟨#[32, 112]⟩ : ByteArray) s2 = true := room_of (m := 2) (n := 20) (by decide) hs22 (by decide)
    have z1 : ((⟨#[32, 112]⟩ : ByteArray) ++ s2).size ≤ 22 := size_cat (m := 2) (n := 20) (by decide) hs22
    have r2 : room ((⟨#[32, 112]⟩ : ByteArray) ++ s2) ⟨#[40]⟩ = true := room_of (m := 22) (n := 1) z1 (by decide) (by decide)
    have z2 : (((⟨#[32, 112]⟩ : ByteArray) ++ s2) ++ ⟨#[40]⟩).size ≤ 23 := size_cat z1 (n := 1) (by decide)
    have r3 : room s0 (((⟨#[32, 112]⟩ : ByteArray) ++ s2) ++ ⟨#[40]⟩) = true := room_of (m := 20) (n := 23) hs20 z2 (by decide)
    have y1 : 1 ≤ (s0 ++ (((⟨#[32, 112]⟩ : ByteArray) ++ s2) ++ ⟨#[40]⟩)).size := size_cat1 hs1
    have y2 : (s0 ++ (((⟨#[32, 112]⟩ : ByteArray) ++ s2) ++ ⟨#[40]⟩)).size ≤ 100 + 2100 * 0 := Nat.le_trans (size_cat hs20 z2) (by decide)
    have HQ2 : Hid (blk W2 b1 = some (reqE 6 ba bn bc ia iN ic (p' : Int) sa sn sc) ∧ w.Extends W2) := ⟨(he2.blk (blk_lt h1)).trans h1, HE1.out.trans he2⟩
    clear he2 z1 z2 hs22 hs21 HQ0
    have HQ0 := HQ2
    clear HQ2
    go_wp2_with fail
    refine wp_loop_f 110 (rtI w b1 (reqE 6 ba bn bc ia iN ic (p' : Int) sa sn sc) sn 6) (fun f _ => sn - (intOf (f 6)).toNat) rfl ⟨rfl, 0, _, by omega, rfl, rfl, y1, y2, HQ0⟩ ?_
    clear HQ0 h1 HE1 hs20 hs1 y1 y2 r1 r2 r3
    intro F V hrel
    obtain ⟨f1, i, t, hi, fi, f3, ht1, hts, HQ⟩ := hrel
    have H6 : Hid (F 6 = .int .i64 (i : Nat)) := fi
    rw [frame110, f1, fi, f3]
    clear f1 fi f3
    have h1 := HQ.out.1
    by_cases hin : i < sn
    · have hin' : (i : Int) < (sn : Int) := by omega
      obtain ⟨d, b, C, hx, rfl, hC, hCl, u0⟩ := HS.out.at hin
      obtain ⟨bd, nm⟩ := d
      have hv : nm.length ≤ 64 := hvs _ (List.mem_of_getElem? hx)
      have u1 : nth C (i * 2) = some (.bool bd) := nth_in (j := 0) u0 (show nth (slotE bd nm) 0 = some (.bool bd) from rfl) (by omega)
      have u2 : nth C (i * 2 + 1) = some (.string ⟨nm.toArray⟩) := nth_in (j := 1) u0 (show nth (slotE bd nm) 1 = some (.string ⟨nm.toArray⟩) from rfl) (by omega)
      have hCV : blk V b = some C := ((HE0.out.trans HQ.out.2).blk (blk_lt hC)).trans hC
      have p0 : (0 : Int) ≤ (i : Int) := by omega
      have p2 : ((i : Int)).toNat = i := by omega
      have c3 : i * 2 + 2 ≤ C.length := by omega
      have c3a : i * 2 < C.length := by omega
      have c3b : i * 2 + 1 < C.length := by omega
      clear hC hx u0
      obtain ⟨t2, ht2⟩ : ∃ t2, t2 = t ++ (⟨#[44]⟩ : ByteArray) := ⟨_, rfl⟩
      have r0 : room t (⟨#[44]⟩ : ByteArray) = true := room_of (m := 100000) (n := 1) (by omega) (by decide) (by decide)
      have hts2 : t2.size ≤ 101 + 2100 * i := by rw [ht2]; exact Nat.le_trans (size_cat hts (n := 1) (by decide)) (by omega)
      have ht21 : 1 ≤ t2.size := by rw [ht2]; exact size_cat1 ht1
      have ht2' : t ++ (⟨#[44]⟩ : ByteArray) = t2 := ht2.symm
      clear ht2
      by_cases hi0 : i = 0
      · have hi1 : ¬ (0 : Int) < (i : Int) := by omega
        clear hi0
        cases bd
        · have r3 : room t (⟨#[42]⟩ : ByteArray) = true := room_of (m := 100000) (n := 1) (by omega) (by decide) (by decide)
          have hz1 : 1 ≤ (t ++ (⟨#[42]⟩ : ByteArray)).size := size_cat1 ht1
          have hz2 : (t ++ (⟨#[42]⟩ : ByteArray)).size ≤ 100 + 2100 * (i + 1) := Nat.le_trans (size_cat hts (n := 1) (by decide)) (by omega)
          have HQ' := HQ
          clear HQ
          go_wp2_with fail
          refine ⟨rfl, rfl, ⟨rfl, i + 1, _, by omega, ?_, rfl, hz1, hz2, HQ'⟩, ?_⟩
          · show Value.int .i64 _ = _
            go_num
          · show sn - (intOf (Value.int .i64 _)).toNat < sn - (intOf (F 6)).toNat
            rw [H6.out]
            simp [intOf]; omega
        · go_wp2_with fail
          refine (quote_any V nm hv).mono ?_
          rintro e V1 ⟨s1, rfl, hs1, he1⟩
          dsimp only
          have r3 : room t s1 = true := room_of (m := 100000) (n := 256) (by omega) hs1 (by decide)
          have hz1 : 1 ≤ (t ++ s1).size := size_cat1 ht1
          have hz2 : (t ++ s1).size ≤ 100 + 2100 * (i + 1) := Nat.le_trans (size_cat hts hs1) (by omega)
          have HQ' : Hid (blk V1 b1 = some (reqE 6 ba bn bc ia iN ic (p' : Int) (some ⟨b, 0, none⟩) sn sc) ∧ w.Extends V1) := ⟨(he1.blk (blk_lt h1)).trans h1, HQ.out.2.trans he1⟩
          clear he1 HQ h1 hCV
          go_wp2_with fail
          refine ⟨rfl, rfl, ⟨rfl, i + 1, _, by omega, ?_, rfl, hz1, hz2, HQ'⟩, ?_⟩
          · show Value.int .i64 _ = _
            go_num
          · show sn - (intOf (Value.int .i64 _)).toNat < sn - (intOf (F 6)).toNat
            rw [H6.out]
            simp [intOf]; omega
      · have hi1 : (0 : Int) < (i : Int) := by omega
        clear hi0
        cases bd
        · have r3 : room t2 (⟨#[42]⟩ : ByteArray) = true := room_of (m := 100000) (n := 1) (by omega) (by decide) (by decide)
          have hz1 : 1 ≤ (t2 ++ (⟨#[42]⟩ : ByteArray)).size := size_cat1 ht21
          have hz2 : (t2 ++ (⟨#[42]⟩ : ByteArray)).size ≤ 100 + 2100 * (i + 1) := Nat.le_trans (size_cat hts2 (n := 1) (by decide)) (by omega)
          have HQ' := HQ
          clear HQ
          go_wp2_with fail
          refine ⟨rfl, rfl, ⟨rfl, i + 1, _, by omega, ?_, rfl, hz1, hz2, HQ'⟩, ?_⟩
          · show Value.int .i64 _ = _
            go_num
          · show sn - (intOf (Value.int .i64 _)).toNat < sn - (intOf (F 6)).toNat
            rw [H6.out]
            simp [intOf]; omega
        · go_wp2_with fail
          refine (quote_any V nm hv).mono ?_
          rintro e V1 ⟨s1, rfl, hs1, he1⟩
          dsimp only
          have r3 : room t2 s1 = true := room_of (m := 100000) (n := 256) (by omega) hs1 (by decide)
          have hz1 : 1 ≤ (t2 ++ s1).size := size_cat1 ht21
          have hz2 : (t2 ++ s1).size ≤ 100 + 2100 * (i + 1) := Nat.le_trans (size_cat hts2 hs1) (by omega)
          have HQ' : Hid (blk V1 b1 = some (reqE 6 ba bn bc ia iN ic (p' : Int) (some ⟨b, 0, none⟩) sn sc) ∧ w.Extends V1) := ⟨(he1.blk (blk_lt h1)).trans h1, HQ.out.2.trans he1⟩
          clear he1 HQ h1 hCV
          go_wp2_with fail
          refine ⟨rfl, rfl, ⟨rfl, i + 1, _, by omega, ?_, rfl, hz1, hz2, HQ'⟩, ?_⟩
          · show Value.int .i64 _ = _
            go_num
          · show sn - (intOf (Value.int .i64 _)).toNat < sn - (intOf (F 6)).toNat
            rw [H6.out]
            simp [intOf]; omega
    · obtain rfl : i = sn := by omega
      have hin' : ¬ ((i : Int) < (i : Int)) := by omega
      have r3 : room t (⟨#[41]⟩ : ByteArray) = true := room_of (m := 100000) (n := 1) (by omega) (by decide) (by decide)
      have HP : Hid (SPost w 200000 (.returned (.string (t ++ ⟨#[41]⟩))) V) := ⟨_, rfl, Nat.le_trans (size_cat hts (n := 1) (by decide)) (by omega), size_cat1 ht1, HQ.out.2⟩
      clear HQ
      go_wp2_with fail
      go_ret
      exact HP.out
end Go.Proofs.Qxb6500787a
