import Derived.Test.Qxb6500787aSd
import Derived.StillTailTactics
import Derived.Deep.QuietTactic
import Derived.BigQuiet
import Derived.Deep.RegionHeld
import Derived.Deep.CutRange
import Derived.Laws.ResultCell
import Derived.Laws.Rows
import Derived.DeepKeys
import Derived.DataBytes
import Derived.Laws.StructEq
import Derived.Laws.AppendOwn
import Derived.Laws.MakeOwn
import Derived.Lib.AppendStr
set_option linter.unusedSimpArgs false
set_option linter.unusedVariables false
namespace Go.Proofs.Qxb6500787a
open Go.RowKit Go.Blk
attribute [local go_sem ↓] execOp_load execOp_store execOp_alloc
attribute [local go_sem] Try.ld26 Try.st26 Try.ld27 Try.st27 Try.ld28 Try.st28 Try.ld3 Try.st3 Try.ld29 Try.st29 Try.ld4 Try.st4 Try.ld50 Try.st50 Try.ld68 Try.st68 Try.ld9 Try.st9 Try.ld2 Try.st2 Try.ld5 Try.st5 Try.ld12 Try.st12 Try.ld21 Try.st21 Try.ld22 Try.st22 Try.ld24 Try.st24 Try.ld32 Try.st32 Try.ld40 Try.st40 Try.ld44 Try.st44 Try.ld49 Try.st49 Try.ld58 Try.st58 Try.ld63 Try.st63 Try.ld97 Try.st97 Try.ld101 Try.st101 Try.ld116 Try.st116 Try.ld121 Try.st121 Try.ld135 Try.st135 Try.ld136 Try.st136 Try.ld138 Try.st138 Try.ld139 Try.st139 Try.ld142 Try.st142 Try.ld143 Try.st143 Try.ld146 Try.st146 Try.ld148 Try.st148 Try.ld154 Try.st154 Try.ld159 Try.st159 Try.ld173 Try.st173 Try.ld183 Try.st183 Try.ld184 Try.st184 Try.ld187 Try.st187 Try.ld192 Try.st192 Try.ld195 Try.st195 Try.ld217 Try.st217 Try.ld222 Try.st222 Try.ld241 Try.st241 Try.ld248 Try.st248 Try.ld268 Try.st268 Try.ld272 Try.st272 Try.ld129 Try.st129 Try.ld31 Try.st31 Try.ld52 Try.st52 Try.ld70 Try.st70 Try.ld74 Try.st74 Try.ld93 Try.st93 Try.al129 Try.al31 Try.al52 Try.al70 Try.al74 Try.al93
attribute [local go_sem] Request.length_enc Request.ok_enc Request.all_get Request.all_set Request.kind_get Request.kind_set Request.blob_get Request.blob_set Request.items_get Request.items_set Request.pred_get Request.pred_set Request.slots_get Request.slots_set Item.length_enc Item.ok_enc Item.all_get Item.all_set Item.del_get Item.del_set Item.pred_get Item.pred_set Item.args_get Item.args_set GOp.length_enc GOp.ok_enc GOp.all_get GOp.all_set GOp.kind_get GOp.kind_set GOp.raw_get GOp.raw_set Reader.length_enc Reader.ok_enc Reader.all_get Reader.all_set Reader.buf_get Reader.buf_set Reader.at__get Reader.at__set Slot.length_enc Slot.ok_enc Slot.all_get Slot.all_set Slot.bound_get Slot.bound_set Slot.name_get Slot.name_set
attribute [local go_sem] size_put size_ext blk_put free_put blk_alloc free_alloc blk_drew free_drew blk_ext free_ext lookOr_some putOr_some segAt_some cellAt_some storeIn_some put_put put_alloc_new length_arr ok_arr_u8 ok_arr_u32 ok_arr_u64 ok_arr_i64 ok_arr_sl cellsV_agg cellsV_int cellsV_bool cellsV_string cellsV_pointer cellsV_slice cellsV_sl ok_int ok_bool ok_string ok_pointer ok_slice ok_sl toList_arr seg_arr set_arr nth_splice nth_splice0 seg_splice seg_splice0 splice_splice splice_splice0 length_splice_if
attribute [local go_sem ↓] execOp_box
attribute [local go_sem] box_run nth_arr_u8 put_arr_u8 blk_drewN free_drewN put_drewN blk_raw free_raw
theorem ReqOk.grow {W W' : World} {B : Nat} {k : Int} {ba : Option Addr} {bn bc : Nat} {ia : Option Addr} {iN ic : Nat} {p : Int} {sa : Option Addr} {sn sc : Nat} {q : Rq} (h : ReqOk W B k ba bn bc ia iN ic p sa sn sc q) (he : W.Extends W') : ReqOk W' B k ba bn bc ia iN ic p sa sn sc q := by
  obtain ⟨h1, h2, ⟨K, h3, h4⟩, h5, h6⟩ := h
  exact ⟨h1, row_keep h2 (fun j hj => he.block j (row_at h2 j hj).2.1), ⟨K, row_keep h3 (fun j hj => he.block j (row_at h3 j hj).2.1), h4.keep (Keep9.of_extends he)⟩, h5, row_keep h6 (fun j hj => he.block j (row_at h6 j hj).2.1)⟩
theorem decF_bad {xs : List UInt8} (h : (decF xs).1 ≠ 0) : (decF xs).2 = Rq.zero := by
  unfold decF at h ⊢
  split
  · rfl
  · rename_i h0
    rw [if_neg h0] at h
    obtain ⟨b, hb⟩ : ∃ b, b = bodyF (hdrF xs).2 (xs.drop 4) := ⟨_, rfl⟩
    rw [← hb] at h ⊢
    by_cases h1 : b.1 = 0
    · by_cases h2 : b.2.2 = []
      · rw [fin_ok h1 h2] at h; exact absurd rfl h
      · rw [fin_trail h1 h2]
    · rw [fin_bad h1]
theorem decF_small {xs : List UInt8} (hx : xs.length ≤ 65536) : (decF xs).2.blob.length ≤ 65536 ∧ (decF xs).2.items.length ≤ 65536 ∧ (decF xs).2.slots.length ≤ 65536 ∧ ∀ it ∈ (decF xs).2.items, it.2.2.length ≤ 1000000000000 := by
  by_cases h : (decF xs).1 = 0
  · obtain ⟨k, pay, ⟨_, k1, k7, hpay, v1, v2, v4, v6⟩, _⟩ := decF_inv (xs := xs) (q := (decF xs).2) (by rw [← h]) hx
    obtain ⟨q, hq⟩ : ∃ q, q = (decF xs).2 := ⟨_, rfl⟩
    rw [← hq] at v1 v2 v4 v6 ⊢
    have hkc : (k = 1 ∨ k = 7) ∨ (k = 2 ∨ k = 3 ∨ k = 5) ∨ k = 4 ∨ k = 6 := by omega
    rcases hkc with hk | hk | hk | hk
    · obtain ⟨e1, e2, e3⟩ := v1 hk
      rw [← e1, e2, e3]; exact ⟨by omega, by simp, by simp, fun it h => by simp at h⟩
    · obtain ⟨it, e1, e2, e3, e4, e5⟩ := v2 hk
      rw [e1, e4, e5]; exact ⟨by simp, by simp, by simp, fun x h => by rw [List.mem_singleton.1 h]; have := e2.2.2.1; omega⟩
    · obtain ⟨e1, e2, e3, e4, e5⟩ := v4 hk
      rw [e4, e5]; exact ⟨by simp, by omega, by simp, fun x h => by have := (e2 x h).2.2.1; omega⟩
    · obtain ⟨p, e1, e2, e3, e4, e5, e6, e7⟩ := v6 hk
      rw [e6, e7]; exact ⟨by simp, by simp, by omega, fun x h => by simp at h⟩
  · rw [decF_bad h]; exact ⟨by simp [Rq.zero], by simp [Rq.zero], by simp [Rq.zero], fun it h => by simp [Rq.zero] at h⟩
attribute [local go_sem] rq_len rq_all rq_ok rq_put rq_put2
set_option maxRecDepth 20000 in
set_option maxHeartbeats 4000000 in
theorem decoding_walk (w : World) (a : Option Addr) (len cap : Nat) (g : Nat → GOp) (dt : Nat → List UInt8) (hS : ScriptAt w a len cap g dt) :
    Calls Try.prog 3 #[.slice a len cap] w fun e w' => e = .returned (.bool true) ∧ w.Extends w' := by
  have HS : Hid (ScriptAt w a len cap g dt) := hS
  have hS0 := hS
  clear hS
  go_enter Try.func3, Try.ntmps3
  go_wp2_with fail
  refine (small_any w a len cap g dt hS0).mono ?_
  rintro e w1 ⟨⟨r, rfl, hr⟩, rfl⟩
  clear hS0
  dsimp only
  cases r
  · go_wp2_with fail
    go_ret
    exact ⟨rfl, ext_Ext (Ext.refl _)⟩
  obtain ⟨hlen, hsz⟩ := hr rfl
  have HSZ : Hid (∀ i, i < len → (g i).raw.len ≤ 65536) := hsz
  clear hr hsz
  go_wp2_with fail
  refine (sends_any w1 a len cap g dt HS.out hlen).mono ?_
  rintro e W1 ⟨A, N, Cp, L, rfl, hat⟩
  have HAT : Hid (SendsAt w1 W1 len g A N Cp L) := hat
  have hN : N ≤ 65536 := by have := hat.2.2.1; omega
  clear hat
  dsimp only
  go_wp2_with fail
  refine wp_loop_f 70 (dcI W1 A N Cp) (fun f _ => N - (intOf (f 4)).toNat) rfl ⟨rfl, 0, by omega, rfl, ext_Ext (Ext.refl _)⟩ ?_
  intro F V hrel
  obtain ⟨f3, i, hi, f4, HE⟩ := hrel
  have H4 : Hid (F 4 = .int .i64 (i : Nat)) := f4
  rw [frame70, f3, f4]
  clear f3 f4
  by_cases hin : i < N
  · have hin' : (i : Int) < (N : Int) := by omega
    obtain ⟨s, b, C, rfl, hC, hCl, u0, j, hj, hsj⟩ := sends_at HAT.out hin
    have hD : Dec2 V s (dt j) := (dec2_of (W := w1) (by rw [hsj]; exact (HS.out.2.2.1 j hj).1) (by rw [hsj]; exact HSZ.out j hj)).grow (HAT.out.2.2.2.2.trans HE.out)
    obtain ⟨xs, hxs⟩ : ∃ xs, xs = dt j := ⟨_, rfl⟩
    rw [← hxs] at hD
    have HD : Hid (Dec2 V s xs) := hD
    obtain ⟨sa0, sl0, sc0⟩ := s
    have hCV : blk V b = some C := (HE.out.blk (blk_lt hC)).trans hC
    have p0 : (0 : Int) ≤ (i : Int) := by omega
    have p2 : ((i : Int)).toNat = i := by omega
    have hxl : xs.length ≤ 65536 := by
      rcases hD with ⟨_, h⟩ | ⟨h1, _, _, h4⟩
      · rw [h]; simp
      · rw [h1.1]; exact h4
    obtain ⟨sm1, sm2, sm3, sm4⟩ := decF_small hxl
    have HSM4 : Hid (∀ it ∈ (decF xs).2.items, it.2.2.length ≤ 1000000000000) := sm4
    dsimp only at u0
    clear hC hsj hxs hD sm4
    go_wp2_with fail
    refine (dec_both 13 (.inl rfl) V ⟨sa0, sl0, sc0⟩ xs HD.out).mono ?_
    rintro e V2 ⟨k, ba, bn, bc, ia, iN, ic, p, sa, sn, sc, rfl, hok, hE2⟩
    obtain ⟨z1, z2, z3, z4, z5⟩ := DecPost.len (W' := V2) hok
    have bn9 : bn ≤ 1000000000000 := by omega
    have iN9 : iN ≤ 1000000000000 := by omega
    have sn9 : sn ≤ 1000000000000 := by omega
    have HZ : Hid (k = (decF xs).2.kind ∧ bn = (decF xs).2.blob.length ∧ iN = (decF xs).2.items.length ∧ p = (decF xs).2.pred ∧ sn = (decF xs).2.slots.length) := ⟨z1, z2, z3, z4, z5⟩
    obtain ⟨cd, hcd⟩ : ∃ cd, cd = (decF xs).1 := ⟨_, rfl⟩
    rw [← hcd]
    have HCD : Hid (cd = (decF xs).1) := hcd
    have HOK : Hid (ReqOk V2 V.heap.size k ba bn bc ia iN ic p sa sn sc (decF xs).2) := hok
    have HE2 : Hid (V.Extends V2) := hE2
    have hCV2 : blk V2 b = some C := (hE2.blk (blk_lt hCV)).trans hCV
    have lb2 := blk_lt hCV2
    have nb2 : ¬ b = V2.heap.size := by omega
    clear z1 z2 z3 z4 z5 hok hE2 hcd sm1 sm2 sm3
    dsimp only
    go_upto_region 8 with fail
    refine wp_world (fun W3 => blk W3 V2.heap.size = some (reqE k ba bn bc ia iN ic p sa sn sc) ∧ Hid (V2.Extends W3) ∧ blk W3 b = some C ∧ V2.heap.size < W3.heap.size) ⟨?_, ?_, ?_, ?_⟩ ?_
    · first | (rw [blk_put, if_pos rfl, blk_alloc, if_pos rfl]; rfl) | (rw [blk_alloc, if_pos rfl])
    · first | exact ext_put_new (extends_alloc (ext_Ext (Ext.refl _)) _) (Nat.le_refl _) _ | exact extends_alloc (ext_Ext (Ext.refl _)) _
    · first | (rw [blk_put, if_neg nb2, blk_alloc, if_neg nb2]; exact hCV2) | (rw [blk_alloc, if_neg nb2]; exact hCV2)
    · first | (rw [size_put, World.size_alloc]; omega) | (rw [World.size_alloc]; omega)
    rintro V3 ⟨g5, HE3, hCV3, lb5⟩
    obtain ⟨b5, hb5⟩ : ∃ b5, b5 = V2.heap.size := ⟨_, rfl⟩
    rw [← hb5] at g5 lb5 ⊢
    clear hb5 nb2 lb2
    go_wp2_with fail
    refine (dec_both 14 (.inr rfl) V3 ⟨sa0, sl0, sc0⟩ xs (HD.out.grow (HE2.out.trans HE3.out))).mono ?_
    rintro e V4 ⟨k', ba', bn', bc', ia', iN', ic', p', sa', sn', sc', rfl, hok, hE4⟩
    obtain ⟨z1, z2, z3, z4, z5⟩ := DecPost.len (W' := V4) hok
    obtain rfl : k' = k := z1.trans HZ.out.1.symm
    obtain rfl : bn' = bn := z2.trans HZ.out.2.1.symm
    obtain rfl : iN' = iN := z3.trans HZ.out.2.2.1.symm
    obtain rfl : p' = p := z4.trans HZ.out.2.2.2.1.symm
    obtain rfl : sn' = sn := z5.trans HZ.out.2.2.2.2.symm
    rw [← HCD.out]
    have HOK4 : Hid (ReqOk V4 V3.heap.size k' ba' bn' bc' ia' iN' ic' p' sa' sn' sc' (decF xs).2) := hok
    have HE4 : Hid (V3.Extends V4) := hE4
    have g54 : blk V4 b5 = some (reqE k' ba bn' bc ia iN' ic p' sa sn' sc) := (hE4.blk lb5).trans g5
    have hCV4 : blk V4 b = some C := (hE4.blk (blk_lt hCV3)).trans hCV3
    have lb4 := blk_lt hCV4
    have nb4 : ¬ b = V4.heap.size := by omega
    have lb54 := blk_lt g54
    have nb54 : ¬ b5 = V4.heap.size := by omega
    clear z1 z2 z3 z4 z5 hok hE4 g5 lb5
    dsimp only
    go_upto_region 9 with fail
    refine wp_world (fun W5 => blk W5 V4.heap.size = some (reqE k' ba' bn' bc' ia' iN' ic' p' sa' sn' sc') ∧ Hid (V4.Extends W5) ∧ blk W5 b = some C ∧ blk W5 b5 = some (reqE k' ba bn' bc ia iN' ic p' sa sn' sc)) ⟨?_, ?_, ?_, ?_⟩ ?_
    · first | (rw [blk_put, if_pos rfl, blk_alloc, if_pos rfl]; rfl) | (rw [blk_alloc, if_pos rfl])
    · first | exact ext_put_new (extends_alloc (ext_Ext (Ext.refl _)) _) (Nat.le_refl _) _ | exact extends_alloc (ext_Ext (Ext.refl _)) _
    · first | (rw [blk_put, if_neg nb4, blk_alloc, if_neg nb4]; exact hCV4) | (rw [blk_alloc, if_neg nb4]; exact hCV4)
    · first | (rw [blk_put, if_neg nb54, blk_alloc, if_neg nb54]; exact g54) | (rw [blk_alloc, if_neg nb54]; exact g54)
    rintro V5 ⟨g7, HE5, hCV5, g5⟩
    obtain ⟨b7, hb7⟩ : ∃ b7, b7 = V4.heap.size := ⟨_, rfl⟩
    rw [← hb7] at g7 ⊢
    clear hb7 nb4 nb54 lb54 lb4
    have HOK5 : Hid (ReqOk V5 V.heap.size k' ba bn' bc ia iN' ic p' sa sn' sc (decF xs).2) := HOK.out.grow ((HE3.out.trans HE4.out).trans HE5.out)
    have HE05 : Hid (V.Extends V5) := ((HE2.out.trans HE3.out).trans HE4.out).trans HE5.out
    go_wp2_with fail
    refine (sameRequest_eq V5 V.heap.size V3.heap.size k' ba bn' bc ia iN' ic p' sa sn' sc ba' bc' ia' ic' sa' sc' (decF xs).2 bn9 iN9 sn9 HSM4.out HOK5.out (HOK4.out.grow HE5.out)).mono ?_
    rintro e V6 ⟨rfl, hE6⟩
    have HE06 : Hid (V.Extends V6) := HE05.out.trans hE6
    have HOK6 : Hid (ReqOk V6 V.heap.size k' ba bn' bc ia iN' ic p' sa sn' sc (decF xs).2) := HOK5.out.grow hE6
    have g56 : blk V6 b5 = some (reqE k' ba bn' bc ia iN' ic p' sa sn' sc) := (hE6.blk (blk_lt g5)).trans g5
    have hCV6 : blk V6 b = some C := (hE6.blk (blk_lt hCV5)).trans hCV5
    clear hE6 g5 g54 g7 hCV2 hCV3 hCV4 hCV5 HOK HOK4 HOK5 HE2 HE3 HE4 HE5 HE05
    dsimp only
    by_cases hz : cd = 0
    · have hd0 : decF xs = (0, (decF xs).2) := by rw [← hz, HCD.out]
      obtain ⟨kk, pay, hRV, hxp⟩ := decF_inv hd0 hxl
      have HRV : Hid (RqV kk (decF xs).2 pay) := hRV
      have HXP : Hid (xs = [1, UInt8.ofNat kk, UInt8.ofNat (pay.length / 256), UInt8.ofNat pay.length] ++ pay) := hxp
      have HBS : Hid (Bs V sa0 sl0 xs) := by
        rcases HD.out with ⟨_, h⟩ | ⟨h1, _⟩
        · rw [h] at hxp; simp at hxp
        · exact h1
      have hsl : sl0 ≤ 65536 := by have := HBS.out.1; omega
      clear hRV hxp hd0
      subst hz
      go_wp2_with fail
      refine (encode_ok V6 V.heap.size k' ba bn' bc ia iN' ic p' sa sn' sc (decF xs).2 HOK6.out kk pay HRV.out).mono ?_
      rintro e V7 ⟨oa, on, oc, rfl, hob⟩
      rw [← HXP.out] at hob
      obtain rfl : on = sl0 := by rw [hob.2.2]; exact HBS.out.1
      have HOB : Hid (Ob V6 V7 oa on oc xs) := hob
      have g57 : blk V7 b5 = some (reqE k' ba bn' bc ia iN' ic p' sa sn' sc) := (hob.2.1.blk (blk_lt g56)).trans g56
      have hCV7 : blk V7 b = some C := (hob.2.1.blk (blk_lt hCV6)).trans hCV6
      clear hob g56 hCV6
      dsimp only
      go_wp2_with fail
      refine (sameBytes_eq V7 oa sa0 on oc sc0 (by omega) xs HOB.out.bs (HBS.out.grow (HE06.out.trans HOB.out.2.1))).mono ?_
      rintro e V8 ⟨rfl, k8, rfl⟩
      dsimp only
      go_wp2_with fail
      refine (requestText_ok V6 (V7.drewN k8) (extends_drewN HOB.out.2.1 k8) V.heap.size k' ba bn' bc ia iN' ic p' sa sn' sc (decF xs).2 HOK6.out kk pay HRV.out).mono ?_
      rintro e V9 ⟨t, rfl, ht2, ht1, hE9⟩
      have htz : ¬ (t.size : Int) = 0 := by omega
      have htb : ((t.size : Int) == 0) = false := by rw [beq_eq_false_iff_ne]; exact htz
      have HE' : Hid (W1.Extends V9) := ((HE.out.trans HE06.out).trans (extends_drewN HOB.out.2.1 k8)).trans hE9
      clear hE9
      dsimp only
      go_wp2_with fail
      refine ⟨rfl, rfl, ⟨rfl, i + 1, by omega, ?_, HE'⟩, ?_⟩
      · show Value.int .i64 _ = _
        go_num
      · show N - (intOf (Value.int .i64 _)).toNat < N - (intOf (F 4)).toNat
        rw [H4.out]
        simp [intOf]; omega
    · have hzb : (cd == 0) = false := by simp [hz]
      have hzn : (cd != 0) = true := by simp [hz]
      have HE' : Hid (W1.Extends V6) := HE.out.trans HE06.out
      clear HE06 HE
      go_wp2_with fail
      refine ⟨rfl, rfl, ⟨rfl, i + 1, by omega, ?_, HE'⟩, ?_⟩
      · show Value.int .i64 _ = _
        go_num
      · show N - (intOf (Value.int .i64 _)).toNat < N - (intOf (F 4)).toNat
        rw [H4.out]
        simp [intOf]; omega
  · obtain rfl : i = N := by omega
    have hin' : ¬ ((i : Int) < (i : Int)) := by omega
    have HE' : Hid (w1.Extends V) := HAT.out.2.2.2.2.trans HE.out
    go_wp2_with fail
    go_ret
    exact ⟨rfl, HE'.out⟩
end Go.Proofs.Qxb6500787a
