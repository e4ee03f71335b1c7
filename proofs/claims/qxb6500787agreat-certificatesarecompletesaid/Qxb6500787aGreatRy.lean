
import Derived.Test.Qxb6500787aGreatRx
import Derived.Test.Qxb6500787aGreatRv
import Derived.StillTailTactics
import Derived.Deep.QuietTactic
import Derived.BigQuiet
import Derived.Deep.RegionHeld
import Derived.Deep.CutRange
import Derived.Laws.ResultCell
import Derived.Laws.Rows
import Derived.DeepKeys
import Derived.DataBytes
import Derived.Laws.StructEq
import Derived.Laws.AppendOwn
import Derived.Laws.MakeOwn
import Derived.Lib.AppendStr
set_option linter.unusedSimpArgs false
set_option linter.unusedVariables false
namespace Go.Proofs.Qxb6500787aGreat
open Go.RowKit Go.Blk
attribute [local go_sem ↓] execOp_load execOp_store execOp_alloc
attribute [local go_sem] Tryz.ld26 Tryz.st26 Tryz.ld27 Tryz.st27 Tryz.ld28 Tryz.st28 Tryz.ld3 Tryz.st3 Tryz.ld29 Tryz.st29 Tryz.ld4 Tryz.st4 Tryz.ld50 Tryz.st50 Tryz.ld68 Tryz.st68 Tryz.ld9 Tryz.st9 Tryz.ld2 Tryz.st2 Tryz.ld5 Tryz.st5 Tryz.ld12 Tryz.st12 Tryz.ld21 Tryz.st21 Tryz.ld22 Tryz.st22 Tryz.ld24 Tryz.st24 Tryz.ld32 Tryz.st32 Tryz.ld40 Tryz.st40 Tryz.ld44 Tryz.st44 Tryz.ld49 Tryz.st49 Tryz.ld58 Tryz.st58 Tryz.ld97 Tryz.st97 Tryz.ld101 Tryz.st101 Tryz.ld116 Tryz.st116 Tryz.ld121 Tryz.st121 Tryz.ld135 Tryz.st135 Tryz.ld136 Tryz.st136 Tryz.ld138 Tryz.st138 Tryz.ld139 Tryz.st139 Tryz.ld142 Tryz.st142 Tryz.ld143 Tryz.st143 Tryz.ld146 Tryz.st146 Tryz.ld148 Tryz.st148 Tryz.ld154 Tryz.st154 Tryz.ld159 Tryz.st159 Tryz.ld173 Tryz.st173 Tryz.ld183 Tryz.st183 Tryz.ld184 Tryz.st184 Tryz.ld187 Tryz.st187 Tryz.ld192 Tryz.st192 Tryz.ld195 Tryz.st195 Tryz.ld217 Tryz.st217 Tryz.ld222 Tryz.st222 Tryz.ld241 Tryz.st241 Tryz.ld248 Tryz.st248 Tryz.ld268 Tryz.st268 Tryz.ld272 Tryz.st272 Tryz.ld129 Tryz.st129 Tryz.ld31 Tryz.st31 Tryz.ld52 Tryz.st52 Tryz.ld70 Tryz.st70 Tryz.ld74 Tryz.st74 Tryz.ld93 Tryz.st93 Tryz.al129 Tryz.al31 Tryz.al52 Tryz.al70 Tryz.al74 Tryz.al93
attribute [local go_sem] Request.length_enc Request.ok_enc Request.all_get Request.all_set Request.kind_get Request.kind_set Request.blob_get Request.blob_set Request.items_get Request.items_set Request.pred_get Request.pred_set Request.slots_get Request.slots_set Item.length_enc Item.ok_enc Item.all_get Item.all_set Item.del_get Item.del_set Item.pred_get Item.pred_set Item.args_get Item.args_set GOp.length_enc GOp.ok_enc GOp.all_get GOp.all_set GOp.kind_get GOp.kind_set GOp.raw_get GOp.raw_set Reader.length_enc Reader.ok_enc Reader.all_get Reader.all_set Reader.buf_get Reader.buf_set Reader.at__get Reader.at__set Slot.length_enc Slot.ok_enc Slot.all_get Slot.all_set Slot.bound_get Slot.bound_set Slot.name_get Slot.name_set
attribute [local go_sem] size_put size_ext blk_put free_put blk_alloc free_alloc blk_drew free_drew blk_ext free_ext lookOr_some putOr_some segAt_some cellAt_some storeIn_some put_put put_alloc_new length_arr ok_arr_u8 ok_arr_u32 ok_arr_u64 ok_arr_i64 ok_arr_sl cellsV_agg cellsV_int cellsV_bool cellsV_string cellsV_pointer cellsV_slice cellsV_sl ok_int ok_bool ok_string ok_pointer ok_slice ok_sl toList_arr seg_arr set_arr nth_splice nth_splice0 seg_splice seg_splice0 splice_splice splice_splice0 length_splice_if
attribute [local go_sem ↓] execOp_box
attribute [local go_sem] box_run nth_arr_u8 put_arr_u8 blk_drewN free_drewN put_drewN blk_raw free_raw
theorem bslice27d (w : World) (x y z u : Int) : (bsliceOp 31 4 #[(0, .int .u8 x), (1, .int .u8 y), (2, .int .u8 z), (3, .int .u8 u)]).run Tryz.prog w = .ok (.value (.slice (some ⟨w.heap.size, 0, none⟩) 4 4)) (w.alloc (.cells #[.int .u8 x, .int .u8 y, .int .u8 z, .int .u8 u] 5)) := by kernel_rfl
theorem ob_new {w0 W : World} (he : w0.Extends W) (zs : List UInt8) (hl : zs.length ≤ 1000000) (A : Array Value) (hA : A = (bv zs).toArray) (m : Nat) (hm : zs.length = m) : Ob w0 (W.alloc (.cells A 5)) (some ⟨W.heap.size, 0, none⟩) m m zs := by
  subst hA
  subst hm
  refine ⟨⟨by rw [length_bv]; omega, .inr ⟨W.heap.size, zs.length, _, rfl, he.size, (heap_alloc _ _ _).trans (if_pos rfl), Nat.le_refl _, by simp only [maxLen]; omega, by simp [length_bv], ?_⟩⟩, extends_alloc he _, rfl⟩
  rw [Nat.mul_one]
  exact List.take_of_length_le (by rw [length_bv]; exact Nat.le_refl _)
theorem Ob.open {w0 W : World} {a : Option Addr} {n c : Nat} {zs : List UInt8} (h : Ob w0 W a n c zs) (h0 : 0 < zs.length) : ∃ g C, a = some ⟨g, 0, none⟩ ∧ blk W g = some C ∧ free W g = true ∧ n ≤ C.length ∧ seg C 0 n = bv zs ∧ w0.heap.size ≤ g ∧ ∀ D : List Value, D.length = C.length → ∀ zs' : List UInt8, zs'.length = zs.length → D.take zs'.length = bv zs' → Ob w0 (put W g D) a n c zs' := by
  obtain ⟨⟨h1, h2 | ⟨g, cap, cur, e1, e2, e3, e4, e5, e6, e7⟩⟩, he, hn⟩ := h
  · exact absurd h2.2 (by omega)
  · injection e1 with e1a e1b e1c
    subst e1a
    subst e1c
    rw [Nat.mul_one] at e6 e7
    refine ⟨g, cur.toList, rfl, blk_mk e3, free_mk e3, by rw [Array.length_toList, e6]; omega, by unfold seg; rw [List.drop_zero, hn]; exact e7, e2, fun D hD zs' hz ht => ?_⟩
    refine ⟨⟨by rw [length_bv]; omega, .inr ⟨g, c, D.toArray, by rw [hz, e1b], e2, ?_, by rw [hz]; exact e4, e5, by rw [List.size_toArray, hD, Array.length_toList, e6, Nat.mul_one], by rw [Nat.mul_one]; exact ht⟩⟩, ?_, by rw [hz]; exact hn⟩
    · rw [heap_put, if_pos rfl, e3]; rfl
    · have : Side (isR g) W (put W g D) := Side.put (D := isR g) (Side.refl _ _) rfl _
      exact this.extends he (fun k hk => by rw [hk]; exact e2)
def EncPost (W : World) (zs : List UInt8) (e : Ending) (W' : World) : Prop := ∃ a n c, e = .returned (.tuple #[.slice a n c, .int .i64 0]) ∧ Ob W W' a n c zs
theorem ob_blob {w0 W : World} {a : Option Addr} {n c : Nat} {zs : List UInt8} (h : Ob w0 W a n c zs) (hl : zs.length ≤ 1000000) (xs : List UInt8) (hx : xs.length ≤ 1000000) (ba : Option Addr) (bn bc : Nat) (hb : Bs W ba bn xs) :
    ∃ a' n' c' W', (Builtin.append_ #[31, 31] 31 #[.slice a n c, .slice ba bn bc]).run Tryz.prog W = .ok (.slice a' n' c') W' ∧ Ob w0 W' a' n' c' (zs ++ xs) ∧ Nb W W' := by
  have hbn : bn = xs.length := hb.1.symm
  subst hbn
  obtain ⟨a', n', c', W', hr, ho, hg⟩ := appB w0.heap.size W 31 (.slice a n c) zs xs ba bc h.1 hb h.2.1.size (by omega)
  have hn' : n' = (zs ++ xs).length := by
    obtain ⟨a2, c2, e⟩ := row_val ho
    exact congrArg lenV e
  exact ⟨a', n', c', W', hr, ⟨ho, grown_ext h.2.1 hg (fun k hk => (row_at h.1 k hk).1), hn'⟩, Nb.of_grown hg h.1⟩
theorem shr8 (m : Nat) (h : m ≤ 65535) : ((m : Int) >>> (8 : Nat)) = ((m / 256 : Nat) : Int) := by
  rw [Int.shiftRight_eq_div_pow]; omega
theorem set2_bv (C : List Value) (n : Nat) (y1 y2 z2 z3 v2 v3 : UInt8) (pay : List UInt8) (hC : n ≤ C.length) (hs : seg C 0 n = bv ([y1, y2, z2, z3] ++ pay)) (hn : n = 4 + pay.length) :
    (splice (splice C 2 [.int .u8 (w8 v2)]) 3 [.int .u8 (w8 v3)]).length = C.length ∧ (splice (splice C 2 [.int .u8 (w8 v2)]) 3 [.int .u8 (w8 v3)]).take ([y1, y2, v2, v3] ++ pay).length = bv ([y1, y2, v2, v3] ++ pay) := by
  have l1 : (splice C 2 [.int .u8 (w8 v2)]).length = C.length := length_splice1 (by omega)
  refine ⟨(length_splice1 (by rw [l1]; omega)).trans l1, ?_⟩
  have s1 := seg_splice_in (C := C) (p := 0) (n := n) (j := 2) (v := .int .u8 (w8 v2)) hs (by omega) (by omega)
  have s2 := seg_splice_in (C := splice C (0 + 2) [.int .u8 (w8 v2)]) (p := 0) (n := n) (j := 3) (v := .int .u8 (w8 v3)) s1 (by rw [show 0 + 2 = 2 from rfl, l1]; omega) (by omega)
  have hl : ([y1, y2, v2, v3] ++ pay).length = n := by simp; omega
  rw [hl]
  unfold seg at s2
  rw [List.drop_zero] at s2
  exact s2
attribute [local go_sem] bslice27d it_len it0 it1 it2 it_set0 it_set2 it_all it_put it_put2 it_ok rq_len rq0 rq1 rq2 rq3 rq4 rq_all rq_ok so_len so_all so_ok
attribute [local go_sem ↓] execOp_bslice
set_option maxRecDepth 20000 in
set_option maxHeartbeats 2000000 in
theorem encode_ok (W : World) (B : Nat) (k : Int) (ba : Option Addr) (bn bc : Nat) (ia : Option Addr) (iN ic : Nat) (p : Int) (sa : Option Addr) (sn sc : Nat) (q : Rq) (hR : ReqOk W B k ba bn bc ia iN ic p sa sn sc q) (kk : Nat) (pay : List UInt8) (hV : RqV kk q pay) :
    Calls Tryz.prog 65 #[.agg (reqE k ba bn bc ia iN ic p sa sn sc).toArray] W (EncPost W ([1, UInt8.ofNat kk, UInt8.ofNat (pay.length / 256), UInt8.ofNat pay.length] ++ pay)) := by
  obtain ⟨hk, hb, ⟨K, hK, hI⟩, hp, hs⟩ := hR
  obtain ⟨hkk, k1, k7, hpay, v1, v2, v4, v6⟩ := hV
  have hkn : k = (kk : Int) := hk.trans hkk
  subst hkn
  have HB : Hid (Bs W ba bn q.blob) := (bs_own hb).1
  have HK : Hid (Rw encD 3 W ia iN K) := (rw_own encD_len hK).1
  have HS : Hid (Rw encL 2 W sa sn q.slots) := (rw_own encL_len hs).1
  have HI : Hid (ItemsOk W B K q.items) := hI
  have HKI : Hid (iN = q.items.length) := by show _ = _; rw [← hI.1]; exact HK.out.1.symm
  have HP : Hid (p = q.pred) := hp
  have V1 : Hid ((kk = 1 ∨ kk = 7) → pay = q.blob ∧ q.items = [] ∧ q.slots = []) := v1
  have V2 : Hid ((kk = 2 ∨ kk = 3 ∨ kk = 5) → ∃ it, q.items = [it] ∧ ItV it ∧ pay = encF it.2.1.toNat it.2.2 ∧ q.blob = [] ∧ q.slots = []) := v2
  have V4 : Hid (kk = 4 → q.items.length ≤ 32 ∧ (∀ it ∈ q.items, ItV it) ∧ pay = encB q.items ∧ q.blob = [] ∧ q.slots = []) := v4
  have V6 : Hid (kk = 6 → ∃ p : Nat, q.pred = (p : Int) ∧ p ≤ 255 ∧ q.slots.length ≤ 4 ∧ (∀ s ∈ q.slots, SlV s) ∧ pay = encP p q.slots ∧ q.blob = [] ∧ q.items = []) := v6
  obtain ⟨fin, hfin⟩ : ∃ fin, fin = [1, UInt8.ofNat kk, UInt8.ofNat (pay.length / 256), UInt8.ofNat pay.length] ++ pay := ⟨_, rfl⟩
  rw [← hfin]
  have HF : Hid (fin = [1, UInt8.ofNat kk, UInt8.ofNat (pay.length / 256), UInt8.ofNat pay.length] ++ pay) := hfin
  clear hb hK hI hs v1 v2 v4 v6 hk hp hkk hfin
  go_enter Tryz.func65, Tryz.ntmps65
  go_upto_region 1 with fail
  refine wp_world (fun W0 => W0.heap[W.heap.size]? = some (.cells (reqE (kk : Int) ba bn bc ia iN ic p sa sn sc).toArray 37 (0, 0)) ∧ Hid (W.Extends W0)) ⟨?_, extends_alloc (ext_Ext (Ext.refl _)) _⟩ ?_
  · rw [heap_alloc, if_pos rfl]
  rintro W0 ⟨hh1, HE0⟩
  obtain ⟨b1, hb1⟩ : ∃ b1, b1 = W.heap.size := ⟨_, rfl⟩
  rw [← hb1] at hh1 ⊢
  have HH1 : Hid (W0.heap[b1]? = some (.cells (reqE (kk : Int) ba bn bc ia iN ic p sa sn sc).toArray 37 (0, 0))) := hh1
  have h1 : blk W0 b1 = some (reqE (kk : Int) ba bn bc ia iN ic p sa sn sc) := blk_mk hh1
  clear hb1 hh1
  have p0 : ¬ (kk : Int) ≤ 0 := by omega
  have p1 : ¬ (8 : Int) ≤ (kk : Int) := by omega
  have w1 : IntKind.u8.wrap (kk : Int) = (kk : Int) := by rw [IntKind.wrap_u8]; omega
  have l1 := blk_lt h1
  have n1 : ¬ b1 = W0.heap.size := by omega
  have hu : bv [1, UInt8.ofNat kk, 0, 0] = [.int .u8 1, .int .u8 (kk : Int), .int .u8 0, .int .u8 0] := by
    unfold bv u8v w8
    rw [List.map_cons, List.map_cons, UInt8.toNat_ofNat', Nat.mod_eq_of_lt (by omega)]; rfl
  have ho1 := ob_new HE0.out [1, UInt8.ofNat kk, 0, 0] (by simp) #[.int .u8 1, .int .u8 (kk : Int), .int .u8 0, .int .u8 0] (by rw [hu]) 4 rfl
  have hx1 : W0.Extends (W0.alloc (.cells #[.int .u8 1, .int .u8 (kk : Int), .int .u8 0, .int .u8 0] 5)) := extends_alloc (ext_Ext (Ext.refl _)) _
  go_upto_region 4 with fail
  refine wp_world (fun W1 => blk W1 b1 = some (reqE (kk : Int) ba bn bc ia iN ic p sa sn sc) ∧ Hid (Ob W W1 (some ⟨W0.heap.size, 0, none⟩) 4 4 [1, UInt8.ofNat kk, 0, 0])) ⟨(hx1.blk l1).trans h1, ho1⟩ ?_
  obtain ⟨b4, hb4⟩ : ∃ b4, b4 = W0.heap.size := ⟨_, rfl⟩
  rw [← hb4]
  clear hb4 hx1 ho1 h1 l1 n1 HE0 HH1 hu
  rintro W1 ⟨h1, HO1⟩
  have l1 := blk_lt h1
  have hkc : kk = 1 ∨ kk = 7 ∨ kk = 2 ∨ kk = 3 ∨ kk = 5 ∨ kk = 4 ∨ kk = 6 := by omega
  rcases hkc with rfl | rfl | rfl | rfl | rfl | rfl | rfl
  · have hkz : ((1 : Nat) : Int) = 1 := rfl
    rw [hkz] at h1
    have hpb := (V1.out (by decide)).1
    obtain ⟨a2, n2, c2, V, hr2, ho2, hn2⟩ := ob_blob HO1.out (by simp) pay (by omega) ba bn bc (by rw [hpb]; exact HB.out.grow HO1.out.2.1)
    have HO2 : Hid (Ob W V a2 n2 c2 ([1, UInt8.ofNat 1, 0, 0] ++ pay)) := ho2
    clear ho2 hn2 hpb
    go_upto_region 23 with (at_builtin; refine wpList_append_run rfl _ _ 31 rfl _ _ _ _ rfl rfl hr2 ?_)
    obtain ⟨m, hm⟩ : ∃ m, m = pay.length := ⟨_, rfl⟩
    have hn2 : n2 = m + 4 := by have := HO2.out.2.2; simp at this; omega
    subst hn2
    rw [← hm] at hpay
    have HM : Hid (m = pay.length) := hm
    obtain ⟨g, C, rfl, hC, hf, hCl, hsg, hg0, hset⟩ := HO2.out.open (by simp)
    obtain ⟨v2, hv2⟩ : ∃ v2, v2 = UInt8.ofNat (pay.length / 256) := ⟨_, rfl⟩
    obtain ⟨v3, hv3⟩ : ∃ v3, v3 = UInt8.ofNat pay.length := ⟨_, rfl⟩
    have q2 : IntKind.u8.wrap ((m : Int) / 256) = w8 v2 := by rw [IntKind.wrap_u8, hv2, ← hm]; unfold w8; rw [UInt8.toNat_ofNat']; omega
    have q2' : Int.fdiv (m : Int) 256 = (m : Int) / 256 := Int.fdiv_eq_ediv_of_nonneg _ (by decide)
    have q3 : IntKind.u8.wrap (m : Int) = w8 v3 := by rw [IntKind.wrap_u8, hv3, ← hm]; unfold w8; rw [UInt8.toNat_ofNat']; omega
    have q4 : ¬ (65535 : Int) < (m : Int) := by omega
    obtain ⟨s1, s2⟩ := set2_bv C (m + 4) _ _ _ _ v2 v3 pay hCl hsg (by omega)
    have HP2 := hset _ s1 _ (by simp) s2
    have HP3 : Hid (EncPost W fin (.returned (.tuple #[.slice (some ⟨g, 0, none⟩) (m + 4) c2, .int .i64 0])) (put V g (splice (splice C 2 [.int .u8 (w8 v2)]) 3 [.int .u8 (w8 v3)]))) := by
      refine ⟨_, _, _, rfl, ?_⟩
      rw [HF.out, ← hv2, ← hv3]; exact HP2
    have hc2 : 2 + 1 ≤ C.length := by omega
    have hc3 : 3 + 1 ≤ C.length := by omega
    have hcl2 : (splice C 2 [.int .u8 (w8 v2)]).length = C.length := length_splice1 (by omega)
    clear HP2 hset s1 s2 hsg hv2 hv3 HO2 hm
    go_wp2_with fail
    go_ret2
    exact HP3.out
  · have hkz : ((7 : Nat) : Int) = 7 := rfl
    rw [hkz] at h1
    have hpb := (V1.out (by decide)).1
    obtain ⟨a2, n2, c2, V, hr2, ho2, hn2⟩ := ob_blob HO1.out (by simp) pay (by omega) ba bn bc (by rw [hpb]; exact HB.out.grow HO1.out.2.1)
    have HO2 : Hid (Ob W V a2 n2 c2 ([1, UInt8.ofNat 7, 0, 0] ++ pay)) := ho2
    clear ho2 hn2 hpb
    go_upto_region 23 with (at_builtin; refine wpList_append_run rfl _ _ 31 rfl _ _ _ _ rfl rfl hr2 ?_)
    obtain ⟨m, hm⟩ : ∃ m, m = pay.length := ⟨_, rfl⟩
    have hn2 : n2 = m + 4 := by have := HO2.out.2.2; simp at this; omega
    subst hn2
    rw [← hm] at hpay
    have HM : Hid (m = pay.length) := hm
    obtain ⟨g, C, rfl, hC, hf, hCl, hsg, hg0, hset⟩ := HO2.out.open (by simp)
    obtain ⟨v2, hv2⟩ : ∃ v2, v2 = UInt8.ofNat (pay.length / 256) := ⟨_, rfl⟩
    obtain ⟨v3, hv3⟩ : ∃ v3, v3 = UInt8.ofNat pay.length := ⟨_, rfl⟩
    have q2 : IntKind.u8.wrap ((m : Int) / 256) = w8 v2 := by rw [IntKind.wrap_u8, hv2, ← hm]; unfold w8; rw [UInt8.toNat_ofNat']; omega
    have q2' : Int.fdiv (m : Int) 256 = (m : Int) / 256 := Int.fdiv_eq_ediv_of_nonneg _ (by decide)
    have q3 : IntKind.u8.wrap (m : Int) = w8 v3 := by rw [IntKind.wrap_u8, hv3, ← hm]; unfold w8; rw [UInt8.toNat_ofNat']; omega
    have q4 : ¬ (65535 : Int) < (m : Int) := by omega
    obtain ⟨s1, s2⟩ := set2_bv C (m + 4) _ _ _ _ v2 v3 pay hCl hsg (by omega)
    have HP2 := hset _ s1 _ (by simp) s2
    have HP3 : Hid (EncPost W fin (.returned (.tuple #[.slice (some ⟨g, 0, none⟩) (m + 4) c2, .int .i64 0])) (put V g (splice (splice C 2 [.int .u8 (w8 v2)]) 3 [.int .u8 (w8 v3)]))) := by
      refine ⟨_, _, _, rfl, ?_⟩
      rw [HF.out, ← hv2, ← hv3]; exact HP2
    have hc2 : 2 + 1 ≤ C.length := by omega
    have hc3 : 3 + 1 ≤ C.length := by omega
    have hcl2 : (splice C 2 [.int .u8 (w8 v2)]).length = C.length := length_splice1 (by omega)
    clear HP2 hset s1 s2 hsg hv2 hv3 HO2 hm
    go_wp2_with fail
    go_ret2
    exact HP3.out
  · have hkz : ((2 : Nat) : Int) = 2 := rfl
    rw [hkz] at h1
    obtain ⟨it, hit, hv, hpe, _, _⟩ := V2.out (by decide)
    obtain rfl : iN = 1 := by rw [HKI.out, hit]; rfl
    obtain ⟨d, b, C, hx, rfl, hC, hCl, u0⟩ := HK.out.at (i := 0) (by omega)
    obtain ⟨it', g1, g2⟩ := HI.out.at hx
    obtain rfl : it' = it := by rw [hit] at g1; exact (Option.some.inj g1).symm
    obtain ⟨dl, pp, na, nn, nc⟩ := d
    obtain ⟨e1, e2, e3⟩ := g2
    dsimp only at e1 e2 e3
    obtain ⟨p', hpp⟩ : ∃ p' : Nat, pp = (p' : Int) := ⟨pp.toNat, by have := hv.1; omega⟩
    subst hpp
    have hr := (rw_own encS_len e3).1
    have u1 : seg C 0 3 = itemE dl (p' : Int) na nn nc := u0
    have hC1 : blk W1 b = some C := (HO1.out.2.1.blk (blk_lt hC)).trans hC
    have hC3 : 0 + 3 ≤ C.length := by omega
    have hp255 : p' ≤ 255 := by have := hv.2.1; omega
    have hn4 : nn ≤ 4 := by rw [← hr.1]; exact hv.2.2.1
    have HRW : Hid (Rw encS 1 W na nn it'.2.2) := hr
    have HG : Hid (pay = encF it'.2.1.toNat it'.2.2 ∧ (p' : Int) = it'.2.1 ∧ ∀ nm ∈ it'.2.2, nm.length ≤ 64) := ⟨hpe, e2, hv.2.2.2⟩
    clear hC hr e1 e2 e3 g1 hx hit hpe u0 hv
    go_wp2_with fail
    refine (putFact_ok W W1 _ 4 4 _ HO1.out (by simp) dl p' hp255 na nn nc it'.2.2 HRW.out hn4 HG.out.2.2).mono ?_
    rintro e V ⟨a2, n2, c2, rfl, ho2, hn2⟩
    have HO2 : Hid (Ob W V a2 n2 c2 ([1, UInt8.ofNat 2, 0, 0] ++ pay)) := by
      show Ob _ _ _ _ _ _
      rw [HG.out.1, ← HG.out.2.1, Int.toNat_natCast]; exact ho2
    clear ho2 hn2 hC1 u1
    dsimp only
    obtain ⟨m, hm⟩ : ∃ m, m = pay.length := ⟨_, rfl⟩
    have hn2 : n2 = m + 4 := by have := HO2.out.2.2; simp at this; omega
    subst hn2
    rw [← hm] at hpay
    have HM : Hid (m = pay.length) := hm
    obtain ⟨g, C, rfl, hC, hf, hCl, hsg, hg0, hset⟩ := HO2.out.open (by simp)
    obtain ⟨v2, hv2⟩ : ∃ v2, v2 = UInt8.ofNat (pay.length / 256) := ⟨_, rfl⟩
    obtain ⟨v3, hv3⟩ : ∃ v3, v3 = UInt8.ofNat pay.length := ⟨_, rfl⟩
    have q2 : IntKind.u8.wrap ((m : Int) / 256) = w8 v2 := by rw [IntKind.wrap_u8, hv2, ← hm]; unfold w8; rw [UInt8.toNat_ofNat']; omega
    have q2' : Int.fdiv (m : Int) 256 = (m : Int) / 256 := Int.fdiv_eq_ediv_of_nonneg _ (by decide)
    have q3 : IntKind.u8.wrap (m : Int) = w8 v3 := by rw [IntKind.wrap_u8, hv3, ← hm]; unfold w8; rw [UInt8.toNat_ofNat']; omega
    have q4 : ¬ (65535 : Int) < (m : Int) := by omega
    obtain ⟨s1, s2⟩ := set2_bv C (m + 4) _ _ _ _ v2 v3 pay hCl hsg (by omega)
    have HP2 := hset _ s1 _ (by simp) s2
    have HP3 : Hid (EncPost W fin (.returned (.tuple #[.slice (some ⟨g, 0, none⟩) (m + 4) c2, .int .i64 0])) (put V g (splice (splice C 2 [.int .u8 (w8 v2)]) 3 [.int .u8 (w8 v3)]))) := by
      refine ⟨_, _, _, rfl, ?_⟩
      rw [HF.out, ← hv2, ← hv3]; exact HP2
    have hc2 : 2 + 1 ≤ C.length := by omega
    have hc3 : 3 + 1 ≤ C.length := by omega
    have hcl2 : (splice C 2 [.int .u8 (w8 v2)]).length = C.length := length_splice1 (by omega)
    clear HP2 hset s1 s2 hsg hv2 hv3 HO2 hm
    go_wp2_with fail
    go_ret2
    exact HP3.out
  · have hkz : ((3 : Nat) : Int) = 3 := rfl
    rw [hkz] at h1
    obtain ⟨it, hit, hv, hpe, _, _⟩ := V2.out (by decide)
    obtain rfl : iN = 1 := by rw [HKI.out, hit]; rfl
    obtain ⟨d, b, C, hx, rfl, hC, hCl, u0⟩ := HK.out.at (i := 0) (by omega)
    obtain ⟨it', g1, g2⟩ := HI.out.at hx
    obtain rfl : it' = it := by rw [hit] at g1; exact (Option.some.inj g1).symm
    obtain ⟨dl, pp, na, nn, nc⟩ := d
    obtain ⟨e1, e2, e3⟩ := g2
    dsimp only at e1 e2 e3
    obtain ⟨p', hpp⟩ : ∃ p' : Nat, pp = (p' : Int) := ⟨pp.toNat, by have := hv.1; omega⟩
    subst hpp
    have hr := (rw_own encS_len e3).1
    have u1 : seg C 0 3 = itemE dl (p' : Int) na nn nc := u0
    have hC1 : blk W1 b = some C := (HO1.out.2.1.blk (blk_lt hC)).trans hC
    have hC3 : 0 + 3 ≤ C.length := by omega
    have hp255 : p' ≤ 255 := by have := hv.2.1; omega
    have hn4 : nn ≤ 4 := by rw [← hr.1]; exact hv.2.2.1
    have HRW : Hid (Rw encS 1 W na nn it'.2.2) := hr
    have HG : Hid (pay = encF it'.2.1.toNat it'.2.2 ∧ (p' : Int) = it'.2.1 ∧ ∀ nm ∈ it'.2.2, nm.length ≤ 64) := ⟨hpe, e2, hv.2.2.2⟩
    clear hC hr e1 e2 e3 g1 hx hit hpe u0 hv
    go_wp2_with fail
    refine (putFact_ok W W1 _ 4 4 _ HO1.out (by simp) dl p' hp255 na nn nc it'.2.2 HRW.out hn4 HG.out.2.2).mono ?_
    rintro e V ⟨a2, n2, c2, rfl, ho2, hn2⟩
    have HO2 : Hid (Ob W V a2 n2 c2 ([1, UInt8.ofNat 3, 0, 0] ++ pay)) := by
      show Ob _ _ _ _ _ _
      rw [HG.out.1, ← HG.out.2.1, Int.toNat_natCast]; exact ho2
    clear ho2 hn2 hC1 u1
    dsimp only
    obtain ⟨m, hm⟩ : ∃ m, m = pay.length := ⟨_, rfl⟩
    have hn2 : n2 = m + 4 := by have := HO2.out.2.2; simp at this; omega
    subst hn2
    rw [← hm] at hpay
    have HM : Hid (m = pay.length) := hm
    obtain ⟨g, C, rfl, hC, hf, hCl, hsg, hg0, hset⟩ := HO2.out.open (by simp)
    obtain ⟨v2, hv2⟩ : ∃ v2, v2 = UInt8.ofNat (pay.length / 256) := ⟨_, rfl⟩
    obtain ⟨v3, hv3⟩ : ∃ v3, v3 = UInt8.ofNat pay.length := ⟨_, rfl⟩
    have q2 : IntKind.u8.wrap ((m : Int) / 256) = w8 v2 := by rw [IntKind.wrap_u8, hv2, ← hm]; unfold w8; rw [UInt8.toNat_ofNat']; omega
    have q2' : Int.fdiv (m : Int) 256 = (m : Int) / 256 := Int.fdiv_eq_ediv_of_nonneg _ (by decide)
    have q3 : IntKind.u8.wrap (m : Int) = w8 v3 := by rw [IntKind.wrap_u8, hv3, ← hm]; unfold w8; rw [UInt8.toNat_ofNat']; omega
    have q4 : ¬ (65535 : Int) < (m : Int) := by omega
    obtain ⟨s1, s2⟩ := set2_bv C (m + 4) _ _ _ _ v2 v3 pay hCl hsg (by omega)
    have HP2 := hset _ s1 _ (by simp) s2
    have HP3 : Hid (EncPost W fin (.returned (.tuple #[.slice (some ⟨g, 0, none⟩) (m + 4) c2, .int .i64 0])) (put V g (splice (splice C 2 [.int .u8 (w8 v2)]) 3 [.int .u8 (w8 v3)]))) := by
      refine ⟨_, _, _, rfl, ?_⟩
      rw [HF.out, ← hv2, ← hv3]; exact HP2
    have hc2 : 2 + 1 ≤ C.length := by omega
    have hc3 : 3 + 1 ≤ C.length := by omega
    have hcl2 : (splice C 2 [.int .u8 (w8 v2)]).length = C.length := length_splice1 (by omega)
    clear HP2 hset s1 s2 hsg hv2 hv3 HO2 hm
    go_wp2_with fail
    go_ret2
    exact HP3.out
  · have hkz : ((5 : Nat) : Int) = 5 := rfl
    rw [hkz] at h1
    obtain ⟨it, hit, hv, hpe, _, _⟩ := V2.out (by decide)
    obtain rfl : iN = 1 := by rw [HKI.out, hit]; rfl
    obtain ⟨d, b, C, hx, rfl, hC, hCl, u0⟩ := HK.out.at (i := 0) (by omega)
    obtain ⟨it', g1, g2⟩ := HI.out.at hx
    obtain rfl : it' = it := by rw [hit] at g1; exact (Option.some.inj g1).symm
    obtain ⟨dl, pp, na, nn, nc⟩ := d
    obtain ⟨e1, e2, e3⟩ := g2
    dsimp only at e1 e2 e3
    obtain ⟨p', hpp⟩ : ∃ p' : Nat, pp = (p' : Int) := ⟨pp.toNat, by have := hv.1; omega⟩
    subst hpp
    have hr := (rw_own encS_len e3).1
    have u1 : seg C 0 3 = itemE dl (p' : Int) na nn nc := u0
    have hC1 : blk W1 b = some C := (HO1.out.2.1.blk (blk_lt hC)).trans hC
    have hC3 : 0 + 3 ≤ C.length := by omega
    have hp255 : p' ≤ 255 := by have := hv.2.1; omega
    have hn4 : nn ≤ 4 := by rw [← hr.1]; exact hv.2.2.1
    have HRW : Hid (Rw encS 1 W na nn it'.2.2) := hr
    have HG : Hid (pay = encF it'.2.1.toNat it'.2.2 ∧ (p' : Int) = it'.2.1 ∧ ∀ nm ∈ it'.2.2, nm.length ≤ 64) := ⟨hpe, e2, hv.2.2.2⟩
    clear hC hr e1 e2 e3 g1 hx hit hpe u0 hv
    go_wp2_with fail
    refine (putFact_ok W W1 _ 4 4 _ HO1.out (by simp) dl p' hp255 na nn nc it'.2.2 HRW.out hn4 HG.out.2.2).mono ?_
    rintro e V ⟨a2, n2, c2, rfl, ho2, hn2⟩
    have HO2 : Hid (Ob W V a2 n2 c2 ([1, UInt8.ofNat 5, 0, 0] ++ pay)) := by
      show Ob _ _ _ _ _ _
      rw [HG.out.1, ← HG.out.2.1, Int.toNat_natCast]; exact ho2
    clear ho2 hn2 hC1 u1
    dsimp only
    obtain ⟨m, hm⟩ : ∃ m, m = pay.length := ⟨_, rfl⟩
    have hn2 : n2 = m + 4 := by have := HO2.out.2.2; simp at this; omega
    subst hn2
    rw [← hm] at hpay
    have HM : Hid (m = pay.length) := hm
    obtain ⟨g, C, rfl, hC, hf, hCl, hsg, hg0, hset⟩ := HO2.out.open (by simp)
    obtain ⟨v2, hv2⟩ : ∃ v2, v2 = UInt8.ofNat (pay.length / 256) := ⟨_, rfl⟩
    obtain ⟨v3, hv3⟩ : ∃ v3, v3 = UInt8.ofNat pay.length := ⟨_, rfl⟩
    have q2 : IntKind.u8.wrap ((m : Int) / 256) = w8 v2 := by rw [IntKind.wrap_u8, hv2, ← hm]; unfold w8; rw [UInt8.toNat_ofNat']; omega
    have q2' : Int.fdiv (m : Int) 256 = (m : Int) / 256 := Int.fdiv_eq_ediv_of_nonneg _ (by decide)
    have q3 : IntKind.u8.wrap (m : Int) = w8 v3 := by rw [IntKind.wrap_u8, hv3, ← hm]; unfold w8; rw [UInt8.toNat_ofNat']; omega
    have q4 : ¬ (65535 : Int) < (m : Int) := by omega
    obtain ⟨s1, s2⟩ := set2_bv C (m + 4) _ _ _ _ v2 v3 pay hCl hsg (by omega)
    have HP2 := hset _ s1 _ (by simp) s2
    have HP3 : Hid (EncPost W fin (.returned (.tuple #[.slice (some ⟨g, 0, none⟩) (m + 4) c2, .int .i64 0])) (put V g (splice (splice C 2 [.int .u8 (w8 v2)]) 3 [.int .u8 (w8 v3)]))) := by
      refine ⟨_, _, _, rfl, ?_⟩
      rw [HF.out, ← hv2, ← hv3]; exact HP2
    have hc2 : 2 + 1 ≤ C.length := by omega
    have hc3 : 3 + 1 ≤ C.length := by omega
    have hcl2 : (splice C 2 [.int .u8 (w8 v2)]).length = C.length := length_splice1 (by omega)
    clear HP2 hset s1 s2 hsg hv2 hv3 HO2 hm
    go_wp2_with fail
    go_ret2
    exact HP3.out
  · have hkz : ((4 : Nat) : Int) = 4 := rfl
    rw [hkz] at h1
    obtain ⟨h32, hv, hpe, _, _⟩ := V4.out rfl
    have HG : Hid (pay = encB q.items ∧ iN ≤ 32 ∧ ∀ it ∈ q.items, ItV it) := ⟨hpe, by rw [HKI.out]; exact h32, hv⟩
    clear h32 hv hpe
    go_wp2_with fail
    refine (putBatch_ok W W1 _ 4 4 _ HO1.out (by simp) ia iN ic B K q.items HK.out HI.out HG.out.2.1 HG.out.2.2).mono ?_
    rintro e V ⟨a2, n2, c2, rfl, ho2, hn2⟩
    have HO2 : Hid (Ob W V a2 n2 c2 ([1, UInt8.ofNat 4, 0, 0] ++ pay)) := by
      show Ob _ _ _ _ _ _
      rw [HG.out.1]; exact ho2
    clear ho2 hn2
    dsimp only
    obtain ⟨m, hm⟩ : ∃ m, m = pay.length := ⟨_, rfl⟩
    have hn2 : n2 = m + 4 := by have := HO2.out.2.2; simp at this; omega
    subst hn2
    rw [← hm] at hpay
    have HM : Hid (m = pay.length) := hm
    obtain ⟨g, C, rfl, hC, hf, hCl, hsg, hg0, hset⟩ := HO2.out.open (by simp)
    obtain ⟨v2, hv2⟩ : ∃ v2, v2 = UInt8.ofNat (pay.length / 256) := ⟨_, rfl⟩
    obtain ⟨v3, hv3⟩ : ∃ v3, v3 = UInt8.ofNat pay.length := ⟨_, rfl⟩
    have q2 : IntKind.u8.wrap ((m : Int) / 256) = w8 v2 := by rw [IntKind.wrap_u8, hv2, ← hm]; unfold w8; rw [UInt8.toNat_ofNat']; omega
    have q2' : Int.fdiv (m : Int) 256 = (m : Int) / 256 := Int.fdiv_eq_ediv_of_nonneg _ (by decide)
    have q3 : IntKind.u8.wrap (m : Int) = w8 v3 := by rw [IntKind.wrap_u8, hv3, ← hm]; unfold w8; rw [UInt8.toNat_ofNat']; omega
    have q4 : ¬ (65535 : Int) < (m : Int) := by omega
    obtain ⟨s1, s2⟩ := set2_bv C (m + 4) _ _ _ _ v2 v3 pay hCl hsg (by omega)
    have HP2 := hset _ s1 _ (by simp) s2
    have HP3 : Hid (EncPost W fin (.returned (.tuple #[.slice (some ⟨g, 0, none⟩) (m + 4) c2, .int .i64 0])) (put V g (splice (splice C 2 [.int .u8 (w8 v2)]) 3 [.int .u8 (w8 v3)]))) := by
      refine ⟨_, _, _, rfl, ?_⟩
      rw [HF.out, ← hv2, ← hv3]; exact HP2
    have hc2 : 2 + 1 ≤ C.length := by omega
    have hc3 : 3 + 1 ≤ C.length := by omega
    have hcl2 : (splice C 2 [.int .u8 (w8 v2)]).length = C.length := length_splice1 (by omega)
    clear HP2 hset s1 s2 hsg hv2 hv3 HO2 hm
    go_wp2_with fail
    go_ret2
    exact HP3.out
  · have hkz : ((6 : Nat) : Int) = 6 := rfl
    rw [hkz] at h1
    obtain ⟨p', hpp, hp255, h4, hv, hpe, _, _⟩ := V6.out rfl
    obtain rfl : p = (p' : Int) := HP.out.trans hpp
    have HG : Hid (pay = encP p' q.slots ∧ sn ≤ 4 ∧ ∀ s ∈ q.slots, SlV s) := ⟨hpe, by rw [← HS.out.1]; exact h4, hv⟩
    clear h4 hv hpe hpp
    go_wp2_with fail
    refine (putPattern_ok W W1 _ 4 4 _ HO1.out (by simp) p' hp255 sa sn sc q.slots HS.out HG.out.2.1 HG.out.2.2).mono ?_
    rintro e V ⟨a2, n2, c2, rfl, ho2, hn2⟩
    have HO2 : Hid (Ob W V a2 n2 c2 ([1, UInt8.ofNat 6, 0, 0] ++ pay)) := by
      show Ob _ _ _ _ _ _
      rw [HG.out.1]; exact ho2
    clear ho2 hn2
    dsimp only
    obtain ⟨m, hm⟩ : ∃ m, m = pay.length := ⟨_, rfl⟩
    have hn2 : n2 = m + 4 := by have := HO2.out.2.2; simp at this; omega
    subst hn2
    rw [← hm] at hpay
    have HM : Hid (m = pay.length) := hm
    obtain ⟨g, C, rfl, hC, hf, hCl, hsg, hg0, hset⟩ := HO2.out.open (by simp)
    obtain ⟨v2, hv2⟩ : ∃ v2, v2 = UInt8.ofNat (pay.length / 256) := ⟨_, rfl⟩
    obtain ⟨v3, hv3⟩ : ∃ v3, v3 = UInt8.ofNat pay.length := ⟨_, rfl⟩
    have q2 : IntKind.u8.wrap ((m : Int) / 256) = w8 v2 := by rw [IntKind.wrap_u8, hv2, ← hm]; unfold w8; rw [UInt8.toNat_ofNat']; omega
    have q2' : Int.fdiv (m : Int) 256 = (m : Int) / 256 := Int.fdiv_eq_ediv_of_nonneg _ (by decide)
    have q3 : IntKind.u8.wrap (m : Int) = w8 v3 := by rw [IntKind.wrap_u8, hv3, ← hm]; unfold w8; rw [UInt8.toNat_ofNat']; omega
    have q4 : ¬ (65535 : Int) < (m : Int) := by omega
    obtain ⟨s1, s2⟩ := set2_bv C (m + 4) _ _ _ _ v2 v3 pay hCl hsg (by omega)
    have HP2 := hset _ s1 _ (by simp) s2
    have HP3 : Hid (EncPost W fin (.returned (.tuple #[.slice (some ⟨g, 0, none⟩) (m + 4) c2, .int .i64 0])) (put V g (splice (splice C 2 [.int .u8 (w8 v2)]) 3 [.int .u8 (w8 v3)]))) := by
      refine ⟨_, _, _, rfl, ?_⟩
      rw [HF.out, ← hv2, ← hv3]; exact HP2
    have hc2 : 2 + 1 ≤ C.length := by omega
    have hc3 : 3 + 1 ≤ C.length := by omega
    have hcl2 : (splice C 2 [.int .u8 (w8 v2)]).length = C.length := length_splice1 (by omega)
    clear HP2 hset s1 s2 hsg hv2 hv3 HO2 hm
    go_wp2_with fail
    go_ret2
    exact HP3.out
end Go.Proofs.Qxb6500787aGreat
