
import Derived.Test.Qxb6500787aGreatRi
import Derived.StillTailTactics
import Derived.Deep.QuietTactic
import Derived.BigQuiet
import Derived.Deep.RegionHeld
import Derived.Deep.CutRange
import Derived.Laws.ResultCell
import Derived.Laws.Rows
import Derived.DeepKeys
import Derived.DataBytes
import Derived.Laws.StructEq
import Derived.Laws.AppendOwn
import Derived.Laws.MakeOwn
set_option linter.unusedSimpArgs false
set_option linter.unusedVariables false
namespace Go.Proofs.Qxb6500787aGreat
open Go.RowKit Go.Blk
attribute [local go_sem ↓] execOp_load execOp_store execOp_alloc
attribute [local go_sem] Tryz.ld26 Tryz.st26 Tryz.ld27 Tryz.st27 Tryz.ld28 Tryz.st28 Tryz.ld3 Tryz.st3 Tryz.ld29 Tryz.st29 Tryz.ld4 Tryz.st4 Tryz.ld50 Tryz.st50 Tryz.ld68 Tryz.st68 Tryz.ld9 Tryz.st9 Tryz.ld2 Tryz.st2 Tryz.ld5 Tryz.st5 Tryz.ld12 Tryz.st12 Tryz.ld21 Tryz.st21 Tryz.ld22 Tryz.st22 Tryz.ld24 Tryz.st24 Tryz.ld32 Tryz.st32 Tryz.ld40 Tryz.st40 Tryz.ld44 Tryz.st44 Tryz.ld49 Tryz.st49 Tryz.ld58 Tryz.st58 Tryz.ld97 Tryz.st97 Tryz.ld101 Tryz.st101 Tryz.ld116 Tryz.st116 Tryz.ld121 Tryz.st121 Tryz.ld135 Tryz.st135 Tryz.ld136 Tryz.st136 Tryz.ld138 Tryz.st138 Tryz.ld139 Tryz.st139 Tryz.ld142 Tryz.st142 Tryz.ld143 Tryz.st143 Tryz.ld146 Tryz.st146 Tryz.ld148 Tryz.st148 Tryz.ld154 Tryz.st154 Tryz.ld159 Tryz.st159 Tryz.ld173 Tryz.st173 Tryz.ld183 Tryz.st183 Tryz.ld184 Tryz.st184 Tryz.ld187 Tryz.st187 Tryz.ld192 Tryz.st192 Tryz.ld195 Tryz.st195 Tryz.ld217 Tryz.st217 Tryz.ld222 Tryz.st222 Tryz.ld241 Tryz.st241 Tryz.ld248 Tryz.st248 Tryz.ld268 Tryz.st268 Tryz.ld272 Tryz.st272 Tryz.ld129 Tryz.st129 Tryz.ld31 Tryz.st31 Tryz.ld52 Tryz.st52 Tryz.ld70 Tryz.st70 Tryz.ld74 Tryz.st74 Tryz.ld93 Tryz.st93 Tryz.al129 Tryz.al31 Tryz.al52 Tryz.al70 Tryz.al74 Tryz.al93
attribute [local go_sem] Request.length_enc Request.ok_enc Request.all_get Request.all_set Request.kind_get Request.kind_set Request.blob_get Request.blob_set Request.items_get Request.items_set Request.pred_get Request.pred_set Request.slots_get Request.slots_set Item.length_enc Item.ok_enc Item.all_get Item.all_set Item.del_get Item.del_set Item.pred_get Item.pred_set Item.args_get Item.args_set GOp.length_enc GOp.ok_enc GOp.all_get GOp.all_set GOp.kind_get GOp.kind_set GOp.raw_get GOp.raw_set Reader.length_enc Reader.ok_enc Reader.all_get Reader.all_set Reader.buf_get Reader.buf_set Reader.at__get Reader.at__set Slot.length_enc Slot.ok_enc Slot.all_get Slot.all_set Slot.bound_get Slot.bound_set Slot.name_get Slot.name_set
attribute [local go_sem] size_put size_ext blk_put free_put blk_alloc free_alloc blk_drew free_drew blk_ext free_ext lookOr_some putOr_some segAt_some cellAt_some storeIn_some put_put put_alloc_new length_arr ok_arr_u8 ok_arr_u32 ok_arr_u64 ok_arr_i64 ok_arr_sl cellsV_agg cellsV_int cellsV_bool cellsV_string cellsV_pointer cellsV_slice cellsV_sl ok_int ok_bool ok_string ok_pointer ok_slice ok_sl toList_arr seg_arr set_arr nth_splice nth_splice0 seg_splice seg_splice0 splice_splice splice_splice0 length_splice_if
attribute [local go_sem ↓] execOp_box
attribute [local go_sem] box_run nth_arr_u8 put_arr_u8 blk_drewN free_drewN put_drewN blk_raw free_raw
theorem ItemsOk.base {W : World} {B B' : Nat} {K : List Dsc} {L : List It} (h : ItemsOk W B K L) (hb : B' ≤ B) : ItemsOk W B' K L := ⟨h.1, fun i d it h1 h2 => ⟨(h.2 i d it h1 h2).1, (h.2 i d it h1 h2).2.1, row_base (h.2 i d it h1 h2).2.2 hb⟩⟩
theorem ReqOk.base {W : World} {B B' : Nat} {k : Int} {ba : Option Addr} {bn bc : Nat} {ia : Option Addr} {iN ic : Nat} {p : Int} {sa : Option Addr} {sn sc : Nat} {q : Rq} (h : ReqOk W B k ba bn bc ia iN ic p sa sn sc q) (hb : B' ≤ B) : ReqOk W B' k ba bn bc ia iN ic p sa sn sc q := by
  obtain ⟨h1, h2, ⟨K, h3, h4⟩, h5, h6⟩ := h
  exact ⟨h1, row_base h2 hb, ⟨K, row_base h3 hb, h4.base hb⟩, h5, row_base h6 hb⟩
theorem ReqOk.put {W : World} {B b : Nat} {C : List Value} {k : Int} {ba : Option Addr} {bn bc : Nat} {ia : Option Addr} {iN ic : Nat} {p : Int} {sa : Option Addr} {sn sc : Nat} {q : Rq} (h : ReqOk W B k ba bn bc ia iN ic p sa sn sc q) (hb : b < B) : ReqOk (Blk.put W b C) B k ba bn bc ia iN ic p sa sn sc q := by
  obtain ⟨h1, h2, ⟨K, h3, h4⟩, h5, h6⟩ := h
  have hk : ∀ j, B ≤ j → (Blk.put W b C).heap[j]? = W.heap[j]? := fun j hj => by rw [heap_put, if_neg (by omega)]
  exact ⟨h1, row_keep h2 (fun j hj => hk j (row_at h2 j hj).1), ⟨K, row_keep h3 (fun j hj => hk j (row_at h3 j hj).1), h4.keep (fun j cur fz hj _ => hk j hj)⟩, h5, row_keep h6 (fun j hj => hk j (row_at h6 j hj).1)⟩
theorem ReqOk.drewN {W : World} {B : Nat} {k : Int} {ba : Option Addr} {bn bc : Nat} {ia : Option Addr} {iN ic : Nat} {p : Int} {sa : Option Addr} {sn sc : Nat} {q : Rq} (h : ReqOk W B k ba bn bc ia iN ic p sa sn sc q) (j : Nat) : ReqOk (W.drewN j) B k ba bn bc ia iN ic p sa sn sc q := h
theorem fin_ok {b : Int × Rq × List UInt8} (h1 : b.1 = 0) (h2 : b.2.2 = []) : finF b = (0, b.2.1) := by unfold finF; rw [if_neg (by simp [h1]), if_neg (by simp [h2])]
theorem fin_trail {b : Int × Rq × List UInt8} (h1 : b.1 = 0) (h2 : b.2.2 ≠ []) : finF b = (6, Rq.zero) := by unfold finF; rw [if_neg (by simp [h1]), if_pos h2]
theorem fin_bad {b : Int × Rq × List UInt8} (h1 : b.1 ≠ 0) : finF b = (b.1, Rq.zero) := by unfold finF; rw [if_pos h1]
theorem body1 (k : Int) (hk : k = 1 ∨ k = 7) (ys : List UInt8) : bodyF k ys = (0, ⟨k, ys, [], 0, []⟩, []) := by unfold bodyF; rw [if_pos hk]
theorem body2 (k : Int) (hk : k = 2 ∨ k = 3 ∨ k = 5) (ys : List UInt8) : bodyF k ys = ((factF ys).1, ⟨k, [], [(decide (k = 3), (factF ys).2.1, (factF ys).2.2.1)], 0, []⟩, (factF ys).2.2.2) := by unfold bodyF; rw [if_neg (by omega), if_pos hk]
theorem body4 (ys : List UInt8) : bodyF 4 ys = ((batchF ys).1, ⟨4, [], (batchF ys).2.1, 0, []⟩, (batchF ys).2.2) := by unfold bodyF; rw [if_neg (by decide), if_neg (by decide), if_pos rfl]
theorem body6n : bodyF 6 [] = (5, Rq.zero, []) := by unfold bodyF; rw [if_neg (by decide), if_neg (by decide), if_neg (by decide)]
theorem body6c (p : UInt8) (r : List UInt8) : bodyF 6 (p :: r) = ((slotsF r).1, ⟨6, [], [], ((p.toNat : Nat) : Int), (slotsF r).2.1⟩, (slotsF r).2.2) := by unfold bodyF; rw [if_neg (by decide), if_neg (by decide), if_neg (by decide)]
attribute [local go_sem] rd_len rd0 rd1 rd_set1 rd_put rd_ok it_len it0 it1 it2 it_set0 it_set2 it_all it_put it_put2 it_ok build52z build52p bslice28 rq_len rq0 rq1 rq2 rq3 rq4 rq_all rq_ok rq_set1 rq_set2 rq_set3 rq_set4 rq_put rq_put2 build31z build31k build74
attribute [local go_sem ↓] execOp_slice execOp_convert execOp_build execOp_bslice
set_option maxRecDepth 20000 in
set_option maxHeartbeats 4000000 in
theorem decode_any (W : World) (a : Option Addr) (n c : Nat) (hn : n ≤ 65536) (hnc : n ≤ c) (hc : c ≤ 9223372036854775807) (xs : List UInt8) (hX : Bs W a n xs) : Calls Tryz.prog 49 #[.slice a n c] W (DecPost W (decF xs)) := by
  have HX : Hid (Bs W a n xs) := hX
  have hxl := hX.1
  clear hX
  go_enter Tryz.func49, Tryz.ntmps49
  go_upto_region 1 with fail
  refine wp_world (fun W0 => blk W0 W.heap.size = some (reqE 0 none 0 0 none 0 0 0 none 0 0) ∧ free W0 W.heap.size = true ∧ W0.heap.size = W.heap.size + 1 ∧ Hid (W.Extends W0)) ⟨?_, ?_, ?_, extends_alloc (ext_Ext (Ext.refl _)) _⟩ ?_
  · rw [blk_alloc, if_pos rfl]; rfl
  · rw [free_alloc, if_pos rfl]
  · rw [World.size_alloc]
  rintro W0 ⟨h2, hf2, hsz0, HX0⟩
  obtain ⟨b2, hb2⟩ : ∃ b2, b2 = W.heap.size := ⟨_, rfl⟩
  rw [← hb2] at h2 hf2 ⊢
  have hW2 : W.heap.size ≤ b2 := by omega
  have hb2s : b2 < W0.heap.size := by omega
  clear hb2 hsz0
  go_wp2_with fail
  refine (header_any W0 a n c hn xs (HX.out.grow HX0.out)).mono ?_
  rintro e W1 ⟨rfl, k0, rfl⟩
  obtain ⟨cd, hcd⟩ : ∃ cd, cd = (hdrF xs).1 := ⟨_, rfl⟩
  obtain ⟨kd, hkd⟩ : ∃ kd, kd = (hdrF xs).2 := ⟨_, rfl⟩
  rw [← hcd, ← hkd]
  have HF0 : ∀ V, Hid (W.Extends V → ∀ q : Int, DecPost W (q, Rq.zero) (.returned (.tuple #[.agg (reqE 0 none 0 0 none 0 0 0 none 0 0).toArray, .int .i64 q])) V) := fun V he q => ⟨0, none, 0, 0, none, 0, 0, 0, none, 0, 0, rfl, ReqOk.zero _ _, he⟩
  by_cases hz : cd = 0
  · obtain ⟨h4, kn, hk1, hk7, hkn⟩ := hdr_kind (xs := xs) (by rw [← hcd]; exact hz)
    have HDF : Hid (decF xs = finF (bodyF (kn : Int) (xs.drop 4))) := by
      show _ = _
      unfold decF
      rw [if_neg (by rw [← hcd]; simp [hz]), hkn]
    rw [← hkd] at hkn
    have h4n : 4 ≤ n := by omega
    clear hcd hkd
    subst hz
    subst hkn
    have nb0 : ¬ b2 = W0.heap.size := by omega
    have nb1 : ¬ b2 = W0.heap.size + 1 := by omega
    dsimp only
    go_upto_region 6 with fail
    refine wp_world (fun W2 => blk W2 b2 = some (reqE 0 none 0 0 none 0 0 0 none 0 0) ∧ free W2 b2 = true ∧ blk W2 W0.heap.size = some (reqE (kn : Int) none 0 0 none 0 0 0 none 0 0) ∧ free W2 W0.heap.size = true ∧ blk W2 (W0.heap.size + 1) = some (rdE a n c 4) ∧ free W2 (W0.heap.size + 1) = true ∧ W2.heap.size = W0.heap.size + 2 ∧ Hid (W.Extends W2)) ?_ ?_
    · refine ⟨?_, ?_, ?_, ?_, ?_, ?_, ?_, ?_⟩
      · rw [blk_put, if_neg nb1, blk_alloc, if_neg (by rw [size_put, World.size_alloc]; exact nb1), blk_put, if_neg nb0, blk_alloc, if_neg (show ¬ b2 = (W0.drewN k0).heap.size from nb0)]; exact h2
      · rw [free_put, free_alloc, if_neg (by rw [size_put, World.size_alloc]; exact nb1), free_put, free_alloc, if_neg (show ¬ b2 = (W0.drewN k0).heap.size from nb0)]; exact hf2
      · rw [blk_put, if_neg (by omega), blk_alloc, if_neg (by rw [size_put, World.size_alloc]; show ¬ W0.heap.size = W0.heap.size + 1; omega), blk_put, if_pos rfl, blk_alloc, if_pos (show W0.heap.size = (W0.drewN k0).heap.size from rfl)]; rfl
      · rw [free_put, free_alloc, if_neg (by rw [size_put, World.size_alloc]; show ¬ W0.heap.size = W0.heap.size + 1; omega), free_put, free_alloc, if_pos (show W0.heap.size = (W0.drewN k0).heap.size from rfl)]
      · rw [blk_put, if_pos rfl, blk_alloc, if_pos (by rw [size_put, World.size_alloc]; rfl)]; rfl
      · rw [free_put, free_alloc, if_pos (by rw [size_put, World.size_alloc]; rfl)]
      · rw [size_put, World.size_alloc, size_put, World.size_alloc]; rfl
      · refine (Side.put (D := fun k => W0.heap.size ≤ k) (Side.refl _ _) (by omega) _).extends (extends_alloc ((Side.put (D := fun k => W0.heap.size ≤ k) (Side.refl _ _) (Nat.le_refl _) _).extends (extends_alloc (extends_drewN HX0.out _) _) ?_) _) ?_
        · intro k hk; have := HX0.out.size; omega
        · intro k hk; have := HX0.out.size; omega
    rintro W2 ⟨g2, gf2, g6, gf6, gr, gfr, gsz, HE2⟩
    obtain ⟨b6, hb6⟩ : ∃ b6, b6 = W0.heap.size := ⟨_, rfl⟩
    obtain ⟨br, hbr⟩ : ∃ br, br = b6 + 1 := ⟨_, rfl⟩
    rw [← hb6] at g6 gf6 gr gfr
    rw [← hbr] at gr gfr
    rw [← hb6, ← hbr]
    have hW6 : W.heap.size ≤ b6 := by have := HX0.out.size; omega
    have hWr : W.heap.size ≤ br := by omega
    have e26 : ¬ b2 = b6 := by omega
    have e2r : ¬ b2 = br := by omega
    have e6r : ¬ b6 = br := by omega
    obtain ⟨B, hB⟩ : ∃ B, B = W2.heap.size := ⟨_, rfl⟩
    have h2B : b2 < B := by omega
    have h6B : b6 < B := by omega
    have hrB : br < B := by omega
    have hWB : W.heap.size ≤ B := by omega
    have HRd : Hid (Rdr W br a n c 4 W2) := ⟨gr, gfr, HE2.out, hWr, h4n⟩
    have hBV : B ≤ W2.heap.size := by omega
    clear gr gfr gsz hB hbr hb6 nb0 nb1 h2 hf2 hb2s HX0 HE2
    have hkk : kn = 1 ∨ kn = 7 ∨ kn = 2 ∨ kn = 3 ∨ kn = 5 ∨ kn = 4 ∨ kn = 6 := by omega
    clear hk1 hk7
    rcases hkk with rfl | rfl | rfl | rfl | rfl | rfl | rfl
    · have HDF : Hid (decF xs = finF (bodyF 1 (xs.drop 4))) := HDF.out
      have g6 : blk W2 b6 = some (reqE 1 none 0 0 none 0 0 0 none 0 0) := g6
      go_wp2_with fail
      refine (left_any W2 br a n c 4 HRd.out.1 h4n hn).mono ?_
      rintro e W3 ⟨rfl, k3, rfl⟩
      dsimp only
      go_wp2_with fail
      refine (take_ok W (W2.drewN k3) br a n c 4 (HRd.out.drewN k3) hn hnc hc xs HX.out (n - 4) (by omega)).mono ?_
      rintro e W4 ⟨rfl, hR4, hS4⟩
      have v2 : blk W4 b2 = some (reqE 0 none 0 0 none 0 0 0 none 0 0) := (hS4.blk (blk_lt g2) e2r).trans g2
      have vf2 : free W4 b2 = true := (free_of_heap (hS4.block b2 (blk_lt g2) e2r)).trans gf2
      have v6 : blk W4 b6 = some (reqE 1 none 0 0 none 0 0 0 none 0 0) := (hS4.blk (blk_lt g6) e6r).trans g6
      have vf6 : free W4 b6 = true := (free_of_heap (hS4.block b6 (blk_lt g6) e6r)).trans gf6
      have hBs : Bs W4 (cutA a 4 c) (xs.drop 4).length (xs.drop 4) := by
        have := (HX.out.grow hR4.2.2.1).cut (l := 4) (k := n - 4) (cap := c) (by omega) hnc
        rw [List.take_of_length_le (by rw [List.length_drop]; omega)] at this
        rw [List.length_drop, hxl]
        exact this
      have hB4 : B ≤ W4.heap.size := Nat.le_trans hBV hS4.size
      obtain ⟨a', n', c', W5, hrun, hrow, hg⟩ := appB B W4 31 (.slice none 0 0) [] (xs.drop 4) (cutA a 4 c) (c - 4) (ownsNil _ _ _ _) hBs hB4 (by rw [List.length_drop]; simp; omega)
      rw [List.length_drop, hxl] at hrun
      rw [List.nil_append] at hrow
      have hx5 : W4.Extends W5 := grown_ext (ext_Ext (Ext.refl _)) hg (fun k hk => by simp [Value.ownBlock] at hk)
      have v25 : blk W5 b2 = some (reqE 0 none 0 0 none 0 0 0 none 0 0) := (hx5.blk (blk_lt v2)).trans v2
      have vf25 : free W5 b2 = true := (free_of_heap (hx5.block b2 (blk_lt v2))).trans vf2
      have v65 : blk W5 b6 = some (reqE 1 none 0 0 none 0 0 0 none 0 0) := (hx5.blk (blk_lt v6)).trans v6
      have vf65 : free W5 b6 = true := (free_of_heap (hx5.block b6 (blk_lt v6))).trans vf6
      have HR5 : Hid (Rdr W br a n c n W5) := by
        have := hR4.ext hx5
        rw [show 4 + (n - 4) = n by omega] at this
        exact this
      have HRow : Hid (W5.ownsRow B 5 1 (.slice a' n' c') (xs.drop 4).length (bv (xs.drop 4))) := hrow
      clear hR4 hS4 hBs hB4 hrow hg hx5 g2 gf2 g6 gf6
      dsimp only
      go_upto_region 26 with (at_builtin; refine wpList_append_run rfl _ _ 31 rfl _ _ _ _ rfl rfl hrun ?_)
      refine wp_world (fun V => blk V b2 = some (reqE 0 none 0 0 none 0 0 0 none 0 0) ∧ free V b2 = true ∧ blk V b6 = some (reqE 1 a' n' c' none 0 0 0 none 0 0) ∧ Hid (Rdr W br a n c n V) ∧ Hid (ReqOk V B 1 a' n' c' none 0 0 0 none 0 0 ⟨1, xs.drop 4, [], 0, []⟩)) ⟨?_, ?_, ?_, ?_, ?_⟩ ?_
      · rw [blk_put, if_neg e26]; exact v25
      · rw [free_put]; exact vf25
      · rw [blk_put, if_pos rfl, v65]; rfl
      · obtain ⟨r1, r2, r3, r4, r5⟩ := HR5.out
        exact ⟨by rw [blk_put, if_neg (Ne.symm e6r)]; exact r1, by rw [free_put]; exact r2, (Side.put (D := fun k => k = b6) (Side.refl _ _) rfl _).extends r3 (fun k hk => by omega), r4, r5⟩
      · exact ReqOk.put (W := W5) ⟨rfl, HRow.out, ⟨[], ownsNil _ _ _ _, ⟨rfl, fun i d it h => by simp at h⟩⟩, rfl, ownsNil _ _ _ _⟩ h6B
      clear v25 vf25 v65 vf65 HR5 HRow hrun v2 vf2 v6 vf6
      rintro V ⟨v2, vf2, v6, HRv, HOk⟩
      obtain ⟨p', hp'⟩ : ∃ p', p' = n := ⟨_, rfl⟩
      have HBo : Hid ((bodyF 1 (xs.drop 4)).1 = 0 ∧ (bodyF 1 (xs.drop 4)).2.1 = ⟨1, xs.drop 4, [], 0, []⟩ ∧ (bodyF 1 (xs.drop 4)).2.2 = xs.drop p') := by
        rw [body1 _ (by omega)]
        exact ⟨rfl, rfl, by rw [hp']; exact (List.drop_of_length_le (by omega)).symm⟩
      have HRv : Hid (Rdr W br a n c p' V) := by rw [hp']; exact HRv.out
      clear hp'
      go_wp2_with fail
      refine (left_any V br a n c p' HRv.out.1 HRv.out.2.2.2.2 hn).mono ?_
      rintro e V9 ⟨rfl, k9, rfl⟩
      have hpn := HRv.out.2.2.2.2
      by_cases hpe : p' = n
      · have HQ : Hid (decF xs = (0, ⟨1, xs.drop 4, [], 0, []⟩)) := by
          show _ = _
          rw [HDF.out, fin_ok HBo.out.1 (by rw [HBo.out.2.2, hpe]; exact List.drop_of_length_le (by omega)), HBo.out.2.1]
        have hl0 : ((n - p' : Nat) : Int) = 0 := by omega
        have HF : Hid (DecPost W (0, ⟨1, xs.drop 4, [], 0, []⟩) (.returned (.tuple #[.agg (reqE 1 a' n' c' none 0 0 0 none 0 0).toArray, .int .i64 0])) ((put V b2 (reqE 1 a' n' c' none 0 0 0 none 0 0)).drewN k9)) := ⟨_, _, _, _, _, _, _, _, _, _, _, rfl, ((HOk.out.put h2B).base hWB).drewN _, extends_drewN ((Side.put (D := fun k => k = b2) (Side.refl _ _) rfl _).extends HRv.out.2.2.1 (fun k hk => by omega)) _⟩
        dsimp only
        go_wp2_with fail
        refine ret_cell_tmp (C := reqE 1 a' n' c' none 0 0 0 none 0 0) rfl rfl rfl ?_ (by kernel_rfl) (by rw [rq_len]; kernel_rfl) rfl (by rw [HQ.out]; exact HF.out)
        first | (rw [blk_put, if_pos rfl, blk_drewN, v2]; rfl) | (rw [blk_drewN, blk_put, if_pos rfl, v2]; rfl)
      · have HQ : Hid (decF xs = (6, Rq.zero)) := by
          show _ = _
          rw [HDF.out, fin_trail HBo.out.1 (by rw [HBo.out.2.2]; intro h; have := congrArg List.length h; rw [List.length_drop] at this; simp at this; omega)]
        have hl0 : ¬ ((n - p' : Nat) : Int) = 0 := by omega
        dsimp only
        go_wp2_with fail
        refine ret_cell_tmp (C := reqE 0 none 0 0 none 0 0 0 none 0 0) rfl rfl rfl ?_ (by kernel_rfl) (by rw [rq_len]; kernel_rfl) rfl (by rw [HQ.out]; exact (HF0 _).out (by first | exact extends_drewN ((Side.put (D := fun k => k = b2) (Side.refl _ _) rfl _).extends HRv.out.2.2.1 (fun k hk => by omega)) _ | exact (Side.put (D := fun k => k = b2) (Side.refl _ _) rfl _).extends (extends_drewN HRv.out.2.2.1 _) (fun k hk => by omega)) 6)
        first | (rw [blk_put, if_pos rfl, blk_drewN, v2]; rfl) | (rw [blk_drewN, blk_put, if_pos rfl, v2]; rfl)
    · have HDF : Hid (decF xs = finF (bodyF 7 (xs.drop 4))) := HDF.out
      have g6 : blk W2 b6 = some (reqE 7 none 0 0 none 0 0 0 none 0 0) := g6
      go_wp2_with fail
      refine (left_any W2 br a n c 4 HRd.out.1 h4n hn).mono ?_
      rintro e W3 ⟨rfl, k3, rfl⟩
      dsimp only
      go_wp2_with fail
      refine (take_ok W (W2.drewN k3) br a n c 4 (HRd.out.drewN k3) hn hnc hc xs HX.out (n - 4) (by omega)).mono ?_
      rintro e W4 ⟨rfl, hR4, hS4⟩
      have v2 : blk W4 b2 = some (reqE 0 none 0 0 none 0 0 0 none 0 0) := (hS4.blk (blk_lt g2) e2r).trans g2
      have vf2 : free W4 b2 = true := (free_of_heap (hS4.block b2 (blk_lt g2) e2r)).trans gf2
      have v6 : blk W4 b6 = some (reqE 7 none 0 0 none 0 0 0 none 0 0) := (hS4.blk (blk_lt g6) e6r).trans g6
      have vf6 : free W4 b6 = true := (free_of_heap (hS4.block b6 (blk_lt g6) e6r)).trans gf6
      have hBs : Bs W4 (cutA a 4 c) (xs.drop 4).length (xs.drop 4) := by
        have := (HX.out.grow hR4.2.2.1).cut (l := 4) (k := n - 4) (cap := c) (by omega) hnc
        rw [List.take_of_length_le (by rw [List.length_drop]; omega)] at this
        rw [List.length_drop, hxl]
        exact this
      have hB4 : B ≤ W4.heap.size := Nat.le_trans hBV hS4.size
      obtain ⟨a', n', c', W5, hrun, hrow, hg⟩ := appB B W4 31 (.slice none 0 0) [] (xs.drop 4) (cutA a 4 c) (c - 4) (ownsNil _ _ _ _) hBs hB4 (by rw [List.length_drop]; simp; omega)
      rw [List.length_drop, hxl] at hrun
      rw [List.nil_append] at hrow
      have hx5 : W4.Extends W5 := grown_ext (ext_Ext (Ext.refl _)) hg (fun k hk => by simp [Value.ownBlock] at hk)
      have v25 : blk W5 b2 = some (reqE 0 none 0 0 none 0 0 0 none 0 0) := (hx5.blk (blk_lt v2)).trans v2
      have vf25 : free W5 b2 = true := (free_of_heap (hx5.block b2 (blk_lt v2))).trans vf2
      have v65 : blk W5 b6 = some (reqE 7 none 0 0 none 0 0 0 none 0 0) := (hx5.blk (blk_lt v6)).trans v6
      have vf65 : free W5 b6 = true := (free_of_heap (hx5.block b6 (blk_lt v6))).trans vf6
      have HR5 : Hid (Rdr W br a n c n W5) := by
        have := hR4.ext hx5
        rw [show 4 + (n - 4) = n by omega] at this
        exact this
      have HRow : Hid (W5.ownsRow B 5 1 (.slice a' n' c') (xs.drop 4).length (bv (xs.drop 4))) := hrow
      clear hR4 hS4 hBs hB4 hrow hg hx5 g2 gf2 g6 gf6
      dsimp only
      go_upto_region 26 with (at_builtin; refine wpList_append_run rfl _ _ 31 rfl _ _ _ _ rfl rfl hrun ?_)
      refine wp_world (fun V => blk V b2 = some (reqE 0 none 0 0 none 0 0 0 none 0 0) ∧ free V b2 = true ∧ blk V b6 = some (reqE 7 a' n' c' none 0 0 0 none 0 0) ∧ Hid (Rdr W br a n c n V) ∧ Hid (ReqOk V B 7 a' n' c' none 0 0 0 none 0 0 ⟨7, xs.drop 4, [], 0, []⟩)) ⟨?_, ?_, ?_, ?_, ?_⟩ ?_
      · rw [blk_put, if_neg e26]; exact v25
      · rw [free_put]; exact vf25
      · rw [blk_put, if_pos rfl, v65]; rfl
      · obtain ⟨r1, r2, r3, r4, r5⟩ := HR5.out
        exact ⟨by rw [blk_put, if_neg (Ne.symm e6r)]; exact r1, by rw [free_put]; exact r2, (Side.put (D := fun k => k = b6) (Side.refl _ _) rfl _).extends r3 (fun k hk => by omega), r4, r5⟩
      · exact ReqOk.put (W := W5) ⟨rfl, HRow.out, ⟨[], ownsNil _ _ _ _, ⟨rfl, fun i d it h => by simp at h⟩⟩, rfl, ownsNil _ _ _ _⟩ h6B
      clear v25 vf25 v65 vf65 HR5 HRow hrun v2 vf2 v6 vf6
      rintro V ⟨v2, vf2, v6, HRv, HOk⟩
      obtain ⟨p', hp'⟩ : ∃ p', p' = n := ⟨_, rfl⟩
      have HBo : Hid ((bodyF 7 (xs.drop 4)).1 = 0 ∧ (bodyF 7 (xs.drop 4)).2.1 = ⟨7, xs.drop 4, [], 0, []⟩ ∧ (bodyF 7 (xs.drop 4)).2.2 = xs.drop p') := by
        rw [body1 _ (by omega)]
        exact ⟨rfl, rfl, by rw [hp']; exact (List.drop_of_length_le (by omega)).symm⟩
      have HRv : Hid (Rdr W br a n c p' V) := by rw [hp']; exact HRv.out
      clear hp'
      go_wp2_with fail
      refine (left_any V br a n c p' HRv.out.1 HRv.out.2.2.2.2 hn).mono ?_
      rintro e V9 ⟨rfl, k9, rfl⟩
      have hpn := HRv.out.2.2.2.2
      by_cases hpe : p' = n
      · have HQ : Hid (decF xs = (0, ⟨7, xs.drop 4, [], 0, []⟩)) := by
          show _ = _
          rw [HDF.out, fin_ok HBo.out.1 (by rw [HBo.out.2.2, hpe]; exact List.drop_of_length_le (by omega)), HBo.out.2.1]
        have hl0 : ((n - p' : Nat) : Int) = 0 := by omega
        have HF : Hid (DecPost W (0, ⟨7, xs.drop 4, [], 0, []⟩) (.returned (.tuple #[.agg (reqE 7 a' n' c' none 0 0 0 none 0 0).toArray, .int .i64 0])) ((put V b2 (reqE 7 a' n' c' none 0 0 0 none 0 0)).drewN k9)) := ⟨_, _, _, _, _, _, _, _, _, _, _, rfl, ((HOk.out.put h2B).base hWB).drewN _, extends_drewN ((Side.put (D := fun k => k = b2) (Side.refl _ _) rfl _).extends HRv.out.2.2.1 (fun k hk => by omega)) _⟩
        dsimp only
        go_wp2_with fail
        refine ret_cell_tmp (C := reqE 7 a' n' c' none 0 0 0 none 0 0) rfl rfl rfl ?_ (by kernel_rfl) (by rw [rq_len]; kernel_rfl) rfl (by rw [HQ.out]; exact HF.out)
        first | (rw [blk_put, if_pos rfl, blk_drewN, v2]; rfl) | (rw [blk_drewN, blk_put, if_pos rfl, v2]; rfl)
      · have HQ : Hid (decF xs = (6, Rq.zero)) := by
          show _ = _
          rw [HDF.out, fin_trail HBo.out.1 (by rw [HBo.out.2.2]; intro h; have := congrArg List.length h; rw [List.length_drop] at this; simp at this; omega)]
        have hl0 : ¬ ((n - p' : Nat) : Int) = 0 := by omega
        dsimp only
        go_wp2_with fail
        refine ret_cell_tmp (C := reqE 0 none 0 0 none 0 0 0 none 0 0) rfl rfl rfl ?_ (by kernel_rfl) (by rw [rq_len]; kernel_rfl) rfl (by rw [HQ.out]; exact (HF0 _).out (by first | exact extends_drewN ((Side.put (D := fun k => k = b2) (Side.refl _ _) rfl _).extends HRv.out.2.2.1 (fun k hk => by omega)) _ | exact (Side.put (D := fun k => k = b2) (Side.refl _ _) rfl _).extends (extends_drewN HRv.out.2.2.1 _) (fun k hk => by omega)) 6)
        first | (rw [blk_put, if_pos rfl, blk_drewN, v2]; rfl) | (rw [blk_drewN, blk_put, if_pos rfl, v2]; rfl)
    · have HDF : Hid (decF xs = finF (bodyF 2 (xs.drop 4))) := HDF.out
      have g6 : blk W2 b6 = some (reqE 2 none 0 0 none 0 0 0 none 0 0) := g6
      have l6 := blk_lt g6
      have l2 := blk_lt g2
      go_upto_region 15 with fail
      refine wp_world (fun W3 => blk W3 W2.heap.size = some (itemE false 0 none 0 0) ∧ free W3 W2.heap.size = true ∧ W3.heap.size = W2.heap.size + 1 ∧ Hid (W2.Extends W3)) ⟨?_, ?_, ?_, extends_alloc (ext_Ext (Ext.refl _)) _⟩ ?_
      · rw [blk_alloc, if_pos rfl]; rfl
      · rw [free_alloc, if_pos rfl]
      · rw [World.size_alloc]
      rintro W3 ⟨q10, qf10, qsz, HX3⟩
      obtain ⟨b10, hb10⟩ : ∃ b10, b10 = W2.heap.size := ⟨_, rfl⟩
      rw [← hb10] at q10 qf10 qsz ⊢
      have hB10 : B ≤ b10 := by omega
      have q2 : blk W3 b2 = some (reqE 0 none 0 0 none 0 0 0 none 0 0) := (HX3.out.blk l2).trans g2
      have qf2 : free W3 b2 = true := (free_of_heap (HX3.out.block b2 l2)).trans gf2
      have q6 : blk W3 b6 = some (reqE 2 none 0 0 none 0 0 0 none 0 0) := (HX3.out.blk l6).trans g6
      have qf6 : free W3 b6 = true := (free_of_heap (HX3.out.block b6 l6)).trans gf6
      have e10r : ¬ b10 = br := by omega
      have e102 : ¬ b2 = b10 := by omega
      have e106 : ¬ b6 = b10 := by omega
      have HR3 : Hid (Rdr W br a n c 4 W3) := HRd.out.ext HX3.out
      clear g2 gf2 g6 gf6 hb10 HX3 HRd l6 l2
      go_wp2_with fail
      refine (fact_any W W3 br a n c 4 HR3.out hn hnc hc xs HX.out).mono ?_
      rintro e W4 ⟨pr, pa, pn, pc, rfl, hit, p', hR4, hS4, hrest⟩
      obtain ⟨cd, hcd⟩ : ∃ cd, cd = (factF (xs.drop 4)).1 := ⟨_, rfl⟩
      rw [← hcd]
      rw [← hcd] at hit hrest
      have v2 : blk W4 b2 = some (reqE 0 none 0 0 none 0 0 0 none 0 0) := (hS4.blk (blk_lt q2) e2r).trans q2
      have vf2 : free W4 b2 = true := (free_of_heap (hS4.block b2 (blk_lt q2) e2r)).trans qf2
      have v6 : blk W4 b6 = some (reqE 2 none 0 0 none 0 0 0 none 0 0) := (hS4.blk (blk_lt q6) e6r).trans q6
      have vf6 : free W4 b6 = true := (free_of_heap (hS4.block b6 (blk_lt q6) e6r)).trans qf6
      have v10 : blk W4 b10 = some (itemE false 0 none 0 0) := (hS4.blk (blk_lt q10) e10r).trans q10
      have vf10 : free W4 b10 = true := (free_of_heap (hS4.block b10 (blk_lt q10) e10r)).trans qf10
      have HR4 : Hid (Rdr W br a n c p' W4) := hR4
      have hsz4 := hS4.size
      have l6 := blk_lt v6
      have l2 := blk_lt v2
      have l10 := blk_lt v10
      have lr := blk_lt hR4.1
      have HIT : Hid (cd = 0 → pr = (factF (xs.drop 4)).2.1 ∧ W4.ownsRow W3.heap.size 9 1 (.slice pa pn pc) (factF (xs.drop 4)).2.2.1.length ((factF (xs.drop 4)).2.2.1.flatMap encS)) := hit
      have HBd : Hid ((bodyF 2 (xs.drop 4)).1 = cd) := by show _ = _; rw [body2 _ (by omega), hcd]
      have HBo0 : Hid (cd = 0 → (bodyF 2 (xs.drop 4)).1 = 0 ∧ (bodyF 2 (xs.drop 4)).2.1 = ⟨2, [], [(false, (factF (xs.drop 4)).2.1, (factF (xs.drop 4)).2.2.1)], 0, []⟩ ∧ (bodyF 2 (xs.drop 4)).2.2 = xs.drop p') := fun h0 => by
        rw [body2 _ (by omega)]
        exact ⟨by rw [← hcd]; exact h0, rfl, (hrest h0).symm⟩
      obtain ⟨g, hg⟩ : ∃ g, g = W4.heap.size := ⟨_, rfl⟩
      have m1 : ¬ b6 = W4.heap.size := by omega
      have m2 : ¬ b2 = W4.heap.size := by omega
      have m10 : ¬ b10 = W4.heap.size := by omega
      clear hit hrest hcd hR4 hS4 q2 qf2 q6 qf6 q10 qf10
      dsimp only
      go_upto_region 26 with fail
      rw [← hg]
      refine wp_world (fun V => blk V b2 = some (reqE 0 none 0 0 none 0 0 0 none 0 0) ∧ free V b2 = true ∧ blk V b6 = some (reqE 2 none 0 0 (some ⟨g, 0, none⟩) 1 1 0 none 0 0) ∧ Hid (Rdr W br a n c p' V) ∧ Hid (cd = 0 → ReqOk V B 2 none 0 0 (some ⟨g, 0, none⟩) 1 1 0 none 0 0 ⟨2, [], [(false, (factF (xs.drop 4)).2.1, (factF (xs.drop 4)).2.2.1)], 0, []⟩)) ⟨?_, ?_, ?_, ?_, ?_⟩ ?_
      · rw [blk_put, if_neg e26, blk_alloc, if_neg (by rw [size_put]; exact m2), blk_put, if_neg e102]; exact v2
      · rw [free_put, free_alloc, if_neg (by rw [size_put]; exact m2), free_put]; exact vf2
      · rw [blk_put, if_pos rfl, blk_alloc, if_neg (by rw [size_put]; exact m1), blk_put, if_neg e106, v6]; rfl
      · obtain ⟨r1, r2, r3, r4, r5⟩ := HR4.out
        exact ⟨by rw [blk_put, if_neg (Ne.symm e6r), blk_alloc, if_neg (by rw [size_put]; omega), blk_put, if_neg (Ne.symm e10r)]; exact r1, by rw [free_put, free_alloc, if_neg (by rw [size_put]; omega), free_put]; exact r2, (Side.put (D := fun k => k = b6) (Side.refl _ _) rfl _).extends (extends_alloc ((Side.put (D := fun k => k = b10) (Side.refl _ _) rfl _).extends r3 (fun k hk => by omega)) _) (fun k hk => by omega), r4, r5⟩
      · intro h0
        obtain ⟨i1, i2⟩ := HIT.out h0
        refine ReqOk.put (b := b6) ⟨rfl, ownsNil _ _ _ _, ⟨[(false, pr, pa, pn, pc)], ⟨rfl, .inr ⟨g, 1, (itemE false pr pa pn pc).toArray, rfl, by omega, ?_, Nat.le_refl _, by simp only [maxLen]; omega, rfl, rfl⟩⟩, ⟨rfl, ?_⟩⟩, rfl, ownsNil _ _ _ _⟩ h6B
        · rw [heap_alloc, if_pos (by rw [size_put]; exact hg)]
        · intro j d it h1 h2
          have hj : j = 0 := by have := (List.getElem?_eq_some_iff.1 h1).1; simp at this; omega
          subst hj
          simp at h1 h2
          subst h1 h2
          refine ⟨rfl, i1, row_base (row_keep i2 (fun k hk => ?_)) (by omega)⟩
          have hk1 := (row_at i2 k hk).1
          have hk2 := (row_at i2 k hk).2.1
          rw [heap_alloc, if_neg (by rw [size_put]; omega), heap_put, if_neg (by omega)]
      clear v2 vf2 v6 vf6 HR4 v10 vf10 l6 l2 l10 lr HIT m1 m2 m10 hg hsz4
      rintro V ⟨v2, vf2, v6, HRv, HOk1⟩
      by_cases hcz : cd = 0
      · have HOk : Hid (ReqOk V B 2 none 0 0 (some ⟨g, 0, none⟩) 1 1 0 none 0 0 ⟨2, [], [(false, (factF (xs.drop 4)).2.1, (factF (xs.drop 4)).2.2.1)], 0, []⟩) := HOk1.out hcz
        have HBo : Hid ((bodyF 2 (xs.drop 4)).1 = 0 ∧ (bodyF 2 (xs.drop 4)).2.1 = ⟨2, [], [(false, (factF (xs.drop 4)).2.1, (factF (xs.drop 4)).2.2.1)], 0, []⟩ ∧ (bodyF 2 (xs.drop 4)).2.2 = xs.drop p') := HBo0.out hcz
        clear HBo0 HOk1 HBd
        subst hcz
        go_wp2_with fail
        refine (left_any V br a n c p' HRv.out.1 HRv.out.2.2.2.2 hn).mono ?_
        rintro e V9 ⟨rfl, k9, rfl⟩
        have hpn := HRv.out.2.2.2.2
        by_cases hpe : p' = n
        · have HQ : Hid (decF xs = (0, ⟨2, [], [(false, (factF (xs.drop 4)).2.1, (factF (xs.drop 4)).2.2.1)], 0, []⟩)) := by
            show _ = _
            rw [HDF.out, fin_ok HBo.out.1 (by rw [HBo.out.2.2, hpe]; exact List.drop_of_length_le (by omega)), HBo.out.2.1]
          have hl0 : ((n - p' : Nat) : Int) = 0 := by omega
          have HF : Hid (DecPost W (0, ⟨2, [], [(false, (factF (xs.drop 4)).2.1, (factF (xs.drop 4)).2.2.1)], 0, []⟩) (.returned (.tuple #[.agg (reqE 2 none 0 0 (some ⟨g, 0, none⟩) 1 1 0 none 0 0).toArray, .int .i64 0])) ((put V b2 (reqE 2 none 0 0 (some ⟨g, 0, none⟩) 1 1 0 none 0 0)).drewN k9)) := ⟨_, _, _, _, _, _, _, _, _, _, _, rfl, ((HOk.out.put h2B).base hWB).drewN _, extends_drewN ((Side.put (D := fun k => k = b2) (Side.refl _ _) rfl _).extends HRv.out.2.2.1 (fun k hk => by omega)) _⟩
          dsimp only
          go_wp2_with fail
          refine ret_cell_tmp (C := reqE 2 none 0 0 (some ⟨g, 0, none⟩) 1 1 0 none 0 0) rfl rfl rfl ?_ (by kernel_rfl) (by rw [rq_len]; kernel_rfl) rfl (by rw [HQ.out]; exact HF.out)
          first | (rw [blk_put, if_pos rfl, blk_drewN, v2]; rfl) | (rw [blk_drewN, blk_put, if_pos rfl, v2]; rfl)
        · have HQ : Hid (decF xs = (6, Rq.zero)) := by
            show _ = _
            rw [HDF.out, fin_trail HBo.out.1 (by rw [HBo.out.2.2]; intro h; have := congrArg List.length h; rw [List.length_drop] at this; simp at this; omega)]
          have hl0 : ¬ ((n - p' : Nat) : Int) = 0 := by omega
          dsimp only
          go_wp2_with fail
          refine ret_cell_tmp (C := reqE 0 none 0 0 none 0 0 0 none 0 0) rfl rfl rfl ?_ (by kernel_rfl) (by rw [rq_len]; kernel_rfl) rfl (by rw [HQ.out]; exact (HF0 _).out (by first | exact extends_drewN ((Side.put (D := fun k => k = b2) (Side.refl _ _) rfl _).extends HRv.out.2.2.1 (fun k hk => by omega)) _ | exact (Side.put (D := fun k => k = b2) (Side.refl _ _) rfl _).extends (extends_drewN HRv.out.2.2.1 _) (fun k hk => by omega)) 6)
          first | (rw [blk_put, if_pos rfl, blk_drewN, v2]; rfl) | (rw [blk_drewN, blk_put, if_pos rfl, v2]; rfl)
      · skip
        have HQ : Hid (decF xs = (cd, Rq.zero)) := by
          show _ = _
          rw [HDF.out, fin_bad (by rw [HBd.out]; exact hcz), HBd.out]
        go_wp2_with fail
        refine ret_cell_tmp (C := reqE 0 none 0 0 none 0 0 0 none 0 0) rfl rfl rfl ?_ (by kernel_rfl) (by rw [rq_len]; kernel_rfl) rfl (by rw [HQ.out]; exact (HF0 _).out ((Side.put (D := fun k => k = b2) (Side.refl _ _) rfl _).extends HRv.out.2.2.1 (fun k hk => by omega)) cd)
        rw [blk_put, if_pos rfl, v2]; rfl
    · have HDF : Hid (decF xs = finF (bodyF 3 (xs.drop 4))) := HDF.out
      have g6 : blk W2 b6 = some (reqE 3 none 0 0 none 0 0 0 none 0 0) := g6
      have l6 := blk_lt g6
      have l2 := blk_lt g2
      go_upto_region 15 with fail
      refine wp_world (fun W3 => blk W3 W2.heap.size = some (itemE false 0 none 0 0) ∧ free W3 W2.heap.size = true ∧ W3.heap.size = W2.heap.size + 1 ∧ Hid (W2.Extends W3)) ⟨?_, ?_, ?_, extends_alloc (ext_Ext (Ext.refl _)) _⟩ ?_
      · rw [blk_alloc, if_pos rfl]; rfl
      · rw [free_alloc, if_pos rfl]
      · rw [World.size_alloc]
      rintro W3 ⟨q10, qf10, qsz, HX3⟩
      obtain ⟨b10, hb10⟩ : ∃ b10, b10 = W2.heap.size := ⟨_, rfl⟩
      rw [← hb10] at q10 qf10 qsz ⊢
      have hB10 : B ≤ b10 := by omega
      have q2 : blk W3 b2 = some (reqE 0 none 0 0 none 0 0 0 none 0 0) := (HX3.out.blk l2).trans g2
      have qf2 : free W3 b2 = true := (free_of_heap (HX3.out.block b2 l2)).trans gf2
      have q6 : blk W3 b6 = some (reqE 3 none 0 0 none 0 0 0 none 0 0) := (HX3.out.blk l6).trans g6
      have qf6 : free W3 b6 = true := (free_of_heap (HX3.out.block b6 l6)).trans gf6
      have e10r : ¬ b10 = br := by omega
      have e102 : ¬ b2 = b10 := by omega
      have e106 : ¬ b6 = b10 := by omega
      have HR3 : Hid (Rdr W br a n c 4 W3) := HRd.out.ext HX3.out
      clear g2 gf2 g6 gf6 hb10 HX3 HRd l6 l2
      go_wp2_with fail
      refine (fact_any W W3 br a n c 4 HR3.out hn hnc hc xs HX.out).mono ?_
      rintro e W4 ⟨pr, pa, pn, pc, rfl, hit, p', hR4, hS4, hrest⟩
      obtain ⟨cd, hcd⟩ : ∃ cd, cd = (factF (xs.drop 4)).1 := ⟨_, rfl⟩
      rw [← hcd]
      rw [← hcd] at hit hrest
      have v2 : blk W4 b2 = some (reqE 0 none 0 0 none 0 0 0 none 0 0) := (hS4.blk (blk_lt q2) e2r).trans q2
      have vf2 : free W4 b2 = true := (free_of_heap (hS4.block b2 (blk_lt q2) e2r)).trans qf2
      have v6 : blk W4 b6 = some (reqE 3 none 0 0 none 0 0 0 none 0 0) := (hS4.blk (blk_lt q6) e6r).trans q6
      have vf6 : free W4 b6 = true := (free_of_heap (hS4.block b6 (blk_lt q6) e6r)).trans qf6
      have v10 : blk W4 b10 = some (itemE false 0 none 0 0) := (hS4.blk (blk_lt q10) e10r).trans q10
      have vf10 : free W4 b10 = true := (free_of_heap (hS4.block b10 (blk_lt q10) e10r)).trans qf10
      have HR4 : Hid (Rdr W br a n c p' W4) := hR4
      have hsz4 := hS4.size
      have l6 := blk_lt v6
      have l2 := blk_lt v2
      have l10 := blk_lt v10
      have lr := blk_lt hR4.1
      have HIT : Hid (cd = 0 → pr = (factF (xs.drop 4)).2.1 ∧ W4.ownsRow W3.heap.size 9 1 (.slice pa pn pc) (factF (xs.drop 4)).2.2.1.length ((factF (xs.drop 4)).2.2.1.flatMap encS)) := hit
      have HBd : Hid ((bodyF 3 (xs.drop 4)).1 = cd) := by show _ = _; rw [body2 _ (by omega), hcd]
      have HBo0 : Hid (cd = 0 → (bodyF 3 (xs.drop 4)).1 = 0 ∧ (bodyF 3 (xs.drop 4)).2.1 = ⟨3, [], [(true, (factF (xs.drop 4)).2.1, (factF (xs.drop 4)).2.2.1)], 0, []⟩ ∧ (bodyF 3 (xs.drop 4)).2.2 = xs.drop p') := fun h0 => by
        rw [body2 _ (by omega)]
        exact ⟨by rw [← hcd]; exact h0, rfl, (hrest h0).symm⟩
      obtain ⟨g, hg⟩ : ∃ g, g = W4.heap.size := ⟨_, rfl⟩
      have m1 : ¬ b6 = W4.heap.size := by omega
      have m2 : ¬ b2 = W4.heap.size := by omega
      have m10 : ¬ b10 = W4.heap.size := by omega
      clear hit hrest hcd hR4 hS4 q2 qf2 q6 qf6 q10 qf10
      dsimp only
      go_upto_region 26 with fail
      rw [← hg]
      refine wp_world (fun V => blk V b2 = some (reqE 0 none 0 0 none 0 0 0 none 0 0) ∧ free V b2 = true ∧ blk V b6 = some (reqE 3 none 0 0 (some ⟨g, 0, none⟩) 1 1 0 none 0 0) ∧ Hid (Rdr W br a n c p' V) ∧ Hid (cd = 0 → ReqOk V B 3 none 0 0 (some ⟨g, 0, none⟩) 1 1 0 none 0 0 ⟨3, [], [(true, (factF (xs.drop 4)).2.1, (factF (xs.drop 4)).2.2.1)], 0, []⟩)) ⟨?_, ?_, ?_, ?_, ?_⟩ ?_
      · rw [blk_put, if_neg e26, blk_alloc, if_neg (by rw [size_put]; exact m2), blk_put, if_neg e102]; exact v2
      · rw [free_put, free_alloc, if_neg (by rw [size_put]; exact m2), free_put]; exact vf2
      · rw [blk_put, if_pos rfl, blk_alloc, if_neg (by rw [size_put]; exact m1), blk_put, if_neg e106, v6]; rfl
      · obtain ⟨r1, r2, r3, r4, r5⟩ := HR4.out
        exact ⟨by rw [blk_put, if_neg (Ne.symm e6r), blk_alloc, if_neg (by rw [size_put]; omega), blk_put, if_neg (Ne.symm e10r)]; exact r1, by rw [free_put, free_alloc, if_neg (by rw [size_put]; omega), free_put]; exact r2, (Side.put (D := fun k => k = b6) (Side.refl _ _) rfl _).extends (extends_alloc ((Side.put (D := fun k => k = b10) (Side.refl _ _) rfl _).extends r3 (fun k hk => by omega)) _) (fun k hk => by omega), r4, r5⟩
      · intro h0
        obtain ⟨i1, i2⟩ := HIT.out h0
        refine ReqOk.put (b := b6) ⟨rfl, ownsNil _ _ _ _, ⟨[(true, pr, pa, pn, pc)], ⟨rfl, .inr ⟨g, 1, (itemE true pr pa pn pc).toArray, rfl, by omega, ?_, Nat.le_refl _, by simp only [maxLen]; omega, rfl, rfl⟩⟩, ⟨rfl, ?_⟩⟩, rfl, ownsNil _ _ _ _⟩ h6B
        · rw [heap_alloc, if_pos (by rw [size_put]; exact hg)]
        · intro j d it h1 h2
          have hj : j = 0 := by have := (List.getElem?_eq_some_iff.1 h1).1; simp at this; omega
          subst hj
          simp at h1 h2
          subst h1 h2
          refine ⟨rfl, i1, row_base (row_keep i2 (fun k hk => ?_)) (by omega)⟩
          have hk1 := (row_at i2 k hk).1
          have hk2 := (row_at i2 k hk).2.1
          rw [heap_alloc, if_neg (by rw [size_put]; omega), heap_put, if_neg (by omega)]
      clear v2 vf2 v6 vf6 HR4 v10 vf10 l6 l2 l10 lr HIT m1 m2 m10 hg hsz4
      rintro V ⟨v2, vf2, v6, HRv, HOk1⟩
      by_cases hcz : cd = 0
      · have HOk : Hid (ReqOk V B 3 none 0 0 (some ⟨g, 0, none⟩) 1 1 0 none 0 0 ⟨3, [], [(true, (factF (xs.drop 4)).2.1, (factF (xs.drop 4)).2.2.1)], 0, []⟩) := HOk1.out hcz
        have HBo : Hid ((bodyF 3 (xs.drop 4)).1 = 0 ∧ (bodyF 3 (xs.drop 4)).2.1 = ⟨3, [], [(true, (factF (xs.drop 4)).2.1, (factF (xs.drop 4)).2.2.1)], 0, []⟩ ∧ (bodyF 3 (xs.drop 4)).2.2 = xs.drop p') := HBo0.out hcz
        clear HBo0 HOk1 HBd
        subst hcz
        go_wp2_with fail
        refine (left_any V br a n c p' HRv.out.1 HRv.out.2.2.2.2 hn).mono ?_
        rintro e V9 ⟨rfl, k9, rfl⟩
        have hpn := HRv.out.2.2.2.2
        by_cases hpe : p' = n
        · have HQ : Hid (decF xs = (0, ⟨3, [], [(true, (factF (xs.drop 4)).2.1, (factF (xs.drop 4)).2.2.1)], 0, []⟩)) := by
            show _ = _
            rw [HDF.out, fin_ok HBo.out.1 (by rw [HBo.out.2.2, hpe]; exact List.drop_of_length_le (by omega)), HBo.out.2.1]
          have hl0 : ((n - p' : Nat) : Int) = 0 := by omega
          have HF : Hid (DecPost W (0, ⟨3, [], [(true, (factF (xs.drop 4)).2.1, (factF (xs.drop 4)).2.2.1)], 0, []⟩) (.returned (.tuple #[.agg (reqE 3 none 0 0 (some ⟨g, 0, none⟩) 1 1 0 none 0 0).toArray, .int .i64 0])) ((put V b2 (reqE 3 none 0 0 (some ⟨g, 0, none⟩) 1 1 0 none 0 0)).drewN k9)) := ⟨_, _, _, _, _, _, _, _, _, _, _, rfl, ((HOk.out.put h2B).base hWB).drewN _, extends_drewN ((Side.put (D := fun k => k = b2) (Side.refl _ _) rfl _).extends HRv.out.2.2.1 (fun k hk => by omega)) _⟩
          dsimp only
          go_wp2_with fail
          refine ret_cell_tmp (C := reqE 3 none 0 0 (some ⟨g, 0, none⟩) 1 1 0 none 0 0) rfl rfl rfl ?_ (by kernel_rfl) (by rw [rq_len]; kernel_rfl) rfl (by rw [HQ.out]; exact HF.out)
          first | (rw [blk_put, if_pos rfl, blk_drewN, v2]; rfl) | (rw [blk_drewN, blk_put, if_pos rfl, v2]; rfl)
        · have HQ : Hid (decF xs = (6, Rq.zero)) := by
            show _ = _
            rw [HDF.out, fin_trail HBo.out.1 (by rw [HBo.out.2.2]; intro h; have := congrArg List.length h; rw [List.length_drop] at this; simp at this; omega)]
          have hl0 : ¬ ((n - p' : Nat) : Int) = 0 := by omega
          dsimp only
          go_wp2_with fail
          refine ret_cell_tmp (C := reqE 0 none 0 0 none 0 0 0 none 0 0) rfl rfl rfl ?_ (by kernel_rfl) (by rw [rq_len]; kernel_rfl) rfl (by rw [HQ.out]; exact (HF0 _).out (by first | exact extends_drewN ((Side.put (D := fun k => k = b2) (Side.refl _ _) rfl _).extends HRv.out.2.2.1 (fun k hk => by omega)) _ | exact (Side.put (D := fun k => k = b2) (Side.refl _ _) rfl _).extends (extends_drewN HRv.out.2.2.1 _) (fun k hk => by omega)) 6)
          first | (rw [blk_put, if_pos rfl, blk_drewN, v2]; rfl) | (rw [blk_drewN, blk_put, if_pos rfl, v2]; rfl)
      · skip
        have HQ : Hid (decF xs = (cd, Rq.zero)) := by
          show _ = _
          rw [HDF.out, fin_bad (by rw [HBd.out]; exact hcz), HBd.out]
        go_wp2_with fail
        refine ret_cell_tmp (C := reqE 0 none 0 0 none 0 0 0 none 0 0) rfl rfl rfl ?_ (by kernel_rfl) (by rw [rq_len]; kernel_rfl) rfl (by rw [HQ.out]; exact (HF0 _).out ((Side.put (D := fun k => k = b2) (Side.refl _ _) rfl _).extends HRv.out.2.2.1 (fun k hk => by omega)) cd)
        rw [blk_put, if_pos rfl, v2]; rfl
    · have HDF : Hid (decF xs = finF (bodyF 5 (xs.drop 4))) := HDF.out
      have g6 : blk W2 b6 = some (reqE 5 none 0 0 none 0 0 0 none 0 0) := g6
      have l6 := blk_lt g6
      have l2 := blk_lt g2
      go_upto_region 15 with fail
      refine wp_world (fun W3 => blk W3 W2.heap.size = some (itemE false 0 none 0 0) ∧ free W3 W2.heap.size = true ∧ W3.heap.size = W2.heap.size + 1 ∧ Hid (W2.Extends W3)) ⟨?_, ?_, ?_, extends_alloc (ext_Ext (Ext.refl _)) _⟩ ?_
      · rw [blk_alloc, if_pos rfl]; rfl
      · rw [free_alloc, if_pos rfl]
      · rw [World.size_alloc]
      rintro W3 ⟨q10, qf10, qsz, HX3⟩
      obtain ⟨b10, hb10⟩ : ∃ b10, b10 = W2.heap.size := ⟨_, rfl⟩
      rw [← hb10] at q10 qf10 qsz ⊢
      have hB10 : B ≤ b10 := by omega
      have q2 : blk W3 b2 = some (reqE 0 none 0 0 none 0 0 0 none 0 0) := (HX3.out.blk l2).trans g2
      have qf2 : free W3 b2 = true := (free_of_heap (HX3.out.block b2 l2)).trans gf2
      have q6 : blk W3 b6 = some (reqE 5 none 0 0 none 0 0 0 none 0 0) := (HX3.out.blk l6).trans g6
      have qf6 : free W3 b6 = true := (free_of_heap (HX3.out.block b6 l6)).trans gf6
      have e10r : ¬ b10 = br := by omega
      have e102 : ¬ b2 = b10 := by omega
      have e106 : ¬ b6 = b10 := by omega
      have HR3 : Hid (Rdr W br a n c 4 W3) := HRd.out.ext HX3.out
      clear g2 gf2 g6 gf6 hb10 HX3 HRd l6 l2
      go_wp2_with fail
      refine (fact_any W W3 br a n c 4 HR3.out hn hnc hc xs HX.out).mono ?_
      rintro e W4 ⟨pr, pa, pn, pc, rfl, hit, p', hR4, hS4, hrest⟩
      obtain ⟨cd, hcd⟩ : ∃ cd, cd = (factF (xs.drop 4)).1 := ⟨_, rfl⟩
      rw [← hcd]
      rw [← hcd] at hit hrest
      have v2 : blk W4 b2 = some (reqE 0 none 0 0 none 0 0 0 none 0 0) := (hS4.blk (blk_lt q2) e2r).trans q2
      have vf2 : free W4 b2 = true := (free_of_heap (hS4.block b2 (blk_lt q2) e2r)).trans qf2
      have v6 : blk W4 b6 = some (reqE 5 none 0 0 none 0 0 0 none 0 0) := (hS4.blk (blk_lt q6) e6r).trans q6
      have vf6 : free W4 b6 = true := (free_of_heap (hS4.block b6 (blk_lt q6) e6r)).trans qf6
      have v10 : blk W4 b10 = some (itemE false 0 none 0 0) := (hS4.blk (blk_lt q10) e10r).trans q10
      have vf10 : free W4 b10 = true := (free_of_heap (hS4.block b10 (blk_lt q10) e10r)).trans qf10
      have HR4 : Hid (Rdr W br a n c p' W4) := hR4
      have hsz4 := hS4.size
      have l6 := blk_lt v6
      have l2 := blk_lt v2
      have l10 := blk_lt v10
      have lr := blk_lt hR4.1
      have HIT : Hid (cd = 0 → pr = (factF (xs.drop 4)).2.1 ∧ W4.ownsRow W3.heap.size 9 1 (.slice pa pn pc) (factF (xs.drop 4)).2.2.1.length ((factF (xs.drop 4)).2.2.1.flatMap encS)) := hit
      have HBd : Hid ((bodyF 5 (xs.drop 4)).1 = cd) := by show _ = _; rw [body2 _ (by omega), hcd]
      have HBo0 : Hid (cd = 0 → (bodyF 5 (xs.drop 4)).1 = 0 ∧ (bodyF 5 (xs.drop 4)).2.1 = ⟨5, [], [(false, (factF (xs.drop 4)).2.1, (factF (xs.drop 4)).2.2.1)], 0, []⟩ ∧ (bodyF 5 (xs.drop 4)).2.2 = xs.drop p') := fun h0 => by
        rw [body2 _ (by omega)]
        exact ⟨by rw [← hcd]; exact h0, rfl, (hrest h0).symm⟩
      obtain ⟨g, hg⟩ : ∃ g, g = W4.heap.size := ⟨_, rfl⟩
      have m1 : ¬ b6 = W4.heap.size := by omega
      have m2 : ¬ b2 = W4.heap.size := by omega
      have m10 : ¬ b10 = W4.heap.size := by omega
      clear hit hrest hcd hR4 hS4 q2 qf2 q6 qf6 q10 qf10
      dsimp only
      go_upto_region 26 with fail
      rw [← hg]
      refine wp_world (fun V => blk V b2 = some (reqE 0 none 0 0 none 0 0 0 none 0 0) ∧ free V b2 = true ∧ blk V b6 = some (reqE 5 none 0 0 (some ⟨g, 0, none⟩) 1 1 0 none 0 0) ∧ Hid (Rdr W br a n c p' V) ∧ Hid (cd = 0 → ReqOk V B 5 none 0 0 (some ⟨g, 0, none⟩) 1 1 0 none 0 0 ⟨5, [], [(false, (factF (xs.drop 4)).2.1, (factF (xs.drop 4)).2.2.1)], 0, []⟩)) ⟨?_, ?_, ?_, ?_, ?_⟩ ?_
      · rw [blk_put, if_neg e26, blk_alloc, if_neg (by rw [size_put]; exact m2), blk_put, if_neg e102]; exact v2
      · rw [free_put, free_alloc, if_neg (by rw [size_put]; exact m2), free_put]; exact vf2
      · rw [blk_put, if_pos rfl, blk_alloc, if_neg (by rw [size_put]; exact m1), blk_put, if_neg e106, v6]; rfl
      · obtain ⟨r1, r2, r3, r4, r5⟩ := HR4.out
        exact ⟨by rw [blk_put, if_neg (Ne.symm e6r), blk_alloc, if_neg (by rw [size_put]; omega), blk_put, if_neg (Ne.symm e10r)]; exact r1, by rw [free_put, free_alloc, if_neg (by rw [size_put]; omega), free_put]; exact r2, (Side.put (D := fun k => k = b6) (Side.refl _ _) rfl _).extends (extends_alloc ((Side.put (D := fun k => k = b10) (Side.refl _ _) rfl _).extends r3 (fun k hk => by omega)) _) (fun k hk => by omega), r4, r5⟩
      · intro h0
        obtain ⟨i1, i2⟩ := HIT.out h0
        refine ReqOk.put (b := b6) ⟨rfl, ownsNil _ _ _ _, ⟨[(false, pr, pa, pn, pc)], ⟨rfl, .inr ⟨g, 1, (itemE false pr pa pn pc).toArray, rfl, by omega, ?_, Nat.le_refl _, by simp only [maxLen]; omega, rfl, rfl⟩⟩, ⟨rfl, ?_⟩⟩, rfl, ownsNil _ _ _ _⟩ h6B
        · rw [heap_alloc, if_pos (by rw [size_put]; exact hg)]
        · intro j d it h1 h2
          have hj : j = 0 := by have := (List.getElem?_eq_some_iff.1 h1).1; simp at this; omega
          subst hj
          simp at h1 h2
          subst h1 h2
          refine ⟨rfl, i1, row_base (row_keep i2 (fun k hk => ?_)) (by omega)⟩
          have hk1 := (row_at i2 k hk).1
          have hk2 := (row_at i2 k hk).2.1
          rw [heap_alloc, if_neg (by rw [size_put]; omega), heap_put, if_neg (by omega)]
      clear v2 vf2 v6 vf6 HR4 v10 vf10 l6 l2 l10 lr HIT m1 m2 m10 hg hsz4
      rintro V ⟨v2, vf2, v6, HRv, HOk1⟩
      by_cases hcz : cd = 0
      · have HOk : Hid (ReqOk V B 5 none 0 0 (some ⟨g, 0, none⟩) 1 1 0 none 0 0 ⟨5, [], [(false, (factF (xs.drop 4)).2.1, (factF (xs.drop 4)).2.2.1)], 0, []⟩) := HOk1.out hcz
        have HBo : Hid ((bodyF 5 (xs.drop 4)).1 = 0 ∧ (bodyF 5 (xs.drop 4)).2.1 = ⟨5, [], [(false, (factF (xs.drop 4)).2.1, (factF (xs.drop 4)).2.2.1)], 0, []⟩ ∧ (bodyF 5 (xs.drop 4)).2.2 = xs.drop p') := HBo0.out hcz
        clear HBo0 HOk1 HBd
        subst hcz
        go_wp2_with fail
        refine (left_any V br a n c p' HRv.out.1 HRv.out.2.2.2.2 hn).mono ?_
        rintro e V9 ⟨rfl, k9, rfl⟩
        have hpn := HRv.out.2.2.2.2
        by_cases hpe : p' = n
        · have HQ : Hid (decF xs = (0, ⟨5, [], [(false, (factF (xs.drop 4)).2.1, (factF (xs.drop 4)).2.2.1)], 0, []⟩)) := by
            show _ = _
            rw [HDF.out, fin_ok HBo.out.1 (by rw [HBo.out.2.2, hpe]; exact List.drop_of_length_le (by omega)), HBo.out.2.1]
          have hl0 : ((n - p' : Nat) : Int) = 0 := by omega
          have HF : Hid (DecPost W (0, ⟨5, [], [(false, (factF (xs.drop 4)).2.1, (factF (xs.drop 4)).2.2.1)], 0, []⟩) (.returned (.tuple #[.agg (reqE 5 none 0 0 (some ⟨g, 0, none⟩) 1 1 0 none 0 0).toArray, .int .i64 0])) ((put V b2 (reqE 5 none 0 0 (some ⟨g, 0, none⟩) 1 1 0 none 0 0)).drewN k9)) := ⟨_, _, _, _, _, _, _, _, _, _, _, rfl, ((HOk.out.put h2B).base hWB).drewN _, extends_drewN ((Side.put (D := fun k => k = b2) (Side.refl _ _) rfl _).extends HRv.out.2.2.1 (fun k hk => by omega)) _⟩
          dsimp only
          go_wp2_with fail
          refine ret_cell_tmp (C := reqE 5 none 0 0 (some ⟨g, 0, none⟩) 1 1 0 none 0 0) rfl rfl rfl ?_ (by kernel_rfl) (by rw [rq_len]; kernel_rfl) rfl (by rw [HQ.out]; exact HF.out)
          first | (rw [blk_put, if_pos rfl, blk_drewN, v2]; rfl) | (rw [blk_drewN, blk_put, if_pos rfl, v2]; rfl)
        · have HQ : Hid (decF xs = (6, Rq.zero)) := by
            show _ = _
            rw [HDF.out, fin_trail HBo.out.1 (by rw [HBo.out.2.2]; intro h; have := congrArg List.length h; rw [List.length_drop] at this; simp at this; omega)]
          have hl0 : ¬ ((n - p' : Nat) : Int) = 0 := by omega
          dsimp only
          go_wp2_with fail
          refine ret_cell_tmp (C := reqE 0 none 0 0 none 0 0 0 none 0 0) rfl rfl rfl ?_ (by kernel_rfl) (by rw [rq_len]; kernel_rfl) rfl (by rw [HQ.out]; exact (HF0 _).out (by first | exact extends_drewN ((Side.put (D := fun k => k = b2) (Side.refl _ _) rfl _).extends HRv.out.2.2.1 (fun k hk => by omega)) _ | exact (Side.put (D := fun k => k = b2) (Side.refl _ _) rfl _).extends (extends_drewN HRv.out.2.2.1 _) (fun k hk => by omega)) 6)
          first | (rw [blk_put, if_pos rfl, blk_drewN, v2]; rfl) | (rw [blk_drewN, blk_put, if_pos rfl, v2]; rfl)
      · skip
        have HQ : Hid (decF xs = (cd, Rq.zero)) := by
          show _ = _
          rw [HDF.out, fin_bad (by rw [HBd.out]; exact hcz), HBd.out]
        go_wp2_with fail
        refine ret_cell_tmp (C := reqE 0 none 0 0 none 0 0 0 none 0 0) rfl rfl rfl ?_ (by kernel_rfl) (by rw [rq_len]; kernel_rfl) rfl (by rw [HQ.out]; exact (HF0 _).out ((Side.put (D := fun k => k = b2) (Side.refl _ _) rfl _).extends HRv.out.2.2.1 (fun k hk => by omega)) cd)
        rw [blk_put, if_pos rfl, v2]; rfl
    · have HDF : Hid (decF xs = finF (bodyF 4 (xs.drop 4))) := HDF.out
      have g6 : blk W2 b6 = some (reqE 4 none 0 0 none 0 0 0 none 0 0) := g6
      go_wp2_with fail
      refine (batch_any W W2 br a n c 4 HRd.out hn hnc hc xs HX.out).mono ?_
      rintro e W4 ⟨sa, sn, sc, rfl, hok, p', hR4, hS4, hrest⟩
      obtain ⟨cd, hcd⟩ : ∃ cd, cd = (batchF (xs.drop 4)).1 := ⟨_, rfl⟩
      rw [← hcd]
      rw [← hcd] at hok hrest
      have v2 : blk W4 b2 = some (reqE 0 none 0 0 none 0 0 0 none 0 0) := (hS4.blk (blk_lt g2) e2r).trans g2
      have vf2 : free W4 b2 = true := (free_of_heap (hS4.block b2 (blk_lt g2) e2r)).trans gf2
      have v6 : blk W4 b6 = some (reqE 4 none 0 0 none 0 0 0 none 0 0) := (hS4.blk (blk_lt g6) e6r).trans g6
      have vf6 : free W4 b6 = true := (free_of_heap (hS4.block b6 (blk_lt g6) e6r)).trans gf6
      have HR4 : Hid (Rdr W br a n c p' W4) := hR4
      have HOk0 : Hid (cd = 0 → ReqOk W4 B 4 none 0 0 sa sn sc 0 none 0 0 ⟨4, [], (batchF (xs.drop 4)).2.1, 0, []⟩) := fun h0 => by
        obtain ⟨K, h1, h2⟩ := hok h0
        exact ⟨rfl, ownsNil _ _ _ _, ⟨K, row_base h1 hBV, h2.base hBV⟩, rfl, ownsNil _ _ _ _⟩
      have HBd : Hid ((bodyF 4 (xs.drop 4)).1 = cd) := by show _ = _; rw [body4, hcd]
      have HBo0 : Hid (cd = 0 → (bodyF 4 (xs.drop 4)).1 = 0 ∧ (bodyF 4 (xs.drop 4)).2.1 = ⟨4, [], (batchF (xs.drop 4)).2.1, 0, []⟩ ∧ (bodyF 4 (xs.drop 4)).2.2 = xs.drop p') := fun h0 => by
        rw [body4]
        exact ⟨by rw [← hcd]; exact h0, rfl, (hrest h0).symm⟩
      clear hok hrest hcd hR4 hS4 g2 gf2 g6 gf6
      dsimp only
      go_upto_region 26 with fail
      refine wp_world (fun V => blk V b2 = some (reqE 0 none 0 0 none 0 0 0 none 0 0) ∧ free V b2 = true ∧ blk V b6 = some (reqE 4 none 0 0 sa sn sc 0 none 0 0) ∧ Hid (Rdr W br a n c p' V) ∧ Hid (cd = 0 → ReqOk V B 4 none 0 0 sa sn sc 0 none 0 0 ⟨4, [], (batchF (xs.drop 4)).2.1, 0, []⟩)) ⟨?_, ?_, ?_, ?_, ?_⟩ ?_
      · rw [blk_put, if_neg e26]; exact v2
      · rw [free_put]; exact vf2
      · rw [blk_put, if_pos rfl, v6]; rfl
      · obtain ⟨r1, r2, r3, r4, r5⟩ := HR4.out
        exact ⟨by rw [blk_put, if_neg (Ne.symm e6r)]; exact r1, by rw [free_put]; exact r2, (Side.put (D := fun k => k = b6) (Side.refl _ _) rfl _).extends r3 (fun k hk => by omega), r4, r5⟩
      · exact fun h0 => ReqOk.put (HOk0.out h0) h6B
      clear v2 vf2 v6 vf6 HR4 HOk0
      rintro V ⟨v2, vf2, v6, HRv, HOk1⟩
      by_cases hcz : cd = 0
      · have HOk : Hid (ReqOk V B 4 none 0 0 sa sn sc 0 none 0 0 ⟨4, [], (batchF (xs.drop 4)).2.1, 0, []⟩) := HOk1.out hcz
        have HBo : Hid ((bodyF 4 (xs.drop 4)).1 = 0 ∧ (bodyF 4 (xs.drop 4)).2.1 = ⟨4, [], (batchF (xs.drop 4)).2.1, 0, []⟩ ∧ (bodyF 4 (xs.drop 4)).2.2 = xs.drop p') := HBo0.out hcz
        clear HBo0 HOk1 HBd
        subst hcz
        go_wp2_with fail
        refine (left_any V br a n c p' HRv.out.1 HRv.out.2.2.2.2 hn).mono ?_
        rintro e V9 ⟨rfl, k9, rfl⟩
        have hpn := HRv.out.2.2.2.2
        by_cases hpe : p' = n
        · have HQ : Hid (decF xs = (0, ⟨4, [], (batchF (xs.drop 4)).2.1, 0, []⟩)) := by
            show _ = _
            rw [HDF.out, fin_ok HBo.out.1 (by rw [HBo.out.2.2, hpe]; exact List.drop_of_length_le (by omega)), HBo.out.2.1]
          have hl0 : ((n - p' : Nat) : Int) = 0 := by omega
          have HF : Hid (DecPost W (0, ⟨4, [], (batchF (xs.drop 4)).2.1, 0, []⟩) (.returned (.tuple #[.agg (reqE 4 none 0 0 sa sn sc 0 none 0 0).toArray, .int .i64 0])) ((put V b2 (reqE 4 none 0 0 sa sn sc 0 none 0 0)).drewN k9)) := ⟨_, _, _, _, _, _, _, _, _, _, _, rfl, ((HOk.out.put h2B).base hWB).drewN _, extends_drewN ((Side.put (D := fun k => k = b2) (Side.refl _ _) rfl _).extends HRv.out.2.2.1 (fun k hk => by omega)) _⟩
          dsimp only
          go_wp2_with fail
          refine ret_cell_tmp (C := reqE 4 none 0 0 sa sn sc 0 none 0 0) rfl rfl rfl ?_ (by kernel_rfl) (by rw [rq_len]; kernel_rfl) rfl (by rw [HQ.out]; exact HF.out)
          first | (rw [blk_put, if_pos rfl, blk_drewN, v2]; rfl) | (rw [blk_drewN, blk_put, if_pos rfl, v2]; rfl)
        · have HQ : Hid (decF xs = (6, Rq.zero)) := by
            show _ = _
            rw [HDF.out, fin_trail HBo.out.1 (by rw [HBo.out.2.2]; intro h; have := congrArg List.length h; rw [List.length_drop] at this; simp at this; omega)]
          have hl0 : ¬ ((n - p' : Nat) : Int) = 0 := by omega
          dsimp only
          go_wp2_with fail
          refine ret_cell_tmp (C := reqE 0 none 0 0 none 0 0 0 none 0 0) rfl rfl rfl ?_ (by kernel_rfl) (by rw [rq_len]; kernel_rfl) rfl (by rw [HQ.out]; exact (HF0 _).out (by first | exact extends_drewN ((Side.put (D := fun k => k = b2) (Side.refl _ _) rfl _).extends HRv.out.2.2.1 (fun k hk => by omega)) _ | exact (Side.put (D := fun k => k = b2) (Side.refl _ _) rfl _).extends (extends_drewN HRv.out.2.2.1 _) (fun k hk => by omega)) 6)
          first | (rw [blk_put, if_pos rfl, blk_drewN, v2]; rfl) | (rw [blk_drewN, blk_put, if_pos rfl, v2]; rfl)
      · skip
        have HQ : Hid (decF xs = (cd, Rq.zero)) := by
          show _ = _
          rw [HDF.out, fin_bad (by rw [HBd.out]; exact hcz), HBd.out]
        go_wp2_with fail
        refine ret_cell_tmp (C := reqE 0 none 0 0 none 0 0 0 none 0 0) rfl rfl rfl ?_ (by kernel_rfl) (by rw [rq_len]; kernel_rfl) rfl (by rw [HQ.out]; exact (HF0 _).out ((Side.put (D := fun k => k = b2) (Side.refl _ _) rfl _).extends HRv.out.2.2.1 (fun k hk => by omega)) cd)
        rw [blk_put, if_pos rfl, v2]; rfl
    · have HDF : Hid (decF xs = finF (bodyF 6 (xs.drop 4))) := HDF.out
      have g6 : blk W2 b6 = some (reqE 6 none 0 0 none 0 0 0 none 0 0) := g6
      by_cases hn4 : 4 = n
      · have HQ : Hid (decF xs = (5, Rq.zero)) := by
          show _ = _
          rw [HDF.out, List.drop_of_length_le (by omega), body6n]; rfl
        go_wp2_with fail
        refine (u8_none W W2 br a n c 4 HRd.out hn hnc hc xs HX.out hn4).mono ?_
        rintro e W4 ⟨rfl, hR4, hS4⟩
        have v2 : blk W4 b2 = some (reqE 0 none 0 0 none 0 0 0 none 0 0) := (hS4.blk (blk_lt g2) e2r).trans g2
        have vf2 : free W4 b2 = true := (free_of_heap (hS4.block b2 (blk_lt g2) e2r)).trans gf2
        have HE4 : Hid (W.Extends W4) := hR4.2.2.1
        clear hR4 hS4
        dsimp only
        go_wp2_with fail
        refine ret_cell_tmp (C := reqE 0 none 0 0 none 0 0 0 none 0 0) rfl rfl rfl ?_ (by kernel_rfl) (by rw [rq_len]; kernel_rfl) rfl (by rw [HQ.out]; exact (HF0 _).out ((Side.put (D := fun k => k = b2) (Side.refl _ _) rfl _).extends HE4.out (fun k hk => by omega)) 5)
        rw [blk_put, if_pos rfl, v2]; rfl
      obtain ⟨x, hx⟩ : ∃ x, xs[4]? = some x := ⟨_, List.getElem?_eq_getElem (by omega)⟩
      obtain ⟨pr, hpr⟩ : ∃ k, k = x.toNat := ⟨_, rfl⟩
      have HD : Hid (xs.drop 4 = x :: xs.drop 5) := drop_at hx
      have HXp : Hid (xs[4]? = some x ∧ pr = x.toNat) := ⟨hx, hpr⟩
      clear hx hpr
      go_wp2_with fail
      refine (u8_nat W W2 br a n c 4 HRd.out hn hnc hc xs HX.out x HXp.out.1 pr HXp.out.2).mono ?_
      rintro e W3 ⟨rfl, hR3, hS3⟩
      have q2 : blk W3 b2 = some (reqE 0 none 0 0 none 0 0 0 none 0 0) := (hS3.blk (blk_lt g2) e2r).trans g2
      have qf2 : free W3 b2 = true := (free_of_heap (hS3.block b2 (blk_lt g2) e2r)).trans gf2
      have q6 : blk W3 b6 = some (reqE 6 none 0 0 none 0 0 0 none 0 0) := (hS3.blk (blk_lt g6) e6r).trans g6
      have qf6 : free W3 b6 = true := (free_of_heap (hS3.block b6 (blk_lt g6) e6r)).trans gf6
      have HR3 : Hid (Rdr W br a n c 5 W3) := hR3
      have hB3 : B ≤ W3.heap.size := Nat.le_trans hBV hS3.size
      clear hR3 hS3 g2 gf2 g6 gf6 HRd
      dsimp only
      go_upto_region 25 with fail
      refine wp_world (fun V3 => blk V3 b2 = some (reqE 0 none 0 0 none 0 0 0 none 0 0) ∧ free V3 b2 = true ∧ blk V3 b6 = some (reqE 6 none 0 0 none 0 0 (pr : Int) none 0 0) ∧ free V3 b6 = true ∧ Hid (Rdr W br a n c 5 V3) ∧ B ≤ V3.heap.size) ⟨?_, ?_, ?_, ?_, ?_, ?_⟩ ?_
      · rw [blk_put, if_neg e26]; exact q2
      · rw [free_put]; exact qf2
      · rw [blk_put, if_pos rfl, q6]; rfl
      · rw [free_put]; exact qf6
      · obtain ⟨r1, r2, r3, r4, r5⟩ := HR3.out
        exact ⟨by rw [blk_put, if_neg (Ne.symm e6r)]; exact r1, by rw [free_put]; exact r2, (Side.put (D := fun k => k = b6) (Side.refl _ _) rfl _).extends r3 (fun k hk => by omega), r4, r5⟩
      · rw [size_put]; exact hB3
      clear q2 qf2 q6 qf6 HR3 hB3
      rintro V3 ⟨q2, qf2, q6, qf6, HR3, hB3⟩
      go_wp2_with fail
      refine (slots_any W V3 br a n c 5 HR3.out hn hnc hc xs HX.out).mono ?_
      rintro e W4 ⟨sa, sn, sc, rfl, hok, p', hR4, hS4, hrest⟩
      obtain ⟨cd, hcd⟩ : ∃ cd, cd = (slotsF (xs.drop 5)).1 := ⟨_, rfl⟩
      rw [← hcd]
      rw [← hcd] at hok hrest
      have v2 : blk W4 b2 = some (reqE 0 none 0 0 none 0 0 0 none 0 0) := (hS4.blk (blk_lt q2) e2r).trans q2
      have vf2 : free W4 b2 = true := (free_of_heap (hS4.block b2 (blk_lt q2) e2r)).trans qf2
      have v6 : blk W4 b6 = some (reqE 6 none 0 0 none 0 0 (pr : Int) none 0 0) := (hS4.blk (blk_lt q6) e6r).trans q6
      have vf6 : free W4 b6 = true := (free_of_heap (hS4.block b6 (blk_lt q6) e6r)).trans qf6
      have HR4 : Hid (Rdr W br a n c p' W4) := hR4
      have HOk0 : Hid (cd = 0 → ReqOk W4 B 6 none 0 0 none 0 0 (pr : Int) sa sn sc ⟨6, [], [], (pr : Int), (slotsF (xs.drop 5)).2.1⟩) := fun h0 => ⟨rfl, ownsNil _ _ _ _, ⟨[], ownsNil _ _ _ _, ⟨rfl, fun i d it h => by simp at h⟩⟩, rfl, row_base (hok h0) hB3⟩
      have HBd : Hid ((bodyF 6 (xs.drop 4)).1 = cd) := by show _ = _; rw [HD.out, body6c, hcd]
      have HBo0 : Hid (cd = 0 → (bodyF 6 (xs.drop 4)).1 = 0 ∧ (bodyF 6 (xs.drop 4)).2.1 = ⟨6, [], [], (pr : Int), (slotsF (xs.drop 5)).2.1⟩ ∧ (bodyF 6 (xs.drop 4)).2.2 = xs.drop p') := fun h0 => by
        rw [HD.out, body6c, ← HXp.out.2]
        exact ⟨by rw [← hcd]; exact h0, rfl, (hrest h0).symm⟩
      clear hok hrest hcd hR4 hS4 q2 qf2 q6 qf6 HR3
      dsimp only
      go_upto_region 26 with fail
      refine wp_world (fun V => blk V b2 = some (reqE 0 none 0 0 none 0 0 0 none 0 0) ∧ free V b2 = true ∧ blk V b6 = some (reqE 6 none 0 0 none 0 0 (pr : Int) sa sn sc) ∧ Hid (Rdr W br a n c p' V) ∧ Hid (cd = 0 → ReqOk V B 6 none 0 0 none 0 0 (pr : Int) sa sn sc ⟨6, [], [], (pr : Int), (slotsF (xs.drop 5)).2.1⟩)) ⟨?_, ?_, ?_, ?_, ?_⟩ ?_
      · rw [blk_put, if_neg e26]; exact v2
      · rw [free_put]; exact vf2
      · rw [blk_put, if_pos rfl, v6]; rfl
      · obtain ⟨r1, r2, r3, r4, r5⟩ := HR4.out
        exact ⟨by rw [blk_put, if_neg (Ne.symm e6r)]; exact r1, by rw [free_put]; exact r2, (Side.put (D := fun k => k = b6) (Side.refl _ _) rfl _).extends r3 (fun k hk => by omega), r4, r5⟩
      · exact fun h0 => ReqOk.put (HOk0.out h0) h6B
      clear v2 vf2 v6 vf6 HR4 HOk0
      rintro V ⟨v2, vf2, v6, HRv, HOk1⟩
      by_cases hcz : cd = 0
      · have HOk : Hid (ReqOk V B 6 none 0 0 none 0 0 (pr : Int) sa sn sc ⟨6, [], [], (pr : Int), (slotsF (xs.drop 5)).2.1⟩) := HOk1.out hcz
        have HBo : Hid ((bodyF 6 (xs.drop 4)).1 = 0 ∧ (bodyF 6 (xs.drop 4)).2.1 = ⟨6, [], [], (pr : Int), (slotsF (xs.drop 5)).2.1⟩ ∧ (bodyF 6 (xs.drop 4)).2.2 = xs.drop p') := HBo0.out hcz
        clear HBo0 HOk1 HBd
        subst hcz
        go_wp2_with fail
        refine (left_any V br a n c p' HRv.out.1 HRv.out.2.2.2.2 hn).mono ?_
        rintro e V9 ⟨rfl, k9, rfl⟩
        have hpn := HRv.out.2.2.2.2
        by_cases hpe : p' = n
        · have HQ : Hid (decF xs = (0, ⟨6, [], [], (pr : Int), (slotsF (xs.drop 5)).2.1⟩)) := by
            show _ = _
            rw [HDF.out, fin_ok HBo.out.1 (by rw [HBo.out.2.2, hpe]; exact List.drop_of_length_le (by omega)), HBo.out.2.1]
          have hl0 : ((n - p' : Nat) : Int) = 0 := by omega
          have HF : Hid (DecPost W (0, ⟨6, [], [], (pr : Int), (slotsF (xs.drop 5)).2.1⟩) (.returned (.tuple #[.agg (reqE 6 none 0 0 none 0 0 (pr : Int) sa sn sc).toArray, .int .i64 0])) ((put V b2 (reqE 6 none 0 0 none 0 0 (pr : Int) sa sn sc)).drewN k9)) := ⟨_, _, _, _, _, _, _, _, _, _, _, rfl, ((HOk.out.put h2B).base hWB).drewN _, extends_drewN ((Side.put (D := fun k => k = b2) (Side.refl _ _) rfl _).extends HRv.out.2.2.1 (fun k hk => by omega)) _⟩
          dsimp only
          go_wp2_with fail
          refine ret_cell_tmp (C := reqE 6 none 0 0 none 0 0 (pr : Int) sa sn sc) rfl rfl rfl ?_ (by kernel_rfl) (by rw [rq_len]; kernel_rfl) rfl (by rw [HQ.out]; exact HF.out)
          first | (rw [blk_put, if_pos rfl, blk_drewN, v2]; rfl) | (rw [blk_drewN, blk_put, if_pos rfl, v2]; rfl)
        · have HQ : Hid (decF xs = (6, Rq.zero)) := by
            show _ = _
            rw [HDF.out, fin_trail HBo.out.1 (by rw [HBo.out.2.2]; intro h; have := congrArg List.length h; rw [List.length_drop] at this; simp at this; omega)]
          have hl0 : ¬ ((n - p' : Nat) : Int) = 0 := by omega
          dsimp only
          go_wp2_with fail
          refine ret_cell_tmp (C := reqE 0 none 0 0 none 0 0 0 none 0 0) rfl rfl rfl ?_ (by kernel_rfl) (by rw [rq_len]; kernel_rfl) rfl (by rw [HQ.out]; exact (HF0 _).out (by first | exact extends_drewN ((Side.put (D := fun k => k = b2) (Side.refl _ _) rfl _).extends HRv.out.2.2.1 (fun k hk => by omega)) _ | exact (Side.put (D := fun k => k = b2) (Side.refl _ _) rfl _).extends (extends_drewN HRv.out.2.2.1 _) (fun k hk => by omega)) 6)
          first | (rw [blk_put, if_pos rfl, blk_drewN, v2]; rfl) | (rw [blk_drewN, blk_put, if_pos rfl, v2]; rfl)
      · skip
        have HQ : Hid (decF xs = (cd, Rq.zero)) := by
          show _ = _
          rw [HDF.out, fin_bad (by rw [HBd.out]; exact hcz), HBd.out]
        go_wp2_with fail
        refine ret_cell_tmp (C := reqE 0 none 0 0 none 0 0 0 none 0 0) rfl rfl rfl ?_ (by kernel_rfl) (by rw [rq_len]; kernel_rfl) rfl (by rw [HQ.out]; exact (HF0 _).out ((Side.put (D := fun k => k = b2) (Side.refl _ _) rfl _).extends HRv.out.2.2.1 (fun k hk => by omega)) cd)
        rw [blk_put, if_pos rfl, v2]; rfl
  · have HQ : Hid (decF xs = (cd, Rq.zero)) := by
      show _ = _
      unfold decF
      rw [if_pos (by rw [← hcd]; exact hz), ← hcd]
    clear hcd hkd
    dsimp only
    go_wp2_with fail
    refine ret_cell_tmp (C := reqE 0 none 0 0 none 0 0 0 none 0 0) rfl rfl rfl ?_ (by kernel_rfl) (by rw [rq_len]; kernel_rfl) rfl (by rw [HQ.out]; exact (HF0 _).out (by first | exact extends_drewN ((Side.put (D := fun k => k = b2) (Side.refl _ _) rfl _).extends HX0.out (fun k hk => by omega)) _ | exact (Side.put (D := fun k => k = b2) (Side.refl _ _) rfl _).extends (extends_drewN HX0.out _) (fun k hk => by omega)) cd)
    first | (rw [blk_put, if_pos rfl, blk_drewN, h2]; rfl) | (rw [blk_drewN, blk_put, if_pos rfl, h2]; rfl)
end Go.Proofs.Qxb6500787aGreat
