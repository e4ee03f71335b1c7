
import Derived.Test.Qxb6500787aGreatRd
import Derived.StillTailTactics
import Derived.Deep.QuietTactic
import Derived.BigQuiet
import Derived.Deep.RegionHeld
import Derived.Deep.CutRange
import Derived.Laws.ResultCell
import Derived.Laws.Rows
import Derived.DeepKeys
import Derived.DataBytes
import Derived.Laws.StructEq
import Derived.Laws.AppendOwn
import Derived.Laws.MakeOwn
set_option linter.unusedSimpArgs false
set_option linter.unusedVariables false
namespace Go.Proofs.Qxb6500787aGreat
open Go.RowKit Go.Blk
attribute [local go_sem ↓] execOp_load execOp_store execOp_alloc
attribute [local go_sem] Tryz.ld26 Tryz.st26 Tryz.ld27 Tryz.st27 Tryz.ld28 Tryz.st28 Tryz.ld3 Tryz.st3 Tryz.ld29 Tryz.st29 Tryz.ld4 Tryz.st4 Tryz.ld50 Tryz.st50 Tryz.ld68 Tryz.st68 Tryz.ld9 Tryz.st9 Tryz.ld2 Tryz.st2 Tryz.ld5 Tryz.st5 Tryz.ld12 Tryz.st12 Tryz.ld21 Tryz.st21 Tryz.ld22 Tryz.st22 Tryz.ld24 Tryz.st24 Tryz.ld32 Tryz.st32 Tryz.ld40 Tryz.st40 Tryz.ld44 Tryz.st44 Tryz.ld49 Tryz.st49 Tryz.ld58 Tryz.st58 Tryz.ld97 Tryz.st97 Tryz.ld101 Tryz.st101 Tryz.ld116 Tryz.st116 Tryz.ld121 Tryz.st121 Tryz.ld135 Tryz.st135 Tryz.ld136 Tryz.st136 Tryz.ld138 Tryz.st138 Tryz.ld139 Tryz.st139 Tryz.ld142 Tryz.st142 Tryz.ld143 Tryz.st143 Tryz.ld146 Tryz.st146 Tryz.ld148 Tryz.st148 Tryz.ld154 Tryz.st154 Tryz.ld159 Tryz.st159 Tryz.ld173 Tryz.st173 Tryz.ld183 Tryz.st183 Tryz.ld184 Tryz.st184 Tryz.ld187 Tryz.st187 Tryz.ld192 Tryz.st192 Tryz.ld195 Tryz.st195 Tryz.ld217 Tryz.st217 Tryz.ld222 Tryz.st222 Tryz.ld241 Tryz.st241 Tryz.ld248 Tryz.st248 Tryz.ld268 Tryz.st268 Tryz.ld272 Tryz.st272 Tryz.ld129 Tryz.st129 Tryz.ld31 Tryz.st31 Tryz.ld52 Tryz.st52 Tryz.ld70 Tryz.st70 Tryz.ld74 Tryz.st74 Tryz.ld93 Tryz.st93 Tryz.al129 Tryz.al31 Tryz.al52 Tryz.al70 Tryz.al74 Tryz.al93
attribute [local go_sem] Request.length_enc Request.ok_enc Request.all_get Request.all_set Request.kind_get Request.kind_set Request.blob_get Request.blob_set Request.items_get Request.items_set Request.pred_get Request.pred_set Request.slots_get Request.slots_set Item.length_enc Item.ok_enc Item.all_get Item.all_set Item.del_get Item.del_set Item.pred_get Item.pred_set Item.args_get Item.args_set GOp.length_enc GOp.ok_enc GOp.all_get GOp.all_set GOp.kind_get GOp.kind_set GOp.raw_get GOp.raw_set Reader.length_enc Reader.ok_enc Reader.all_get Reader.all_set Reader.buf_get Reader.buf_set Reader.at__get Reader.at__set Slot.length_enc Slot.ok_enc Slot.all_get Slot.all_set Slot.bound_get Slot.bound_set Slot.name_get Slot.name_set
attribute [local go_sem] size_put size_ext blk_put free_put blk_alloc free_alloc blk_drew free_drew blk_ext free_ext lookOr_some putOr_some segAt_some cellAt_some storeIn_some put_put put_alloc_new length_arr ok_arr_u8 ok_arr_u32 ok_arr_u64 ok_arr_i64 ok_arr_sl cellsV_agg cellsV_int cellsV_bool cellsV_string cellsV_pointer cellsV_slice cellsV_sl ok_int ok_bool ok_string ok_pointer ok_slice ok_sl toList_arr seg_arr set_arr nth_splice nth_splice0 seg_splice seg_splice0 splice_splice splice_splice0 length_splice_if
attribute [local go_sem ↓] execOp_box
attribute [local go_sem] box_run nth_arr_u8 put_arr_u8 blk_drewN free_drewN put_drewN blk_raw free_raw
set_option maxRecDepth 100000 in
theorem frame53 (f : Nat → Value) : frameN 53 f = #[f 0, f 1, f 2, f 3, f 4, f 5, f 6, f 7, f 8, f 9, f 10, f 11, f 12, f 13, f 14, f 15, f 16, f 17, f 18, f 19, f 20, f 21, f 22, f 23, f 24, f 25, f 26, f 27, f 28, f 29, f 30, f 31, f 32, f 33, f 34, f 35, f 36, f 37, f 38, f 39, f 40, f 41, f 42, f 43, f 44, f 45, f 46, f 47, f 48, f 49, f 50, f 51, f 52] := by kernel_rfl
attribute [local go_sem] rd_len rd0 rd1 rd_set1 it_len it0 it1 it2 it_set0 it_set2 it_all it_put it_put2 it_ok build52z build52p bslice50
attribute [local go_sem ↓] execOp_slice execOp_convert execOp_build execOp_bslice
theorem u8_nat (w0 W : World) (br : Nat) (a : Option Addr) (n c p : Nat) (hR : Rdr w0 br a n c p W) (hn : n ≤ 65536) (hnc : n ≤ c) (hc : c ≤ 9223372036854775807) (xs : List UInt8) (hX : Bs w0 a n xs) (x : UInt8) (hx : xs[p]? = some x) (k : Nat) (hk : k = x.toNat) : Calls Tryz.prog 82 #[.pointer (some ⟨br, 0, none⟩)] W fun e W' => e = .returned (.tuple #[.int .i64 (k : Int), .bool true]) ∧ Rdr w0 br a n c (p + 1) W' ∧ Side (isR br) W W' := by
  have h := u8_some w0 W br a n c p hR hn hnc hc xs hX x hx
  rw [show w8 x = (k : Int) by unfold w8; rw [hk]] at h
  exact h
set_option maxRecDepth 20000 in
set_option maxHeartbeats 2000000 in
theorem fact_any (w0 W : World) (br : Nat) (a : Option Addr) (n c p : Nat) (hR : Rdr w0 br a n c p W) (hn : n ≤ 65536) (hnc : n ≤ c) (hc : c ≤ 9223372036854775807) (xs : List UInt8) (hX : Bs w0 a n xs) : Calls Tryz.prog 96 #[.pointer (some ⟨br, 0, none⟩)] W (FactPost w0 br a n c xs W (factF (xs.drop p))) := by
  have HR : Hid (Rdr w0 br a n c p W) := hR
  have HX : Hid (Bs w0 a n xs) := hX
  have hpn : p ≤ n := hR.2.2.2.2
  have hxl := hX.1
  have hbr := blk_lt hR.1
  clear hR hX
  go_enter Tryz.func96, Tryz.ntmps96
  go_upto_region 1 with fail
  refine wp_world (fun W0 => blk W0 W.heap.size = some (itemE false 0 none 0 0) ∧ free W0 W.heap.size = true ∧ Hid (W.Extends W0)) ⟨?_, ?_, extends_alloc (ext_Ext (Ext.refl _)) _⟩ ?_
  · rw [blk_alloc, if_pos rfl]; rfl
  · rw [free_alloc, if_pos rfl]
  rintro W0 ⟨h2, hf2, HX0⟩
  obtain ⟨b2, hb2⟩ : ∃ b2, b2 = W.heap.size := ⟨_, rfl⟩
  rw [← hb2] at h2 hf2 ⊢
  have hW2 : W.heap.size ≤ b2 := by omega
  have n2 : ¬ b2 = br := by omega
  have HR0 : Hid (Rdr w0 br a n c p W0) := HR.out.ext HX0.out
  have HS0 : Hid (Side (isR br) W W0) := Side.of_extends HX0.out
  clear hb2
  by_cases hp : p = n
  · have hq : factF (xs.drop p) = (5, 0, [], []) := by rw [List.drop_of_length_le (by omega)]; rfl
    have HQ : Hid (factF (xs.drop p) = (5, 0, [], [])) := hq
    clear hq
    go_wp2_with fail
    refine (u8_none w0 W0 br a n c p HR0.out hn hnc hc xs HX.out hp).mono ?_
    rintro e W1 ⟨rfl, g1, g2⟩
    have hz : blk W1 b2 = some (itemE false 0 none 0 0) := (g2.blk (blk_lt h2) n2).trans h2
    have hfz : free W1 b2 = true := (free_of_heap (g2.block b2 (blk_lt h2) n2)).trans hf2
    have HF : Hid (RPost w0 br a n c xs W 5 [] (put W1 b2 (itemE false 0 none 0 0))) := by
      refine ⟨p, ?_, (HS0.out.trans g2).put_new hW2 _, fun h => absurd h (by decide)⟩
      have := g1.ext (W' := put W1 b2 (itemE false 0 none 0 0)) (by rw [put_same hz]; exact ext_Ext (Ext.refl _))
      exact this
    clear g1 g2
    dsimp only
    go_wp2_with fail
    refine ret_cell_tmp (C := itemE false 0 none 0 0) rfl rfl rfl ?_ (by kernel_rfl) (by rw [it_len]; kernel_rfl) rfl (by rw [HQ.out]; exact ⟨0, none, 0, 0, rfl, fun h => absurd h (by decide), HF.out⟩)
    rw [blk_put, if_pos rfl, hz]; rfl
  obtain ⟨x, hx⟩ : ∃ x, xs[p]? = some x := ⟨_, List.getElem?_eq_getElem (by omega)⟩
  obtain ⟨pr, hpr⟩ : ∃ k, k = x.toNat := ⟨_, rfl⟩
  have HD : Hid (xs.drop p = x :: xs.drop (p + 1)) := drop_at hx
  have HXp : Hid (xs[p]? = some x ∧ pr = x.toNat) := ⟨hx, hpr⟩
  clear hx hpr
  go_wp2_with fail
  refine (u8_nat w0 W0 br a n c p HR0.out hn hnc hc xs HX.out x HXp.out.1 pr HXp.out.2).mono ?_
  rintro e W1 ⟨rfl, g1, g2⟩
  have HR1 : Hid (Rdr w0 br a n c (p + 1) W1) := g1
  have HS1 : Hid (Side (isR br) W W1) := HS0.out.trans g2
  have h21 : blk W1 b2 = some (itemE false 0 none 0 0) := (g2.blk (blk_lt h2) n2).trans h2
  have hf21 : free W1 b2 = true := (free_of_heap (g2.block b2 (blk_lt h2) n2)).trans hf2
  clear g1 g2 h2 hf2 HR0 HS0 HX0
  dsimp only
  by_cases hp1 : p + 1 = n
  · have HQ : Hid (factF (xs.drop p) = (5, 0, [], [])) := by
      show _ = _
      rw [HD.out, List.drop_of_length_le (by omega)]; rfl
    go_wp2_with fail
    refine (u8_none w0 W1 br a n c (p + 1) HR1.out hn hnc hc xs HX.out hp1).mono ?_
    rintro e W2 ⟨rfl, g1, g2⟩
    have hz2 : blk W2 b2 = some (itemE false 0 none 0 0) := (g2.blk (blk_lt h21) n2).trans h21
    have hfz2 : free W2 b2 = true := (free_of_heap (g2.block b2 (blk_lt h21) n2)).trans hf21
    have HF : Hid (RPost w0 br a n c xs W 5 [] (put W2 b2 (itemE false 0 none 0 0))) := by
      refine ⟨p + 1, ?_, (HS1.out.trans g2).put_new hW2 _, fun h => absurd h (by decide)⟩
      exact Rdr.ext (W' := put W2 b2 (itemE false 0 none 0 0)) (g1) (by rw [put_same hz2]; exact ext_Ext (Ext.refl _))
    clear g1 g2
    try dsimp only
    go_wp2_with fail
    refine ret_cell_tmp (C := itemE false 0 none 0 0) rfl rfl rfl ?_ (by kernel_rfl) (by rw [it_len]; kernel_rfl) rfl (by rw [HQ.out]; exact ⟨0, none, 0, 0, rfl, fun h => absurd h (by decide), HF.out⟩)
    rw [blk_put, if_pos rfl, hz2]; rfl
  obtain ⟨x2, hx2⟩ : ∃ x, xs[p + 1]? = some x := ⟨_, List.getElem?_eq_getElem (by omega)⟩
  obtain ⟨k, hk⟩ : ∃ k, k = x2.toNat := ⟨_, rfl⟩
  have HD2 : Hid (xs.drop p = x :: x2 :: xs.drop (p + 2)) := by show _ = _; rw [HD.out, drop_at hx2]
  have HX2 : Hid (xs[p + 1]? = some x2 ∧ k = x2.toNat) := ⟨hx2, hk⟩
  clear hx2 hk
  go_wp2_with fail
  refine (u8_nat w0 W1 br a n c (p + 1) HR1.out hn hnc hc xs HX.out x2 HX2.out.1 k HX2.out.2).mono ?_
  rintro e W2 ⟨rfl, g1, g2⟩
  have HR2 : Hid (Rdr w0 br a n c (p + 2) W2) := g1
  have HS2 : Hid (Side (isR br) W W2) := HS1.out.trans g2
  have h22 : blk W2 b2 = some (itemE false 0 none 0 0) := (g2.blk (blk_lt h21) n2).trans h21
  have hf22 : free W2 b2 = true := (free_of_heap (g2.block b2 (blk_lt h21) n2)).trans hf21
  clear g1 g2 h21 hf21 HR1 HS1
  dsimp only
  by_cases h4 : (4 : Int) < (k : Int)
  · have HQ : Hid (factF (xs.drop p) = (8, 0, [], [])) := by
      show _ = _
      rw [HD2.out, factF_cons, if_pos (by rw [← HX2.out.2]; omega)]
    have hz3 : blk W2 b2 = some (itemE false 0 none 0 0) := h22
    have hfz3 : free W2 b2 = true := hf22
    have HF : Hid (RPost w0 br a n c xs W 8 [] (put W2 b2 (itemE false 0 none 0 0))) := by
      refine ⟨p + 2, ?_, (HS2.out).put_new hW2 _, fun h => absurd h (by decide)⟩
      exact Rdr.ext (W' := put W2 b2 (itemE false 0 none 0 0)) (HR2.out) (by rw [put_same hz3]; exact ext_Ext (Ext.refl _))
    clear HR2 HS2
    try dsimp only
    go_wp2_with fail
    refine ret_cell_tmp (C := itemE false 0 none 0 0) rfl rfl rfl ?_ (by kernel_rfl) (by rw [it_len]; kernel_rfl) rfl (by rw [HQ.out]; exact ⟨0, none, 0, 0, rfl, fun h => absurd h (by decide), HF.out⟩)
    rw [blk_put, if_pos rfl, hz3]; rfl
  obtain ⟨tot, htot⟩ : ∃ tot, tot = goN k [] (xs.drop (p + 2)) := ⟨_, rfl⟩
  have HQ0 : Hid (factF (xs.drop p) = if tot.1 = 0 then (0, (pr : Int), tot.2.1, tot.2.2) else (tot.1, 0, [], [])) := by
    show _ = _
    rw [HD2.out, factF_cons, if_neg (by rw [← HX2.out.2]; omega), ← HX2.out.2, ← htot, HXp.out.2]
  have HTOT : Hid (goN k [] (xs.drop (p + 2)) = tot) := htot.symm
  clear htot
  have lb2 := blk_lt h22
  have n22 : ¬ b2 = W2.heap.size := by omega
  go_upto_region 10 with fail
  refine wp_world (fun W3 => blk W3 W2.heap.size = some (itemE false (pr : Int) none 0 0) ∧ free W3 W2.heap.size = true ∧ W3.heap.size = W2.heap.size + 1 ∧ Hid (W2.Extends W3)) ⟨?_, ?_, ?_, ?_⟩ ?_
  · first | (rw [blk_put, if_pos rfl, blk_alloc, if_pos rfl]; rfl) | (rw [blk_alloc, if_pos rfl])
  · first | (rw [free_put, free_alloc, if_pos rfl]) | (rw [free_alloc, if_pos rfl])
  · first | (rw [size_put, World.size_alloc]) | (rw [World.size_alloc])
  · first | exact extends_alloc (ext_Ext (Ext.refl _)) _ | exact (Side.put (D := fun k => k = W2.heap.size) (Side.refl _ _) rfl _).extends (extends_alloc (ext_Ext (Ext.refl _)) _) (fun k hk => by omega)
  rintro W3 ⟨h7, hf7, hsz, HX3⟩
  obtain ⟨b7, hb7⟩ : ∃ b7, b7 = W2.heap.size := ⟨_, rfl⟩
  rw [← hb7] at h7 hf7 ⊢
  have hW7 : W.heap.size ≤ b7 := by have := HS2.out.size; omega
  obtain ⟨B, hB⟩ : ∃ B, B = W3.heap.size := ⟨_, rfl⟩
  have h7B : b7 < B := by omega
  have h2B : b2 < B := by omega
  have hrB : br < B := by have := HS2.out.size; omega
  have n7 : ¬ b7 = br := by have := HS2.out.size; omega
  have n27 : ¬ b2 = b7 := by omega
  have hWB : W.heap.size ≤ B := by omega
  have H0 : Hid (FQ w0 W br b2 b7 B a n c xs (pr : Int) k tot none 0 0 0 [] (p + 2) W3) := ⟨(HX3.out.blk lb2).trans h22, (free_of_heap (HX3.out.block b2 lb2)).trans hf22, h7, hf7, rfl, ⟨rfl, .inl ⟨rfl, rfl⟩⟩, by omega, HR2.out.ext HX3.out, HS2.out.ext HX3.out, by omega, HTOT.out⟩
  clear h7 hf7 hsz HX3 hb7 hB h22 hf22 HR2 HS2 lb2 n22
  go_wp2_with fail
  refine wp_loop_f 53 (faI w0 W br b2 b7 B a n c xs (pr : Int) k tot) (fun f _ => k - (intOf (f 8)).toNat) rfl ?_ ?_
  · exact ⟨rfl, rfl, rfl, rfl, 0, none, 0, 0, [], p + 2, by omega, rfl, H0⟩
  clear H0
  intro F V hrel
  obtain ⟨f0, f2, f6, f7, i, a', n', c', K, p', hi, f8, HQi⟩ := hrel
  have H8 : Hid (F 8 = .int .i64 (i : Nat)) := f8
  rw [frame53, f0, f2, f6, f7, f8]
  clear f0 f2 f6 f7 f8
  by_cases hik : i < k
  · have hik' : (i : Int) < (k : Int) := by omega
    go_wp2_with fail
    refine (name_any w0 V br a n c p' HQi.out.2.2.2.2.2.2.2.1 hn hnc hc xs HX.out).mono ?_
    rintro e V1 ⟨rfl, p2, hR2, hS2, hrest⟩
    obtain ⟨h1, h2, h3, h4', h5, h6, h7, h8, h9, h10, h11⟩ := HQi.out
    obtain ⟨cd, hcd⟩ : ∃ cd, cd = (nameF (xs.drop p')).1 := ⟨_, rfl⟩
    obtain ⟨nm, hnm⟩ : ∃ nm, nm = (nameF (xs.drop p')).2.1 := ⟨_, rfl⟩
    rw [← hcd, ← hnm]
    rw [← hcd] at hrest
    have hz1 : blk V1 b2 = some (itemE false 0 none 0 0) := (hS2.blk (blk_lt h1) n2).trans h1
    have hfz1 : free V1 b2 = true := (free_of_heap (hS2.block b2 (blk_lt h1) n2)).trans h2
    have h71 : blk V1 b7 = some (itemE false (pr : Int) a' n' c') := (hS2.blk (blk_lt h3) n7).trans h3
    have hf71 : free V1 b7 = true := (free_of_heap (hS2.block b7 (blk_lt h3) n7)).trans h4'
    have hrow1 : V1.ownsRow B 9 1 (.slice a' n' c') K.length (K.flatMap encS) := row_keep h6 (fun k hk => hS2.block k (row_at h6 k hk).2.1 (fun e => by have := (row_at h6 k hk).1; have e' : k = br := e; omega))
    have hBV : B ≤ V1.heap.size := Nat.le_trans h10 hS2.size
    have HSV : Hid (Side (isR br) W V1) := h9.trans hS2
    have HRV : Hid (Rdr w0 br a n c p2 V1) := hR2
    by_cases hz : cd = 0
    · have hrest' : xs.drop p2 = (nameF (xs.drop p')).2.2 := hrest hz
      have hgo : goN (k - (i + 1)) (K ++ [nm]) (xs.drop p2) = tot := by
        rw [hrest', hnm, ← h11, show k - i = (k - (i + 1)) + 1 by omega, goN_ok (by rw [← hcd]; exact hz)]
      have HGO : Hid (goN (k - (i + 1)) (K ++ [nm]) (xs.drop p2) = tot) := hgo
      have lz := blk_lt hz1
      have l7 := blk_lt h71
      have lr := blk_lt hR2.1
      have hx1 : V1.Extends (V1.alloc (.cells (encS nm).toArray 9)) := extends_alloc (ext_Ext (Ext.refl _)) _
      have hsz1 : V1.heap.size ≤ (V1.alloc (.cells (encS nm).toArray 9)).heap.size := hx1.size
      obtain ⟨v', V3, hrun, ho, hg, _⟩ := appG encS 1 16 43 9 Tryz.underlying43 info9 encS_len encS_one (by omega) (by omega) B (V1.alloc (.cells (encS nm).toArray 9)) 43 (.slice a' n' c') K nm V1.heap.size 1 (row_keep hrow1 (fun k hk => hx1.block k (row_at hrow1 k hk).2.1)) ((blk_alloc _ _ _ _).trans (if_pos rfl)) (Nat.le_trans hBV hx1.size) (by omega)
      obtain ⟨a'', c'', rfl⟩ := row_val ho
      have hm1 : (K ++ [nm]).length = n' + 1 := by rw [List.length_append, List.length_singleton, h5]
      have hold : ∀ k, k < B → k < V1.heap.size → V3.heap[k]? = V1.heap[k]? := fun k hk hkV => (hg.block k (by omega) (fun e => by have := (row_at hrow1 k e.symm).1; omega)).trans (hx1.block k hkV)
      have h73 : blk V3 b7 = some (itemE false (pr : Int) a' n' c') := (blk_of_heap (hold b7 h7B l7)).trans h71
      have hf73 : free V3 b7 = true := (free_of_heap (hold b7 h7B l7)).trans hf71
      have hS3 : Side (isR br) W V3 := (HSV.out.ext hx1).grown hg (fun k hk => by have := (row_at hrow1 k hk).1; omega)
      have hR3 : Rdr w0 br a n c p2 (put V3 b7 (itemE false (pr : Int) a'' (n' + 1) c'')) := by
        obtain ⟨r1, r2, r3, r4, r5⟩ := HRV.out
        refine ⟨by rw [blk_put, if_neg (Ne.symm n7)]; exact (blk_of_heap (hold br hrB lr)).trans r1, by rw [free_put]; exact (free_of_heap (hold br hrB lr)).trans r2, ?_, r4, r5⟩
        have e1 : w0.Extends V3 := grown_ext (r3.trans hx1) hg (fun k hk => by have := (row_at hrow1 k hk).1; omega)
        exact (Side.put (D := fun k => k = b7) (Side.refl _ _) rfl _).extends e1 (fun k hk => by omega)
      rw [hm1] at hrun
      have HQ' : Hid (FQ w0 W br b2 b7 B a n c xs (pr : Int) k tot a'' (n' + 1) c'' (i + 1) (K ++ [nm]) p2 (put V3 b7 (itemE false (pr : Int) a'' (n' + 1) c''))) := by
        refine ⟨by rw [blk_put, if_neg n27]; exact (blk_of_heap (hold b2 h2B lz)).trans hz1, by rw [free_put]; exact (free_of_heap (hold b2 h2B lz)).trans hfz1, by rw [blk_put, if_pos rfl, h73]; rfl, by rw [free_put]; exact hf73, hm1.symm, ?_, by omega, hR3, hS3.put_new hW7 _, by rw [size_put]; exact Nat.le_trans (Nat.le_trans hBV hx1.size) hg.size, HGO.out⟩
        rw [← hm1]
        exact row_keep ho (fun k hk => by rw [heap_put, if_neg (fun e => by have := (row_at ho k hk).1; omega)])
      clear hR3 hS3 hold ho hg hx1 hsz1 hgo hrest' h1 h2 h3 h4' h5 h6 h8 h9 h10 h11 hrow1 hR2 hS2 hrest hz1 hfz1 HQi hcd hnm
      subst hz
      have n71 : ¬ b7 = V1.heap.size := by omega
      dsimp only
      go_wp2_with (at_builtin; refine wpList_append_run rfl _ _ 43 rfl _ _ _ _ rfl rfl hrun ?_)
      refine ⟨rfl, rfl, ⟨rfl, rfl, rfl, rfl, i + 1, a'', n' + 1, c'', K ++ [nm], p2, by omega, ?_, HQ'⟩, ?_⟩
      · show Value.int .i64 _ = _
        go_num
      · show k - (intOf (Value.int .i64 _)).toNat < k - (intOf (F 8)).toNat
        rw [H8.out]
        simp [intOf]; omega
    · have htot : tot = (cd, [], []) := by rw [← h11, show k - i = (k - (i + 1)) + 1 by omega, goN_bad (by rw [← hcd]; exact hz), ← hcd]
      have HQ : Hid (factF (xs.drop p) = (cd, 0, [], [])) := by
        show _ = _
        rw [HQ0.out, htot]
        exact if_neg hz
      have hzb : (cd == 0) = false := by simp [hz]
      clear h1 h2 h3 h4' h5 h6 h7 h8 h9 h10 h11 hrow1 hS2 hrest HQi hcd htot hR2 hnm
      have hz4 : blk V1 b2 = some (itemE false 0 none 0 0) := hz1
      have hfz4 : free V1 b2 = true := hfz1
      have HF : Hid (RPost w0 br a n c xs W cd [] (put V1 b2 (itemE false 0 none 0 0))) := by
        refine ⟨p2, ?_, (HSV.out).put_new hW2 _, fun h => absurd h (hz)⟩
        exact Rdr.ext (W' := put V1 b2 (itemE false 0 none 0 0)) (HRV.out) (by rw [put_same hz4]; exact ext_Ext (Ext.refl _))
      clear HSV HRV
      try dsimp only
      go_wp2_with fail
      refine ret_cell_tmp (C := itemE false 0 none 0 0) rfl rfl rfl ?_ (by kernel_rfl) (by rw [it_len]; kernel_rfl) rfl (by rw [HQ.out]; exact ⟨0, none, 0, 0, rfl, fun h => absurd h (hz), HF.out⟩)
      rw [blk_put, if_pos rfl, hz4]; rfl
  · obtain rfl : i = k := by omega
    obtain ⟨h1, h2, h3, h4', h5, h6, h7, h8, h9, h10, h11⟩ := HQi.out
    have htot : tot = (0, K, xs.drop p') := by rw [← h11, Nat.sub_self]; rfl
    have hik' : ¬ ((i : Int) < (i : Int)) := by omega
    have HQ : Hid (factF (xs.drop p) = (0, (pr : Int), K, xs.drop p')) := by
      show _ = _
      rw [HQ0.out, htot]
      rfl
    have HF : Hid (FactPost w0 br a n c xs W (0, (pr : Int), K, xs.drop p') (.returned (.tuple #[.agg (itemE false (pr : Int) a' n' c').toArray, .int .i64 0])) (put V b2 (itemE false (pr : Int) a' n' c'))) := by
      refine ⟨(pr : Int), a', n', c', rfl, fun _ => ⟨rfl, row_base (row_keep h6 (fun k hk => by rw [heap_put, if_neg (fun e => by have := (row_at h6 k hk).1; omega)])) hWB⟩, p', ?_, h9.put_new hW2 _, fun _ => rfl⟩
      obtain ⟨r1, r2, r3, r4, r5⟩ := h8
      exact ⟨by rw [blk_put, if_neg (Ne.symm n2)]; exact r1, by rw [free_put]; exact r2, (Side.put (D := fun k => k = b2) (Side.refl _ _) rfl _).extends r3 (fun k hk => by omega), r4, r5⟩
    clear h5 h6 h7 h8 h9 h10 h11 HQi htot
    go_wp2_with fail
    refine ret_cell_tmp (C := itemE false (pr : Int) a' n' c') rfl rfl rfl ?_ (by kernel_rfl) (by rw [it_len]; kernel_rfl) rfl (by rw [HQ.out]; exact HF.out)
    rw [blk_put, if_pos rfl, h1]; rfl
end Go.Proofs.Qxb6500787aGreat
