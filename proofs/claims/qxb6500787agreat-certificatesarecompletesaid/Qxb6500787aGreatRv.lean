
import Derived.Test.Qxb6500787aGreatRu
import Derived.StillTailTactics
import Derived.Deep.QuietTactic
import Derived.BigQuiet
import Derived.Deep.RegionHeld
import Derived.Deep.CutRange
import Derived.Laws.ResultCell
import Derived.Laws.Rows
import Derived.DeepKeys
import Derived.DataBytes
import Derived.Laws.StructEq
import Derived.Laws.AppendOwn
import Derived.Laws.MakeOwn
import Derived.Lib.AppendStr
set_option linter.unusedSimpArgs false
set_option linter.unusedVariables false
namespace Go.Proofs.Qxb6500787aGreat
open Go.RowKit Go.Blk
attribute [local go_sem ↓] execOp_load execOp_store execOp_alloc
attribute [local go_sem] Tryz.ld26 Tryz.st26 Tryz.ld27 Tryz.st27 Tryz.ld28 Tryz.st28 Tryz.ld3 Tryz.st3 Tryz.ld29 Tryz.st29 Tryz.ld4 Tryz.st4 Tryz.ld50 Tryz.st50 Tryz.ld68 Tryz.st68 Tryz.ld9 Tryz.st9 Tryz.ld2 Tryz.st2 Tryz.ld5 Tryz.st5 Tryz.ld12 Tryz.st12 Tryz.ld21 Tryz.st21 Tryz.ld22 Tryz.st22 Tryz.ld24 Tryz.st24 Tryz.ld32 Tryz.st32 Tryz.ld40 Tryz.st40 Tryz.ld44 Tryz.st44 Tryz.ld49 Tryz.st49 Tryz.ld58 Tryz.st58 Tryz.ld97 Tryz.st97 Tryz.ld101 Tryz.st101 Tryz.ld116 Tryz.st116 Tryz.ld121 Tryz.st121 Tryz.ld135 Tryz.st135 Tryz.ld136 Tryz.st136 Tryz.ld138 Tryz.st138 Tryz.ld139 Tryz.st139 Tryz.ld142 Tryz.st142 Tryz.ld143 Tryz.st143 Tryz.ld146 Tryz.st146 Tryz.ld148 Tryz.st148 Tryz.ld154 Tryz.st154 Tryz.ld159 Tryz.st159 Tryz.ld173 Tryz.st173 Tryz.ld183 Tryz.st183 Tryz.ld184 Tryz.st184 Tryz.ld187 Tryz.st187 Tryz.ld192 Tryz.st192 Tryz.ld195 Tryz.st195 Tryz.ld217 Tryz.st217 Tryz.ld222 Tryz.st222 Tryz.ld241 Tryz.st241 Tryz.ld248 Tryz.st248 Tryz.ld268 Tryz.st268 Tryz.ld272 Tryz.st272 Tryz.ld129 Tryz.st129 Tryz.ld31 Tryz.st31 Tryz.ld52 Tryz.st52 Tryz.ld70 Tryz.st70 Tryz.ld74 Tryz.st74 Tryz.ld93 Tryz.st93 Tryz.al129 Tryz.al31 Tryz.al52 Tryz.al70 Tryz.al74 Tryz.al93
attribute [local go_sem] Request.length_enc Request.ok_enc Request.all_get Request.all_set Request.kind_get Request.kind_set Request.blob_get Request.blob_set Request.items_get Request.items_set Request.pred_get Request.pred_set Request.slots_get Request.slots_set Item.length_enc Item.ok_enc Item.all_get Item.all_set Item.del_get Item.del_set Item.pred_get Item.pred_set Item.args_get Item.args_set GOp.length_enc GOp.ok_enc GOp.all_get GOp.all_set GOp.kind_get GOp.kind_set GOp.raw_get GOp.raw_set Reader.length_enc Reader.ok_enc Reader.all_get Reader.all_set Reader.buf_get Reader.buf_set Reader.at__get Reader.at__set Slot.length_enc Slot.ok_enc Slot.all_get Slot.all_set Slot.bound_get Slot.bound_set Slot.name_get Slot.name_set
attribute [local go_sem] size_put size_ext blk_put free_put blk_alloc free_alloc blk_drew free_drew blk_ext free_ext lookOr_some putOr_some segAt_some cellAt_some storeIn_some put_put put_alloc_new length_arr ok_arr_u8 ok_arr_u32 ok_arr_u64 ok_arr_i64 ok_arr_sl cellsV_agg cellsV_int cellsV_bool cellsV_string cellsV_pointer cellsV_slice cellsV_sl ok_int ok_bool ok_string ok_pointer ok_slice ok_sl toList_arr seg_arr set_arr nth_splice nth_splice0 seg_splice seg_splice0 splice_splice splice_splice0 length_splice_if
attribute [local go_sem ↓] execOp_box
attribute [local go_sem] box_run nth_arr_u8 put_arr_u8 blk_drewN free_drewN put_drewN blk_raw free_raw
theorem encSl_len {s : Slt} (h : SlV s) : (encSl s).length ≤ 66 := by
  unfold encSl
  split
  · have := encN_len (nm := s.2) h
    simp only [List.length_cons]; omega
  · simp
theorem flatS_len : ∀ (L : List Slt), (∀ it ∈ L, SlV it) → (L.flatMap encSl).length ≤ 66 * L.length
  | [], _ => by simp
  | it :: L, h => by
    have h1 := encSl_len (h it (List.mem_cons_self ..))
    have h2 := flatS_len L (fun x hx => h x (List.mem_cons_of_mem _ hx))
    rw [List.flatMap_cons, List.length_append, List.length_cons]
    omega
def PPq (w0 W0 : World) (zs : List UInt8) (L : List Slt) (a : Option Addr) (n c i : Nat) (W : World) : Prop := Ob w0 W a n c (zs ++ (L.take i).flatMap encSl) ∧ Nb W0 W
def ppI (w0 W0 : World) (zs : List UInt8) (L : List Slt) (ia : Option Addr) (iN ic : Nat) (f : Nat → Value) (W : World) : Prop := f 2 = .slice ia iN ic ∧ ∃ (i : Nat) (a : Option Addr) (n c : Nat), i ≤ iN ∧ f 8 = .int .i64 (i : Nat) ∧ f 0 = .slice a n c ∧ Hid (PPq w0 W0 zs L a n c i W)
attribute [local go_sem] bslice27a bslice27b it_len it0 it1 it2 it_set0 it_set2 it_all it_put it_put2 it_ok
attribute [local go_sem ↓] execOp_bslice
set_option maxRecDepth 20000 in
set_option maxHeartbeats 1000000 in
theorem putPattern_ok (w0 W : World) (a : Option Addr) (n c : Nat) (zs : List UInt8) (h : Ob w0 W a n c zs) (hl : zs.length ≤ 300000) (p : Nat) (hp : p ≤ 255) (ia : Option Addr) (iN ic : Nat) (L : List Slt) (hK : Rw encL 2 w0 ia iN L) (h32 : iN ≤ 4) (hV : ∀ it ∈ L, SlV it) :
    Calls Tryz.prog 115 #[.slice a n c, .int .i64 (p : Int), .slice ia iN ic] W (Put2Post w0 W (zs ++ encP p L)) := by
  have HO : Hid (Ob w0 W a n c zs) := h
  have HK : Hid (Rw encL 2 w0 ia iN L) := hK
  have HV : Hid (∀ it ∈ L, SlV it) := hV
  have hLn : L.length = iN := hK.1
  have HLN : Hid (L.length = iN) := hLn
  clear h hK hV
  go_enter Tryz.func115, Tryz.ntmps115
  have p0 : ¬ (p : Int) < 0 := by omega
  have p1 : ¬ (255 : Int) < (p : Int) := by omega
  have n4 : ¬ (4 : Int) < (iN : Int) := by omega
  have w1 : IntKind.u8.wrap (p : Int) = (p : Int) := by rw [IntKind.wrap_u8]; omega
  have w2 : IntKind.u8.wrap (iN : Int) = (iN : Int) := by rw [IntKind.wrap_u8]; omega
  obtain ⟨a1, c1, W1, hr1, ho1, hn1⟩ := ob_app HO.out (by omega) [UInt8.ofNat p, UInt8.ofNat iN] (by simp) (by simp) #[.int .u8 (p : Int), .int .u8 (iN : Int)] (by rw [u8_of2 _ _ hp (by omega)]) 2 rfl
  have HQ0 : Hid (PPq w0 W (zs ++ [UInt8.ofNat p, UInt8.ofNat iN]) L a1 (n + 2) c1 0 W1) := ⟨by rw [List.take_zero, List.flatMap_nil, List.append_nil]; exact ho1, hn1⟩
  have HZ : Hid (zs ++ encP p L = (zs ++ [UInt8.ofNat p, UInt8.ofNat iN]) ++ L.flatMap encSl) := by
    show _ = _
    unfold encP
    rw [hLn, List.append_assoc]; rfl
  obtain ⟨zz, hzz⟩ : ∃ zz, zz = zs ++ [UInt8.ofNat p, UInt8.ofNat iN] := ⟨_, rfl⟩
  have hzl : zz.length ≤ 310000 := by rw [hzz]; simp; omega
  rw [← hzz] at HQ0 HZ
  clear ho1 hn1 hzz hLn
  go_wp2_with (at_builtin; refine wpList_append_run rfl _ _ 31 rfl _ _ _ _ rfl rfl hr1 ?_)
  refine wp_loop_f 58 (ppI w0 W zz L ia iN ic) (fun f _ => iN - (intOf (f 8)).toNat) rfl ⟨rfl, 0, a1, n + 2, c1, by omega, rfl, rfl, HQ0⟩ ?_
  clear HQ0 hr1
  intro F V hrel
  obtain ⟨f2, i, a2, n2, c2, hi, f8, f0, HQi⟩ := hrel
  have H8 : Hid (F 8 = .int .i64 (i : Nat)) := f8
  rw [frame58, f2, f8, f0]
  clear f2 f8 f0
  by_cases hin : i < iN
  · have hin' : (i : Int) < (iN : Int) := by omega
    obtain ⟨d, b, C, hx, rfl, hC, hCl, u0⟩ := HK.out.at hin
    obtain ⟨bd, nm⟩ := d
    have hv : nm.length ≤ 64 := HV.out _ (List.mem_of_getElem? hx)
    have u1 : nth C (i * 2) = some (.bool bd) := by
      have := nth_in (j := 0) u0 (show nth (slotE bd nm) 0 = some (.bool bd) from rfl) (by omega)
      exact this
    have u2 : nth C (i * 2 + 1) = some (.string ⟨nm.toArray⟩) := by
      have := nth_in (j := 1) u0 (show nth (slotE bd nm) 1 = some (.string ⟨nm.toArray⟩) from rfl) (by omega)
      exact this
    have hCV : blk V b = some C := (HQi.out.1.2.1.blk (blk_lt hC)).trans hC
    have p0 : (0 : Int) ≤ (i : Int) := by omega
    have p2 : ((i : Int)).toNat = i := by omega
    have c3 : i * 2 + 2 ≤ C.length := by omega
    have c3a : i * 2 < C.length := by omega
    have c3b : i * 2 + 1 < C.length := by omega
    have HG : Hid (L[i]? = some (bd, nm)) := hx
    obtain ⟨s, hs⟩ : ∃ s : ByteArray, s = ⟨nm.toArray⟩ := ⟨_, rfl⟩
    obtain ⟨k, hk⟩ : ∃ k, k = nm.length := ⟨_, rfl⟩
    have hss : s.size = k := by rw [hs, hk]; simp [ByteArray.size]
    rw [← hs] at u2
    have hk64 : ¬ (64 : Int) < (k : Int) := by omega
    have HS : Hid (s = ⟨nm.toArray⟩) := hs
    have hln : (zz ++ (L.take i).flatMap encSl).length ≤ 350000 := by
      rw [List.length_append]
      have := flatS_len (L.take i) (fun nm hnm => HV.out nm (List.mem_of_mem_take hnm))
      have h4 : (L.take i).length ≤ 4 := by rw [List.length_take]; omega
      omega
    have bb : b < w0.heap.size := blk_lt hC
    have HC0 : Hid (blk w0 b = some C) := hC
    clear hC hx u0 hs hk
    cases bd
    · obtain ⟨a3, c3', W3, hr3, ho3, hn3⟩ := ob_app HQi.out.1 (by omega) [0] (by simp) (by simp) #[.int .u8 0] rfl 1 rfl
      have HQ' : Hid (PPq w0 W zz L a3 (n2 + 1) c3' (i + 1) W3) := by
        refine ⟨?_, HQi.out.2.trans hn3⟩
        rw [take_at HG.out, List.flatMap_append, ← List.append_assoc]
        exact ho3
      clear ho3 hn3
      go_wp2_with (at_builtin; refine wpList_append_run rfl _ _ 31 rfl _ _ _ _ rfl rfl hr3 ?_)
      refine ⟨rfl, rfl, ⟨rfl, i + 1, a3, n2 + 1, c3', by omega, ?_, rfl, HQ'⟩, ?_⟩
      · show Value.int .i64 _ = _
        go_num
      · show iN - (intOf (Value.int .i64 _)).toNat < iN - (intOf (F 8)).toNat
        rw [H8.out]
        simp [intOf]; omega
    · obtain ⟨a3, c3', W3, hr3, ho3, hn3⟩ := ob_app (HQi.out.1.ext (extends_drew (ext_Ext (Ext.refl V)))) (by omega) [1] (by simp) (by simp) #[.int .u8 1] rfl 1 rfl
      have HO3 : Hid (Ob w0 W3 a3 (n2 + 1) c3' (zz ++ (L.take i).flatMap encSl ++ [1])) := ho3
      have HN3 : Hid (Nb W W3) := HQi.out.2.trans ((Nb.of_extends (extends_drew (ext_Ext (Ext.refl V)))).trans hn3)
      have hC3 : blk W3 b = some C := (ho3.2.1.blk bb).trans HC0.out
      have hCA : blk (V.drew.alloc (.cells #[.int .u8 1] 5)) b = some C := by
        have lb := blk_lt hCV
        rw [blk_alloc, if_neg (by show ¬ b = V.heap.size; omega)]; exact hCV
      clear ho3 hn3
      go_upto_region 13 with fail
      refine wp_region_held_drew (S := fun W' => blk W' b = some C) (by kernel_rfl) hCV (fun hHeld => ?_)
      refine wpAnyH_take (i := 0) (oi := ⟨_, _, _, _, _, _⟩) (v := ?_) rfl (by kernel_rfl) (by kernel_rfl) (by kernel_rfl) (fun _ _ _ h => h) (Or.inl ⟨by rfl, ?_⟩) (by assumption) ?_
      rotate_left 1
      · intro W' hSw
        have hS1 := hSw
        go_simp
        try with_reducible rfl
      try simp only [Act.put, List.setIfInBounds_toArray, List.set_cons_zero, List.set_cons_succ]
      refine wpAnyH_take (i := 3) (oi := ⟨_, _, _, _, _, _⟩) (v := ?_) rfl (by kernel_rfl) (by kernel_rfl) (by kernel_rfl) (fun _ _ _ h => h) (Or.inl ⟨by rfl, ?_⟩) (by assumption) ?_
      rotate_left 1
      · intro W' hSw
        have hS1 := hSw
        go_simp
        try with_reducible rfl
      try simp only [Act.put, List.setIfInBounds_toArray, List.set_cons_zero, List.set_cons_succ]
      refine wpAnyH_take (i := 4) (oi := ⟨_, _, _, _, _, _⟩) (v := ?_) rfl (by kernel_rfl) (by kernel_rfl) (by kernel_rfl) (fun _ _ _ h => h) (Or.inl ⟨by rfl, ?_⟩) (by assumption) ?_
      rotate_left 1
      · intro W' hSw
        have hS1 := hSw
        go_simp
        try with_reducible rfl
      try simp only [Act.put, List.setIfInBounds_toArray, List.set_cons_zero, List.set_cons_succ]
      refine wpAnyH_take (i := 5) (oi := ⟨_, _, _, _, _, _⟩) (v := ?_) rfl (by kernel_rfl) (by kernel_rfl) (by kernel_rfl) (fun _ _ _ h => h) (Or.inl ⟨by rfl, ?_⟩) (by assumption) ?_
      rotate_left 1
      · intro W' hSw
        have hS1 := hSw
        go_simp
        try with_reducible rfl
      try simp only [Act.put, List.setIfInBounds_toArray, List.set_cons_zero, List.set_cons_succ]
      refine wpAnyH_take (i := 6) (oi := ⟨_, _, _, _, _, _⟩) (v := ?_) rfl (by kernel_rfl) (by kernel_rfl) (by kernel_rfl) (fun _ _ _ h => h) (Or.inl ⟨by rfl, ?_⟩) (by assumption) ?_
      rotate_left 1
      · intro W' hSw
        have hS1 := hSw
        go_simp
        try with_reducible rfl
      try simp only [Act.put, List.setIfInBounds_toArray, List.set_cons_zero, List.set_cons_succ]
      refine wpAnyH_take (i := 7) (oi := ⟨_, _, _, _, _, _⟩) (v := ?_) rfl (by kernel_rfl) (by kernel_rfl) (by kernel_rfl) (fun _ _ _ h => h) (Or.inl ⟨by rfl, ?_⟩) (by assumption) ?_
      rotate_left 1
      · intro W' hSw
        have hS1 := hSw
        go_simp
        try with_reducible rfl
      try simp only [Act.put, List.setIfInBounds_toArray, List.set_cons_zero, List.set_cons_succ]
      refine wpAnyH_ready (rs := [1]) (by kernel_rfl) (by simp) ?_
      refine AllReadyH.cons (o := ⟨_, _, _, _, _, _⟩) rfl (fun K' hK => ?_) AllReadyH.nil
      go_simp
      refine hK.out _ _ hCA (fun hHeld => ?_)
      clear hK K'
      try simp only [Act.put, List.setIfInBounds_toArray, List.set_cons_zero, List.set_cons_succ]
      refine wpAnyH_ready (rs := [2]) (by kernel_rfl) (by simp) ?_
      refine AllReadyH.cons (o := ⟨_, _, _, _, _, _⟩) rfl (fun K' hK => ?_) AllReadyH.nil
      refine wp_append_run _ _ 31 rfl _ _ _ _ rfl rfl hr3 ?_
      refine hK.out _ _ hC3 (fun hHeld => ?_)
      clear hK K'
      try simp only [Act.put, List.setIfInBounds_toArray, List.set_cons_zero, List.set_cons_succ]
      refine wpAnyH_ready (rs := [8]) (by kernel_rfl) (by simp) ?_
      refine AllReadyH.cons (o := ⟨_, _, _, _, _, _⟩) rfl (fun K' hK => ?_) AllReadyH.nil
      go_simp
      rw [HS.out]
      refine (putName_ok w0 W3 a3 (n2 + 1) c3' _ nm HO3.out (by rw [List.length_append, List.length_singleton]; omega) (by omega)).mono ?_
      rintro e V1 ⟨a4, n4', c4, rfl, ho4, hn4⟩
      have HQ' : Hid (PPq w0 W zz L a4 n4' c4 (i + 1) V1) := by
        refine ⟨?_, HN3.out.trans hn4⟩
        rw [take_at HG.out, List.flatMap_append, ← List.append_assoc]
        have : [((true, nm) : Slt)].flatMap encSl = 1 :: encN nm := by simp [encSl]
        rw [this]
        rw [List.append_assoc] at ho4
        exact ho4
      have hC4 : blk V1 b = some C := (ho4.2.1.blk bb).trans HC0.out
      clear ho4 hn4
      dsimp only
      refine hK.out _ _ hC4 (fun hHeld => ?_)
      clear hK K'
      try simp only [Act.put, List.setIfInBounds_toArray, List.set_cons_zero, List.set_cons_succ]
      refine wpAnyH_take (i := 9) (oi := ⟨_, _, _, _, _, _⟩) (v := ?_) rfl (by kernel_rfl) (by kernel_rfl) (by kernel_rfl) (fun _ _ _ h => h) (Or.inl ⟨by rfl, ?_⟩) (by assumption) ?_
      rotate_left 1
      · intro W' hSw
        have hS1 := hSw
        go_simp
        try with_reducible rfl
      try simp only [Act.put, List.setIfInBounds_toArray, List.set_cons_zero, List.set_cons_succ]
      refine wpAnyH_done (by kernel_rfl) ?_ _
      go_wp2_with fail
      refine ⟨rfl, rfl, ⟨rfl, i + 1, a4, n4', c4, by omega, ?_, rfl, HQ'⟩, ?_⟩
      · show Value.int .i64 _ = _
        go_num
      · show iN - (intOf (Value.int .i64 _)).toNat < iN - (intOf (F 8)).toNat
        rw [H8.out]
        simp [intOf]; omega
  · obtain rfl : i = iN := by omega
    have hin' : ¬ ((i : Int) < (i : Int)) := by omega
    have HP : Hid (Put2Post w0 W (zs ++ encP p L) (.returned (.tuple #[.slice a2 n2 c2, .int .i64 0])) V) := by
      refine ⟨a2, n2, c2, rfl, ?_, HQi.out.2⟩
      have := HQi.out.1
      rw [List.take_of_length_le (by rw [HLN.out]; exact Nat.le_refl _)] at this
      rw [HZ.out]; exact this
    clear HQi
    go_wp2_with fail
    go_ret2
    exact HP.out
end Go.Proofs.Qxb6500787aGreat
