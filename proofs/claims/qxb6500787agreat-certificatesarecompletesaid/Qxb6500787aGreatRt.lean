
import Derived.Test.Qxb6500787aGreatRs
import Derived.StillTailTactics
import Derived.Deep.QuietTactic
import Derived.BigQuiet
import Derived.Deep.RegionHeld
import Derived.Deep.CutRange
import Derived.Laws.ResultCell
import Derived.Laws.Rows
import Derived.DeepKeys
import Derived.DataBytes
import Derived.Laws.StructEq
import Derived.Laws.AppendOwn
import Derived.Laws.MakeOwn
import Derived.Lib.AppendStr
set_option linter.unusedSimpArgs false
set_option linter.unusedVariables false
namespace Go.Proofs.Qxb6500787aGreat
open Go.RowKit Go.Blk
attribute [local go_sem ↓] execOp_load execOp_store execOp_alloc
attribute [local go_sem] Tryz.ld26 Tryz.st26 Tryz.ld27 Tryz.st27 Tryz.ld28 Tryz.st28 Tryz.ld3 Tryz.st3 Tryz.ld29 Tryz.st29 Tryz.ld4 Tryz.st4 Tryz.ld50 Tryz.st50 Tryz.ld68 Tryz.st68 Tryz.ld9 Tryz.st9 Tryz.ld2 Tryz.st2 Tryz.ld5 Tryz.st5 Tryz.ld12 Tryz.st12 Tryz.ld21 Tryz.st21 Tryz.ld22 Tryz.st22 Tryz.ld24 Tryz.st24 Tryz.ld32 Tryz.st32 Tryz.ld40 Tryz.st40 Tryz.ld44 Tryz.st44 Tryz.ld49 Tryz.st49 Tryz.ld58 Tryz.st58 Tryz.ld97 Tryz.st97 Tryz.ld101 Tryz.st101 Tryz.ld116 Tryz.st116 Tryz.ld121 Tryz.st121 Tryz.ld135 Tryz.st135 Tryz.ld136 Tryz.st136 Tryz.ld138 Tryz.st138 Tryz.ld139 Tryz.st139 Tryz.ld142 Tryz.st142 Tryz.ld143 Tryz.st143 Tryz.ld146 Tryz.st146 Tryz.ld148 Tryz.st148 Tryz.ld154 Tryz.st154 Tryz.ld159 Tryz.st159 Tryz.ld173 Tryz.st173 Tryz.ld183 Tryz.st183 Tryz.ld184 Tryz.st184 Tryz.ld187 Tryz.st187 Tryz.ld192 Tryz.st192 Tryz.ld195 Tryz.st195 Tryz.ld217 Tryz.st217 Tryz.ld222 Tryz.st222 Tryz.ld241 Tryz.st241 Tryz.ld248 Tryz.st248 Tryz.ld268 Tryz.st268 Tryz.ld272 Tryz.st272 Tryz.ld129 Tryz.st129 Tryz.ld31 Tryz.st31 Tryz.ld52 Tryz.st52 Tryz.ld70 Tryz.st70 Tryz.ld74 Tryz.st74 Tryz.ld93 Tryz.st93 Tryz.al129 Tryz.al31 Tryz.al52 Tryz.al70 Tryz.al74 Tryz.al93
attribute [local go_sem] Request.length_enc Request.ok_enc Request.all_get Request.all_set Request.kind_get Request.kind_set Request.blob_get Request.blob_set Request.items_get Request.items_set Request.pred_get Request.pred_set Request.slots_get Request.slots_set Item.length_enc Item.ok_enc Item.all_get Item.all_set Item.del_get Item.del_set Item.pred_get Item.pred_set Item.args_get Item.args_set GOp.length_enc GOp.ok_enc GOp.all_get GOp.all_set GOp.kind_get GOp.kind_set GOp.raw_get GOp.raw_set Reader.length_enc Reader.ok_enc Reader.all_get Reader.all_set Reader.buf_get Reader.buf_set Reader.at__get Reader.at__set Slot.length_enc Slot.ok_enc Slot.all_get Slot.all_set Slot.bound_get Slot.bound_set Slot.name_get Slot.name_set
attribute [local go_sem] size_put size_ext blk_put free_put blk_alloc free_alloc blk_drew free_drew blk_ext free_ext lookOr_some putOr_some segAt_some cellAt_some storeIn_some put_put put_alloc_new length_arr ok_arr_u8 ok_arr_u32 ok_arr_u64 ok_arr_i64 ok_arr_sl cellsV_agg cellsV_int cellsV_bool cellsV_string cellsV_pointer cellsV_slice cellsV_sl ok_int ok_bool ok_string ok_pointer ok_slice ok_sl toList_arr seg_arr set_arr nth_splice nth_splice0 seg_splice seg_splice0 splice_splice splice_splice0 length_splice_if
attribute [local go_sem ↓] execOp_box
attribute [local go_sem] box_run nth_arr_u8 put_arr_u8 blk_drewN free_drewN put_drewN blk_raw free_raw
set_option maxRecDepth 100000 in
theorem frame47 (f : Nat → Value) : frameN 47 f = #[f 0, f 1, f 2, f 3, f 4, f 5, f 6, f 7, f 8, f 9, f 10, f 11, f 12, f 13, f 14, f 15, f 16, f 17, f 18, f 19, f 20, f 21, f 22, f 23, f 24, f 25, f 26, f 27, f 28, f 29, f 30, f 31, f 32, f 33, f 34, f 35, f 36, f 37, f 38, f 39, f 40, f 41, f 42, f 43, f 44, f 45, f 46] := by kernel_rfl
def ItV (it : It) : Prop := 0 ≤ it.2.1 ∧ it.2.1 ≤ 255 ∧ it.2.2.length ≤ 4 ∧ ∀ nm ∈ it.2.2, nm.length ≤ 64
def tagB (b : Bool) : UInt8 := if b then 1 else 0
def encI (it : It) : List UInt8 := tagB it.1 :: encF it.2.1.toNat it.2.2
def encB (L : List It) : List UInt8 := UInt8.ofNat L.length :: L.flatMap encI
theorem encI_len {it : It} (h : ItV it) : (encI it).length ≤ 263 := by
  unfold encI encF
  have := flat_len it.2.2 h.2.2.2
  have := h.2.2.1
  simp only [List.length_cons]
  omega
theorem flatI_len : ∀ (L : List It), (∀ it ∈ L, ItV it) → (L.flatMap encI).length ≤ 263 * L.length
  | [], _ => by simp
  | it :: L, h => by
    have h1 := encI_len (h it (List.mem_cons_self ..))
    have h2 := flatI_len L (fun x hx => h x (List.mem_cons_of_mem _ hx))
    rw [List.flatMap_cons, List.length_append, List.length_cons]
    omega
theorem tagB_bv (b : Bool) : bv [tagB b] = [.int .u8 (if b then 1 else 0)] := by cases b <;> rfl
def PBq (w0 W0 : World) (zs : List UInt8) (L : List It) (a : Option Addr) (n c i : Nat) (W : World) : Prop := Ob w0 W a n c (zs ++ (L.take i).flatMap encI) ∧ Nb W0 W
def pbI (w0 W0 : World) (zs : List UInt8) (L : List It) (ia : Option Addr) (iN ic : Nat) (f : Nat → Value) (W : World) : Prop := f 1 = .slice ia iN ic ∧ ∃ (i : Nat) (a : Option Addr) (n c : Nat), i ≤ iN ∧ f 6 = .int .i64 (i : Nat) ∧ f 0 = .slice a n c ∧ Hid (PBq w0 W0 zs L a n c i W)
attribute [local go_sem] bslice27a bslice27b it_len it0 it1 it2 it_set0 it_set2 it_all it_put it_put2 it_ok
attribute [local go_sem ↓] execOp_bslice
set_option maxRecDepth 20000 in
set_option maxHeartbeats 1000000 in
theorem putBatch_ok (w0 W : World) (a : Option Addr) (n c : Nat) (zs : List UInt8) (h : Ob w0 W a n c zs) (hl : zs.length ≤ 300000) (ia : Option Addr) (iN ic B : Nat) (K : List Dsc) (L : List It) (hK : Rw encD 3 w0 ia iN K) (hI : ItemsOk w0 B K L) (h32 : iN ≤ 32) (hV : ∀ it ∈ L, ItV it) :
    Calls Tryz.prog 114 #[.slice a n c, .slice ia iN ic] W (Put2Post w0 W (zs ++ encB L)) := by
  have HO : Hid (Ob w0 W a n c zs) := h
  have HK : Hid (Rw encD 3 w0 ia iN K) := hK
  have HI : Hid (ItemsOk w0 B K L) := hI
  have HV : Hid (∀ it ∈ L, ItV it) := hV
  have hLn : L.length = iN := by rw [← hI.1, hK.1]
  have HLN : Hid (L.length = iN) := hLn
  clear h hK hI hV
  go_enter Tryz.func114, Tryz.ntmps114
  have n4 : ¬ (32 : Int) < (iN : Int) := by omega
  have w2 : IntKind.u8.wrap (iN : Int) = (iN : Int) := by rw [IntKind.wrap_u8]; omega
  obtain ⟨a1, c1, W1, hr1, ho1, hn1⟩ := ob_app HO.out (by omega) [UInt8.ofNat iN] (by simp) (by simp) #[.int .u8 (iN : Int)] (by rw [u8_of _ (by omega)]) 1 rfl
  have HQ0 : Hid (PBq w0 W (zs ++ [UInt8.ofNat iN]) L a1 (n + 1) c1 0 W1) := ⟨by rw [List.take_zero, List.flatMap_nil, List.append_nil]; exact ho1, hn1⟩
  have HZ : Hid (zs ++ encB L = (zs ++ [UInt8.ofNat iN]) ++ L.flatMap encI) := by
    show _ = _
    unfold encB
    rw [hLn, List.append_assoc]; rfl
  obtain ⟨zz, hzz⟩ : ∃ zz, zz = zs ++ [UInt8.ofNat iN] := ⟨_, rfl⟩
  have hzl : zz.length ≤ 310000 := by rw [hzz]; simp; omega
  rw [← hzz] at HQ0 HZ
  clear ho1 hn1 hzz hLn
  go_wp2_with (at_builtin; refine wpList_append_run rfl _ _ 31 rfl _ _ _ _ rfl rfl hr1 ?_)
  refine wp_loop_f 47 (pbI w0 W zz L ia iN ic) (fun f _ => iN - (intOf (f 6)).toNat) rfl ⟨rfl, 0, a1, n + 1, c1, by omega, rfl, rfl, HQ0⟩ ?_
  clear HQ0 hr1
  intro F V hrel
  obtain ⟨f1, i, a2, n2, c2, hi, f6, f0, HQi⟩ := hrel
  have H6 : Hid (F 6 = .int .i64 (i : Nat)) := f6
  rw [frame47, f1, f6, f0]
  clear f1 f6 f0
  by_cases hin : i < iN
  · have hin' : (i : Int) < (iN : Int) := by omega
    obtain ⟨d, b, C, hx, rfl, hC, hCl, u0⟩ := HK.out.at hin
    obtain ⟨it, g1, g2⟩ := HI.out.at hx
    obtain ⟨dl, pp, na, nn, nc⟩ := d
    obtain ⟨e1, e2, e3⟩ := g2
    dsimp only at e1 e2 e3
    have hv := HV.out it (List.mem_of_getElem? g1)
    obtain ⟨p, hpp⟩ : ∃ p : Nat, pp = (p : Int) := ⟨pp.toNat, by have := hv.1; omega⟩
    subst hpp
    have hr := (rw_own encS_len e3).1
    have u1 : seg C (i * 3) 3 = itemE dl (p : Int) na nn nc := u0
    have u2 : nth C (i * 3) = some (.bool dl) := by
      have := nth_in (j := 0) u0 (show nth (itemE dl (p : Int) na nn nc) 0 = some (.bool dl) from rfl) (by omega)
      exact this
    have hCV : blk V b = some C := (HQi.out.1.2.1.blk (blk_lt hC)).trans hC
    have p0 : (0 : Int) ≤ (i : Int) := by omega
    have p2 : ((i : Int)).toNat = i := by omega
    have c3 : i * 3 + 3 ≤ C.length := by omega
    have c3a : i * 3 < C.length := by omega
    have HR : Hid (Rw encS 1 w0 na nn it.2.2) := hr
    have HG : Hid (L[i]? = some it ∧ dl = it.1 ∧ (p : Int) = it.2.1 ∧ ItV it) := ⟨g1, e1, e2, hv⟩
    have hp255 : p ≤ 255 := by have := hv.2.1; omega
    have hnn4 : nn ≤ 4 := by rw [← hr.1]; exact hv.2.2.1
    have hln : (zz ++ (L.take i).flatMap encI).length ≤ 350000 := by
      rw [List.length_append]
      have := flatI_len (L.take i) (fun nm hnm => HV.out nm (List.mem_of_mem_take hnm))
      have h4 : (L.take i).length ≤ 32 := by rw [List.length_take]; omega
      omega
    obtain ⟨a3, c3', W3, hr3, ho3, hn3⟩ := ob_app HQi.out.1 (by omega) [tagB dl] (by simp) (by simp) #[.int .u8 (if dl then 1 else 0)] (by rw [tagB_bv]) 1 rfl
    have HO3 : Hid (Ob w0 W3 a3 (n2 + 1) c3' (zz ++ (L.take i).flatMap encI ++ [tagB dl])) := ho3
    have HN3 : Hid (Nb W W3) := HQi.out.2.trans hn3
    have hC3 : blk W3 b = some C := (ho3.2.1.blk (blk_lt hC)).trans hC
    clear hC hx u0 g1 e1 e2 e3 hv hr ho3 hn3 HQi
    cases dl
    all_goals
      go_wp2_with (at_builtin; refine wpList_append_run rfl _ _ 31 rfl _ _ _ _ rfl rfl hr3 ?_)
      refine (putFact_ok w0 W3 a3 (n2 + 1) c3' _ HO3.out (by rw [List.length_append, List.length_singleton]; omega) _ p hp255 na nn nc it.2.2 HR.out hnn4 HG.out.2.2.2.2.2.2).mono ?_
      rintro e V1 ⟨a4, n4', c4, rfl, ho4, hn4⟩
      have HQ' : Hid (PBq w0 W zz L a4 n4' c4 (i + 1) V1) := by
        refine ⟨?_, HN3.out.trans hn4⟩
        rw [take_at HG.out.1, List.flatMap_append, ← List.append_assoc]
        have : [it].flatMap encI = tagB it.1 :: encF it.2.1.toNat it.2.2 := by simp [encI]
        rw [this, ← HG.out.2.1, ← HG.out.2.2.1, Int.toNat_natCast]
        rw [List.append_assoc] at ho4
        exact ho4
      clear ho4 hn4
      dsimp only
      go_wp2_with fail
      refine ⟨rfl, rfl, ⟨rfl, i + 1, a4, n4', c4, by omega, ?_, rfl, HQ'⟩, ?_⟩
      · show Value.int .i64 _ = _
        go_num
      · show iN - (intOf (Value.int .i64 _)).toNat < iN - (intOf (F 6)).toNat
        rw [H6.out]
        simp [intOf]; omega
  · obtain rfl : i = iN := by omega
    have hin' : ¬ ((i : Int) < (i : Int)) := by omega
    have HP : Hid (Put2Post w0 W (zs ++ encB L) (.returned (.tuple #[.slice a2 n2 c2, .int .i64 0])) V) := by
      refine ⟨a2, n2, c2, rfl, ?_, HQi.out.2⟩
      have := HQi.out.1
      rw [List.take_of_length_le (by rw [HLN.out]; exact Nat.le_refl _)] at this
      rw [HZ.out]; exact this
    clear HQi
    go_wp2_with fail
    go_ret2
    exact HP.out
end Go.Proofs.Qxb6500787aGreat
