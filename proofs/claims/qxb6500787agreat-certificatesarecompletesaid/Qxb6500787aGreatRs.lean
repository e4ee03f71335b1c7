
import Derived.Test.Qxb6500787aGreatRr
import Derived.StillTailTactics
import Derived.Deep.QuietTactic
import Derived.BigQuiet
import Derived.Deep.RegionHeld
import Derived.Deep.CutRange
import Derived.Laws.ResultCell
import Derived.Laws.Rows
import Derived.DeepKeys
import Derived.DataBytes
import Derived.Laws.StructEq
import Derived.Laws.AppendOwn
import Derived.Laws.MakeOwn
import Derived.Lib.AppendStr
set_option linter.unusedSimpArgs false
set_option linter.unusedVariables false
namespace Go.Proofs.Qxb6500787aGreat
open Go.RowKit Go.Blk
attribute [local go_sem ↓] execOp_load execOp_store execOp_alloc
attribute [local go_sem] Tryz.ld26 Tryz.st26 Tryz.ld27 Tryz.st27 Tryz.ld28 Tryz.st28 Tryz.ld3 Tryz.st3 Tryz.ld29 Tryz.st29 Tryz.ld4 Tryz.st4 Tryz.ld50 Tryz.st50 Tryz.ld68 Tryz.st68 Tryz.ld9 Tryz.st9 Tryz.ld2 Tryz.st2 Tryz.ld5 Tryz.st5 Tryz.ld12 Tryz.st12 Tryz.ld21 Tryz.st21 Tryz.ld22 Tryz.st22 Tryz.ld24 Tryz.st24 Tryz.ld32 Tryz.st32 Tryz.ld40 Tryz.st40 Tryz.ld44 Tryz.st44 Tryz.ld49 Tryz.st49 Tryz.ld58 Tryz.st58 Tryz.ld97 Tryz.st97 Tryz.ld101 Tryz.st101 Tryz.ld116 Tryz.st116 Tryz.ld121 Tryz.st121 Tryz.ld135 Tryz.st135 Tryz.ld136 Tryz.st136 Tryz.ld138 Tryz.st138 Tryz.ld139 Tryz.st139 Tryz.ld142 Tryz.st142 Tryz.ld143 Tryz.st143 Tryz.ld146 Tryz.st146 Tryz.ld148 Tryz.st148 Tryz.ld154 Tryz.st154 Tryz.ld159 Tryz.st159 Tryz.ld173 Tryz.st173 Tryz.ld183 Tryz.st183 Tryz.ld184 Tryz.st184 Tryz.ld187 Tryz.st187 Tryz.ld192 Tryz.st192 Tryz.ld195 Tryz.st195 Tryz.ld217 Tryz.st217 Tryz.ld222 Tryz.st222 Tryz.ld241 Tryz.st241 Tryz.ld248 Tryz.st248 Tryz.ld268 Tryz.st268 Tryz.ld272 Tryz.st272 Tryz.ld129 Tryz.st129 Tryz.ld31 Tryz.st31 Tryz.ld52 Tryz.st52 Tryz.ld70 Tryz.st70 Tryz.ld74 Tryz.st74 Tryz.ld93 Tryz.st93 Tryz.al129 Tryz.al31 Tryz.al52 Tryz.al70 Tryz.al74 Tryz.al93
attribute [local go_sem] Request.length_enc Request.ok_enc Request.all_get Request.all_set Request.kind_get Request.kind_set Request.blob_get Request.blob_set Request.items_get Request.items_set Request.pred_get Request.pred_set Request.slots_get Request.slots_set Item.length_enc Item.ok_enc Item.all_get Item.all_set Item.del_get Item.del_set Item.pred_get Item.pred_set Item.args_get Item.args_set GOp.length_enc GOp.ok_enc GOp.all_get GOp.all_set GOp.kind_get GOp.kind_set GOp.raw_get GOp.raw_set Reader.length_enc Reader.ok_enc Reader.all_get Reader.all_set Reader.buf_get Reader.buf_set Reader.at__get Reader.at__set Slot.length_enc Slot.ok_enc Slot.all_get Slot.all_set Slot.bound_get Slot.bound_set Slot.name_get Slot.name_set
attribute [local go_sem] size_put size_ext blk_put free_put blk_alloc free_alloc blk_drew free_drew blk_ext free_ext lookOr_some putOr_some segAt_some cellAt_some storeIn_some put_put put_alloc_new length_arr ok_arr_u8 ok_arr_u32 ok_arr_u64 ok_arr_i64 ok_arr_sl cellsV_agg cellsV_int cellsV_bool cellsV_string cellsV_pointer cellsV_slice cellsV_sl ok_int ok_bool ok_string ok_pointer ok_slice ok_sl toList_arr seg_arr set_arr nth_splice nth_splice0 seg_splice seg_splice0 splice_splice splice_splice0 length_splice_if
attribute [local go_sem ↓] execOp_box
attribute [local go_sem] box_run nth_arr_u8 put_arr_u8 blk_drewN free_drewN put_drewN blk_raw free_raw
set_option maxRecDepth 100000 in
theorem frame51 (f : Nat → Value) : frameN 51 f = #[f 0, f 1, f 2, f 3, f 4, f 5, f 6, f 7, f 8, f 9, f 10, f 11, f 12, f 13, f 14, f 15, f 16, f 17, f 18, f 19, f 20, f 21, f 22, f 23, f 24, f 25, f 26, f 27, f 28, f 29, f 30, f 31, f 32, f 33, f 34, f 35, f 36, f 37, f 38, f 39, f 40, f 41, f 42, f 43, f 44, f 45, f 46, f 47, f 48, f 49, f 50] := by kernel_rfl
def encF (p : Nat) (L : List (List UInt8)) : List UInt8 := UInt8.ofNat p :: UInt8.ofNat L.length :: L.flatMap encN
def Put2Post (w0 W : World) (zs : List UInt8) (e : Ending) (W' : World) : Prop := ∃ a n c, e = .returned (.tuple #[.slice a n c, .int .i64 0]) ∧ Ob w0 W' a n c zs ∧ Nb W W'
theorem encN_len {nm : List UInt8} (h : nm.length ≤ 64) : (encN nm).length ≤ 65 := by unfold encN; simp; omega
theorem flat_len : ∀ (L : List (List UInt8)), (∀ nm ∈ L, nm.length ≤ 64) → (L.flatMap encN).length ≤ 65 * L.length
  | [], _ => by simp
  | nm :: L, h => by
    have h1 := encN_len (h nm (List.mem_cons_self ..))
    have h2 := flat_len L (fun x hx => h x (List.mem_cons_of_mem _ hx))
    rw [List.flatMap_cons, List.length_append, List.length_cons]
    omega
theorem take_at {α : Type} {L : List α} {i : Nat} {x : α} (h : L[i]? = some x) : L.take (i + 1) = L.take i ++ [x] := by
  rw [List.take_add_one, h]; rfl
theorem u8_of (k : Nat) (h : k ≤ 255) : bv [UInt8.ofNat k] = [.int .u8 (k : Int)] := by
  unfold bv u8v w8
  rw [List.map_cons, List.map_nil, UInt8.toNat_ofNat', Nat.mod_eq_of_lt (by omega)]
theorem u8_of2 (j k : Nat) (hj : j ≤ 255) (h : k ≤ 255) : bv [UInt8.ofNat j, UInt8.ofNat k] = [.int .u8 (j : Int), .int .u8 (k : Int)] := by
  unfold bv u8v w8
  rw [List.map_cons, List.map_cons, List.map_nil, UInt8.toNat_ofNat', Nat.mod_eq_of_lt (by omega), UInt8.toNat_ofNat', Nat.mod_eq_of_lt (by omega)]
def PFq (w0 W0 : World) (b3 : Nat) (D : List Value) (zs : List UInt8) (L : List (List UInt8)) (a : Option Addr) (n c i : Nat) (W : World) : Prop := Ob w0 W a n c (zs ++ (L.take i).flatMap encN) ∧ Nb W0 W ∧ W.heap[b3]? = some (.cells D.toArray 67 (0, 0))
def pfI (w0 W0 : World) (b3 : Nat) (D : List Value) (zs : List UInt8) (L : List (List UInt8)) (nn : Nat) (f : Nat → Value) (W : World) : Prop := f 3 = .pointer (some ⟨b3, 0, none⟩) ∧ ∃ (i : Nat) (a : Option Addr) (n c : Nat), i ≤ nn ∧ f 6 = .int .i64 (i : Nat) ∧ f 0 = .slice a n c ∧ Hid (PFq w0 W0 b3 D zs L a n c i W)
attribute [local go_sem] bslice27a bslice27b it_len it0 it1 it2 it_set0 it_set2 it_all it_put it_put2 it_ok
attribute [local go_sem ↓] execOp_bslice
set_option maxRecDepth 20000 in
set_option maxHeartbeats 1000000 in
theorem putFact_ok (w0 W : World) (a : Option Addr) (n c : Nat) (zs : List UInt8) (h : Ob w0 W a n c zs) (hl : zs.length ≤ 400000) (dl : Bool) (p : Nat) (hp : p ≤ 255) (na : Option Addr) (nn nc : Nat) (L : List (List UInt8)) (hL : Rw encS 1 w0 na nn L) (hnn : nn ≤ 4) (h64 : ∀ nm ∈ L, nm.length ≤ 64) :
    Calls Tryz.prog 113 #[.slice a n c, .agg (itemE dl (p : Int) na nn nc).toArray] W (Put2Post w0 W (zs ++ encF p L)) := by
  have HO : Hid (Ob w0 W a n c zs) := h
  have HL : Hid (Rw encS 1 w0 na nn L) := hL
  have H64 : Hid (∀ nm ∈ L, nm.length ≤ 64) := h64
  have hLn : L.length = nn := hL.1
  have HLN : Hid (L.length = nn) := hLn
  have hfl := flat_len L h64
  clear h hL h64
  go_enter Tryz.func113, Tryz.ntmps113
  go_upto_region 1 with fail
  refine wp_world (fun W0 => W0.heap[W.heap.size]? = some (.cells (itemE dl (p : Int) na nn nc).toArray 67 (0, 0)) ∧ Hid (W.Extends W0)) ⟨?_, extends_alloc (ext_Ext (Ext.refl _)) _⟩ ?_
  · rw [heap_alloc, if_pos rfl]
  rintro W0 ⟨hh3, HE0⟩
  obtain ⟨b3, hb3⟩ : ∃ b3, b3 = W.heap.size := ⟨_, rfl⟩
  rw [← hb3] at hh3 ⊢
  have HH3 : Hid (W0.heap[b3]? = some (.cells (itemE dl (p : Int) na nn nc).toArray 67 (0, 0))) := hh3
  have h3 : blk W0 b3 = some (itemE dl (p : Int) na nn nc) := blk_mk hh3
  clear hb3 hh3
  have p0 : ¬ (p : Int) < 0 := by omega
  have p1 : ¬ (255 : Int) < (p : Int) := by omega
  have n4 : ¬ (4 : Int) < (nn : Int) := by omega
  have w1 : IntKind.u8.wrap (p : Int) = (p : Int) := by rw [IntKind.wrap_u8]; omega
  have w2 : IntKind.u8.wrap (nn : Int) = (nn : Int) := by rw [IntKind.wrap_u8]; omega
  have l3 := blk_lt h3
  have n3 : ¬ b3 = W0.heap.size := by omega
  obtain ⟨a1, c1, W1, hr1, ho1, hn1⟩ := ob_app (HO.out.ext HE0.out) (by omega) [UInt8.ofNat p, UInt8.ofNat nn] (by simp) (by simp) #[.int .u8 (p : Int), .int .u8 (nn : Int)] (by rw [u8_of2 _ _ hp (by omega)]) 2 rfl
  have HQ0 : Hid (PFq w0 W b3 (itemE dl (p : Int) na nn nc) (zs ++ [UInt8.ofNat p, UInt8.ofNat nn]) L a1 (n + 2) c1 0 W1) := ⟨by rw [List.take_zero, List.flatMap_nil, List.append_nil]; exact ho1, (Nb.of_extends HE0.out).trans hn1, (hn1 b3 _ _ _ HH3.out (by decide)).trans HH3.out⟩
  have HZ : Hid (zs ++ encF p L = (zs ++ [UInt8.ofNat p, UInt8.ofNat nn]) ++ L.flatMap encN) := by
    show _ = _
    unfold encF
    rw [hLn, List.append_assoc]; rfl
  obtain ⟨zz, hzz⟩ : ∃ zz, zz = zs ++ [UInt8.ofNat p, UInt8.ofNat nn] := ⟨_, rfl⟩
  have hzl : zz.length ≤ 450000 := by rw [hzz]; simp; omega
  rw [← hzz] at HQ0 HZ
  clear ho1 hn1 hzz hLn
  go_wp2_with (at_builtin; refine wpList_append_run rfl _ _ 31 rfl _ _ _ _ rfl rfl hr1 ?_)
  refine wp_loop_f 51 (pfI w0 W b3 (itemE dl (p : Int) na nn nc) zz L nn) (fun f _ => nn - (intOf (f 6)).toNat) rfl ⟨rfl, 0, a1, n + 2, c1, by omega, rfl, rfl, HQ0⟩ ?_
  clear HQ0 hr1 h3 l3 n3 HE0 HH3
  intro F V hrel
  obtain ⟨f3, i, a2, n2, c2, hi, f6, f0, HQi⟩ := hrel
  have H6 : Hid (F 6 = .int .i64 (i : Nat)) := f6
  rw [frame51, f3, f6, f0]
  clear f3 f6 f0
  have h3 : blk V b3 = some (itemE dl (p : Int) na nn nc) := blk_mk HQi.out.2.2
  by_cases hin : i < nn
  · have hin' : (i : Int) < (nn : Int) := by omega
    obtain ⟨x, b, C, hx, rfl, hC, hCl, u0⟩ := HL.out.at hin
    have u1 : nth C i = some (.string ⟨x.toArray⟩) := by
      rw [Nat.mul_one] at u0
      have := nth_in (j := 0) u0 (show nth (encS x) 0 = some _ from rfl) (by omega)
      exact this
    have hx64 : x.length ≤ 64 := H64.out x (List.mem_of_getElem? hx)
    have hCV : blk V b = some C := (HQi.out.1.2.1.blk (blk_lt hC)).trans hC
    obtain ⟨s, hs⟩ : ∃ s : ByteArray, s = ⟨x.toArray⟩ := ⟨_, rfl⟩
    obtain ⟨k, hk⟩ : ∃ k, k = x.length := ⟨_, rfl⟩
    have hss : s.size = k := by rw [hs, hk]; simp [ByteArray.size]
    rw [← hs] at u1
    have hk64 : ¬ (64 : Int) < (k : Int) := by omega
    have p0 : (0 : Int) ≤ (i : Int) := by omega
    have p2 : ((i : Int)).toNat = i := by omega
    have HS : Hid (s = ⟨x.toArray⟩) := hs
    have HXi : Hid (L[i]? = some x) := hx
    have c1' : i + 1 ≤ C.length := by omega
    clear hC hx u0 hs hk
    go_wp2_with fail
    rw [HS.out]
    refine (putName_ok w0 V a2 n2 c2 _ x HQi.out.1 (by
      rw [List.length_append]
      have := flat_len (L.take i) (fun nm hnm => H64.out nm (List.mem_of_mem_take hnm))
      have h4 : (L.take i).length ≤ 4 := by rw [List.length_take]; omega
      omega) (by omega)).mono ?_
    rintro e V1 ⟨a3, n3, c3, rfl, ho3, hn3⟩
    have HQ' : Hid (PFq w0 W b3 (itemE dl (p : Int) (some ⟨b, 0, none⟩) nn nc) zz L a3 n3 c3 (i + 1) V1) := by
      refine ⟨?_, HQi.out.2.1.trans hn3, (hn3 b3 _ _ _ HQi.out.2.2 (by decide)).trans HQi.out.2.2⟩
      rw [take_at HXi.out, List.flatMap_append, ← List.append_assoc]
      simpa using ho3
    clear ho3 hn3 HQi
    dsimp only
    go_wp2_with fail
    refine ⟨rfl, rfl, ⟨rfl, i + 1, a3, n3, c3, by omega, ?_, rfl, HQ'⟩, ?_⟩
    · show Value.int .i64 _ = _
      go_num
    · show nn - (intOf (Value.int .i64 _)).toNat < nn - (intOf (F 6)).toNat
      rw [H6.out]
      simp [intOf]; omega
  · obtain rfl : i = nn := by omega
    have hin' : ¬ ((i : Int) < (i : Int)) := by omega
    have HP : Hid (Put2Post w0 W (zs ++ encF p L) (.returned (.tuple #[.slice a2 n2 c2, .int .i64 0])) V) := by
      refine ⟨a2, n2, c2, rfl, ?_, HQi.out.2.1⟩
      have := HQi.out.1
      rw [List.take_of_length_le (by rw [HLN.out]; exact Nat.le_refl _)] at this
      rw [HZ.out]; exact this
    clear HQi
    go_wp2_with fail
    go_ret2
    exact HP.out
end Go.Proofs.Qxb6500787aGreat
