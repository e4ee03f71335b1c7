
import Derived.Test.Qxb6500787aGreatRo
import Derived.StillTailTactics
import Derived.Deep.QuietTactic
import Derived.BigQuiet
import Derived.Deep.RegionHeld
import Derived.Deep.CutRange
import Derived.Laws.ResultCell
import Derived.Laws.Rows
import Derived.DeepKeys
import Derived.DataBytes
import Derived.Laws.StructEq
import Derived.Laws.AppendOwn
import Derived.Laws.MakeOwn
set_option linter.unusedSimpArgs false
set_option linter.unusedVariables false
namespace Go.Proofs.Qxb6500787aGreat
open Go.RowKit Go.Blk
attribute [local go_sem ↓] execOp_load execOp_store execOp_alloc
attribute [local go_sem] Tryz.ld26 Tryz.st26 Tryz.ld27 Tryz.st27 Tryz.ld28 Tryz.st28 Tryz.ld3 Tryz.st3 Tryz.ld29 Tryz.st29 Tryz.ld4 Tryz.st4 Tryz.ld50 Tryz.st50 Tryz.ld68 Tryz.st68 Tryz.ld9 Tryz.st9 Tryz.ld2 Tryz.st2 Tryz.ld5 Tryz.st5 Tryz.ld12 Tryz.st12 Tryz.ld21 Tryz.st21 Tryz.ld22 Tryz.st22 Tryz.ld24 Tryz.st24 Tryz.ld32 Tryz.st32 Tryz.ld40 Tryz.st40 Tryz.ld44 Tryz.st44 Tryz.ld49 Tryz.st49 Tryz.ld58 Tryz.st58 Tryz.ld97 Tryz.st97 Tryz.ld101 Tryz.st101 Tryz.ld116 Tryz.st116 Tryz.ld121 Tryz.st121 Tryz.ld135 Tryz.st135 Tryz.ld136 Tryz.st136 Tryz.ld138 Tryz.st138 Tryz.ld139 Tryz.st139 Tryz.ld142 Tryz.st142 Tryz.ld143 Tryz.st143 Tryz.ld146 Tryz.st146 Tryz.ld148 Tryz.st148 Tryz.ld154 Tryz.st154 Tryz.ld159 Tryz.st159 Tryz.ld173 Tryz.st173 Tryz.ld183 Tryz.st183 Tryz.ld184 Tryz.st184 Tryz.ld187 Tryz.st187 Tryz.ld192 Tryz.st192 Tryz.ld195 Tryz.st195 Tryz.ld217 Tryz.st217 Tryz.ld222 Tryz.st222 Tryz.ld241 Tryz.st241 Tryz.ld248 Tryz.st248 Tryz.ld268 Tryz.st268 Tryz.ld272 Tryz.st272 Tryz.ld129 Tryz.st129 Tryz.ld31 Tryz.st31 Tryz.ld52 Tryz.st52 Tryz.ld70 Tryz.st70 Tryz.ld74 Tryz.st74 Tryz.ld93 Tryz.st93 Tryz.al129 Tryz.al31 Tryz.al52 Tryz.al70 Tryz.al74 Tryz.al93
attribute [local go_sem] Request.length_enc Request.ok_enc Request.all_get Request.all_set Request.kind_get Request.kind_set Request.blob_get Request.blob_set Request.items_get Request.items_set Request.pred_get Request.pred_set Request.slots_get Request.slots_set Item.length_enc Item.ok_enc Item.all_get Item.all_set Item.del_get Item.del_set Item.pred_get Item.pred_set Item.args_get Item.args_set GOp.length_enc GOp.ok_enc GOp.all_get GOp.all_set GOp.kind_get GOp.kind_set GOp.raw_get GOp.raw_set Reader.length_enc Reader.ok_enc Reader.all_get Reader.all_set Reader.buf_get Reader.buf_set Reader.at__get Reader.at__set Slot.length_enc Slot.ok_enc Slot.all_get Slot.all_set Slot.bound_get Slot.bound_set Slot.name_get Slot.name_set
attribute [local go_sem] size_put size_ext blk_put free_put blk_alloc free_alloc blk_drew free_drew blk_ext free_ext lookOr_some putOr_some segAt_some cellAt_some storeIn_some put_put put_alloc_new length_arr ok_arr_u8 ok_arr_u32 ok_arr_u64 ok_arr_i64 ok_arr_sl cellsV_agg cellsV_int cellsV_bool cellsV_string cellsV_pointer cellsV_slice cellsV_sl ok_int ok_bool ok_string ok_pointer ok_slice ok_sl toList_arr seg_arr set_arr nth_splice nth_splice0 seg_splice seg_splice0 splice_splice splice_splice0 length_splice_if
attribute [local go_sem ↓] execOp_box
attribute [local go_sem] box_run nth_arr_u8 put_arr_u8 blk_drewN free_drewN put_drewN blk_raw free_raw
set_option maxRecDepth 100000 in
theorem frame26 (f : Nat → Value) : frameN 26 f = #[f 0, f 1, f 2, f 3, f 4, f 5, f 6, f 7, f 8, f 9, f 10, f 11, f 12, f 13, f 14, f 15, f 16, f 17, f 18, f 19, f 20, f 21, f 22, f 23, f 24, f 25] := by kernel_rfl
/-- A slice whose elements are these. -/
def Rw {α : Type} (en : α → List Value) (sz : Nat) (W : World) (a : Option Addr) (n : Nat) (L : List α) : Prop := L.length = n ∧ ∀ i x, L[i]? = some x → ∃ b C, a = some ⟨b, 0, none⟩ ∧ blk W b = some C ∧ n * sz ≤ C.length ∧ seg C (i * sz) sz = en x
theorem rw_own {α : Type} {e : α → List Value} {sz : Nat} (hsz : ∀ x, (e x).length = sz) {B : Nat} {W : World} {ty : TypeId} {a : Option Addr} {n c : Nat} {K : List α} (h : W.ownsRow B ty sz (.slice a n c) K.length (K.flatMap e)) : Rw e sz W a n K ∧ n ≤ c ∧ c ≤ maxLen := by
  obtain ⟨a', b, c', h1, h2, h3, h4, h5, h6⟩ := own_at hsz h
  injection h1 with e1 e2 e3
  subst e1; subst e2; subst e3
  refine ⟨⟨rfl, fun i x hx => ?_⟩, h3, h2⟩
  obtain ⟨y, C, g1, g2, g3, g4, g5⟩ := h5.get (i := i) (List.getElem?_eq_some_iff.1 hx).1
  obtain rfl : y = x := Option.some.inj (g1.symm.trans hx)
  rw [Nat.zero_add] at g4 g5
  exact ⟨b, C, g2, g3, g4, g5⟩
theorem Rw.grow {α : Type} {en : α → List Value} {sz : Nat} {W W' : World} {a : Option Addr} {n : Nat} {L : List α} (h : Rw en sz W a n L) (he : W.Extends W') : Rw en sz W' a n L := ⟨h.1, fun i x hx => by
  obtain ⟨b, C, h1, h2, h3⟩ := h.2 i x hx
  exact ⟨b, C, h1, (he.blk (blk_lt h2)).trans h2, h3⟩⟩
theorem Rw.at {α : Type} {en : α → List Value} {sz : Nat} {W : World} {a : Option Addr} {n : Nat} {L : List α} (h : Rw en sz W a n L) {i : Nat} (hi : i < n) : ∃ x b C, L[i]? = some x ∧ a = some ⟨b, 0, none⟩ ∧ blk W b = some C ∧ n * sz ≤ C.length ∧ seg C (i * sz) sz = en x := by
  have hx : L[i]? = some (L[i]'(by rw [h.1]; exact hi)) := List.getElem?_eq_getElem _
  obtain ⟨b, C, r⟩ := h.2 i _ hx
  exact ⟨_, b, C, hx, r⟩
theorem bs_own {B : Nat} {W : World} {a : Option Addr} {n c : Nat} {xs : List UInt8} (h : W.ownsRow B 5 1 (.slice a n c) xs.length (bv xs)) : Bs W a n xs ∧ n ≤ c ∧ c ≤ maxLen := by
  have hb : bv xs = xs.flatMap (fun x => [u8v x]) := by
    unfold bv
    rw [List.map_eq_flatMap]
  have hl := h.1
  obtain ⟨_, ⟨h1, h2⟩ | ⟨g, cap, cur, h1, h2, h3, h4, h5, h6, h7⟩⟩ := h
  · injection h1 with e1 e2 e3
    subst e1 e2 e3
    exact ⟨⟨h2, fun h => absurd rfl h, .inl rfl⟩, Nat.le_refl _, by simp [maxLen]⟩
  · injection h1 with e1 e2 e3
    subst e1 e2 e3
    refine ⟨⟨rfl, fun h0 => ⟨g, 0, cur.toList, rfl, ?_, by simp [h6]; exact h4, ?_⟩, .inr ⟨g, 0, rfl⟩⟩, h4, h5⟩
    · exact blk_mk h3
    · unfold seg
      rw [Nat.mul_one] at h7
      rw [List.drop_zero]; exact h7
def sbI (W0 : World) (a a' : Option Addr) (n c c' : Nat) (f : Nat → Value) (W : World) : Prop := f 0 = .slice a n c ∧ f 1 = .slice a' n c' ∧ ∃ (i : Nat), i ≤ n ∧ f 5 = .int .i64 (i : Nat) ∧ Hid (∃ k, W = W0.drewN k)
set_option maxRecDepth 20000 in
theorem sameBytes_eq (W : World) (a a' : Option Addr) (n c c' : Nat) (hn : n ≤ 1000000000000) (xs : List UInt8) (hX : Bs W a n xs) (hX' : Bs W a' n xs) : Calls Tryz.prog 16 #[.slice a n c, .slice a' n c'] W fun e W' => e = .returned (.bool true) ∧ ∃ k, W' = W.drewN k := by
  have HX : Hid (Bs W a n xs) := hX
  have HX' : Hid (Bs W a' n xs) := hX'
  clear hX hX'
  go_enter Tryz.func16, Tryz.ntmps16
  go_wp2_with fail
  refine wp_loop_f 26 (sbI W a a' n c c') (fun f _ => n - (intOf (f 5)).toNat) rfl ⟨rfl, rfl, 0, by omega, rfl, 0, rfl⟩ ?_
  intro F V hrel
  obtain ⟨f0, f1, i, hi, f5, HV⟩ := hrel
  have H5 : Hid (F 5 = .int .i64 (i : Nat)) := f5
  rw [frame26, f0, f1, f5]
  clear f0 f1 f5
  by_cases hin : i < n
  · have hin' : (i : Int) < (n : Int) := by omega
    obtain ⟨b, o, C, x, rfl, hC, hCl, hx, v0⟩ := HX.out.get hin
    obtain ⟨b', o', C', x', rfl, hC', hCl', hx', v0'⟩ := HX'.out.get hin
    obtain rfl : x' = x := Option.some.inj (hx'.symm.trans hx)
    obtain ⟨y, hy⟩ : ∃ y, y = w8 x' := ⟨_, rfl⟩
    rw [← hy] at v0 v0'
    have hCV : blk V b = some C := by obtain ⟨k, hk⟩ := HV.out; rw [hk]; exact hC
    have hCV' : blk V b' = some C' := by obtain ⟨k, hk⟩ := HV.out; rw [hk]; exact hC'
    have p0 : (0 : Int) ≤ (i : Int) := by omega
    have p2 : ((i : Int)).toNat = i := by omega
    clear hC hC' hx hx' hy
    repeat go_step
    go_quiet (fail)
    go_wp2_with fail
    refine ⟨rfl, rfl, ⟨rfl, rfl, i + 1, by omega, ?_, ?_⟩, ?_⟩
    · show Value.int .i64 _ = _
      go_num
    · obtain ⟨k, hk⟩ := HV.out
      exact ⟨_, by rw [hk, World.drewN_drewN]⟩
    · show n - (intOf (Value.int .i64 _)).toNat < n - (intOf (F 5)).toNat
      rw [H5.out]
      simp [intOf]; omega
  · obtain rfl : i = n := by omega
    have hin' : ¬ ((i : Int) < (i : Int)) := by omega
    go_wp2_with fail
    go_ret
    exact ⟨rfl, HV.out⟩
def smI (W0 : World) (a a' : Option Addr) (n c c' : Nat) (f : Nat → Value) (W : World) : Prop := f 0 = .slice a n c ∧ f 1 = .slice a' n c' ∧ ∃ (i : Nat), i ≤ n ∧ f 5 = .int .i64 (i : Nat) ∧ Hid (∃ k, W = W0.drewN k)
set_option maxRecDepth 20000 in
theorem same_eq (W : World) (a a' : Option Addr) (n c c' : Nat) (hn : n ≤ 1000000000000) (L : List (List UInt8)) (hX : Rw encS 1 W a n L) (hX' : Rw encS 1 W a' n L) : Calls Tryz.prog 35 #[.slice a n c, .slice a' n c'] W fun e W' => e = .returned (.bool true) ∧ ∃ k, W' = W.drewN k := by
  have HX : Hid (Rw encS 1 W a n L) := hX
  have HX' : Hid (Rw encS 1 W a' n L) := hX'
  clear hX hX'
  go_enter Tryz.func35, Tryz.ntmps35
  go_wp2_with fail
  refine wp_loop_f 26 (smI W a a' n c c') (fun f _ => n - (intOf (f 5)).toNat) rfl ⟨rfl, rfl, 0, by omega, rfl, 0, rfl⟩ ?_
  intro F V hrel
  obtain ⟨f0, f1, i, hi, f5, HV⟩ := hrel
  have H5 : Hid (F 5 = .int .i64 (i : Nat)) := f5
  rw [frame26, f0, f1, f5]
  clear f0 f1 f5
  by_cases hin : i < n
  · have hin' : (i : Int) < (n : Int) := by omega
    obtain ⟨x, b, C, hx, rfl, hC, hCl, v0⟩ := HX.out.at hin
    obtain ⟨x', b', C', hx', rfl, hC', hCl', v0'⟩ := HX'.out.at hin
    obtain rfl : x' = x := Option.some.inj (hx'.symm.trans hx)
    rw [Nat.mul_one] at v0 v0' hCl hCl'
    have u0 : nth C i = some (.string ⟨x'.toArray⟩) := by
      have := nth_in (j := 0) v0 (show nth (encS x') 0 = some _ from rfl) (by omega)
      exact this
    have u0' : nth C' i = some (.string ⟨x'.toArray⟩) := by
      have := nth_in (j := 0) v0' (show nth (encS x') 0 = some _ from rfl) (by omega)
      exact this
    obtain ⟨y, hy⟩ : ∃ y : ByteArray, y = ⟨x'.toArray⟩ := ⟨_, rfl⟩
    rw [← hy] at u0 u0'
    clear v0 v0'
    have hCV : blk V b = some C := by obtain ⟨k, hk⟩ := HV.out; rw [hk]; exact hC
    have hCV' : blk V b' = some C' := by obtain ⟨k, hk⟩ := HV.out; rw [hk]; exact hC'
    have p0 : (0 : Int) ≤ (i : Int) := by omega
    have p2 : ((i : Int)).toNat = i := by omega
    clear hC hC' hx hx' hy
    repeat go_step
    go_quiet (fail)
    go_wp2_with fail
    refine ⟨rfl, rfl, ⟨rfl, rfl, i + 1, by omega, ?_, ?_⟩, ?_⟩
    · show Value.int .i64 _ = _
      go_num
    · obtain ⟨k, hk⟩ := HV.out
      exact ⟨_, by rw [hk, World.drewN_drewN]⟩
    · show n - (intOf (Value.int .i64 _)).toNat < n - (intOf (F 5)).toNat
      rw [H5.out]
      simp [intOf]; omega
  · obtain rfl : i = n := by omega
    have hin' : ¬ ((i : Int) < (i : Int)) := by omega
    go_wp2_with fail
    go_ret
    exact ⟨rfl, HV.out⟩
attribute [local go_sem] it_len it0 it1 it2 it_set0 it_set2 it_all it_put it_put2 it_ok
end Go.Proofs.Qxb6500787aGreat
