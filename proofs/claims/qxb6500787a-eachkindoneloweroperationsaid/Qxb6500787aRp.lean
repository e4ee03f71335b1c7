import Derived.Test.Qxb6500787aRo
import Derived.StillTailTactics
import Derived.Deep.QuietTactic
import Derived.BigQuiet
import Derived.Deep.RegionHeld
import Derived.Deep.CutRange
import Derived.Laws.ResultCell
import Derived.Laws.Rows
import Derived.DeepKeys
import Derived.DataBytes
import Derived.Laws.StructEq
import Derived.Laws.AppendOwn
import Derived.Laws.MakeOwn
set_option linter.unusedSimpArgs false
set_option linter.unusedVariables false
namespace Go.Proofs.Qxb6500787a
open Go.RowKit Go.Blk
attribute [local go_sem ↓] execOp_load execOp_store execOp_alloc
attribute [local go_sem] Try.ld26 Try.st26 Try.ld27 Try.st27 Try.ld28 Try.st28 Try.ld3 Try.st3 Try.ld29 Try.st29 Try.ld4 Try.st4 Try.ld50 Try.st50 Try.ld68 Try.st68 Try.ld9 Try.st9 Try.ld2 Try.st2 Try.ld5 Try.st5 Try.ld12 Try.st12 Try.ld21 Try.st21 Try.ld22 Try.st22 Try.ld24 Try.st24 Try.ld32 Try.st32 Try.ld40 Try.st40 Try.ld44 Try.st44 Try.ld49 Try.st49 Try.ld58 Try.st58 Try.ld63 Try.st63 Try.ld97 Try.st97 Try.ld101 Try.st101 Try.ld116 Try.st116 Try.ld121 Try.st121 Try.ld135 Try.st135 Try.ld136 Try.st136 Try.ld138 Try.st138 Try.ld139 Try.st139 Try.ld142 Try.st142 Try.ld143 Try.st143 Try.ld146 Try.st146 Try.ld148 Try.st148 Try.ld154 Try.st154 Try.ld159 Try.st159 Try.ld173 Try.st173 Try.ld183 Try.st183 Try.ld184 Try.st184 Try.ld187 Try.st187 Try.ld192 Try.st192 Try.ld195 Try.st195 Try.ld217 Try.st217 Try.ld222 Try.st222 Try.ld241 Try.st241 Try.ld248 Try.st248 Try.ld268 Try.st268 Try.ld272 Try.st272 Try.ld129 Try.st129 Try.ld31 Try.st31 Try.ld52 Try.st52 Try.ld70 Try.st70 Try.ld74 Try.st74 Try.ld93 Try.st93 Try.al129 Try.al31 Try.al52 Try.al70 Try.al74 Try.al93
attribute [local go_sem] Request.length_enc Request.ok_enc Request.all_get Request.all_set Request.kind_get Request.kind_set Request.blob_get Request.blob_set Request.items_get Request.items_set Request.pred_get Request.pred_set Request.slots_get Request.slots_set Item.length_enc Item.ok_enc Item.all_get Item.all_set Item.del_get Item.del_set Item.pred_get Item.pred_set Item.args_get Item.args_set GOp.length_enc GOp.ok_enc GOp.all_get GOp.all_set GOp.kind_get GOp.kind_set GOp.raw_get GOp.raw_set Reader.length_enc Reader.ok_enc Reader.all_get Reader.all_set Reader.buf_get Reader.buf_set Reader.at__get Reader.at__set Slot.length_enc Slot.ok_enc Slot.all_get Slot.all_set Slot.bound_get Slot.bound_set Slot.name_get Slot.name_set
attribute [local go_sem] size_put size_ext blk_put free_put blk_alloc free_alloc blk_drew free_drew blk_ext free_ext lookOr_some putOr_some segAt_some cellAt_some storeIn_some put_put put_alloc_new length_arr ok_arr_u8 ok_arr_u32 ok_arr_u64 ok_arr_i64 ok_arr_sl cellsV_agg cellsV_int cellsV_bool cellsV_string cellsV_pointer cellsV_slice cellsV_sl ok_int ok_bool ok_string ok_pointer ok_slice ok_sl toList_arr seg_arr set_arr nth_splice nth_splice0 seg_splice seg_splice0 splice_splice splice_splice0 length_splice_if
attribute [local go_sem ↓] execOp_box
attribute [local go_sem] box_run nth_arr_u8 put_arr_u8 blk_drewN free_drewN put_drewN blk_raw free_raw
set_option maxRecDepth 100000 in
theorem frame26 (f : Nat → Value) : frameN 26 f = #[f 0, f 1, f 2, f 3, f 4, f 5, f 6, f 7, f 8, f 9, f 10, f 11, f 12, f 13, f 14, f 15, f 16, f 17, f 18, f 19, f 20, f 21, f 22, f 23, f 24, f 25] := by kernel_rfl
/-- A slice whose elements are these. -/
def Rw {α : Type} (en : α → List Value) (sz : Nat) (W : World) (a : Option Addr) (n : Nat) (L : List α) : Prop := L.length = n ∧ ∀ i x, L[i]? = some x → ∃ b C, a = some ⟨b, 0, none⟩ ∧ blk W b = some C ∧ n * sz ≤ C.length ∧ seg C (i * sz) sz = en x
theorem rw_own {α : Type} {e : α → List Value} {sz : Nat} (hsz : ∀ x, (e x).length = sz) {B : Nat} {W : World} {ty : TypeId} {a : Option Addr} {n c : Nat} {K : List α} (h : W.ownsRow B ty sz (.slice a n c) K.length (K.flatMap e)) : Rw e sz W a n K ∧ n ≤ c ∧ c ≤ maxLen := by
  obtain ⟨a', b, c', h1, h2, h3, h4, h5, h6⟩ := own_at hsz h
  injection h1 with e1 e2 e3
  subst e1; subst e2; subst e3
  refine ⟨⟨rfl, fun i x hx => ?_⟩, h3, h2⟩
  obtain ⟨y, C, g1, g2, g3, g4, g5⟩ := h5.get (i := i) (List.getElem?_eq_some_iff.1 hx).1
  obtain rfl : y = x := Option.some.inj (g1.symm.trans hx)
  rw [Nat.zero_add] at g4 g5
  exact ⟨b, C, g2, g3, g4, g5⟩
theorem Rw.grow {α : Type} {en : α → List Value} {sz : Nat} {W W' : World} {a : Option Addr} {n : Nat} {L : List α} (h : Rw en sz W a n L) (he : W.Extends W') : Rw en sz W' a n L := ⟨h.1, fun i x hx => by
  obtain ⟨b, C, h1, h2, h3⟩ := h.2 i x hx
  exact ⟨b, C, h1, (he.blk (blk_lt h2)).trans h2, h3⟩⟩
theorem Rw.at {α : Type} {en : α → List Value} {sz : Nat} {W : World} {a : Option Addr} {n : Nat} {L : List α} (h : Rw en sz W a n L) {i : Nat} (hi : i < n) : ∃ x b C, L[i]? = some x ∧ a = some ⟨b, 0, none⟩ ∧ blk W b = some C ∧ n * sz ≤ C.length ∧ seg C (i * sz) sz = en x := by
  have hx : L[i]? = some (L[i]'(by rw [h.1]; exact hi)) := List.getElem?_eq_getElem _
  obtain ⟨b, C, r⟩ := h.2 i _ hx
  exact ⟨_, b, C, hx, r⟩
theorem bs_own {B : Nat} {W : World} {a : Option Addr} {n c : Nat} {xs : List UInt8} (h : W.ownsRow B 5 1 (.slice a n c) xs.length (bv xs)) : Bs W a n xs ∧ n ≤ c ∧ c ≤ maxLen := by
  have hb : bv xs = xs.flatMap (fun x => [u8v x]) := by
    unfold bv
    rw [List.map_eq_flatMap]
  have hl := h.1
  obtain ⟨_, ⟨h1, h2⟩ | ⟨g, cap, cur, h1, h2, h3, h4, h5, h6, h7⟩⟩ := h
  · injection h1 with e1 e2 e3
    subst e1 e2 e3
    exact ⟨⟨h2, fun h => absurd rfl h, .inl rfl⟩, Nat.le_refl _, by simp [maxLen]⟩
  · injection h1 with e1 e2 e3
    subst e1 e2 e3
    refine ⟨⟨rfl, fun h0 => ⟨g, 0, cur.toList, rfl, ?_, by simp [h6]; exact h4, ?_⟩, .inr ⟨g, 0, rfl⟩⟩, h4, h5⟩
    · exact blk_mk h3
    · unfold seg
      rw [Nat.mul_one] at h7
      rw [List.drop_zero]; exact h7
def sbI (W0 : World) (a a' : Option Addr) (n c c' : Nat) (f : Nat → Value) (W : World) : Prop := f 0 = .slice a n c ∧ f 1 = .slice a' n c' ∧ ∃ (i : Nat), i ≤ n ∧ f 5 = .int .i64 (i : Nat) ∧ Hid (∃ k, W = W0.drewN k)
set_option maxRecDepth 20000 in
theorem sameBytes_eq (W : World) (a a' : Option Addr) (n c c' : Nat) (hn : n ≤ 1000000000000) (xs : List UInt8) (hX : Bs W a n xs) (hX' : Bs W a' n xs) : Calls Try.prog 17 #[.slice a n c, .slice a' n c'] W fun e W' => e = .returned (.bool true) ∧ ∃ k, W' = W.drewN k := by
  have HX : Hid (Bs W a n xs) := hX
  have HX' : Hid (Bs W a' n xs) := hX'
  clear hX hX'
  go_enter Try.func17, Try.ntmps17
  go_wp2_with fail
  refine wp_loop_f 26 (sbI W a a' n c c') (fun f _ => n - (intOf (f 5)).toNat) rfl ⟨rfl, rfl, 0, by omega, rfl, 0, rfl⟩ ?_
  intro F V hrel
  obtain ⟨f0, f1, i, hi, f5, HV⟩ := hrel
  have H5 : Hid (F 5 = .int .i64 (i : Nat)) := f5
  rw [frame26, f0, f1, f5]
  clear f0 f1 f5
  by_cases hin : i < n
  · have hin' : (i : Int) < (n : Int) := by omega
    obtain ⟨b, o, C, x, rfl, hC, hCl, hx, v0⟩ := HX.out.get hin
    obtain ⟨b', o', C', x', rfl, hC', hCl', hx', v0'⟩ := HX'.out.get hin
    obtain rfl : x' = x := Option.some.inj (hx'.symm.trans hx)
    obtain ⟨y, hy⟩ : ∃ y, y = w8 x' := ⟨_, rfl⟩
    rw [← hy] at v0 v0'
    have hCV : blk V b = some C := by obtain ⟨k, hk⟩ := HV.out; rw [hk]; exact hC
    have hCV' : blk V b' = some C' := by obtain ⟨k, hk⟩ := HV.out; rw [hk]; exact hC'
    have p0 : (0 : Int) ≤ (i : Int) := by omega
    have p2 : ((i : Int)).toNat = i := by omega
    clear hC hC' hx hx' hy
    repeat go_step
    go_quiet (fail)
    go_wp2_with fail
    refine ⟨rfl, rfl, ⟨rfl, rfl, i + 1, by omega, ?_, ?_⟩, ?_⟩
    · show Value.int .i64 _ = _
      go_num
    · obtain ⟨k, hk⟩ := HV.out
      exact ⟨_, by rw [hk, World.drewN_drewN]⟩
    · show n - (intOf (Value.int .i64 _)).toNat < n - (intOf (F 5)).toNat
      rw [H5.out]
      simp [intOf]; omega
  · obtain rfl : i = n := by omega
    have hin' : ¬ ((i : Int) < (i : Int)) := by omega
    go_wp2_with fail
    go_ret
    exact ⟨rfl, HV.out⟩
def smI (W0 : World) (a a' : Option Addr) (n c c' : Nat) (f : Nat → Value) (W : World) : Prop := f 0 = .slice a n c ∧ f 1 = .slice a' n c' ∧ ∃ (i : Nat), i ≤ n ∧ f 5 = .int .i64 (i : Nat) ∧ Hid (∃ k, W = W0.drewN k)
set_option maxRecDepth 20000 in
theorem same_eq (W : World) (a a' : Option Addr) (n c c' : Nat) (hn : n ≤ 1000000000000) (L : List (List UInt8)) (hX : Rw encS 1 W a n L) (hX' : Rw encS 1 W a' n L) : Calls Try.prog 65 #[.slice a n c, .slice a' n c'] W fun e W' => e = .returned (.bool true) ∧ ∃ k, W' = W.drewN k := by
  have HX : Hid (Rw encS 1 W a n L) := hX
  have HX' : Hid (Rw encS 1 W a' n L) := hX'
  clear hX hX'
  go_enter Try.func65, Try.ntmps65
  go_wp2_with fail
  refine wp_loop_f 26 (smI W a a' n c c') (fun f _ => n - (intOf (f 5)).toNat) rfl ⟨rfl, rfl, 0, by omega, rfl, 0, rfl⟩ ?_
  intro F V hrel
  obtain ⟨f0, f1, i, hi, f5, HV⟩ := hrel
  have H5 : Hid (F 5 = .int .i64 (i : Nat)) := f5
  rw [frame26, f0, f1, f5]
  clear f0 f1 f5
  by_cases hin : i < n
  · have hin' : (i : Int) < (n : Int) := by omega
    obtain ⟨x, b, C, hx, rfl, hC, hCl, v0⟩ := HX.out.at hin
    obtain ⟨x', b', C', hx', rfl, hC', hCl', v0'⟩ := HX'.out.at hin
    obtain rfl : x' = x := Option.some.inj (hx'.symm.trans hx)
    rw [Nat.mul_one] at v0 v0' hCl hCl'
    have u0 : nth C i = some (.string ⟨x'.toArray⟩) := by
      have := nth_in (j := 0) v0 (show nth (encS x') 0 = some _ from rfl) (by omega)
      exact this
    have u0' : nth C' i = some (.string ⟨x'.toArray⟩) := by
      have := nth_in (j := 0) v0' (show nth (encS x') 0 = some _ from rfl) (by omega)
      exact this
    obtain ⟨y, hy⟩ : ∃ y : ByteArray, y = ⟨x'.toArray⟩ := ⟨_, rfl⟩
    rw [← hy] at u0 u0'
    clear v0 v0'
    have hCV : blk V b = some C := by obtain ⟨k, hk⟩ := HV.out; rw [hk]; exact hC
    have hCV' : blk V b' = some C' := by obtain ⟨k, hk⟩ := HV.out; rw [hk]; exact hC'
    have p0 : (0 : Int) ≤ (i : Int) := by omega
    have p2 : ((i : Int)).toNat = i := by omega
    clear hC hC' hx hx' hy
    repeat go_step
    go_quiet (fail)
    go_wp2_with fail
    refine ⟨rfl, rfl, ⟨rfl, rfl, i + 1, by omega, ?_, ?_⟩, ?_⟩
    · show Value.int .i64 _ = _
      go_num
    · obtain ⟨k, hk⟩ := HV.out
      exact ⟨_, by rw [hk, World.drewN_drewN]⟩
    · show n - (intOf (Value.int .i64 _)).toNat < n - (intOf (F 5)).toNat
      rw [H5.out]
      simp [intOf]; omega
  · obtain rfl : i = n := by omega
    have hin' : ¬ ((i : Int) < (i : Int)) := by omega
    go_wp2_with fail
    go_ret
    exact ⟨rfl, HV.out⟩
attribute [local go_sem] it_len it0 it1 it2 it_set0 it_set2 it_all it_put it_put2 it_ok
set_option maxRecDepth 20000 in
theorem sameItem_eq (W : World) (dl : Bool) (p : Int) (a a' : Option Addr) (n c c' : Nat) (hn : n ≤ 1000000000000) (L : List (List UInt8)) (hX : Rw encS 1 W a n L) (hX' : Rw encS 1 W a' n L) : Calls Try.prog 45 #[.agg (itemE dl p a n c).toArray, .agg (itemE dl p a' n c').toArray] W fun e W' => e = .returned (.bool true) ∧ W.Extends W' := by
  have HX : Hid (Rw encS 1 W a n L) := hX
  have HX' : Hid (Rw encS 1 W a' n L) := hX'
  clear hX hX'
  go_enter Try.func45, Try.ntmps45
  go_upto_region 1 with fail
  refine wp_world (fun W0 => blk W0 W.heap.size = some (itemE dl p a n c) ∧ blk W0 (W.heap.size + 1) = some (itemE dl p a' n c') ∧ Hid (W.Extends W0)) ⟨?_, ?_, extends_alloc (extends_alloc (ext_Ext (Ext.refl _)) _) _⟩ ?_
  · rw [blk_alloc, if_neg (by rw [World.size_alloc]; omega), blk_alloc, if_pos rfl]
  · rw [blk_alloc, if_pos (by rw [World.size_alloc])]
  rintro W0 ⟨h2, h3, HE⟩
  cases dl
  all_goals
    go_wp2_with fail
    refine (same_eq W0 a a' n c c' hn L (HX.out.grow HE.out) (HX'.out.grow HE.out)).mono ?_
    rintro e W1 ⟨rfl, k, rfl⟩
    dsimp only
    go_wp2_with fail
    go_ret
    exact ⟨rfl, extends_drewN HE.out k⟩
end Go.Proofs.Qxb6500787a
