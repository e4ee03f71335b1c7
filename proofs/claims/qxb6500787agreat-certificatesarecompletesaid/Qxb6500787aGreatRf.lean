
import Derived.Test.Qxb6500787aGreatRe
import Derived.StillTailTactics
import Derived.Deep.QuietTactic
import Derived.BigQuiet
import Derived.Deep.RegionHeld
import Derived.Deep.CutRange
import Derived.Laws.ResultCell
import Derived.Laws.Rows
import Derived.DeepKeys
import Derived.DataBytes
import Derived.Laws.StructEq
import Derived.Laws.AppendOwn
import Derived.Laws.MakeOwn
set_option linter.unusedSimpArgs false
set_option linter.unusedVariables false
namespace Go.Proofs.Qxb6500787aGreat
open Go.RowKit Go.Blk
attribute [local go_sem ↓] execOp_load execOp_store execOp_alloc
attribute [local go_sem] Tryz.ld26 Tryz.st26 Tryz.ld27 Tryz.st27 Tryz.ld28 Tryz.st28 Tryz.ld3 Tryz.st3 Tryz.ld29 Tryz.st29 Tryz.ld4 Tryz.st4 Tryz.ld50 Tryz.st50 Tryz.ld68 Tryz.st68 Tryz.ld9 Tryz.st9 Tryz.ld2 Tryz.st2 Tryz.ld5 Tryz.st5 Tryz.ld12 Tryz.st12 Tryz.ld21 Tryz.st21 Tryz.ld22 Tryz.st22 Tryz.ld24 Tryz.st24 Tryz.ld32 Tryz.st32 Tryz.ld40 Tryz.st40 Tryz.ld44 Tryz.st44 Tryz.ld49 Tryz.st49 Tryz.ld58 Tryz.st58 Tryz.ld97 Tryz.st97 Tryz.ld101 Tryz.st101 Tryz.ld116 Tryz.st116 Tryz.ld121 Tryz.st121 Tryz.ld135 Tryz.st135 Tryz.ld136 Tryz.st136 Tryz.ld138 Tryz.st138 Tryz.ld139 Tryz.st139 Tryz.ld142 Tryz.st142 Tryz.ld143 Tryz.st143 Tryz.ld146 Tryz.st146 Tryz.ld148 Tryz.st148 Tryz.ld154 Tryz.st154 Tryz.ld159 Tryz.st159 Tryz.ld173 Tryz.st173 Tryz.ld183 Tryz.st183 Tryz.ld184 Tryz.st184 Tryz.ld187 Tryz.st187 Tryz.ld192 Tryz.st192 Tryz.ld195 Tryz.st195 Tryz.ld217 Tryz.st217 Tryz.ld222 Tryz.st222 Tryz.ld241 Tryz.st241 Tryz.ld248 Tryz.st248 Tryz.ld268 Tryz.st268 Tryz.ld272 Tryz.st272 Tryz.ld129 Tryz.st129 Tryz.ld31 Tryz.st31 Tryz.ld52 Tryz.st52 Tryz.ld70 Tryz.st70 Tryz.ld74 Tryz.st74 Tryz.ld93 Tryz.st93 Tryz.al129 Tryz.al31 Tryz.al52 Tryz.al70 Tryz.al74 Tryz.al93
attribute [local go_sem] Request.length_enc Request.ok_enc Request.all_get Request.all_set Request.kind_get Request.kind_set Request.blob_get Request.blob_set Request.items_get Request.items_set Request.pred_get Request.pred_set Request.slots_get Request.slots_set Item.length_enc Item.ok_enc Item.all_get Item.all_set Item.del_get Item.del_set Item.pred_get Item.pred_set Item.args_get Item.args_set GOp.length_enc GOp.ok_enc GOp.all_get GOp.all_set GOp.kind_get GOp.kind_set GOp.raw_get GOp.raw_set Reader.length_enc Reader.ok_enc Reader.all_get Reader.all_set Reader.buf_get Reader.buf_set Reader.at__get Reader.at__set Slot.length_enc Slot.ok_enc Slot.all_get Slot.all_set Slot.bound_get Slot.bound_set Slot.name_get Slot.name_set
attribute [local go_sem] size_put size_ext blk_put free_put blk_alloc free_alloc blk_drew free_drew blk_ext free_ext lookOr_some putOr_some segAt_some cellAt_some storeIn_some put_put put_alloc_new length_arr ok_arr_u8 ok_arr_u32 ok_arr_u64 ok_arr_i64 ok_arr_sl cellsV_agg cellsV_int cellsV_bool cellsV_string cellsV_pointer cellsV_slice cellsV_sl ok_int ok_bool ok_string ok_pointer ok_slice ok_sl toList_arr seg_arr set_arr nth_splice nth_splice0 seg_splice seg_splice0 splice_splice splice_splice0 length_splice_if
attribute [local go_sem ↓] execOp_box
attribute [local go_sem] box_run nth_arr_u8 put_arr_u8 blk_drewN free_drewN put_drewN blk_raw free_raw
set_option maxRecDepth 100000 in
theorem frame48 (f : Nat → Value) : frameN 48 f = #[f 0, f 1, f 2, f 3, f 4, f 5, f 6, f 7, f 8, f 9, f 10, f 11, f 12, f 13, f 14, f 15, f 16, f 17, f 18, f 19, f 20, f 21, f 22, f 23, f 24, f 25, f 26, f 27, f 28, f 29, f 30, f 31, f 32, f 33, f 34, f 35, f 36, f 37, f 38, f 39, f 40, f 41, f 42, f 43, f 44, f 45, f 46, f 47] := by kernel_rfl
/-- An item in memory: its deletion mark, its predicate, the slice of its names. -/
abbrev Dsc := Bool × Int × Option Addr × Nat × Nat
def encD (d : Dsc) : List Value := itemE d.1 d.2.1 d.2.2.1 d.2.2.2.1 d.2.2.2.2
theorem encD_len (d : Dsc) : (encD d).length = 3 := rfl
theorem encD_one (d : Dsc) : (encD d).all (fun v => v.oneCell') = true := rfl
abbrev It := Bool × Int × List (List UInt8)
def ItemOk (W : World) (B : Nat) (d : Dsc) (it : It) : Prop := d.1 = it.1 ∧ d.2.1 = it.2.1 ∧ W.ownsRow B 9 1 (.slice d.2.2.1 d.2.2.2.1 d.2.2.2.2) it.2.2.length (it.2.2.flatMap encS)
def ItemsOk (W : World) (B : Nat) (K : List Dsc) (L : List It) : Prop := K.length = L.length ∧ ∀ (i : Nat) (d : Dsc) (it : It), K[i]? = some d → L[i]? = some it → ItemOk W B d it
/-- Blocks of names are as they were. -/
def Keep9 (B : Nat) (W W' : World) : Prop := ∀ k cur fz, B ≤ k → W.heap[k]? = some (.cells cur 9 fz) → W'.heap[k]? = W.heap[k]?
theorem Keep9.of_extends {B : Nat} {W W' : World} (h : W.Extends W') : Keep9 B W W' := fun k cur fz _ hk => h.block k (Array.getElem?_eq_some_iff.1 hk).1
theorem Keep9.of_side {B br : Nat} {W W' : World} (h : Side (isR br) W W') (hb : br < B) : Keep9 B W W' := fun k cur fz hB hk => h.block k (Array.getElem?_eq_some_iff.1 hk).1 (fun e => by have e' : k = br := e; omega)
theorem Keep9.of_grown {B B' : Nat} {W W' : World} {v : Value} {e : TypeId} {sz n : Nat} {xs : List Value} (hg : W.grownBy W' v.ownBlock) (ho : W.ownsRow B' e sz v n xs) (he : e ≠ 9) : Keep9 B W W' := fun k cur fz _ hk => hg.block k (Array.getElem?_eq_some_iff.1 hk).1 (fun e1 => by
  obtain ⟨_, _, cur', fz', h3⟩ := row_at ho k e1.symm
  rw [hk] at h3
  injection h3 with h4
  injection h4 with _ h5
  exact he h5.symm)
theorem Keep9.trans {B : Nat} {W W' W'' : World} (h : Keep9 B W W') (h' : Keep9 B W' W'') : Keep9 B W W'' := fun k cur fz hB hk => (h' k cur fz hB ((h k cur fz hB hk).trans hk)).trans (h k cur fz hB hk)
theorem Keep9.put {B b : Nat} {W : World} {C D : List Value} (h : blk W b = some C) (hm : W.heap[b]?.map (fun o => match o with | .cells _ t _ => t | _ => 0) ≠ some 9) : Keep9 B W (Blk.put W b D) := fun k cur fz hB hk => by
  rw [heap_put, if_neg (fun e => by subst e; rw [hk] at hm; exact hm rfl)]
theorem ItemOk.keep {W W' : World} {B : Nat} {d : Dsc} {it : It} (h : ItemOk W B d it) (hk : Keep9 B W W') : ItemOk W' B d it :=
  ⟨h.1, h.2.1, row_keep h.2.2 (fun k hb => by obtain ⟨h1, _, cur, fz, h3⟩ := row_at h.2.2 k hb; exact hk k cur fz h1 h3)⟩
theorem ItemsOk.keep {W W' : World} {B : Nat} {K : List Dsc} {L : List It} (h : ItemsOk W B K L) (hk : Keep9 B W W') : ItemsOk W' B K L := ⟨h.1, fun i d it h1 h2 => (h.2 i d it h1 h2).keep hk⟩
theorem ItemsOk.snoc {W : World} {B : Nat} {K : List Dsc} {L : List It} {d : Dsc} {it : It} (h : ItemsOk W B K L) (hd : ItemOk W B d it) : ItemsOk W B (K ++ [d]) (L ++ [it]) := by
  refine ⟨by simp [h.1], fun i d' it' h1 h2 => ?_⟩
  by_cases hi : i < K.length
  · rw [List.getElem?_append_left hi] at h1
    rw [List.getElem?_append_left (by rw [← h.1]; exact hi)] at h2
    exact h.2 i d' it' h1 h2
  · rw [List.getElem?_append_right (by omega)] at h1
    rw [List.getElem?_append_right (by rw [← h.1]; omega), ← h.1] at h2
    have hi0 : i - K.length = 0 := by
      have := (List.getElem?_eq_some_iff.1 h1).1
      simp at this; omega
    rw [hi0] at h1 h2
    simp at h1 h2
    subst h1 h2
    exact hd
def goB : Nat → List It → List UInt8 → Int × List It × List UInt8
  | 0, acc, ys => (0, acc, ys)
  | m + 1, acc, ys => if (tagF ys).1 = 0 then if (factF (tagF ys).2.2).1 = 0 then goB m (acc ++ [((tagF ys).2.1, (factF (tagF ys).2.2).2.1, (factF (tagF ys).2.2).2.2.1)]) (factF (tagF ys).2.2).2.2.2 else ((factF (tagF ys).2.2).1, [], []) else ((tagF ys).1, [], [])
theorem goB_bad1 {m : Nat} {acc : List It} {ys : List UInt8} (h : (tagF ys).1 ≠ 0) : goB (m + 1) acc ys = ((tagF ys).1, [], []) := by show (if _ then _ else _) = _; rw [if_neg h]
theorem goB_bad2 {m : Nat} {acc : List It} {ys : List UInt8} (h : (tagF ys).1 = 0) (h2 : (factF (tagF ys).2.2).1 ≠ 0) : goB (m + 1) acc ys = ((factF (tagF ys).2.2).1, [], []) := by show (if _ then _ else _) = _; rw [if_pos h, if_neg h2]
theorem goB_ok {m : Nat} {acc : List It} {ys : List UInt8} (h : (tagF ys).1 = 0) (h2 : (factF (tagF ys).2.2).1 = 0) : goB (m + 1) acc ys = goB m (acc ++ [((tagF ys).2.1, (factF (tagF ys).2.2).2.1, (factF (tagF ys).2.2).2.2.1)]) (factF (tagF ys).2.2).2.2.2 := by show (if _ then _ else _) = _; rw [if_pos h, if_pos h2]
def batchF : List UInt8 → Int × List It × List UInt8
  | [] => (5, [], [])
  | k :: r => if 32 < k.toNat then (16, [], []) else goB k.toNat [] r
theorem batchF_cons (k : UInt8) (r : List UInt8) : batchF (k :: r) = if 32 < k.toNat then (16, [], []) else goB k.toNat [] r := rfl
theorem bslice28_lit (w : World) (x0 x1 x2 : Value) : (bsliceOp 34 1 #[(0, .agg #[x0, x1, x2])]).run Tryz.prog w = .ok (.value (.slice (some ⟨w.heap.size, 0, none⟩) 1 1)) (w.alloc (.cells #[x0, x1, x2] 67)) := by kernel_rfl
theorem bslice28 (w : World) (d : Bool) (p : Int) (a : Option Addr) (n c : Nat) : (bsliceOp 34 1 #[(0, .agg (itemE d p a n c).toArray)]).run Tryz.prog w = .ok (.value (.slice (some ⟨w.heap.size, 0, none⟩) 1 1)) (w.alloc (.cells (itemE d p a n c).toArray 67)) := bslice28_lit w _ _ _
def BatchPost (w0 : World) (br : Nat) (a : Option Addr) (n c : Nat) (xs : List UInt8) (W : World) (q : Int × List It × List UInt8) (e : Ending) (W' : World) : Prop :=
  ∃ (sa : Option Addr) (sn sc : Nat), e = .returned (.tuple #[.slice sa sn sc, .int .i64 q.1]) ∧ (q.1 = 0 → ∃ K, W'.ownsRow W.heap.size 67 3 (.slice sa sn sc) K.length (K.flatMap encD) ∧ ItemsOk W' W.heap.size K q.2.1) ∧ RPost w0 br a n c xs W q.1 q.2.2 W'
def BQ (w0 W0 : World) (br : Nat) (a : Option Addr) (n c : Nat) (xs : List UInt8) (k : Nat) (tot : Int × List It × List UInt8) (a' : Option Addr) (n' c' i : Nat) (K : List Dsc) (L : List It) (p : Nat) (W : World) : Prop :=
  n' = K.length ∧ W.ownsRow W0.heap.size 67 3 (.slice a' n' c') K.length (K.flatMap encD) ∧ ItemsOk W W0.heap.size K L ∧ n' ≤ i ∧ Rdr w0 br a n c p W ∧ Side (isR br) W0 W ∧ goB (k - i) L (xs.drop p) = tot
def baI (w0 W0 : World) (br : Nat) (a : Option Addr) (n c : Nat) (xs : List UInt8) (k : Nat) (tot : Int × List It × List UInt8) (f : Nat → Value) (W : World) : Prop :=
  f 0 = .pointer (some ⟨br, 0, none⟩) ∧ f 4 = .int .i64 (k : Nat) ∧ ∃ (i : Nat) (a' : Option Addr) (n' c' : Nat) (K : List Dsc) (L : List It) (p : Nat), i ≤ k ∧ f 7 = .int .i64 (i : Nat) ∧ f 6 = .slice a' n' c' ∧ Hid (BQ w0 W0 br a n c xs k tot a' n' c' i K L p W)
attribute [local go_sem] rd_len rd0 rd1 rd_set1 it_len it0 it1 it2 it_set0 it_set2 it_all it_put it_put2 it_ok build52z build52p bslice28
attribute [local go_sem ↓] execOp_slice execOp_convert execOp_build execOp_bslice
set_option maxRecDepth 20000 in
set_option maxHeartbeats 2000000 in
theorem batch_any (w0 W : World) (br : Nat) (a : Option Addr) (n c p : Nat) (hR : Rdr w0 br a n c p W) (hn : n ≤ 65536) (hnc : n ≤ c) (hc : c ≤ 9223372036854775807) (xs : List UInt8) (hX : Bs w0 a n xs) : Calls Tryz.prog 97 #[.pointer (some ⟨br, 0, none⟩)] W (BatchPost w0 br a n c xs W (batchF (xs.drop p))) := by
  have HR : Hid (Rdr w0 br a n c p W) := hR
  have HX : Hid (Bs w0 a n xs) := hX
  have hpn : p ≤ n := hR.2.2.2.2
  have hwbr : w0.heap.size ≤ br := hR.2.2.2.1
  have hxl := hX.1
  have hbr := blk_lt hR.1
  clear hR hX
  go_enter Tryz.func97, Tryz.ntmps97
  by_cases hp : p = n
  · have HQ : Hid (batchF (xs.drop p) = (5, [], [])) := by show _ = _; rw [List.drop_of_length_le (by omega)]; rfl
    go_wp2_with fail
    refine (u8_none w0 W br a n c p HR.out hn hnc hc xs HX.out hp).mono ?_
    rintro e W1 ⟨rfl, g1, g2⟩
    have HF : Hid (RPost w0 br a n c xs W 5 [] W1) := ⟨p, g1, g2, fun h => absurd h (by decide)⟩
    clear g1 g2
    dsimp only
    go_wp2_with fail
    go_ret2
    rw [HQ.out]
    exact ⟨none, 0, 0, rfl, fun h => absurd h (by decide), HF.out⟩
  obtain ⟨x, hx⟩ : ∃ x, xs[p]? = some x := ⟨_, List.getElem?_eq_getElem (by omega)⟩
  obtain ⟨k, hk⟩ : ∃ k, k = x.toNat := ⟨_, rfl⟩
  have HD : Hid (xs.drop p = x :: xs.drop (p + 1)) := drop_at hx
  have HXp : Hid (xs[p]? = some x ∧ k = x.toNat) := ⟨hx, hk⟩
  clear hx hk
  go_wp2_with fail
  refine (u8_nat w0 W br a n c p HR.out hn hnc hc xs HX.out x HXp.out.1 k HXp.out.2).mono ?_
  rintro e W1 ⟨rfl, g1, g2⟩
  have HR1 : Hid (Rdr w0 br a n c (p + 1) W1) := g1
  have HS1 : Hid (Side (isR br) W W1) := g2
  clear g1 g2
  dsimp only
  by_cases h32 : (32 : Int) < (k : Int)
  · have HQ : Hid (batchF (xs.drop p) = (16, [], [])) := by
      show _ = _
      rw [HD.out, batchF_cons, if_pos (by rw [← HXp.out.2]; omega)]
    have HF : Hid (RPost w0 br a n c xs W 16 [] W1) := ⟨p + 1, HR1.out, HS1.out, fun h => absurd h (by decide)⟩
    go_wp2_with fail
    go_ret2
    rw [HQ.out]
    exact ⟨none, 0, 0, rfl, fun h => absurd h (by decide), HF.out⟩
  obtain ⟨tot, htot⟩ : ∃ tot, tot = goB k [] (xs.drop (p + 1)) := ⟨_, rfl⟩
  have HQ0 : Hid (batchF (xs.drop p) = tot) := by
    show _ = _
    rw [HD.out, batchF_cons, if_neg (by rw [← HXp.out.2]; omega), ← HXp.out.2, ← htot]
  have H0 : Hid (BQ w0 W br a n c xs k tot none 0 0 0 [] [] (p + 1) W1) := ⟨rfl, ⟨rfl, .inl ⟨rfl, rfl⟩⟩, ⟨rfl, fun i d it h => by simp at h⟩, by omega, HR1.out, HS1.out, htot.symm⟩
  clear htot HR1 HS1
  go_wp2_with fail
  refine wp_loop_f 48 (baI w0 W br a n c xs k tot) (fun f _ => k - (intOf (f 7)).toNat) rfl ?_ ?_
  · exact ⟨rfl, rfl, 0, none, 0, 0, [], [], p + 1, by omega, rfl, rfl, H0⟩
  clear H0
  intro F V hrel
  obtain ⟨f0, f4, i, a', n', c', K, L, p', hi, f7, f6, HQi⟩ := hrel
  have H7 : Hid (F 7 = .int .i64 (i : Nat)) := f7
  rw [frame48, f0, f4, f6, f7]
  clear f0 f4 f6 f7
  by_cases hik : i < k
  · have hik' : (i : Int) < (k : Int) := by omega
    go_wp2_with fail
    refine (tag_any w0 V br a n c p' HQi.out.2.2.2.2.1 hn hnc hc xs HX.out).mono ?_
    rintro e V1 ⟨rfl, p2, hR2, hS2, hrest⟩
    obtain ⟨h1, h2, h3, h4', h5, h6, h7⟩ := HQi.out
    obtain ⟨cd, hcd⟩ : ∃ cd, cd = (tagF (xs.drop p')).1 := ⟨_, rfl⟩
    obtain ⟨dl, hdl⟩ : ∃ dl, dl = (tagF (xs.drop p')).2.1 := ⟨_, rfl⟩
    rw [← hcd, ← hdl]
    rw [← hcd] at hrest
    by_cases hz : cd = 0
    · have hrest' : xs.drop p2 = (tagF (xs.drop p')).2.2 := hrest hz
      have HRow : Hid (V1.ownsRow W.heap.size 67 3 (.slice a' n' c') K.length (K.flatMap encD)) := row_keep h2 (fun k hk => hS2.block k (row_at h2 k hk).2.1 (fun e => by have := (row_at h2 k hk).1; have e' : k = br := e; omega))
      have HIt : Hid (ItemsOk V1 W.heap.size K L) := h3.keep (Keep9.of_side hS2 hbr)
      have HS : Hid (Side (isR br) W V1) := h6.trans hS2
      have HRd : Hid (Rdr w0 br a n c p2 V1) := hR2
      have HK0 : Hid (n' = K.length ∧ n' ≤ i ∧ goB (k - i) L (xs.drop p') = tot) := ⟨h1, h4', h7⟩
      have HT : Hid (cd = (tagF (xs.drop p')).1 ∧ cd = 0 ∧ dl = (tagF (xs.drop p')).2.1 ∧ xs.drop p2 = (tagF (xs.drop p')).2.2) := ⟨hcd, hz, hdl, hrest'⟩
      clear h1 h2 h3 h4' h5 h6 h7 hR2 hS2 hrest hrest' hcd hdl HQi
      subst hz
      dsimp only
      go_wp2_with fail
      refine (fact_any w0 V1 br a n c p2 HRd.out hn hnc hc xs HX.out).mono ?_
      rintro e V2 ⟨pr, pa, pn, pc, rfl, hit, p3, hR3, hS3, hrest3⟩
      obtain ⟨cd2, hcd2⟩ : ∃ cd, cd = (factF (xs.drop p2)).1 := ⟨_, rfl⟩
      rw [← hcd2]
      rw [← hcd2] at hit hrest3
      have HR3 : Hid (Rdr w0 br a n c p3 V2) := hR3
      have HSV2 : Hid (Side (isR br) W V2) := HS.out.trans hS3
      have l3 := blk_lt hR3.1
      have hB1 : W.heap.size ≤ V1.heap.size := HS.out.size
      have hB2 : W.heap.size ≤ V2.heap.size := HSV2.out.size
      by_cases hz2 : cd2 = 0
      · obtain ⟨hpr, hnm⟩ := hit hz2
        have hr3 := hrest3 hz2
        have HI2 : Hid (ItemOk V2 W.heap.size (dl, pr, pa, pn, pc) (dl, (factF (xs.drop p2)).2.1, (factF (xs.drop p2)).2.2.1)) := ⟨rfl, hpr, row_base hnm hB1⟩
        have HRow2 : Hid (V2.ownsRow W.heap.size 67 3 (.slice a' n' c') K.length (K.flatMap encD)) := row_keep HRow.out (fun k hk => hS3.block k (row_at HRow.out k hk).2.1 (fun e => by have := (row_at HRow.out k hk).1; have e' : k = br := e; omega))
        have HIt2 : Hid (ItemsOk V2 W.heap.size K L) := HIt.out.keep (Keep9.of_side hS3 hbr)
        have HGO : Hid (goB (k - (i + 1)) (L ++ [(dl, (factF (xs.drop p2)).2.1, (factF (xs.drop p2)).2.2.1)]) (xs.drop p3) = tot) := by
          show _ = _
          obtain ⟨t1, t2, t3, t4⟩ := HT.out
          rw [hr3, t4, ← HK0.out.2.2, show k - i = (k - (i + 1)) + 1 by omega, goB_ok (by rw [← t1]) (by rw [← t4, ← hcd2]; exact hz2), t3]
        obtain ⟨it, hitd⟩ : ∃ it, it = (dl, (factF (xs.drop p2)).2.1, (factF (xs.drop p2)).2.2.1) := ⟨_, rfl⟩
        rw [← hitd] at HI2 HGO
        clear hit hrest3 hcd2 hpr hnm hr3 hitd hR3 hS3 HRow HIt HS HRd HT
        subst hz2
        dsimp only
        go_upto_region 17 with fail
        refine wp_world (fun V4 => blk V4 V2.heap.size = some (itemE dl pr pa pn pc) ∧ Hid (V2.Extends V4)) ⟨?_, ?_⟩ ?_
        · first | (rw [blk_put, if_pos rfl, blk_put, if_pos rfl, blk_alloc, if_pos rfl]; rfl) | (rw [blk_put, if_pos rfl, blk_alloc, if_pos rfl]; rfl) | (rw [blk_alloc, if_pos rfl])
        · first | exact extends_alloc (ext_Ext (Ext.refl _)) _ | exact (Side.put (D := fun k => k = V2.heap.size) (Side.refl _ _) rfl _).extends (extends_alloc (ext_Ext (Ext.refl _)) _) (fun k hk => by omega) | exact (Side.put (D := fun k => k = V2.heap.size) (Side.put (D := fun k => k = V2.heap.size) (Side.refl _ _) rfl _) rfl _).extends (extends_alloc (ext_Ext (Ext.refl _)) _) (fun k hk => by omega)
        rintro V4 ⟨h10, HX4⟩
        obtain ⟨b10, hb10⟩ : ∃ b, b = V2.heap.size := ⟨_, rfl⟩
        rw [← hb10] at h10 ⊢
        have l10 := blk_lt h10
        have hrow4 : V4.ownsRow W.heap.size 67 3 (.slice a' n' c') K.length (K.flatMap encD) := row_keep HRow2.out (fun k hk => HX4.out.block k (row_at HRow2.out k hk).2.1)
        have hx5 : V4.Extends (V4.alloc (.cells (itemE dl pr pa pn pc).toArray 67)) := extends_alloc (ext_Ext (Ext.refl _)) _
        have hrow5 : (V4.alloc (.cells (itemE dl pr pa pn pc).toArray 67)).ownsRow W.heap.size 67 3 (.slice a' n' c') K.length (K.flatMap encD) := row_keep hrow4 (fun k hk => hx5.block k (row_at hrow4 k hk).2.1)
        have hBV4 : W.heap.size ≤ (V4.alloc (.cells (itemE dl pr pa pn pc).toArray 67)).heap.size := Nat.le_trans (Nat.le_trans hB2 HX4.out.size) hx5.size
        obtain ⟨v', V6, hrun, ho, hg, _⟩ := appG encD 3 40 34 67 Tryz.underlying34 info52 encD_len encD_one (by omega) (by omega) W.heap.size (V4.alloc (.cells (itemE dl pr pa pn pc).toArray 67)) 34 (.slice a' n' c') K (dl, pr, pa, pn, pc) V4.heap.size 1 hrow5 ((blk_alloc _ _ _ _).trans (if_pos rfl)) hBV4 (by have := HK0.out.1; have := HK0.out.2.1; omega)
        obtain ⟨a'', c'', rfl⟩ := row_val ho
        have hm1 : (K ++ [(dl, pr, pa, pn, pc)]).length = n' + 1 := by rw [List.length_append, List.length_singleton, HK0.out.1]
        rw [hm1] at hrun
        have hk9 : Keep9 W.heap.size V2 V6 := ((Keep9.of_extends HX4.out).trans (Keep9.of_extends hx5)).trans (Keep9.of_grown hg hrow5 (by decide))
        have HQ' : Hid (BQ w0 W br a n c xs k tot a'' (n' + 1) c'' (i + 1) (K ++ [(dl, pr, pa, pn, pc)]) (L ++ [it]) p3 V6) := by
          refine ⟨hm1.symm, by rw [← hm1]; exact ho, (HIt2.out.snoc HI2.out).keep hk9, by have := HK0.out.2.1; omega, ?_, ((HSV2.out.ext HX4.out).ext hx5).grown hg (fun k hk => (row_at hrow5 k hk).1), HGO.out⟩
          obtain ⟨r1, r2, r3, r4, r5⟩ := HR3.out
          have hbk : V6.heap[br]? = V2.heap[br]? := (hg.block br (by have := HX4.out.size; have := hx5.size; omega) (fun e => by have := (row_at hrow5 br e.symm).1; omega)).trans ((hx5.block br (by have := HX4.out.size; omega)).trans (HX4.out.block br l3))
          exact ⟨(blk_of_heap hbk).trans r1, (free_of_heap hbk).trans r2, grown_ext ((r3.trans HX4.out).trans hx5) hg (fun k hk => by have := (row_at hrow5 k hk).1; omega), r4, r5⟩
        have n10 : ¬ b10 = V4.heap.size := by omega
        clear hrow4 hrow5 hBV4 hx5 ho hg hk9 hm1 HX4 hb10
        go_wp2_with (at_builtin; refine wpList_append_run rfl _ _ 34 rfl _ _ _ _ rfl rfl hrun ?_)
        refine ⟨rfl, rfl, ⟨rfl, rfl, i + 1, a'', n' + 1, c'', K ++ [(dl, pr, pa, pn, pc)], L ++ [it], p3, by omega, ?_, rfl, HQ'⟩, ?_⟩
        · show Value.int .i64 _ = _
          go_num
        · show k - (intOf (Value.int .i64 _)).toNat < k - (intOf (F 7)).toNat
          rw [H7.out]
          simp [intOf]; omega
      · have HQ : Hid (batchF (xs.drop p) = (cd2, [], [])) := by
          show _ = _
          obtain ⟨t1, t2, t3, t4⟩ := HT.out
          rw [HQ0.out, ← HK0.out.2.2, show k - i = (k - (i + 1)) + 1 by omega, goB_bad2 (by rw [← t1]) (by rw [← t4, ← hcd2]; exact hz2), ← t4, ← hcd2]
        have hx9 : V2.Extends (V2.alloc (.cells (itemE false pr pa pn pc).toArray 67)) := extends_alloc (ext_Ext (Ext.refl _)) _
        have HF : ∀ V9, Hid (V2.Extends V9 → RPost w0 br a n c xs W cd2 [] V9) := fun V9 he => ⟨p3, HR3.out.ext he, HSV2.out.ext he, fun h => absurd h hz2⟩
        clear hit hrest3 hcd2 hR3 hS3
        dsimp only
        go_wp2_with fail
        go_ret2
        rw [HQ.out]
        exact ⟨none, 0, 0, rfl, fun h => absurd h hz2, (HF _).out (by first | exact hx9 | exact (Side.put (D := fun k => k = V2.heap.size) (Side.refl _ _) rfl _).extends (extends_alloc (ext_Ext (Ext.refl _)) _) (fun k hk => by omega))⟩
    · have HQ : Hid (batchF (xs.drop p) = (cd, [], [])) := by
        show _ = _
        rw [HQ0.out, ← h7, show k - i = (k - (i + 1)) + 1 by omega, goB_bad1 (by rw [← hcd]; exact hz), ← hcd]
      have HF : Hid (RPost w0 br a n c xs W cd [] V1) := ⟨p2, hR2, h6.trans hS2, fun h => absurd h hz⟩
      clear h1 h2 h3 h4' h5 h6 h7 hR2 hS2 hrest hcd hdl HQi
      dsimp only
      go_wp2_with fail
      go_ret2
      rw [HQ.out]
      exact ⟨none, 0, 0, rfl, fun h => absurd h hz, HF.out⟩
  · obtain rfl : i = k := by omega
    obtain ⟨h1, h2, h3, h4', h5, h6, h7⟩ := HQi.out
    have HQ : Hid (batchF (xs.drop p) = (0, L, xs.drop p')) := by
      show _ = _
      rw [HQ0.out, ← h7, Nat.sub_self]; rfl
    have hik' : ¬ ((i : Int) < (i : Int)) := by omega
    have HF : Hid (BatchPost w0 br a n c xs W (0, L, xs.drop p') (.returned (.tuple #[.slice a' n' c', .int .i64 0])) V) := ⟨a', n', c', rfl, fun _ => ⟨K, h2, h3⟩, p', h5, h6, fun _ => rfl⟩
    clear h1 h2 h3 h4' h5 h6 h7 HQi
    go_wp2_with fail
    go_ret2
    rw [HQ.out]
    exact HF.out
end Go.Proofs.Qxb6500787aGreat
