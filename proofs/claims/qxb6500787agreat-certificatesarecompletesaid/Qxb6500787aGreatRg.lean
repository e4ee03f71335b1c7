
import Derived.Test.Qxb6500787aGreatRf
import Derived.StillTailTactics
import Derived.Deep.QuietTactic
import Derived.BigQuiet
import Derived.Deep.RegionHeld
import Derived.Deep.CutRange
import Derived.Laws.ResultCell
import Derived.Laws.Rows
import Derived.DeepKeys
import Derived.DataBytes
import Derived.Laws.StructEq
import Derived.Laws.AppendOwn
import Derived.Laws.MakeOwn
set_option linter.unusedSimpArgs false
set_option linter.unusedVariables false
namespace Go.Proofs.Qxb6500787aGreat
open Go.RowKit Go.Blk
attribute [local go_sem ↓] execOp_load execOp_store execOp_alloc
attribute [local go_sem] Tryz.ld26 Tryz.st26 Tryz.ld27 Tryz.st27 Tryz.ld28 Tryz.st28 Tryz.ld3 Tryz.st3 Tryz.ld29 Tryz.st29 Tryz.ld4 Tryz.st4 Tryz.ld50 Tryz.st50 Tryz.ld68 Tryz.st68 Tryz.ld9 Tryz.st9 Tryz.ld2 Tryz.st2 Tryz.ld5 Tryz.st5 Tryz.ld12 Tryz.st12 Tryz.ld21 Tryz.st21 Tryz.ld22 Tryz.st22 Tryz.ld24 Tryz.st24 Tryz.ld32 Tryz.st32 Tryz.ld40 Tryz.st40 Tryz.ld44 Tryz.st44 Tryz.ld49 Tryz.st49 Tryz.ld58 Tryz.st58 Tryz.ld97 Tryz.st97 Tryz.ld101 Tryz.st101 Tryz.ld116 Tryz.st116 Tryz.ld121 Tryz.st121 Tryz.ld135 Tryz.st135 Tryz.ld136 Tryz.st136 Tryz.ld138 Tryz.st138 Tryz.ld139 Tryz.st139 Tryz.ld142 Tryz.st142 Tryz.ld143 Tryz.st143 Tryz.ld146 Tryz.st146 Tryz.ld148 Tryz.st148 Tryz.ld154 Tryz.st154 Tryz.ld159 Tryz.st159 Tryz.ld173 Tryz.st173 Tryz.ld183 Tryz.st183 Tryz.ld184 Tryz.st184 Tryz.ld187 Tryz.st187 Tryz.ld192 Tryz.st192 Tryz.ld195 Tryz.st195 Tryz.ld217 Tryz.st217 Tryz.ld222 Tryz.st222 Tryz.ld241 Tryz.st241 Tryz.ld248 Tryz.st248 Tryz.ld268 Tryz.st268 Tryz.ld272 Tryz.st272 Tryz.ld129 Tryz.st129 Tryz.ld31 Tryz.st31 Tryz.ld52 Tryz.st52 Tryz.ld70 Tryz.st70 Tryz.ld74 Tryz.st74 Tryz.ld93 Tryz.st93 Tryz.al129 Tryz.al31 Tryz.al52 Tryz.al70 Tryz.al74 Tryz.al93
attribute [local go_sem] Request.length_enc Request.ok_enc Request.all_get Request.all_set Request.kind_get Request.kind_set Request.blob_get Request.blob_set Request.items_get Request.items_set Request.pred_get Request.pred_set Request.slots_get Request.slots_set Item.length_enc Item.ok_enc Item.all_get Item.all_set Item.del_get Item.del_set Item.pred_get Item.pred_set Item.args_get Item.args_set GOp.length_enc GOp.ok_enc GOp.all_get GOp.all_set GOp.kind_get GOp.kind_set GOp.raw_get GOp.raw_set Reader.length_enc Reader.ok_enc Reader.all_get Reader.all_set Reader.buf_get Reader.buf_set Reader.at__get Reader.at__set Slot.length_enc Slot.ok_enc Slot.all_get Slot.all_set Slot.bound_get Slot.bound_set Slot.name_get Slot.name_set
attribute [local go_sem] size_put size_ext blk_put free_put blk_alloc free_alloc blk_drew free_drew blk_ext free_ext lookOr_some putOr_some segAt_some cellAt_some storeIn_some put_put put_alloc_new length_arr ok_arr_u8 ok_arr_u32 ok_arr_u64 ok_arr_i64 ok_arr_sl cellsV_agg cellsV_int cellsV_bool cellsV_string cellsV_pointer cellsV_slice cellsV_sl ok_int ok_bool ok_string ok_pointer ok_slice ok_sl toList_arr seg_arr set_arr nth_splice nth_splice0 seg_splice seg_splice0 splice_splice splice_splice0 length_splice_if
attribute [local go_sem ↓] execOp_box
attribute [local go_sem] box_run nth_arr_u8 put_arr_u8 blk_drewN free_drewN put_drewN blk_raw free_raw
set_option maxRecDepth 100000 in
theorem frame49 (f : Nat → Value) : frameN 49 f = #[f 0, f 1, f 2, f 3, f 4, f 5, f 6, f 7, f 8, f 9, f 10, f 11, f 12, f 13, f 14, f 15, f 16, f 17, f 18, f 19, f 20, f 21, f 22, f 23, f 24, f 25, f 26, f 27, f 28, f 29, f 30, f 31, f 32, f 33, f 34, f 35, f 36, f 37, f 38, f 39, f 40, f 41, f 42, f 43, f 44, f 45, f 46, f 47, f 48] := by kernel_rfl
abbrev Slt := Bool × List UInt8
def slotE (b : Bool) (s : List UInt8) : List Value := Slot.enc ⟨b, ⟨s.toArray⟩⟩
def encL (d : Slt) : List Value := slotE d.1 d.2
theorem encL_len (d : Slt) : (encL d).length = 2 := rfl
theorem encL_one (d : Slt) : (encL d).all (fun v => v.oneCell') = true := rfl
theorem so_len (b : Bool) (s : List UInt8) : (slotE b s).length = 2 := rfl
theorem so_set0 (b b' : Bool) (s : List UInt8) : splice (slotE b s) 0 [.bool b'] = slotE b' s := rfl
theorem so_set1 (b : Bool) (s s' : List UInt8) : splice (slotE b s) 1 [.string ⟨s'.toArray⟩] = slotE b s' := rfl
theorem so_all (b : Bool) (s : List UInt8) : seg (slotE b s) 0 2 = slotE b s := rfl
theorem so_ok (b : Bool) (s : List UInt8) : okCells 2 (slotE b s) = true := rfl
def goS : Nat → List Slt → List UInt8 → Int × List Slt × List UInt8
  | 0, acc, ys => (0, acc, ys)
  | m + 1, acc, ys => if (tagF ys).1 = 0 then if (tagF ys).2.1 = true then if (nameF (tagF ys).2.2).1 = 0 then goS m (acc ++ [(true, (nameF (tagF ys).2.2).2.1)]) (nameF (tagF ys).2.2).2.2 else ((nameF (tagF ys).2.2).1, [], []) else goS m (acc ++ [(false, [])]) (tagF ys).2.2 else ((tagF ys).1, [], [])
theorem goS_bad1 {m : Nat} {acc : List Slt} {ys : List UInt8} (h : (tagF ys).1 ≠ 0) : goS (m + 1) acc ys = ((tagF ys).1, [], []) := by show (if _ then _ else _) = _; rw [if_neg h]
theorem goS_free {m : Nat} {acc : List Slt} {ys : List UInt8} (h : (tagF ys).1 = 0) (h1 : (tagF ys).2.1 = false) : goS (m + 1) acc ys = goS m (acc ++ [(false, [])]) (tagF ys).2.2 := by show (if _ then _ else _) = _; rw [if_pos h, if_neg (by rw [h1]; decide)]
theorem goS_bad2 {m : Nat} {acc : List Slt} {ys : List UInt8} (h : (tagF ys).1 = 0) (h1 : (tagF ys).2.1 = true) (h2 : (nameF (tagF ys).2.2).1 ≠ 0) : goS (m + 1) acc ys = ((nameF (tagF ys).2.2).1, [], []) := by show (if _ then _ else _) = _; rw [if_pos h, if_pos h1, if_neg h2]
theorem goS_ok {m : Nat} {acc : List Slt} {ys : List UInt8} (h : (tagF ys).1 = 0) (h1 : (tagF ys).2.1 = true) (h2 : (nameF (tagF ys).2.2).1 = 0) : goS (m + 1) acc ys = goS m (acc ++ [(true, (nameF (tagF ys).2.2).2.1)]) (nameF (tagF ys).2.2).2.2 := by show (if _ then _ else _) = _; rw [if_pos h, if_pos h1, if_pos h2]
def slotsF : List UInt8 → Int × List Slt × List UInt8
  | [] => (5, [], [])
  | k :: r => if 4 < k.toNat then (8, [], []) else goS k.toNat [] r
theorem slotsF_cons (k : UInt8) (r : List UInt8) : slotsF (k :: r) = if 4 < k.toNat then (8, [], []) else goS k.toNat [] r := rfl
theorem bslice29_lit (w : World) (x0 x1 : Value) : (bsliceOp 35 1 #[(0, .agg #[x0, x1])]).run Tryz.prog w = .ok (.value (.slice (some ⟨w.heap.size, 0, none⟩) 1 1)) (w.alloc (.cells #[x0, x1] 93)) := by kernel_rfl
theorem bslice29 (w : World) (b : Bool) (s : List UInt8) : (bsliceOp 35 1 #[(0, .agg (slotE b s).toArray)]).run Tryz.prog w = .ok (.value (.slice (some ⟨w.heap.size, 0, none⟩) 1 1)) (w.alloc (.cells (slotE b s).toArray 93)) := bslice29_lit w _ _
theorem Tryz.al93' (w : World) : (allocOp 93).run Tryz.prog w = .ok (.value (.pointer (some ⟨w.heap.size, 0, none⟩))) (w.alloc (.cells (slotE false []).toArray 93)) := Tryz.al93 w
def SlotsPost (w0 : World) (br : Nat) (a : Option Addr) (n c : Nat) (xs : List UInt8) (W : World) (q : Int × List Slt × List UInt8) (e : Ending) (W' : World) : Prop :=
  ∃ (sa : Option Addr) (sn sc : Nat), e = .returned (.tuple #[.slice sa sn sc, .int .i64 q.1]) ∧ (q.1 = 0 → W'.ownsRow W.heap.size 93 2 (.slice sa sn sc) q.2.1.length (q.2.1.flatMap encL)) ∧ RPost w0 br a n c xs W q.1 q.2.2 W'
def LQs (w0 W0 : World) (br : Nat) (a : Option Addr) (n c : Nat) (xs : List UInt8) (k : Nat) (tot : Int × List Slt × List UInt8) (a' : Option Addr) (n' c' i : Nat) (L : List Slt) (p : Nat) (W : World) : Prop :=
  n' = L.length ∧ W.ownsRow W0.heap.size 93 2 (.slice a' n' c') L.length (L.flatMap encL) ∧ n' ≤ i ∧ Rdr w0 br a n c p W ∧ Side (isR br) W0 W ∧ goS (k - i) L (xs.drop p) = tot
def slI (w0 W0 : World) (br : Nat) (a : Option Addr) (n c : Nat) (xs : List UInt8) (k : Nat) (tot : Int × List Slt × List UInt8) (f : Nat → Value) (W : World) : Prop :=
  f 0 = .pointer (some ⟨br, 0, none⟩) ∧ f 4 = .int .i64 (k : Nat) ∧ ∃ (i : Nat) (a' : Option Addr) (n' c' : Nat) (L : List Slt) (p : Nat), i ≤ k ∧ f 7 = .int .i64 (i : Nat) ∧ f 6 = .slice a' n' c' ∧ Hid (LQs w0 W0 br a n c xs k tot a' n' c' i L p W)
/-- One slot appended: what the loop's relation becomes. -/
theorem slot_step (w0 W0 : World) (br : Nat) (a : Option Addr) (n c : Nat) (xs : List UInt8) (k : Nat) (tot : Int × List Slt × List UInt8) (a' : Option Addr) (n' c' i : Nat) (L : List Slt) (p : Nat) (V : World) (b : Bool) (s : List UInt8) (hn : n' = L.length) (hrow : V.ownsRow W0.heap.size 93 2 (.slice a' n' c') L.length (L.flatMap encL)) (hi : n' ≤ i) (hi4 : i ≤ 300) (hR : Rdr w0 br a n c p V) (hS : Side (isR br) W0 V) (hbr : br < W0.heap.size) (hgo : goS (k - (i + 1)) (L ++ [(b, s)]) (xs.drop p) = tot) :
    ∃ a'' c'' V6, (Builtin.append_ #[35, 35] 35 #[.slice a' n' c', .slice (some ⟨V.heap.size, 0, none⟩) 1 1]).run Tryz.prog (V.alloc (.cells (slotE b s).toArray 93)) = .ok (.slice a'' (n' + 1) c'') V6 ∧ LQs w0 W0 br a n c xs k tot a'' (n' + 1) c'' (i + 1) (L ++ [(b, s)]) p V6 := by
  have hx5 : V.Extends (V.alloc (.cells (slotE b s).toArray 93)) := extends_alloc (ext_Ext (Ext.refl _)) _
  have hrow5 : (V.alloc (.cells (slotE b s).toArray 93)).ownsRow W0.heap.size 93 2 (.slice a' n' c') L.length (L.flatMap encL) := row_keep hrow (fun k hk => hx5.block k (row_at hrow k hk).2.1)
  obtain ⟨v', V6, hrun, ho, hg, _⟩ := appG encL 2 24 35 93 Tryz.underlying35 info93 encL_len encL_one (by omega) (by omega) W0.heap.size (V.alloc (.cells (slotE b s).toArray 93)) 35 (.slice a' n' c') L (b, s) V.heap.size 1 hrow5 ((blk_alloc _ _ _ _).trans (if_pos rfl)) (Nat.le_trans hS.size hx5.size) (by omega)
  obtain ⟨a'', c'', rfl⟩ := row_val ho
  have hm1 : (L ++ [(b, s)]).length = n' + 1 := by rw [List.length_append, List.length_singleton, hn]
  rw [hm1] at hrun
  refine ⟨a'', c'', V6, hrun, hm1.symm, by rw [← hm1]; exact ho, by omega, ?_, (hS.ext hx5).grown hg (fun k hk => (row_at hrow5 k hk).1), hgo⟩
  obtain ⟨r1, r2, r3, r4, r5⟩ := hR
  have l3 := blk_lt r1
  have hbk : V6.heap[br]? = V.heap[br]? := (hg.block br (by have := hx5.size; omega) (fun e => by have := (row_at hrow5 br e.symm).1; omega)).trans (hx5.block br l3)
  exact ⟨(blk_of_heap hbk).trans r1, (free_of_heap hbk).trans r2, grown_ext (r3.trans hx5) hg (fun k hk => by have := (row_at hrow5 k hk).1; omega), r4, r5⟩
attribute [local go_sem] rd_len rd0 rd1 rd_set1 so_len so_set0 so_set1 so_all so_ok bslice29 Tryz.al93'
attribute [-go_sem] Tryz.al93
attribute [local go_sem ↓] execOp_slice execOp_convert execOp_build execOp_bslice
set_option maxRecDepth 20000 in
set_option maxHeartbeats 2000000 in
theorem slots_any (w0 W : World) (br : Nat) (a : Option Addr) (n c p : Nat) (hR : Rdr w0 br a n c p W) (hn : n ≤ 65536) (hnc : n ≤ c) (hc : c ≤ 9223372036854775807) (xs : List UInt8) (hX : Bs w0 a n xs) : Calls Tryz.prog 98 #[.pointer (some ⟨br, 0, none⟩)] W (SlotsPost w0 br a n c xs W (slotsF (xs.drop p))) := by
  have HR : Hid (Rdr w0 br a n c p W) := hR
  have HX : Hid (Bs w0 a n xs) := hX
  have hpn : p ≤ n := hR.2.2.2.2
  have hwbr : w0.heap.size ≤ br := hR.2.2.2.1
  have hxl := hX.1
  have hbr := blk_lt hR.1
  clear hR hX
  go_enter Tryz.func98, Tryz.ntmps98
  by_cases hp : p = n
  · have HQ : Hid (slotsF (xs.drop p) = (5, [], [])) := by show _ = _; rw [List.drop_of_length_le (by omega)]; rfl
    go_wp2_with fail
    refine (u8_none w0 W br a n c p HR.out hn hnc hc xs HX.out hp).mono ?_
    rintro e W1 ⟨rfl, g1, g2⟩
    have HF : Hid (RPost w0 br a n c xs W 5 [] W1) := ⟨p, g1, g2, fun h => absurd h (by decide)⟩
    clear g1 g2
    dsimp only
    go_wp2_with fail
    go_ret2
    rw [HQ.out]
    exact ⟨none, 0, 0, rfl, fun h => absurd h (by decide), HF.out⟩
  obtain ⟨x, hx⟩ : ∃ x, xs[p]? = some x := ⟨_, List.getElem?_eq_getElem (by omega)⟩
  obtain ⟨k, hk⟩ : ∃ k, k = x.toNat := ⟨_, rfl⟩
  have HD : Hid (xs.drop p = x :: xs.drop (p + 1)) := drop_at hx
  have HXp : Hid (xs[p]? = some x ∧ k = x.toNat) := ⟨hx, hk⟩
  clear hx hk
  go_wp2_with fail
  refine (u8_nat w0 W br a n c p HR.out hn hnc hc xs HX.out x HXp.out.1 k HXp.out.2).mono ?_
  rintro e W1 ⟨rfl, g1, g2⟩
  have HR1 : Hid (Rdr w0 br a n c (p + 1) W1) := g1
  have HS1 : Hid (Side (isR br) W W1) := g2
  clear g1 g2
  dsimp only
  by_cases h32 : (4 : Int) < (k : Int)
  · have HQ : Hid (slotsF (xs.drop p) = (8, [], [])) := by
      show _ = _
      rw [HD.out, slotsF_cons, if_pos (by rw [← HXp.out.2]; omega)]
    have HF : Hid (RPost w0 br a n c xs W 8 [] W1) := ⟨p + 1, HR1.out, HS1.out, fun h => absurd h (by decide)⟩
    go_wp2_with fail
    go_ret2
    rw [HQ.out]
    exact ⟨none, 0, 0, rfl, fun h => absurd h (by decide), HF.out⟩
  obtain ⟨tot, htot⟩ : ∃ tot, tot = goS k [] (xs.drop (p + 1)) := ⟨_, rfl⟩
  have HQ0 : Hid (slotsF (xs.drop p) = tot) := by
    show _ = _
    rw [HD.out, slotsF_cons, if_neg (by rw [← HXp.out.2]; omega), ← HXp.out.2, ← htot]
  have H0 : Hid (LQs w0 W br a n c xs k tot none 0 0 0 [] (p + 1) W1) := ⟨rfl, ⟨rfl, .inl ⟨rfl, rfl⟩⟩, by omega, HR1.out, HS1.out, htot.symm⟩
  clear htot HR1 HS1
  go_wp2_with fail
  refine wp_loop_f 49 (slI w0 W br a n c xs k tot) (fun f _ => k - (intOf (f 7)).toNat) rfl ?_ ?_
  · exact ⟨rfl, rfl, 0, none, 0, 0, [], p + 1, by omega, rfl, rfl, H0⟩
  clear H0
  intro F V hrel
  obtain ⟨f0, f4, i, a', n', c', L, p', hi, f7, f6, HQi⟩ := hrel
  have H7 : Hid (F 7 = .int .i64 (i : Nat)) := f7
  rw [frame49, f0, f4, f6, f7]
  clear f0 f4 f6 f7
  by_cases hik : i < k
  · have hik' : (i : Int) < (k : Int) := by omega
    go_wp2_with fail
    refine (tag_any w0 V br a n c p' HQi.out.2.2.2.1 hn hnc hc xs HX.out).mono ?_
    rintro e V1 ⟨rfl, p2, hR2, hS2, hrest⟩
    obtain ⟨h1, h2, h4', h5, h6, h7⟩ := HQi.out
    obtain ⟨cd, hcd⟩ : ∃ cd, cd = (tagF (xs.drop p')).1 := ⟨_, rfl⟩
    obtain ⟨dl, hdl⟩ : ∃ dl, dl = (tagF (xs.drop p')).2.1 := ⟨_, rfl⟩
    rw [← hcd, ← hdl]
    rw [← hcd] at hrest
    by_cases hz : cd = 0
    · have hrest' : xs.drop p2 = (tagF (xs.drop p')).2.2 := hrest hz
      have hrow1 : V1.ownsRow W.heap.size 93 2 (.slice a' n' c') L.length (L.flatMap encL) := row_keep h2 (fun k hk => hS2.block k (row_at h2 k hk).2.1 (fun e => by have := (row_at h2 k hk).1; have e' : k = br := e; omega))
      have HRow : Hid (V1.ownsRow W.heap.size 93 2 (.slice a' n' c') L.length (L.flatMap encL)) := hrow1
      have HS : Hid (Side (isR br) W V1) := h6.trans hS2
      have HRd : Hid (Rdr w0 br a n c p2 V1) := hR2
      have HK0 : Hid (n' = L.length ∧ n' ≤ i ∧ goS (k - i) L (xs.drop p') = tot) := ⟨h1, h4', h7⟩
      have HT : Hid (cd = (tagF (xs.drop p')).1 ∧ cd = 0 ∧ dl = (tagF (xs.drop p')).2.1 ∧ xs.drop p2 = (tagF (xs.drop p')).2.2) := ⟨hcd, hz, hdl, hrest'⟩
      clear h1 h2 h4' h5 h6 h7 hR2 hS2 hrest hrest' hcd hdl HQi hrow1
      subst hz
      dsimp only
      cases dl with
      | false =>
        go_upto_region 14 with fail
        refine wp_world (fun V4 => blk V4 V1.heap.size = some (slotE false []) ∧ Hid (V1.Extends V4)) ⟨?_, extends_alloc (ext_Ext (Ext.refl _)) _⟩ ?_
        · rw [blk_alloc, if_pos rfl]
        rintro V4 ⟨h10, HX4⟩
        obtain ⟨b10, hb10⟩ : ∃ b, b = V1.heap.size := ⟨_, rfl⟩
        rw [← hb10] at h10 ⊢
        have l10 := blk_lt h10
        obtain ⟨a'', c'', V6, hrun, hq⟩ := slot_step w0 W br a n c xs k tot a' n' c' i L p2 V4 false [] HK0.out.1 (row_keep HRow.out (fun k hk => HX4.out.block k (row_at HRow.out k hk).2.1)) HK0.out.2.1 (by omega) (HRd.out.ext HX4.out) (HS.out.ext HX4.out) hbr (by
          obtain ⟨t1, t2, t3, t4⟩ := HT.out
          rw [t4, ← HK0.out.2.2, show k - i = (k - (i + 1)) + 1 by omega, goS_free (by rw [← t1]) t3.symm])
        have HQ' : Hid (LQs w0 W br a n c xs k tot a'' (n' + 1) c'' (i + 1) (L ++ [(false, [])]) p2 V6) := hq
        have n10 : ¬ b10 = V4.heap.size := by omega
        clear hq HX4 hb10
        go_wp2_with (at_builtin; refine wpList_append_run rfl _ _ 35 rfl _ _ _ _ rfl rfl hrun ?_)
        refine ⟨rfl, rfl, ⟨rfl, rfl, i + 1, a'', n' + 1, c'', L ++ [(false, [])], p2, by omega, ?_, rfl, HQ'⟩, ?_⟩
        · show Value.int .i64 _ = _
          go_num
        · show k - (intOf (Value.int .i64 _)).toNat < k - (intOf (F 7)).toNat
          rw [H7.out]
          simp [intOf]; omega
      | true =>
        have l1r := blk_lt HRd.out.1
        have nbr : ¬ V1.heap.size = br := by omega
        go_upto_region 16 with fail
        refine wp_world (fun V4 => blk V4 V1.heap.size = some (slotE true []) ∧ free V4 V1.heap.size = true ∧ Hid (V1.Extends V4)) ⟨?_, ?_, ?_⟩ ?_
        · first | (rw [blk_put, if_pos rfl, blk_alloc, if_pos rfl]; rfl) | (rw [blk_alloc, if_pos rfl])
        · first | (rw [free_put, free_alloc, if_pos rfl]) | (rw [free_alloc, if_pos rfl])
        · first | exact extends_alloc (ext_Ext (Ext.refl _)) _ | exact (Side.put (D := fun k => k = V1.heap.size) (Side.refl _ _) rfl _).extends (extends_alloc (ext_Ext (Ext.refl _)) _) (fun k hk => by omega)
        rintro V4 ⟨h10, hf10, HX4⟩
        obtain ⟨b10, hb10⟩ : ∃ b, b = V1.heap.size := ⟨_, rfl⟩
        rw [← hb10] at h10 hf10 nbr ⊢
        have hW10 : W.heap.size ≤ b10 := by have := HS.out.size; omega
        have hb10' : V1.heap.size ≤ b10 := by omega
        clear hb10
        go_wp2_with fail
        refine (name_any w0 V4 br a n c p2 (HRd.out.ext HX4.out) hn hnc hc xs HX.out).mono ?_
        rintro e V5 ⟨rfl, p3, hR3, hS3, hrest3⟩
        obtain ⟨cd2, hcd2⟩ : ∃ cd, cd = (nameF (xs.drop p2)).1 := ⟨_, rfl⟩
        obtain ⟨nm, hnm⟩ : ∃ nm, nm = (nameF (xs.drop p2)).2.1 := ⟨_, rfl⟩
        rw [← hcd2, ← hnm]
        rw [← hcd2] at hrest3
        have h105 : blk V5 b10 = some (slotE true []) := (hS3.blk (blk_lt h10) nbr).trans h10
        have hf105 : free V5 b10 = true := (free_of_heap (hS3.block b10 (blk_lt h10) nbr)).trans hf10
        have hsS : Side (isR br) W (put V5 b10 (slotE true nm)) := ((HS.out.ext HX4.out).trans hS3).put_new hW10 _
        have hsR : Rdr w0 br a n c p3 (put V5 b10 (slotE true nm)) := by
          obtain ⟨r1, r2, r3, r4, r5⟩ := hR3
          exact ⟨by rw [blk_put, if_neg (Ne.symm nbr)]; exact r1, by rw [free_put]; exact r2, (Side.put (D := fun k => k = b10) (Side.refl _ _) rfl _).extends r3 (fun k hk => by omega), r4, r5⟩
        by_cases hz2 : cd2 = 0
        · have hr3 := hrest3 hz2
          have hrow4 : V4.ownsRow W.heap.size 93 2 (.slice a' n' c') L.length (L.flatMap encL) := row_keep HRow.out (fun k hk => HX4.out.block k (row_at HRow.out k hk).2.1)
          have hrowP : (put V5 b10 (slotE true nm)).ownsRow W.heap.size 93 2 (.slice a' n' c') L.length (L.flatMap encL) := row_keep hrow4 (fun k hk => by
            have hk2 := (row_at HRow.out k hk).2.1
            rw [heap_put, if_neg (by omega)]
            exact hS3.block k (row_at hrow4 k hk).2.1 (fun e => by have := (row_at hrow4 k hk).1; have e' : k = br := e; omega))
          obtain ⟨V7, hV7⟩ : ∃ V7, V7 = put V5 b10 (slotE true nm) := ⟨_, rfl⟩
          rw [← hV7] at hsS hsR hrowP
          have h107 : blk V7 b10 = some (slotE true nm) := by rw [hV7, blk_put, if_pos rfl, h105]; rfl
          have l107 := blk_lt h107
          have n107 : ¬ b10 = V7.heap.size := by omega
          obtain ⟨a'', c'', V6, hrun, hq⟩ := slot_step w0 W br a n c xs k tot a' n' c' i L p3 V7 true nm HK0.out.1 hrowP HK0.out.2.1 (by omega) hsR hsS hbr (by
            obtain ⟨t1, t2, t3, t4⟩ := HT.out
            rw [hr3, t4, hnm, ← HK0.out.2.2, show k - i = (k - (i + 1)) + 1 by omega, goS_ok (by rw [← t1]) t3.symm (by rw [← t4, ← hcd2]; exact hz2), ← t4])
          have HQ' : Hid (LQs w0 W br a n c xs k tot a'' (n' + 1) c'' (i + 1) (L ++ [(true, nm)]) p3 V6) := hq
          clear hq HX4 hrow4 hrowP hsS hsR hr3 hrest3 hR3 hS3 hcd2 hnm
          subst hz2
          dsimp only
          go_upto_region 19 with fail
          rw [← hV7]
          clear hV7 h105 hf105 h10 hf10
          go_wp2_with (at_builtin; refine wpList_append_run rfl _ _ 35 rfl _ _ _ _ rfl rfl hrun ?_)
          refine ⟨rfl, rfl, ⟨rfl, rfl, i + 1, a'', n' + 1, c'', L ++ [(true, nm)], p3, by omega, ?_, rfl, HQ'⟩, ?_⟩
          · show Value.int .i64 _ = _
            go_num
          · show k - (intOf (Value.int .i64 _)).toNat < k - (intOf (F 7)).toNat
            rw [H7.out]
            simp [intOf]; omega
        · have HQ : Hid (slotsF (xs.drop p) = (cd2, [], [])) := by
            show _ = _
            obtain ⟨t1, t2, t3, t4⟩ := HT.out
            rw [HQ0.out, ← HK0.out.2.2, show k - i = (k - (i + 1)) + 1 by omega, goS_bad2 (by rw [← t1]) t3.symm (by rw [← t4, ← hcd2]; exact hz2), ← t4, ← hcd2]
          have HF : Hid (RPost w0 br a n c xs W cd2 [] (put V5 b10 (slotE true nm))) := ⟨p3, hsR, hsS, fun h => absurd h hz2⟩
          clear hsS hsR hrest3 hR3 hS3 hcd2 hnm
          dsimp only
          go_wp2_with fail
          go_ret2
          rw [HQ.out]
          exact ⟨none, 0, 0, rfl, fun h => absurd h hz2, HF.out⟩
    · have HQ : Hid (slotsF (xs.drop p) = (cd, [], [])) := by
        show _ = _
        rw [HQ0.out, ← h7, show k - i = (k - (i + 1)) + 1 by omega, goS_bad1 (by rw [← hcd]; exact hz), ← hcd]
      have HF : Hid (RPost w0 br a n c xs W cd [] V1) := ⟨p2, hR2, h6.trans hS2, fun h => absurd h hz⟩
      clear h1 h2 h4' h5 h6 h7 hR2 hS2 hrest hcd hdl HQi
      dsimp only
      go_wp2_with fail
      go_ret2
      rw [HQ.out]
      exact ⟨none, 0, 0, rfl, fun h => absurd h hz, HF.out⟩
  · obtain rfl : i = k := by omega
    obtain ⟨h1, h2, h4', h5, h6, h7⟩ := HQi.out
    have HQ : Hid (slotsF (xs.drop p) = (0, L, xs.drop p')) := by
      show _ = _
      rw [HQ0.out, ← h7, Nat.sub_self]; rfl
    have hik' : ¬ ((i : Int) < (i : Int)) := by omega
    have HF : Hid (SlotsPost w0 br a n c xs W (0, L, xs.drop p') (.returned (.tuple #[.slice a' n' c', .int .i64 0])) V) := ⟨a', n', c', rfl, fun _ => h2, p', h5, h6, fun _ => rfl⟩
    clear h1 h2 h4' h5 h6 h7 HQi
    go_wp2_with fail
    go_ret2
    rw [HQ.out]
    exact HF.out
end Go.Proofs.Qxb6500787aGreat
