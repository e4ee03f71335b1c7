
import Derived.Test.Qxb6500787aGreatRm
import Derived.StillTailTactics
import Derived.Deep.QuietTactic
import Derived.BigQuiet
import Derived.Deep.RegionHeld
import Derived.Deep.CutRange
import Derived.Laws.ResultCell
import Derived.Laws.Rows
import Derived.DeepKeys
import Derived.DataBytes
import Derived.Laws.StructEq
import Derived.Laws.AppendOwn
import Derived.Laws.MakeOwn
set_option linter.unusedSimpArgs false
set_option linter.unusedVariables false
namespace Go.Proofs.Qxb6500787aGreat
open Go.RowKit Go.Blk
attribute [local go_sem ↓] execOp_load execOp_store execOp_alloc
attribute [local go_sem] Tryz.ld26 Tryz.st26 Tryz.ld27 Tryz.st27 Tryz.ld28 Tryz.st28 Tryz.ld3 Tryz.st3 Tryz.ld29 Tryz.st29 Tryz.ld4 Tryz.st4 Tryz.ld50 Tryz.st50 Tryz.ld68 Tryz.st68 Tryz.ld9 Tryz.st9 Tryz.ld2 Tryz.st2 Tryz.ld5 Tryz.st5 Tryz.ld12 Tryz.st12 Tryz.ld21 Tryz.st21 Tryz.ld22 Tryz.st22 Tryz.ld24 Tryz.st24 Tryz.ld32 Tryz.st32 Tryz.ld40 Tryz.st40 Tryz.ld44 Tryz.st44 Tryz.ld49 Tryz.st49 Tryz.ld58 Tryz.st58 Tryz.ld97 Tryz.st97 Tryz.ld101 Tryz.st101 Tryz.ld116 Tryz.st116 Tryz.ld121 Tryz.st121 Tryz.ld135 Tryz.st135 Tryz.ld136 Tryz.st136 Tryz.ld138 Tryz.st138 Tryz.ld139 Tryz.st139 Tryz.ld142 Tryz.st142 Tryz.ld143 Tryz.st143 Tryz.ld146 Tryz.st146 Tryz.ld148 Tryz.st148 Tryz.ld154 Tryz.st154 Tryz.ld159 Tryz.st159 Tryz.ld173 Tryz.st173 Tryz.ld183 Tryz.st183 Tryz.ld184 Tryz.st184 Tryz.ld187 Tryz.st187 Tryz.ld192 Tryz.st192 Tryz.ld195 Tryz.st195 Tryz.ld217 Tryz.st217 Tryz.ld222 Tryz.st222 Tryz.ld241 Tryz.st241 Tryz.ld248 Tryz.st248 Tryz.ld268 Tryz.st268 Tryz.ld272 Tryz.st272 Tryz.ld129 Tryz.st129 Tryz.ld31 Tryz.st31 Tryz.ld52 Tryz.st52 Tryz.ld70 Tryz.st70 Tryz.ld74 Tryz.st74 Tryz.ld93 Tryz.st93 Tryz.al129 Tryz.al31 Tryz.al52 Tryz.al70 Tryz.al74 Tryz.al93
attribute [local go_sem] Request.length_enc Request.ok_enc Request.all_get Request.all_set Request.kind_get Request.kind_set Request.blob_get Request.blob_set Request.items_get Request.items_set Request.pred_get Request.pred_set Request.slots_get Request.slots_set Item.length_enc Item.ok_enc Item.all_get Item.all_set Item.del_get Item.del_set Item.pred_get Item.pred_set Item.args_get Item.args_set GOp.length_enc GOp.ok_enc GOp.all_get GOp.all_set GOp.kind_get GOp.kind_set GOp.raw_get GOp.raw_set Reader.length_enc Reader.ok_enc Reader.all_get Reader.all_set Reader.buf_get Reader.buf_set Reader.at__get Reader.at__set Slot.length_enc Slot.ok_enc Slot.all_get Slot.all_set Slot.bound_get Slot.bound_set Slot.name_get Slot.name_set
attribute [local go_sem] size_put size_ext blk_put free_put blk_alloc free_alloc blk_drew free_drew blk_ext free_ext lookOr_some putOr_some segAt_some cellAt_some storeIn_some put_put put_alloc_new length_arr ok_arr_u8 ok_arr_u32 ok_arr_u64 ok_arr_i64 ok_arr_sl cellsV_agg cellsV_int cellsV_bool cellsV_string cellsV_pointer cellsV_slice cellsV_sl ok_int ok_bool ok_string ok_pointer ok_slice ok_sl toList_arr seg_arr set_arr nth_splice nth_splice0 seg_splice seg_splice0 splice_splice splice_splice0 length_splice_if
attribute [local go_sem ↓] execOp_box
attribute [local go_sem] box_run nth_arr_u8 put_arr_u8 blk_drewN free_drewN put_drewN blk_raw free_raw
set_option maxRecDepth 100000 in
theorem frame64 (f : Nat → Value) : frameN 64 f = #[f 0, f 1, f 2, f 3, f 4, f 5, f 6, f 7, f 8, f 9, f 10, f 11, f 12, f 13, f 14, f 15, f 16, f 17, f 18, f 19, f 20, f 21, f 22, f 23, f 24, f 25, f 26, f 27, f 28, f 29, f 30, f 31, f 32, f 33, f 34, f 35, f 36, f 37, f 38, f 39, f 40, f 41, f 42, f 43, f 44, f 45, f 46, f 47, f 48, f 49, f 50, f 51, f 52, f 53, f 54, f 55, f 56, f 57, f 58, f 59, f 60, f 61, f 62, f 63] := by kernel_rfl
def CutSlotsPost (w0 W : World) (q : Int × List Slt × List UInt8) (e : Ending) (W' : World) : Prop :=
  ∃ (sa : Option Addr) (sn sc : Nat) (rv : Value), e = .returned (.tuple #[.slice sa sn sc, rv, .int .i64 q.1]) ∧ (q.1 = 0 → W'.ownsRow W.heap.size 93 2 (.slice sa sn sc) q.2.1.length (q.2.1.flatMap encL) ∧ RestOk w0 rv q.2.2) ∧ W.Extends W'
def CSQ (w0 W0 : World) (k : Nat) (tot : Int × List Slt × List UInt8) (a' : Option Addr) (n' c' i : Nat) (L : List Slt) (ra : Option Addr) (rn rc : Nat) (ys : List UInt8) (W : World) : Prop :=
  n' = L.length ∧ W.ownsRow W0.heap.size 93 2 (.slice a' n' c') L.length (L.flatMap encL) ∧ n' ≤ i ∧ W0.Extends W ∧ goS (k - i) L ys = tot ∧ Bs w0 ra rn ys ∧ rn ≤ rc ∧ rc ≤ 9223372036854775807 ∧ rn ≤ 65536
def csI (w0 W0 : World) (a : Option Addr) (n c : Nat) (k : Nat) (tot : Int × List Slt × List UInt8) (f : Nat → Value) (W : World) : Prop :=
  f 0 = .slice a n c ∧ ∃ (i : Nat) (a' : Option Addr) (n' c' : Nat) (L : List Slt) (ra : Option Addr) (rn rc : Nat) (ys : List UInt8), i ≤ k ∧ f 7 = .int .i64 (i : Nat) ∧ f 5 = .slice a' n' c' ∧ f 6 = .slice ra rn rc ∧ Hid (CSQ w0 W0 k tot a' n' c' i L ra rn rc ys W)
theorem build93z (w : World) : (buildOp 93 #[]).run Tryz.prog w = .ok (.value (.agg (slotE false []).toArray)) w := by kernel_rfl
theorem build93p (w : World) (s : List UInt8) : (buildOp 93 #[(0, .bool true), (1, .string ⟨s.toArray⟩)]).run Tryz.prog w = .ok (.value (.agg (slotE true s).toArray)) w := by kernel_rfl
theorem cslot_step (w0 W0 : World) (k : Nat) (tot : Int × List Slt × List UInt8) (a' : Option Addr) (n' c' i : Nat) (L : List Slt) (ra : Option Addr) (rn rc : Nat) (ys : List UInt8) (V : World) (b : Bool) (s : List UInt8) (hn : n' = L.length) (hrow : V.ownsRow W0.heap.size 93 2 (.slice a' n' c') L.length (L.flatMap encL)) (hi : n' ≤ i) (hi4 : i ≤ 300) (hS : W0.Extends V) (hgo : goS (k - (i + 1)) (L ++ [(b, s)]) ys = tot) (hr : Bs w0 ra rn ys ∧ rn ≤ rc ∧ rc ≤ 9223372036854775807 ∧ rn ≤ 65536) :
    ∃ a'' c'' V6, (Builtin.append_ #[35, 35] 35 #[.slice a' n' c', .slice (some ⟨V.heap.size, 0, none⟩) 1 1]).run Tryz.prog (V.alloc (.cells (slotE b s).toArray 93)) = .ok (.slice a'' (n' + 1) c'') V6 ∧ CSQ w0 W0 k tot a'' (n' + 1) c'' (i + 1) (L ++ [(b, s)]) ra rn rc ys V6 := by
  have hx5 : V.Extends (V.alloc (.cells (slotE b s).toArray 93)) := extends_alloc (ext_Ext (Ext.refl _)) _
  have hrow5 : (V.alloc (.cells (slotE b s).toArray 93)).ownsRow W0.heap.size 93 2 (.slice a' n' c') L.length (L.flatMap encL) := row_keep hrow (fun k hk => hx5.block k (row_at hrow k hk).2.1)
  obtain ⟨v', V6, hrun, ho, hg, _⟩ := appG encL 2 24 35 93 Tryz.underlying35 info93 encL_len encL_one (by omega) (by omega) W0.heap.size (V.alloc (.cells (slotE b s).toArray 93)) 35 (.slice a' n' c') L (b, s) V.heap.size 1 hrow5 ((blk_alloc _ _ _ _).trans (if_pos rfl)) (Nat.le_trans hS.size hx5.size) (by omega)
  obtain ⟨a'', c'', rfl⟩ := row_val ho
  have hm1 : (L ++ [(b, s)]).length = n' + 1 := by rw [List.length_append, List.length_singleton, hn]
  rw [hm1] at hrun
  exact ⟨a'', c'', V6, hrun, hm1.symm, by rw [← hm1]; exact ho, by omega, grown_ext (hS.trans hx5) hg (fun k hk => (row_at hrow5 k hk).1), hgo, hr⟩
attribute [local go_sem] so_len so_set0 so_set1 so_all so_ok bslice29 Tryz.al93' build93z build93p
attribute [-go_sem] Tryz.al93
attribute [local go_sem ↓] execOp_slice execOp_convert execOp_build execOp_bslice
set_option maxRecDepth 20000 in
set_option maxHeartbeats 2000000 in
theorem cutSlots_any (w0 W : World) (a : Option Addr) (n c : Nat) (hn : n ≤ 65536) (hnc : n ≤ c) (hc : c ≤ 9223372036854775807) (ys : List UInt8) (hX : Bs w0 a n ys) (he : w0.Extends W) : Calls Tryz.prog 63 #[.slice a n c] W (CutSlotsPost w0 W (slotsF ys)) := by
  have HX : Hid (Bs w0 a n ys) := hX
  have HE : Hid (w0.Extends W) := he
  have hxl := hX.1
  clear hX he
  go_enter Tryz.func63, Tryz.ntmps63
  by_cases h0 : n = 0
  · have HQ : Hid (slotsF ys = (5, [], [])) := by
      obtain rfl : ys = [] := List.eq_nil_of_length_eq_zero (by omega)
      rfl
    have HF : Hid (W.Extends W) := ext_Ext (Ext.refl _)
    subst h0
    clear hxl
    go_wp2_with fail
    go_ret3
    rw [HQ.out]
    exact ⟨none, 0, 0, _, rfl, fun h => absurd h (by decide), HF.out⟩
  obtain ⟨x, r, rfl⟩ : ∃ x r, ys = x :: r := by
    cases ys with
    | nil => exact absurd hxl.symm h0
    | cons x r => exact ⟨x, r, rfl⟩
  obtain ⟨b, o, C, rfl, hC, hCl, v0⟩ := (HX.out.grow HE.out).nat (i := 0) (x := x) rfl
  obtain ⟨b0, o0, C0, e1, hC0, _, _⟩ := HX.out.nat (i := 0) (x := x) rfl
  injection e1 with e1; injection e1 with e1 e2
  subst e1; subst e2
  have hb0 : b < w0.heap.size := blk_lt hC0
  have hbW : b < W.heap.size := Nat.lt_of_lt_of_le hb0 HE.out.size
  obtain ⟨k, hk⟩ : ∃ k, k = x.toNat := ⟨_, rfl⟩
  have hk8 : k < 256 := by rw [hk]; exact x.toNat_lt
  rw [← hk, Nat.add_zero] at v0
  have HK : Hid (k = x.toNat) := hk
  have hrl : r.length = n - 1 := by simp at hxl; omega
  have HRL : Hid (r.length = n - 1) := hrl
  have q1 : (0 : Int) < (n : Int) := by omega
  have q0 : ¬ ((n : Int) = 0) := by omega
  have w1 : IntKind.i64.wrap (k : Int) = (k : Int) := by rw [IntKind.wrap_i64]; omega
  have HC : Hid (blk W b = some C) := hC
  clear hk hxl hrl hC0
  by_cases h32 : (4 : Int) < (k : Int)
  · have HQ : Hid (slotsF (x :: r) = (8, [], [])) := by
      show _ = _
      rw [slotsF_cons, if_pos (by rw [← HK.out]; omega)]
    have HF : Hid (W.Extends W) := ext_Ext (Ext.refl _)
    go_wp2_with fail
    go_ret3
    rw [HQ.out]
    exact ⟨none, 0, 0, _, rfl, fun h => absurd h (by decide), HF.out⟩
  obtain ⟨tot, htot⟩ : ∃ tot, tot = goS k [] r := ⟨_, rfl⟩
  have HQ0 : Hid (slotsF (x :: r) = tot) := by
    show _ = _
    rw [slotsF_cons, if_neg (by rw [← HK.out]; omega), ← HK.out, ← htot]
  have hsl : ∀ V, (sliceOp 31 (.slice (some ⟨b, o, none⟩) n c) (some (.int .i64 1)) none none).run Tryz.prog V = .ok (.value (.slice (cutA (some ⟨b, o, none⟩) 1 c) (n - 1) (c - 1))) V := fun V => Tryz.sl27lo V (some ⟨b, o, none⟩) n c 1 (by omega)
  obtain ⟨A2, hA2⟩ : ∃ A2, A2 = cutA (some ⟨b, o, none⟩) 1 c := ⟨_, rfl⟩
  simp only [← hA2] at hsl
  have hA : Bs w0 A2 (n - 1) r := by
    have := HX.out.cut (l := 1) (k := n - 1) (cap := c) (by omega) hnc
    rw [← hA2] at this
    simp only [List.drop_succ_cons, List.drop_zero] at this
    rw [List.take_of_length_le (by rw [HRL.out]; exact Nat.le_refl _)] at this
    exact this
  have H0 : Hid (CSQ w0 W k tot none 0 0 0 [] A2 (n - 1) (c - 1) r W) := ⟨rfl, ⟨rfl, .inl ⟨rfl, rfl⟩⟩, by omega, ext_Ext (Ext.refl _), htot.symm, hA, by omega, by omega, by omega⟩
  clear htot hA hA2
  go_wp2_with fail
  refine wp_loop_f 64 (csI w0 W (some ⟨b, o, none⟩) n c k tot) (fun f _ => k - (intOf (f 7)).toNat) rfl ?_ ?_
  · exact ⟨rfl, 0, none, 0, 0, [], A2, n - 1, c - 1, r, by omega, rfl, rfl, rfl, H0⟩
  clear H0 hsl hC
  intro F V hrel
  obtain ⟨f0, i, a', n', c', L, ra, rn, rc, ys, hi, f7, f5, f6, HQi⟩ := hrel
  have H7 : Hid (F 7 = .int .i64 (i : Nat)) := f7
  rw [frame64, f0, f5, f6, f7]
  clear f0 f5 f6 f7
  have hCV : blk V b = some C := (HQi.out.2.2.2.1.blk hbW).trans HC.out
  by_cases hik : i < k
  · have hik' : (i : Int) < (k : Int) := by omega
    by_cases hr0 : rn = 0
    · have HQ : Hid (slotsF (x :: r) = (5, [], [])) := by
        show _ = _
        obtain ⟨h1, h2, h4', h5, h6, h7, h8, h9, h10⟩ := HQi.out
        obtain rfl : ys = [] := List.eq_nil_of_length_eq_zero (by rw [h7.1, hr0])
        rw [HQ0.out, ← h6, show k - i = (k - (i + 1)) + 1 by omega, goS_bad1 (by decide)]; rfl
      have HF : Hid (W.Extends V) := HQi.out.2.2.2.1
      subst hr0
      clear HQi
      go_wp2_with fail
      go_ret3
      rw [HQ.out]
      exact ⟨none, 0, 0, _, rfl, fun h => absurd h (by decide), (by first | exact HF.out | exact extends_drewN HF.out _)⟩
    obtain ⟨y, r2, rfl⟩ : ∃ y r2, ys = y :: r2 := by
      cases ys with
      | nil => exact absurd HQi.out.2.2.2.2.2.1.1.symm hr0
      | cons y r2 => exact ⟨y, r2, rfl⟩
    obtain ⟨bb, oo, CC, rfl, hCC, hCCl, vv0⟩ := ((HQi.out.2.2.2.2.2.1.grow HE.out).grow HQi.out.2.2.2.1).nat (i := 0) (x := y) rfl
    obtain ⟨b0, o0, C0, e1, hC0, _, _⟩ := HQi.out.2.2.2.2.2.1.nat (i := 0) (x := y) rfl
    injection e1 with e1; injection e1 with e1 e2
    subst e1; subst e2
    have hbb0 : bb < w0.heap.size := blk_lt hC0
    have hrl2 : r2.length = rn - 1 := by have := HQi.out.2.2.2.2.2.1.1; simp at this; omega
    have HRL2 : Hid (r2.length = rn - 1) := hrl2
    obtain ⟨tg, htg⟩ : ∃ k, k = y.toNat := ⟨_, rfl⟩
    rw [← htg, Nat.add_zero] at vv0
    have HTG : Hid (tg = y.toNat) := htg
    have r1 : (0 : Int) < (rn : Int) := by omega
    have r0 : ¬ ((rn : Int) = 0) := by omega
    have hrncc : rn ≤ rc ∧ rc ≤ 9223372036854775807 ∧ rn ≤ 65536 := HQi.out.2.2.2.2.2.2
    clear htg hC0 hrl2
    by_cases ht1 : (1 : Int) < (tg : Int)
    · have HQ : Hid (slotsF (x :: r) = (7, [], [])) := by
        show _ = _
        obtain ⟨h1, h2, h4', h5, h6, h7, h8, h9, h10⟩ := HQi.out
        have e7 : tagF (y :: r2) = (7, false, []) := by rw [tagF_cons, if_pos (by rw [← HTG.out]; omega)]
        rw [HQ0.out, ← h6, show k - i = (k - (i + 1)) + 1 by omega, goS_bad1 (by rw [e7]; decide), e7]
      have HF : Hid (W.Extends V) := HQi.out.2.2.2.1
      clear HQi
      go_wp2_with fail
      go_ret3
      rw [HQ.out]
      exact ⟨none, 0, 0, _, rfl, fun h => absurd h (by decide), (by first | exact HF.out | exact extends_drewN HF.out _)⟩
    have hsl : ∀ V, (sliceOp 31 (.slice (some ⟨bb, oo, none⟩) rn rc) (some (.int .i64 1)) none none).run Tryz.prog V = .ok (.value (.slice (cutA (some ⟨bb, oo, none⟩) 1 rc) (rn - 1) (rc - 1))) V := fun V => Tryz.sl27lo V (some ⟨bb, oo, none⟩) rn rc 1 (by omega)
    obtain ⟨A3, hA3⟩ : ∃ A3, A3 = cutA (some ⟨bb, oo, none⟩) 1 rc := ⟨_, rfl⟩
    simp only [← hA3] at hsl
    have HA3 : Hid (Bs w0 A3 (rn - 1) r2) := by
      have := HQi.out.2.2.2.2.2.1.cut (l := 1) (k := rn - 1) (cap := rc) (by omega) hrncc.1
      rw [← hA3] at this
      simp only [List.drop_succ_cons, List.drop_zero] at this
      rw [List.take_of_length_le (by rw [HRL2.out]; exact Nat.le_refl _)] at this
      exact this
    clear hA3
    by_cases ht0 : (tg : Int) = 0
    · have HTF : Hid (tagF (y :: r2) = (0, false, r2)) := by
        show _ = _
        rw [tagF_cons, if_neg (by rw [← HTG.out]; omega), ← HTG.out]
        congr 2
        simp; omega
      obtain ⟨h1, h2, h4', h5, h6, h7, h8, h9, h10⟩ := HQi.out
      have hstep := fun j => cslot_step w0 W k tot a' n' c' i L A3 (rn - 1) (rc - 1) r2 (V.drewN j) false [] h1 h2 h4' (by omega) (extends_drewN h5 j) (by
          rw [← h6, show k - i = (k - (i + 1)) + 1 by omega, goS_free (by rw [HTF.out]) (by rw [HTF.out]), HTF.out]) ⟨HA3.out, by omega, by omega, by omega⟩
      have ht0' : tg = 0 := by omega
      subst ht0'
      have HE5 : Hid (W.Extends V) := h5
      clear h1 h2 h4' h5 h6 h7 h8 h9 h10 HQi
      go_upto_region 15 with fail
      obtain ⟨a'', c'', V6, hrun, hq⟩ := hstep 0
      have HQ' : Hid (CSQ w0 W k tot a'' (n' + 1) c'' (i + 1) (L ++ [(false, [])]) A3 (rn - 1) (rc - 1) r2 V6) := hq
      clear hq hstep
      go_wp2_with (at_builtin; refine wpList_append_run rfl _ _ 35 rfl _ _ _ _ rfl rfl hrun ?_)
      refine ⟨rfl, rfl, ⟨rfl, i + 1, a'', n' + 1, c'', L ++ [(false, [])], A3, rn - 1, rc - 1, r2, by omega, ?_, rfl, rfl, HQ'⟩, ?_⟩
      · show Value.int .i64 _ = _
        go_num
      · show k - (intOf (Value.int .i64 _)).toNat < k - (intOf (F 7)).toNat
        rw [H7.out]
        simp [intOf]; omega
    · have HTF : Hid (tagF (y :: r2) = (0, true, r2)) := by
        show _ = _
        rw [tagF_cons, if_neg (by rw [← HTG.out]; omega), ← HTG.out]
        congr 2
        simp; omega
      have ht0' : tg = 1 := by omega
      subst ht0'
      go_wp2_with fail
      refine (cutName_any w0 V A3 (rn - 1) (rc - 1) (by omega) (by omega) (by omega) r2 HA3.out (HE.out.trans HQi.out.2.2.2.1)).mono ?_
      rintro e V1 ⟨rv, rfl, hrv, j1, hV1⟩
      obtain ⟨h1, h2, h4', h5, h6, h7, h8, h9, h10⟩ := HQi.out
      obtain ⟨cd2, hcd2⟩ : ∃ cd, cd = (nameF r2).1 := ⟨_, rfl⟩
      obtain ⟨nm, hnm⟩ : ∃ nm, nm = (nameF r2).2.1 := ⟨_, rfl⟩
      rw [← hcd2, ← hnm]
      rw [← hcd2] at hrv
      have h5' : W.Extends V1 := by rw [hV1]; exact extends_drewN h5 _
      by_cases hz2 : cd2 = 0
      · obtain ⟨ra2, rc2, rfl, hb2, hlc, hcc, h65⟩ := hrv hz2
        obtain ⟨ys2, hys2⟩ : ∃ ys2, ys2 = (nameF r2).2.2 := ⟨_, rfl⟩
        rw [← hys2] at hb2 hlc h65 ⊢
        obtain ⟨rn2, hrn2⟩ : ∃ rn2, rn2 = ys2.length := ⟨_, rfl⟩
        rw [← hrn2] at hb2 hlc h65 ⊢
        obtain ⟨a'', c'', V6, hrun, hq⟩ := cslot_step w0 W k tot a' n' c' i L ra2 rn2 rc2 ys2 V1 true nm h1 (by rw [hV1]; exact h2) h4' (by omega) h5' (by
          rw [hys2, hnm, ← h6, show k - i = (k - (i + 1)) + 1 by omega, goS_ok (by rw [HTF.out]) (by rw [HTF.out]) (by rw [HTF.out]; exact hcd2.symm.trans hz2), HTF.out]) ⟨hb2, hlc, hcc, h65⟩
        have HQ' : Hid (CSQ w0 W k tot a'' (n' + 1) c'' (i + 1) (L ++ [(true, nm)]) ra2 rn2 rc2 ys2 V6) := hq
        clear hq h1 h2 h4' h5 h6 h7 h8 h9 h10 HQi hcd2 hnm hrv hys2 hrn2 hb2 hlc hcc h65 hV1 h5' hCV hCC
        subst hz2
        dsimp only
        go_wp2_with (at_builtin; refine wpList_append_run rfl _ _ 35 rfl _ _ _ _ rfl rfl hrun ?_)
        refine ⟨rfl, rfl, ⟨rfl, i + 1, a'', n' + 1, c'', L ++ [(true, nm)], ra2, rn2, rc2, ys2, by omega, ?_, rfl, rfl, HQ'⟩, ?_⟩
        · show Value.int .i64 _ = _
          go_num
        · show k - (intOf (Value.int .i64 _)).toNat < k - (intOf (F 7)).toNat
          rw [H7.out]
          simp [intOf]; omega
      · have HQ : Hid (slotsF (x :: r) = (cd2, [], [])) := by
          show _ = _
          rw [HQ0.out, ← h6, show k - i = (k - (i + 1)) + 1 by omega, goS_bad2 (by rw [HTF.out]) (by rw [HTF.out]) (by rw [HTF.out]; show (nameF r2).1 ≠ 0; rw [← hcd2]; exact hz2), HTF.out]
          show ((nameF r2).1, _, _) = _
          rw [← hcd2]
        have hzb : (cd2 == 0) = false := by simp [hz2]
        have HF : Hid (W.Extends V1) := h5'
        clear h1 h2 h4' h5 h6 h7 h8 h9 h10 HQi hcd2 hnm hrv hV1 h5' hCV hCC
        dsimp only
        go_wp2_with fail
        go_ret3
        rw [HQ.out]
        exact ⟨none, 0, 0, _, rfl, fun h => absurd h hz2, HF.out⟩
  · obtain rfl : i = k := by omega
    obtain ⟨h1, h2, h4', h5, h6, h7, h8, h9, h10⟩ := HQi.out
    have HQ : Hid (slotsF (x :: r) = (0, L, ys)) := by
      show _ = _
      rw [HQ0.out, ← h6, Nat.sub_self]; rfl
    have hik' : ¬ ((i : Int) < (i : Int)) := by omega
    have HF : ∀ j, Hid (CutSlotsPost w0 W (0, L, ys) (.returned (.tuple #[.slice a' n' c', .slice ra rn rc, .int .i64 0])) (V.drewN j)) := fun j => ⟨a', n', c', _, rfl, fun _ => ⟨h1 ▸ h2, ra, rc, by rw [h7.1], by rw [h7.1]; exact h7, by rw [h7.1]; exact h8, h9, by rw [h7.1]; exact h10⟩, extends_drewN h5 _⟩
    clear h1 h2 h4' h5 h6 h7 HQi h8 h9 h10
    go_wp2_with fail
    go_ret3
    rw [HQ.out]
    first | exact (HF _).out | exact (HF 0).out
end Go.Proofs.Qxb6500787aGreat
