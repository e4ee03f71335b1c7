
import Derived.Test.Qxb6500787aGreatRk
import Derived.StillTailTactics
import Derived.Deep.QuietTactic
import Derived.BigQuiet
import Derived.Deep.RegionHeld
import Derived.Deep.CutRange
import Derived.Laws.ResultCell
import Derived.Laws.Rows
import Derived.DeepKeys
import Derived.DataBytes
import Derived.Laws.StructEq
import Derived.Laws.AppendOwn
import Derived.Laws.MakeOwn
set_option linter.unusedSimpArgs false
set_option linter.unusedVariables false
namespace Go.Proofs.Qxb6500787aGreat
open Go.RowKit Go.Blk
attribute [local go_sem ↓] execOp_load execOp_store execOp_alloc
attribute [local go_sem] Tryz.ld26 Tryz.st26 Tryz.ld27 Tryz.st27 Tryz.ld28 Tryz.st28 Tryz.ld3 Tryz.st3 Tryz.ld29 Tryz.st29 Tryz.ld4 Tryz.st4 Tryz.ld50 Tryz.st50 Tryz.ld68 Tryz.st68 Tryz.ld9 Tryz.st9 Tryz.ld2 Tryz.st2 Tryz.ld5 Tryz.st5 Tryz.ld12 Tryz.st12 Tryz.ld21 Tryz.st21 Tryz.ld22 Tryz.st22 Tryz.ld24 Tryz.st24 Tryz.ld32 Tryz.st32 Tryz.ld40 Tryz.st40 Tryz.ld44 Tryz.st44 Tryz.ld49 Tryz.st49 Tryz.ld58 Tryz.st58 Tryz.ld97 Tryz.st97 Tryz.ld101 Tryz.st101 Tryz.ld116 Tryz.st116 Tryz.ld121 Tryz.st121 Tryz.ld135 Tryz.st135 Tryz.ld136 Tryz.st136 Tryz.ld138 Tryz.st138 Tryz.ld139 Tryz.st139 Tryz.ld142 Tryz.st142 Tryz.ld143 Tryz.st143 Tryz.ld146 Tryz.st146 Tryz.ld148 Tryz.st148 Tryz.ld154 Tryz.st154 Tryz.ld159 Tryz.st159 Tryz.ld173 Tryz.st173 Tryz.ld183 Tryz.st183 Tryz.ld184 Tryz.st184 Tryz.ld187 Tryz.st187 Tryz.ld192 Tryz.st192 Tryz.ld195 Tryz.st195 Tryz.ld217 Tryz.st217 Tryz.ld222 Tryz.st222 Tryz.ld241 Tryz.st241 Tryz.ld248 Tryz.st248 Tryz.ld268 Tryz.st268 Tryz.ld272 Tryz.st272 Tryz.ld129 Tryz.st129 Tryz.ld31 Tryz.st31 Tryz.ld52 Tryz.st52 Tryz.ld70 Tryz.st70 Tryz.ld74 Tryz.st74 Tryz.ld93 Tryz.st93 Tryz.al129 Tryz.al31 Tryz.al52 Tryz.al70 Tryz.al74 Tryz.al93
attribute [local go_sem] Request.length_enc Request.ok_enc Request.all_get Request.all_set Request.kind_get Request.kind_set Request.blob_get Request.blob_set Request.items_get Request.items_set Request.pred_get Request.pred_set Request.slots_get Request.slots_set Item.length_enc Item.ok_enc Item.all_get Item.all_set Item.del_get Item.del_set Item.pred_get Item.pred_set Item.args_get Item.args_set GOp.length_enc GOp.ok_enc GOp.all_get GOp.all_set GOp.kind_get GOp.kind_set GOp.raw_get GOp.raw_set Reader.length_enc Reader.ok_enc Reader.all_get Reader.all_set Reader.buf_get Reader.buf_set Reader.at__get Reader.at__set Slot.length_enc Slot.ok_enc Slot.all_get Slot.all_set Slot.bound_get Slot.bound_set Slot.name_get Slot.name_set
attribute [local go_sem] size_put size_ext blk_put free_put blk_alloc free_alloc blk_drew free_drew blk_ext free_ext lookOr_some putOr_some segAt_some cellAt_some storeIn_some put_put put_alloc_new length_arr ok_arr_u8 ok_arr_u32 ok_arr_u64 ok_arr_i64 ok_arr_sl cellsV_agg cellsV_int cellsV_bool cellsV_string cellsV_pointer cellsV_slice cellsV_sl ok_int ok_bool ok_string ok_pointer ok_slice ok_sl toList_arr seg_arr set_arr nth_splice nth_splice0 seg_splice seg_splice0 splice_splice splice_splice0 length_splice_if
attribute [local go_sem ↓] execOp_box
attribute [local go_sem] box_run nth_arr_u8 put_arr_u8 blk_drewN free_drewN put_drewN blk_raw free_raw
set_option maxRecDepth 100000 in
theorem frame55 (f : Nat → Value) : frameN 55 f = #[f 0, f 1, f 2, f 3, f 4, f 5, f 6, f 7, f 8, f 9, f 10, f 11, f 12, f 13, f 14, f 15, f 16, f 17, f 18, f 19, f 20, f 21, f 22, f 23, f 24, f 25, f 26, f 27, f 28, f 29, f 30, f 31, f 32, f 33, f 34, f 35, f 36, f 37, f 38, f 39, f 40, f 41, f 42, f 43, f 44, f 45, f 46, f 47, f 48, f 49, f 50, f 51, f 52, f 53, f 54] := by kernel_rfl
theorem results_cell_tmp2 {fn : Func} {p u v : Tmp} {ty : TypeId} (h : fn.results = #[.cell p ty, .tmp u, .tmp v]) (tmps : Array Value) (P : Program) (w : World) :
    (results fn tmps).run P w =
      ((asAddr (tmps.getD p undef)).run P w).andThen fun a w₁ => ((loadVar ty a).run P w₁).andThen fun x w₂ => .ok (.tuple #[x, tmps.getD u undef, tmps.getD v undef]) w₂ := by
  simp only [results, h]
  simp [Sem.run_bind, Result.andThen]
theorem ret_cell_tmp2 {P : Program} {fn : Func} {R : Ending → World → Prop} {a : Act} {w : World} {p u u2 : Tmp} {ty : TypeId} {g : Nat} {C : List Value} {v v2 : Value} (h : fn.results = #[.cell p ty, .tmp u, .tmp u2]) (hp : a.tmps.getD p undef = .pointer (some ⟨g, 0, none⟩)) (hv : a.tmps.getD u undef = v) (hv2 : a.tmps.getD u2 undef = v2) (hb : blk w g = some C)
    (hr : ((P.underlying ty).map fun d => (match d with | .struct _ | .array _ _ => true | _ => false)) = some true) (hi : (P.info? ty).map (·.size) = some C.length) (hdf : a.defers = []) (hR : R (.returned (.tuple #[.agg C.toArray, v, v2])) w) : bodyPost P fn R .ret a w := by
  obtain ⟨t, fz, ht⟩ := blk_some hb
  obtain ⟨d, hu, hd⟩ : ∃ d, P.underlying ty = some d ∧ (match d with | .struct _ | .array _ _ => true | _ => false) = true := by
    cases hx : P.underlying ty with
    | none => simp [hx] at hr
    | some d => exact ⟨d, rfl, by simpa [hx] using hr⟩
  refine bodyPost_ret ?_ hdf hR
  rw [results_cell_tmp2 h, hp, hv, hv2]
  have hp' := run_loadVar_row (P := P) w g t ty C.toArray fz d ht hu (by cases d <;> simp_all) (by simpa using hi)
  simp [asAddr, hp', Result.andThen]
theorem ext_put_new {w W : World} (h : w.Extends W) {b : Nat} (hb : w.heap.size ≤ b) (C : List Value) : w.Extends (put W b C) := (Side.put (D := fun k => k = b) (Side.refl _ _) rfl _).extends h (fun k hk => by omega)
def CutFactPost (w0 W : World) (q : Int × Int × List (List UInt8) × List UInt8) (e : Ending) (W' : World) : Prop :=
  ∃ pr pa pn pc rv, e = .returned (.tuple #[.agg (itemE false pr pa pn pc).toArray, rv, .int .i64 q.1]) ∧ (q.1 = 0 → pr = q.2.1 ∧ W'.ownsRow W.heap.size 9 1 (.slice pa pn pc) q.2.2.1.length (q.2.2.1.flatMap encS) ∧ RestOk w0 rv q.2.2.2) ∧ W.Extends W'
def CQ (w0 W0 : World) (b2 b7 B : Nat) (pr : Int) (k : Nat) (tot : Int × List (List UInt8) × List UInt8) (a' : Option Addr) (n' c' i : Nat) (K : List (List UInt8)) (ra : Option Addr) (rn rc : Nat) (ys : List UInt8) (W : World) : Prop :=
  blk W b2 = some (itemE false 0 none 0 0) ∧ free W b2 = true ∧ blk W b7 = some (itemE false pr a' n' c') ∧ free W b7 = true ∧ n' = K.length ∧ W.ownsRow B 9 1 (.slice a' n' c') K.length (K.flatMap encS) ∧ n' ≤ i ∧ W0.Extends W ∧ B ≤ W.heap.size ∧ goN (k - i) K ys = tot ∧ Bs w0 ra rn ys ∧ rn ≤ rc ∧ rc ≤ 9223372036854775807 ∧ rn ≤ 65536
def cfI (w0 W0 : World) (b2 b7 B : Nat) (a : Option Addr) (n c : Nat) (pr : Int) (k : Nat) (tot : Int × List (List UInt8) × List UInt8) (f : Nat → Value) (W : World) : Prop :=
  f 0 = .slice a n c ∧ f 2 = .pointer (some ⟨b2, 0, none⟩) ∧ f 5 = .pointer (some ⟨b7, 0, none⟩) ∧ ∃ (i : Nat) (a' : Option Addr) (n' c' : Nat) (K : List (List UInt8)) (ra : Option Addr) (rn rc : Nat) (ys : List UInt8), i ≤ k ∧ f 7 = .int .i64 (i : Nat) ∧ f 6 = .slice ra rn rc ∧ Hid (CQ w0 W0 b2 b7 B pr k tot a' n' c' i K ra rn rc ys W)
attribute [local go_sem] it_len it0 it1 it2 it_set0 it_set2 it_all it_put it_put2 it_ok build52z build52p bslice50
attribute [local go_sem ↓] execOp_slice execOp_convert execOp_build execOp_bslice
set_option maxRecDepth 20000 in
set_option maxHeartbeats 2000000 in
theorem cutFact_any (w0 W : World) (a : Option Addr) (n c : Nat) (hn : n ≤ 65536) (hnc : n ≤ c) (hc : c ≤ 9223372036854775807) (ys : List UInt8) (hX : Bs w0 a n ys) (he : w0.Extends W) : Calls Tryz.prog 61 #[.slice a n c] W (CutFactPost w0 W (factF ys)) := by
  have HX : Hid (Bs w0 a n ys) := hX
  have HE : Hid (w0.Extends W) := he
  have hxl := hX.1
  clear hX he
  go_enter Tryz.func61, Tryz.ntmps61
  go_upto_region 1 with fail
  refine wp_world (fun W0 => blk W0 W.heap.size = some (itemE false 0 none 0 0) ∧ free W0 W.heap.size = true ∧ Hid (W.Extends W0)) ⟨?_, ?_, extends_alloc (ext_Ext (Ext.refl _)) _⟩ ?_
  · rw [blk_alloc, if_pos rfl]; rfl
  · rw [free_alloc, if_pos rfl]
  rintro W0 ⟨h2, hf2, HX0⟩
  obtain ⟨b2, hb2⟩ : ∃ b2, b2 = W.heap.size := ⟨_, rfl⟩
  rw [← hb2] at h2 hf2 ⊢
  have hW2 : W.heap.size ≤ b2 := by omega
  clear hb2
  by_cases hp : (n : Int) < 2
  · have HQ : Hid (factF ys = (5, 0, [], [])) := by
      show _ = _
      match ys, hxl with
      | [], _ => rfl
      | [x], _ => rfl
      | x :: y :: r, h => simp at h; omega
    have HF : Hid (W.Extends (put W0 b2 (itemE false 0 none 0 0))) := by
      show World.Extends _ _
      rw [put_same h2]; exact HX0.out
    clear HX0
    try dsimp only
    go_wp2_with fail
    refine ret_cell_tmp2 (C := itemE false 0 none 0 0) rfl rfl rfl rfl ?_ (by kernel_rfl) (by rw [it_len]; kernel_rfl) rfl (by rw [HQ.out]; exact ⟨0, none, 0, 0, _, rfl, fun h => absurd h (by decide), HF.out⟩)
    rw [blk_put, if_pos rfl, h2]; rfl
  obtain ⟨x, x2, r, rfl⟩ : ∃ x x2 r, ys = x :: x2 :: r := by
    match ys, hxl with
    | [], h => simp at h; omega
    | [x], h => simp at h; omega
    | x :: y :: r, h => exact ⟨x, y, r, rfl⟩
  have HXW : Hid (Bs W0 a n (x :: x2 :: r)) := (HX.out.grow HE.out).grow HX0.out
  obtain ⟨b, o, C, rfl, hC, hCl, v0⟩ := HXW.out.nat (i := 0) (x := x) rfl
  obtain ⟨b', o', C', e1, hC', hCl', v1⟩ := HXW.out.nat (i := 1) (x := x2) rfl
  injection e1 with e1; injection e1 with e1 e2
  subst e1; subst e2
  rw [hC] at hC'; injection hC' with hC'; subst hC'
  obtain ⟨b0, o0, C0, e1, hC0, _, _⟩ := HX.out.nat (i := 0) (x := x) rfl
  injection e1 with e1; injection e1 with e1 e2
  subst e1; subst e2
  have hb0 : b < w0.heap.size := blk_lt hC0
  have hbW : b < W.heap.size := Nat.lt_of_lt_of_le hb0 HE.out.size
  have nb2 : ¬ b = b2 := by omega
  obtain ⟨pr, hpr⟩ : ∃ k, k = x.toNat := ⟨_, rfl⟩
  obtain ⟨k, hk⟩ : ∃ k, k = x2.toNat := ⟨_, rfl⟩
  have hk8 : k < 256 := by rw [hk]; exact x2.toNat_lt
  have hp8 : pr < 256 := by rw [hpr]; exact x.toNat_lt
  rw [← hpr, Nat.add_zero] at v0
  rw [← hk] at v1
  have HP : Hid (pr = x.toNat) := hpr
  have HK : Hid (k = x2.toNat) := hk
  have hrl : r.length = n - 2 := by simp at hxl; omega
  have HRL : Hid (r.length = n - 2) := hrl
  have q1 : (0 : Int) < (n : Int) := by omega
  have q2 : (1 : Int) < (n : Int) := by omega
  have w1 : IntKind.i64.wrap (k : Int) = (k : Int) := by rw [IntKind.wrap_i64]; omega
  have w2 : IntKind.i64.wrap (pr : Int) = (pr : Int) := by rw [IntKind.wrap_i64]; omega
  have HC : Hid (blk w0 b = some C) := by
    show _ = _
    rw [← hC, HX0.out.blk (by omega), HE.out.blk hb0]
  clear hk hpr hxl hrl hC0 hCl'
  by_cases h4 : (4 : Int) < (k : Int)
  · have HQ : Hid (factF (x :: x2 :: r) = (8, 0, [], [])) := by
      show _ = _
      rw [factF_cons, if_pos (by rw [← HK.out]; omega)]
    have HF : Hid (W.Extends (put W0 b2 (itemE false 0 none 0 0))) := by
      show World.Extends _ _
      rw [put_same h2]; exact HX0.out
    clear HX0
    try dsimp only
    go_wp2_with fail
    refine ret_cell_tmp2 (C := itemE false 0 none 0 0) rfl rfl rfl rfl ?_ (by kernel_rfl) (by rw [it_len]; kernel_rfl) rfl (by rw [HQ.out]; exact ⟨0, none, 0, 0, _, rfl, fun h => absurd h (by decide), HF.out⟩)
    rw [blk_put, if_pos rfl, h2]; rfl
  obtain ⟨tot, htot⟩ : ∃ tot, tot = goN k [] r := ⟨_, rfl⟩
  have HQ0 : Hid (factF (x :: x2 :: r) = if tot.1 = 0 then (0, (pr : Int), tot.2.1, tot.2.2) else (tot.1, 0, [], [])) := by
    show _ = _
    rw [factF_cons, if_neg (by rw [← HK.out]; omega), ← HK.out, ← htot, HP.out]
  have HTOT : Hid (goN k [] r = tot) := htot.symm
  clear htot
  have lb2 := blk_lt h2
  have n22 : ¬ b2 = W0.heap.size := by omega
  have hbn : ¬ b = W0.heap.size := by have := HX0.out.size; omega
  have hsl : ∀ V, (sliceOp 31 (.slice (some ⟨b, o, none⟩) n c) (some (.int .i64 2)) none none).run Tryz.prog V = .ok (.value (.slice (cutA (some ⟨b, o, none⟩) 2 c) (n - 2) (c - 2))) V := fun V => Tryz.sl27lo V (some ⟨b, o, none⟩) n c 2 (by omega)
  obtain ⟨A2, hA2⟩ : ∃ A2, A2 = cutA (some ⟨b, o, none⟩) 2 c := ⟨_, rfl⟩
  simp only [← hA2] at hsl
  have HA2 : Hid (Bs w0 A2 (n - 2) r) := by
    have := HX.out.cut (l := 2) (k := n - 2) (cap := c) (by omega) hnc
    rw [← hA2] at this
    simp only [List.drop_succ_cons, List.drop_zero] at this
    rw [List.take_of_length_le (by rw [HRL.out]; exact Nat.le_refl _)] at this
    exact this
  clear hA2
  go_upto_region 6 with fail
  refine wp_world (fun W3 => blk W3 W0.heap.size = some (itemE false (pr : Int) none 0 0) ∧ free W3 W0.heap.size = true ∧ W3.heap.size = W0.heap.size + 1 ∧ Hid (W0.Extends W3)) ⟨?_, ?_, ?_, ?_⟩ ?_
  · first | (rw [blk_put, if_pos rfl, blk_alloc, if_pos rfl]; rfl) | (rw [blk_alloc, if_pos rfl])
  · first | (rw [free_put, free_alloc, if_pos rfl]) | (rw [free_alloc, if_pos rfl])
  · first | (rw [size_put, World.size_alloc]) | (rw [World.size_alloc])
  · first | exact extends_alloc (ext_Ext (Ext.refl _)) _ | exact (Side.put (D := fun k => k = W0.heap.size) (Side.refl _ _) rfl _).extends (extends_alloc (ext_Ext (Ext.refl _)) _) (fun k hk => by omega)
  rintro W3 ⟨h7, hf7, hsz, HX3⟩
  obtain ⟨b7, hb7⟩ : ∃ b7, b7 = W0.heap.size := ⟨_, rfl⟩
  rw [← hb7] at h7 hf7 ⊢
  have hW7 : W.heap.size ≤ b7 := by have := HX0.out.size; omega
  obtain ⟨B, hB⟩ : ∃ B, B = W3.heap.size := ⟨_, rfl⟩
  have h7B : b7 < B := by omega
  have h2B : b2 < B := by omega
  have n27 : ¬ b2 = b7 := by omega
  have nb7 : ¬ b = b7 := by omega
  have hWB : W.heap.size ≤ B := by omega
  have H0 : Hid (CQ w0 W b2 b7 B (pr : Int) k tot none 0 0 0 [] A2 (n - 2) (c - 2) r W3) := ⟨(HX3.out.blk lb2).trans h2, (free_of_heap (HX3.out.block b2 lb2)).trans hf2, h7, hf7, rfl, ⟨rfl, .inl ⟨rfl, rfl⟩⟩, by omega, HX0.out.trans HX3.out, by omega, HTOT.out, HA2.out, by omega, by omega, by omega⟩
  clear h7 hf7 hsz HX3 hb7 hB h2 hf2 lb2 n22 hbn hC HX0
  go_wp2_with fail
  refine wp_loop_f 55 (cfI w0 W b2 b7 B (some ⟨b, o, none⟩) n c (pr : Int) k tot) (fun f _ => k - (intOf (f 7)).toNat) rfl ?_ ?_
  · exact ⟨rfl, rfl, rfl, 0, none, 0, 0, [], A2, n - 2, c - 2, r, by omega, rfl, rfl, H0⟩
  clear H0 HA2 hsl HXW
  intro F V hrel
  obtain ⟨f0, f2, f5, i, a', n', c', K, ra, rn, rc, ys, hi, f7, f6, HQi⟩ := hrel
  have H7 : Hid (F 7 = .int .i64 (i : Nat)) := f7
  rw [frame55, f0, f2, f5, f6, f7]
  clear f0 f2 f5 f6 f7
  have hCV : blk V b = some C := (HQi.out.2.2.2.2.2.2.2.1.blk hbW).trans ((HE.out.blk hb0).trans HC.out)
  by_cases hik : i < k
  · have hik' : (i : Int) < (k : Int) := by omega
    go_wp2_with fail
    refine (cutName_any w0 V ra rn rc HQi.out.2.2.2.2.2.2.2.2.2.2.2.2.2 HQi.out.2.2.2.2.2.2.2.2.2.2.2.1 HQi.out.2.2.2.2.2.2.2.2.2.2.2.2.1 ys HQi.out.2.2.2.2.2.2.2.2.2.2.1 (HE.out.trans HQi.out.2.2.2.2.2.2.2.1)).mono ?_
    rintro e V1 ⟨rv, rfl, hrv, j1, hV1⟩
    obtain ⟨h1, h2, h3, h4', h5, h6, h7, h8, h10, h11, h12, h13, h14, h15⟩ := HQi.out
    obtain ⟨cd, hcd⟩ : ∃ cd, cd = (nameF ys).1 := ⟨_, rfl⟩
    obtain ⟨nm, hnm⟩ : ∃ nm, nm = (nameF ys).2.1 := ⟨_, rfl⟩
    rw [← hcd, ← hnm]
    rw [← hcd] at hrv
    have hz1 : blk V1 b2 = some (itemE false 0 none 0 0) := by rw [hV1]; exact h1
    have hfz1 : free V1 b2 = true := by rw [hV1]; exact h2
    have h71 : blk V1 b7 = some (itemE false (pr : Int) a' n' c') := by rw [hV1]; exact h3
    have hf71 : free V1 b7 = true := by rw [hV1]; exact h4'
    have hrow1 : V1.ownsRow B 9 1 (.slice a' n' c') K.length (K.flatMap encS) := by rw [hV1]; exact h6
    have hBV : B ≤ V1.heap.size := by rw [hV1]; exact h10
    have HEV : Hid (W.Extends V1) := by
      show World.Extends _ _
      rw [hV1]; exact extends_drewN h8 _
    by_cases hz : cd = 0
    · obtain ⟨ra2, rc2, rfl, hb2, hlc, hcc, h65⟩ := hrv hz
      obtain ⟨ys2, hys2⟩ : ∃ ys2, ys2 = (nameF ys).2.2 := ⟨_, rfl⟩
      rw [← hys2] at hb2 hlc h65 ⊢
      obtain ⟨rn2, hrn2⟩ : ∃ rn2, rn2 = ys2.length := ⟨_, rfl⟩
      rw [← hrn2] at hb2 hlc h65 ⊢
      have hgo : goN (k - (i + 1)) (K ++ [nm]) ys2 = tot := by
        rw [hys2, hnm, ← h11, show k - i = (k - (i + 1)) + 1 by omega, goN_ok (by rw [← hcd]; exact hz)]
      have HGO : Hid (goN (k - (i + 1)) (K ++ [nm]) ys2 = tot) := hgo
      have lz := blk_lt hz1
      have l7 := blk_lt h71
      have hx1 : V1.Extends (V1.alloc (.cells (encS nm).toArray 9)) := extends_alloc (ext_Ext (Ext.refl _)) _
      have hsz1 : V1.heap.size ≤ (V1.alloc (.cells (encS nm).toArray 9)).heap.size := hx1.size
      obtain ⟨v', V3, hrun, ho, hg, _⟩ := appG encS 1 16 43 9 Tryz.underlying43 info9 encS_len encS_one (by omega) (by omega) B (V1.alloc (.cells (encS nm).toArray 9)) 43 (.slice a' n' c') K nm V1.heap.size 1 (row_keep hrow1 (fun k hk => hx1.block k (row_at hrow1 k hk).2.1)) ((blk_alloc _ _ _ _).trans (if_pos rfl)) (Nat.le_trans hBV hx1.size) (by omega)
      obtain ⟨a'', c'', rfl⟩ := row_val ho
      have hm1 : (K ++ [nm]).length = n' + 1 := by rw [List.length_append, List.length_singleton, h5]
      have hold : ∀ k, k < B → k < V1.heap.size → V3.heap[k]? = V1.heap[k]? := fun k hk hkV => (hg.block k (by omega) (fun e => by have := (row_at hrow1 k e.symm).1; omega)).trans (hx1.block k hkV)
      have h73 : blk V3 b7 = some (itemE false (pr : Int) a' n' c') := (blk_of_heap (hold b7 h7B l7)).trans h71
      have hf73 : free V3 b7 = true := (free_of_heap (hold b7 h7B l7)).trans hf71
      have hE3 : W.Extends V3 := grown_ext (HEV.out.trans hx1) hg (fun k hk => by have := (row_at hrow1 k hk).1; omega)
      rw [hm1] at hrun
      have HQ' : Hid (CQ w0 W b2 b7 B (pr : Int) k tot a'' (n' + 1) c'' (i + 1) (K ++ [nm]) ra2 rn2 rc2 ys2 (put V3 b7 (itemE false (pr : Int) a'' (n' + 1) c''))) := by
        refine ⟨by rw [blk_put, if_neg n27]; exact (blk_of_heap (hold b2 h2B lz)).trans hz1, by rw [free_put]; exact (free_of_heap (hold b2 h2B lz)).trans hfz1, by rw [blk_put, if_pos rfl, h73]; rfl, by rw [free_put]; exact hf73, hm1.symm, ?_, by omega, ext_put_new hE3 hW7 _, by rw [size_put]; exact Nat.le_trans (Nat.le_trans hBV hx1.size) hg.size, HGO.out, hb2, hlc, hcc, h65⟩
        rw [← hm1]
        exact row_keep ho (fun k hk => by rw [heap_put, if_neg (fun e => by have := (row_at ho k hk).1; omega)])
      clear hE3 hold ho hg hx1 hsz1 hgo h1 h2 h3 h4' h5 h6 h8 h10 h11 h12 h13 h14 h15 hrow1 hrv hz1 hfz1 HQi hcd hnm hV1 hCV hb2 hlc hcc h65 hys2 hrn2
      subst hz
      have n71 : ¬ b7 = V1.heap.size := by omega
      dsimp only
      go_wp2_with (at_builtin; refine wpList_append_run rfl _ _ 43 rfl _ _ _ _ rfl rfl hrun ?_)
      refine ⟨rfl, rfl, ⟨rfl, rfl, rfl, i + 1, a'', n' + 1, c'', K ++ [nm], ra2, rn2, rc2, ys2, by omega, ?_, rfl, HQ'⟩, ?_⟩
      · show Value.int .i64 _ = _
        go_num
      · show k - (intOf (Value.int .i64 _)).toNat < k - (intOf (F 7)).toNat
        rw [H7.out]
        simp [intOf]; omega
    · have htot : tot = (cd, [], []) := by rw [← h11, show k - i = (k - (i + 1)) + 1 by omega, goN_bad (by rw [← hcd]; exact hz), ← hcd]
      have HQ : Hid (factF (x :: x2 :: r) = (cd, 0, [], [])) := by
        show _ = _
        rw [HQ0.out, htot]
        exact if_neg hz
      have hzb : (cd == 0) = false := by simp [hz]
      clear h1 h2 h3 h4' h5 h6 h7 h8 h10 h11 h12 h13 h14 h15 hrow1 HQi hcd htot hnm hrv hV1 hCV
      have HF : Hid (W.Extends (put V1 b2 (itemE false 0 none 0 0))) := by
        show World.Extends _ _
        rw [put_same hz1]; exact HEV.out
      clear HEV
      try dsimp only
      go_wp2_with fail
      refine ret_cell_tmp2 (C := itemE false 0 none 0 0) rfl rfl rfl rfl ?_ (by kernel_rfl) (by rw [it_len]; kernel_rfl) rfl (by rw [HQ.out]; exact ⟨0, none, 0, 0, _, rfl, fun h => absurd h (hz), HF.out⟩)
      rw [blk_put, if_pos rfl, hz1]; rfl
  · obtain rfl : i = k := by omega
    obtain ⟨h1, h2, h3, h4', h5, h6, h7, h8, h10, h11, h12, h13, h14, h15⟩ := HQi.out
    have htot : tot = (0, K, ys) := by rw [← h11, Nat.sub_self]; rfl
    have hik' : ¬ ((i : Int) < (i : Int)) := by omega
    have HQ : Hid (factF (x :: x2 :: r) = (0, (pr : Int), K, ys)) := by
      show _ = _
      rw [HQ0.out, htot]
      rfl
    have HF : ∀ j, Hid (CutFactPost w0 W (0, (pr : Int), K, ys) (.returned (.tuple #[.agg (itemE false (pr : Int) a' n' c').toArray, .slice ra rn rc, .int .i64 0])) (put (V.drewN j) b2 (itemE false (pr : Int) a' n' c'))) := fun j => by
      refine ⟨(pr : Int), a', n', c', _, rfl, fun _ => ⟨rfl, row_base (row_keep h6 (fun k hk => by rw [heap_put, if_neg (fun e => by have := (row_at h6 k hk).1; omega)]; rfl)) hWB, ra, rc, by rw [h12.1], by rw [h12.1]; exact h12, by rw [h12.1]; exact h13, h14, by rw [h12.1]; exact h15⟩, ext_put_new (extends_drewN h8 _) hW2 _⟩
    clear h5 h6 h7 h8 h10 h11 HQi htot h12 h13 h14 h15
    go_wp2_with fail
    refine ret_cell_tmp2 (C := itemE false (pr : Int) a' n' c') rfl rfl rfl rfl ?_ (by kernel_rfl) (by rw [it_len]; kernel_rfl) rfl (by rw [HQ.out]; first | exact (HF _).out | exact (HF 0).out)
    rw [blk_put, if_pos rfl]
    first | (rw [h1]; rfl) | (rw [blk_drewN, h1]; rfl)
end Go.Proofs.Qxb6500787aGreat
