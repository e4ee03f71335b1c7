import Derived.Test.Qxb6500789aXk
import Derived.StillTailTactics
import Derived.Deep.QuietTactic
import Derived.BigQuiet
import Derived.Deep.RegionHeld
import Derived.Deep.CutRange
import Derived.Laws.ResultCell
import Derived.Laws.Rows
import Derived.DeepKeys
import Derived.DataBytes
import Derived.Laws.StructEq
import Derived.Laws.AppendOwn
import Derived.Laws.MakeOwn
import Derived.Lib.AppendStr
set_option linter.unusedSimpArgs false
set_option linter.unusedVariables false
namespace Go.Proofs.Qxb6500789a
open Go.RowKit Go.Blk
attribute [local go_sem ↓] execOp_load execOp_store execOp_alloc
attribute [local go_sem] Try.ld29 Try.st29 Try.ld3 Try.st3 Try.ld9 Try.st9 Try.ld30 Try.st30 Try.ld34 Try.st34 Try.ld35 Try.st35 Try.ld36 Try.st36 Try.ld37 Try.st37 Try.ld44 Try.st44 Try.ld45 Try.st45 Try.ld54 Try.st54 Try.ld55 Try.st55 Try.ld74 Try.st74 Try.ld80 Try.st80 Try.ld84 Try.st84 Try.ld106 Try.st106 Try.ld107 Try.st107 Try.ld4 Try.st4 Try.ld121 Try.st121 Try.ld2 Try.st2 Try.ld5 Try.st5 Try.ld12 Try.st12 Try.ld21 Try.st21 Try.ld22 Try.st22 Try.ld24 Try.st24 Try.ld26 Try.st26 Try.ld63 Try.st63 Try.ld71 Try.st71 Try.ld103 Try.st103 Try.ld130 Try.st130 Try.ld133 Try.st133 Try.ld140 Try.st140 Try.ld152 Try.st152 Try.ld39 Try.st39 Try.ld32 Try.st32 Try.ld41 Try.st41 Try.ld47 Try.st47 Try.ld57 Try.st57 Try.ld62 Try.st62 Try.ld76 Try.st76 Try.ld82 Try.st82 Try.ld86 Try.st86 Try.ld109 Try.st109 Try.ld115 Try.st115 Try.ld123 Try.st123 Try.ld135 Try.st135 Try.al39 Try.al32 Try.al41 Try.al47 Try.al57 Try.al62 Try.al76 Try.al82 Try.al86 Try.al109 Try.al115 Try.al123 Try.al135
attribute [local go_sem] Answer.length_enc Answer.ok_enc Answer.all_get Answer.all_set Answer.code_get Answer.code_set Answer.n_get Answer.n_set Answer.name_get Answer.name_set Answer.rows_get Answer.rows_set GOp.length_enc GOp.ok_enc GOp.all_get GOp.all_set GOp.kind_get GOp.kind_set GOp.rel_get GOp.rel_set GOp.mask_get GOp.mask_set GOp.t_get GOp.t_set GOp.n_get GOp.n_set GOp.name_get GOp.name_set Store.length_enc Store.ok_enc Store.all_get Store.all_set Store.names_get Store.names_set Store.rels_get Store.rels_set GRel.length_enc GRel.ok_enc GRel.all_get GRel.all_set GRel.arity_get GRel.arity_set GRel.masks_get GRel.masks_set GRel.rows_get GRel.rows_set Row.length_enc Row.ok_enc Row.all_get Row.all_set Row.t_get Row.t_set Row.mark_get Row.mark_set View.length_enc View.ok_enc View.all_get View.all_set View.names_get View.names_set View.rels_get View.rels_set Symtab.length_enc Symtab.ok_enc Symtab.all_get Symtab.all_set Symtab.names_get Symtab.names_set Symtab.table_get Symtab.table_set StoreTuplestore.length_enc StoreTuplestore.ok_enc StoreTuplestore.all_get StoreTuplestore.all_set StoreTuplestore.syms_get StoreTuplestore.syms_set StoreTuplestore.rels_get StoreTuplestore.rels_set StoreTuplestore.syms_names_get StoreTuplestore.syms_names_set StoreTuplestore.syms_table_get StoreTuplestore.syms_table_set Relation.length_enc Relation.ok_enc Relation.all_get Relation.all_set Relation.arity_get Relation.arity_set Relation.slots_get Relation.slots_set Relation.live_get Relation.live_set Relation.idx_get Relation.idx_set Slot.length_enc Slot.ok_enc Slot.all_get Slot.all_set Slot.t_get Slot.t_set Slot.mark_get Slot.mark_set Slot.live_get Slot.live_set RelView.length_enc RelView.ok_enc RelView.all_get RelView.all_set RelView.arity_get RelView.arity_set RelView.rows_get RelView.rows_set RelView.marks_get RelView.marks_set RelView.indexed_get RelView.indexed_set Index.length_enc Index.ok_enc Index.all_get Index.all_set Index.mask_get Index.mask_set Index.heads_get Index.heads_set Index.next_get Index.next_set
attribute [local go_sem] size_put size_ext blk_put free_put blk_alloc free_alloc blk_drew free_drew blk_ext free_ext lookOr_some putOr_some segAt_some cellAt_some storeIn_some put_put put_alloc_new length_arr ok_arr_u8 ok_arr_u32 ok_arr_u64 ok_arr_i64 ok_arr_sl cellsV_agg cellsV_int cellsV_bool cellsV_string cellsV_pointer cellsV_slice cellsV_sl ok_int ok_bool ok_string ok_pointer ok_slice ok_sl toList_arr seg_arr set_arr nth_splice nth_splice0 seg_splice seg_splice0 splice_splice splice_splice0 length_splice_if
attribute [local go_sem ↓] execOp_box
attribute [local go_sem] box_run nth_arr_u8 put_arr_u8 blk_drewN free_drewN put_drewN blk_raw free_raw
theorem seg_off {C X : List Value} {o p n : Nat} (h : o + X.length ≤ C.length) (hd : p + n ≤ o ∨ o + X.length ≤ p) : seg (splice C o X) p n = seg C p n := by
  unfold seg
  apply List.ext_getElem?
  intro r
  rw [List.getElem?_take, List.getElem?_take]
  by_cases hr : r < n
  · rw [if_pos hr, if_pos hr, List.getElem?_drop, List.getElem?_drop]
    unfold splice
    rcases hd with hd | hd
    · rw [List.append_assoc, List.getElem?_append_left (by rw [List.length_take]; omega), List.getElem?_take, if_pos (by omega)]
    · rw [List.getElem?_append_right (by rw [List.length_append, List.length_take]; omega), List.length_append, List.length_take, List.getElem?_drop]
      congr 1
      omega
  · rw [if_neg hr, if_neg hr]
theorem RowL.set {α : Type} {en : α → List Value} {sz : Nat} (hsz : ∀ x, (en x).length = sz) {B : Nat} {O : Own} {l : Lab} {W : World} {ty : TypeId} {a : Option Addr} {n c : Nat} {K : List α} (h : RowL B O l W ty sz (.slice a n c) K.length (K.flatMap en)) {i : Nat} (hi : i < n) (x : α) :
    ∃ g C, a = some ⟨g, 0, none⟩ ∧ blk W g = some C ∧ free W g = true ∧ O g = l ∧ B ≤ g ∧ i * sz + sz ≤ C.length ∧ (∀ i x, K[i]? = some x → seg C (i * sz) sz = en x) ∧ RowL B O l (put W g (splice C (i * sz) (en x))) ty sz (.slice a n c) (K.set i x).length ((K.set i x).flatMap en) := by
  obtain ⟨g, C, e1, e2, e3, e4, e5, e6, e7, e8, e9⟩ := h.open hsz (by omega)
  have hle : (i + 1) * sz ≤ n * sz := Nat.mul_le_mul_right _ hi
  rw [Nat.add_mul, Nat.one_mul] at hle
  refine ⟨g, C, e1, e2, e3, e5, e6, by omega, e8, e9 _ _ (length_splice _ _ _ (by rw [hsz]; omega)) (by simp) (fun j y hy => ?_)⟩
  rw [List.getElem?_set] at hy
  by_cases hij : i = j
  · subst hij
    rw [if_pos rfl, if_pos (by omega)] at hy
    rw [seg_splice0 (by rw [hsz]; omega) (by rw [hsz]; exact Nat.le_refl _), ← Option.some.inj hy, seg_all _ _ (hsz x)]
  · rw [if_neg hij] at hy
    have hj : j < K.length := (List.getElem?_eq_some_iff.1 hy).1
    rw [seg_off (by rw [hsz]; omega) ?_]
    · exact e8 j y hy
    · rw [hsz]
      rcases Nat.lt_or_gt_of_ne hij with h1 | h1
      · right
        have := Nat.mul_le_mul_right sz h1
        rw [Nat.succ_mul] at this; omega
      · left
        have := Nat.mul_le_mul_right sz h1
        rw [Nat.succ_mul] at this; omega
theorem slice_hi_any {P : Program} {t e : TypeId} (hu : P.underlying t = some (.slice e)) (hs : ∃ i, P.info? e = some i) (w : World) (a : Option Addr) (len cap l : Nat) (h : l ≤ cap) :
    (sliceOp t (.slice a len cap) none (some (.int .i64 (l : Int))) none).run P w = .ok (.value (.slice a l cap)) w := by
  obtain ⟨i, hi⟩ := hs
  have h2 : (0 : Int) ≤ l ∧ (l : Int) ≤ cap := by omega
  simp [sliceOp, Instr.sliceAt, Instr.slice, Instr.sliceBounds, Instr.sliceBound, run_underlying hu, asIntOf, sizeOf, typeInfo, hi, h2, h]
  cases a with
  | none => simp
  | some x => simp [Addr.add]
theorem Try.sl106 (w : World) (a : Option Addr) (len cap l : Nat) (h : l ≤ cap) : (sliceOp 106 (.slice a len cap) none (some (.int .i64 (l : Int))) none).run Try.prog w = .ok (.value (.slice a l cap)) w := slice_hi_any Try.underlying106 (by obtain ⟨i, _, h, _⟩ := info115; exact ⟨i, h⟩) w a len cap l h
theorem Try.sl106z (w : World) (a : Option Addr) (len cap : Nat) : (sliceOp 106 (.slice a len cap) none (some (.int .i64 0)) none).run Try.prog w = .ok (.value (.slice a 0 cap)) w := Try.sl106 w a len cap 0 (Nat.zero_le _)
def liveL (L : List Slot) : List Slot := L.filter (fun s => s.live)
/-- Where compaction stands. -/
def CpQ (B : Nat) (O : Own) (W : World) (i : Nat) (sa : Option Addr) (sn sc : Nat) (L : List Slot) (w n : Nat) (V : World) : Prop := ∃ R : List Slot, Fr (fun l => l = .slots i) O W O V ∧ RowL B O (.slots i) V 115 6 (.slice sa sn sc) R.length (R.flatMap Slot.enc) ∧ R.take w = liveL (L.take n) ∧ R.drop n = L.drop n
def cpI (B : Nat) (O : Own) (W : World) (gr o i : Nat) (sa : Option Addr) (sn sc : Nat) (L : List Slot) (f : Nat → Value) (V : World) : Prop := f 0 = .pointer (some ⟨gr, o, none⟩) ∧ ∃ w n : Nat, w ≤ n ∧ n ≤ sn ∧ f 2 = .int .i64 (w : Nat) ∧ f 3 = .int .i64 (n : Nat) ∧ Hid (CpQ B O W i sa sn sc L w n V)
def rxF (B : Nat) (O2 : Own) (W2 : World) (gr o sl : Nat) (i : Nat) (sa : Option Addr) (sn sc : Nat) (ia : Option Addr) (iN ic : Nat) (L : List Slot) (K : List IxD) (n : Nat) (f : Nat → Value) (V : World) : Prop := f 0 = .pointer (some ⟨gr, o, none⟩) ∧ ∃ j : Nat, j ≤ iN ∧ f sl = .int .i64 (j : Nat) ∧ Hid (RxI B O2 W2 i sa sn sc ia iN ic L K n j V)
def isRelR (i : Nat) (lr l : Lab) : Prop := l = lr ∨ isRel i l
def CompPost (B : Nat) (O : Own) (W : World) (gr o : Nat) (Cr : List Value) (tyr : TypeId) (lr : Lab) (i : Nat) (sa : Option Addr) (sc : Nat) (ia : Option Addr) (iN ic : Nat) (L : List Slot) (K : List IxD) (e : Ending) (W' : World) : Prop := e = .returned (.tuple #[]) ∧ ∃ O' K', Fr (isRelR i lr) O W O' W' ∧ W'.heap[gr]? = some (.cells (splice Cr (o + 1) [.slice sa (liveL L).length sc]).toArray tyr (0, 0)) ∧ RelIn B O' W' i sa (liveL L).length sc ia iN ic (liveL L) K' ∧ K'.map (·.m) = K.map (·.m) ∧ ∀ k ∈ K', SzB k (liveL L).length
set_option maxRecDepth 100000 in
theorem frame66 (f : Nat → Value) : frameN 66 f = #[f 0, f 1, f 2, f 3, f 4, f 5, f 6, f 7, f 8, f 9, f 10, f 11, f 12, f 13, f 14, f 15, f 16, f 17, f 18, f 19, f 20, f 21, f 22, f 23, f 24, f 25, f 26, f 27, f 28, f 29, f 30, f 31, f 32, f 33, f 34, f 35, f 36, f 37, f 38, f 39, f 40, f 41, f 42, f 43, f 44, f 45, f 46, f 47, f 48, f 49, f 50, f 51, f 52, f 53, f 54, f 55, f 56, f 57, f 58, f 59, f 60, f 61, f 62, f 63, f 64, f 65] := by kernel_rfl
theorem liveL_snoc (L : List Slot) (s : Slot) : liveL (L ++ [s]) = if s.live then liveL L ++ [s] else liveL L := by
  unfold liveL
  rw [List.filter_append]
  cases h : s.live <;> simp [h]
theorem liveL_le (L : List Slot) : (liveL L).length ≤ L.length := List.length_filter_le _ _
attribute [local go_sem] Try.sl106 Try.sl106z
attribute [local go_sem ↓] execOp_slice
set_option maxRecDepth 20000 in
set_option maxHeartbeats 4000000 in
theorem compact_any (B : Nat) (O : Own) (W : World) (gr o : Nat) (Cr : List Value) (tyr : TypeId) (lr : Lab) (i : Nat) (ar : Int) (sa : Option Addr) (sn sc : Nat) (lv : Int) (ia : Option Addr) (iN ic : Nat) (L : List Slot) (K : List IxD) (hty : W.heap[gr]? = some (.cells Cr.toArray tyr (0, 0))) (hlr : O gr = lr) (hnl : ¬ isRel i lr) (hR : RelAt Cr o ar sa sn sc lv ia iN ic) (hI : RelIn B O W i sa sn sc ia iN ic L K) (hsn : sn ≤ 10000) (hiN : iN ≤ 1000) (hB : B ≤ W.heap.size) :
    Calls Try.prog 72 #[.pointer (some ⟨gr, o, none⟩)] W (CompPost B O W gr o Cr tyr lr i sa sc ia iN ic L K) := by
  have hb : blk W gr = some Cr := blk_mk hty
  obtain ⟨r4, c0, c1, c2, c3⟩ := hR
  obtain ⟨hLn, hKn⟩ := hI.lens
  have HTY : Hid (W.heap[gr]? = some (.cells Cr.toArray tyr (0, 0))) := hty
  have HLR : Hid (O gr = lr) := hlr
  have HNL : Hid (¬ isRel i lr) := hnl
  have HI : Hid (RelIn B O W i sa sn sc ia iN ic L K) := hI
  have HLN : Hid (L.length = sn) := hLn
  have HKN : Hid (K.length = iN) := hKn
  have hncap : sn ≤ sc := (hI.slots.rw Slot.length_enc).2.1
  have l1 : o + 1 + 1 ≤ Cr.length := by omega
  have l3 : o + 3 + 1 ≤ Cr.length := by omega
  have H0 : Hid (CpQ B O W i sa sn sc L 0 0 W) := ⟨L, Fr.refl _ _ _, hI.slots, rfl, rfl⟩
  clear hty hlr hnl hI hLn hKn
  go_enter Try.func72, Try.ntmps72
  go_wp2_with fail
  refine wp_loop_f 66 (cpI B O W gr o i sa sn sc L) (fun f _ => sn - (intOf (f 3)).toNat) rfl ⟨rfl, 0, 0, by omega, by omega, rfl, rfl, H0⟩ ?_
  clear H0
  intro F V hrel
  obtain ⟨f0, w, n, hwn, hn, f2, f3, HQ⟩ := hrel
  have H3 : Hid (F 3 = .int .i64 (n : Nat)) := f3
  rw [frame66, f0, f2, f3]
  clear f0 f2 f3
  obtain ⟨R, hF, hrow, htk, hdr⟩ := HQ.out
  have hbV : blk V gr = some Cr := hF.blk hb (by rw [HLR.out]; intro e; exact HNL.out (.inl e))
  have hRl : R.length = sn := (hrow.rw Slot.length_enc).1.1
  by_cases hin : n < sn
  · have hin' : (n : Int) < (sn : Int) := by omega
    obtain ⟨s, hs⟩ : ∃ s, L[n]? = some s := ⟨_, List.getElem?_eq_getElem (by rw [HLN.out]; exact hin)⟩
    have hRs : R[n]? = some s := by
      have h1 : (R.drop n)[0]? = (L.drop n)[0]? := by rw [hdr]
      rw [List.getElem?_drop, List.getElem?_drop, Nat.add_zero] at h1
      rw [h1]; exact hs
    obtain ⟨gs, Cs, rfl, hCs, hcs6, _, _, um, ul, us6⟩ := slot_at (hrow.rw Slot.length_enc).1 hRs
    have p0 : (0 : Int) ≤ (n : Int) := by omega
    have p2 : ((n : Int)).toNat = n := by omega
    have w5 : n * 6 + 5 < Cs.length := by omega
    have w6 : n * 6 + 5 + 1 ≤ Cs.length := by omega
    have hdr' : ∀ R' : List Slot, (∀ j, n < j → R'[j]? = R[j]?) → R'.drop (n + 1) = L.drop (n + 1) := fun R' hR' => by
      apply List.ext_getElem?
      intro j
      have h1 : (R.drop n)[j + 1]? = (L.drop n)[j + 1]? := by rw [hdr]
      rw [List.getElem?_drop, List.getElem?_drop] at h1 ⊢
      rw [hR' (n + 1 + j) (by omega), show n + 1 + j = n + (j + 1) by omega, h1]
    have hlt : liveL (L.take (n + 1)) = if s.live then liveL (L.take n) ++ [s] else liveL (L.take n) := by rw [take_at hs, liveL_snoc]
    have hwl : (liveL (L.take n)).length = w := by rw [← htk, List.length_take]; omega
    by_cases hlv : s.live = true
    · rw [hlv] at ul
      rw [if_pos hlv] at hlt
      obtain ⟨g', Cs', z1, z2, hfs, hog, _, hw6, hsegs, hset⟩ := hrow.set Slot.length_enc (i := w) (by omega) s
      injection z1 with z1; injection z1 with z1
      subst z1
      obtain rfl := Option.some.inj (z2.symm.trans hCs)
      have HQ' : Hid (CpQ B O W i (some ⟨gs, 0, none⟩) sn sc L (w + 1) (n + 1) ((put V gs (splice Cs' (w * 6) (Slot.enc s))).drew)) := by
        refine ⟨R.set w s, (hF.put (by rw [hog]) _).drew, hset, ?_, ?_⟩
        · rw [hlt, ← htk, List.take_add_one, List.getElem?_set, if_pos rfl, if_pos (by omega)]
          rw [List.take_set_of_le (Nat.le_refl _)]; rfl
        · exact hdr' _ (fun j hj => by rw [List.getElem?_set, if_neg (by omega)])
      have q0 : (0 : Int) ≤ (w : Int) := by omega
      have q1 : (w : Int) < (sn : Int) := by omega
      have q2 : ((w : Int)).toNat = w := by omega
      have hgn : gr ≠ gs := fun e => by rw [← e, HLR.out] at hog; exact HNL.out (.inl hog)
      clear HQ hF hrow hset hsegs hlt htk hdr hdr' hRs hs z2 hwl um
      go_upto_region 5 with fail
      refine wp_region_held_drew (S := fun W' => blk W' gr = some Cr) (by kernel_rfl) hbV (fun hHeld => ?_)
      refine wpAnyH_take (i := 0) (oi := ⟨_, _, _, _, _, _⟩) (v := ?_) rfl (by kernel_rfl) (by kernel_rfl) (by kernel_rfl) (fun _ _ _ h => h) (Or.inl ⟨by rfl, ?_⟩) (by assumption) ?_
      rotate_left 1
      · intro W' hS1
        go_simp
        try with_reducible rfl
      try simp only [Act.put, List.setIfInBounds_toArray, List.set_cons_zero, List.set_cons_succ]
      refine wpAnyH_take (i := 1) (oi := ⟨_, _, _, _, _, _⟩) (v := ?_) rfl (by kernel_rfl) (by kernel_rfl) (by kernel_rfl) (fun _ _ _ h => h) (Or.inl ⟨by rfl, ?_⟩) (by assumption) ?_
      rotate_left 1
      · intro W' hS1
        go_simp
        try with_reducible rfl
      try simp only [Act.put, List.setIfInBounds_toArray, List.set_cons_zero, List.set_cons_succ]
      refine wpAnyH_take (i := 2) (oi := ⟨_, _, _, _, _, _⟩) (v := ?_) rfl (by kernel_rfl) (by kernel_rfl) (by kernel_rfl) (fun _ _ _ h => h) (Or.inl ⟨by rfl, ?_⟩) (by assumption) ?_
      rotate_left 1
      · intro W' hS1
        go_simp
        try with_reducible rfl
      try simp only [Act.put, List.setIfInBounds_toArray, List.set_cons_zero, List.set_cons_succ]
      refine wpAnyH_take (i := 3) (oi := ⟨_, _, _, _, _, _⟩) (v := ?_) rfl (by kernel_rfl) (by kernel_rfl) (by kernel_rfl) (fun _ _ _ h => h) (Or.inl ⟨by rfl, ?_⟩) (by assumption) ?_
      rotate_left 1
      · intro W' hS1
        go_simp
        try with_reducible rfl
      try simp only [Act.put, List.setIfInBounds_toArray, List.set_cons_zero, List.set_cons_succ]
      refine wpAnyH_take (i := 4) (oi := ⟨_, _, _, _, _, _⟩) (v := ?_) rfl (by kernel_rfl) (by kernel_rfl) (by kernel_rfl) (fun _ _ _ h => h) (Or.inl ⟨by rfl, ?_⟩) (by assumption) ?_
      rotate_left 1
      · intro W' hS1
        go_simp
        try with_reducible rfl
      try simp only [Act.put, List.setIfInBounds_toArray, List.set_cons_zero, List.set_cons_succ]
      refine wpAnyH_take (i := 5) (oi := ⟨_, _, _, _, _, _⟩) (v := ?_) rfl (by kernel_rfl) (by kernel_rfl) (by kernel_rfl) (fun _ _ _ h => h) (Or.inl ⟨by rfl, ?_⟩) (by assumption) ?_
      rotate_left 1
      · intro W' hS1
        go_simp
        try with_reducible rfl
      try simp only [Act.put, List.setIfInBounds_toArray, List.set_cons_zero, List.set_cons_succ]
      refine wpAnyH_take (i := 6) (oi := ⟨_, _, _, _, _, _⟩) (v := ?_) rfl (by kernel_rfl) (by kernel_rfl) (by kernel_rfl) (fun _ _ _ h => h) (Or.inl ⟨by rfl, ?_⟩) (by assumption) ?_
      rotate_left 1
      · intro W' hS1
        go_simp
        try with_reducible rfl
      try simp only [Act.put, List.setIfInBounds_toArray, List.set_cons_zero, List.set_cons_succ]
      refine wpAnyH_take (i := 7) (oi := ⟨_, _, _, _, _, _⟩) (v := ?_) rfl (by kernel_rfl) (by kernel_rfl) (by kernel_rfl) (fun _ _ _ h => h) (Or.inl ⟨by rfl, ?_⟩) (by assumption) ?_
      rotate_left 1
      · intro W' hS1
        go_simp
        try with_reducible rfl
      try simp only [Act.put, List.setIfInBounds_toArray, List.set_cons_zero, List.set_cons_succ]
      refine wpAnyH_take (i := 8) (oi := ⟨_, _, _, _, _, _⟩) (v := ?_) rfl (by kernel_rfl) (by kernel_rfl) (by kernel_rfl) (fun _ _ _ h => h) (Or.inl ⟨by rfl, ?_⟩) (by assumption) ?_
      rotate_left 1
      · intro W' hS1
        go_simp
        try with_reducible rfl
      try simp only [Act.put, List.setIfInBounds_toArray, List.set_cons_zero, List.set_cons_succ]
      refine wpAnyH_take (i := 9) (oi := ⟨_, _, _, _, _, _⟩) (v := ?_) rfl (by kernel_rfl) (by kernel_rfl) (by kernel_rfl) (fun _ _ _ h => h) (Or.inl ⟨by rfl, ?_⟩) (by assumption) ?_
      rotate_left 1
      · intro W' hS1
        go_simp
        try with_reducible rfl
      try simp only [Act.put, List.setIfInBounds_toArray, List.set_cons_zero, List.set_cons_succ]
      refine wpAnyH_take (i := 10) (oi := ⟨_, _, _, _, _, _⟩) (v := ?_) rfl (by kernel_rfl) (by kernel_rfl) (by kernel_rfl) (fun _ _ _ h => h) (Or.inl ⟨by rfl, ?_⟩) (by assumption) ?_
      rotate_left 1
      · intro W' hS1
        go_simp
        try with_reducible rfl
      try simp only [Act.put, List.setIfInBounds_toArray, List.set_cons_zero, List.set_cons_succ]
      have hCs2 : blk V.drew gs = some Cs' := hCs
      have hfs2 : free V.drew gs = true := hfs
      refine wpAnyH_ready (rs := [11]) (by kernel_rfl) (by simp) ?_
      refine AllReadyH.cons (o := ⟨_, _, _, _, _, _⟩) rfl (fun K' hK => ?_) AllReadyH.nil
      go_simp
      refine hK.out _ _ hbV (fun hHeld => ?_)
      clear hK K'
      try simp only [Act.put, List.setIfInBounds_toArray, List.set_cons_zero, List.set_cons_succ]
      refine wpAnyH_take (i := 12) (oi := ⟨_, _, _, _, _, _⟩) (v := ?_) rfl (by kernel_rfl) (by kernel_rfl) (by kernel_rfl) (fun _ _ _ h => h) (Or.inl ⟨by rfl, ?_⟩) (by assumption) ?_
      rotate_left 1
      · intro W' hS1
        go_simp
        try with_reducible rfl
      try simp only [Act.put, List.setIfInBounds_toArray, List.set_cons_zero, List.set_cons_succ]
      refine wpAnyH_ready (rs := [13]) (by kernel_rfl) (by simp) ?_
      refine AllReadyH.cons (o := ⟨_, _, _, _, _, _⟩) rfl (fun K' hK => ?_) AllReadyH.nil
      go_simp
      refine hK.out _ _ ?_ (fun hHeld => ?_)
      · show blk (put V gs _) gr = _
        rw [blk_put, if_neg hgn]; exact hbV
      clear hK K'
      try simp only [Act.put, List.setIfInBounds_toArray, List.set_cons_zero, List.set_cons_succ]
      refine wpAnyH_done (by kernel_rfl) ?_ _
      go_wp2_with fail
      refine ⟨rfl, rfl, ⟨rfl, w + 1, n + 1, by omega, by omega, ?_, ?_, HQ'⟩, ?_⟩
      · show Value.int .i64 _ = _
        go_num
      · show Value.int .i64 _ = _
        go_num
      · show sn - (intOf (Value.int .i64 _)).toNat < sn - (intOf (F 3)).toNat
        rw [H3.out]
        simp [intOf]; omega
    · have hlv' : s.live = false := by simpa using hlv
      rw [hlv'] at ul
      rw [if_neg hlv] at hlt
      have HQ' : Hid (CpQ B O W i (some ⟨gs, 0, none⟩) sn sc L w (n + 1) V) := by
        refine ⟨R, hF, hrow, by rw [hlt]; exact htk, hdr' _ (fun j hj => rfl)⟩
      clear HQ hF hrow hlt htk hdr hdr' hRs hs hwl um us6
      go_wp2_with fail
      refine ⟨rfl, rfl, ⟨rfl, w, n + 1, by omega, by omega, rfl, ?_, HQ'⟩, ?_⟩
      · show Value.int .i64 _ = _
        go_num
      · show sn - (intOf (Value.int .i64 _)).toNat < sn - (intOf (F 3)).toNat
        rw [H3.out]
        simp [intOf]; omega
  obtain rfl : n = sn := by omega
  have hin' : ¬ ((n : Int) < (n : Int)) := by omega
  have hLt : L.take n = L := List.take_of_length_le (by rw [HLN.out]; exact Nat.le_refl _)
  rw [hLt] at htk
  have hwl : (liveL L).length = w := by rw [← htk, List.length_take]; omega
  have HWL : Hid ((liveL L).length = w) := hwl
  have hwc : w ≤ sc := by omega
  have hfV : free V gr = true := (free_of_heap (hF.block gr (blk_lt hb) (by rw [HLR.out]; intro e; exact HNL.out (.inl e)))).trans (free_mk HTY.out)
  have htyV : V.heap[gr]? = some (.cells Cr.toArray tyr (0, 0)) := (hF.block gr (blk_lt hb) (by rw [HLR.out]; intro e; exact HNL.out (.inl e))).trans HTY.out
  have HX0 : Hid (RxI B O (put V gr (splice Cr (o + 1) [.slice sa w sc])) i sa w sc ia iN ic (liveL L) K n 0 (put V gr (splice Cr (o + 1) [.slice sa w sc])) ∧ Fr (isRelR i lr) O W O (put V gr (splice Cr (o + 1) [.slice sa w sc])) ∧ (put V gr (splice Cr (o + 1) [.slice sa w sc])).heap[gr]? = some (.cells (splice Cr (o + 1) [.slice sa w sc]).toArray tyr (0, 0))) := by
    have hF2 : Fr (isRelR i lr) O W O (put V gr (splice Cr (o + 1) [.slice sa w sc])) := Fr.put (hF.mono (fun l hl => .inr (.inl hl))) (by rw [HLR.out]; exact .inl rfl) _
    have hFp : Fr (fun l => l = .slots i ∨ l = lr) O W O (put V gr (splice Cr (o + 1) [.slice sa w sc])) := Fr.put (hF.mono (fun l hl => .inl hl)) (by rw [HLR.out]; exact .inr rfl) _
    have hne : ∀ l, isRel i l → l ≠ .slots i → ¬ (l = .slots i ∨ l = lr) := fun l h1 h2 h3 => by
      rcases h3 with h3 | h3
      · exact h2 h3
      · exact HNL.out (h3 ▸ h1)
    refine ⟨?_, hF2, by rw [heap_put, if_pos rfl, htyV]; rfl⟩
    have hid := HI.out.idx.fr hFp (hne _ (.inr (.inl rfl)) (by intro e; cases e))
    rw [HLN.out] at hid
    refine rx_start hid (fun j k hk => ?_) ?_
    · have h1 := HI.out.ixs j k hk
      have h2 := h1.next.fr hFp (hne _ (.inr (.inr (.inr ⟨j, rfl⟩))) (by intro e; cases e))
      rw [HLN.out] at h2
      exact ⟨h1.sz.1, _, h2⟩
    · have h3 := hrow.cut Slot.length_enc (k := w) (by omega)
      rw [htk] at h3
      exact h3.keep (fun k hk ho => ⟨by rw [heap_put, if_neg (fun e => by rw [e, HLR.out] at ho; exact HNL.out (.inl ho))], rfl⟩)
  clear HQ hF hrow htk hdr hwl hRl
  have c1' : nth (splice Cr (o + 1) [.slice sa w sc]) (o + 1) = some (.slice sa w sc) := by rw [splice_nth (by omega), if_pos rfl]
  have c3' : nth (splice Cr (o + 1) [.slice sa w sc]) (o + 3) = some (.slice ia iN ic) := by rw [splice_nth (by omega), if_neg (by omega)]; exact c3
  have sl' : (splice Cr (o + 1) [.slice sa w sc]).length = Cr.length := length_splice1 (by omega)
  go_wp2_with fail
  obtain ⟨W2, hW2⟩ : ∃ W2, W2 = put V gr (splice Cr (o + 1) [.slice sa w sc]) := ⟨_, rfl⟩
  rw [← hW2] at HX0 ⊢
  refine wp_loop_f 66 (rxF B O W2 gr o 4 i sa w sc ia iN ic (liveL L) K n) (fun f _ => iN - (intOf (f 4)).toNat) rfl ⟨rfl, 0, by omega, rfl, HX0.out.1⟩ ?_
  have HF2 : Hid (Fr (isRelR i lr) O W O W2) := HX0.out.2.1
  have HT2 : Hid (W2.heap[gr]? = some (.cells (splice Cr (o + 1) [.slice sa w sc]).toArray tyr (0, 0))) := HX0.out.2.2
  clear hW2 HX0 hbV hfV htyV hin'
  intro F2 V2 hrel
  obtain ⟨f0, j, hj, f4, HQ⟩ := hrel
  have H4 : Hid (F2 4 = .int .i64 (j : Nat)) := f4
  rw [frame66, f0, f4]
  clear f0 f4
  have hl2 : ¬ isIxs i lr := fun h => HNL.out (by
    rcases h with rfl | ⟨j, rfl⟩ | ⟨j, rfl⟩
    · exact .inr (.inl rfl)
    · exact .inr (.inr (.inl ⟨j, rfl⟩))
    · exact .inr (.inr (.inr ⟨j, rfl⟩)))
  have hb2 : blk W2 gr = some (splice Cr (o + 1) [.slice sa w sc]) := blk_mk HT2.out
  by_cases hjn : j < iN
  · have hjn' : (j : Int) < (iN : Int) := by omega
    obtain ⟨O1, gi, Ci, k, X, rfl, htyi, hoi, _, hsegi, hci3, hX, hSl, hm, hF1, hnext⟩ := rx_open HQ.out (by rw [HKN.out]; exact hjn)
    have hbV : blk V2 gr = some (splice Cr (o + 1) [.slice sa w sc]) := hF1.blk hb2 (by rw [HLR.out]; exact hl2)
    have hbi : blk V2 gi = some Ci := blk_mk htyi
    have HC : Hid (∀ V', RebPost B O1 V2.drew gi (j * 3) Ci 135 i j k.m (liveL L) (.returned (.tuple #[])) V' → RxI B O W2 i sa w sc (some ⟨gi, 0, none⟩) iN ic (liveL L) K n (j + 1) V') := fun V' h => hnext V' (by
      obtain ⟨g1, ha, size, jj, h1, h2, h3, h4, h5, O', xa, xc, hF, hrest⟩ := h
      exact ⟨g1, ha, size, jj, h1, h2, h3, h4, h5, O', xa, xc, ⟨hF.os, hF.tape, hF.output, hF.size, hF.keep, hF.block⟩, hrest⟩)
    have q0 : (0 : Int) ≤ (j : Int) := by omega
    have q2 : ((j : Int)).toNat = j := by omega
    have HP : Hid (RowL B O1 (.next i j) V2 3 1 (.slice k.xa n k.xc) X.length (X.flatMap encK) ∧ RowL B O1 (.slots i) V2 115 6 (.slice sa w sc) (liveL L).length ((liveL L).flatMap Slot.enc) ∧ seg Ci (j * 3) 3 = ixE (k.m : Int) k.ha k.size k.size k.xa n k.xc ∧ V2.heap[gi]? = some (.cells Ci.toArray 135 (0, 0)) ∧ O1 gi = .idx i ∧ B ≤ V2.heap.size) := ⟨hX, hSl, hsegi, htyi, hoi, Nat.le_trans hB (Nat.le_trans HF2.out.size hF1.size)⟩
    clear hX hSl hsegi htyi hoi hnext HQ hF1
    go_upto_region 11 with fail
    refine wp_region_held_drew (S := fun W' => blk W' gr = some (splice Cr (o + 1) [.slice sa w sc])) (by kernel_rfl) hbV (fun hHeld => ?_)
    refine wpAnyH_take (i := 0) (oi := ⟨_, _, _, _, _, _⟩) (v := ?_) rfl (by kernel_rfl) (by kernel_rfl) (by kernel_rfl) (fun _ _ _ h => h) (Or.inl ⟨by rfl, ?_⟩) (by assumption) ?_
    rotate_left 1
    · intro W' hS1
      go_simp
      try with_reducible rfl
    try simp only [Act.put, List.setIfInBounds_toArray, List.set_cons_zero, List.set_cons_succ]
    refine wpAnyH_take (i := 1) (oi := ⟨_, _, _, _, _, _⟩) (v := ?_) rfl (by kernel_rfl) (by kernel_rfl) (by kernel_rfl) (fun _ _ _ h => h) (Or.inl ⟨by rfl, ?_⟩) (by assumption) ?_
    rotate_left 1
    · intro W' hS1
      go_simp
      try with_reducible rfl
    try simp only [Act.put, List.setIfInBounds_toArray, List.set_cons_zero, List.set_cons_succ]
    refine wpAnyH_take (i := 2) (oi := ⟨_, _, _, _, _, _⟩) (v := ?_) rfl (by kernel_rfl) (by kernel_rfl) (by kernel_rfl) (fun _ _ _ h => h) (Or.inl ⟨by rfl, ?_⟩) (by assumption) ?_
    rotate_left 1
    · intro W' hS1
      go_simp
      try with_reducible rfl
    try simp only [Act.put, List.setIfInBounds_toArray, List.set_cons_zero, List.set_cons_succ]
    refine wpAnyH_take (i := 3) (oi := ⟨_, _, _, _, _, _⟩) (v := ?_) rfl (by kernel_rfl) (by kernel_rfl) (by kernel_rfl) (fun _ _ _ h => h) (Or.inl ⟨by rfl, ?_⟩) (by assumption) ?_
    rotate_left 1
    · intro W' hS1
      go_simp
      try with_reducible rfl
    try simp only [Act.put, List.setIfInBounds_toArray, List.set_cons_zero, List.set_cons_succ]
    refine wpAnyH_take (i := 4) (oi := ⟨_, _, _, _, _, _⟩) (v := ?_) rfl (by kernel_rfl) (by kernel_rfl) (by kernel_rfl) (fun _ _ _ h => h) (Or.inl ⟨by rfl, ?_⟩) (by assumption) ?_
    rotate_left 1
    · intro W' hS1
      go_simp
      try with_reducible rfl
    try simp only [Act.put, List.setIfInBounds_toArray, List.set_cons_zero, List.set_cons_succ]
    refine wpAnyH_take (i := 5) (oi := ⟨_, _, _, _, _, _⟩) (v := ?_) rfl (by kernel_rfl) (by kernel_rfl) (by kernel_rfl) (fun _ _ _ h => h) (Or.inl ⟨by rfl, ?_⟩) (by assumption) ?_
    rotate_left 1
    · intro W' hS1
      go_simp
      try with_reducible rfl
    try simp only [Act.put, List.setIfInBounds_toArray, List.set_cons_zero, List.set_cons_succ]
    refine wpAnyH_take (i := 6) (oi := ⟨_, _, _, _, _, _⟩) (v := ?_) rfl (by kernel_rfl) (by kernel_rfl) (by kernel_rfl) (fun _ _ _ h => h) (Or.inl ⟨by rfl, ?_⟩) (by assumption) ?_
    rotate_left 1
    · intro W' hS1
      go_simp
      try with_reducible rfl
    try simp only [Act.put, List.setIfInBounds_toArray, List.set_cons_zero, List.set_cons_succ]
    refine wpAnyH_take (i := 7) (oi := ⟨_, _, _, _, _, _⟩) (v := ?_) rfl (by kernel_rfl) (by kernel_rfl) (by kernel_rfl) (fun _ _ _ h => h) (Or.inl ⟨by rfl, ?_⟩) (by assumption) ?_
    rotate_left 1
    · intro W' hS1
      go_simp
      try with_reducible rfl
    try simp only [Act.put, List.setIfInBounds_toArray, List.set_cons_zero, List.set_cons_succ]
    refine wpAnyH_take (i := 8) (oi := ⟨_, _, _, _, _, _⟩) (v := ?_) rfl (by kernel_rfl) (by kernel_rfl) (by kernel_rfl) (fun _ _ _ h => h) (Or.inl ⟨by rfl, ?_⟩) (by assumption) ?_
    rotate_left 1
    · intro W' hS1
      go_simp
      try with_reducible rfl
    try simp only [Act.put, List.setIfInBounds_toArray, List.set_cons_zero, List.set_cons_succ]
    refine wpAnyH_take (i := 9) (oi := ⟨_, _, _, _, _, _⟩) (v := ?_) rfl (by kernel_rfl) (by kernel_rfl) (by kernel_rfl) (fun _ _ _ h => h) (Or.inl ⟨by rfl, ?_⟩) (by assumption) ?_
    rotate_left 1
    · intro W' hS1
      go_simp
      try with_reducible rfl
    try simp only [Act.put, List.setIfInBounds_toArray, List.set_cons_zero, List.set_cons_succ]
    refine wpAnyH_ready (rs := [10]) (by kernel_rfl) (by simp) ?_
    refine AllReadyH.cons (o := ⟨_, _, _, _, _, _⟩) rfl (fun K' hK => ?_) AllReadyH.nil
    go_simp
    refine (rebuild_any B O1 V2.drew gi (j * 3) Ci i j k.m k.ha k.size k.size k.xa n k.xc X sa w sc (liveL L) 135 HP.out.2.2.2.1 HP.out.2.2.2.2.1 HP.out.2.2.1 hci3 HP.out.1 HP.out.2.1 hm (by omega) HP.out.2.2.2.2.2).mono ?_
    intro e V3 hP3
    have hbV3 : blk V3 gr = some (splice Cr (o + 1) [.slice sa w sc]) := by
      obtain ⟨O9, K9, g1, _⟩ := HC.out V3 (by obtain ⟨rfl, h⟩ := hP3; exact ⟨rfl, h⟩)
      exact g1.blk hb2 (by rw [HLR.out]; exact hl2)
    have HN : Hid (RxI B O W2 i sa w sc (some ⟨gi, 0, none⟩) iN ic (liveL L) K n (j + 1) V3) := HC.out V3 (by obtain ⟨rfl, h⟩ := hP3; exact ⟨rfl, h⟩)
    obtain ⟨rfl, _⟩ := hP3
    clear HC HP
    dsimp only
    refine hK.out _ _ hbV3 (fun hHeld => ?_)
    clear hK K'
    try simp only [Act.put, List.setIfInBounds_toArray, List.set_cons_zero, List.set_cons_succ]
    refine wpAnyH_done (by kernel_rfl) ?_ _
    go_wp2_with fail
    refine ⟨rfl, rfl, ⟨rfl, j + 1, by omega, ?_, HN⟩, ?_⟩
    · show Value.int .i64 _ = _
      go_num
    · show iN - (intOf (Value.int .i64 _)).toNat < iN - (intOf (F2 4)).toNat
      rw [H4.out]
      simp [intOf]; omega
  · obtain rfl : j = iN := by omega
    have hjn' : ¬ ((j : Int) < (j : Int)) := by omega
    have HFIN : Hid (CompPost B O W gr o Cr tyr lr i sa sc ia j ic L K (.returned (.tuple #[])) V2 ∧ blk V2 gr = some (splice Cr (o + 1) [.slice sa w sc])) := by
      have h9 := HQ.out
      rw [← HKN.out] at h9
      obtain ⟨O9, K9, g1, g2, g3, g4⟩ := rx_done h9
      rw [HKN.out] at g2
      refine ⟨⟨rfl, O9, K9, HF2.out.trans (g1.mono (fun l hl => .inr ?_)), ?_, ?_, g3, g4⟩, g1.blk hb2 (by rw [HLR.out]; exact hl2)⟩
      · rcases hl with rfl | ⟨j, rfl⟩ | ⟨j, rfl⟩
        · exact .inr (.inl rfl)
        · exact .inr (.inr (.inl ⟨j, rfl⟩))
        · exact .inr (.inr (.inr ⟨j, rfl⟩))
      · rw [HWL.out]
        exact (g1.block gr (blk_lt hb2) (by rw [HLR.out]; exact hl2)).trans HT2.out
      · rw [HWL.out]; exact g2
    have hbV := HFIN.out.2
    clear HQ
    go_wp2_with fail
    go_end0
    exact HFIN.out.1
end Go.Proofs.Qxb6500789a
