import Derived.Test.Qxb6500789aXh
import Derived.StillTailTactics
import Derived.Deep.QuietTactic
import Derived.BigQuiet
import Derived.Deep.RegionHeld
import Derived.Deep.CutRange
import Derived.Laws.ResultCell
import Derived.Laws.Rows
import Derived.DeepKeys
import Derived.DataBytes
import Derived.Laws.StructEq
import Derived.Laws.AppendOwn
import Derived.Laws.MakeOwn
import Derived.Lib.AppendStr
set_option linter.unusedSimpArgs false
set_option linter.unusedVariables false
namespace Go.Proofs.Qxb6500789a
open Go.RowKit Go.Blk
attribute [local go_sem ↓] execOp_load execOp_store execOp_alloc
attribute [local go_sem] Try.ld29 Try.st29 Try.ld3 Try.st3 Try.ld9 Try.st9 Try.ld30 Try.st30 Try.ld34 Try.st34 Try.ld35 Try.st35 Try.ld36 Try.st36 Try.ld37 Try.st37 Try.ld44 Try.st44 Try.ld45 Try.st45 Try.ld54 Try.st54 Try.ld55 Try.st55 Try.ld74 Try.st74 Try.ld80 Try.st80 Try.ld84 Try.st84 Try.ld106 Try.st106 Try.ld107 Try.st107 Try.ld4 Try.st4 Try.ld121 Try.st121 Try.ld2 Try.st2 Try.ld5 Try.st5 Try.ld12 Try.st12 Try.ld21 Try.st21 Try.ld22 Try.st22 Try.ld24 Try.st24 Try.ld26 Try.st26 Try.ld63 Try.st63 Try.ld71 Try.st71 Try.ld103 Try.st103 Try.ld130 Try.st130 Try.ld133 Try.st133 Try.ld140 Try.st140 Try.ld152 Try.st152 Try.ld39 Try.st39 Try.ld32 Try.st32 Try.ld41 Try.st41 Try.ld47 Try.st47 Try.ld57 Try.st57 Try.ld62 Try.st62 Try.ld76 Try.st76 Try.ld82 Try.st82 Try.ld86 Try.st86 Try.ld109 Try.st109 Try.ld115 Try.st115 Try.ld123 Try.st123 Try.ld135 Try.st135 Try.al39 Try.al32 Try.al41 Try.al47 Try.al57 Try.al62 Try.al76 Try.al82 Try.al86 Try.al109 Try.al115 Try.al123 Try.al135
attribute [local go_sem] Answer.length_enc Answer.ok_enc Answer.all_get Answer.all_set Answer.code_get Answer.code_set Answer.n_get Answer.n_set Answer.name_get Answer.name_set Answer.rows_get Answer.rows_set GOp.length_enc GOp.ok_enc GOp.all_get GOp.all_set GOp.kind_get GOp.kind_set GOp.rel_get GOp.rel_set GOp.mask_get GOp.mask_set GOp.t_get GOp.t_set GOp.n_get GOp.n_set GOp.name_get GOp.name_set Store.length_enc Store.ok_enc Store.all_get Store.all_set Store.names_get Store.names_set Store.rels_get Store.rels_set GRel.length_enc GRel.ok_enc GRel.all_get GRel.all_set GRel.arity_get GRel.arity_set GRel.masks_get GRel.masks_set GRel.rows_get GRel.rows_set Row.length_enc Row.ok_enc Row.all_get Row.all_set Row.t_get Row.t_set Row.mark_get Row.mark_set View.length_enc View.ok_enc View.all_get View.all_set View.names_get View.names_set View.rels_get View.rels_set Symtab.length_enc Symtab.ok_enc Symtab.all_get Symtab.all_set Symtab.names_get Symtab.names_set Symtab.table_get Symtab.table_set StoreTuplestore.length_enc StoreTuplestore.ok_enc StoreTuplestore.all_get StoreTuplestore.all_set StoreTuplestore.syms_get StoreTuplestore.syms_set StoreTuplestore.rels_get StoreTuplestore.rels_set StoreTuplestore.syms_names_get StoreTuplestore.syms_names_set StoreTuplestore.syms_table_get StoreTuplestore.syms_table_set Relation.length_enc Relation.ok_enc Relation.all_get Relation.all_set Relation.arity_get Relation.arity_set Relation.slots_get Relation.slots_set Relation.live_get Relation.live_set Relation.idx_get Relation.idx_set Slot.length_enc Slot.ok_enc Slot.all_get Slot.all_set Slot.t_get Slot.t_set Slot.mark_get Slot.mark_set Slot.live_get Slot.live_set RelView.length_enc RelView.ok_enc RelView.all_get RelView.all_set RelView.arity_get RelView.arity_set RelView.rows_get RelView.rows_set RelView.marks_get RelView.marks_set RelView.indexed_get RelView.indexed_set Index.length_enc Index.ok_enc Index.all_get Index.all_set Index.mask_get Index.mask_set Index.heads_get Index.heads_set Index.next_get Index.next_set
attribute [local go_sem] size_put size_ext blk_put free_put blk_alloc free_alloc blk_drew free_drew blk_ext free_ext lookOr_some putOr_some segAt_some cellAt_some storeIn_some put_put put_alloc_new length_arr ok_arr_u8 ok_arr_u32 ok_arr_u64 ok_arr_i64 ok_arr_sl cellsV_agg cellsV_int cellsV_bool cellsV_string cellsV_pointer cellsV_slice cellsV_sl ok_int ok_bool ok_string ok_pointer ok_slice ok_sl toList_arr seg_arr set_arr nth_splice nth_splice0 seg_splice seg_splice0 splice_splice splice_splice0 length_splice_if
attribute [local go_sem ↓] execOp_box
attribute [local go_sem] box_run nth_arr_u8 put_arr_u8 blk_drewN free_drewN put_drewN blk_raw free_raw
def bsOf (L : List Slot) (m size : Nat) : List Nat := L.map (fun s => bF s.t m size)
theorem bsOf_len (L : List Slot) (m size : Nat) : (bsOf L m size).length = L.length := by simp [bsOf]
theorem ix_set1 {C : List Value} {q : Nat} {m : Int} {ha : Option Addr} {hn hc : Nat} {xa : Option Addr} {xn xc : Nat} (h : seg C q 3 = ixE m ha hn hc xa xn xc) (hq : q + 3 ≤ C.length) (a : Option Addr) (n c : Nat) : splice C (q + 1) [.slice a n c] = splice C q (ixE m a n c xa xn xc) := by
  have e : splice C q (ixE m ha hn hc xa xn xc) = C := by rw [← h]; exact splice_self (m := 3) rfl hq
  have h2 := splice_splice (C := C) (X := ixE m ha hn hc xa xn xc) (vs := [.slice a n c]) (o := q) (j := 1) (by show q + 3 ≤ _; exact hq) (by show 1 + 1 ≤ 3; omega)
  rw [e] at h2
  rw [h2]; rfl
theorem ix_set2 {C : List Value} {q : Nat} {m : Int} {ha : Option Addr} {hn hc : Nat} {xa : Option Addr} {xn xc : Nat} (hq : q + 3 ≤ C.length) (a : Option Addr) (n c : Nat) : splice (splice C q (ixE m ha hn hc xa xn xc)) (q + 2) [.slice a n c] = splice C q (ixE m ha hn hc a n c) := by
  rw [splice_splice (by show q + 3 ≤ _; exact hq) (by show 2 + 1 ≤ 3; omega)]; rfl
theorem ix_seg {C : List Value} {q : Nat} {m : Int} {ha : Option Addr} {hn hc : Nat} {xa : Option Addr} {xn xc : Nat} (hq : q + 3 ≤ C.length) : seg (splice C q (ixE m ha hn hc xa xn xc)) q 3 = ixE m ha hn hc xa xn xc := by
  rw [seg_splice0 (by show q + 3 ≤ _; exact hq) (by show 3 ≤ 3; omega)]; rfl
theorem ix_len {C : List Value} {q : Nat} {m : Int} {ha : Option Addr} {hn hc : Nat} {xa : Option Addr} {xn xc : Nat} (hq : q + 3 ≤ C.length) : (splice C q (ixE m ha hn hc xa xn xc)).length = C.length := length_splice _ _ _ (by show q + 3 ≤ _; exact hq)
theorem Try.sl80hi (w : World) (a : Option Addr) (len cap : Nat) : (sliceOp 80 (.slice a len cap) none (some (.int .i64 0)) none).run Try.prog w = .ok (.value (.slice a 0 cap)) w := slice_hi (l := 0) Try.underlying80 (by kernel_rfl) w a len cap (Nat.zero_le _)
theorem RowL.cut {α : Type} {en : α → List Value} {sz : Nat} (hsz : ∀ x, (en x).length = sz) {B : Nat} {O : Own} {l : Lab} {W : World} {ty : TypeId} {a : Option Addr} {n c : Nat} {K : List α} (h : RowL B O l W ty sz (.slice a n c) K.length (K.flatMap en)) {k : Nat} (hk : k ≤ n) : RowL B O l W ty sz (.slice a k c) (K.take k).length ((K.take k).flatMap en) := by
  have hKn : K.length = n := (rw_own hsz h.1).1.1
  have hlk : (K.take k).length = k := by rw [List.length_take]; omega
  obtain ⟨⟨h1, h2 | ⟨g, cap, cur, e1, e2, e3, e4, e5, e6, e7⟩⟩, hl⟩ := h
  · have hn0 : n = 0 := by have := congrArg lenV h2.1; simpa [lenV] using this
    have hk0 : k = 0 := by omega
    subst hk0
    have hc0 : (Value.slice a n c) = .slice none 0 0 := h2.1
    injection hc0 with c1 c2 c3
    subst c1 c3
    rw [List.take_zero]
    exact RowL.nil _ _ _ _ _ _
  · injection e1 with e1a e1b e1c
    subst e1a
    subst e1c
    have hle : k * sz ≤ K.length * sz := Nat.mul_le_mul_right _ (by omega)
    refine ⟨⟨?_, .inr ⟨g, c, cur, by rw [hlk], e2, e3, by rw [hlk]; omega, e5, e6, ?_⟩⟩, hl⟩
    · have : ∀ K : List α, (K.flatMap en).length = K.length * sz := fun K => by
        induction K with
        | nil => simp
        | cons x K ih => rw [List.flatMap_cons, List.length_append, hsz, ih, List.length_cons, Nat.add_mul]; omega
      exact this _
    · rw [hlk]
      have hfl : ∀ (K : List α) (k : Nat), (K.take k).flatMap en = (K.flatMap en).take (k * sz) := by
        intro K
        induction K with
        | nil => intro k; simp
        | cons x K ih =>
          intro k
          cases k with
          | zero => simp
          | succ k =>
            have e9 : (k + 1) * sz = (en x).length + k * sz := by rw [hsz, Nat.add_mul]; omega
            rw [List.take_succ_cons, List.flatMap_cons, List.flatMap_cons, ih, e9, List.take_length_add_append]
      rw [hfl, ← e7, List.take_take, Nat.min_eq_left hle]
def RebQ (B : Nat) (O : Own) (W : World) (gi q : Nat) (Ci : List Value) (ty : TypeId) (i j m : Nat) (ha : Option Addr) (size : Nat) (L : List Slot) (n : Nat) (W' : World) : Prop := ∃ O' xa xc, Fr (isIx i j) O W O' W' ∧ W'.heap[gi]? = some (.cells (splice Ci q (ixE (m : Int) ha size size xa n xc)).toArray ty (0, 0)) ∧ O' gi = .idx i ∧ RowL B O' (.heads i j) W' 3 1 (.slice ha size size) (headsF (bsOf (L.take n) m size) size).length ((headsF (bsOf (L.take n) m size) size).flatMap encK) ∧ RowL B O' (.next i j) W' 3 1 (.slice xa n xc) (nextF (bsOf (L.take n) m size)).length ((nextF (bsOf (L.take n) m size)).flatMap encK)
def RebPost (B : Nat) (O : Own) (W : World) (gi q : Nat) (Ci : List Value) (ty : TypeId) (i j m : Nat) (L : List Slot) (e : Ending) (W' : World) : Prop := e = .returned (.tuple #[]) ∧ ∃ ha size jj, size = 2 ^ jj ∧ 3 ≤ jj ∧ jj ≤ 20 ∧ 2 * L.length ≤ size ∧ (size = 8 ∨ size < 4 * L.length) ∧ RebQ B O W gi q Ci ty i j m ha size L L.length W'
def rszI (W0 : World) (gi q : Nat) (sa : Option Addr) (sn sc : Nat) (f : Nat → Value) (W : World) : Prop := f 0 = .pointer (some ⟨gi, q, none⟩) ∧ f 1 = .slice sa sn sc ∧ W = W0 ∧ ∃ s : Nat, f 4 = .int .i64 (s : Nat) ∧ s ≤ 8 + 4 * sn ∧ 8 ≤ s ∧ Hid ((∃ jj, s = 2 ^ jj ∧ 3 ≤ jj) ∧ (s = 8 ∨ s < 4 * sn))
def rebI (B : Nat) (O : Own) (W0 : World) (gi q : Nat) (Ci : List Value) (ty : TypeId) (i j m : Nat) (ha : Option Addr) (size : Nat) (L : List Slot) (sa : Option Addr) (sn sc : Nat) (f : Nat → Value) (W : World) : Prop := f 0 = .pointer (some ⟨gi, q, none⟩) ∧ f 1 = .slice sa sn sc ∧ ∃ n : Nat, n ≤ sn ∧ f 5 = .int .i64 (n : Nat) ∧ Hid (RebQ B O W0 gi q Ci ty i j m ha size L n W)
set_option maxRecDepth 100000 in
theorem frame40 (f : Nat → Value) : frameN 40 f = #[f 0, f 1, f 2, f 3, f 4, f 5, f 6, f 7, f 8, f 9, f 10, f 11, f 12, f 13, f 14, f 15, f 16, f 17, f 18, f 19, f 20, f 21, f 22, f 23, f 24, f 25, f 26, f 27, f 28, f 29, f 30, f 31, f 32, f 33, f 34, f 35, f 36, f 37, f 38, f 39] := by kernel_rfl
attribute [local go_sem] Try.sl80hi
attribute [local go_sem ↓] execOp_make execOp_slice
set_option maxRecDepth 20000 in
set_option maxHeartbeats 4000000 in
theorem rebuild_any (B : Nat) (O : Own) (W : World) (gi q : Nat) (Ci : List Value) (i j : Nat) (m : Nat) (ha : Option Addr) (hn hc : Nat) (xa : Option Addr) (xn xc : Nat) (X : List Nat) (sa : Option Addr) (sn sc : Nat) (L : List Slot)
    (ty : TypeId) (hty : W.heap[gi]? = some (.cells Ci.toArray ty (0, 0))) (hog : O gi = .idx i) (hseg : seg Ci q 3 = ixE (m : Int) ha hn hc xa xn xc) (hq : q + 3 ≤ Ci.length) (hX : RowL B O (.next i j) W 3 1 (.slice xa xn xc) X.length (X.flatMap encK)) (hL : RowL B O (.slots i) W 115 6 (.slice sa sn sc) L.length (L.flatMap Slot.enc))
    (hm : m < 16) (hsn : sn ≤ 10000) (hB : B ≤ W.heap.size) :
    Calls Try.prog 81 #[.pointer (some ⟨gi, q, none⟩), .slice sa sn sc] W (RebPost B O W gi q Ci ty i j m L) := by
  have hb : blk W gi = some Ci := blk_mk hty
  have hf : free W gi = true := free_mk hty
  have u2 : nth Ci (q + 2) = some (.slice xa xn xc) := nth_in (j := 2) hseg (show nth (ixE (m : Int) ha hn hc xa xn xc) 2 = some _ from rfl) (by omega)
  have HSEG : Hid (seg Ci q 3 = ixE (m : Int) ha hn hc xa xn xc) := hseg
  have HX : Hid (RowL B O (.next i j) W 3 1 (.slice xa xn xc) X.length (X.flatMap encK)) := hX
  have HL : Hid (RowL B O (.slots i) W 115 6 (.slice sa sn sc) L.length (L.flatMap Slot.enc)) := hL
  have HOG : Hid (O gi = .idx i) := hog
  have HLN : Hid (L.length = sn) := (hL.rw Slot.length_enc).1.1
  have HTY : Hid (W.heap[gi]? = some (.cells Ci.toArray ty (0, 0))) := hty
  clear hseg hX hL hog
  go_enter Try.func81, Try.ntmps81
  go_wp2_with fail
  refine wp_loop_f 40 (rszI W gi q sa sn sc) (fun f _ => 2 * sn - (intOf (f 4)).toNat) rfl ⟨rfl, rfl, rfl, 8, rfl, by omega, by omega, ⟨3, rfl, by omega⟩, .inl rfl⟩ ?_
  intro F V hrel
  obtain ⟨f0, f1, rfl, s, f4, hs1, hs8, HS⟩ := hrel
  have H4 : Hid (F 4 = .int .i64 (s : Nat)) := f4
  rw [frame40, f0, f1, f4]
  clear f0 f1 f4
  have e1 : IntKind.i64.wrap (2 * (sn : Int)) = 2 * (sn : Int) := by rw [IntKind.wrap_i64]; omega
  have e2 : IntKind.i64.wrap ((s : Int) * 2) = (s : Int) * 2 := by rw [IntKind.wrap_i64]; omega
  by_cases hlt : s < 2 * sn
  · have hlt' : (s : Int) < 2 * (sn : Int) := by omega
    have HS' : Hid ((∃ jj, 2 * s = 2 ^ jj ∧ 3 ≤ jj) ∧ (2 * s = 8 ∨ 2 * s < 4 * sn)) := by
      obtain ⟨⟨jj, h1, h2⟩, _⟩ := HS.out
      exact ⟨⟨jj + 1, by rw [h1, Nat.pow_succ]; omega, by omega⟩, .inr (by omega)⟩
    clear HS
    go_wp2_with fail
    refine ⟨rfl, rfl, ⟨rfl, rfl, rfl, 2 * s, ?_, by omega, by omega, HS'⟩, ?_⟩
    · show Value.int .i64 _ = _
      go_num
    · show 2 * sn - (intOf (Value.int .i64 _)).toNat < 2 * sn - (intOf (F 4)).toNat
      rw [H4.out]
      simp [intOf]; omega
  have hlt' : ¬ (s : Int) < 2 * (sn : Int) := by omega
  have m1 := fun w : World => make80 w s (by omega)
  have lb := blk_lt hb
  have nb : ¬ gi = V.heap.size := by omega
  have l1 : q + 1 + 1 ≤ Ci.length := by omega
  have l2 : q + 2 + 1 ≤ Ci.length := by omega
  have sp1 := ix_set1 HSEG.out hq (some ⟨V.heap.size, 0, none⟩) s s
  have sp2 := ix_set2 (C := Ci) (q := q) (m := (m : Int)) (ha := some ⟨V.heap.size, 0, none⟩) (hn := s) (hc := s) (xa := xa) (xn := xn) (xc := xc) hq xa 0 xc
  have sg2 : nth (splice Ci q (ixE (m : Int) (some ⟨V.heap.size, 0, none⟩) s s xa xn xc)) (q + 2) = some (.slice xa xn xc) := nth_in (j := 2) (ix_seg hq) (show nth (ixE (m : Int) (some ⟨V.heap.size, 0, none⟩) s s xa xn xc) 2 = some _ from rfl) (by omega)
  have sl2 : (splice Ci q (ixE (m : Int) (some ⟨V.heap.size, 0, none⟩) s s xa xn xc)).length = Ci.length := ix_len hq
  have H0 : Hid (RebQ B O V gi q Ci ty i j m (some ⟨V.heap.size, 0, none⟩) s L 0 (put (V.alloc (.cells (zerosK s) 3)) gi (splice Ci q (ixE (m : Int) (some ⟨V.heap.size, 0, none⟩) s s xa 0 xc)))) := by
    have hx : V.Extends (V.alloc (.cells (zerosK s) 3)) := extends_alloc (ext_Ext (Ext.refl _)) _
    have hbk : ∀ k, k ≠ gi → (put (V.alloc (.cells (zerosK s) 3)) gi (splice Ci q (ixE (m : Int) (some ⟨V.heap.size, 0, none⟩) s s xa 0 xc))).heap[k]? = (V.alloc (.cells (zerosK s) 3)).heap[k]? := fun k hk => by rw [heap_put, if_neg hk]
    refine ⟨lab O V.heap.size (.heads i j), xa, xc, ?_, ?_, ?_, ?_, ?_⟩
    · refine Fr.put (L := isIx i j) (O' := lab O V.heap.size (.heads i j)) ⟨hx.os, hx.tape, hx.output, hx.size, fun k hk => lab_lt hk, fun k hk _ => hx.block k hk⟩ ?_ _
      rw [lab_lt lb, HOG.out]; exact .inr (.inr rfl)
    · rw [heap_put, if_pos rfl, hx.block gi lb, hty]; rfl
    · rw [lab_lt lb]; exact HOG.out
    · rw [List.take_zero, show bsOf [] m s = [] from rfl, headsF_nil]
      exact (made_rowL B O (.heads i j) V s hB (by omega)).keep (fun k hk ho => ⟨hbk k (fun e => by rw [e, lab_lt lb, HOG.out] at ho; cases ho), rfl⟩)
    · have := (HX.out.cut encK_len (k := 0) (Nat.zero_le _))
      rw [List.take_zero] at this
      rw [List.take_zero, show bsOf [] m s = [] from rfl]
      exact this.keep (fun k hk ho => ⟨by rw [hbk k (fun e => by rw [e, HOG.out] at ho; cases ho)]; exact hx.block k hk, lab_lt hk⟩)
  have HSZ : Hid ((∃ jj, s = 2 ^ jj ∧ 3 ≤ jj) ∧ (s = 8 ∨ s < 4 * sn)) := HS.out
  clear HS e2 hlt'
  have hlt' : 2 * (sn : Int) ≤ (s : Int) := by omega
  go_wp2_with fail
  refine wp_loop_f 40 (rebI B O V gi q Ci ty i j m (some ⟨V.heap.size, 0, none⟩) s L sa sn sc) (fun f _ => sn - (intOf (f 5)).toNat) rfl ⟨rfl, rfl, 0, by omega, rfl, H0⟩ ?_
  obtain ⟨gh, hgh⟩ : ∃ gh, gh = V.heap.size := ⟨_, rfl⟩
  rw [← hgh]
  clear H0 m1 sp1 sp2 sg2 sl2 nb hlt' hgh e1 u2
  intro F2 V2 hrel
  obtain ⟨f0, f1, n, hn2, f5, HQ⟩ := hrel
  have H5 : Hid (F2 5 = .int .i64 (n : Nat)) := f5
  rw [frame40, f0, f1, f5]
  clear f0 f1 f5
  by_cases hin : n < sn
  · have hin' : (n : Int) < (sn : Int) := by omega
    obtain ⟨O2, xa2, xc2, hF2, hty2, hog2, hH2, hX2⟩ := HQ.out
    have hb2 : blk V2 gi = _ := blk_mk hty2
    have hL2 : RowL B O2 (.slots i) V2 115 6 (.slice sa sn sc) L.length (L.flatMap Slot.enc) := HL.out.fr hF2 (by rintro (e | e | e) <;> cases e)
    obtain ⟨sl, gs, Cs, hsl, rfl, hCs, hcsl, useg⟩ := (hL2.rw Slot.length_enc).1.at hin
    have useg4 : seg Cs (n * 6) 4 = arr i64v sl.t := by
      have := seg_in (p := 0) (m := 4) useg (by omega)
      rw [Nat.add_zero] at this
      rw [this]; exact Slot.t_get sl
    have hc4 : n * 6 + 4 ≤ Cs.length := by omega
    have p0 : (0 : Int) ≤ (n : Int) := by omega
    have p2 : ((n : Int)).toNat = n := by omega
    have HSL : Hid (L[n]? = some sl) := hsl
    have HF2 : Hid (Fr (isIx i j) O V O2 V2) := hF2
    have HH2 : Hid (RowL B O2 (.heads i j) V2 3 1 (.slice (some ⟨gh, 0, none⟩) s s) (headsF (bsOf (L.take n) m s) s).length ((headsF (bsOf (L.take n) m s) s).flatMap encK)) := hH2
    have HX2 : Hid (RowL B O2 (.next i j) V2 3 1 (.slice xa2 n xc2) (nextF (bsOf (L.take n) m s)).length ((nextF (bsOf (L.take n) m s)).flatMap encK)) := hX2
    have HOG2 : Hid (O2 gi = .idx i) := hog2
    clear hL2 hsl useg hF2 hH2 hX2 hog2 HQ
    go_wp2_with fail
    obtain ⟨⟨jj, hjj, hj3⟩, hsz8⟩ := HSZ.out
    have hj20 : jj ≤ 20 := by
      rcases Nat.lt_or_ge 20 jj with h | h
      · have := Nat.pow_le_pow_right (n := 2) (by decide) h
        omega
      · exact h
    refine (link_any B O2 V2 gi q _ i j m (some ⟨gh, 0, none⟩) s s xa2 n xc2 _ _ sl.t ty hty2 HOG2.out (ix_seg hq) (by rw [ix_len hq]; exact hq) HH2.out HX2.out hm jj hjj hj20 (by omega) (Nat.le_trans hB HF2.out.size)).mono ?_
    rintro e V3 ⟨rfl, O3, xa3, xc3, hF3, hb3, hH3, hX3⟩
    rw [ix_set2 hq] at hb3
    have hbl : bF sl.t m s < s := Nat.mod_lt _ (by omega)
    have hsn1 : bsOf (L.take (n + 1)) m s = bsOf (L.take n) m s ++ [bF sl.t m s] := by rw [take_at HSL.out]; simp [bsOf]
    have hbn : (bsOf (L.take n) m s).length = n := by rw [bsOf_len, List.length_take, HLN.out]; omega
    have HQ' : Hid (RebQ B O V gi q Ci ty i j m (some ⟨gh, 0, none⟩) s L (n + 1) V3) := by
      refine ⟨O3, xa3, xc3, HF2.out.trans hF3, hb3, (hF3.keep gi (blk_lt hb2)).trans HOG2.out, ?_, ?_⟩
      · rw [hsn1, headsF_snoc _ _ _ hbl, hbn]; exact hH3
      · rw [hsn1, nextF_snoc]
        rw [List.getD_eq_getElem?_getD, headsF_at _ hbl] at hX3
        exact hX3
    clear hF3 hb3 hH3 hX3 HF2 HH2 HX2 hsn1 hbn
    dsimp only
    go_wp2_with fail
    refine ⟨rfl, rfl, ⟨rfl, rfl, n + 1, by omega, ?_, HQ'⟩, ?_⟩
    · show Value.int .i64 _ = _
      go_num
    · show sn - (intOf (Value.int .i64 _)).toNat < sn - (intOf (F2 5)).toNat
      rw [H5.out]
      simp [intOf]; omega
  · obtain rfl : n = sn := by omega
    have hin' : ¬ ((n : Int) < (n : Int)) := by omega
    have HP : Hid (RebPost B O V gi q Ci ty i j m L (.returned (.tuple #[])) V2) := by
      obtain ⟨⟨jj, hjj, hj3⟩, hsz8⟩ := HSZ.out
      have hj20 : jj ≤ 20 := by
        rcases Nat.lt_or_ge 20 jj with h | h
        · have := Nat.pow_le_pow_right (n := 2) (by decide) h
          omega
        · exact h
      refine ⟨rfl, some ⟨gh, 0, none⟩, s, jj, hjj, hj3, hj20, by rw [HLN.out]; omega, by rw [HLN.out]; exact hsz8, ?_⟩
      have := HQ.out
      rw [← HLN.out] at this
      exact this
    clear HQ
    go_wp2_with fail
    go_end0
    exact HP.out
end Go.Proofs.Qxb6500789a
