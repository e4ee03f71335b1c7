import Derived.Test.Qxb6500789aYv
import Derived.StillTailTactics
import Derived.Deep.QuietTactic
import Derived.BigQuiet
import Derived.Deep.RegionHeld
import Derived.Deep.CutRange
import Derived.Laws.ResultCell
import Derived.Laws.Rows
import Derived.DeepKeys
import Derived.DataBytes
import Derived.Laws.StructEq
import Derived.Laws.AppendOwn
import Derived.Laws.MakeOwn
import Derived.Lib.AppendStr
set_option linter.unusedSimpArgs false
set_option linter.unusedVariables false
namespace Go.Proofs.Qxb6500789a
open Go.RowKit Go.Blk
attribute [local go_sem ↓] execOp_load execOp_store execOp_alloc
attribute [local go_sem] Try.ld29 Try.st29 Try.ld3 Try.st3 Try.ld9 Try.st9 Try.ld30 Try.st30 Try.ld34 Try.st34 Try.ld35 Try.st35 Try.ld36 Try.st36 Try.ld37 Try.st37 Try.ld44 Try.st44 Try.ld45 Try.st45 Try.ld54 Try.st54 Try.ld55 Try.st55 Try.ld74 Try.st74 Try.ld80 Try.st80 Try.ld84 Try.st84 Try.ld106 Try.st106 Try.ld107 Try.st107 Try.ld4 Try.st4 Try.ld121 Try.st121 Try.ld2 Try.st2 Try.ld5 Try.st5 Try.ld12 Try.st12 Try.ld21 Try.st21 Try.ld22 Try.st22 Try.ld24 Try.st24 Try.ld26 Try.st26 Try.ld63 Try.st63 Try.ld71 Try.st71 Try.ld103 Try.st103 Try.ld130 Try.st130 Try.ld133 Try.st133 Try.ld140 Try.st140 Try.ld152 Try.st152 Try.ld39 Try.st39 Try.ld32 Try.st32 Try.ld41 Try.st41 Try.ld47 Try.st47 Try.ld57 Try.st57 Try.ld62 Try.st62 Try.ld76 Try.st76 Try.ld82 Try.st82 Try.ld86 Try.st86 Try.ld109 Try.st109 Try.ld115 Try.st115 Try.ld123 Try.st123 Try.ld135 Try.st135 Try.al39 Try.al32 Try.al41 Try.al47 Try.al57 Try.al62 Try.al76 Try.al82 Try.al86 Try.al109 Try.al115 Try.al123 Try.al135
attribute [local go_sem] Answer.length_enc Answer.ok_enc Answer.all_get Answer.all_set Answer.code_get Answer.code_set Answer.n_get Answer.n_set Answer.name_get Answer.name_set Answer.rows_get Answer.rows_set GOp.length_enc GOp.ok_enc GOp.all_get GOp.all_set GOp.kind_get GOp.kind_set GOp.rel_get GOp.rel_set GOp.mask_get GOp.mask_set GOp.t_get GOp.t_set GOp.n_get GOp.n_set GOp.name_get GOp.name_set Store.length_enc Store.ok_enc Store.all_get Store.all_set Store.names_get Store.names_set Store.rels_get Store.rels_set GRel.length_enc GRel.ok_enc GRel.all_get GRel.all_set GRel.arity_get GRel.arity_set GRel.masks_get GRel.masks_set GRel.rows_get GRel.rows_set Row.length_enc Row.ok_enc Row.all_get Row.all_set Row.t_get Row.t_set Row.mark_get Row.mark_set View.length_enc View.ok_enc View.all_get View.all_set View.names_get View.names_set View.rels_get View.rels_set Symtab.length_enc Symtab.ok_enc Symtab.all_get Symtab.all_set Symtab.names_get Symtab.names_set Symtab.table_get Symtab.table_set StoreTuplestore.length_enc StoreTuplestore.ok_enc StoreTuplestore.all_get StoreTuplestore.all_set StoreTuplestore.syms_get StoreTuplestore.syms_set StoreTuplestore.rels_get StoreTuplestore.rels_set StoreTuplestore.syms_names_get StoreTuplestore.syms_names_set StoreTuplestore.syms_table_get StoreTuplestore.syms_table_set Relation.length_enc Relation.ok_enc Relation.all_get Relation.all_set Relation.arity_get Relation.arity_set Relation.slots_get Relation.slots_set Relation.live_get Relation.live_set Relation.idx_get Relation.idx_set Slot.length_enc Slot.ok_enc Slot.all_get Slot.all_set Slot.t_get Slot.t_set Slot.mark_get Slot.mark_set Slot.live_get Slot.live_set RelView.length_enc RelView.ok_enc RelView.all_get RelView.all_set RelView.arity_get RelView.arity_set RelView.rows_get RelView.rows_set RelView.marks_get RelView.marks_set RelView.indexed_get RelView.indexed_set Index.length_enc Index.ok_enc Index.all_get Index.all_set Index.mask_get Index.mask_set Index.heads_get Index.heads_set Index.next_get Index.next_set
attribute [local go_sem] size_put size_ext blk_put free_put blk_alloc free_alloc blk_drew free_drew blk_ext free_ext lookOr_some putOr_some segAt_some cellAt_some storeIn_some put_put put_alloc_new length_arr ok_arr_u8 ok_arr_u32 ok_arr_u64 ok_arr_i64 ok_arr_sl cellsV_agg cellsV_int cellsV_bool cellsV_string cellsV_pointer cellsV_slice cellsV_sl ok_int ok_bool ok_string ok_pointer ok_slice ok_sl toList_arr seg_arr set_arr nth_splice nth_splice0 seg_splice seg_splice0 splice_splice splice_splice0 length_splice_if
attribute [local go_sem ↓] execOp_box
attribute [local go_sem] box_run nth_arr_u8 put_arr_u8 blk_drewN free_drewN put_drewN blk_raw free_raw
/-- What the model's calls need of its state. -/
structure MSm (sm : StS) : Prop where
  nms : sm.names.length ≤ 256
  nd : sm.names.Nodup
  rls : sm.rels.length ≤ 192
  rel : ∀ s ∈ sm.rels, s.ar ≤ 4 ∧ (rowsOf s.L).length ≤ 512 ∧ (mk0 s).length ≤ 1000 ∧ ((rowsOf s.L).map (·.1)).Nodup
theorem first_at {α : Type} [BEq α] [LawfulBEq α] {x : α} : ∀ {L : List α} {i : Nat}, (∀ j, j < i → L[j]? ≠ some x) → L[i]? = some x → L.idxOf x = i
  | [], i, _, h => by simp at h
  | y :: L, 0, _, h => by
    have : y = x := by simpa using h
    rw [this]; exact List.idxOf_cons_self
  | y :: L, i + 1, hb, h => by
    have hy : ¬ y = x := fun e => hb 0 (by omega) (by simp [e])
    have ih := first_at (L := L) (i := i) (x := x) (fun j hj => by have := hb (j + 1) (by omega); simpa using this) (by simpa using h)
    rw [List.idxOf_cons, ih, beq_false_of_ne hy]; rfl
attribute [local go_sem] v_len v_ok v_n0 v_n1 v_s0 v_s1 v_all v_put
def soI (W0 : World) (bm nn : Nat) (names : List (List UInt8)) (nm : List UInt8) (sv : ByteArray) (f : Nat → Value) (W : World) : Prop := f 0 = .pointer (some ⟨bm, 0, none⟩) ∧ f 1 = .string sv ∧ W = W0 ∧ ∃ i : Nat, i ≤ nn ∧ f 5 = .int .i64 (i : Nat) ∧ Hid (∀ j, j < i → names[j]? ≠ some nm)
set_option maxRecDepth 100000 in
theorem frame25m (f : Nat → Value) : frameN 25 f = #[f 0, f 1, f 2, f 3, f 4, f 5, f 6, f 7, f 8, f 9, f 10, f 11, f 12, f 13, f 14, f 15, f 16, f 17, f 18, f 19, f 20, f 21, f 22, f 23, f 24] := by kernel_rfl
set_option maxRecDepth 20000 in
set_option maxHeartbeats 4000000 in
theorem symOf_any (B : Nat) (O : Own) (W : World) (bm : Nat) (sm : StS) (h : MAt B O W bm sm) (hm : MSm sm) (nm : List UInt8) : Calls Try.prog 45 #[.pointer (some ⟨bm, 0, none⟩), .string ⟨nm.toArray⟩] W fun e W' => e = .returned (.int .i64 (lookupF sm.names nm).1) ∧ W' = W := by
  obtain ⟨na, nn, nc, ra, rn, rc, hb, _, _, hnn, hrw⟩ := mat_bad h
  have hn256 : nn ≤ 256 := by rw [hnn]; exact hm.nms
  obtain ⟨res, hres⟩ : ∃ res, res = (lookupF sm.names nm).1 := ⟨_, rfl⟩
  rw [← hres]
  obtain ⟨names, hnames⟩ : ∃ names, names = sm.names := ⟨_, rfl⟩
  rw [← hnames] at hres hnn hrw
  have HRES := hid_of hres
  have HRW := hid_of hrw
  have HNN := hid_of hnn
  obtain ⟨sv, hsv⟩ : ∃ sv : ByteArray, sv = ⟨nm.toArray⟩ := ⟨_, rfl⟩
  rw [← hsv]
  have HSV := hid_of hsv
  clear hres hrw hnn hm h hnames hsv
  go_enter Try.func45, Try.ntmps45
  go_wp2_with fail
  refine wp_loop_f 25 (soI W bm nn names nm sv) (fun f _ => nn - (intOf (f 5)).toNat) rfl ⟨rfl, rfl, rfl, 0, by omega, rfl, fun j h => absurd h (Nat.not_lt_zero _)⟩ ?_
  intro F V hrel
  obtain ⟨f0, f1, rfl, i, hi, f5, HQ⟩ := hrel
  have H5 := hid_of f5
  rw [frame25m, f0, f1, f5]
  clear f0 f1 f5
  by_cases hin : i < nn
  · have hin' : (i : Int) < (nn : Int) := by omega
    obtain ⟨x, hx⟩ : ∃ x, names[i]? = some x := ⟨_, List.getElem?_eq_getElem (by rw [HRW.out.1]; exact hin)⟩
    obtain ⟨bn, Cn, rfl, hCn, hcn, _, un⟩ := rw_cell (v := .string ⟨x.toArray⟩) HRW.out hx rfl
    have p0 : (0 : Int) ≤ (i : Int) := by omega
    have p2 : ((i : Int)).toNat = i := by omega
    by_cases he : x = nm
    · have hr : res = (i : Int) := by
        rw [HRES.out]
        unfold lookupF lookF
        subst he
        rw [if_pos (List.mem_of_getElem? hx), first_at HQ.out hx]; rfl
      subst he
      rw [← HSV.out] at un
      clear HQ hx HRES HSV
      subst hr
      go_wp2_with fail
      go_ret
      exact ⟨rfl, rfl⟩
    · have HQ' : Hid (∀ j, j < i + 1 → names[j]? ≠ some nm) := by
        intro j h1
        by_cases h3 : j = i
        · subst h3
          rw [hx]
          intro e; exact he (Option.some.inj e)
        · exact HQ.out j (by omega)
      obtain ⟨sx, hsx⟩ : ∃ sx : ByteArray, sx = ⟨x.toArray⟩ := ⟨_, rfl⟩
      have hss : ¬ sx = sv := by
        rw [hsx, HSV.out]
        intro e
        injection e with e
        exact he (by simpa using e)
      have hssb := str_ne hss
      rw [← hsx] at un
      clear HQ hx hsx he
      go_wp2_with fail
      refine ⟨rfl, rfl, ⟨rfl, rfl, rfl, i + 1, by omega, ?_, HQ'⟩, ?_⟩
      · show Value.int .i64 _ = _
        go_num
      · show nn - (intOf (Value.int .i64 _)).toNat < nn - (intOf (F 5)).toNat
        rw [H5.out]
        simp [intOf]; omega
  · obtain rfl : i = nn := by omega
    have hin' : ¬ ((i : Int) < (i : Int)) := by omega
    have hr : res = -1 := by
      rw [HRES.out]
      unfold lookupF lookF
      rw [if_neg (fun h => ?_)]
      · rfl
      · obtain ⟨j, hj⟩ := List.mem_iff_getElem?.1 h
        exact HQ.out j (by rw [← HRW.out.1]; exact (List.getElem?_eq_some_iff.1 hj).1) hj
    clear HQ HRES
    subst hr
    go_wp2_with fail
    go_ret
    exact ⟨rfl, rfl⟩
theorem relOK_any (B : Nat) (O : Own) (W : World) (bm : Nat) (sm : StS) (h : MAt B O W bm sm) (id : Int) : Calls Try.prog 55 #[.pointer (some ⟨bm, 0, none⟩), .int .i64 id] W fun e W' => e = .returned (.bool (decide (0 ≤ id ∧ id < (sm.rels.length : Int)))) ∧ W' = W := by
  obtain ⟨na, nn, nc, ra, rn, rc, hb, _, hrn, _, _⟩ := mat_bad h
  rw [← hrn]
  clear hrn h
  by_cases h0 : 0 ≤ id
  · by_cases h1 : id < (rn : Int)
    · rw [decide_eq_true (And.intro h0 h1)]
      go_enter Try.func55, Try.ntmps55
      go_wp2_with fail
      go_ret
      exact ⟨rfl, rfl⟩
    · rw [decide_eq_false (fun h => h1 h.2)]
      go_enter Try.func55, Try.ntmps55
      go_wp2_with fail
      go_ret
      exact ⟨rfl, rfl⟩
  · rw [decide_eq_false (fun h => h0 h.1)]
    go_enter Try.func55, Try.ntmps55
    go_wp2_with fail
    go_ret
    exact ⟨rfl, rfl⟩
theorem symOK_any (B : Nat) (O : Own) (W : World) (bm : Nat) (sm : StS) (h : MAt B O W bm sm) (y : Int) : Calls Try.prog 46 #[.pointer (some ⟨bm, 0, none⟩), .int .i64 y] W fun e W' => e = .returned (.bool (knowsF sm.names.length y)) ∧ W' = W := by
  obtain ⟨na, nn, nc, ra, rn, rc, hb, _, _, hnn, _⟩ := mat_bad h
  rw [← hnn]
  clear hnn h
  unfold knowsF
  by_cases h0 : 0 ≤ y
  · rw [decide_eq_true h0, Bool.true_and]
    by_cases h1 : y < (nn : Int)
    · rw [decide_eq_true h1]
      go_enter Try.func46, Try.ntmps46
      go_wp2_with fail
      go_ret
      exact ⟨rfl, rfl⟩
    · rw [decide_eq_false h1]
      go_enter Try.func46, Try.ntmps46
      go_wp2_with fail
      go_ret
      exact ⟨rfl, rfl⟩
  · rw [decide_eq_false h0, Bool.false_and]
    go_enter Try.func46, Try.ntmps46
    go_wp2_with fail
    go_ret
    exact ⟨rfl, rfl⟩
set_option maxRecDepth 20000 in
theorem in_any (W : World) (m c : Nat) (hm : m < 16) (hc : c < 4) : Calls Try.prog 74 #[.int .i64 (m : Int), .int .i64 (c : Int)] W fun e W' => e = .returned (.bool (m.testBit c)) ∧ W' = W := by
  have hcc : c = 0 ∨ c = 1 ∨ c = 2 ∨ c = 3 := by omega
  have hmm : m = 0 ∨ m = 1 ∨ m = 2 ∨ m = 3 ∨ m = 4 ∨ m = 5 ∨ m = 6 ∨ m = 7 ∨ m = 8 ∨ m = 9 ∨ m = 10 ∨ m = 11 ∨ m = 12 ∨ m = 13 ∨ m = 14 ∨ m = 15 := by omega
  rcases hcc with rfl | rfl | rfl | rfl <;> rcases hmm with rfl | rfl | rfl | rfl | rfl | rfl | rfl | rfl | rfl | rfl | rfl | rfl | rfl | rfl | rfl | rfl
  all_goals
    go_enter Try.func74, Try.ntmps74
    go_wp2_with fail
    go_ret
    exact ⟨rfl, rfl⟩
def ixmI (W0 : World) (bm id kn mk : Nat) (M : List Nat) (f : Nat → Value) (W : World) : Prop := f 0 = .pointer (some ⟨bm, 0, none⟩) ∧ f 1 = .int .i64 (id : Int) ∧ f 2 = .int .i64 (mk : Int) ∧ W = W0 ∧ ∃ i : Nat, i ≤ kn ∧ f 7 = .int .i64 (i : Nat) ∧ Hid (∀ j, j < i → M[j]? ≠ some mk)
set_option maxRecDepth 20000 in
set_option maxHeartbeats 4000000 in
theorem indexed_any (B : Nat) (O : Own) (W : World) (bm : Nat) (sm : StS) (h : MAt B O W bm sm) (hm : MSm sm) (n : Nat) (s : RelS) (hs : sm.rels[n]? = some s) (mk : Nat) : Calls Try.prog 50 #[.pointer (some ⟨bm, 0, none⟩), .int .i64 (n : Int), .int .i64 (mk : Int)] W fun e W' => e = .returned (.bool (decide (mk ∈ mk0 s))) ∧ W' = W := by
  obtain ⟨na, nn, nc, gr, rn, rc, Cr, ka, kn, kc, wa, wn, wc, ho, _, _⟩ := mat_open h hs
  have hsm := hm.rel s (List.mem_of_getElem? hs)
  obtain ⟨hb, hnn, hrn, hn, hC, hl, c0, c1, c2, hk, hw⟩ := ho
  obtain ⟨M, hM⟩ : ∃ M, M = mk0 s := ⟨_, rfl⟩
  rw [← hM] at hk hsm ⊢
  have hkn : kn ≤ 1000 := by rw [← hk.1]; exact hsm.2.2.1
  have HK := hid_of hk
  have d1 : n * 3 + 1 + 1 ≤ Cr.length := by omega
  have d2 : n * 3 < Cr.length := by omega
  have q0 : (0 : Int) ≤ (n : Int) := by omega
  have q1 : (n : Int) < (rn : Int) := by omega
  have q2 : ((n : Int)).toNat = n := by omega
  obtain ⟨res, hres⟩ : ∃ res, res = decide (mk ∈ M) := ⟨_, rfl⟩
  have HRES := hid_of hres
  rw [← hres]
  clear hnn hrn hn c0 c2 hk hw hsm hM hm hs h hres
  go_enter Try.func50, Try.ntmps50
  go_wp2_with fail
  refine wp_loop_f 34 (ixmI W bm n kn mk M) (fun f _ => kn - (intOf (f 7)).toNat) rfl ⟨rfl, rfl, rfl, rfl, 0, by omega, rfl, fun j h => absurd h (Nat.not_lt_zero _)⟩ ?_
  intro F V hrel
  obtain ⟨f0, f1, f2, rfl, i, hi, f7, HQ⟩ := hrel
  have H7 := hid_of f7
  rw [frame34, f0, f1, f2, f7]
  clear f0 f1 f2 f7
  by_cases hin : i < kn
  · have hin' : (i : Int) < (kn : Int) := by omega
    obtain ⟨x, hx⟩ : ∃ x, M[i]? = some x := ⟨_, List.getElem?_eq_getElem (by rw [HK.out.1]; exact hin)⟩
    obtain ⟨bn, Cn, rfl, hCn, hcn, _, un⟩ := rw_cell (v := .int .i64 (x : Int)) HK.out hx rfl
    have p0 : (0 : Int) ≤ (i : Int) := by omega
    have p2 : ((i : Int)).toNat = i := by omega
    by_cases he : x = mk
    · have hr : res = true := by rw [HRES.out]; exact decide_eq_true (by rw [← he]; exact List.mem_of_getElem? hx)
      subst he
      clear HQ hx HRES
      subst hr
      go_wp2_with fail
      go_ret
      exact ⟨rfl, rfl⟩
    · have HQ' : Hid (∀ j, j < i + 1 → M[j]? ≠ some mk) := by
        intro j h1
        by_cases h3 : j = i
        · subst h3
          rw [hx]
          intro e; exact he (Option.some.inj e)
        · exact HQ.out j (by omega)
      have he' : ¬ (x : Int) = (mk : Int) := by omega
      have heb : ((x : Int) == (mk : Int)) = false := by simp; omega
      clear HQ hx he
      go_wp2_with fail
      refine ⟨rfl, rfl, ⟨rfl, rfl, rfl, rfl, i + 1, by omega, ?_, HQ'⟩, ?_⟩
      · show Value.int .i64 _ = _
        go_num
      · show kn - (intOf (Value.int .i64 _)).toNat < kn - (intOf (F 7)).toNat
        rw [H7.out]
        simp [intOf]; omega
  · obtain rfl : i = kn := by omega
    have hin' : ¬ ((i : Int) < (i : Int)) := by omega
    have hr : res = false := by
      rw [HRES.out]
      refine decide_eq_false (fun h => ?_)
      obtain ⟨j, hj⟩ := List.mem_iff_getElem?.1 h
      exact HQ.out j (by rw [← HK.out.1]; exact (List.getElem?_eq_some_iff.1 hj).1) hj
    clear HQ HRES
    subst hr
    go_wp2_with fail
    go_ret
    exact ⟨rfl, rfl⟩
theorem mrel_ok {B : Nat} {O : Own} {W : World} {bm : Nat} {sm : StS} (h : MAt B O W bm sm) {id : Int} (hid : 0 ≤ id ∧ id < (sm.rels.length : Int)) : Calls Try.prog 55 #[.pointer (some ⟨bm, 0, none⟩), .int .i64 id] W fun e W' => e = .returned (.bool true) ∧ W' = W := by
  have := relOK_any B O W bm sm h id
  rw [decide_eq_true hid] at this; exact this
theorem mrel_no {B : Nat} {O : Own} {W : World} {bm : Nat} {sm : StS} (h : MAt B O W bm sm) {id : Int} (hid : ¬ (0 ≤ id ∧ id < (sm.rels.length : Int))) : Calls Try.prog 55 #[.pointer (some ⟨bm, 0, none⟩), .int .i64 id] W fun e W' => e = .returned (.bool false) ∧ W' = W := by
  have := relOK_any B O W bm sm h id
  rw [decide_eq_false hid] at this; exact this
set_option maxRecDepth 20000 in
theorem checkMask_any (B : Nat) (O : Own) (W : World) (bm : Nat) (sm : StS) (h : MAt B O W bm sm) (hm : MSm sm) (id m : Int) : Calls Try.prog 49 #[.pointer (some ⟨bm, 0, none⟩), .int .i64 id, .int .i64 m] W fun e W' => e = .returned (.int .i64 (colCode sm id m)) ∧ W' = W := by
  by_cases hid : 0 ≤ id ∧ id < (sm.rels.length : Int)
  rotate_left 1
  · have e : colCode sm id m = 7 := by unfold colCode; rw [relF_none hid]
    rw [e]
    have hr := mrel_no h hid
    clear e hid hm h
    go_enter Try.func49, Try.ntmps49
    go_wp2_with fail
    refine hr.mono ?_
    rintro e W1 ⟨rfl, rfl⟩
    dsimp only
    go_wp2_with fail
    go_ret
    exact ⟨rfl, rfl⟩
  obtain ⟨n, rfl⟩ : ∃ n : Nat, id = (n : Int) := ⟨id.toNat, by omega⟩
  obtain ⟨s, hs⟩ : ∃ s, sm.rels[n]? = some s := ⟨_, List.getElem?_eq_getElem (by omega)⟩
  have hr := mrel_ok h hid
  have hsm := hm.rel s (List.mem_of_getElem? hs)
  have e : colCode sm (n : Int) m = colC s.ar m := by unfold colCode; rw [relF_some hs]
  rw [e]
  obtain ⟨na, nn, nc, gr, rn, rc, Cr, ka, kn, kc, wa, wn, wc, ho, _, _⟩ := mat_open h hs
  obtain ⟨hb, hnn, hrn, hn, hC, hl, c0, c1, c2, hk, hw⟩ := ho
  obtain ⟨ar, har⟩ : ∃ ar, ar = s.ar := ⟨_, rfl⟩
  rw [← har] at c0 hsm ⊢
  have har4 := hsm.1
  have hwr := wrap_ar ar har4
  have d1 : n * 3 + 1 ≤ Cr.length := by omega
  have d2 : n * 3 < Cr.length := by omega
  have q0 : (0 : Int) ≤ (n : Int) := by omega
  have q1 : (n : Int) < (rn : Int) := by omega
  have q2 : ((n : Int)).toNat = n := by omega
  unfold colC
  obtain ⟨K, hK⟩ : ∃ K : Nat, K = 2 ^ ar := ⟨_, rfl⟩
  rw [← hK] at hwr ⊢
  clear e hid hm h hs hnn hrn hn c1 c2 hk hw hsm har hK
  by_cases h0 : 0 ≤ m
  · have h0' : ¬ m < 0 := by omega
    by_cases h1 : m < (K : Int)
    · rw [if_pos ⟨h0, h1⟩]
      have h1' : ¬ wrap64 (2 ^ ar) ≤ m := by rw [hwr]; omega
      have h1'' : m < wrap64 (2 ^ ar) := by rw [hwr]; omega
      clear hwr
      go_enter Try.func49, Try.ntmps49
      go_wp2_with fail
      refine hr.mono ?_
      rintro e W1 ⟨rfl, rfl⟩
      dsimp only
      go_wp2_with fail
      go_ret
      exact ⟨rfl, rfl⟩
    · rw [if_neg (fun h => h1 h.2)]
      have h1' : wrap64 (2 ^ ar) ≤ m := by rw [hwr]; omega
      clear hwr
      go_enter Try.func49, Try.ntmps49
      go_wp2_with fail
      refine hr.mono ?_
      rintro e W1 ⟨rfl, rfl⟩
      dsimp only
      go_wp2_with fail
      go_ret
      exact ⟨rfl, rfl⟩
  · rw [if_neg (fun h => h0 h.1)]
    have h0' : m < 0 := by omega
    clear hwr
    go_enter Try.func49, Try.ntmps49
    go_wp2_with fail
    refine hr.mono ?_
    rintro e W1 ⟨rfl, rfl⟩
    dsimp only
    go_wp2_with fail
    go_ret
    exact ⟨rfl, rfl⟩
end Go.Proofs.Qxb6500789a
