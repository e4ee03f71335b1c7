import Derived.Test.Qxb6500789aXe
import Derived.StillTailTactics
import Derived.Deep.QuietTactic
import Derived.BigQuiet
import Derived.Deep.RegionHeld
import Derived.Deep.CutRange
import Derived.Laws.ResultCell
import Derived.Laws.Rows
import Derived.DeepKeys
import Derived.DataBytes
import Derived.Laws.StructEq
import Derived.Laws.AppendOwn
import Derived.Laws.MakeOwn
import Derived.Lib.AppendStr
set_option linter.unusedSimpArgs false
set_option linter.unusedVariables false
namespace Go.Proofs.Qxb6500789a
open Go.RowKit Go.Blk
attribute [local go_sem ↓] execOp_load execOp_store execOp_alloc
attribute [local go_sem] Try.ld29 Try.st29 Try.ld3 Try.st3 Try.ld9 Try.st9 Try.ld30 Try.st30 Try.ld34 Try.st34 Try.ld35 Try.st35 Try.ld36 Try.st36 Try.ld37 Try.st37 Try.ld44 Try.st44 Try.ld45 Try.st45 Try.ld54 Try.st54 Try.ld55 Try.st55 Try.ld74 Try.st74 Try.ld80 Try.st80 Try.ld84 Try.st84 Try.ld106 Try.st106 Try.ld107 Try.st107 Try.ld4 Try.st4 Try.ld121 Try.st121 Try.ld2 Try.st2 Try.ld5 Try.st5 Try.ld12 Try.st12 Try.ld21 Try.st21 Try.ld22 Try.st22 Try.ld24 Try.st24 Try.ld26 Try.st26 Try.ld63 Try.st63 Try.ld71 Try.st71 Try.ld103 Try.st103 Try.ld130 Try.st130 Try.ld133 Try.st133 Try.ld140 Try.st140 Try.ld152 Try.st152 Try.ld39 Try.st39 Try.ld32 Try.st32 Try.ld41 Try.st41 Try.ld47 Try.st47 Try.ld57 Try.st57 Try.ld62 Try.st62 Try.ld76 Try.st76 Try.ld82 Try.st82 Try.ld86 Try.st86 Try.ld109 Try.st109 Try.ld115 Try.st115 Try.ld123 Try.st123 Try.ld135 Try.st135 Try.al39 Try.al32 Try.al41 Try.al47 Try.al57 Try.al62 Try.al76 Try.al82 Try.al86 Try.al109 Try.al115 Try.al123 Try.al135
attribute [local go_sem] Answer.length_enc Answer.ok_enc Answer.all_get Answer.all_set Answer.code_get Answer.code_set Answer.n_get Answer.n_set Answer.name_get Answer.name_set Answer.rows_get Answer.rows_set GOp.length_enc GOp.ok_enc GOp.all_get GOp.all_set GOp.kind_get GOp.kind_set GOp.rel_get GOp.rel_set GOp.mask_get GOp.mask_set GOp.t_get GOp.t_set GOp.n_get GOp.n_set GOp.name_get GOp.name_set Store.length_enc Store.ok_enc Store.all_get Store.all_set Store.names_get Store.names_set Store.rels_get Store.rels_set GRel.length_enc GRel.ok_enc GRel.all_get GRel.all_set GRel.arity_get GRel.arity_set GRel.masks_get GRel.masks_set GRel.rows_get GRel.rows_set Row.length_enc Row.ok_enc Row.all_get Row.all_set Row.t_get Row.t_set Row.mark_get Row.mark_set View.length_enc View.ok_enc View.all_get View.all_set View.names_get View.names_set View.rels_get View.rels_set Symtab.length_enc Symtab.ok_enc Symtab.all_get Symtab.all_set Symtab.names_get Symtab.names_set Symtab.table_get Symtab.table_set StoreTuplestore.length_enc StoreTuplestore.ok_enc StoreTuplestore.all_get StoreTuplestore.all_set StoreTuplestore.syms_get StoreTuplestore.syms_set StoreTuplestore.rels_get StoreTuplestore.rels_set StoreTuplestore.syms_names_get StoreTuplestore.syms_names_set StoreTuplestore.syms_table_get StoreTuplestore.syms_table_set Relation.length_enc Relation.ok_enc Relation.all_get Relation.all_set Relation.arity_get Relation.arity_set Relation.slots_get Relation.slots_set Relation.live_get Relation.live_set Relation.idx_get Relation.idx_set Slot.length_enc Slot.ok_enc Slot.all_get Slot.all_set Slot.t_get Slot.t_set Slot.mark_get Slot.mark_set Slot.live_get Slot.live_set RelView.length_enc RelView.ok_enc RelView.all_get RelView.all_set RelView.arity_get RelView.arity_set RelView.rows_get RelView.rows_set RelView.marks_get RelView.marks_set RelView.indexed_get RelView.indexed_set Index.length_enc Index.ok_enc Index.all_get Index.all_set Index.mask_get Index.mask_set Index.heads_get Index.heads_set Index.next_get Index.next_set
attribute [local go_sem] size_put size_ext blk_put free_put blk_alloc free_alloc blk_drew free_drew blk_ext free_ext lookOr_some putOr_some segAt_some cellAt_some storeIn_some put_put put_alloc_new length_arr ok_arr_u8 ok_arr_u32 ok_arr_u64 ok_arr_i64 ok_arr_sl cellsV_agg cellsV_int cellsV_bool cellsV_string cellsV_pointer cellsV_slice cellsV_sl ok_int ok_bool ok_string ok_pointer ok_slice ok_sl toList_arr seg_arr set_arr nth_splice nth_splice0 seg_splice seg_splice0 splice_splice splice_splice0 length_splice_if
attribute [local go_sem ↓] execOp_box
attribute [local go_sem] box_run nth_arr_u8 put_arr_u8 blk_drewN free_drewN put_drewN blk_raw free_raw
/-- What the store holds of names: the memory and the table. -/
def SymSt (B : Nat) (O : Own) (W : World) (bs : Nat) (names : List (List UInt8)) (ra : Option Addr) (rn rc : Nat) : Prop := ∃ T na nn nc ta tn tc, SymOk B O W bs names T na nn nc ta tn tc ra rn rc ∧ NInv names T
def internG (names : List (List UInt8)) (nm : List UInt8) : Option Nat → Int × Int × List (List UInt8)
  | some n => ((n : Int), 0, names)
  | none => if 256 ≤ names.length then (-1, 3, names) else ((names.length : Int), 0, names ++ [nm])
def internF (names : List (List UInt8)) (nm : List UInt8) : Int × Int × List (List UInt8) :=
  if 64 < nm.length then (-1, 6, names) else internG names nm (lookF names nm)
def InternPost (B : Nat) (O : Own) (W : World) (bs : Nat) (q : Int × Int × List (List UInt8)) (ra : Option Addr) (rn rc : Nat) (e : Ending) (W' : World) : Prop := e = .returned (.tuple #[.int .i64 q.1, .int .i64 q.2.1]) ∧ ∃ O', Fr isSym O W O' W' ∧ SymSt B O' W' bs q.2.2 ra rn rc
theorem SymSt.drewN {B : Nat} {O : Own} {W : World} {bs : Nat} {names : List (List UInt8)} {ra : Option Addr} {rn rc : Nat} (h : SymSt B O W bs names ra rn rc) (k : Nat) : SymSt B O (W.drewN k) bs names ra rn rc := h
attribute [local go_sem] st_len st0 st1 st2 st_set0 st_set1 st_set2
set_option maxRecDepth 20000 in
set_option maxHeartbeats 2000000 in
theorem intern_any (B : Nat) (O : Own) (W : World) (bs : Nat) (names : List (List UInt8)) (ra : Option Addr) (rn rc : Nat) (nm : List UInt8) (hS : SymSt B O W bs names ra rn rc) (hl : nm.length ≤ 1000000) (hB : B ≤ W.heap.size) :
    Calls Try.prog 36 #[.pointer (some ⟨bs, 0, none⟩), .string ⟨nm.toArray⟩] W (InternPost B O W bs (internF names nm) ra rn rc) := by
  have HSS : Hid (SymSt B O W bs names ra rn rc) := hS
  obtain ⟨T, na, nn, nc, ta, tn, tc, hsy, hni⟩ := hS
  have HSY : Hid (SymOk B O W bs names T na nn nc ta tn tc ra rn rc) := hsy
  have HNI : Hid (NInv names T) := hni
  have hb := hsy.1
  have hNL : names.length = nn := (hsy.2.2.2.1.rw encS_len).1.1
  have HNL : Hid (names.length = nn) := hNL
  have hn256 : nn ≤ 256 := by have := hni.few; omega
  obtain ⟨s, hs⟩ : ∃ s : ByteArray, s = ⟨nm.toArray⟩ := ⟨_, rfl⟩
  have HS : Hid (s = ⟨nm.toArray⟩) := hs
  obtain ⟨k, hk⟩ : ∃ k, k = nm.length := ⟨_, rfl⟩
  have hss : s.size = k := by rw [hs, hk]; simp [ByteArray.size]
  have HK : Hid (k = nm.length) := hk
  rw [← hs]
  clear hs hk hsy hni hNL
  by_cases h64 : 64 < k
  · have h64' : (64 : Int) < (k : Int) := by omega
    have e : internF names nm = (-1, 6, names) := by unfold internF; rw [if_pos (by rw [← HK.out]; exact h64)]
    rw [e]
    have HP : Hid (InternPost B O W bs (-1, 6, names) ra rn rc (.returned (.tuple #[.int .i64 (-1), .int .i64 6])) W) := ⟨rfl, O, Fr.refl _ _ _, HSS.out⟩
    clear e
    go_enter Try.func36, Try.ntmps36
    go_wp2_with fail
    go_ret2
    exact HP.out
  have h64' : ¬ (64 : Int) < (k : Int) := by omega
  obtain ⟨R, hR⟩ : ∃ R, R = lookF names nm := ⟨_, rfl⟩
  have HR : Hid (R = lookF names nm) := hR
  have HQ0 : Hid (internF names nm = internG names nm R) := by
    show _ = _
    unfold internF
    rw [if_neg (by rw [← HK.out]; exact h64), hR]
  obtain ⟨q, hq⟩ : ∃ q, q = internF names nm := ⟨_, rfl⟩
  have HQ : Hid (q = internF names nm) := hq
  rw [← hq]
  clear hR hq
  go_enter Try.func36, Try.ntmps36
  go_wp2_with fail
  rw [HS.out]
  refine (lookup_any W bs na nn nc ta tn tc ra rn rc names T nm hb (HSY.out.2.2.2.1.rw encS_len).1 (HSY.out.2.2.2.2.1.rw encK_len).1 HNI.out.tinv (by omega)).mono ?_
  rintro e W1 ⟨rfl, k1, rfl⟩
  rw [← HR.out, ← HS.out]
  cases R with
  | some n =>
    have hqe : q = ((n : Int), 0, names) := by rw [HQ.out, HQ0.out]; rfl
    have HP : Hid (InternPost B O W bs ((n : Int), 0, names) ra rn rc (.returned (.tuple #[.int .i64 (n : Int), .int .i64 0])) (W.drewN k1)) := ⟨rfl, O, (Fr.refl _ _ _).drewN _, HSS.out.drewN _⟩
    clear HR HQ0 HQ
    subst hqe
    dsimp only [lookV]
    go_wp2_with fail
    go_ret2
    exact HP.out
  | none =>
    dsimp only [lookV]
    by_cases hfull : 256 ≤ nn
    · have hfull' : (256 : Int) ≤ (nn : Int) := by omega
      have hqe : q = (-1, 3, names) := by rw [HQ.out, HQ0.out]; exact if_pos (by rw [HNL.out]; exact hfull)
      have HP : Hid (InternPost B O W bs (-1, 3, names) ra rn rc (.returned (.tuple #[.int .i64 (-1), .int .i64 3])) (W.drewN k1)) := ⟨rfl, O, (Fr.refl _ _ _).drewN _, HSS.out.drewN _⟩
      clear HR HQ0 HQ
      subst hqe
      go_wp2_with fail
      go_ret2
      exact HP.out
    · have hfull' : ¬ (256 : Int) ≤ (nn : Int) := by omega
      have hqe : q = ((names.length : Int), 0, names ++ [nm]) := by rw [HQ.out, HQ0.out]; exact if_neg (by rw [HNL.out]; exact hfull)
      have hnin : nm ∉ names := fun hm => by
        have := HR.out
        unfold lookF at this
        rw [if_pos hm] at this
        cases this
      have HNIN : Hid (nm ∉ names) := hnin
      rw [HNL.out] at hqe
      clear HR HQ0 HQ hnin
      subst hqe
      go_wp2_with fail
      rw [HS.out]
      refine (add_any B O (W.drewN k1) bs na nn nc ta tn tc ra rn rc names T nm HSY.out HNI.out (by rw [HNL.out]; omega) (by have := HK.out; omega) HNIN.out hB).mono ?_
      rintro e W2 ⟨rfl, O2, T2, na2, nc2, ta2, tn2, tc2, hF2, hS2, hN2⟩
      have HP : Hid (InternPost B O W bs ((nn : Int), 0, names ++ [nm]) ra rn rc (.returned (.tuple #[.int .i64 (nn : Int), .int .i64 0])) W2) := ⟨rfl, O2, hF2.of_drewN, T2, na2, nn + 1, nc2, ta2, tn2, tc2, hS2, hN2⟩
      clear hF2 hS2 hN2
      dsimp only
      go_wp2_with fail
      go_ret2
      exact HP.out
def lookupG : Option Nat → Int × Int
  | some n => ((n : Int), 0)
  | none => (-1, 2)
def lookupF (names : List (List UInt8)) (nm : List UInt8) : Int × Int := lookupG (lookF names nm)
set_option maxRecDepth 20000 in
theorem lookupS_any (B : Nat) (O : Own) (W : World) (bs : Nat) (names : List (List UInt8)) (ra : Option Addr) (rn rc : Nat) (nm : List UInt8) (hS : SymSt B O W bs names ra rn rc) (hl : nm.length ≤ 1000000) :
    Calls Try.prog 31 #[.pointer (some ⟨bs, 0, none⟩), .string ⟨nm.toArray⟩] W fun e W' => e = .returned (.tuple #[.int .i64 (lookupF names nm).1, .int .i64 (lookupF names nm).2]) ∧ ∃ k, W' = W.drewN k := by
  obtain ⟨T, na, nn, nc, ta, tn, tc, hsy, hni⟩ := hS
  have HSY : Hid (SymOk B O W bs names T na nn nc ta tn tc ra rn rc) := hsy
  have HNI : Hid (NInv names T) := hni
  have hb := hsy.1
  obtain ⟨s, hs⟩ : ∃ s : ByteArray, s = ⟨nm.toArray⟩ := ⟨_, rfl⟩
  have HS : Hid (s = ⟨nm.toArray⟩) := hs
  obtain ⟨R, hR⟩ : ∃ R, R = lookF names nm := ⟨_, rfl⟩
  have HR : Hid (R = lookF names nm) := hR
  have e : lookupF names nm = lookupG R := by unfold lookupF; rw [hR]
  rw [← hs, e]
  clear hs hsy hni hR e
  go_enter Try.func31, Try.ntmps31
  go_wp2_with fail
  rw [HS.out]
  refine (lookup_any W bs na nn nc ta tn tc ra rn rc names T nm hb (HSY.out.2.2.2.1.rw encS_len).1 (HSY.out.2.2.2.2.1.rw encK_len).1 HNI.out.tinv hl).mono ?_
  rintro e W1 ⟨rfl, k1, rfl⟩
  rw [← HR.out, ← HS.out]
  clear HR
  cases R with
  | some n =>
    dsimp only [lookV, lookupG]
    go_wp2_with fail
    go_ret2
    exact ⟨rfl, _, rfl⟩
  | none =>
    dsimp only [lookV, lookupG]
    go_wp2_with fail
    go_ret2
    exact ⟨rfl, _, rfl⟩
def nameF (names : List (List UInt8)) (y : Int) : List UInt8 × Int := if 0 ≤ y ∧ y < (names.length : Int) then (names.getD y.toNat [], 0) else ([], 10)
set_option maxRecDepth 20000 in
theorem nameS_any (B : Nat) (O : Own) (W : World) (bs : Nat) (names : List (List UInt8)) (ra : Option Addr) (rn rc : Nat) (y : Int) (hS : SymSt B O W bs names ra rn rc) :
    Calls Try.prog 18 #[.pointer (some ⟨bs, 0, none⟩), .int .i64 y] W fun e W' => e = .returned (.tuple #[.string ⟨(nameF names y).1.toArray⟩, .int .i64 (nameF names y).2]) ∧ W' = W := by
  obtain ⟨T, na, nn, nc, ta, tn, tc, hsy, hni⟩ := hS
  have hb := hsy.1
  have hrn := (hsy.2.2.2.1.rw encS_len).1
  have hNL : names.length = nn := hrn.1
  by_cases h : 0 ≤ y ∧ y < (names.length : Int)
  · obtain ⟨n, rfl⟩ : ∃ n : Nat, y = (n : Int) := ⟨y.toNat, by omega⟩
    obtain ⟨nm, hnm⟩ : ∃ nm, names[n]? = some nm := ⟨_, List.getElem?_eq_getElem (by omega)⟩
    have e : nameF names (n : Int) = (nm, 0) := by
      unfold nameF
      rw [if_pos h, Int.toNat_natCast, List.getD_eq_getElem?_getD, hnm]; rfl
    have ek : knowsF nn (n : Int) = true := by unfold knowsF; simp; omega
    obtain ⟨bn, Cn, rfl, hCn, hcn, hlt, un⟩ := rw_cell (v := .string ⟨nm.toArray⟩) hrn hnm rfl
    have q0 : (0 : Int) ≤ (n : Int) := by omega
    have q1 : (n : Int) < (nn : Int) := by omega
    have q2 : ((n : Int)).toNat = n := by omega
    obtain ⟨s, hs⟩ : ∃ s : ByteArray, s = ⟨nm.toArray⟩ := ⟨_, rfl⟩
    rw [e]
    dsimp only
    rw [← hs]
    rw [← hs] at un
    clear e hnm hsy hni hrn hNL hs h
    go_enter Try.func18, Try.ntmps18
    go_wp2_with fail
    refine (knows_any W bs _ nn nc ta tn tc ra rn rc hb (n : Int)).mono ?_
    rintro e W1 ⟨rfl, rfl⟩
    rw [ek]
    dsimp only
    go_wp2_with fail
    go_ret2
    exact ⟨rfl, rfl⟩
  · have e : nameF names y = ([], 10) := by unfold nameF; rw [if_neg h]
    have ek : knowsF nn y = false := by
      unfold knowsF
      rw [← hNL]
      by_cases h0 : 0 ≤ y
      · have : ¬ y < (names.length : Int) := fun h1 => h ⟨h0, h1⟩
        simp [this]
      · simp [h0]
    rw [e]
    dsimp only
    clear e hsy hni hrn hNL h
    go_enter Try.func18, Try.ntmps18
    go_wp2_with fail
    refine (knows_any W bs _ nn nc ta tn tc ra rn rc hb y).mono ?_
    rintro e W1 ⟨rfl, rfl⟩
    rw [ek]
    dsimp only
    go_wp2_with fail
    go_ret2
    exact ⟨rfl, rfl⟩
set_option maxRecDepth 20000 in
theorem syms_any (B : Nat) (O : Own) (W : World) (bs : Nat) (names : List (List UInt8)) (ra : Option Addr) (rn rc : Nat) (hS : SymSt B O W bs names ra rn rc) :
    Calls Try.prog 16 #[.pointer (some ⟨bs, 0, none⟩)] W fun e W' => e = .returned (.int .i64 (names.length : Int)) ∧ W' = W := by
  obtain ⟨T, na, nn, nc, ta, tn, tc, hsy, hni⟩ := hS
  have hb := hsy.1
  have hNL : names.length = nn := (hsy.2.2.2.1.rw encS_len).1.1
  rw [hNL]
  clear hsy hni hNL
  go_enter Try.func16, Try.ntmps16
  go_wp2_with fail
  go_ret
  exact ⟨rfl, rfl⟩
set_option maxRecDepth 20000 in
theorem relsN_any (B : Nat) (O : Own) (W : World) (bs : Nat) (names : List (List UInt8)) (ra : Option Addr) (rn rc : Nat) (hS : SymSt B O W bs names ra rn rc) :
    Calls Try.prog 17 #[.pointer (some ⟨bs, 0, none⟩)] W fun e W' => e = .returned (.int .i64 (rn : Int)) ∧ W' = W := by
  obtain ⟨T, na, nn, nc, ta, tn, tc, hsy, hni⟩ := hS
  have hb := hsy.1
  clear hsy hni
  go_enter Try.func17, Try.ntmps17
  go_wp2_with fail
  go_ret
  exact ⟨rfl, rfl⟩
end Go.Proofs.Qxb6500789a
