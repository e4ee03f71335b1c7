import Derived.Test.Qxb6500789aXt
import Derived.StillTailTactics
import Derived.Deep.QuietTactic
import Derived.BigQuiet
import Derived.Deep.RegionHeld
import Derived.Deep.CutRange
import Derived.Laws.ResultCell
import Derived.Laws.Rows
import Derived.DeepKeys
import Derived.DataBytes
import Derived.Laws.StructEq
import Derived.Laws.AppendOwn
import Derived.Laws.MakeOwn
import Derived.Lib.AppendStr
set_option linter.unusedSimpArgs false
set_option linter.unusedVariables false
namespace Go.Proofs.Qxb6500789a
open Go.RowKit Go.Blk
attribute [local go_sem ↓] execOp_load execOp_store execOp_alloc
attribute [local go_sem] Try.ld29 Try.st29 Try.ld3 Try.st3 Try.ld9 Try.st9 Try.ld30 Try.st30 Try.ld34 Try.st34 Try.ld35 Try.st35 Try.ld36 Try.st36 Try.ld37 Try.st37 Try.ld44 Try.st44 Try.ld45 Try.st45 Try.ld54 Try.st54 Try.ld55 Try.st55 Try.ld74 Try.st74 Try.ld80 Try.st80 Try.ld84 Try.st84 Try.ld106 Try.st106 Try.ld107 Try.st107 Try.ld4 Try.st4 Try.ld121 Try.st121 Try.ld2 Try.st2 Try.ld5 Try.st5 Try.ld12 Try.st12 Try.ld21 Try.st21 Try.ld22 Try.st22 Try.ld24 Try.st24 Try.ld26 Try.st26 Try.ld63 Try.st63 Try.ld71 Try.st71 Try.ld103 Try.st103 Try.ld130 Try.st130 Try.ld133 Try.st133 Try.ld140 Try.st140 Try.ld152 Try.st152 Try.ld39 Try.st39 Try.ld32 Try.st32 Try.ld41 Try.st41 Try.ld47 Try.st47 Try.ld57 Try.st57 Try.ld62 Try.st62 Try.ld76 Try.st76 Try.ld82 Try.st82 Try.ld86 Try.st86 Try.ld109 Try.st109 Try.ld115 Try.st115 Try.ld123 Try.st123 Try.ld135 Try.st135 Try.al39 Try.al32 Try.al41 Try.al47 Try.al57 Try.al62 Try.al76 Try.al82 Try.al86 Try.al109 Try.al115 Try.al123 Try.al135
attribute [local go_sem] Answer.length_enc Answer.ok_enc Answer.all_get Answer.all_set Answer.code_get Answer.code_set Answer.n_get Answer.n_set Answer.name_get Answer.name_set Answer.rows_get Answer.rows_set GOp.length_enc GOp.ok_enc GOp.all_get GOp.all_set GOp.kind_get GOp.kind_set GOp.rel_get GOp.rel_set GOp.mask_get GOp.mask_set GOp.t_get GOp.t_set GOp.n_get GOp.n_set GOp.name_get GOp.name_set Store.length_enc Store.ok_enc Store.all_get Store.all_set Store.names_get Store.names_set Store.rels_get Store.rels_set GRel.length_enc GRel.ok_enc GRel.all_get GRel.all_set GRel.arity_get GRel.arity_set GRel.masks_get GRel.masks_set GRel.rows_get GRel.rows_set Row.length_enc Row.ok_enc Row.all_get Row.all_set Row.t_get Row.t_set Row.mark_get Row.mark_set View.length_enc View.ok_enc View.all_get View.all_set View.names_get View.names_set View.rels_get View.rels_set Symtab.length_enc Symtab.ok_enc Symtab.all_get Symtab.all_set Symtab.names_get Symtab.names_set Symtab.table_get Symtab.table_set StoreTuplestore.length_enc StoreTuplestore.ok_enc StoreTuplestore.all_get StoreTuplestore.all_set StoreTuplestore.syms_get StoreTuplestore.syms_set StoreTuplestore.rels_get StoreTuplestore.rels_set StoreTuplestore.syms_names_get StoreTuplestore.syms_names_set StoreTuplestore.syms_table_get StoreTuplestore.syms_table_set Relation.length_enc Relation.ok_enc Relation.all_get Relation.all_set Relation.arity_get Relation.arity_set Relation.slots_get Relation.slots_set Relation.live_get Relation.live_set Relation.idx_get Relation.idx_set Slot.length_enc Slot.ok_enc Slot.all_get Slot.all_set Slot.t_get Slot.t_set Slot.mark_get Slot.mark_set Slot.live_get Slot.live_set RelView.length_enc RelView.ok_enc RelView.all_get RelView.all_set RelView.arity_get RelView.arity_set RelView.rows_get RelView.rows_set RelView.marks_get RelView.marks_set RelView.indexed_get RelView.indexed_set Index.length_enc Index.ok_enc Index.all_get Index.all_set Index.mask_get Index.mask_set Index.heads_get Index.heads_set Index.next_get Index.next_set
attribute [local go_sem] size_put size_ext blk_put free_put blk_alloc free_alloc blk_drew free_drew blk_ext free_ext lookOr_some putOr_some segAt_some cellAt_some storeIn_some put_put put_alloc_new length_arr ok_arr_u8 ok_arr_u32 ok_arr_u64 ok_arr_i64 ok_arr_sl cellsV_agg cellsV_int cellsV_bool cellsV_string cellsV_pointer cellsV_slice cellsV_sl ok_int ok_bool ok_string ok_pointer ok_slice ok_sl toList_arr seg_arr set_arr nth_splice nth_splice0 seg_splice seg_splice0 splice_splice splice_splice0 length_splice_if
attribute [local go_sem ↓] execOp_box
attribute [local go_sem] box_run nth_arr_u8 put_arr_u8 blk_drewN free_drewN put_drewN blk_raw free_raw
def hiI (W0 : World) (gr o : Nat) (iN mk : Nat) (K : List IxD) (f : Nat → Value) (W : World) : Prop := f 0 = .pointer (some ⟨gr, o, none⟩) ∧ f 1 = .int .i64 (mk : Int) ∧ W = W0 ∧ ∃ j : Nat, j ≤ iN ∧ f 5 = .int .i64 (j : Nat) ∧ Hid (∀ (i : Nat) (k : IxD), i < j → K[i]? = some k → k.m ≠ mk)
set_option maxRecDepth 100000 in
theorem frame25 (f : Nat → Value) : frameN 25 f = #[f 0, f 1, f 2, f 3, f 4, f 5, f 6, f 7, f 8, f 9, f 10, f 11, f 12, f 13, f 14, f 15, f 16, f 17, f 18, f 19, f 20, f 21, f 22, f 23, f 24] := by kernel_rfl
set_option maxRecDepth 20000 in
set_option maxHeartbeats 4000000 in
theorem hasIndex_any (B : Nat) (O : Own) (W : World) (gr o : Nat) (Cr : List Value) (tyr : TypeId) (i ar : Nat) (L : List Slot) (K : List IxD) (hS : RelSt B O W gr o tyr i ar L K Cr) (hV : RInv ar L K) (mk : Nat) :
    Calls Try.prog 64 #[.pointer (some ⟨gr, o, none⟩), .int .i64 (mk : Int)] W fun e W' => e = .returned (.bool (decide (mk ∈ K.map (·.m)))) ∧ W' = W := by
  obtain ⟨sa, sn, sc, ia, iN, ic, hty, hR, hI⟩ := hS
  obtain ⟨r4, c0, c1, c2, c3⟩ := hR
  have hb : blk W gr = some Cr := blk_mk hty
  obtain ⟨hLn, hKn⟩ := hI.lens
  have hiN : iN ≤ 16 := by have := hV.few; omega
  have HI : Hid (Rw (IxD.enc L.length) 3 W ia iN K) := (hI.idx.rw (IxD.len _)).1
  have HKN : Hid (K.length = iN) := hKn
  have l3 : o + 3 + 1 ≤ Cr.length := by omega
  obtain ⟨res, hres⟩ : ∃ res, res = decide (mk ∈ K.map (·.m)) := ⟨_, rfl⟩
  have HRES : Hid (res = decide (mk ∈ K.map (·.m))) := hres
  rw [← hres]
  clear hI hV hLn hKn hty hres
  go_enter Try.func64, Try.ntmps64
  go_wp2_with fail
  refine wp_loop_f 25 (hiI W gr o iN mk K) (fun f _ => iN - (intOf (f 5)).toNat) rfl ⟨rfl, rfl, rfl, 0, by omega, rfl, fun i k h => absurd h (Nat.not_lt_zero _)⟩ ?_
  intro F V hrel
  obtain ⟨f0, f1, rfl, j, hj, f5, HQ⟩ := hrel
  have H5 : Hid (F 5 = .int .i64 (j : Nat)) := f5
  rw [frame25, f0, f1, f5]
  clear f0 f1 f5
  by_cases hjn : j < iN
  · have hjn' : (j : Int) < (iN : Int) := by omega
    obtain ⟨k, hk⟩ : ∃ k, K[j]? = some k := ⟨_, List.getElem?_eq_getElem (by rw [HKN.out]; exact hjn)⟩
    obtain ⟨gi, Ci, rfl, hCi, hci3, _, v0, _, _, _⟩ := ix_at HI.out hk
    have p0 : (0 : Int) ≤ (j : Int) := by omega
    have p2 : ((j : Int)).toNat = j := by omega
    have d0 : j * 3 < Ci.length := by omega
    have d1 : j * 3 + 1 ≤ Ci.length := by omega
    obtain ⟨km, hkm⟩ : ∃ km, km = k.m := ⟨_, rfl⟩
    rw [← hkm] at v0
    by_cases he : km = mk
    · have hr : res = true := by rw [HRES.out]; exact decide_eq_true (List.mem_map.2 ⟨k, List.mem_of_getElem? hk, by rw [← hkm]; exact he⟩)
      subst he
      clear HQ hk hkm HRES
      subst hr
      go_wp2_with fail
      go_ret
      exact ⟨rfl, rfl⟩
    · have HQ' : Hid (∀ (i : Nat) (k : IxD), i < j + 1 → K[i]? = some k → k.m ≠ mk) := by
        intro i' k' h1 h2
        by_cases h3 : i' = j
        · subst h3
          rw [hk] at h2
          rw [← Option.some.inj h2, ← hkm]; exact he
        · exact HQ.out i' k' (by omega) h2
      have he' : ¬ (km : Int) = (mk : Int) := by omega
      have heb : ((km : Int) == (mk : Int)) = false := by simp; omega
      clear HQ hk hkm
      go_wp2_with fail
      refine ⟨rfl, rfl, ⟨rfl, rfl, rfl, j + 1, by omega, ?_, HQ'⟩, ?_⟩
      · show Value.int .i64 _ = _
        go_num
      · show iN - (intOf (Value.int .i64 _)).toNat < iN - (intOf (F 5)).toNat
        rw [H5.out]
        simp [intOf]; omega
  · obtain rfl : j = iN := by omega
    have hjn' : ¬ ((j : Int) < (j : Int)) := by omega
    have hr : res = false := by
      rw [HRES.out]
      refine decide_eq_false (fun h => ?_)
      obtain ⟨k, hk, e⟩ := List.mem_map.1 h
      obtain ⟨i', hi'⟩ := List.mem_iff_getElem?.1 hk
      exact HQ.out i' k (by rw [← HKN.out]; exact (List.getElem?_eq_some_iff.1 hi').1) hi' e
    clear HQ HRES
    subst hr
    go_wp2_with fail
    go_ret
    exact ⟨rfl, rfl⟩
def SubM (m mk : Nat) : Bool := (List.range 4).all (fun c => !m.testBit c || mk.testBit c)
theorem sub_fact (m mk : Nat) (hm : m < 16) (hk : mk < 16) : (bits .andNot .i64 (m : Int) (mk : Int) = 0) ↔ SubM m mk = true := by
  have h : ∀ m : Nat, m < 16 → ∀ mk : Nat, mk < 16 → decide (bits .andNot .i64 (m : Int) (mk : Int) = 0) = SubM m mk := by decide +kernel
  have := h m hm mk hk
  constructor
  · intro e; rw [← this]; exact decide_eq_true e
  · intro e; rw [e] at this; exact of_decide_eq_true this
theorem sub_zero (m : Nat) (hm : m < 16) (h : SubM m 0 = true) : wdP m 4 = 0 := by
  have h1 : ∀ m : Nat, m < 16 → SubM m 0 = true → wdP m 4 = 0 := by decide +kernel
  exact h1 m hm h
theorem SubM.agree {m mk : Nat} (h : SubM m mk = true) {t u : Tup} (ha : Agree t u mk) : Agree t u m := fun c hc hb => by
  have := List.all_eq_true.1 h c (by simpa using hc)
  rw [hb] at this
  exact ha c hc (by simpa using this)
def PickP (K : List IxD) (mk : Nat) (r : Int) : Prop := r = -1 ∨ ∃ (j : Nat) (k : IxD), r = (j : Int) ∧ K[j]? = some k ∧ SubM k.m mk = true ∧ mk ≠ 0
def pkI (W0 : World) (gr o : Nat) (iN mk : Nat) (K : List IxD) (f : Nat → Value) (W : World) : Prop := f 0 = .pointer (some ⟨gr, o, none⟩) ∧ f 1 = .int .i64 (mk : Int) ∧ W = W0 ∧ ∃ (j bw : Nat) (r : Int), j ≤ iN ∧ f 7 = .int .i64 (j : Nat) ∧ f 5 = .int .i64 r ∧ f 6 = .int .i64 (bw : Nat) ∧ bw ≤ 4 ∧ Hid (PickP K mk r)
set_option maxRecDepth 20000 in
set_option maxHeartbeats 4000000 in
theorem pick_any (B : Nat) (O : Own) (W : World) (gr o : Nat) (Cr : List Value) (tyr : TypeId) (i ar : Nat) (L : List Slot) (K : List IxD) (hS : RelSt B O W gr o tyr i ar L K Cr) (hV : RInv ar L K) (mk : Nat) (hmk : mk < 16) :
    Calls Try.prog 75 #[.pointer (some ⟨gr, o, none⟩), .int .i64 (mk : Int)] W fun e W' => (∃ r : Int, e = .returned (.int .i64 r) ∧ PickP K mk r) ∧ W' = W := by
  obtain ⟨sa, sn, sc, ia, iN, ic, hty, hR, hI⟩ := hS
  obtain ⟨r4, c0, c1, c2, c3⟩ := hR
  have hb : blk W gr = some Cr := blk_mk hty
  obtain ⟨hLn, hKn⟩ := hI.lens
  have hiN : iN ≤ 16 := by have := hV.few; omega
  have HI : Hid (Rw (IxD.enc L.length) 3 W ia iN K) := (hI.idx.rw (IxD.len _)).1
  have HSZ : Hid (∀ k ∈ K, SzOk k) := hI.sz
  have HKN : Hid (K.length = iN) := hKn
  have l3 : o + 3 + 1 ≤ Cr.length := by omega
  clear hI hV hLn hKn hty
  go_enter Try.func75, Try.ntmps75
  go_wp2_with fail
  refine wp_loop_f 40 (pkI W gr o iN mk K) (fun f _ => iN - (intOf (f 7)).toNat) rfl ⟨rfl, rfl, rfl, 0, 0, -1, by omega, rfl, rfl, rfl, by omega, .inl rfl⟩ ?_
  intro F V hrel
  obtain ⟨f0, f1, rfl, j, bw, r, hj, f7, f5, f6, hbw, HQ⟩ := hrel
  have H7 : Hid (F 7 = .int .i64 (j : Nat)) := f7
  rw [frame40, f0, f1, f7, f5, f6]
  clear f0 f1 f5 f6 f7
  by_cases hjn : j < iN
  · have hjn' : (j : Int) < (iN : Int) := by omega
    obtain ⟨k, hk⟩ : ∃ k, K[j]? = some k := ⟨_, List.getElem?_eq_getElem (by rw [HKN.out]; exact hjn)⟩
    obtain ⟨gi, Ci, rfl, hCi, hci3, _, v0, _, _, _⟩ := ix_at HI.out hk
    have p0 : (0 : Int) ≤ (j : Int) := by omega
    have p2 : ((j : Int)).toNat = j := by omega
    have d0 : j * 3 < Ci.length := by omega
    have d1 : j * 3 + 1 ≤ Ci.length := by omega
    have hk16 : k.m < 16 := (HSZ.out k (List.mem_of_getElem? hk)).1
    obtain ⟨km, hkm⟩ : ∃ km, km = k.m := ⟨_, rfl⟩
    rw [← hkm] at v0 hk16
    have HKM : Hid (K[j]? = some k ∧ km = k.m) := ⟨hk, hkm⟩
    have hsf := sub_fact km mk hk16 hmk
    have hwl := wdP_le km 4
    clear hk hkm
    by_cases hsub : SubM km mk = true
    · have hz := hsf.2 hsub
      have HSUB : Hid (SubM km mk = true) := hsub
      obtain ⟨wd, hwd⟩ : ∃ wd, wd = wdP km 4 := ⟨_, rfl⟩
      have HWD : Hid (wd = wdP km 4) := hwd
      rw [← hwd] at hwl
      clear hsf hsub hwd
      go_wp2_with fail
      refine (width_any V km hk16).mono ?_
      rintro e W1 ⟨rfl, rfl⟩
      rw [← HWD.out]
      dsimp only
      by_cases hgt : bw < wd
      · have hgt' : (bw : Int) < (wd : Int) := by omega
        have HQ' : Hid (PickP K mk (j : Int)) := by
          refine .inr ⟨j, k, rfl, HKM.out.1, by rw [← HKM.out.2]; exact HSUB.out, fun e => ?_⟩
          have h0 := HSUB.out
          rw [e] at h0
          have := sub_zero km hk16 h0
          have := HWD.out
          omega
        go_wp2_with fail
        refine (width_any W1 km hk16).mono ?_
        rintro e W2 ⟨rfl, rfl⟩
        rw [← HWD.out]
        dsimp only
        clear HQ
        go_wp2_with fail
        refine ⟨rfl, rfl, ⟨rfl, rfl, rfl, j + 1, wd, (j : Int), by omega, ?_, rfl, rfl, hwl, HQ'⟩, ?_⟩
        · show Value.int .i64 _ = _
          go_num
        · show iN - (intOf (Value.int .i64 _)).toNat < iN - (intOf (F 7)).toNat
          rw [H7.out]
          simp [intOf]; omega
      · have hgt' : ¬ (bw : Int) < (wd : Int) := by omega
        go_wp2_with fail
        refine ⟨rfl, rfl, ⟨rfl, rfl, rfl, j + 1, bw, r, by omega, ?_, rfl, rfl, hbw, HQ⟩, ?_⟩
        · show Value.int .i64 _ = _
          go_num
        · show iN - (intOf (Value.int .i64 _)).toNat < iN - (intOf (F 7)).toNat
          rw [H7.out]
          simp [intOf]; omega
    · have hz : ¬ bits .andNot .i64 (km : Int) (mk : Int) = 0 := fun e => hsub (hsf.1 e)
      have hzb : (bits .andNot .i64 (km : Int) (mk : Int) == 0) = false := by simp [hz]
      clear hsf hsub
      go_wp2_with fail
      refine ⟨rfl, rfl, ⟨rfl, rfl, rfl, j + 1, bw, r, by omega, ?_, rfl, rfl, hbw, HQ⟩, ?_⟩
      · show Value.int .i64 _ = _
        go_num
      · show iN - (intOf (Value.int .i64 _)).toNat < iN - (intOf (F 7)).toNat
        rw [H7.out]
        simp [intOf]; omega
  · obtain rfl : j = iN := by omega
    have hjn' : ¬ ((j : Int) < (j : Int)) := by omega
    go_wp2_with fail
    go_ret
    exact ⟨⟨r, rfl, HQ.out⟩, rfl⟩
end Go.Proofs.Qxb6500789a
