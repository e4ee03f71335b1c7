import Derived.Test.Qxb6500789aXy
import Derived.StillTailTactics
import Derived.Deep.QuietTactic
import Derived.BigQuiet
import Derived.Deep.RegionHeld
import Derived.Deep.CutRange
import Derived.Laws.ResultCell
import Derived.Laws.Rows
import Derived.DeepKeys
import Derived.DataBytes
import Derived.Laws.StructEq
import Derived.Laws.AppendOwn
import Derived.Laws.MakeOwn
import Derived.Lib.AppendStr
set_option linter.unusedSimpArgs false
set_option linter.unusedVariables false
namespace Go.Proofs.Qxb6500789a
open Go.RowKit Go.Blk
attribute [local go_sem ↓] execOp_load execOp_store execOp_alloc
attribute [local go_sem] Try.ld29 Try.st29 Try.ld3 Try.st3 Try.ld9 Try.st9 Try.ld30 Try.st30 Try.ld34 Try.st34 Try.ld35 Try.st35 Try.ld36 Try.st36 Try.ld37 Try.st37 Try.ld44 Try.st44 Try.ld45 Try.st45 Try.ld54 Try.st54 Try.ld55 Try.st55 Try.ld74 Try.st74 Try.ld80 Try.st80 Try.ld84 Try.st84 Try.ld106 Try.st106 Try.ld107 Try.st107 Try.ld4 Try.st4 Try.ld121 Try.st121 Try.ld2 Try.st2 Try.ld5 Try.st5 Try.ld12 Try.st12 Try.ld21 Try.st21 Try.ld22 Try.st22 Try.ld24 Try.st24 Try.ld26 Try.st26 Try.ld63 Try.st63 Try.ld71 Try.st71 Try.ld103 Try.st103 Try.ld130 Try.st130 Try.ld133 Try.st133 Try.ld140 Try.st140 Try.ld152 Try.st152 Try.ld39 Try.st39 Try.ld32 Try.st32 Try.ld41 Try.st41 Try.ld47 Try.st47 Try.ld57 Try.st57 Try.ld62 Try.st62 Try.ld76 Try.st76 Try.ld82 Try.st82 Try.ld86 Try.st86 Try.ld109 Try.st109 Try.ld115 Try.st115 Try.ld123 Try.st123 Try.ld135 Try.st135 Try.al39 Try.al32 Try.al41 Try.al47 Try.al57 Try.al62 Try.al76 Try.al82 Try.al86 Try.al109 Try.al115 Try.al123 Try.al135
attribute [local go_sem] Answer.length_enc Answer.ok_enc Answer.all_get Answer.all_set Answer.code_get Answer.code_set Answer.n_get Answer.n_set Answer.name_get Answer.name_set Answer.rows_get Answer.rows_set GOp.length_enc GOp.ok_enc GOp.all_get GOp.all_set GOp.kind_get GOp.kind_set GOp.rel_get GOp.rel_set GOp.mask_get GOp.mask_set GOp.t_get GOp.t_set GOp.n_get GOp.n_set GOp.name_get GOp.name_set Store.length_enc Store.ok_enc Store.all_get Store.all_set Store.names_get Store.names_set Store.rels_get Store.rels_set GRel.length_enc GRel.ok_enc GRel.all_get GRel.all_set GRel.arity_get GRel.arity_set GRel.masks_get GRel.masks_set GRel.rows_get GRel.rows_set Row.length_enc Row.ok_enc Row.all_get Row.all_set Row.t_get Row.t_set Row.mark_get Row.mark_set View.length_enc View.ok_enc View.all_get View.all_set View.names_get View.names_set View.rels_get View.rels_set Symtab.length_enc Symtab.ok_enc Symtab.all_get Symtab.all_set Symtab.names_get Symtab.names_set Symtab.table_get Symtab.table_set StoreTuplestore.length_enc StoreTuplestore.ok_enc StoreTuplestore.all_get StoreTuplestore.all_set StoreTuplestore.syms_get StoreTuplestore.syms_set StoreTuplestore.rels_get StoreTuplestore.rels_set StoreTuplestore.syms_names_get StoreTuplestore.syms_names_set StoreTuplestore.syms_table_get StoreTuplestore.syms_table_set Relation.length_enc Relation.ok_enc Relation.all_get Relation.all_set Relation.arity_get Relation.arity_set Relation.slots_get Relation.slots_set Relation.live_get Relation.live_set Relation.idx_get Relation.idx_set Slot.length_enc Slot.ok_enc Slot.all_get Slot.all_set Slot.t_get Slot.t_set Slot.mark_get Slot.mark_set Slot.live_get Slot.live_set RelView.length_enc RelView.ok_enc RelView.all_get RelView.all_set RelView.arity_get RelView.arity_set RelView.rows_get RelView.rows_set RelView.marks_get RelView.marks_set RelView.indexed_get RelView.indexed_set Index.length_enc Index.ok_enc Index.all_get Index.all_set Index.mask_get Index.mask_set Index.heads_get Index.heads_set Index.next_get Index.next_set
attribute [local go_sem] size_put size_ext blk_put free_put blk_alloc free_alloc blk_drew free_drew blk_ext free_ext lookOr_some putOr_some segAt_some cellAt_some storeIn_some put_put put_alloc_new length_arr ok_arr_u8 ok_arr_u32 ok_arr_u64 ok_arr_i64 ok_arr_sl cellsV_agg cellsV_int cellsV_bool cellsV_string cellsV_pointer cellsV_slice cellsV_sl ok_int ok_bool ok_string ok_pointer ok_slice ok_sl toList_arr seg_arr set_arr nth_splice nth_splice0 seg_splice seg_splice0 splice_splice splice_splice0 length_splice_if
attribute [local go_sem ↓] execOp_box
attribute [local go_sem] box_run nth_arr_u8 put_arr_u8 blk_drewN free_drewN put_drewN blk_raw free_raw
attribute [local go_sem] st_len st0 st1 st2 st_set0 st_set1 st_set2
set_option maxRecDepth 20000 in
theorem rel_ok (W : World) (bs : Nat) (na : Option Addr) (nn nc : Nat) (ta : Option Addr) (tn tc : Nat) (gr rn rc : Nat) (hb : blk W bs = some (stE na nn nc ta tn tc (some ⟨gr, 0, none⟩) rn rc)) (Cr : List Value) (hC : blk W gr = some Cr) (n : Nat) (hn : n < rn) (hl : n * 4 + 4 ≤ Cr.length) (ar : Nat) (ha : nth Cr (n * 4) = some (.int .i64 (ar : Int))) (ha4 : ar ≤ 4) (hrn : rn ≤ 192) : Calls Try.prog 58 #[.pointer (some ⟨bs, 0, none⟩), .int .i64 (n : Int)] W fun e W' => e = .returned (.tuple #[.pointer (some ⟨gr, n * 4, none⟩), .int .i64 0]) ∧ W' = W := by
  have n0 : (0 : Int) ≤ (n : Int) := by omega
  have n1 : (n : Int) < (rn : Int) := by omega
  have n2 : ((n : Int)).toNat = n := by omega
  have l1 : n * 4 + 1 ≤ Cr.length := by omega
  have l0 : n * 4 < Cr.length := by omega
  go_enter Try.func58, Try.ntmps58
  go_wp2_with fail
  go_ret2
  exact ⟨rfl, rfl⟩
set_option maxRecDepth 20000 in
theorem rel_bad (W : World) (bs : Nat) (na : Option Addr) (nn nc : Nat) (ta : Option Addr) (tn tc : Nat) (ra : Option Addr) (rn rc : Nat) (hb : blk W bs = some (stE na nn nc ta tn tc ra rn rc)) (id : Int) (hid : ¬ (0 ≤ id ∧ id < (rn : Int))) : Calls Try.prog 58 #[.pointer (some ⟨bs, 0, none⟩), .int .i64 id] W fun e W' => e = .returned (.tuple #[.pointer none, .int .i64 7]) ∧ W' = W := by
  by_cases h0 : id < 0
  · clear hid
    go_enter Try.func58, Try.ntmps58
    go_wp2_with fail
    go_ret2
    exact ⟨rfl, rfl⟩
  · have h1 : (rn : Int) ≤ id := by omega
    clear hid
    go_enter Try.func58, Try.ntmps58
    go_wp2_with fail
    go_ret2
    exact ⟨rfl, rfl⟩
/-- The code that the check of a row gives. -/
def KnowsAll (nn ar : Nat) (t : Tup) : Prop := ∀ c, c < ar → knowsF nn (tg t c) = true
instance (nn ar : Nat) (t : Tup) : Decidable (KnowsAll nn ar t) := by unfold KnowsAll; infer_instance
def ZerosPast (ar : Nat) (t : Tup) : Prop := ∀ c, c < 4 → ar ≤ c → tg t c = 0
instance (ar : Nat) (t : Tup) : Decidable (ZerosPast ar t) := by unfold ZerosPast; infer_instance
def rowC (nn ar : Nat) (t : Tup) : Int := if KnowsAll nn ar t then (if ZerosPast ar t then 0 else 8) else 10
def rowV (gr n : Nat) (c : Int) : Value := .tuple #[.pointer (if c = 0 then some ⟨gr, n * 4, none⟩ else none), .int .i64 c]
def rwI (W0 : World) (bs b5 gr n ar nn : Nat) (t : Tup) (f : Nat → Value) (W : World) : Prop := f 0 = .pointer (some ⟨bs, 0, none⟩) ∧ f 5 = .pointer (some ⟨b5, 0, none⟩) ∧ f 8 = .pointer (some ⟨gr, n * 4, none⟩) ∧ Hid (∃ k, W = W0.drewN k) ∧ ∃ c : Nat, c ≤ ar ∧ f 10 = .int .i64 (c : Nat) ∧ Hid (∀ c', c' < c → knowsF nn (tg t c') = true)
def rwJ (W0 : World) (b5 gr n ar : Nat) (t : Tup) (f : Nat → Value) (W : World) : Prop := f 5 = .pointer (some ⟨b5, 0, none⟩) ∧ f 8 = .pointer (some ⟨gr, n * 4, none⟩) ∧ W = W0 ∧ ∃ c : Nat, ar ≤ c ∧ c ≤ 4 ∧ f 11 = .int .i64 (c : Nat) ∧ Hid (∀ c', ar ≤ c' → c' < c → tg t c' = 0)
set_option maxRecDepth 100000 in
theorem frame50 (f : Nat → Value) : frameN 50 f = #[f 0, f 1, f 2, f 3, f 4, f 5, f 6, f 7, f 8, f 9, f 10, f 11, f 12, f 13, f 14, f 15, f 16, f 17, f 18, f 19, f 20, f 21, f 22, f 23, f 24, f 25, f 26, f 27, f 28, f 29, f 30, f 31, f 32, f 33, f 34, f 35, f 36, f 37, f 38, f 39, f 40, f 41, f 42, f 43, f 44, f 45, f 46, f 47, f 48, f 49] := by kernel_rfl
set_option maxRecDepth 20000 in
set_option maxHeartbeats 2000000 in
theorem row_ok (W : World) (bs : Nat) (na : Option Addr) (nn nc : Nat) (ta : Option Addr) (tn tc : Nat) (gr rn rc : Nat) (hb : blk W bs = some (stE na nn nc ta tn tc (some ⟨gr, 0, none⟩) rn rc)) (Cr : List Value) (hC : blk W gr = some Cr) (n : Nat) (hn : n < rn) (hl : n * 4 + 4 ≤ Cr.length) (ar : Nat) (ha : nth Cr (n * 4) = some (.int .i64 (ar : Int))) (ha4 : ar ≤ 4) (hrn : rn ≤ 192) (t : Tup) : Calls Try.prog 61 #[.pointer (some ⟨bs, 0, none⟩), .int .i64 (n : Int), .agg (arr i64v t).toArray] W fun e W' => e = .returned (rowV gr n (rowC nn ar t)) ∧ W.Extends W' := by
  have n0 : (0 : Int) ≤ (n : Int) := by omega
  have n1 : (n : Int) < (rn : Int) := by omega
  have n2 : ((n : Int)).toNat = n := by omega
  have l1 : n * 4 + 1 ≤ Cr.length := by omega
  have l0 : n * 4 < Cr.length := by omega
  obtain ⟨R, hR⟩ : ∃ R, R = rowC nn ar t := ⟨_, rfl⟩
  have HR : Hid (R = rowC nn ar t) := hR
  rw [← hR]
  clear hR
  go_enter Try.func61, Try.ntmps61
  go_upto_region 1 with fail
  have lb := blk_lt hb
  have lC := blk_lt hC
  refine wp_world (fun W0 => blk W0 W.heap.size = some (arr i64v t) ∧ blk W0 bs = some (stE na nn nc ta tn tc (some ⟨gr, 0, none⟩) rn rc) ∧ blk W0 gr = some Cr ∧ Hid (W.Extends W0)) ⟨?_, ?_, ?_, extends_alloc (ext_Ext (Ext.refl _)) _⟩ ?_
  · rw [blk_alloc, if_pos rfl]
  · rw [blk_alloc, if_neg (by omega)]; exact hb
  · rw [blk_alloc, if_neg (by omega)]; exact hC
  rintro W0 ⟨hb5, hb0, hC0, HE⟩
  obtain ⟨b5, e5⟩ : ∃ b5, b5 = W.heap.size := ⟨_, rfl⟩
  rw [← e5] at hb5 ⊢
  clear e5 lb lC hb hC
  go_wp2_with fail
  refine (rel_ok W0 bs na nn nc ta tn tc gr rn rc hb0 Cr hC0 n hn hl ar ha ha4 hrn).mono ?_
  rintro e W1 ⟨rfl, rfl⟩
  dsimp only
  go_wp2_with fail
  refine wp_loop_f 50 (rwI W1 bs b5 gr n ar nn t) (fun f _ => ar - (intOf (f 10)).toNat) rfl ⟨rfl, rfl, rfl, ⟨0, rfl⟩, 0, by omega, rfl, fun c' h => absurd h (Nat.not_lt_zero _)⟩ ?_
  intro F V hrel
  obtain ⟨f0, f5, f8, HK, c, hc, f10, HH⟩ := hrel
  have H10 : Hid (F 10 = .int .i64 (c : Nat)) := f10
  obtain ⟨kw, rfl⟩ := HK.out
  rw [frame50, f0, f5, f8, f10]
  clear f0 f5 f8 f10
  have hbk : blk (W1.drewN kw) bs = some (stE na nn nc ta tn tc (some ⟨gr, 0, none⟩) rn rc) := hb0
  have hCk : blk (W1.drewN kw) gr = some Cr := hC0
  have h5k : blk (W1.drewN kw) b5 = some (arr i64v t) := hb5
  by_cases hca : c < ar
  · have hca' : (c : Int) < (ar : Int) := by omega
    have c0 : (0 : Int) ≤ (c : Int) := by omega
    have c4 : (c : Int) < 4 := by omega
    have c2 : ((c : Int)).toNat = c := by omega
    have c5 : c < 4 := by omega
    have hnt := nth_t t c c5
    obtain ⟨v, hv⟩ : ∃ v, v = tg t c := ⟨_, rfl⟩
    rw [← hv] at hnt
    have HV : Hid (v = tg t c) := hv
    have hkn := knows_any (W1.drewN kw).drew bs na nn nc ta tn tc _ rn rc hbk v
    clear hv
    by_cases hkv : knowsF nn v = true
    · rw [hkv] at hkn
      have HN : Hid (∀ c', c' < c + 1 → knowsF nn (tg t c') = true) := by
        intro c' h1
        by_cases he : c' = c
        · subst he; rw [← HV.out]; exact hkv
        · exact HH.out c' (by omega)
      clear hkv
      repeat go_step
      refine wp_region_held_drew (S := fun W' => blk W' bs = some (stE na nn nc ta tn tc (some ⟨gr, 0, none⟩) rn rc) ∧ blk W' b5 = some (arr i64v t)) (by kernel_rfl) ⟨hbk, h5k⟩ (fun hHeld => ?_)
      refine wpAnyH_take (i := 0) (oi := ⟨_, _, _, _, _, _⟩) (v := ?_) rfl (by kernel_rfl) (by kernel_rfl) (by kernel_rfl) (fun _ _ _ h => h) (Or.inl ⟨by rfl, ?_⟩) (by assumption) ?_
      rotate_left 1
      · intro W' hSw
        obtain ⟨hS1, hS2⟩ := hSw
        go_simp
        try with_reducible rfl
      try simp only [Act.put, List.setIfInBounds_toArray, List.set_cons_zero, List.set_cons_succ]
      refine wpAnyH_take (i := 1) (oi := ⟨_, _, _, _, _, _⟩) (v := ?_) rfl (by kernel_rfl) (by kernel_rfl) (by kernel_rfl) (fun _ _ _ h => h) (Or.inl ⟨by rfl, ?_⟩) (by assumption) ?_
      rotate_left 1
      · intro W' hSw
        obtain ⟨hS1, hS2⟩ := hSw
        go_simp
        try with_reducible rfl
      try simp only [Act.put, List.setIfInBounds_toArray, List.set_cons_zero, List.set_cons_succ]
      refine wpAnyH_take (i := 2) (oi := ⟨_, _, _, _, _, _⟩) (v := ?_) rfl (by kernel_rfl) (by kernel_rfl) (by kernel_rfl) (fun _ _ _ h => h) (Or.inl ⟨by rfl, ?_⟩) (by assumption) ?_
      rotate_left 1
      · intro W' hSw
        obtain ⟨hS1, hS2⟩ := hSw
        go_simp
        try with_reducible rfl
      try simp only [Act.put, List.setIfInBounds_toArray, List.set_cons_zero, List.set_cons_succ]
      refine wpAnyH_take (i := 3) (oi := ⟨_, _, _, _, _, _⟩) (v := ?_) rfl (by kernel_rfl) (by kernel_rfl) (by kernel_rfl) (fun _ _ _ h => h) (Or.inl ⟨by rfl, ?_⟩) (by assumption) ?_
      rotate_left 1
      · intro W' hSw
        obtain ⟨hS1, hS2⟩ := hSw
        go_simp
        try with_reducible rfl
      try simp only [Act.put, List.setIfInBounds_toArray, List.set_cons_zero, List.set_cons_succ]
      refine wpAnyH_take (i := 4) (oi := ⟨_, _, _, _, _, _⟩) (v := ?_) rfl (by kernel_rfl) (by kernel_rfl) (by kernel_rfl) (fun _ _ _ h => h) (Or.inl ⟨by rfl, ?_⟩) (by assumption) ?_
      rotate_left 1
      · intro W' hSw
        obtain ⟨hS1, hS2⟩ := hSw
        go_simp
        try with_reducible rfl
      try simp only [Act.put, List.setIfInBounds_toArray, List.set_cons_zero, List.set_cons_succ]
      refine wpAnyH_take (i := 5) (oi := ⟨_, _, _, _, _, _⟩) (v := ?_) rfl (by kernel_rfl) (by kernel_rfl) (by kernel_rfl) (fun _ _ _ h => h) (Or.inl ⟨by rfl, ?_⟩) (by assumption) ?_
      rotate_left 1
      · intro W' hSw
        obtain ⟨hS1, hS2⟩ := hSw
        go_simp
        try with_reducible rfl
      try simp only [Act.put, List.setIfInBounds_toArray, List.set_cons_zero, List.set_cons_succ]
      refine wpAnyH_ready (rs := [6]) (by kernel_rfl) (by simp) ?_
      refine AllReadyH.cons (o := ⟨_, _, _, _, _, _⟩) rfl (fun K' hK => ?_) AllReadyH.nil
      go_simp
      refine hkn.mono ?_
      rintro e W2 ⟨rfl, rfl⟩
      dsimp only
      refine hK.out _ _ ⟨hbk, h5k⟩ (fun hHeld => ?_)
      clear hK K'
      try simp only [Act.put, List.setIfInBounds_toArray, List.set_cons_zero, List.set_cons_succ]
      refine wpAnyH_take (i := 7) (oi := ⟨_, _, _, _, _, _⟩) (v := ?_) rfl (by kernel_rfl) (by kernel_rfl) (by kernel_rfl) (fun _ _ _ h => h) (Or.inl ⟨by rfl, ?_⟩) (by assumption) ?_
      rotate_left 1
      · intro W' hSw
        obtain ⟨hS1, hS2⟩ := hSw
        go_simp
        try with_reducible rfl
      try simp only [Act.put, List.setIfInBounds_toArray, List.set_cons_zero, List.set_cons_succ]
      refine wpAnyH_done (by kernel_rfl) ?_ _
      go_wp2_with fail
      refine ⟨rfl, rfl, ⟨rfl, rfl, rfl, ⟨kw + 1, rfl⟩, c + 1, by omega, ?_, HN⟩, ?_⟩
      · show Value.int .i64 _ = _
        go_num
      · show ar - (intOf (Value.int .i64 _)).toNat < ar - (intOf (F 10)).toNat
        rw [H10.out]
        simp [intOf]; omega
    · have hkv' : knowsF nn v = false := by simpa using hkv
      rw [hkv'] at hkn
      have hr : R = 10 := by rw [HR.out]; unfold rowC; rw [if_neg (fun h => by have := h c hca; rw [← HV.out, hkv'] at this; cases this)]
      clear hkv hkv' HR
      subst hr
      repeat go_step
      refine wp_region_held_drew (S := fun W' => blk W' bs = some (stE na nn nc ta tn tc (some ⟨gr, 0, none⟩) rn rc) ∧ blk W' b5 = some (arr i64v t)) (by kernel_rfl) ⟨hbk, h5k⟩ (fun hHeld => ?_)
      refine wpAnyH_take (i := 0) (oi := ⟨_, _, _, _, _, _⟩) (v := ?_) rfl (by kernel_rfl) (by kernel_rfl) (by kernel_rfl) (fun _ _ _ h => h) (Or.inl ⟨by rfl, ?_⟩) (by assumption) ?_
      rotate_left 1
      · intro W' hSw
        obtain ⟨hS1, hS2⟩ := hSw
        go_simp
        try with_reducible rfl
      try simp only [Act.put, List.setIfInBounds_toArray, List.set_cons_zero, List.set_cons_succ]
      refine wpAnyH_take (i := 1) (oi := ⟨_, _, _, _, _, _⟩) (v := ?_) rfl (by kernel_rfl) (by kernel_rfl) (by kernel_rfl) (fun _ _ _ h => h) (Or.inl ⟨by rfl, ?_⟩) (by assumption) ?_
      rotate_left 1
      · intro W' hSw
        obtain ⟨hS1, hS2⟩ := hSw
        go_simp
        try with_reducible rfl
      try simp only [Act.put, List.setIfInBounds_toArray, List.set_cons_zero, List.set_cons_succ]
      refine wpAnyH_take (i := 2) (oi := ⟨_, _, _, _, _, _⟩) (v := ?_) rfl (by kernel_rfl) (by kernel_rfl) (by kernel_rfl) (fun _ _ _ h => h) (Or.inl ⟨by rfl, ?_⟩) (by assumption) ?_
      rotate_left 1
      · intro W' hSw
        obtain ⟨hS1, hS2⟩ := hSw
        go_simp
        try with_reducible rfl
      try simp only [Act.put, List.setIfInBounds_toArray, List.set_cons_zero, List.set_cons_succ]
      refine wpAnyH_take (i := 3) (oi := ⟨_, _, _, _, _, _⟩) (v := ?_) rfl (by kernel_rfl) (by kernel_rfl) (by kernel_rfl) (fun _ _ _ h => h) (Or.inl ⟨by rfl, ?_⟩) (by assumption) ?_
      rotate_left 1
      · intro W' hSw
        obtain ⟨hS1, hS2⟩ := hSw
        go_simp
        try with_reducible rfl
      try simp only [Act.put, List.setIfInBounds_toArray, List.set_cons_zero, List.set_cons_succ]
      refine wpAnyH_take (i := 4) (oi := ⟨_, _, _, _, _, _⟩) (v := ?_) rfl (by kernel_rfl) (by kernel_rfl) (by kernel_rfl) (fun _ _ _ h => h) (Or.inl ⟨by rfl, ?_⟩) (by assumption) ?_
      rotate_left 1
      · intro W' hSw
        obtain ⟨hS1, hS2⟩ := hSw
        go_simp
        try with_reducible rfl
      try simp only [Act.put, List.setIfInBounds_toArray, List.set_cons_zero, List.set_cons_succ]
      refine wpAnyH_take (i := 5) (oi := ⟨_, _, _, _, _, _⟩) (v := ?_) rfl (by kernel_rfl) (by kernel_rfl) (by kernel_rfl) (fun _ _ _ h => h) (Or.inl ⟨by rfl, ?_⟩) (by assumption) ?_
      rotate_left 1
      · intro W' hSw
        obtain ⟨hS1, hS2⟩ := hSw
        go_simp
        try with_reducible rfl
      try simp only [Act.put, List.setIfInBounds_toArray, List.set_cons_zero, List.set_cons_succ]
      refine wpAnyH_ready (rs := [6]) (by kernel_rfl) (by simp) ?_
      refine AllReadyH.cons (o := ⟨_, _, _, _, _, _⟩) rfl (fun K' hK => ?_) AllReadyH.nil
      go_simp
      refine hkn.mono ?_
      rintro e W2 ⟨rfl, rfl⟩
      dsimp only
      refine hK.out _ _ ⟨hbk, h5k⟩ (fun hHeld => ?_)
      clear hK K'
      try simp only [Act.put, List.setIfInBounds_toArray, List.set_cons_zero, List.set_cons_succ]
      refine wpAnyH_take (i := 7) (oi := ⟨_, _, _, _, _, _⟩) (v := ?_) rfl (by kernel_rfl) (by kernel_rfl) (by kernel_rfl) (fun _ _ _ h => h) (Or.inl ⟨by rfl, ?_⟩) (by assumption) ?_
      rotate_left 1
      · intro W' hSw
        obtain ⟨hS1, hS2⟩ := hSw
        go_simp
        try with_reducible rfl
      try simp only [Act.put, List.setIfInBounds_toArray, List.set_cons_zero, List.set_cons_succ]
      refine wpAnyH_done (by kernel_rfl) ?_ _
      go_wp2_with fail
      go_ret2
      exact ⟨rfl, extends_drewN HE.out (kw + 1)⟩
  · obtain rfl : c = ar := by omega
    have hca' : ¬ (c : Int) < (c : Int) := by omega
    have hno : Hid (KnowsAll nn c t) := HH.out
    go_wp2_with fail
    refine wp_loop_f 50 (rwJ (W1.drewN kw) b5 gr n c t) (fun f _ => 4 - (intOf (f 11)).toNat) rfl ⟨rfl, rfl, rfl, c, Nat.le_refl _, by omega, rfl, fun c' h1 h2 => absurd h2 (by omega)⟩ ?_
    intro F2 V hrel
    obtain ⟨f5, f8, rfl, d, hcd, hd4, f11, HJ⟩ := hrel
    have H11 : Hid (F2 11 = .int .i64 (d : Nat)) := f11
    rw [frame50, f5, f8, f11]
    clear f5 f8 f11
    by_cases hd : d < 4
    · have d0 : (0 : Int) ≤ (d : Int) := by omega
      have d4 : (d : Int) < 4 := by omega
      have d2 : ((d : Int)).toNat = d := by omega
      have hnt := nth_t t d hd
      obtain ⟨v, hv⟩ : ∃ v, v = tg t d := ⟨_, rfl⟩
      rw [← hv] at hnt
      have HV : Hid (v = tg t d) := hv
      clear hv
      by_cases hv0 : v = 0
      · subst hv0
        have HN : Hid (∀ c', c ≤ c' → c' < d + 1 → tg t c' = 0) := by
          intro c' h0 h1
          by_cases he : c' = d
          · subst he; exact HV.out.symm
          · exact HJ.out c' h0 (by omega)
        go_wp2_with fail
        refine ⟨rfl, rfl, ⟨rfl, rfl, rfl, d + 1, by omega, by omega, ?_, HN⟩, ?_⟩
        · show Value.int .i64 _ = _
          go_num
        · show 4 - (intOf (Value.int .i64 _)).toNat < 4 - (intOf (F2 11)).toNat
          rw [H11.out]
          simp [intOf]; omega
      · have hvb : (v == 0) = false := by simp [hv0]
        have hvn : (v != 0) = true := by simp [hv0]
        have hr : R = 8 := by rw [HR.out]; unfold rowC; rw [if_pos hno.out, if_neg (fun h => hv0 (HV.out.trans (h d hd hcd)))]
        clear HR
        subst hr
        go_wp2_with fail
        go_ret2
        exact ⟨rfl, extends_drewN HE.out kw⟩
    · obtain rfl : d = 4 := by omega
      have hr : R = 0 := by rw [HR.out]; unfold rowC; rw [if_pos hno.out, if_pos (show ZerosPast c t from fun c' h1 h2 => HJ.out c' h2 h1)]
      clear HR
      subst hr
      go_wp2_with fail
      go_ret2
      exact ⟨rfl, extends_drewN HE.out kw⟩
set_option maxRecDepth 20000 in
theorem row_bad (W : World) (bs : Nat) (na : Option Addr) (nn nc : Nat) (ta : Option Addr) (tn tc : Nat) (ra : Option Addr) (rn rc : Nat) (hb : blk W bs = some (stE na nn nc ta tn tc ra rn rc)) (id : Int) (hid : ¬ (0 ≤ id ∧ id < (rn : Int))) (t : Tup) : Calls Try.prog 61 #[.pointer (some ⟨bs, 0, none⟩), .int .i64 id, .agg (arr i64v t).toArray] W fun e W' => e = .returned (.tuple #[.pointer none, .int .i64 7]) ∧ W.Extends W' := by
  go_enter Try.func61, Try.ntmps61
  go_upto_region 1 with fail
  have lb := blk_lt hb
  refine wp_world (fun W0 => blk W0 bs = some (stE na nn nc ta tn tc ra rn rc) ∧ Hid (W.Extends W0)) ⟨?_, extends_alloc (ext_Ext (Ext.refl _)) _⟩ ?_
  · rw [blk_alloc, if_neg (by omega)]; exact hb
  rintro W0 ⟨hb0, HE⟩
  clear lb hb
  go_wp2_with fail
  refine (rel_bad W0 bs na nn nc ta tn tc ra rn rc hb0 id hid).mono ?_
  rintro e W1 ⟨rfl, rfl⟩
  dsimp only
  go_wp2_with fail
  go_ret2
  exact ⟨rfl, HE.out⟩
/-- The code that the check of a mask gives. -/
def colC (ar : Nat) (m : Int) : Int := if 0 ≤ m ∧ m < ((2 ^ ar : Nat) : Int) then 0 else 9
theorem andNot_zero (n a : Nat) (ha : a ≤ 4) (hn : n < 9223372036854775808) : bits .andNot .i64 (n : Int) ((2 ^ a - 1 : Nat) : Int) = 0 ↔ n < 2 ^ a := by
  constructor
  · intro h
    obtain ⟨x, hx⟩ : ∃ x, x = BitVec.ofInt 64 (n : Int) := ⟨_, rfl⟩
    obtain ⟨k, hk⟩ : ∃ k, k = BitVec.ofInt 64 ((2 ^ a - 1 : Nat) : Int) := ⟨_, rfl⟩
    have h2 : IntKind.i64.wrap ((x &&& ~~~k).toNat : Int) = 0 := by rw [hx, hk]; exact h
    have hlt := (x &&& ~~~k).isLt
    rw [IntKind.wrap_i64] at h2
    have h3 : (x &&& ~~~k).toNat = 0 := by omega
    have h4 : x &&& ~~~k = 0#64 := BitVec.eq_of_toNat_eq (by rw [h3]; rfl)
    have h5 : x &&& k = x := by
      apply BitVec.eq_of_getLsbD_eq
      intro i hi
      have := congrArg (fun v => v.getLsbD i) h4
      simp [hi] at this ⊢
      exact this
    have h6 := congrArg BitVec.toNat h5
    rw [BitVec.toNat_and] at h6
    have h7 : x.toNat = n := by rw [hx]; simp; omega
    have hp : 2 ^ a ≤ 16 := Nat.pow_le_pow_right (n := 2) (by decide) ha
    have hp1 : 0 < 2 ^ a := Nat.two_pow_pos a
    have h8 : k.toNat = 2 ^ a - 1 := by rw [hk, BitVec.ofInt_natCast, BitVec.toNat_ofNat]; exact Nat.mod_eq_of_lt (by omega)
    have h9 := @Nat.and_le_right x.toNat k.toNat
    omega
  · intro h
    have h1 : ∀ a : Nat, a < 5 → ∀ n : Nat, n < 16 → n < 2 ^ a → bits .andNot .i64 (n : Int) ((2 ^ a - 1 : Nat) : Int) = 0 := by decide +kernel
    exact h1 a (by omega) n (Nat.lt_of_lt_of_le h (Nat.pow_le_pow_right (n := 2) (by decide) ha)) h
set_option maxRecDepth 20000 in
set_option maxHeartbeats 1000000 in
theorem cols_ok (W : World) (bs : Nat) (na : Option Addr) (nn nc : Nat) (ta : Option Addr) (tn tc : Nat) (gr rn rc : Nat) (hb : blk W bs = some (stE na nn nc ta tn tc (some ⟨gr, 0, none⟩) rn rc)) (Cr : List Value) (hC : blk W gr = some Cr) (n : Nat) (hn : n < rn) (hl : n * 4 + 4 ≤ Cr.length) (ar : Nat) (ha : nth Cr (n * 4) = some (.int .i64 (ar : Int))) (ha4 : ar ≤ 4) (hrn : rn ≤ 192) (m : Int) (hm : m ≤ 9223372036854775807) : Calls Try.prog 63 #[.pointer (some ⟨bs, 0, none⟩), .int .i64 (n : Int), .int .i64 m] W fun e W' => e = .returned (rowV gr n (colC ar m)) ∧ W' = W := by
  have n0 : (0 : Int) ≤ (n : Int) := by omega
  have n1 : (n : Int) < (rn : Int) := by omega
  have n2 : ((n : Int)).toNat = n := by omega
  have l1 : n * 4 + 1 ≤ Cr.length := by omega
  have l0 : n * 4 < Cr.length := by omega
  have hro := rel_ok W bs na nn nc ta tn tc gr rn rc hb Cr hC n hn hl ar ha ha4 hrn
  by_cases h0 : 0 ≤ m
  · obtain ⟨k, rfl⟩ : ∃ k : Nat, m = (k : Int) := ⟨m.toNat, by omega⟩
    have hz := andNot_zero k ar ha4 (by omega)
    obtain ⟨z, hz'⟩ : ∃ z, z = bits .andNot .i64 (k : Int) ((2 ^ ar - 1 : Nat) : Int) := ⟨_, rfl⟩
    have hfm := fun W => fullMask_any W ar ha4
    obtain ⟨fm, hfm'⟩ : ∃ fm, fm = ((2 ^ ar - 1 : Nat) : Int) := ⟨_, rfl⟩
    rw [← hfm'] at hz' hfm
    by_cases hk : k < 2 ^ ar
    · have e : colC ar (k : Int) = 0 := by unfold colC; rw [if_pos ⟨by omega, by omega⟩]
      have hz0 := hz.2 hk
      rw [← hfm'] at hz0
      rw [e]
      clear e hz hk hz' hfm'
      go_enter Try.func63, Try.ntmps63
      go_wp2_with fail
      refine hro.mono ?_
      rintro e W1 ⟨rfl, rfl⟩
      dsimp only
      go_wp2_with fail
      refine (hfm W1).mono ?_
      rintro e W2 ⟨rfl, rfl⟩
      dsimp only
      go_wp2_with fail
      go_ret2
      exact ⟨rfl, rfl⟩
    · have e : colC ar (k : Int) = 9 := by unfold colC; rw [if_neg (by omega)]
      have hz0 : ¬ z = 0 := fun h => hk (hz.1 (by rw [← hfm', ← hz']; exact h))
      have hzb : (z == 0) = false := by simp [hz0]
      have hzn : (z != 0) = true := by simp [hz0]
      have hz'' := hz'.symm
      rw [e]
      clear e hz hk hz' hfm'
      go_enter Try.func63, Try.ntmps63
      go_wp2_with fail
      refine hro.mono ?_
      rintro e W1 ⟨rfl, rfl⟩
      dsimp only
      go_wp2_with fail
      refine (hfm W1).mono ?_
      rintro e W2 ⟨rfl, rfl⟩
      dsimp only
      go_wp2_with fail
      go_ret2
      exact ⟨rfl, rfl⟩
  · have e : colC ar m = 9 := by unfold colC; rw [if_neg (by omega)]
    have h0' : m < 0 := by omega
    rw [e]
    clear e
    go_enter Try.func63, Try.ntmps63
    go_wp2_with fail
    refine hro.mono ?_
    rintro e W1 ⟨rfl, rfl⟩
    dsimp only
    go_wp2_with fail
    go_ret2
    exact ⟨rfl, rfl⟩
set_option maxRecDepth 20000 in
theorem cols_bad (W : World) (bs : Nat) (na : Option Addr) (nn nc : Nat) (ta : Option Addr) (tn tc : Nat) (ra : Option Addr) (rn rc : Nat) (hb : blk W bs = some (stE na nn nc ta tn tc ra rn rc)) (id : Int) (hid : ¬ (0 ≤ id ∧ id < (rn : Int))) (m : Int) : Calls Try.prog 63 #[.pointer (some ⟨bs, 0, none⟩), .int .i64 id, .int .i64 m] W fun e W' => e = .returned (.tuple #[.pointer none, .int .i64 7]) ∧ W' = W := by
  go_enter Try.func63, Try.ntmps63
  go_wp2_with fail
  refine (rel_bad W bs na nn nc ta tn tc ra rn rc hb id hid).mono ?_
  rintro e W1 ⟨rfl, rfl⟩
  dsimp only
  go_wp2_with fail
  go_ret2
  exact ⟨rfl, rfl⟩
end Go.Proofs.Qxb6500789a
