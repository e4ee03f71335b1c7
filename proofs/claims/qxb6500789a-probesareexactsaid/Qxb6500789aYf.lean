import Derived.Test.Qxb6500789aYe
import Derived.StillTailTactics
import Derived.Deep.QuietTactic
import Derived.BigQuiet
import Derived.Deep.RegionHeld
import Derived.Deep.CutRange
import Derived.Laws.ResultCell
import Derived.Laws.Rows
import Derived.DeepKeys
import Derived.DataBytes
import Derived.Laws.StructEq
import Derived.Laws.AppendOwn
import Derived.Laws.MakeOwn
import Derived.Lib.AppendStr
set_option linter.unusedSimpArgs false
set_option linter.unusedVariables false
namespace Go.Proofs.Qxb6500789a
open Go.RowKit Go.Blk
attribute [local go_sem ↓] execOp_load execOp_store execOp_alloc
attribute [local go_sem] Try.ld29 Try.st29 Try.ld3 Try.st3 Try.ld9 Try.st9 Try.ld30 Try.st30 Try.ld34 Try.st34 Try.ld35 Try.st35 Try.ld36 Try.st36 Try.ld37 Try.st37 Try.ld44 Try.st44 Try.ld45 Try.st45 Try.ld54 Try.st54 Try.ld55 Try.st55 Try.ld74 Try.st74 Try.ld80 Try.st80 Try.ld84 Try.st84 Try.ld106 Try.st106 Try.ld107 Try.st107 Try.ld4 Try.st4 Try.ld121 Try.st121 Try.ld2 Try.st2 Try.ld5 Try.st5 Try.ld12 Try.st12 Try.ld21 Try.st21 Try.ld22 Try.st22 Try.ld24 Try.st24 Try.ld26 Try.st26 Try.ld63 Try.st63 Try.ld71 Try.st71 Try.ld103 Try.st103 Try.ld130 Try.st130 Try.ld133 Try.st133 Try.ld140 Try.st140 Try.ld152 Try.st152 Try.ld39 Try.st39 Try.ld32 Try.st32 Try.ld41 Try.st41 Try.ld47 Try.st47 Try.ld57 Try.st57 Try.ld62 Try.st62 Try.ld76 Try.st76 Try.ld82 Try.st82 Try.ld86 Try.st86 Try.ld109 Try.st109 Try.ld115 Try.st115 Try.ld123 Try.st123 Try.ld135 Try.st135 Try.al39 Try.al32 Try.al41 Try.al47 Try.al57 Try.al62 Try.al76 Try.al82 Try.al86 Try.al109 Try.al115 Try.al123 Try.al135
attribute [local go_sem] Answer.length_enc Answer.ok_enc Answer.all_get Answer.all_set Answer.code_get Answer.code_set Answer.n_get Answer.n_set Answer.name_get Answer.name_set Answer.rows_get Answer.rows_set GOp.length_enc GOp.ok_enc GOp.all_get GOp.all_set GOp.kind_get GOp.kind_set GOp.rel_get GOp.rel_set GOp.mask_get GOp.mask_set GOp.t_get GOp.t_set GOp.n_get GOp.n_set GOp.name_get GOp.name_set Store.length_enc Store.ok_enc Store.all_get Store.all_set Store.names_get Store.names_set Store.rels_get Store.rels_set GRel.length_enc GRel.ok_enc GRel.all_get GRel.all_set GRel.arity_get GRel.arity_set GRel.masks_get GRel.masks_set GRel.rows_get GRel.rows_set Row.length_enc Row.ok_enc Row.all_get Row.all_set Row.t_get Row.t_set Row.mark_get Row.mark_set View.length_enc View.ok_enc View.all_get View.all_set View.names_get View.names_set View.rels_get View.rels_set Symtab.length_enc Symtab.ok_enc Symtab.all_get Symtab.all_set Symtab.names_get Symtab.names_set Symtab.table_get Symtab.table_set StoreTuplestore.length_enc StoreTuplestore.ok_enc StoreTuplestore.all_get StoreTuplestore.all_set StoreTuplestore.syms_get StoreTuplestore.syms_set StoreTuplestore.rels_get StoreTuplestore.rels_set StoreTuplestore.syms_names_get StoreTuplestore.syms_names_set StoreTuplestore.syms_table_get StoreTuplestore.syms_table_set Relation.length_enc Relation.ok_enc Relation.all_get Relation.all_set Relation.arity_get Relation.arity_set Relation.slots_get Relation.slots_set Relation.live_get Relation.live_set Relation.idx_get Relation.idx_set Slot.length_enc Slot.ok_enc Slot.all_get Slot.all_set Slot.t_get Slot.t_set Slot.mark_get Slot.mark_set Slot.live_get Slot.live_set RelView.length_enc RelView.ok_enc RelView.all_get RelView.all_set RelView.arity_get RelView.arity_set RelView.rows_get RelView.rows_set RelView.marks_get RelView.marks_set RelView.indexed_get RelView.indexed_set Index.length_enc Index.ok_enc Index.all_get Index.all_set Index.mask_get Index.mask_set Index.heads_get Index.heads_set Index.next_get Index.next_set
attribute [local go_sem] size_put size_ext blk_put free_put blk_alloc free_alloc blk_drew free_drew blk_ext free_ext lookOr_some putOr_some segAt_some cellAt_some storeIn_some put_put put_alloc_new length_arr ok_arr_u8 ok_arr_u32 ok_arr_u64 ok_arr_i64 ok_arr_sl cellsV_agg cellsV_int cellsV_bool cellsV_string cellsV_pointer cellsV_slice cellsV_sl ok_int ok_bool ok_string ok_pointer ok_slice ok_sl toList_arr seg_arr set_arr nth_splice nth_splice0 seg_splice seg_splice0 splice_splice splice_splice0 length_splice_if
attribute [local go_sem ↓] execOp_box
attribute [local go_sem] box_run nth_arr_u8 put_arr_u8 blk_drewN free_drewN put_drewN blk_raw free_raw
theorem bslice84_lit (w : World) (a b c d : Value) : (bsliceOp 84 1 #[(0, .agg #[a, b, c, d])]).run Try.prog w = .ok (.value (.slice (some ⟨w.heap.size, 0, none⟩) 1 1)) (w.alloc (.cells #[a, b, c, d] 109)) := by kernel_rfl
theorem bslice84 (w : World) (ar : Int) (sa : Option Addr) (sn sc : Nat) (lv : Int) (ia : Option Addr) (iN ic : Nat) : (bsliceOp 84 1 #[(0, .agg (relE ar sa sn sc lv ia iN ic).toArray)]).run Try.prog w = .ok (.value (.slice (some ⟨w.heap.size, 0, none⟩) 1 1)) (w.alloc (.cells (relE ar sa sn sc lv ia iN ic).toArray 109)) := bslice84_lit w _ _ _ _
def newRel (ar : Nat) : RelS := ⟨ar, [], [2 ^ ar - 1]⟩
theorem hid_of {p : Prop} (h : p) : Hid p := h
def StOut (B : Nat) (O : Own) (W : World) (bs : Nat) (st' : StS) (W' : World) : Prop := ∃ O', FrS O W O' W' ∧ StAt B O' W' bs st'
theorem rels_isRel {i : Nat} : ¬ isRel i .rels := not_rels i
theorem define_step {B : Nat} {O : Own} {W : World} {bs : Nat} {st : StS} (hS : StAt B O W bs st) (hlt : st.rels.length < 192) {ar : Nat} (har : ar ≤ 4) :
    ∃ na nn nc ta tn tc ra rn rc, blk W bs = some (stE na nn nc ta tn tc ra rn rc) ∧ free W bs = true ∧ rn = st.rels.length ∧ B ≤ W.heap.size ∧
      ∀ O1 W1 ia ic k, Fr (isRel rn) O W.drew O1 W1 → RelIn B O1 W1 rn none 0 0 ia 1 ic [] [k] → k.m = 2 ^ ar - 1 → SzB k 0 →
        blk W1 bs = some (stE na nn nc ta tn tc ra rn rc) ∧ free W1 bs = true ∧ ∃ ra' rc' W2, (Builtin.append_ #[84, 84] 84 #[.slice ra rn rc, .slice (some ⟨W1.heap.size, 0, none⟩) 1 1]).run Try.prog (W1.alloc (.cells (relE (ar : Int) none 0 0 0 ia 1 ic).toArray 109)) = .ok (.slice ra' (rn + 1) rc') W2 ∧ blk W2 bs = some (stE na nn nc ta tn tc ra rn rc) ∧ free W2 bs = true ∧ StOut B O W bs ⟨st.names, st.rels ++ [newRel ar]⟩ (put W2 bs (stE na nn nc ta tn tc ra' (rn + 1) rc')) := by
  obtain ⟨ra, rn, rc, R, ⟨T, na, nn, nc, ta, tn, tc, hsy, hni⟩, h2, h3, h4, h5, h6⟩ := hS
  obtain ⟨hb, hf, hob, hN, hT, hBb⟩ := hsy
  have hRn : R.length = rn := (h2.rw RelD.len).1.1
  have lb := blk_lt hb
  refine ⟨na, nn, nc, ta, tn, tc, ra, rn, rc, hb, hf, by omega, h5, fun O1 W1 ia ic k hF1 hI1 hkm hkz => ?_⟩
  have hFa : Fr (isRel rn) O W O1 W1 := ⟨hF1.os, hF1.tape, hF1.output, hF1.size, hF1.keep, hF1.block⟩
  have hns : ¬ isRel rn .st := by rintro (e | e | ⟨j, e⟩ | ⟨j, e⟩) <;> cases e
  have hnn : ¬ isRel rn .names := by rintro (e | e | ⟨j, e⟩ | ⟨j, e⟩) <;> cases e
  have hnt : ¬ isRel rn .table := by rintro (e | e | ⟨j, e⟩ | ⟨j, e⟩) <;> cases e
  have hb1 : blk W1 bs = some (stE na nn nc ta tn tc ra rn rc) := hFa.blk hb (by rw [hob]; exact hns)
  have hf1 : free W1 bs = true := hFa.free hb hf (by rw [hob]; exact hns)
  have hob1 : O1 bs = .st := (hFa.keep bs lb).trans hob
  have hrow1 := h2.fr hFa (not_rels rn)
  obtain ⟨ra', rc', W2, hrun, hrow2, hfr2⟩ := appL RelD.enc 4 64 84 109 Try.underlying84 info109 RelD.len RelD.one (by omega) (by omega) (W := W1) 84 (⟨(ar : Int), none, 0, 0, 0, ia, 1, ic⟩ : RelD) hrow1 (Nat.le_trans h5 hFa.size) (by omega) (relE (ar : Int) none 0 0 0 ia 1 ic).toArray rfl 1
  obtain ⟨O2, hO2⟩ : ∃ O2, O2 = lab O1 W1.heap.size .rels := ⟨_, rfl⟩
  rw [← hO2] at hrow2 hfr2
  have hb2 : blk W2 bs = some (stE na nn nc ta tn tc ra rn rc) := hfr2.blk hb1 (by rw [hob1]; intro e; cases e)
  have hf2 : free W2 bs = true := hfr2.free hb1 hf1 (by rw [hob1]; intro e; cases e)
  have hob2 : O2 bs = .st := (hfr2.keep bs (blk_lt hb1)).trans hob1
  refine ⟨hb1, hf1, ra', rc', W2, hrun, hb2, hf2, ?_⟩
  obtain ⟨E, hE⟩ : ∃ E, E = stE na nn nc ta tn tc ra' (rn + 1) rc' := ⟨_, rfl⟩
  rw [← hE]
  have hF3 : Fr (fun l => l = .st) O2 W2 O2 (put W2 bs E) := Fr.put (Fr.refl _ _ _) (by rw [hob2]) _
  have hF03 : Fr isSt O W O2 (put W2 bs E) := ((hFa.mono (fun l hl => isSt_relR (i := rn) (.inr hl))).trans (hfr2.mono (fun l hl => by rw [hl]; exact ⟨(by intro e; cases e), (fun n e => by cases e)⟩))).trans (hF3.mono (fun l hl => by rw [hl]; exact ⟨(by intro e; cases e), (fun n e => by cases e)⟩))
  refine ⟨O2, hF03.toS (fun _ h => h), ra', rn + 1, rc', R ++ [⟨(ar : Int), none, 0, 0, 0, ia, 1, ic⟩], ⟨T, na, nn, nc, ta, tn, tc, ⟨?_, ?_, hob2, ?_, ?_, hBb⟩, hni⟩, ?_, ?_, ?_, Nat.le_trans h5 hF03.size, ?_⟩
  · rw [blk_put, if_pos rfl, hb2, hE]; rfl
  · rw [free_put]; exact hf2
  · exact ((hN.fr hFa hnn).fr hfr2 (by intro e; cases e)).fr hF3 (by intro e; cases e)
  · exact ((hT.fr hFa hnt).fr hfr2 (by intro e; cases e)).fr hF3 (by intro e; cases e)
  · exact hrow2.fr hF3 (by intro e; cases e)
  · simp only [List.length_append, List.length_singleton]; omega
  · simp only [List.length_append, List.length_singleton]; omega
  · intro j d s hd hs
    have keep : ∀ {j : Nat} {d : RelD} {s : RelS}, RelOk B O1 W1 j d s → RelOk B O2 (put W2 bs E) j d s := fun h => (h.fr hfr2 (by rintro l (rfl | rfl | ⟨j', rfl⟩ | ⟨j', rfl⟩) e <;> cases e)).fr hF3 (by rintro l (rfl | rfl | ⟨j', rfl⟩ | ⟨j', rfl⟩) e <;> cases e)
    by_cases hj : j < rn
    · rw [List.getElem?_append_left (by omega)] at hd hs
      refine keep ((h6 j d s hd hs).fr hFa ?_)
      rintro l (rfl | rfl | ⟨j', rfl⟩ | ⟨j', rfl⟩) (e | e | ⟨j2, e⟩ | ⟨j2, e⟩) <;> first | (cases e; omega) | cases e
    · have hjl : j < (R ++ [(⟨(ar : Int), none, 0, 0, 0, ia, 1, ic⟩ : RelD)]).length := (List.getElem?_eq_some_iff.1 hd).1
      simp only [List.length_append, List.length_singleton] at hjl
      obtain rfl : j = rn := by omega
      rw [List.getElem?_append_right (by omega), show j - R.length = 0 by omega] at hd
      rw [List.getElem?_append_right (by omega), show j - st.rels.length = 0 by omega] at hs
      have hd' := (Option.some.inj hd).symm
      have hs' := (Option.some.inj hs).symm
      subst hd' hs'
      refine keep ⟨rfl, rfl, [k], hI1, by rw [List.map_singleton, hkm]; rfl, ⟨har, List.nodup_nil, Nat.zero_le _, ⟨k, rfl, hkm, Nat.zero_le _⟩, ?_, by simp, ?_⟩⟩
      · intro k' hk'
        rw [List.mem_singleton.1 hk']; exact szB_le hkz (Nat.zero_le _)
      · intro k' hk'
        have : 0 < 2 ^ ar := Nat.two_pow_pos ar
        rw [List.mem_singleton.1 hk', hkm]; show 2 ^ ar - 1 < 2 ^ ar; omega
def defF (st : StS) (a : Int) : Int × Int × StS := if 0 ≤ a ∧ a ≤ 4 then (if 192 ≤ st.rels.length then (-1, 5, st) else ((st.rels.length : Int), 0, ⟨st.names, st.rels ++ [newRel a.toNat]⟩)) else (-1, 8, st)
def DefPost (B : Nat) (O : Own) (W : World) (bs : Nat) (q : Int × Int × StS) (e : Ending) (W' : World) : Prop := e = .returned (.tuple #[.int .i64 q.1, .int .i64 q.2.1]) ∧ StOut B O W bs q.2.2 W'
theorem stout_same {B : Nat} {O : Own} {W W' : World} {bs : Nat} {st : StS} (hS : StAt B O W bs st) (he : W.Extends W') : StOut B O W bs st W' := ⟨O, FrS.of_extends he, hS.ext he⟩
attribute [local go_sem] st_len st0 st1 st2 st_set0 st_set1 st_set2 bslice84
attribute [local go_sem ↓] execOp_bslice
set_option maxRecDepth 20000 in
set_option maxHeartbeats 2000000 in
theorem defineS_any (B : Nat) (O : Own) (W : World) (bs : Nat) (st : StS) (hS : StAt B O W bs st) (a : Int) :
    Calls Try.prog 37 #[.pointer (some ⟨bs, 0, none⟩), .int .i64 a] W (DefPost B O W bs (defF st a)) := by
  obtain ⟨Q, hQ⟩ : ∃ Q, Q = DefPost B O W bs (defF st a) := ⟨_, rfl⟩
  rw [← hQ]
  by_cases ha : 0 ≤ a ∧ a ≤ 4
  rotate_left 1
  · have HP : Hid (Q (.returned (.tuple #[.int .i64 (-1), .int .i64 8])) W) := by
      show Q _ _
      rw [hQ]; unfold defF; rw [if_neg ha]
      exact ⟨rfl, stout_same hS (ext_Ext (Ext.refl _))⟩
    by_cases h0 : a < 0
    · clear hQ hS ha
      go_enter Try.func37, Try.ntmps37
      go_wp2_with fail
      try go_ret2
      exact HP.out
    · have h4 : (4 : Int) < a := by omega
      clear hQ hS ha
      go_enter Try.func37, Try.ntmps37
      go_wp2_with fail
      try go_ret2
      exact HP.out
  obtain ⟨ar, rfl⟩ : ∃ ar : Nat, a = (ar : Int) := ⟨a.toNat, by omega⟩
  have har : ar ≤ 4 := by omega
  have h0 : ¬ (ar : Int) < 0 := by omega
  have h4 : ¬ (4 : Int) < (ar : Int) := by omega
  by_cases hfull : 192 ≤ st.rels.length
  · have HP : Hid (Q (.returned (.tuple #[.int .i64 (-1), .int .i64 5])) W) := by
      show Q _ _
      rw [hQ]; unfold defF; rw [if_pos ha, if_pos hfull]
      exact ⟨rfl, stout_same hS (ext_Ext (Ext.refl _))⟩
    obtain ⟨na, nn, nc, ta, tn, tc, ra, rn, rc, hb, hrn, _⟩ := stat_bad hS
    have hf' : (192 : Int) ≤ (rn : Int) := by omega
    clear hQ hS ha hrn hfull
    go_enter Try.func37, Try.ntmps37
    go_wp2_with fail
    try go_ret2
    exact HP.out
  obtain ⟨na, nn, nc, ta, tn, tc, ra, rn, rc, hb, hf, hrn, hB, hstep⟩ := define_step hS (by omega) har
  have HST := hid_of hstep
  have hf' : ¬ (192 : Int) ≤ (rn : Int) := by omega
  have HQ : Hid (∀ W', StOut B O W bs ⟨st.names, st.rels ++ [newRel ar]⟩ W' → Q (.returned (.tuple #[.int .i64 (rn : Int), .int .i64 0])) W') := by
    intro W' h
    rw [hQ]; unfold defF; rw [if_pos ha, if_neg hfull]
    exact ⟨by rw [hrn], by rw [Int.toNat_natCast]; exact h⟩
  have wr1 : IntKind.i64.wrap (((rn + 1 : Nat) : Int) - 1) = (rn : Int) := by rw [IntKind.wrap_i64]; omega
  have wr2 : IntKind.i64.wrap ((rn : Int)) = (rn : Int) := by rw [IntKind.wrap_i64]; omega
  clear hQ hS ha hrn hfull hstep
  go_enter Try.func37, Try.ntmps37
  go_upto_region 5 with fail
  refine wp_region_held_drew (S := fun W' => True) (by kernel_rfl) trivial (fun hHeld => ?_)
  refine wpAnyH_take (i := 0) (oi := ⟨_, _, _, _, _, _⟩) (v := ?_) rfl (by kernel_rfl) (by kernel_rfl) (by kernel_rfl) (fun _ _ _ h => h) (Or.inl ⟨by rfl, ?_⟩) (by assumption) ?_
  rotate_left 1
  · intro W' hS1
    go_simp
    try with_reducible rfl
  try simp only [Act.put, List.setIfInBounds_toArray, List.set_cons_zero, List.set_cons_succ]
  refine wpAnyH_take (i := 1) (oi := ⟨_, _, _, _, _, _⟩) (v := ?_) rfl (by kernel_rfl) (by kernel_rfl) (by kernel_rfl) (fun _ _ _ h => h) (Or.inl ⟨by rfl, ?_⟩) (by assumption) ?_
  rotate_left 1
  · intro W' hS1
    go_simp
    try with_reducible rfl
  try simp only [Act.put, List.setIfInBounds_toArray, List.set_cons_zero, List.set_cons_succ]
  refine wpAnyH_take (i := 2) (oi := ⟨_, _, _, _, _, _⟩) (v := ?_) rfl (by kernel_rfl) (by kernel_rfl) (by kernel_rfl) (fun _ _ _ h => h) (Or.inl ⟨by rfl, ?_⟩) (by assumption) ?_
  rotate_left 1
  · intro W' hS1
    go_simp
    try with_reducible rfl
  try simp only [Act.put, List.setIfInBounds_toArray, List.set_cons_zero, List.set_cons_succ]
  refine wpAnyH_take (i := 3) (oi := ⟨_, _, _, _, _, _⟩) (v := ?_) rfl (by kernel_rfl) (by kernel_rfl) (by kernel_rfl) (fun _ _ _ h => h) (Or.inl ⟨by rfl, ?_⟩) (by assumption) ?_
  rotate_left 1
  · intro W' hS1
    go_simp
    try with_reducible rfl
  try simp only [Act.put, List.setIfInBounds_toArray, List.set_cons_zero, List.set_cons_succ]
  refine wpAnyH_take (i := 5) (oi := ⟨_, _, _, _, _, _⟩) (v := ?_) rfl (by kernel_rfl) (by kernel_rfl) (by kernel_rfl) (fun _ _ _ h => h) (Or.inl ⟨by rfl, ?_⟩) (by assumption) ?_
  rotate_left 1
  · intro W' hS1
    go_simp
    try with_reducible rfl
  try simp only [Act.put, List.setIfInBounds_toArray, List.set_cons_zero, List.set_cons_succ]
  refine wpAnyH_ready (rs := [4, 6]) (by kernel_rfl) (by simp) ?_
  refine AllReadyH.cons (o := ⟨_, _, _, _, _, _⟩) rfl (fun K' hK => ?_) (AllReadyH.cons (o := ⟨_, _, _, _, _, _⟩) rfl (fun K' hK => ?_) AllReadyH.nil)
  · go_simp
    refine hK.out _ _ trivial (fun hHeld => ?_)
    clear hK K'
    try simp only [Act.put, List.setIfInBounds_toArray, List.set_cons_zero, List.set_cons_succ]
    refine wpAnyH_ready (rs := [6]) (by kernel_rfl) (by simp) ?_
    refine AllReadyH.cons (o := ⟨_, _, _, _, _, _⟩) rfl (fun K' hK => ?_) AllReadyH.nil
    go_simp
    refine (newRelation_any B O W.drew rn ar har hB).mono ?_
    rintro e W1 ⟨O1, ia, ic, k, rfl, hF1, hI1, hkm, hkz⟩
    obtain ⟨hb1, hf1, ra', rc', W2, hrun, hb2, hf2, hout⟩ := HST.out O1 W1 ia ic k hF1 hI1 hkm hkz
    have HP : Hid (Q (.returned (.tuple #[.int .i64 (rn : Int), .int .i64 0])) (put W2 bs (stE na nn nc ta tn tc ra' (rn + 1) rc'))) := HQ.out _ hout
    have nb1 : ¬ bs = W1.heap.size := Nat.ne_of_lt (blk_lt hb1)
    clear hF1 hI1 hkm hkz hout HST HQ
    dsimp only
    refine hK.out _ _ trivial (fun hHeld => ?_)
    clear hK K'
    try simp only [Act.put, List.setIfInBounds_toArray, List.set_cons_zero, List.set_cons_succ]
    refine wpAnyH_ready (rs := [7]) (by kernel_rfl) (by simp) ?_
    refine AllReadyH.cons (o := ⟨_, _, _, _, _, _⟩) rfl (fun K' hK => ?_) AllReadyH.nil
    go_simp
    refine hK.out _ _ trivial (fun hHeld => ?_)
    clear hK K'
    try simp only [Act.put, List.setIfInBounds_toArray, List.set_cons_zero, List.set_cons_succ]
    refine wpAnyH_ready (rs := [8]) (by kernel_rfl) (by simp) ?_
    refine AllReadyH.cons (o := ⟨_, _, _, _, _, _⟩) rfl (fun K' hK => ?_) AllReadyH.nil
    refine wp_append_run _ _ 84 rfl _ _ _ _ rfl rfl hrun ?_
    refine hK.out _ _ trivial (fun hHeld => ?_)
    clear hK K'
    try simp only [Act.put, List.setIfInBounds_toArray, List.set_cons_zero, List.set_cons_succ]
    refine wpAnyH_take (i := 9) (oi := ⟨_, _, _, _, _, _⟩) (v := ?_) rfl (by kernel_rfl) (by kernel_rfl) (by kernel_rfl) (fun _ _ _ h => h) (Or.inl ⟨by rfl, ?_⟩) (by assumption) ?_
    rotate_left 1
    · intro W' hS1
      go_simp
      try with_reducible rfl
    try simp only [Act.put, List.setIfInBounds_toArray, List.set_cons_zero, List.set_cons_succ]
    refine wpAnyH_take (i := 10) (oi := ⟨_, _, _, _, _, _⟩) (v := ?_) rfl (by kernel_rfl) (by kernel_rfl) (by kernel_rfl) (fun _ _ _ h => h) (Or.inl ⟨by rfl, ?_⟩) (by assumption) ?_
    rotate_left 1
    · intro W' hS1
      go_simp
      try with_reducible rfl
    try simp only [Act.put, List.setIfInBounds_toArray, List.set_cons_zero, List.set_cons_succ]
    refine wpAnyH_ready (rs := [11]) (by kernel_rfl) (by simp) ?_
    refine AllReadyH.cons (o := ⟨_, _, _, _, _, _⟩) rfl (fun K' hK => ?_) AllReadyH.nil
    go_simp
    refine hK.out _ _ trivial (fun hHeld => ?_)
    clear hK K'
    try simp only [Act.put, List.setIfInBounds_toArray, List.set_cons_zero, List.set_cons_succ]
    refine wpAnyH_done (by kernel_rfl) ?_ _
    go_wp2_with fail
    try go_ret2
    exact HP.out
  · go_simp
    refine (newRelation_any B O W.drew rn ar har hB).mono ?_
    rintro e W1 ⟨O1, ia, ic, k, rfl, hF1, hI1, hkm, hkz⟩
    obtain ⟨hb1, hf1, ra', rc', W2, hrun, hb2, hf2, hout⟩ := HST.out O1 W1 ia ic k hF1 hI1 hkm hkz
    have HP : Hid (Q (.returned (.tuple #[.int .i64 (rn : Int), .int .i64 0])) (put W2 bs (stE na nn nc ta tn tc ra' (rn + 1) rc'))) := HQ.out _ hout
    have nb1 : ¬ bs = W1.heap.size := Nat.ne_of_lt (blk_lt hb1)
    clear hF1 hI1 hkm hkz hout HST HQ
    dsimp only
    refine hK.out _ _ trivial (fun hHeld => ?_)
    clear hK K'
    try simp only [Act.put, List.setIfInBounds_toArray, List.set_cons_zero, List.set_cons_succ]
    refine wpAnyH_ready (rs := [4, 7]) (by kernel_rfl) (by simp) ?_
    refine AllReadyH.cons (o := ⟨_, _, _, _, _, _⟩) rfl (fun K' hK => ?_) (AllReadyH.cons (o := ⟨_, _, _, _, _, _⟩) rfl (fun K' hK => ?_) AllReadyH.nil)
    · go_simp
      refine hK.out _ _ trivial (fun hHeld => ?_)
      clear hK K'
      try simp only [Act.put, List.setIfInBounds_toArray, List.set_cons_zero, List.set_cons_succ]
      refine wpAnyH_ready (rs := [7]) (by kernel_rfl) (by simp) ?_
      refine AllReadyH.cons (o := ⟨_, _, _, _, _, _⟩) rfl (fun K' hK => ?_) AllReadyH.nil
      go_simp
      refine hK.out _ _ trivial (fun hHeld => ?_)
      clear hK K'
      try simp only [Act.put, List.setIfInBounds_toArray, List.set_cons_zero, List.set_cons_succ]
      refine wpAnyH_ready (rs := [8]) (by kernel_rfl) (by simp) ?_
      refine AllReadyH.cons (o := ⟨_, _, _, _, _, _⟩) rfl (fun K' hK => ?_) AllReadyH.nil
      refine wp_append_run _ _ 84 rfl _ _ _ _ rfl rfl hrun ?_
      refine hK.out _ _ trivial (fun hHeld => ?_)
      clear hK K'
      try simp only [Act.put, List.setIfInBounds_toArray, List.set_cons_zero, List.set_cons_succ]
      refine wpAnyH_take (i := 9) (oi := ⟨_, _, _, _, _, _⟩) (v := ?_) rfl (by kernel_rfl) (by kernel_rfl) (by kernel_rfl) (fun _ _ _ h => h) (Or.inl ⟨by rfl, ?_⟩) (by assumption) ?_
      rotate_left 1
      · intro W' hS1
        go_simp
        try with_reducible rfl
      try simp only [Act.put, List.setIfInBounds_toArray, List.set_cons_zero, List.set_cons_succ]
      refine wpAnyH_take (i := 10) (oi := ⟨_, _, _, _, _, _⟩) (v := ?_) rfl (by kernel_rfl) (by kernel_rfl) (by kernel_rfl) (fun _ _ _ h => h) (Or.inl ⟨by rfl, ?_⟩) (by assumption) ?_
      rotate_left 1
      · intro W' hS1
        go_simp
        try with_reducible rfl
      try simp only [Act.put, List.setIfInBounds_toArray, List.set_cons_zero, List.set_cons_succ]
      refine wpAnyH_ready (rs := [11]) (by kernel_rfl) (by simp) ?_
      refine AllReadyH.cons (o := ⟨_, _, _, _, _, _⟩) rfl (fun K' hK => ?_) AllReadyH.nil
      go_simp
      refine hK.out _ _ trivial (fun hHeld => ?_)
      clear hK K'
      try simp only [Act.put, List.setIfInBounds_toArray, List.set_cons_zero, List.set_cons_succ]
      refine wpAnyH_done (by kernel_rfl) ?_ _
      go_wp2_with fail
      try go_ret2
      exact HP.out
    · go_simp
      refine hK.out _ _ trivial (fun hHeld => ?_)
      clear hK K'
      try simp only [Act.put, List.setIfInBounds_toArray, List.set_cons_zero, List.set_cons_succ]
      refine wpAnyH_ready (rs := [4]) (by kernel_rfl) (by simp) ?_
      refine AllReadyH.cons (o := ⟨_, _, _, _, _, _⟩) rfl (fun K' hK => ?_) AllReadyH.nil
      go_simp
      refine hK.out _ _ trivial (fun hHeld => ?_)
      clear hK K'
      try simp only [Act.put, List.setIfInBounds_toArray, List.set_cons_zero, List.set_cons_succ]
      refine wpAnyH_ready (rs := [8]) (by kernel_rfl) (by simp) ?_
      refine AllReadyH.cons (o := ⟨_, _, _, _, _, _⟩) rfl (fun K' hK => ?_) AllReadyH.nil
      refine wp_append_run _ _ 84 rfl _ _ _ _ rfl rfl hrun ?_
      refine hK.out _ _ trivial (fun hHeld => ?_)
      clear hK K'
      try simp only [Act.put, List.setIfInBounds_toArray, List.set_cons_zero, List.set_cons_succ]
      refine wpAnyH_take (i := 9) (oi := ⟨_, _, _, _, _, _⟩) (v := ?_) rfl (by kernel_rfl) (by kernel_rfl) (by kernel_rfl) (fun _ _ _ h => h) (Or.inl ⟨by rfl, ?_⟩) (by assumption) ?_
      rotate_left 1
      · intro W' hS1
        go_simp
        try with_reducible rfl
      try simp only [Act.put, List.setIfInBounds_toArray, List.set_cons_zero, List.set_cons_succ]
      refine wpAnyH_take (i := 10) (oi := ⟨_, _, _, _, _, _⟩) (v := ?_) rfl (by kernel_rfl) (by kernel_rfl) (by kernel_rfl) (fun _ _ _ h => h) (Or.inl ⟨by rfl, ?_⟩) (by assumption) ?_
      rotate_left 1
      · intro W' hS1
        go_simp
        try with_reducible rfl
      try simp only [Act.put, List.setIfInBounds_toArray, List.set_cons_zero, List.set_cons_succ]
      refine wpAnyH_ready (rs := [11]) (by kernel_rfl) (by simp) ?_
      refine AllReadyH.cons (o := ⟨_, _, _, _, _, _⟩) rfl (fun K' hK => ?_) AllReadyH.nil
      go_simp
      refine hK.out _ _ trivial (fun hHeld => ?_)
      clear hK K'
      try simp only [Act.put, List.setIfInBounds_toArray, List.set_cons_zero, List.set_cons_succ]
      refine wpAnyH_done (by kernel_rfl) ?_ _
      go_wp2_with fail
      try go_ret2
      exact HP.out
end Go.Proofs.Qxb6500789a
