import Derived.Test.Qxb6500789aYc
import Derived.StillTailTactics
import Derived.Deep.QuietTactic
import Derived.BigQuiet
import Derived.Deep.RegionHeld
import Derived.Deep.CutRange
import Derived.Laws.ResultCell
import Derived.Laws.Rows
import Derived.DeepKeys
import Derived.DataBytes
import Derived.Laws.StructEq
import Derived.Laws.AppendOwn
import Derived.Laws.MakeOwn
import Derived.Lib.AppendStr
set_option linter.unusedSimpArgs false
set_option linter.unusedVariables false
namespace Go.Proofs.Qxb6500789a
open Go.RowKit Go.Blk
attribute [local go_sem ↓] execOp_load execOp_store execOp_alloc
attribute [local go_sem] Try.ld29 Try.st29 Try.ld3 Try.st3 Try.ld9 Try.st9 Try.ld30 Try.st30 Try.ld34 Try.st34 Try.ld35 Try.st35 Try.ld36 Try.st36 Try.ld37 Try.st37 Try.ld44 Try.st44 Try.ld45 Try.st45 Try.ld54 Try.st54 Try.ld55 Try.st55 Try.ld74 Try.st74 Try.ld80 Try.st80 Try.ld84 Try.st84 Try.ld106 Try.st106 Try.ld107 Try.st107 Try.ld4 Try.st4 Try.ld121 Try.st121 Try.ld2 Try.st2 Try.ld5 Try.st5 Try.ld12 Try.st12 Try.ld21 Try.st21 Try.ld22 Try.st22 Try.ld24 Try.st24 Try.ld26 Try.st26 Try.ld63 Try.st63 Try.ld71 Try.st71 Try.ld103 Try.st103 Try.ld130 Try.st130 Try.ld133 Try.st133 Try.ld140 Try.st140 Try.ld152 Try.st152 Try.ld39 Try.st39 Try.ld32 Try.st32 Try.ld41 Try.st41 Try.ld47 Try.st47 Try.ld57 Try.st57 Try.ld62 Try.st62 Try.ld76 Try.st76 Try.ld82 Try.st82 Try.ld86 Try.st86 Try.ld109 Try.st109 Try.ld115 Try.st115 Try.ld123 Try.st123 Try.ld135 Try.st135 Try.al39 Try.al32 Try.al41 Try.al47 Try.al57 Try.al62 Try.al76 Try.al82 Try.al86 Try.al109 Try.al115 Try.al123 Try.al135
attribute [local go_sem] Answer.length_enc Answer.ok_enc Answer.all_get Answer.all_set Answer.code_get Answer.code_set Answer.n_get Answer.n_set Answer.name_get Answer.name_set Answer.rows_get Answer.rows_set GOp.length_enc GOp.ok_enc GOp.all_get GOp.all_set GOp.kind_get GOp.kind_set GOp.rel_get GOp.rel_set GOp.mask_get GOp.mask_set GOp.t_get GOp.t_set GOp.n_get GOp.n_set GOp.name_get GOp.name_set Store.length_enc Store.ok_enc Store.all_get Store.all_set Store.names_get Store.names_set Store.rels_get Store.rels_set GRel.length_enc GRel.ok_enc GRel.all_get GRel.all_set GRel.arity_get GRel.arity_set GRel.masks_get GRel.masks_set GRel.rows_get GRel.rows_set Row.length_enc Row.ok_enc Row.all_get Row.all_set Row.t_get Row.t_set Row.mark_get Row.mark_set View.length_enc View.ok_enc View.all_get View.all_set View.names_get View.names_set View.rels_get View.rels_set Symtab.length_enc Symtab.ok_enc Symtab.all_get Symtab.all_set Symtab.names_get Symtab.names_set Symtab.table_get Symtab.table_set StoreTuplestore.length_enc StoreTuplestore.ok_enc StoreTuplestore.all_get StoreTuplestore.all_set StoreTuplestore.syms_get StoreTuplestore.syms_set StoreTuplestore.rels_get StoreTuplestore.rels_set StoreTuplestore.syms_names_get StoreTuplestore.syms_names_set StoreTuplestore.syms_table_get StoreTuplestore.syms_table_set Relation.length_enc Relation.ok_enc Relation.all_get Relation.all_set Relation.arity_get Relation.arity_set Relation.slots_get Relation.slots_set Relation.live_get Relation.live_set Relation.idx_get Relation.idx_set Slot.length_enc Slot.ok_enc Slot.all_get Slot.all_set Slot.t_get Slot.t_set Slot.mark_get Slot.mark_set Slot.live_get Slot.live_set RelView.length_enc RelView.ok_enc RelView.all_get RelView.all_set RelView.arity_get RelView.arity_set RelView.rows_get RelView.rows_set RelView.marks_get RelView.marks_set RelView.indexed_get RelView.indexed_set Index.length_enc Index.ok_enc Index.all_get Index.all_set Index.mask_get Index.mask_set Index.heads_get Index.heads_set Index.next_get Index.next_set
attribute [local go_sem] size_put size_ext blk_put free_put blk_alloc free_alloc blk_drew free_drew blk_ext free_ext lookOr_some putOr_some segAt_some cellAt_some storeIn_some put_put put_alloc_new length_arr ok_arr_u8 ok_arr_u32 ok_arr_u64 ok_arr_i64 ok_arr_sl cellsV_agg cellsV_int cellsV_bool cellsV_string cellsV_pointer cellsV_slice cellsV_sl ok_int ok_bool ok_string ok_pointer ok_slice ok_sl toList_arr seg_arr set_arr nth_splice nth_splice0 seg_splice seg_splice0 splice_splice splice_splice0 length_splice_if
attribute [local go_sem ↓] execOp_box
attribute [local go_sem] box_run nth_arr_u8 put_arr_u8 blk_drewN free_drewN put_drewN blk_raw free_raw
theorem cols_id {B : Nat} {O : Own} {W : World} {bs : Nat} {st : StS} (hS : StAt B O W bs st) {id m : Int} (hid : ¬ (0 ≤ id ∧ id < (st.rels.length : Int))) : Calls Try.prog 63 #[.pointer (some ⟨bs, 0, none⟩), .int .i64 id, .int .i64 m] W fun e W' => e = .returned (.tuple #[.pointer none, .int .i64 7]) ∧ W' = W := by
  obtain ⟨na, nn, nc, ta, tn, tc, ra, rn, rc, hb, hrn, _⟩ := stat_bad hS
  exact cols_bad W bs na nn nc ta tn tc ra rn rc hb id (by rw [hrn]; exact hid) m
theorem rel_id {B : Nat} {O : Own} {W : World} {bs : Nat} {st : StS} (hS : StAt B O W bs st) {id : Int} (hid : ¬ (0 ≤ id ∧ id < (st.rels.length : Int))) : Calls Try.prog 58 #[.pointer (some ⟨bs, 0, none⟩), .int .i64 id] W fun e W' => e = .returned (.tuple #[.pointer none, .int .i64 7]) ∧ W' = W := by
  obtain ⟨na, nn, nc, ta, tn, tc, ra, rn, rc, hb, hrn, _⟩ := stat_bad hS
  exact rel_bad W bs na nn nc ta tn tc ra rn rc hb id (by rw [hrn]; exact hid)
theorem colC_zero {ar : Nat} {m : Int} (h : colC ar m = 0) : ∃ k : Nat, m = (k : Int) ∧ k < 2 ^ ar := by
  unfold colC at h
  split at h
  · rename_i h1; exact ⟨m.toNat, by omega, by omega⟩
  · cases h
theorem pow16 {ar k : Nat} (ha : ar ≤ 4) (hk : k < 2 ^ ar) : k < 16 := Nat.lt_of_lt_of_le hk (Nat.pow_le_pow_right (n := 2) (by decide) ha)
def masksS (st : StS) (id : Int) : List Nat := match relF st id with | none => [] | some s => s.M
def hasIxF (st : StS) (id m : Int) : Bool × Int := if colCode st id m = 0 then (decide (m ≠ 0) && decide (m.toNat ∈ masksS st id), 0) else (false, colCode st id m)
def addIxF (st : StS) (id m : Int) : Int := if colCode st id m = 0 then (if m = 0 then 9 else if m.toNat ∈ masksS st id then 12 else 0) else colCode st id m
def addIxP (m : Int) (s s' : RelS) : Prop := s'.M = s.M ++ [m.toNat] ∧ rowsOf s'.L = rowsOf s.L
set_option maxRecDepth 20000 in
set_option maxHeartbeats 1000000 in
theorem hasIxS_any (B : Nat) (O : Own) (W : World) (bs : Nat) (st : StS) (hS : StAt B O W bs st) (id m : Int) (hm : m ≤ 9223372036854775807) :
    Calls Try.prog 24 #[.pointer (some ⟨bs, 0, none⟩), .int .i64 id, .int .i64 m] W fun e W' => e = .returned (.tuple #[.bool (hasIxF st id m).1, .int .i64 (hasIxF st id m).2]) ∧ W' = W := by
  by_cases hid : 0 ≤ id ∧ id < (st.rels.length : Int)
  rotate_left 1
  · have e : hasIxF st id m = (false, 7) := by unfold hasIxF colCode; rw [relF_none hid]; rfl
    rw [e]
    have hrb := cols_id (m := m) hS hid
    clear e hS hid
    go_enter Try.func24, Try.ntmps24
    go_wp2_with fail
    refine hrb.mono ?_
    rintro e W1 ⟨rfl, rfl⟩
    dsimp only
    go_wp2_with fail
    go_ret2
    exact ⟨rfl, rfl⟩
  obtain ⟨n, rfl⟩ : ∃ n : Nat, id = (n : Int) := ⟨id.toNat, by omega⟩
  obtain ⟨s, hs⟩ : ∃ s, st.rels[n]? = some s := ⟨_, List.getElem?_eq_getElem (by omega)⟩
  have hrf := relF_some hs
  have hcode : colCode st (n : Int) m = colC s.ar m := by unfold colCode; rw [hrf]
  have hmasks : masksS st (n : Int) = s.M := by unfold masksS; rw [hrf]
  have HMS : Hid (masksS st (n : Int) = s.M) := hmasks
  obtain ⟨c, hc⟩ : ∃ c, c = colC s.ar m := ⟨_, rfl⟩
  have HC : Hid (colCode st (n : Int) m = c) := hcode.trans hc.symm
  have HCC : Hid (c = colC s.ar m) := hc
  obtain ⟨R, hR⟩ : ∃ R, R = hasIxF st (n : Int) m := ⟨_, rfl⟩
  have HR : Hid (R = hasIxF st (n : Int) m) := hR
  rw [← hR]
  obtain ⟨na, nn, nc, ta, tn, tc, gr, rn, rc, Cr, K, ho⟩ := stat_opn hS hs
  have HO : Hid (Opn B O W bs st n s na nn nc ta tn tc gr rn rc Cr K) := ho
  have hcols := ho.cols m hm
  rw [← hc] at hcols
  clear hc hcode hmasks hrf ho hS hs hid hR
  go_enter Try.func24, Try.ntmps24
  go_wp2_with fail
  refine hcols.mono ?_
  rintro e W1 ⟨rfl, rfl⟩
  by_cases hc0 : c = 0
  · subst hc0
    have hV : rowV gr n 0 = .tuple #[.pointer (some ⟨gr, n * 4, none⟩), .int .i64 0] := rfl
    rw [hV]
    clear hV
    dsimp only
    obtain ⟨k, rfl, hk⟩ := colC_zero HCC.out.symm
    by_cases hk0 : k = 0
    · subst hk0
      have hr : R = (false, 0) := by rw [HR.out]; unfold hasIxF; rw [if_pos HC.out]; rfl
      clear HR
      subst hr
      go_wp2_with fail
      go_ret2
      exact ⟨rfl, rfl⟩
    · have hkb : ((k : Int) == 0) = false := by simp [hk0]
      have hkn : ((k : Int) != 0) = true := by simp [hk0]
      have hk0' : ¬ (k : Int) = 0 := by omega
      have hhi := hasIndex_any B O W1 gr (n * 4) Cr 109 n s.ar s.L K HO.out.rs HO.out.inv k
      rw [HO.out.ms] at hhi
      have hr : R = (decide (k ∈ s.M), 0) := by rw [HR.out]; unfold hasIxF; rw [if_pos HC.out, HMS.out, Int.toNat_natCast, decide_eq_true hk0']; rfl
      obtain ⟨d, hd⟩ : ∃ d, d = decide (k ∈ s.M) := ⟨_, rfl⟩
      rw [← hd] at hr hhi
      clear HR hd
      subst hr
      go_wp2_with fail
      refine hhi.mono ?_
      rintro e W2 ⟨rfl, rfl⟩
      dsimp only
      go_wp2_with fail
      go_ret2
      exact ⟨rfl, rfl⟩
  · have hcb : (c == 0) = false := by simp [hc0]
    have hcn : (c != 0) = true := by simp [hc0]
    have hr : R = (false, c) := by rw [HR.out]; unfold hasIxF; rw [if_neg (by rw [HC.out]; exact hc0), HC.out]
    have hV : rowV gr n c = .tuple #[.pointer none, .int .i64 c] := by unfold rowV; rw [if_neg hc0]
    rw [hV]
    clear hV HR
    subst hr
    dsimp only
    go_wp2_with fail
    go_ret2
    exact ⟨rfl, rfl⟩
set_option maxRecDepth 20000 in
set_option maxHeartbeats 1000000 in
theorem addIxS_any (B : Nat) (O : Own) (W : World) (bs : Nat) (st : StS) (hS : StAt B O W bs st) (id m : Int) (hm : m ≤ 9223372036854775807) :
    Calls Try.prog 38 #[.pointer (some ⟨bs, 0, none⟩), .int .i64 id, .int .i64 m] W (ActPost B O W bs (addIxF st id m) st id (addIxP m)) := by
  by_cases hid : 0 ≤ id ∧ id < (st.rels.length : Int)
  rotate_left 1
  · have e : addIxF st id m = 7 := by unfold addIxF colCode; rw [relF_none hid]; rfl
    rw [e]
    have hrb := cols_id (m := m) hS hid
    obtain ⟨Q, hQ⟩ : ∃ Q, Q = ActPost B O W bs 7 st id (addIxP m) := ⟨_, rfl⟩
    have HP : Hid (Q (.returned (.int .i64 7)) W) := by show Q _ _; rw [hQ]; exact act_no hS (ext_Ext (Ext.refl _)) (by decide)
    rw [← hQ]
    clear e hS hid hQ
    go_enter Try.func38, Try.ntmps38
    go_wp2_with fail
    refine hrb.mono ?_
    rintro e W1 ⟨rfl, rfl⟩
    dsimp only
    go_wp2_with fail
    try go_ret
    exact HP.out
  obtain ⟨n, rfl⟩ : ∃ n : Nat, id = (n : Int) := ⟨id.toNat, by omega⟩
  obtain ⟨s, hs⟩ : ∃ s, st.rels[n]? = some s := ⟨_, List.getElem?_eq_getElem (by omega)⟩
  have hrf := relF_some hs
  have hcode : colCode st (n : Int) m = colC s.ar m := by unfold colCode; rw [hrf]
  have hmasks : masksS st (n : Int) = s.M := by unfold masksS; rw [hrf]
  have HMS : Hid (masksS st (n : Int) = s.M) := hmasks
  obtain ⟨c, hc⟩ : ∃ c, c = colC s.ar m := ⟨_, rfl⟩
  have HC : Hid (colCode st (n : Int) m = c) := hcode.trans hc.symm
  have HCC : Hid (c = colC s.ar m) := hc
  obtain ⟨R, hR⟩ : ∃ R, R = addIxF st (n : Int) m := ⟨_, rfl⟩
  have HR : Hid (R = addIxF st (n : Int) m) := hR
  rw [← hR]
  have HS : Hid (StAt B O W bs st) := hS
  have HRF : Hid (relF st (n : Int) = some s) := hrf
  obtain ⟨Q, hQ⟩ : ∃ Q, Q = ActPost B O W bs R st (n : Int) (addIxP m) := ⟨_, rfl⟩
  have HQ : Hid (Q = ActPost B O W bs R st (n : Int) (addIxP m)) := hQ
  rw [← hQ]
  obtain ⟨na, nn, nc, ta, tn, tc, gr, rn, rc, Cr, K, ho⟩ := stat_opn hS hs
  have HO : Hid (Opn B O W bs st n s na nn nc ta tn tc gr rn rc Cr K) := ho
  have hcols := ho.cols m hm
  rw [← hc] at hcols
  clear hc hcode hmasks hrf ho hS hs hid hR hQ
  go_enter Try.func38, Try.ntmps38
  go_wp2_with fail
  refine hcols.mono ?_
  rintro e W1 ⟨rfl, rfl⟩
  by_cases hc0 : c = 0
  · subst hc0
    have hV : rowV gr n 0 = .tuple #[.pointer (some ⟨gr, n * 4, none⟩), .int .i64 0] := rfl
    rw [hV]
    clear hV
    dsimp only
    obtain ⟨k, rfl, hk⟩ := colC_zero HCC.out.symm
    by_cases hk0 : k = 0
    · subst hk0
      have hr : R = 9 := by rw [HR.out]; unfold addIxF; rw [if_pos HC.out]; rfl
      have HP : Hid (Q (.returned (.int .i64 9)) W1) := by show Q _ _; rw [HQ.out, hr]; exact act_no HS.out (ext_Ext (Ext.refl _)) (by decide)
      clear HR HQ hr
      go_wp2_with fail
      try go_ret
      exact HP.out
    · have hkb : ((k : Int) == 0) = false := by simp [hk0]
      have hkn : ((k : Int) != 0) = true := by simp [hk0]
      have hk0' : ¬ (k : Int) = 0 := by omega
      have hhi := hasIndex_any B O W1 gr (n * 4) Cr 109 n s.ar s.L K HO.out.rs HO.out.inv k
      by_cases hin : k ∈ K.map (·.m)
      · rw [decide_eq_true hin] at hhi
        have hr : R = 12 := by rw [HR.out]; unfold addIxF; rw [if_pos HC.out, if_neg hk0', HMS.out, Int.toNat_natCast, if_pos (by rw [← HO.out.ms]; exact hin)]
        have HP : Hid (Q (.returned (.int .i64 12)) W1) := by show Q _ _; rw [HQ.out, hr]; exact act_no HS.out (ext_Ext (Ext.refl _)) (by decide)
        clear HR HQ hr hin
        go_wp2_with fail
        refine hhi.mono ?_
        rintro e W2 ⟨rfl, rfl⟩
        dsimp only
        go_wp2_with fail
        try go_ret
        exact HP.out
      · rw [decide_eq_false hin] at hhi
        have hr : R = 0 := by rw [HR.out]; unfold addIxF; rw [if_pos HC.out, if_neg hk0', HMS.out, Int.toNat_natCast, if_neg (by rw [← HO.out.ms]; exact hin)]
        have HIN : Hid (k ∉ K.map (·.m)) := hin
        clear hin
        go_wp2_with fail
        refine hhi.mono ?_
        rintro e W2 ⟨rfl, rfl⟩
        dsimp only
        go_wp2_with fail
        refine (addIndex_any B O W2 gr (n * 4) Cr 109 .rels n s.ar s.L K HO.out.rs HO.out.lab (not_rels n) (by intro e; cases e) HO.out.inv HO.out.base k hk HIN.out).mono ?_
        rintro e W3 ⟨rfl, O3, Cr3, L3, K3, hF3, hR3, hC3, hV3, hM3, hP3⟩
        have HP : Hid (Q (.returned (.int .i64 0)) W3) := by show Q _ _; rw [HQ.out, hr]; exact act_yes HO.out (ext_Ext (Ext.refl _)) HRF.out hF3 hR3 hC3 hV3 ⟨by rw [← HO.out.ms]; exact hM3, hP3⟩
        clear HR hr HQ hF3 hR3 hC3 hV3 hM3 hP3
        dsimp only
        go_wp2_with fail
        try go_ret
        exact HP.out
  · have hcb : (c == 0) = false := by simp [hc0]
    have hcn : (c != 0) = true := by simp [hc0]
    have hr : R = c := by rw [HR.out]; unfold addIxF; rw [if_neg (by rw [HC.out]; exact hc0), HC.out]
    have hV : rowV gr n c = .tuple #[.pointer none, .int .i64 c] := by unfold rowV; rw [if_neg hc0]
    have HP : Hid (Q (.returned (.int .i64 c)) W1) := by show Q _ _; rw [HQ.out, hr]; exact act_no HS.out (ext_Ext (Ext.refl _)) hc0
    rw [hV]
    clear hV HR hr HQ
    dsimp only
    go_wp2_with fail
    try go_ret
    exact HP.out
theorem probeF_rows (L : List Slot) (mk : Nat) (key : Tup) : probeF L mk key = ((rowsOf L).map (·.1)).filter (fun t => agreeF t key mk) := by
  unfold probeF rowsOf
  rw [List.map_map, List.filter_map]; rfl
theorem agree_zero (t u : Tup) : agreeF t u 0 = true := decide_eq_true (fun c _ h => by simp at h)
theorem probeF_zero (L : List Slot) (key : Tup) : probeF L 0 key = (rowsOf L).map (·.1) := by
  rw [probeF_rows]
  exact List.filter_eq_self.2 (fun t _ => agree_zero t key)
def RowsPost (W : World) (c : Int) (P : List Tup → Prop) (e : Ending) (W' : World) : Prop := ∃ a n k ts, e = .returned (.tuple #[.slice a n k, .int .i64 c]) ∧ Outs W W' a n k ts ∧ P ts
def tup0 : Tup := Vector.replicate 4 0
theorem build39 (w : World) : (buildOp 39 #[]).run Try.prog w = .ok (.value (.agg (arr i64v tup0).toArray)) w := by kernel_rfl
attribute [local go_sem ↓] execOp_build
attribute [local go_sem] build39
set_option maxRecDepth 20000 in
set_option maxHeartbeats 1000000 in
theorem listS_any (B : Nat) (O : Own) (W : World) (bs : Nat) (st : StS) (hS : StAt B O W bs st) (id : Int) :
    Calls Try.prog 20 #[.pointer (some ⟨bs, 0, none⟩), .int .i64 id] W (RowsPost W (relCode st id) (fun ts => ts = (rowsS st id).map (·.1))) := by
  obtain ⟨Q, hQ⟩ : ∃ Q, Q = RowsPost W (relCode st id) (fun ts => ts = (rowsS st id).map (·.1)) := ⟨_, rfl⟩
  rw [← hQ]
  by_cases hid : 0 ≤ id ∧ id < (st.rels.length : Int)
  · obtain ⟨n, rfl⟩ : ∃ n : Nat, id = (n : Int) := ⟨id.toNat, by omega⟩
    obtain ⟨s, hs⟩ : ∃ s, st.rels[n]? = some s := ⟨_, List.getElem?_eq_getElem (by omega)⟩
    have hrf := relF_some hs
    have hc : relCode st (n : Int) = 0 := by unfold relCode; rw [hrf]
    have hrows : rowsS st (n : Int) = rowsOf s.L := by unfold rowsS; rw [hrf]
    rw [hc, hrows] at hQ
    have HQ : Hid (Q = RowsPost W 0 (fun ts => ts = (rowsOf s.L).map (·.1))) := hQ
    obtain ⟨na, nn, nc, ta, tn, tc, gr, rn, rc, Cr, K, ho⟩ := stat_opn hS hs
    have hrel := ho.rel
    have hpr := probe_any B O W gr (n * 4) Cr 109 n s.ar s.L K ho.rs ho.inv 0 (by omega) tup0 (by decide)
    clear ho hrf hc hrows hQ hS hs hid
    go_enter Try.func20, Try.ntmps20
    go_wp2_with fail
    refine hrel.mono ?_
    rintro e W1 ⟨rfl, rfl⟩
    dsimp only
    go_wp2_with fail
    refine hpr.mono ?_
    rintro e W2 ⟨a, k, c, ts, rfl, h1, h2, h3⟩
    have HP : Hid (Q (.returned (.tuple #[.slice a k c, .int .i64 0])) W2) := by
      show Q _ _
      rw [HQ.out]
      exact ⟨a, k, c, ts, rfl, h1, (h3 rfl).trans (probeF_zero _ _)⟩
    clear HQ h1 h2 h3
    dsimp only
    go_wp2_with fail
    try go_ret2
    exact HP.out
  · have e : relCode st id = 7 := by unfold relCode; rw [relF_none hid]
    have hrows : rowsS st id = [] := by unfold rowsS; rw [relF_none hid]
    rw [e, hrows] at hQ
    have HP : Hid (Q (.returned (.tuple #[.slice none 0 0, .int .i64 7])) W) := by
      show Q _ _
      rw [hQ]
      exact ⟨none, 0, 0, [], rfl, Outs.nil W W (ext_Ext (Ext.refl _)), rfl⟩
    have hrb := rel_id hS hid
    clear e hrows hS hid hQ
    go_enter Try.func20, Try.ntmps20
    go_wp2_with fail
    refine hrb.mono ?_
    rintro e W1 ⟨rfl, rfl⟩
    dsimp only
    go_wp2_with fail
    try go_ret2
    exact HP.out
end Go.Proofs.Qxb6500789a
