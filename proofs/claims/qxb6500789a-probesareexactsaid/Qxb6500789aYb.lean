import Derived.Test.Qxb6500789aYa
import Derived.StillTailTactics
import Derived.Deep.QuietTactic
import Derived.BigQuiet
import Derived.Deep.RegionHeld
import Derived.Deep.CutRange
import Derived.Laws.ResultCell
import Derived.Laws.Rows
import Derived.DeepKeys
import Derived.DataBytes
import Derived.Laws.StructEq
import Derived.Laws.AppendOwn
import Derived.Laws.MakeOwn
import Derived.Lib.AppendStr
set_option linter.unusedSimpArgs false
set_option linter.unusedVariables false
namespace Go.Proofs.Qxb6500789a
open Go.RowKit Go.Blk
attribute [local go_sem ↓] execOp_load execOp_store execOp_alloc
attribute [local go_sem] Try.ld29 Try.st29 Try.ld3 Try.st3 Try.ld9 Try.st9 Try.ld30 Try.st30 Try.ld34 Try.st34 Try.ld35 Try.st35 Try.ld36 Try.st36 Try.ld37 Try.st37 Try.ld44 Try.st44 Try.ld45 Try.st45 Try.ld54 Try.st54 Try.ld55 Try.st55 Try.ld74 Try.st74 Try.ld80 Try.st80 Try.ld84 Try.st84 Try.ld106 Try.st106 Try.ld107 Try.st107 Try.ld4 Try.st4 Try.ld121 Try.st121 Try.ld2 Try.st2 Try.ld5 Try.st5 Try.ld12 Try.st12 Try.ld21 Try.st21 Try.ld22 Try.st22 Try.ld24 Try.st24 Try.ld26 Try.st26 Try.ld63 Try.st63 Try.ld71 Try.st71 Try.ld103 Try.st103 Try.ld130 Try.st130 Try.ld133 Try.st133 Try.ld140 Try.st140 Try.ld152 Try.st152 Try.ld39 Try.st39 Try.ld32 Try.st32 Try.ld41 Try.st41 Try.ld47 Try.st47 Try.ld57 Try.st57 Try.ld62 Try.st62 Try.ld76 Try.st76 Try.ld82 Try.st82 Try.ld86 Try.st86 Try.ld109 Try.st109 Try.ld115 Try.st115 Try.ld123 Try.st123 Try.ld135 Try.st135 Try.al39 Try.al32 Try.al41 Try.al47 Try.al57 Try.al62 Try.al76 Try.al82 Try.al86 Try.al109 Try.al115 Try.al123 Try.al135
attribute [local go_sem] Answer.length_enc Answer.ok_enc Answer.all_get Answer.all_set Answer.code_get Answer.code_set Answer.n_get Answer.n_set Answer.name_get Answer.name_set Answer.rows_get Answer.rows_set GOp.length_enc GOp.ok_enc GOp.all_get GOp.all_set GOp.kind_get GOp.kind_set GOp.rel_get GOp.rel_set GOp.mask_get GOp.mask_set GOp.t_get GOp.t_set GOp.n_get GOp.n_set GOp.name_get GOp.name_set Store.length_enc Store.ok_enc Store.all_get Store.all_set Store.names_get Store.names_set Store.rels_get Store.rels_set GRel.length_enc GRel.ok_enc GRel.all_get GRel.all_set GRel.arity_get GRel.arity_set GRel.masks_get GRel.masks_set GRel.rows_get GRel.rows_set Row.length_enc Row.ok_enc Row.all_get Row.all_set Row.t_get Row.t_set Row.mark_get Row.mark_set View.length_enc View.ok_enc View.all_get View.all_set View.names_get View.names_set View.rels_get View.rels_set Symtab.length_enc Symtab.ok_enc Symtab.all_get Symtab.all_set Symtab.names_get Symtab.names_set Symtab.table_get Symtab.table_set StoreTuplestore.length_enc StoreTuplestore.ok_enc StoreTuplestore.all_get StoreTuplestore.all_set StoreTuplestore.syms_get StoreTuplestore.syms_set StoreTuplestore.rels_get StoreTuplestore.rels_set StoreTuplestore.syms_names_get StoreTuplestore.syms_names_set StoreTuplestore.syms_table_get StoreTuplestore.syms_table_set Relation.length_enc Relation.ok_enc Relation.all_get Relation.all_set Relation.arity_get Relation.arity_set Relation.slots_get Relation.slots_set Relation.live_get Relation.live_set Relation.idx_get Relation.idx_set Slot.length_enc Slot.ok_enc Slot.all_get Slot.all_set Slot.t_get Slot.t_set Slot.mark_get Slot.mark_set Slot.live_get Slot.live_set RelView.length_enc RelView.ok_enc RelView.all_get RelView.all_set RelView.arity_get RelView.arity_set RelView.rows_get RelView.rows_set RelView.marks_get RelView.marks_set RelView.indexed_get RelView.indexed_set Index.length_enc Index.ok_enc Index.all_get Index.all_set Index.mask_get Index.mask_set Index.heads_get Index.heads_set Index.next_get Index.next_set
attribute [local go_sem] size_put size_ext blk_put free_put blk_alloc free_alloc blk_drew free_drew blk_ext free_ext lookOr_some putOr_some segAt_some cellAt_some storeIn_some put_put put_alloc_new length_arr ok_arr_u8 ok_arr_u32 ok_arr_u64 ok_arr_i64 ok_arr_sl cellsV_agg cellsV_int cellsV_bool cellsV_string cellsV_pointer cellsV_slice cellsV_sl ok_int ok_bool ok_string ok_pointer ok_slice ok_sl toList_arr seg_arr set_arr nth_splice nth_splice0 seg_splice seg_splice0 splice_splice splice_splice0 length_splice_if
attribute [local go_sem ↓] execOp_box
attribute [local go_sem] box_run nth_arr_u8 put_arr_u8 blk_drewN free_drewN put_drewN blk_raw free_raw
def Upd (st : StS) (id : Int) (P : RelS → RelS → Prop) (st' : StS) : Prop := ∃ s s', relF st id = some s ∧ st' = ⟨st.names, st.rels.set id.toNat s'⟩ ∧ s'.ar = s.ar ∧ P s s'
def ActR (c : Int) (st : StS) (id : Int) (P : RelS → RelS → Prop) (st' : StS) : Prop := (c ≠ 0 → st' = st) ∧ (c = 0 → Upd st id P st')
def ActPost (B : Nat) (O : Own) (W : World) (bs : Nat) (c : Int) (st : StS) (id : Int) (P : RelS → RelS → Prop) (e : Ending) (W' : World) : Prop := e = .returned (.int .i64 c) ∧ ∃ O' st', FrS O W O' W' ∧ StAt B O' W' bs st' ∧ ActR c st id P st'
theorem act_no {B : Nat} {O : Own} {W W' : World} {bs : Nat} {c : Int} {st : StS} {id : Int} {P : RelS → RelS → Prop} (hS : StAt B O W bs st) (he : W.Extends W') (hc : c ≠ 0) : ActPost B O W bs c st id P (.returned (.int .i64 c)) W' := ⟨rfl, O, st, FrS.of_extends he, hS.ext he, fun _ => rfl, fun h => absurd h hc⟩
theorem act_yes {B : Nat} {O : Own} {W W2 : World} {bs : Nat} {st : StS} {n : Nat} {s : RelS} {na : Option Addr} {nn nc : Nat} {ta : Option Addr} {tn tc gr rn rc : Nat} {Cr : List Value} {K : List IxD} {P : RelS → RelS → Prop} (h : Opn B O W2 bs st n s na nn nc ta tn tc gr rn rc Cr K) (he : W.Extends W2) (hrf : relF st (n : Int) = some s) {O' : Own} {W' : World} {Cr' : List Value} {L' : List Slot} {K' : List IxD}
    (hF : Fr (isRelR n .rels) O W2 O' W') (hR : RelSt B O' W' gr (n * 4) 109 n s.ar L' K' Cr') (hC : RelCh Cr Cr' (n * 4)) (hV : RInv s.ar L' K') (hP : P s ⟨s.ar, L', K'.map (·.m)⟩) : ActPost B O W bs 0 st (n : Int) P (.returned (.int .i64 0)) W' :=
  ⟨rfl, O', _, (FrS.of_extends he).trans (hF.toS (fun _ => isSt_relR)), h.shut O' W' Cr' L' K' hF hR hC hV, fun h => absurd rfl h, fun _ => ⟨s, _, hrf, rfl, rfl, hP⟩⟩
theorem not_rels (n : Nat) : ¬ isRel n .rels := by rintro (e | e | ⟨j, e⟩ | ⟨j, e⟩) <;> cases e
def insF (st : StS) (id : Int) (t : Tup) : Int := if rowCode st id t = 0 then (if t ∈ (rowsS st id).map (·.1) then 1 else if 512 ≤ (rowsS st id).length then 4 else 0) else rowCode st id t
def insP (t : Tup) (s s' : RelS) : Prop := s'.M = s.M ∧ (rowsOf s'.L).Perm ((t, 0) :: rowsOf s.L)
def delF (st : StS) (id : Int) (t : Tup) : Int := if rowCode st id t = 0 then (if t ∈ (rowsS st id).map (·.1) then 0 else 2) else rowCode st id t
def delP (t : Tup) (s s' : RelS) : Prop := s'.M = s.M ∧ ∃ mk, (rowsOf s.L).Perm ((t, mk) :: rowsOf s'.L)
def setF (st : StS) (id : Int) (t : Tup) (mk : Int) : Int := if rowCode st id t = 0 then (if 0 ≤ mk ∧ mk ≤ 255 then (if t ∈ (rowsS st id).map (·.1) then 0 else 2) else 11) else rowCode st id t
def setP (t : Tup) (mk : Int) (s s' : RelS) : Prop := s'.M = s.M ∧ rowsOf s'.L = (rowsOf s.L).map (fun r => if r.1 = t then (t, mk) else r)
set_option maxRecDepth 20000 in
set_option maxHeartbeats 2000000 in
theorem insertS_any (B : Nat) (O : Own) (W : World) (bs : Nat) (st : StS) (hS : StAt B O W bs st) (id : Int) (t : Tup) :
    Calls Try.prog 39 #[.pointer (some ⟨bs, 0, none⟩), .int .i64 id, .agg (arr i64v t).toArray] W (ActPost B O W bs (insF st id t) st id (insP t)) := by
  by_cases hid : 0 ≤ id ∧ id < (st.rels.length : Int)
  rotate_left 1
  · have e : insF st id t = 7 := by unfold insF rowCode; rw [relF_none hid]; rfl
    rw [e]
    obtain ⟨Q, hQ⟩ : ∃ Q, Q = ActPost B O W bs 7 st id (insP t) := ⟨_, rfl⟩
    have HQ : Hid (Q = ActPost B O W bs 7 st id (insP t)) := hQ
    rw [← hQ]
    clear e hQ
    go_enter Try.func39, Try.ntmps39
    go_upto_region 1 with fail
    refine wp_world (fun W0 => blk W0 W.heap.size = some (arr i64v t) ∧ W.Extends W0) ⟨?_, extends_alloc (ext_Ext (Ext.refl _)) _⟩ ?_
    · rw [blk_alloc, if_pos rfl]
    rintro W0 ⟨hb5, HE0⟩
    obtain ⟨b5, e5⟩ : ∃ b5, b5 = W.heap.size := ⟨_, rfl⟩
    rw [← e5] at hb5 ⊢
    clear e5
    obtain ⟨na, nn, nc, ta, tn, tc, ra, rn, rc, hb, hrn, _⟩ := stat_bad (hS.ext HE0)
    have HE : Hid (W.Extends W0) := HE0
    have hrb := row_bad W0 bs na nn nc ta tn tc ra rn rc hb id (by rw [hrn]; exact hid) t
    have HS : Hid (StAt B O W bs st) := hS
    clear hb hrn HE0 hid hS
    go_wp2_with fail
    refine hrb.mono ?_
    rintro e W1 ⟨rfl, hE1⟩
    have HE1 : Hid (W.Extends W1) := HE.out.trans hE1
    have HP : Hid (Q (.returned (.int .i64 7)) W1) := by show Q _ _; rw [HQ.out]; exact act_no HS.out HE1.out (by decide)
    clear hE1 HQ
    dsimp only
    go_wp2_with fail
    try go_ret
    exact HP.out
  obtain ⟨n, rfl⟩ : ∃ n : Nat, id = (n : Int) := ⟨id.toNat, by omega⟩
  obtain ⟨s, hs⟩ : ∃ s, st.rels[n]? = some s := ⟨_, List.getElem?_eq_getElem (by omega)⟩
  have hrf := relF_some hs
  have hcode : rowCode st (n : Int) t = rowC st.names.length s.ar t := by unfold rowCode; rw [hrf]
  have hrows : rowsS st (n : Int) = rowsOf s.L := by unfold rowsS; rw [hrf]
  obtain ⟨R, hR⟩ : ∃ R, R = insF st (n : Int) t := ⟨_, rfl⟩
  have HR : Hid (R = insF st (n : Int) t) := hR
  rw [← hR]
  obtain ⟨c, hc⟩ : ∃ c, c = rowC st.names.length s.ar t := ⟨_, rfl⟩
  have hc' := hcode.trans hc.symm
  have HC : Hid (rowCode st (n : Int) t = c) := hc'
  have HRW : Hid (rowsS st (n : Int) = rowsOf s.L) := hrows
  have HRF : Hid (relF st (n : Int) = some s) := hrf
  have HS : Hid (StAt B O W bs st) := hS
  obtain ⟨Q, hQ⟩ : ∃ Q, Q = ActPost B O W bs R st (n : Int) (insP t) := ⟨_, rfl⟩
  have HQ : Hid (Q = ActPost B O W bs R st (n : Int) (insP t)) := hQ
  rw [← hQ]
  clear hR hid hQ
  go_enter Try.func39, Try.ntmps39
  go_upto_region 1 with fail
  refine wp_world (fun W0 => blk W0 W.heap.size = some (arr i64v t) ∧ W.Extends W0) ⟨?_, extends_alloc (ext_Ext (Ext.refl _)) _⟩ ?_
  · rw [blk_alloc, if_pos rfl]
  rintro W0 ⟨hb5, HE0⟩
  obtain ⟨b5, e5⟩ : ∃ b5, b5 = W.heap.size := ⟨_, rfl⟩
  rw [← e5] at hb5 ⊢
  clear e5
  obtain ⟨na, nn, nc, ta, tn, tc, gr, rn, rc, Cr, K, ho⟩ := stat_opn (hS.ext HE0) hs
  have HO : Hid (Opn B O W0 bs st n s na nn nc ta tn tc gr rn rc Cr K) := ho
  have HE : Hid (W.Extends W0) := HE0
  have hrow := ho.row t
  rw [← hc] at hrow
  clear hc hc' hcode hrows hrf ho HE0 hS hs
  go_wp2_with fail
  refine hrow.mono ?_
  rintro e W1 ⟨rfl, hE1⟩
  have hb51 : blk W1 b5 = some (arr i64v t) := (hE1.blk (blk_lt hb5)).trans hb5
  have HE1 : Hid (W.Extends W1) := HE.out.trans hE1
  have HO1 : Hid (Opn B O W1 bs st n s na nn nc ta tn tc gr rn rc Cr K) := HO.out.ext hE1
  clear hE1 hrow
  by_cases hc0 : c = 0
  · subst hc0
    have hV : rowV gr n 0 = .tuple #[.pointer (some ⟨gr, n * 4, none⟩), .int .i64 0] := rfl
    rw [hV]
    clear hV
    dsimp only
    have hfi := find_st HO1.out.rs HO1.out.inv t
    go_wp2_with fail
    refine hfi.mono ?_
    rintro e W2 ⟨a, b, rfl, hP, hE2⟩
    have hb52 : blk W2 b5 = some (arr i64v t) := (hE2.blk (blk_lt hb51)).trans hb51
    have HE2 : Hid (W.Extends W2) := HE1.out.trans hE2
    have HO2 : Hid (Opn B O W2 bs st n s na nn nc ta tn tc gr rn rc Cr K) := HO1.out.ext hE2
    have HFC := find_cases HO1.out.inv.nodup hP
    clear hE2 hfi hb51 hb5 hP
    dsimp only
    obtain ⟨k1, k2, k3, k4, sa, sn, sc, k5, k6⟩ := HO2.out.rs.cells
    have d2 : n * 4 + 2 + 1 ≤ Cr.length := by omega
    have d3 : n * 4 < Cr.length := by omega
    have d1 : n * 4 + 1 + 1 ≤ Cr.length := by omega
    rcases HFC with ⟨g1, rfl, m, sl, rfl, g2, g3, g4⟩ | ⟨g1, rfl, g2⟩
    · have m0 : (0 : Int) ≤ (m : Int) := by omega
      have mlt : ¬ (m : Int) < 0 := by omega
      have hr : R = 1 := by rw [HR.out]; unfold insF; rw [if_pos HC.out, HRW.out, if_pos g1]
      have HP : Hid (Q (.returned (.int .i64 1)) W2) := by show Q _ _; rw [HQ.out, hr]; exact act_no HS.out HE2.out (by decide)
      clear HR hr HQ
      go_wp2_with fail
      try go_ret
      exact HP.out
    · obtain ⟨lv, hlv⟩ : ∃ lv, lv = (liveL s.L).length := ⟨_, rfl⟩
      rw [← hlv] at k4
      by_cases hfull : 512 ≤ lv
      · have hfull' : (512 : Int) ≤ (lv : Int) := by omega
        have hr : R = 4 := by rw [HR.out]; unfold insF; rw [if_pos HC.out, HRW.out, if_neg g1, rowsOf_len, if_pos (by omega)]
        have HP : Hid (Q (.returned (.int .i64 4)) W2) := by show Q _ _; rw [HQ.out, hr]; exact act_no HS.out HE2.out (by decide)
        clear HR hr HQ
        go_wp2_with fail
        try go_ret
        exact HP.out
      · have hfull' : ¬ (512 : Int) ≤ (lv : Int) := by omega
        rcases g2 with ⟨rfl, g3⟩ | ⟨m, sl, rfl, g3, g4, g5⟩
        · go_wp2_with fail
          refine (insert_new B O W2 gr (n * 4) Cr 109 .rels n s.ar s.L K HO2.out.rs HO2.out.lab (not_rels n) (by intro e; cases e) HO2.out.inv HO2.out.base t g3 (by omega)).mono ?_
          rintro e W3 ⟨rfl, O3, Cr3, L3, K3, hF3, hR3, hC3, hV3, hM3, hP3⟩
          have hr : R = 0 := by rw [HR.out]; unfold insF; rw [if_pos HC.out, HRW.out, if_neg g1, rowsOf_len, if_neg (by omega)]
          have HP : Hid (Q (.returned (.int .i64 0)) W3) := by show Q _ _; rw [HQ.out, hr]; exact act_yes HO2.out HE2.out HRF.out hF3 hR3 hC3 hV3 ⟨hM3.trans HO2.out.ms, hP3⟩
          clear HR hr HQ hF3 hR3 hC3 hV3 hM3 hP3
          dsimp only
          go_wp2_with fail
          try go_ret
          exact HP.out
        · go_wp2_with fail
          refine (insert_tomb B O W2 gr (n * 4) Cr 109 .rels n s.ar s.L K HO2.out.rs HO2.out.lab (not_rels n) (by intro e; cases e) HO2.out.inv HO2.out.base t m sl g3 g4 g5 (by omega)).mono ?_
          rintro e W3 ⟨rfl, O3, Cr3, L3, K3, hF3, hR3, hC3, hV3, hM3, hP3⟩
          have hr : R = 0 := by rw [HR.out]; unfold insF; rw [if_pos HC.out, HRW.out, if_neg g1, rowsOf_len, if_neg (by omega)]
          have HP : Hid (Q (.returned (.int .i64 0)) W3) := by show Q _ _; rw [HQ.out, hr]; exact act_yes HO2.out HE2.out HRF.out hF3 hR3 hC3 hV3 ⟨hM3.trans HO2.out.ms, hP3⟩
          clear HR hr HQ hF3 hR3 hC3 hV3 hM3 hP3
          dsimp only
          go_wp2_with fail
          try go_ret
          exact HP.out
  · have hcb : (c == 0) = false := by simp [hc0]
    have hcn : (c != 0) = true := by simp [hc0]
    have hr : R = c := by rw [HR.out]; unfold insF; rw [if_neg (by rw [HC.out]; exact hc0), HC.out]
    have hV : rowV gr n c = .tuple #[.pointer none, .int .i64 c] := by unfold rowV; rw [if_neg hc0]
    have HP : Hid (Q (.returned (.int .i64 c)) W1) := by show Q _ _; rw [HQ.out, hr]; exact act_no HS.out HE1.out hc0
    rw [hV]
    clear hV HR hr HQ
    dsimp only
    go_wp2_with fail
    try go_ret
    exact HP.out
set_option maxRecDepth 20000 in
set_option maxHeartbeats 2000000 in
theorem deleteS_any (B : Nat) (O : Own) (W : World) (bs : Nat) (st : StS) (hS : StAt B O W bs st) (id : Int) (t : Tup) :
    Calls Try.prog 40 #[.pointer (some ⟨bs, 0, none⟩), .int .i64 id, .agg (arr i64v t).toArray] W (ActPost B O W bs (delF st id t) st id (delP t)) := by
  by_cases hid : 0 ≤ id ∧ id < (st.rels.length : Int)
  rotate_left 1
  · have e : delF st id t = 7 := by unfold delF rowCode; rw [relF_none hid]; rfl
    rw [e]
    obtain ⟨Q, hQ⟩ : ∃ Q, Q = ActPost B O W bs 7 st id (delP t) := ⟨_, rfl⟩
    have HQ : Hid (Q = ActPost B O W bs 7 st id (delP t)) := hQ
    rw [← hQ]
    clear e hQ
    go_enter Try.func40, Try.ntmps40
    go_upto_region 1 with fail
    refine wp_world (fun W0 => blk W0 W.heap.size = some (arr i64v t) ∧ W.Extends W0) ⟨?_, extends_alloc (ext_Ext (Ext.refl _)) _⟩ ?_
    · rw [blk_alloc, if_pos rfl]
    rintro W0 ⟨hb5, HE0⟩
    obtain ⟨b5, e5⟩ : ∃ b5, b5 = W.heap.size := ⟨_, rfl⟩
    rw [← e5] at hb5 ⊢
    clear e5
    obtain ⟨na, nn, nc, ta, tn, tc, ra, rn, rc, hb, hrn, _⟩ := stat_bad (hS.ext HE0)
    have HE : Hid (W.Extends W0) := HE0
    have hrb := row_bad W0 bs na nn nc ta tn tc ra rn rc hb id (by rw [hrn]; exact hid) t
    have HS : Hid (StAt B O W bs st) := hS
    clear hb hrn HE0 hid hS
    go_wp2_with fail
    refine hrb.mono ?_
    rintro e W1 ⟨rfl, hE1⟩
    have HE1 : Hid (W.Extends W1) := HE.out.trans hE1
    have HP : Hid (Q (.returned (.int .i64 7)) W1) := by show Q _ _; rw [HQ.out]; exact act_no HS.out HE1.out (by decide)
    clear hE1 HQ
    dsimp only
    go_wp2_with fail
    try go_ret
    exact HP.out
  obtain ⟨n, rfl⟩ : ∃ n : Nat, id = (n : Int) := ⟨id.toNat, by omega⟩
  obtain ⟨s, hs⟩ : ∃ s, st.rels[n]? = some s := ⟨_, List.getElem?_eq_getElem (by omega)⟩
  have hrf := relF_some hs
  have hcode : rowCode st (n : Int) t = rowC st.names.length s.ar t := by unfold rowCode; rw [hrf]
  have hrows : rowsS st (n : Int) = rowsOf s.L := by unfold rowsS; rw [hrf]
  obtain ⟨R, hR⟩ : ∃ R, R = delF st (n : Int) t := ⟨_, rfl⟩
  have HR : Hid (R = delF st (n : Int) t) := hR
  rw [← hR]
  obtain ⟨c, hc⟩ : ∃ c, c = rowC st.names.length s.ar t := ⟨_, rfl⟩
  have hc' := hcode.trans hc.symm
  have HC : Hid (rowCode st (n : Int) t = c) := hc'
  have HRW : Hid (rowsS st (n : Int) = rowsOf s.L) := hrows
  have HRF : Hid (relF st (n : Int) = some s) := hrf
  have HS : Hid (StAt B O W bs st) := hS
  obtain ⟨Q, hQ⟩ : ∃ Q, Q = ActPost B O W bs R st (n : Int) (delP t) := ⟨_, rfl⟩
  have HQ : Hid (Q = ActPost B O W bs R st (n : Int) (delP t)) := hQ
  rw [← hQ]
  clear hR hid hQ
  go_enter Try.func40, Try.ntmps40
  go_upto_region 1 with fail
  refine wp_world (fun W0 => blk W0 W.heap.size = some (arr i64v t) ∧ W.Extends W0) ⟨?_, extends_alloc (ext_Ext (Ext.refl _)) _⟩ ?_
  · rw [blk_alloc, if_pos rfl]
  rintro W0 ⟨hb5, HE0⟩
  obtain ⟨b5, e5⟩ : ∃ b5, b5 = W.heap.size := ⟨_, rfl⟩
  rw [← e5] at hb5 ⊢
  clear e5
  obtain ⟨na, nn, nc, ta, tn, tc, gr, rn, rc, Cr, K, ho⟩ := stat_opn (hS.ext HE0) hs
  have HO : Hid (Opn B O W0 bs st n s na nn nc ta tn tc gr rn rc Cr K) := ho
  have HE : Hid (W.Extends W0) := HE0
  have hrow := ho.row t
  rw [← hc] at hrow
  clear hc hc' hcode hrows hrf ho HE0 hS hs
  go_wp2_with fail
  refine hrow.mono ?_
  rintro e W1 ⟨rfl, hE1⟩
  have hb51 : blk W1 b5 = some (arr i64v t) := (hE1.blk (blk_lt hb5)).trans hb5
  have HE1 : Hid (W.Extends W1) := HE.out.trans hE1
  have HO1 : Hid (Opn B O W1 bs st n s na nn nc ta tn tc gr rn rc Cr K) := HO.out.ext hE1
  clear hE1 hrow
  by_cases hc0 : c = 0
  · subst hc0
    have hV : rowV gr n 0 = .tuple #[.pointer (some ⟨gr, n * 4, none⟩), .int .i64 0] := rfl
    rw [hV]
    clear hV
    dsimp only
    have hfi := find_st HO1.out.rs HO1.out.inv t
    go_wp2_with fail
    refine hfi.mono ?_
    rintro e W2 ⟨a, b, rfl, hP, hE2⟩
    have hb52 : blk W2 b5 = some (arr i64v t) := (hE2.blk (blk_lt hb51)).trans hb51
    have HE2 : Hid (W.Extends W2) := HE1.out.trans hE2
    have HO2 : Hid (Opn B O W2 bs st n s na nn nc ta tn tc gr rn rc Cr K) := HO1.out.ext hE2
    have HFC := find_cases HO1.out.inv.nodup hP
    clear hE2 hfi hb51 hb5 hP
    dsimp only
    obtain ⟨k1, k2, k3, k4, sa, sn, sc, k5, k6⟩ := HO2.out.rs.cells
    have d2 : n * 4 + 2 + 1 ≤ Cr.length := by omega
    have d3 : n * 4 < Cr.length := by omega
    have d1 : n * 4 + 1 + 1 ≤ Cr.length := by omega
    rcases HFC with ⟨g1, rfl, m, sl, rfl, g2, g3, g4⟩ | ⟨g1, rfl, g2⟩
    · have m0 : (0 : Int) ≤ (m : Int) := by omega
      have mlt : ¬ (m : Int) < 0 := by omega
      go_wp2_with fail
      refine (remove_any B O W2 gr (n * 4) Cr 109 .rels n s.ar s.L K HO2.out.rs HO2.out.lab (not_rels n) (by intro e; cases e) HO2.out.inv HO2.out.base m sl g2 g4).mono ?_
      rintro e W3 ⟨rfl, O3, Cr3, L3, K3, hF3, hR3, hC3, hV3, hM3, hP3⟩
      have hr : R = 0 := by rw [HR.out]; unfold delF; rw [if_pos HC.out, HRW.out, if_pos g1]
      have HP : Hid (Q (.returned (.int .i64 0)) W3) := by show Q _ _; rw [HQ.out, hr]; exact act_yes HO2.out HE2.out HRF.out hF3 hR3 hC3 hV3 ⟨hM3.trans HO2.out.ms, sl.mark, by rw [← g3]; exact hP3⟩
      clear HR hr HQ hF3 hR3 hC3 hV3 hM3 hP3
      dsimp only
      go_wp2_with fail
      try go_ret
      exact HP.out
    · clear g2
      have hr : R = 2 := by rw [HR.out]; unfold delF; rw [if_pos HC.out, HRW.out, if_neg g1]
      have HP : Hid (Q (.returned (.int .i64 2)) W2) := by show Q _ _; rw [HQ.out, hr]; exact act_no HS.out HE2.out (by decide)
      clear HR hr HQ
      go_wp2_with fail
      try go_ret
      exact HP.out
  · have hcb : (c == 0) = false := by simp [hc0]
    have hcn : (c != 0) = true := by simp [hc0]
    have hr : R = c := by rw [HR.out]; unfold delF; rw [if_neg (by rw [HC.out]; exact hc0), HC.out]
    have hV : rowV gr n c = .tuple #[.pointer none, .int .i64 c] := by unfold rowV; rw [if_neg hc0]
    have HP : Hid (Q (.returned (.int .i64 c)) W1) := by show Q _ _; rw [HQ.out, hr]; exact act_no HS.out HE1.out hc0
    rw [hV]
    clear hV HR hr HQ
    dsimp only
    go_wp2_with fail
    try go_ret
    exact HP.out
end Go.Proofs.Qxb6500789a
