import Derived.Test.Qxb6500789aYb
import Derived.StillTailTactics
import Derived.Deep.QuietTactic
import Derived.BigQuiet
import Derived.Deep.RegionHeld
import Derived.Deep.CutRange
import Derived.Laws.ResultCell
import Derived.Laws.Rows
import Derived.DeepKeys
import Derived.DataBytes
import Derived.Laws.StructEq
import Derived.Laws.AppendOwn
import Derived.Laws.MakeOwn
import Derived.Lib.AppendStr
set_option linter.unusedSimpArgs false
set_option linter.unusedVariables false
namespace Go.Proofs.Qxb6500789a
open Go.RowKit Go.Blk
attribute [local go_sem ↓] execOp_load execOp_store execOp_alloc
attribute [local go_sem] Try.ld29 Try.st29 Try.ld3 Try.st3 Try.ld9 Try.st9 Try.ld30 Try.st30 Try.ld34 Try.st34 Try.ld35 Try.st35 Try.ld36 Try.st36 Try.ld37 Try.st37 Try.ld44 Try.st44 Try.ld45 Try.st45 Try.ld54 Try.st54 Try.ld55 Try.st55 Try.ld74 Try.st74 Try.ld80 Try.st80 Try.ld84 Try.st84 Try.ld106 Try.st106 Try.ld107 Try.st107 Try.ld4 Try.st4 Try.ld121 Try.st121 Try.ld2 Try.st2 Try.ld5 Try.st5 Try.ld12 Try.st12 Try.ld21 Try.st21 Try.ld22 Try.st22 Try.ld24 Try.st24 Try.ld26 Try.st26 Try.ld63 Try.st63 Try.ld71 Try.st71 Try.ld103 Try.st103 Try.ld130 Try.st130 Try.ld133 Try.st133 Try.ld140 Try.st140 Try.ld152 Try.st152 Try.ld39 Try.st39 Try.ld32 Try.st32 Try.ld41 Try.st41 Try.ld47 Try.st47 Try.ld57 Try.st57 Try.ld62 Try.st62 Try.ld76 Try.st76 Try.ld82 Try.st82 Try.ld86 Try.st86 Try.ld109 Try.st109 Try.ld115 Try.st115 Try.ld123 Try.st123 Try.ld135 Try.st135 Try.al39 Try.al32 Try.al41 Try.al47 Try.al57 Try.al62 Try.al76 Try.al82 Try.al86 Try.al109 Try.al115 Try.al123 Try.al135
attribute [local go_sem] Answer.length_enc Answer.ok_enc Answer.all_get Answer.all_set Answer.code_get Answer.code_set Answer.n_get Answer.n_set Answer.name_get Answer.name_set Answer.rows_get Answer.rows_set GOp.length_enc GOp.ok_enc GOp.all_get GOp.all_set GOp.kind_get GOp.kind_set GOp.rel_get GOp.rel_set GOp.mask_get GOp.mask_set GOp.t_get GOp.t_set GOp.n_get GOp.n_set GOp.name_get GOp.name_set Store.length_enc Store.ok_enc Store.all_get Store.all_set Store.names_get Store.names_set Store.rels_get Store.rels_set GRel.length_enc GRel.ok_enc GRel.all_get GRel.all_set GRel.arity_get GRel.arity_set GRel.masks_get GRel.masks_set GRel.rows_get GRel.rows_set Row.length_enc Row.ok_enc Row.all_get Row.all_set Row.t_get Row.t_set Row.mark_get Row.mark_set View.length_enc View.ok_enc View.all_get View.all_set View.names_get View.names_set View.rels_get View.rels_set Symtab.length_enc Symtab.ok_enc Symtab.all_get Symtab.all_set Symtab.names_get Symtab.names_set Symtab.table_get Symtab.table_set StoreTuplestore.length_enc StoreTuplestore.ok_enc StoreTuplestore.all_get StoreTuplestore.all_set StoreTuplestore.syms_get StoreTuplestore.syms_set StoreTuplestore.rels_get StoreTuplestore.rels_set StoreTuplestore.syms_names_get StoreTuplestore.syms_names_set StoreTuplestore.syms_table_get StoreTuplestore.syms_table_set Relation.length_enc Relation.ok_enc Relation.all_get Relation.all_set Relation.arity_get Relation.arity_set Relation.slots_get Relation.slots_set Relation.live_get Relation.live_set Relation.idx_get Relation.idx_set Slot.length_enc Slot.ok_enc Slot.all_get Slot.all_set Slot.t_get Slot.t_set Slot.mark_get Slot.mark_set Slot.live_get Slot.live_set RelView.length_enc RelView.ok_enc RelView.all_get RelView.all_set RelView.arity_get RelView.arity_set RelView.rows_get RelView.rows_set RelView.marks_get RelView.marks_set RelView.indexed_get RelView.indexed_set Index.length_enc Index.ok_enc Index.all_get Index.all_set Index.mask_get Index.mask_set Index.heads_get Index.heads_set Index.next_get Index.next_set
attribute [local go_sem] size_put size_ext blk_put free_put blk_alloc free_alloc blk_drew free_drew blk_ext free_ext lookOr_some putOr_some segAt_some cellAt_some storeIn_some put_put put_alloc_new length_arr ok_arr_u8 ok_arr_u32 ok_arr_u64 ok_arr_i64 ok_arr_sl cellsV_agg cellsV_int cellsV_bool cellsV_string cellsV_pointer cellsV_slice cellsV_sl ok_int ok_bool ok_string ok_pointer ok_slice ok_sl toList_arr seg_arr set_arr nth_splice nth_splice0 seg_splice seg_splice0 splice_splice splice_splice0 length_splice_if
attribute [local go_sem ↓] execOp_box
attribute [local go_sem] box_run nth_arr_u8 put_arr_u8 blk_drewN free_drewN put_drewN blk_raw free_raw
theorem rows_mark {L : List Slot} (hN : (L.map (·.t)).Nodup) {n : Nat} {s : Slot} (hs : L[n]? = some s) (hl : s.live = true) (mk : Int) : rowsOf (L.set n { s with mark := mk }) = (rowsOf L).map (fun r => if r.1 = s.t then (s.t, mk) else r) := by
  obtain ⟨A, B', hL, hA, hset⟩ := set_split hs
  rw [hset, hL]
  rw [hL, List.map_append, List.map_cons, List.nodup_append] at hN
  obtain ⟨_, hN2, hN3⟩ := hN
  rw [List.nodup_cons] at hN2
  have idm : ∀ X : List Slot, (∀ x ∈ X, x.t ≠ s.t) → (rowsOf X).map (fun r => if r.1 = s.t then (s.t, mk) else r) = rowsOf X := fun X hX => by
    have : ∀ r ∈ rowsOf X, (fun r : Tup × Int => if r.1 = s.t then (s.t, mk) else r) r = r := fun r hr => by
      unfold rowsOf liveL at hr
      obtain ⟨x, hx, rfl⟩ := List.mem_map.1 hr
      exact if_neg (hX x (List.mem_filter.1 hx).1)
    rw [List.map_congr_left this, List.map_id']
  rw [rowsOf_app, rowsOf_cons, rowsOf_app, rowsOf_cons, if_pos hl, if_pos hl, List.map_append, List.map_cons, if_pos rfl, idm A (fun x hx e => hN3 x.t (List.mem_map.2 ⟨x, hx, rfl⟩) s.t List.mem_cons_self e), idm B' (fun x hx e => hN2.1 (List.mem_map.2 ⟨x, hx, e⟩))]
theorem mark_st {B : Nat} {O : Own} {W : World} {gr o : Nat} {tyr : TypeId} {i ar : Nat} {L : List Slot} {K : List IxD} {Cr : List Value} {lr : Lab} (h : RelSt B O W gr o tyr i ar L K Cr) (hlr : O gr = lr) (hnl : ¬ isRel i lr) (hV : RInv ar L K) {n : Nat} {s : Slot} (hs : L[n]? = some s) (hl : s.live = true) (mk : Int) :
    ∃ gs Cs sn sc, nth Cr (o + 1) = some (.slice (some ⟨gs, 0, none⟩) sn sc) ∧ blk W gs = some Cs ∧ free W gs = true ∧ n < sn ∧ n * 6 + 6 ≤ Cs.length ∧ RelSt B O (put W gs (splice Cs (n * 6 + 4) [.int .i64 mk])) gr o tyr i ar (L.set n { s with mark := mk }) K Cr ∧ RInv ar (L.set n { s with mark := mk }) K ∧ Fr (isRelR i lr) O W O (put W gs (splice Cs (n * 6 + 4) [.int .i64 mk])) := by
  obtain ⟨sa, sn, sc, ia, iN, ic, hty, hR, hI⟩ := h
  have hnsn : n < sn := by have := (List.getElem?_eq_some_iff.1 hs).1; have := hI.lens.1; omega
  obtain ⟨gs, Cs, rfl, hCs, hfs, hogs, hBs, hn6, hsegs, hset⟩ := hI.slots.set Slot.length_enc (i := n) hnsn ({ s with mark := mk } : Slot)
  have hsp := slot_set4 (hsegs n s hs) hn6 mk
  rw [← hsp] at hset
  have hgn : gr ≠ gs := fun e => by rw [← e, hlr] at hogs; exact hnl (.inl hogs)
  have htt : (L.set n { s with mark := mk }).map (·.t) = L.map (·.t) := set_t hs rfl
  have hrl : (liveL (L.set n { s with mark := mk })).length = (liveL L).length := by rw [← rowsOf_len, rows_mark hV.nodup hs hl, List.length_map, rowsOf_len]
  have hF : Fr (fun l => l = .slots i) O W O (put W gs (splice Cs (n * 6 + 4) [.int .i64 mk])) := Fr.put (Fr.refl _ _ _) (by rw [hogs]) _
  have hne : ∀ l, isRel i l → l ≠ .slots i → ¬ (l = .slots i) := fun l _ h2 => h2
  refine ⟨gs, Cs, sn, sc, hR.c1, hCs, hfs, hnsn, hn6, ⟨_, sn, sc, ia, iN, ic, ?_, by rw [hrl]; exact hR, ?_⟩, ?_, ?_⟩
  · rw [heap_put, if_neg hgn]; exact hty
  · refine ⟨hset, by rw [List.length_set]; exact hI.idx.fr hF (by intro e; cases e), fun j k hk => ?_⟩
    obtain ⟨g1, g2, g3⟩ := (hI.ixs j k hk).fr hF (by intro e; cases e) (by intro e; cases e)
    exact ⟨g1, by rw [bsOf_congr htt]; exact g2, by rw [bsOf_congr htt, List.length_set]; exact g3⟩
  · refine ⟨hV.ar4, by rw [htt]; exact hV.nodup, by rw [hrl]; exact hV.live, ?_, hV.sizes, hV.masks, hV.mlt⟩
    obtain ⟨k, h1, h2, h3⟩ := hV.k0
    exact ⟨k, h1, h2, by rw [List.length_set]; exact h3⟩
  · exact Fr.put (Fr.refl _ _ _) (by rw [hogs]; exact .inr (.inl rfl)) _
set_option maxRecDepth 20000 in
set_option maxHeartbeats 2000000 in
theorem setMarkS_any (B : Nat) (O : Own) (W : World) (bs : Nat) (st : StS) (hS : StAt B O W bs st) (id : Int) (t : Tup) (mk : Int) :
    Calls Try.prog 43 #[.pointer (some ⟨bs, 0, none⟩), .int .i64 id, .agg (arr i64v t).toArray, .int .i64 mk] W (ActPost B O W bs (setF st id t mk) st id (setP t mk)) := by
  by_cases hid : 0 ≤ id ∧ id < (st.rels.length : Int)
  rotate_left 1
  · have e : setF st id t mk = 7 := by unfold setF rowCode; rw [relF_none hid]; rfl
    rw [e]
    obtain ⟨Q, hQ⟩ : ∃ Q, Q = ActPost B O W bs 7 st id (setP t mk) := ⟨_, rfl⟩
    have HQ : Hid (Q = ActPost B O W bs 7 st id (setP t mk)) := hQ
    rw [← hQ]
    clear e hQ
    go_enter Try.func43, Try.ntmps43
    go_upto_region 1 with fail
    refine wp_world (fun W0 => blk W0 W.heap.size = some (arr i64v t) ∧ W.Extends W0) ⟨?_, extends_alloc (ext_Ext (Ext.refl _)) _⟩ ?_
    · rw [blk_alloc, if_pos rfl]
    rintro W0 ⟨hb5, HE0⟩
    obtain ⟨b5, e5⟩ : ∃ b5, b5 = W.heap.size := ⟨_, rfl⟩
    rw [← e5] at hb5 ⊢
    clear e5
    obtain ⟨na, nn, nc, ta, tn, tc, ra, rn, rc, hb, hrn, _⟩ := stat_bad (hS.ext HE0)
    have HE : Hid (W.Extends W0) := HE0
    have hrb := row_bad W0 bs na nn nc ta tn tc ra rn rc hb id (by rw [hrn]; exact hid) t
    have HS : Hid (StAt B O W bs st) := hS
    clear hb hrn HE0 hid hS
    go_wp2_with fail
    refine hrb.mono ?_
    rintro e W1 ⟨rfl, hE1⟩
    have HE1 : Hid (W.Extends W1) := HE.out.trans hE1
    have HP : Hid (Q (.returned (.int .i64 7)) W1) := by show Q _ _; rw [HQ.out]; exact act_no HS.out HE1.out (by decide)
    clear hE1 HQ
    dsimp only
    go_wp2_with fail
    try go_ret
    exact HP.out
  obtain ⟨n, rfl⟩ : ∃ n : Nat, id = (n : Int) := ⟨id.toNat, by omega⟩
  obtain ⟨s, hs⟩ : ∃ s, st.rels[n]? = some s := ⟨_, List.getElem?_eq_getElem (by omega)⟩
  have hrf := relF_some hs
  have hcode : rowCode st (n : Int) t = rowC st.names.length s.ar t := by unfold rowCode; rw [hrf]
  have hrows : rowsS st (n : Int) = rowsOf s.L := by unfold rowsS; rw [hrf]
  obtain ⟨R, hR⟩ : ∃ R, R = setF st (n : Int) t mk := ⟨_, rfl⟩
  have HR : Hid (R = setF st (n : Int) t mk) := hR
  rw [← hR]
  obtain ⟨c, hc⟩ : ∃ c, c = rowC st.names.length s.ar t := ⟨_, rfl⟩
  have hc' := hcode.trans hc.symm
  have HC : Hid (rowCode st (n : Int) t = c) := hc'
  have HRW : Hid (rowsS st (n : Int) = rowsOf s.L) := hrows
  have HRF : Hid (relF st (n : Int) = some s) := hrf
  have HS : Hid (StAt B O W bs st) := hS
  obtain ⟨Q, hQ⟩ : ∃ Q, Q = ActPost B O W bs R st (n : Int) (setP t mk) := ⟨_, rfl⟩
  have HQ : Hid (Q = ActPost B O W bs R st (n : Int) (setP t mk)) := hQ
  rw [← hQ]
  clear hR hid hQ
  go_enter Try.func43, Try.ntmps43
  go_upto_region 1 with fail
  refine wp_world (fun W0 => blk W0 W.heap.size = some (arr i64v t) ∧ W.Extends W0) ⟨?_, extends_alloc (ext_Ext (Ext.refl _)) _⟩ ?_
  · rw [blk_alloc, if_pos rfl]
  rintro W0 ⟨hb5, HE0⟩
  obtain ⟨b5, e5⟩ : ∃ b5, b5 = W.heap.size := ⟨_, rfl⟩
  rw [← e5] at hb5 ⊢
  clear e5
  obtain ⟨na, nn, nc, ta, tn, tc, gr, rn, rc, Cr, K, ho⟩ := stat_opn (hS.ext HE0) hs
  have HO : Hid (Opn B O W0 bs st n s na nn nc ta tn tc gr rn rc Cr K) := ho
  have HE : Hid (W.Extends W0) := HE0
  have hrow := ho.row t
  rw [← hc] at hrow
  clear hc hc' hcode hrows hrf ho HE0 hS hs
  go_wp2_with fail
  refine hrow.mono ?_
  rintro e W1 ⟨rfl, hE1⟩
  have hb51 : blk W1 b5 = some (arr i64v t) := (hE1.blk (blk_lt hb5)).trans hb5
  have HE1 : Hid (W.Extends W1) := HE.out.trans hE1
  have HO1 : Hid (Opn B O W1 bs st n s na nn nc ta tn tc gr rn rc Cr K) := HO.out.ext hE1
  clear hE1 hrow
  by_cases hc0 : c = 0
  · subst hc0
    have hV : rowV gr n 0 = .tuple #[.pointer (some ⟨gr, n * 4, none⟩), .int .i64 0] := rfl
    rw [hV]
    clear hV
    dsimp only
    have hfi := find_st HO1.out.rs HO1.out.inv t
    by_cases hmk : 0 ≤ mk ∧ mk ≤ 255
    rotate_left 1
    · have hr : R = 11 := by rw [HR.out]; unfold setF; rw [if_pos HC.out, if_neg hmk]
      have HP : Hid (Q (.returned (.int .i64 11)) W1) := by show Q _ _; rw [HQ.out, hr]; exact act_no HS.out HE1.out (by decide)
      clear HR hr HQ
      by_cases hm0 : mk < 0
      · go_wp2_with fail
        try go_ret
        exact HP.out
      · have hm1 : (255 : Int) < mk := by omega
        go_wp2_with fail
        try go_ret
        exact HP.out
    have hm0 : ¬ mk < 0 := by omega
    have hm1 : ¬ (255 : Int) < mk := by omega
    have HMK : Hid (0 ≤ mk ∧ mk ≤ 255) := hmk
    clear hmk
    go_wp2_with fail
    refine hfi.mono ?_
    rintro e W2 ⟨a, b, rfl, hP, hE2⟩
    have hb52 : blk W2 b5 = some (arr i64v t) := (hE2.blk (blk_lt hb51)).trans hb51
    have HE2 : Hid (W.Extends W2) := HE1.out.trans hE2
    have HO2 : Hid (Opn B O W2 bs st n s na nn nc ta tn tc gr rn rc Cr K) := HO1.out.ext hE2
    have HFC := find_cases HO1.out.inv.nodup hP
    clear hE2 hfi hb51 hb5 hP
    dsimp only
    obtain ⟨k1, k2, k3, k4, sa, sn, sc, k5, k6⟩ := HO2.out.rs.cells
    have d2 : n * 4 + 2 + 1 ≤ Cr.length := by omega
    have d3 : n * 4 < Cr.length := by omega
    have d1 : n * 4 + 1 + 1 ≤ Cr.length := by omega
    rcases HFC with ⟨g1, rfl, m, sl, rfl, g2, g3, g4⟩ | ⟨g1, rfl, g2⟩
    · have m0 : (0 : Int) ≤ (m : Int) := by omega
      have mlt : ¬ (m : Int) < 0 := by omega
      clear k5 k6
      obtain ⟨gs, Cs, sn', sc', j1, j2, j3, j4, j5, j6, j7, j8⟩ := mark_st HO2.out.rs HO2.out.lab (not_rels n) HO2.out.inv g2 g4 mk
      have hr : R = 0 := by rw [HR.out]; unfold setF; rw [if_pos HC.out, if_pos HMK.out, HRW.out, if_pos g1]
      have HP : Hid (Q (.returned (.int .i64 0)) (put W2 gs (splice Cs (m * 6 + 4) [.int .i64 mk]))) := by show Q _ _; rw [HQ.out, hr]; exact act_yes HO2.out HE2.out HRF.out j8 j6 (RelCh.refl _ _) j7 ⟨HO2.out.ms, by rw [← g3]; exact rows_mark HO2.out.inv.nodup g2 g4 mk⟩
      have m1 : (m : Int) < (sn' : Int) := by omega
      have m2 : ((m : Int)).toNat = m := by omega
      have d4 : m * 6 + 4 + 1 ≤ Cs.length := by omega
      have d5 : m * 6 < Cs.length := by omega
      clear HR hr HQ j6 j7 j8 g1 g2 g3 g4
      go_wp2_with fail
      try go_ret
      exact HP.out
    · clear g2
      have hr : R = 2 := by rw [HR.out]; unfold setF; rw [if_pos HC.out, if_pos HMK.out, HRW.out, if_neg g1]
      have HP : Hid (Q (.returned (.int .i64 2)) W2) := by show Q _ _; rw [HQ.out, hr]; exact act_no HS.out HE2.out (by decide)
      clear HR hr HQ
      go_wp2_with fail
      try go_ret
      exact HP.out
  · have hcb : (c == 0) = false := by simp [hc0]
    have hcn : (c != 0) = true := by simp [hc0]
    have hr : R = c := by rw [HR.out]; unfold setF; rw [if_neg (by rw [HC.out]; exact hc0), HC.out]
    have hV : rowV gr n c = .tuple #[.pointer none, .int .i64 c] := by unfold rowV; rw [if_neg hc0]
    have HP : Hid (Q (.returned (.int .i64 c)) W1) := by show Q _ _; rw [HQ.out, hr]; exact act_no HS.out HE1.out hc0
    rw [hV]
    clear hV HR hr HQ
    dsimp only
    go_wp2_with fail
    try go_ret
    exact HP.out
def compP (s s' : RelS) : Prop := s'.M = s.M ∧ rowsOf s'.L = rowsOf s.L
def clearP (s s' : RelS) : Prop := s'.M = s.M ∧ rowsOf s'.L = []
set_option maxRecDepth 20000 in
set_option maxHeartbeats 1000000 in
theorem compactS_any (B : Nat) (O : Own) (W : World) (bs : Nat) (st : StS) (hS : StAt B O W bs st) (id : Int) :
    Calls Try.prog 41 #[.pointer (some ⟨bs, 0, none⟩), .int .i64 id] W (ActPost B O W bs (relCode st id) st id compP) := by
  by_cases hid : 0 ≤ id ∧ id < (st.rels.length : Int)
  · obtain ⟨n, rfl⟩ : ∃ n : Nat, id = (n : Int) := ⟨id.toNat, by omega⟩
    obtain ⟨s, hs⟩ : ∃ s, st.rels[n]? = some s := ⟨_, List.getElem?_eq_getElem (by omega)⟩
    have hrf := relF_some hs
    have hc : relCode st (n : Int) = 0 := by unfold relCode; rw [hrf]
    rw [hc]
    obtain ⟨Q, hQ⟩ : ∃ Q, Q = ActPost B O W bs 0 st (n : Int) compP := ⟨_, rfl⟩
    have HQ : Hid (Q = ActPost B O W bs 0 st (n : Int) compP) := hQ
    rw [← hQ]
    obtain ⟨na, nn, nc, ta, tn, tc, gr, rn, rc, Cr, K, ho⟩ := stat_opn hS hs
    have HO : Hid (Opn B O W bs st n s na nn nc ta tn tc gr rn rc Cr K) := ho
    have hrel := ho.rel
    have HRF : Hid (relF st (n : Int) = some s) := hrf
    clear ho hrf hc hQ hS hs hid
    go_enter Try.func41, Try.ntmps41
    go_wp2_with fail
    refine hrel.mono ?_
    rintro e W1 ⟨rfl, rfl⟩
    dsimp only
    go_wp2_with fail
    have hV := HO.out.inv
    obtain ⟨sa, sn, sc, ia, iN, ic, hty, hR, hI⟩ := HO.out.rs
    obtain ⟨hLn, hKn⟩ := hI.lens
    have hfew := hV.few
    refine (compact_any B O W1 gr (n * 4) Cr 109 .rels n (s.ar : Int) sa sn sc _ ia iN ic s.L K hty HO.out.lab (not_rels n) hR hI (by omega) (by omega) HO.out.base).mono ?_
    rintro e W3 ⟨rfl, O3, K3, hF3, hT3, hI3, hM3, hZ3⟩
    obtain ⟨hV3, _⟩ := rinv_live hV hM3 hZ3 hI3.sz
    have HP : Hid (Q (.returned (.int .i64 0)) W3) := by
      show Q _ _
      rw [HQ.out]
      refine act_yes HO.out (ext_Ext (Ext.refl _)) HRF.out hF3 (L' := liveL s.L) (K' := K3) ⟨_, _, sc, ia, iN, ic, hT3, ?_, hI3⟩ (RelCh.put 1 _ (by omega) hR.len) hV3 ⟨hM3.trans HO.out.ms, rowsOf_live _⟩
      rw [liveL_live]; exact hR.set1 sa (liveL s.L).length sc
    clear HQ hF3 hT3 hI3 hM3 hZ3
    dsimp only
    go_wp2_with fail
    try go_ret
    exact HP.out
  · have e : relCode st id = 7 := by unfold relCode; rw [relF_none hid]
    rw [e]
    obtain ⟨na, nn, nc, ta, tn, tc, ra, rn, rc, hb, hrn, _⟩ := stat_bad hS
    have hrb := rel_bad W bs na nn nc ta tn tc ra rn rc hb id (by rw [hrn]; exact hid)
    obtain ⟨Q, hQ⟩ : ∃ Q, Q = ActPost B O W bs 7 st id compP := ⟨_, rfl⟩
    have HP : Hid (Q (.returned (.int .i64 7)) W) := by show Q _ _; rw [hQ]; exact act_no hS (ext_Ext (Ext.refl _)) (by decide)
    rw [← hQ]
    clear e hb hrn hS hid hQ
    go_enter Try.func41, Try.ntmps41
    go_wp2_with fail
    refine hrb.mono ?_
    rintro e W1 ⟨rfl, rfl⟩
    dsimp only
    go_wp2_with fail
    try go_ret
    exact HP.out
set_option maxRecDepth 20000 in
set_option maxHeartbeats 1000000 in
theorem clearS_any (B : Nat) (O : Own) (W : World) (bs : Nat) (st : StS) (hS : StAt B O W bs st) (id : Int) :
    Calls Try.prog 42 #[.pointer (some ⟨bs, 0, none⟩), .int .i64 id] W (ActPost B O W bs (relCode st id) st id clearP) := by
  by_cases hid : 0 ≤ id ∧ id < (st.rels.length : Int)
  · obtain ⟨n, rfl⟩ : ∃ n : Nat, id = (n : Int) := ⟨id.toNat, by omega⟩
    obtain ⟨s, hs⟩ : ∃ s, st.rels[n]? = some s := ⟨_, List.getElem?_eq_getElem (by omega)⟩
    have hrf := relF_some hs
    have hc : relCode st (n : Int) = 0 := by unfold relCode; rw [hrf]
    rw [hc]
    obtain ⟨Q, hQ⟩ : ∃ Q, Q = ActPost B O W bs 0 st (n : Int) clearP := ⟨_, rfl⟩
    have HQ : Hid (Q = ActPost B O W bs 0 st (n : Int) clearP) := hQ
    rw [← hQ]
    obtain ⟨na, nn, nc, ta, tn, tc, gr, rn, rc, Cr, K, ho⟩ := stat_opn hS hs
    have HO : Hid (Opn B O W bs st n s na nn nc ta tn tc gr rn rc Cr K) := ho
    have hrel := ho.rel
    have HRF : Hid (relF st (n : Int) = some s) := hrf
    clear ho hrf hc hQ hS hs hid
    go_enter Try.func42, Try.ntmps42
    go_wp2_with fail
    refine hrel.mono ?_
    rintro e W1 ⟨rfl, rfl⟩
    dsimp only
    go_wp2_with fail
    have hV := HO.out.inv
    obtain ⟨sa, sn, sc, ia, iN, ic, hty, hR, hI⟩ := HO.out.rs
    obtain ⟨hLn, hKn⟩ := hI.lens
    have hfew := hV.few
    refine (clear_any B O W1 gr (n * 4) Cr 109 .rels n (s.ar : Int) sa sn sc _ ia iN ic s.L K hty HO.out.lab (not_rels n) hR hI (by omega) (by omega) HO.out.base).mono ?_
    rintro e W3 ⟨rfl, O3, K3, hF3, hT3, hI3, hM3, hZ3⟩
    have HP : Hid (Q (.returned (.int .i64 0)) W3) := by
      show Q _ _
      rw [HQ.out]
      have hR1 := hR.set1 sa 0 sc
      refine act_yes HO.out (ext_Ext (Ext.refl _)) HRF.out hF3 (L' := []) (K' := K3) ⟨_, 0, sc, ia, iN, ic, hT3, hR1.set2 0, hI3⟩ ((RelCh.put 1 _ (by omega) hR.len).trans (RelCh.put 2 _ (by omega) hR1.len)) ?_ ⟨hM3.trans HO.out.ms, rfl⟩
      refine ⟨hV.ar4, List.nodup_nil, Nat.zero_le _, ?_, fun k hk => szB_le (hZ3 k hk) (Nat.zero_le _), by rw [hM3]; exact hV.masks, fun k hk => ?_⟩
      · obtain ⟨k, h1, h2, h3⟩ := hV.k0
        have h4 := congrArg (fun l => l[0]?) hM3
        simp only [List.getElem?_map, h1, Option.map_some] at h4
        cases h5 : K3[0]? with
        | none => rw [h5] at h4; cases h4
        | some k' => rw [h5] at h4; exact ⟨k', rfl, (Option.some.inj h4).trans h2, Nat.zero_le _⟩
      · have : k.m ∈ K3.map (·.m) := List.mem_map.2 ⟨k, hk, rfl⟩
        rw [hM3] at this
        obtain ⟨k', h1, h2⟩ := List.mem_map.1 this
        rw [← h2]; exact hV.mlt k' h1
    clear HQ hF3 hT3 hI3 hM3 hZ3
    dsimp only
    go_wp2_with fail
    try go_ret
    exact HP.out
  · have e : relCode st id = 7 := by unfold relCode; rw [relF_none hid]
    rw [e]
    obtain ⟨na, nn, nc, ta, tn, tc, ra, rn, rc, hb, hrn, _⟩ := stat_bad hS
    have hrb := rel_bad W bs na nn nc ta tn tc ra rn rc hb id (by rw [hrn]; exact hid)
    obtain ⟨Q, hQ⟩ : ∃ Q, Q = ActPost B O W bs 7 st id clearP := ⟨_, rfl⟩
    have HP : Hid (Q (.returned (.int .i64 7)) W) := by show Q _ _; rw [hQ]; exact act_no hS (ext_Ext (Ext.refl _)) (by decide)
    rw [← hQ]
    clear e hb hrn hS hid hQ
    go_enter Try.func42, Try.ntmps42
    go_wp2_with fail
    refine hrb.mono ?_
    rintro e W1 ⟨rfl, rfl⟩
    dsimp only
    go_wp2_with fail
    try go_ret
    exact HP.out
end Go.Proofs.Qxb6500789a
