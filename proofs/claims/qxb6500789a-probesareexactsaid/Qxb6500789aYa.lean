import Derived.Test.Qxb6500789aXz
import Derived.StillTailTactics
import Derived.Deep.QuietTactic
import Derived.BigQuiet
import Derived.Deep.RegionHeld
import Derived.Deep.CutRange
import Derived.Laws.ResultCell
import Derived.Laws.Rows
import Derived.DeepKeys
import Derived.DataBytes
import Derived.Laws.StructEq
import Derived.Laws.AppendOwn
import Derived.Laws.MakeOwn
import Derived.Lib.AppendStr
set_option linter.unusedSimpArgs false
set_option linter.unusedVariables false
namespace Go.Proofs.Qxb6500789a
open Go.RowKit Go.Blk
attribute [local go_sem ↓] execOp_load execOp_store execOp_alloc
attribute [local go_sem] Try.ld29 Try.st29 Try.ld3 Try.st3 Try.ld9 Try.st9 Try.ld30 Try.st30 Try.ld34 Try.st34 Try.ld35 Try.st35 Try.ld36 Try.st36 Try.ld37 Try.st37 Try.ld44 Try.st44 Try.ld45 Try.st45 Try.ld54 Try.st54 Try.ld55 Try.st55 Try.ld74 Try.st74 Try.ld80 Try.st80 Try.ld84 Try.st84 Try.ld106 Try.st106 Try.ld107 Try.st107 Try.ld4 Try.st4 Try.ld121 Try.st121 Try.ld2 Try.st2 Try.ld5 Try.st5 Try.ld12 Try.st12 Try.ld21 Try.st21 Try.ld22 Try.st22 Try.ld24 Try.st24 Try.ld26 Try.st26 Try.ld63 Try.st63 Try.ld71 Try.st71 Try.ld103 Try.st103 Try.ld130 Try.st130 Try.ld133 Try.st133 Try.ld140 Try.st140 Try.ld152 Try.st152 Try.ld39 Try.st39 Try.ld32 Try.st32 Try.ld41 Try.st41 Try.ld47 Try.st47 Try.ld57 Try.st57 Try.ld62 Try.st62 Try.ld76 Try.st76 Try.ld82 Try.st82 Try.ld86 Try.st86 Try.ld109 Try.st109 Try.ld115 Try.st115 Try.ld123 Try.st123 Try.ld135 Try.st135 Try.al39 Try.al32 Try.al41 Try.al47 Try.al57 Try.al62 Try.al76 Try.al82 Try.al86 Try.al109 Try.al115 Try.al123 Try.al135
attribute [local go_sem] Answer.length_enc Answer.ok_enc Answer.all_get Answer.all_set Answer.code_get Answer.code_set Answer.n_get Answer.n_set Answer.name_get Answer.name_set Answer.rows_get Answer.rows_set GOp.length_enc GOp.ok_enc GOp.all_get GOp.all_set GOp.kind_get GOp.kind_set GOp.rel_get GOp.rel_set GOp.mask_get GOp.mask_set GOp.t_get GOp.t_set GOp.n_get GOp.n_set GOp.name_get GOp.name_set Store.length_enc Store.ok_enc Store.all_get Store.all_set Store.names_get Store.names_set Store.rels_get Store.rels_set GRel.length_enc GRel.ok_enc GRel.all_get GRel.all_set GRel.arity_get GRel.arity_set GRel.masks_get GRel.masks_set GRel.rows_get GRel.rows_set Row.length_enc Row.ok_enc Row.all_get Row.all_set Row.t_get Row.t_set Row.mark_get Row.mark_set View.length_enc View.ok_enc View.all_get View.all_set View.names_get View.names_set View.rels_get View.rels_set Symtab.length_enc Symtab.ok_enc Symtab.all_get Symtab.all_set Symtab.names_get Symtab.names_set Symtab.table_get Symtab.table_set StoreTuplestore.length_enc StoreTuplestore.ok_enc StoreTuplestore.all_get StoreTuplestore.all_set StoreTuplestore.syms_get StoreTuplestore.syms_set StoreTuplestore.rels_get StoreTuplestore.rels_set StoreTuplestore.syms_names_get StoreTuplestore.syms_names_set StoreTuplestore.syms_table_get StoreTuplestore.syms_table_set Relation.length_enc Relation.ok_enc Relation.all_get Relation.all_set Relation.arity_get Relation.arity_set Relation.slots_get Relation.slots_set Relation.live_get Relation.live_set Relation.idx_get Relation.idx_set Slot.length_enc Slot.ok_enc Slot.all_get Slot.all_set Slot.t_get Slot.t_set Slot.mark_get Slot.mark_set Slot.live_get Slot.live_set RelView.length_enc RelView.ok_enc RelView.all_get RelView.all_set RelView.arity_get RelView.arity_set RelView.rows_get RelView.rows_set RelView.marks_get RelView.marks_set RelView.indexed_get RelView.indexed_set Index.length_enc Index.ok_enc Index.all_get Index.all_set Index.mask_get Index.mask_set Index.heads_get Index.heads_set Index.next_get Index.next_set
attribute [local go_sem] size_put size_ext blk_put free_put blk_alloc free_alloc blk_drew free_drew blk_ext free_ext lookOr_some putOr_some segAt_some cellAt_some storeIn_some put_put put_alloc_new length_arr ok_arr_u8 ok_arr_u32 ok_arr_u64 ok_arr_i64 ok_arr_sl cellsV_agg cellsV_int cellsV_bool cellsV_string cellsV_pointer cellsV_slice cellsV_sl ok_int ok_bool ok_string ok_pointer ok_slice ok_sl toList_arr seg_arr set_arr nth_splice nth_splice0 seg_splice seg_splice0 splice_splice splice_splice0 length_splice_if
attribute [local go_sem ↓] execOp_box
attribute [local go_sem] box_run nth_arr_u8 put_arr_u8 blk_drewN free_drewN put_drewN blk_raw free_raw
theorem RelSt.ext {B : Nat} {O : Own} {W W' : World} {gr o : Nat} {tyr : TypeId} {i ar : Nat} {L : List Slot} {K : List IxD} {Cr : List Value} (h : RelSt B O W gr o tyr i ar L K Cr) (he : W.Extends W') : RelSt B O W' gr o tyr i ar L K Cr := by
  obtain ⟨sa, sn, sc, ia, iN, ic, h1, h2, h3⟩ := h
  exact ⟨sa, sn, sc, ia, iN, ic, (he.block gr (Array.getElem?_eq_some_iff.1 h1).1).trans h1, h2, h3.ext he⟩
theorem find_st {B : Nat} {O : Own} {W : World} {gr o : Nat} {tyr : TypeId} {i ar : Nat} {L : List Slot} {K : List IxD} {Cr : List Value} (h : RelSt B O W gr o tyr i ar L K Cr) (hV : RInv ar L K) (t : Tup) : Calls Try.prog 62 #[.pointer (some ⟨gr, o, none⟩), .agg (arr i64v t).toArray] W (FindPost W L t) := by
  obtain ⟨sa, sn, sc, ia, iN, ic, h1, h2, h3⟩ := h
  obtain ⟨k, hk, _, hk2⟩ := hV.k0
  have := hV.sizes k (List.mem_of_getElem? hk)
  have hl := h3.lens.1
  exact find_any B O W gr o Cr i _ sa sn sc _ ia iN ic L K t (blk_mk h1) h2 h3 (List.getElem?_eq_some_iff.1 hk).1 (by omega)
theorem mem_rows {L : List Slot} {t : Tup} : t ∈ (rowsOf L).map (·.1) ↔ ∃ s ∈ L, s.t = t ∧ s.live = true := by
  unfold rowsOf liveL
  simp only [List.mem_map, List.mem_filter]
  constructor
  · rintro ⟨_, ⟨s, ⟨h1, h2⟩, rfl⟩, rfl⟩; exact ⟨s, h1, rfl, h2⟩
  · rintro ⟨s, h1, rfl, h2⟩; exact ⟨_, ⟨s, ⟨h1, h2⟩, rfl⟩, rfl⟩
theorem nodup_one {L : List Slot} (h : (L.map (·.t)).Nodup) {s s' : Slot} (hs : s ∈ L) (hs' : s' ∈ L) (e : s.t = s'.t) : s = s' := by
  induction L with
  | nil => cases hs
  | cons x L ih =>
    rw [List.map_cons, List.nodup_cons] at h
    rcases List.mem_cons.1 hs with rfl | h1
    · rcases List.mem_cons.1 hs' with h2 | h2
      · exact h2.symm
      · exact absurd (List.mem_map.2 ⟨s', h2, e.symm⟩) h.1
    · rcases List.mem_cons.1 hs' with rfl | h2
      · exact absurd (List.mem_map.2 ⟨s, h1, e⟩) h.1
      · exact ih h.2 h1 h2
/-- What find answers, told of the rows. -/
theorem find_cases {L : List Slot} {t : Tup} {a b : Int} (hN : (L.map (·.t)).Nodup) (h : FindP L t a b) :
    (t ∈ (rowsOf L).map (·.1) ∧ b = -1 ∧ ∃ (n : Nat) (s : Slot), a = (n : Int) ∧ L[n]? = some s ∧ s.t = t ∧ s.live = true) ∨
    (t ∉ (rowsOf L).map (·.1) ∧ a = -1 ∧ ((b = -1 ∧ ∀ s ∈ L, s.t ≠ t) ∨ ∃ (n : Nat) (s : Slot), b = (n : Int) ∧ L[n]? = some s ∧ s.t = t ∧ s.live = false)) := by
  rcases h with ⟨n, s, h1, h2, ⟨h3, h4, h5⟩ | ⟨h3, h4, h5⟩⟩ | ⟨h1, h2, h3⟩
  · exact .inl ⟨mem_rows.2 ⟨s, List.mem_of_getElem? h1, h2, h3⟩, h5, n, s, h4, h1, h2, h3⟩
  · refine .inr ⟨fun hm => ?_, h4, .inr ⟨n, s, h5, h1, h2, h3⟩⟩
    obtain ⟨s', g1, g2, g3⟩ := mem_rows.1 hm
    have := nodup_one hN (List.mem_of_getElem? h1) g1 (h2.trans g2.symm)
    rw [← this, h3] at g3; cases g3
  · refine .inr ⟨fun hm => ?_, h2, .inl ⟨h3, h1⟩⟩
    obtain ⟨s', g1, g2, g3⟩ := mem_rows.1 hm
    exact h1 s' g1 g2
def relF (st : StS) (id : Int) : Option RelS := if 0 ≤ id ∧ id < (st.rels.length : Int) then st.rels[id.toNat]? else none
def rowsS (st : StS) (id : Int) : List (Tup × Int) := match relF st id with | none => [] | some s => rowsOf s.L
def relCode (st : StS) (id : Int) : Int := match relF st id with | none => 7 | some _ => 0
def rowCode (st : StS) (id : Int) (t : Tup) : Int := match relF st id with | none => 7 | some s => rowC st.names.length s.ar t
def colCode (st : StS) (id : Int) (m : Int) : Int := match relF st id with | none => 7 | some s => colC s.ar m
theorem relF_none {st : StS} {id : Int} (h : ¬ (0 ≤ id ∧ id < (st.rels.length : Int))) : relF st id = none := if_neg h
theorem relF_some {st : StS} {n : Nat} {s : RelS} (h : st.rels[n]? = some s) : relF st (n : Int) = some s := by
  unfold relF
  have := (List.getElem?_eq_some_iff.1 h).1
  rw [if_pos ⟨by omega, by omega⟩, Int.toNat_natCast]; exact h
theorem stat_bad {B : Nat} {O : Own} {W : World} {bs : Nat} {st : StS} (h : StAt B O W bs st) : ∃ na nn nc ta tn tc ra rn rc, blk W bs = some (stE na nn nc ta tn tc ra rn rc) ∧ rn = st.rels.length ∧ nn = st.names.length := by
  obtain ⟨ra, rn, rc, R, ⟨T, na, nn, nc, ta, tn, tc, hsy, hni⟩, h2, h3, h4, h5, h6⟩ := h
  have hRn : R.length = rn := (h2.rw RelD.len).1.1
  exact ⟨na, nn, nc, ta, tn, tc, ra, rn, rc, hsy.1, by omega, (hsy.2.2.2.1.rw encS_len).1.1.symm⟩
/-- All that a call on relation n needs. -/
structure Opn (B : Nat) (O : Own) (W : World) (bs : Nat) (st : StS) (n : Nat) (s : RelS) (na : Option Addr) (nn nc : Nat) (ta : Option Addr) (tn tc gr rn rc : Nat) (Cr : List Value) (K : List IxD) : Prop where
  hb : blk W bs = some (stE na nn nc ta tn tc (some ⟨gr, 0, none⟩) rn rc)
  hnn : nn = st.names.length
  hn : n < rn
  hrn : rn ≤ 192
  rs : RelSt B O W gr (n * 4) 109 n s.ar s.L K Cr
  lab : O gr = .rels
  inv : RInv s.ar s.L K
  ms : K.map (·.m) = s.M
  base : B ≤ W.heap.size
  shut : ∀ O' W' Cr' L' K', Fr (isRelR n .rels) O W O' W' → RelSt B O' W' gr (n * 4) 109 n s.ar L' K' Cr' → RelCh Cr Cr' (n * 4) → RInv s.ar L' K' → StAt B O' W' bs ⟨st.names, st.rels.set n ⟨s.ar, L', K'.map (·.m)⟩⟩
theorem stat_opn {B : Nat} {O : Own} {W : World} {bs : Nat} {st : StS} (h : StAt B O W bs st) {n : Nat} {s : RelS} (hs : st.rels[n]? = some s) : ∃ na nn nc ta tn tc gr rn rc Cr K, Opn B O W bs st n s na nn nc ta tn tc gr rn rc Cr K := by
  have h192 : st.rels.length ≤ 192 := by obtain ⟨_, _, _, _, _, _, _, h4, _⟩ := h; exact h4
  obtain ⟨gr, rn, rc, Cr, K, ⟨T, na, nn, nc, ta, tn, tc, hsy, hni⟩, h2, h3, h4, h5, h6, h7, h8, h9⟩ := stat_open h hs
  exact ⟨na, nn, nc, ta, tn, tc, gr, rn, rc, Cr, K, ⟨hsy.1, (hsy.2.2.2.1.rw encS_len).1.1.symm, h2, by omega, h4, h5, h6, h7, h8, h9⟩⟩
theorem RelSt.cells {B : Nat} {O : Own} {W : World} {gr o : Nat} {tyr : TypeId} {i ar : Nat} {L : List Slot} {K : List IxD} {Cr : List Value} (h : RelSt B O W gr o tyr i ar L K Cr) : blk W gr = some Cr ∧ o + 4 ≤ Cr.length ∧ nth Cr o = some (.int .i64 (ar : Int)) ∧ nth Cr (o + 2) = some (.int .i64 ((liveL L).length : Int)) ∧ ∃ sa sn sc, nth Cr (o + 1) = some (.slice sa sn sc) ∧ Rw Slot.enc 6 W sa sn L := by
  obtain ⟨sa, sn, sc, ia, iN, ic, h1, ⟨r4, c0, c1, c2, c3⟩, h3⟩ := h
  exact ⟨blk_mk h1, r4, c0, c2, sa, sn, sc, c1, (h3.slots.rw Slot.length_enc).1⟩
theorem Opn.row {B : Nat} {O : Own} {W : World} {bs : Nat} {st : StS} {n : Nat} {s : RelS} {na : Option Addr} {nn nc : Nat} {ta : Option Addr} {tn tc gr rn rc : Nat} {Cr : List Value} {K : List IxD} (h : Opn B O W bs st n s na nn nc ta tn tc gr rn rc Cr K) (t : Tup) : Calls Try.prog 61 #[.pointer (some ⟨bs, 0, none⟩), .int .i64 (n : Int), .agg (arr i64v t).toArray] W fun e W' => e = .returned (rowV gr n (rowC st.names.length s.ar t)) ∧ W.Extends W' := by
  rw [← h.hnn]
  obtain ⟨g1, g2, g3, _⟩ := h.rs.cells
  exact row_ok W bs na nn nc ta tn tc gr rn rc h.hb Cr g1 n h.hn g2 s.ar g3 h.inv.ar4 h.hrn t
theorem Opn.rel {B : Nat} {O : Own} {W : World} {bs : Nat} {st : StS} {n : Nat} {s : RelS} {na : Option Addr} {nn nc : Nat} {ta : Option Addr} {tn tc gr rn rc : Nat} {Cr : List Value} {K : List IxD} (h : Opn B O W bs st n s na nn nc ta tn tc gr rn rc Cr K) : Calls Try.prog 58 #[.pointer (some ⟨bs, 0, none⟩), .int .i64 (n : Int)] W fun e W' => e = .returned (.tuple #[.pointer (some ⟨gr, n * 4, none⟩), .int .i64 0]) ∧ W' = W := by
  obtain ⟨g1, g2, g3, _⟩ := h.rs.cells
  exact rel_ok W bs na nn nc ta tn tc gr rn rc h.hb Cr g1 n h.hn g2 s.ar g3 h.inv.ar4 h.hrn
theorem Opn.cols {B : Nat} {O : Own} {W : World} {bs : Nat} {st : StS} {n : Nat} {s : RelS} {na : Option Addr} {nn nc : Nat} {ta : Option Addr} {tn tc gr rn rc : Nat} {Cr : List Value} {K : List IxD} (h : Opn B O W bs st n s na nn nc ta tn tc gr rn rc Cr K) (m : Int) (hm : m ≤ 9223372036854775807) : Calls Try.prog 63 #[.pointer (some ⟨bs, 0, none⟩), .int .i64 (n : Int), .int .i64 m] W fun e W' => e = .returned (rowV gr n (colC s.ar m)) ∧ W' = W := by
  obtain ⟨g1, g2, g3, _⟩ := h.rs.cells
  exact cols_ok W bs na nn nc ta tn tc gr rn rc h.hb Cr g1 n h.hn g2 s.ar g3 h.inv.ar4 h.hrn m hm
theorem Opn.ext {B : Nat} {O : Own} {W W' : World} {bs : Nat} {st : StS} {n : Nat} {s : RelS} {na : Option Addr} {nn nc : Nat} {ta : Option Addr} {tn tc gr rn rc : Nat} {Cr : List Value} {K : List IxD} (h : Opn B O W bs st n s na nn nc ta tn tc gr rn rc Cr K) (he : W.Extends W') : Opn B O W' bs st n s na nn nc ta tn tc gr rn rc Cr K :=
  ⟨(he.blk (blk_lt h.hb)).trans h.hb, h.hnn, h.hn, h.hrn, h.rs.ext he, h.lab, h.inv, h.ms, Nat.le_trans h.base he.size, fun O2 W2 Cr' L' K' hF => h.shut O2 W2 Cr' L' K' ((Fr.of_extends he).trans hF)⟩
def containsF (st : StS) (id : Int) (t : Tup) : Bool × Int := if rowCode st id t = 0 then (decide (t ∈ (rowsS st id).map (·.1)), 0) else (false, rowCode st id t)
def markF (st : StS) (id : Int) (t : Tup) : Int × Int := if rowCode st id t = 0 then (match (rowsS st id).find? (fun r => decide (r.1 = t)) with | some r => (r.2, 0) | none => (0, 2)) else (0, rowCode st id t)
theorem find_row {L : List Slot} (hN : (L.map (·.t)).Nodup) {n : Nat} {s : Slot} (hs : L[n]? = some s) (hl : s.live = true) : (rowsOf L).find? (fun r => decide (r.1 = s.t)) = some (s.t, s.mark) := by
  cases hf : (rowsOf L).find? (fun r => decide (r.1 = s.t)) with
  | none =>
    have := List.find?_eq_none.1 hf (s.t, s.mark) (by unfold rowsOf liveL; exact List.mem_map.2 ⟨s, List.mem_filter.2 ⟨List.mem_of_getElem? hs, hl⟩, rfl⟩)
    simp at this
  | some r =>
    have h1 := List.find?_some hf
    have h2 := List.mem_of_find?_eq_some hf
    unfold rowsOf liveL at h2
    obtain ⟨s', h3, rfl⟩ := List.mem_map.1 h2
    have h4 := nodup_one hN (List.mem_of_getElem? hs) (List.mem_filter.1 h3).1 (by simpa using (of_decide_eq_true h1).symm)
    rw [← h4]
theorem find_norow {L : List Slot} {t : Tup} (h : t ∉ (rowsOf L).map (·.1)) : (rowsOf L).find? (fun r => decide (r.1 = t)) = none :=
  List.find?_eq_none.2 (fun r hr e => h (List.mem_map.2 ⟨r, hr, of_decide_eq_true e⟩))
set_option maxRecDepth 20000 in
set_option maxHeartbeats 2000000 in
theorem contains_any (B : Nat) (O : Own) (W : World) (bs : Nat) (st : StS) (hS : StAt B O W bs st) (id : Int) (t : Tup) :
    Calls Try.prog 28 #[.pointer (some ⟨bs, 0, none⟩), .int .i64 id, .agg (arr i64v t).toArray] W fun e W' => e = .returned (.tuple #[.bool (containsF st id t).1, .int .i64 (containsF st id t).2]) ∧ W.Extends W' := by
  by_cases hid : 0 ≤ id ∧ id < (st.rels.length : Int)
  rotate_left 1
  · have e : containsF st id t = (false, 7) := by unfold containsF rowCode; rw [relF_none hid]; rfl
    rw [e]
    clear e
    go_enter Try.func28, Try.ntmps28
    go_upto_region 1 with fail
    refine wp_world (fun W0 => blk W0 W.heap.size = some (arr i64v t) ∧ W.Extends W0) ⟨?_, extends_alloc (ext_Ext (Ext.refl _)) _⟩ ?_
    · rw [blk_alloc, if_pos rfl]
    rintro W0 ⟨hb5, HE0⟩
    obtain ⟨b5, e5⟩ : ∃ b5, b5 = W.heap.size := ⟨_, rfl⟩
    rw [← e5] at hb5 ⊢
    clear e5
    obtain ⟨na, nn, nc, ta, tn, tc, ra, rn, rc, hb, hrn, _⟩ := stat_bad (hS.ext HE0)
    have HE : Hid (W.Extends W0) := HE0
    have hrb := row_bad W0 bs na nn nc ta tn tc ra rn rc hb id (by rw [hrn]; exact hid) t
    clear hb hrn HE0 hid hS
    go_wp2_with fail
    refine hrb.mono ?_
    rintro e W1 ⟨rfl, hE1⟩
    have HE1 : Hid (W.Extends W1) := HE.out.trans hE1
    clear hE1
    dsimp only
    go_wp2_with fail
    go_ret2
    exact ⟨rfl, HE1.out⟩
  obtain ⟨n, rfl⟩ : ∃ n : Nat, id = (n : Int) := ⟨id.toNat, by omega⟩
  obtain ⟨s, hs⟩ : ∃ s, st.rels[n]? = some s := ⟨_, List.getElem?_eq_getElem (by omega)⟩
  have hrf := relF_some hs
  have hcode : rowCode st (n : Int) t = rowC st.names.length s.ar t := by unfold rowCode; rw [hrf]
  have hrows : rowsS st (n : Int) = rowsOf s.L := by unfold rowsS; rw [hrf]
  obtain ⟨R, hR⟩ : ∃ R, R = containsF st (n : Int) t := ⟨_, rfl⟩
  have HR : Hid (R = containsF st (n : Int) t) := hR
  rw [← hR]
  obtain ⟨c, hc⟩ : ∃ c, c = rowC st.names.length s.ar t := ⟨_, rfl⟩
  have hc' := hcode.trans hc.symm
  have HC : Hid (rowCode st (n : Int) t = c) := hc'
  have HRW : Hid (rowsS st (n : Int) = rowsOf s.L) := hrows
  clear hR hid
  go_enter Try.func28, Try.ntmps28
  go_upto_region 1 with fail
  refine wp_world (fun W0 => blk W0 W.heap.size = some (arr i64v t) ∧ W.Extends W0) ⟨?_, extends_alloc (ext_Ext (Ext.refl _)) _⟩ ?_
  · rw [blk_alloc, if_pos rfl]
  rintro W0 ⟨hb5, HE0⟩
  obtain ⟨b5, e5⟩ : ∃ b5, b5 = W.heap.size := ⟨_, rfl⟩
  rw [← e5] at hb5 ⊢
  clear e5
  obtain ⟨na, nn, nc, ta, tn, tc, gr, rn, rc, Cr, K, ho⟩ := stat_opn (hS.ext HE0) hs
  have HO : Hid (Opn B O W0 bs st n s na nn nc ta tn tc gr rn rc Cr K) := ho
  have HE : Hid (W.Extends W0) := HE0
  have hrow := ho.row t
  rw [← hc] at hrow
  clear hc hc' hcode hrows hrf ho HE0 hS hs
  go_wp2_with fail
  refine hrow.mono ?_
  rintro e W1 ⟨rfl, hE1⟩
  have hb51 : blk W1 b5 = some (arr i64v t) := (hE1.blk (blk_lt hb5)).trans hb5
  have HE1 : Hid (W.Extends W1) := HE.out.trans hE1
  have HO1 : Hid (Opn B O W1 bs st n s na nn nc ta tn tc gr rn rc Cr K) := HO.out.ext hE1
  clear hE1 hrow
  by_cases hc0 : c = 0
  · subst hc0
    have hV : rowV gr n 0 = .tuple #[.pointer (some ⟨gr, n * 4, none⟩), .int .i64 0] := rfl
    rw [hV]
    clear hV
    dsimp only
    have hfi := find_st HO1.out.rs HO1.out.inv t
    go_wp2_with fail
    refine hfi.mono ?_
    rintro e W2 ⟨a, b, rfl, hP, hE2⟩
    have HE2 : Hid (W.Extends W2) := HE1.out.trans hE2
    clear hE2 hfi
    rcases find_cases HO1.out.inv.nodup hP with ⟨g1, rfl, m, sl, rfl, g2, g3, g4⟩ | ⟨g1, rfl, g2⟩
    · have hr : R = (true, 0) := by rw [HR.out]; unfold containsF; rw [if_pos HC.out, HRW.out, decide_eq_true g1]
      clear HR hP
      subst hr
      have m0 : (0 : Int) ≤ (m : Int) := by omega
      dsimp only
      go_wp2_with fail
      go_ret2
      exact ⟨rfl, HE2.out⟩
    · have hr : R = (false, 0) := by rw [HR.out]; unfold containsF; rw [if_pos HC.out, HRW.out, decide_eq_false g1]
      clear HR hP g2
      subst hr
      dsimp only
      go_wp2_with fail
      go_ret2
      exact ⟨rfl, HE2.out⟩
  · have hcb : (c == 0) = false := by simp [hc0]
    have hcn : (c != 0) = true := by simp [hc0]
    have hr : R = (false, c) := by rw [HR.out]; unfold containsF; rw [if_neg (by rw [HC.out]; exact hc0), HC.out]
    have hV : rowV gr n c = .tuple #[.pointer none, .int .i64 c] := by unfold rowV; rw [if_neg hc0]
    rw [hV]
    clear hV HR
    subst hr
    dsimp only
    go_wp2_with fail
    go_ret2
    exact ⟨rfl, HE1.out⟩
set_option maxRecDepth 20000 in
set_option maxHeartbeats 2000000 in
theorem mark_any (B : Nat) (O : Own) (W : World) (bs : Nat) (st : StS) (hS : StAt B O W bs st) (id : Int) (t : Tup) :
    Calls Try.prog 23 #[.pointer (some ⟨bs, 0, none⟩), .int .i64 id, .agg (arr i64v t).toArray] W fun e W' => e = .returned (.tuple #[.int .i64 (markF st id t).1, .int .i64 (markF st id t).2]) ∧ W.Extends W' := by
  by_cases hid : 0 ≤ id ∧ id < (st.rels.length : Int)
  rotate_left 1
  · have e : markF st id t = (0, 7) := by unfold markF rowCode; rw [relF_none hid]; rfl
    rw [e]
    clear e
    go_enter Try.func23, Try.ntmps23
    go_upto_region 1 with fail
    refine wp_world (fun W0 => blk W0 W.heap.size = some (arr i64v t) ∧ W.Extends W0) ⟨?_, extends_alloc (ext_Ext (Ext.refl _)) _⟩ ?_
    · rw [blk_alloc, if_pos rfl]
    rintro W0 ⟨hb5, HE0⟩
    obtain ⟨b5, e5⟩ : ∃ b5, b5 = W.heap.size := ⟨_, rfl⟩
    rw [← e5] at hb5 ⊢
    clear e5
    obtain ⟨na, nn, nc, ta, tn, tc, ra, rn, rc, hb, hrn, _⟩ := stat_bad (hS.ext HE0)
    have HE : Hid (W.Extends W0) := HE0
    have hrb := row_bad W0 bs na nn nc ta tn tc ra rn rc hb id (by rw [hrn]; exact hid) t
    clear hb hrn HE0 hid hS
    go_wp2_with fail
    refine hrb.mono ?_
    rintro e W1 ⟨rfl, hE1⟩
    have HE1 : Hid (W.Extends W1) := HE.out.trans hE1
    clear hE1
    dsimp only
    go_wp2_with fail
    go_ret2
    exact ⟨rfl, HE1.out⟩
  obtain ⟨n, rfl⟩ : ∃ n : Nat, id = (n : Int) := ⟨id.toNat, by omega⟩
  obtain ⟨s, hs⟩ : ∃ s, st.rels[n]? = some s := ⟨_, List.getElem?_eq_getElem (by omega)⟩
  have hrf := relF_some hs
  have hcode : rowCode st (n : Int) t = rowC st.names.length s.ar t := by unfold rowCode; rw [hrf]
  have hrows : rowsS st (n : Int) = rowsOf s.L := by unfold rowsS; rw [hrf]
  obtain ⟨R, hR⟩ : ∃ R, R = markF st (n : Int) t := ⟨_, rfl⟩
  have HR : Hid (R = markF st (n : Int) t) := hR
  rw [← hR]
  obtain ⟨c, hc⟩ : ∃ c, c = rowC st.names.length s.ar t := ⟨_, rfl⟩
  have hc' := hcode.trans hc.symm
  have HC : Hid (rowCode st (n : Int) t = c) := hc'
  have HRW : Hid (rowsS st (n : Int) = rowsOf s.L) := hrows
  clear hR hid
  go_enter Try.func23, Try.ntmps23
  go_upto_region 1 with fail
  refine wp_world (fun W0 => blk W0 W.heap.size = some (arr i64v t) ∧ W.Extends W0) ⟨?_, extends_alloc (ext_Ext (Ext.refl _)) _⟩ ?_
  · rw [blk_alloc, if_pos rfl]
  rintro W0 ⟨hb5, HE0⟩
  obtain ⟨b5, e5⟩ : ∃ b5, b5 = W.heap.size := ⟨_, rfl⟩
  rw [← e5] at hb5 ⊢
  clear e5
  obtain ⟨na, nn, nc, ta, tn, tc, gr, rn, rc, Cr, K, ho⟩ := stat_opn (hS.ext HE0) hs
  have HO : Hid (Opn B O W0 bs st n s na nn nc ta tn tc gr rn rc Cr K) := ho
  have HE : Hid (W.Extends W0) := HE0
  have hrow := ho.row t
  rw [← hc] at hrow
  clear hc hc' hcode hrows hrf ho HE0 hS hs
  go_wp2_with fail
  refine hrow.mono ?_
  rintro e W1 ⟨rfl, hE1⟩
  have hb51 : blk W1 b5 = some (arr i64v t) := (hE1.blk (blk_lt hb5)).trans hb5
  have HE1 : Hid (W.Extends W1) := HE.out.trans hE1
  have HO1 : Hid (Opn B O W1 bs st n s na nn nc ta tn tc gr rn rc Cr K) := HO.out.ext hE1
  clear hE1 hrow
  by_cases hc0 : c = 0
  · subst hc0
    have hV : rowV gr n 0 = .tuple #[.pointer (some ⟨gr, n * 4, none⟩), .int .i64 0] := rfl
    rw [hV]
    clear hV
    dsimp only
    have hfi := find_st HO1.out.rs HO1.out.inv t
    go_wp2_with fail
    refine hfi.mono ?_
    rintro e W2 ⟨a, b, rfl, hP, hE2⟩
    have HE2 : Hid (W.Extends W2) := HE1.out.trans hE2
    clear hfi
    rcases find_cases HO1.out.inv.nodup hP with ⟨g1, rfl, m, sl, rfl, g2, g3, g4⟩ | ⟨g1, rfl, g2⟩
    · have hr : R = (sl.mark, 0) := by rw [HR.out]; unfold markF; rw [if_pos HC.out, HRW.out, ← g3, find_row HO1.out.inv.nodup g2 g4]
      have ho2 := HO1.out.ext hE2
      obtain ⟨k1, k2, k3, k4, sa, sn, sc, k5, k6⟩ := ho2.rs.cells
      obtain ⟨gs, Cs, rfl, hCs, hcs, hmn, _, v4, _, _⟩ := slot_at k6 g2
      have m0 : (0 : Int) ≤ (m : Int) := by omega
      have m1 : (m : Int) < (sn : Int) := by omega
      have m2 : ((m : Int)).toNat = m := by omega
      have hlt : ¬ (m : Int) < 0 := by omega
      have d0 : m * 6 + 4 + 1 ≤ Cs.length := by omega
      have d1 : m * 6 < Cs.length := by omega
      have d2 : n * 4 + 1 + 1 ≤ Cr.length := by omega
      have d3 : n * 4 < Cr.length := by omega
      obtain ⟨mv, hmv⟩ : ∃ mv, mv = sl.mark := ⟨_, rfl⟩
      rw [← hmv] at hr v4
      clear HR hP hmv g1 g2 g3 g4 k3 k4 k6 ho2 hE2
      subst hr
      dsimp only
      go_wp2_with fail
      go_ret2
      exact ⟨rfl, HE2.out⟩
    · have hr : R = (0, 2) := by rw [HR.out]; unfold markF; rw [if_pos HC.out, HRW.out, find_norow g1]
      clear HR hP g2 hE2
      subst hr
      dsimp only
      go_wp2_with fail
      go_ret2
      exact ⟨rfl, HE2.out⟩
  · have hcb : (c == 0) = false := by simp [hc0]
    have hcn : (c != 0) = true := by simp [hc0]
    have hr : R = (0, c) := by rw [HR.out]; unfold markF; rw [if_neg (by rw [HC.out]; exact hc0), HC.out]
    have hV : rowV gr n c = .tuple #[.pointer none, .int .i64 c] := by unfold rowV; rw [if_neg hc0]
    rw [hV]
    clear hV HR
    subst hr
    dsimp only
    go_wp2_with fail
    go_ret2
    exact ⟨rfl, HE1.out⟩
def lenF (st : StS) (id : Int) : Int × Int := match relF st id with | none => (0, 7) | some s => (((rowsOf s.L).length : Int), 0)
def arityF (st : StS) (id : Int) : Int × Int := match relF st id with | none => (0, 7) | some s => ((s.ar : Int), 0)
set_option maxRecDepth 20000 in
theorem lenS_any (B : Nat) (O : Own) (W : World) (bs : Nat) (st : StS) (hS : StAt B O W bs st) (id : Int) :
    Calls Try.prog 27 #[.pointer (some ⟨bs, 0, none⟩), .int .i64 id] W fun e W' => e = .returned (.tuple #[.int .i64 (lenF st id).1, .int .i64 (lenF st id).2]) ∧ W' = W := by
  by_cases hid : 0 ≤ id ∧ id < (st.rels.length : Int)
  · obtain ⟨n, rfl⟩ : ∃ n : Nat, id = (n : Int) := ⟨id.toNat, by omega⟩
    obtain ⟨s, hs⟩ : ∃ s, st.rels[n]? = some s := ⟨_, List.getElem?_eq_getElem (by omega)⟩
    obtain ⟨na, nn, nc, ta, tn, tc, gr, rn, rc, Cr, K, ho⟩ := stat_opn hS hs
    have hrel := ho.rel
    obtain ⟨k1, k2, k3, k4, sa, sn, sc, k5, k6⟩ := ho.rs.cells
    have d2 : n * 4 + 2 + 1 ≤ Cr.length := by omega
    have d3 : n * 4 < Cr.length := by omega
    have d4 : n * 4 + 1 ≤ Cr.length := by omega
    have e : lenF st (n : Int) = (((liveL s.L).length : Int), 0) := by unfold lenF; rw [relF_some hs]; dsimp only; rw [rowsOf_len]
    rw [e]
    clear e ho hs hS k5 k6 hid
    go_enter Try.func27, Try.ntmps27
    go_wp2_with fail
    refine hrel.mono ?_
    rintro e W1 ⟨rfl, rfl⟩
    dsimp only
    go_wp2_with fail
    go_ret2
    exact ⟨rfl, rfl⟩
  · have e : lenF st id = (0, 7) := by unfold lenF; rw [relF_none hid]
    rw [e]
    obtain ⟨na, nn, nc, ta, tn, tc, ra, rn, rc, hb, hrn, _⟩ := stat_bad hS
    have hrb := rel_bad W bs na nn nc ta tn tc ra rn rc hb id (by rw [hrn]; exact hid)
    clear e hb hrn hS hid
    go_enter Try.func27, Try.ntmps27
    go_wp2_with fail
    refine hrb.mono ?_
    rintro e W1 ⟨rfl, rfl⟩
    dsimp only
    go_wp2_with fail
    go_ret2
    exact ⟨rfl, rfl⟩
set_option maxRecDepth 20000 in
theorem arityS_any (B : Nat) (O : Own) (W : World) (bs : Nat) (st : StS) (hS : StAt B O W bs st) (id : Int) :
    Calls Try.prog 19 #[.pointer (some ⟨bs, 0, none⟩), .int .i64 id] W fun e W' => e = .returned (.tuple #[.int .i64 (arityF st id).1, .int .i64 (arityF st id).2]) ∧ W' = W := by
  by_cases hid : 0 ≤ id ∧ id < (st.rels.length : Int)
  · obtain ⟨n, rfl⟩ : ∃ n : Nat, id = (n : Int) := ⟨id.toNat, by omega⟩
    obtain ⟨s, hs⟩ : ∃ s, st.rels[n]? = some s := ⟨_, List.getElem?_eq_getElem (by omega)⟩
    obtain ⟨na, nn, nc, ta, tn, tc, gr, rn, rc, Cr, K, ho⟩ := stat_opn hS hs
    have hrel := ho.rel
    obtain ⟨k1, k2, k3, k4, sa, sn, sc, k5, k6⟩ := ho.rs.cells
    have d2 : n * 4 + 2 + 1 ≤ Cr.length := by omega
    have d3 : n * 4 < Cr.length := by omega
    have d4 : n * 4 + 1 ≤ Cr.length := by omega
    have e : arityF st (n : Int) = ((s.ar : Int), 0) := by unfold arityF; rw [relF_some hs]
    rw [e]
    clear e ho hs hS k5 k6 hid
    go_enter Try.func19, Try.ntmps19
    go_wp2_with fail
    refine hrel.mono ?_
    rintro e W1 ⟨rfl, rfl⟩
    dsimp only
    go_wp2_with fail
    go_ret2
    exact ⟨rfl, rfl⟩
  · have e : arityF st id = (0, 7) := by unfold arityF; rw [relF_none hid]
    rw [e]
    obtain ⟨na, nn, nc, ta, tn, tc, ra, rn, rc, hb, hrn, _⟩ := stat_bad hS
    have hrb := rel_bad W bs na nn nc ta tn tc ra rn rc hb id (by rw [hrn]; exact hid)
    clear e hb hrn hS hid
    go_enter Try.func19, Try.ntmps19
    go_wp2_with fail
    refine hrb.mono ?_
    rintro e W1 ⟨rfl, rfl⟩
    dsimp only
    go_wp2_with fail
    go_ret2
    exact ⟨rfl, rfl⟩
end Go.Proofs.Qxb6500789a
