import Derived.Test.Qxb6500789aXp
import Derived.StillTailTactics
import Derived.Deep.QuietTactic
import Derived.BigQuiet
import Derived.Deep.RegionHeld
import Derived.Deep.CutRange
import Derived.Laws.ResultCell
import Derived.Laws.Rows
import Derived.DeepKeys
import Derived.DataBytes
import Derived.Laws.StructEq
import Derived.Laws.AppendOwn
import Derived.Laws.MakeOwn
import Derived.Lib.AppendStr
set_option linter.unusedSimpArgs false
set_option linter.unusedVariables false
namespace Go.Proofs.Qxb6500789a
open Go.RowKit Go.Blk
attribute [local go_sem ↓] execOp_load execOp_store execOp_alloc
attribute [local go_sem] Try.ld29 Try.st29 Try.ld3 Try.st3 Try.ld9 Try.st9 Try.ld30 Try.st30 Try.ld34 Try.st34 Try.ld35 Try.st35 Try.ld36 Try.st36 Try.ld37 Try.st37 Try.ld44 Try.st44 Try.ld45 Try.st45 Try.ld54 Try.st54 Try.ld55 Try.st55 Try.ld74 Try.st74 Try.ld80 Try.st80 Try.ld84 Try.st84 Try.ld106 Try.st106 Try.ld107 Try.st107 Try.ld4 Try.st4 Try.ld121 Try.st121 Try.ld2 Try.st2 Try.ld5 Try.st5 Try.ld12 Try.st12 Try.ld21 Try.st21 Try.ld22 Try.st22 Try.ld24 Try.st24 Try.ld26 Try.st26 Try.ld63 Try.st63 Try.ld71 Try.st71 Try.ld103 Try.st103 Try.ld130 Try.st130 Try.ld133 Try.st133 Try.ld140 Try.st140 Try.ld152 Try.st152 Try.ld39 Try.st39 Try.ld32 Try.st32 Try.ld41 Try.st41 Try.ld47 Try.st47 Try.ld57 Try.st57 Try.ld62 Try.st62 Try.ld76 Try.st76 Try.ld82 Try.st82 Try.ld86 Try.st86 Try.ld109 Try.st109 Try.ld115 Try.st115 Try.ld123 Try.st123 Try.ld135 Try.st135 Try.al39 Try.al32 Try.al41 Try.al47 Try.al57 Try.al62 Try.al76 Try.al82 Try.al86 Try.al109 Try.al115 Try.al123 Try.al135
attribute [local go_sem] Answer.length_enc Answer.ok_enc Answer.all_get Answer.all_set Answer.code_get Answer.code_set Answer.n_get Answer.n_set Answer.name_get Answer.name_set Answer.rows_get Answer.rows_set GOp.length_enc GOp.ok_enc GOp.all_get GOp.all_set GOp.kind_get GOp.kind_set GOp.rel_get GOp.rel_set GOp.mask_get GOp.mask_set GOp.t_get GOp.t_set GOp.n_get GOp.n_set GOp.name_get GOp.name_set Store.length_enc Store.ok_enc Store.all_get Store.all_set Store.names_get Store.names_set Store.rels_get Store.rels_set GRel.length_enc GRel.ok_enc GRel.all_get GRel.all_set GRel.arity_get GRel.arity_set GRel.masks_get GRel.masks_set GRel.rows_get GRel.rows_set Row.length_enc Row.ok_enc Row.all_get Row.all_set Row.t_get Row.t_set Row.mark_get Row.mark_set View.length_enc View.ok_enc View.all_get View.all_set View.names_get View.names_set View.rels_get View.rels_set Symtab.length_enc Symtab.ok_enc Symtab.all_get Symtab.all_set Symtab.names_get Symtab.names_set Symtab.table_get Symtab.table_set StoreTuplestore.length_enc StoreTuplestore.ok_enc StoreTuplestore.all_get StoreTuplestore.all_set StoreTuplestore.syms_get StoreTuplestore.syms_set StoreTuplestore.rels_get StoreTuplestore.rels_set StoreTuplestore.syms_names_get StoreTuplestore.syms_names_set StoreTuplestore.syms_table_get StoreTuplestore.syms_table_set Relation.length_enc Relation.ok_enc Relation.all_get Relation.all_set Relation.arity_get Relation.arity_set Relation.slots_get Relation.slots_set Relation.live_get Relation.live_set Relation.idx_get Relation.idx_set Slot.length_enc Slot.ok_enc Slot.all_get Slot.all_set Slot.t_get Slot.t_set Slot.mark_get Slot.mark_set Slot.live_get Slot.live_set RelView.length_enc RelView.ok_enc RelView.all_get RelView.all_set RelView.arity_get RelView.arity_set RelView.rows_get RelView.rows_set RelView.marks_get RelView.marks_set RelView.indexed_get RelView.indexed_set Index.length_enc Index.ok_enc Index.all_get Index.all_set Index.mask_get Index.mask_set Index.heads_get Index.heads_set Index.next_get Index.next_set
attribute [local go_sem] size_put size_ext blk_put free_put blk_alloc free_alloc blk_drew free_drew blk_ext free_ext lookOr_some putOr_some segAt_some cellAt_some storeIn_some put_put put_alloc_new length_arr ok_arr_u8 ok_arr_u32 ok_arr_u64 ok_arr_i64 ok_arr_sl cellsV_agg cellsV_int cellsV_bool cellsV_string cellsV_pointer cellsV_slice cellsV_sl ok_int ok_bool ok_string ok_pointer ok_slice ok_sl toList_arr seg_arr set_arr nth_splice nth_splice0 seg_splice seg_splice0 splice_splice splice_splice0 length_splice_if
attribute [local go_sem ↓] execOp_box
attribute [local go_sem] box_run nth_arr_u8 put_arr_u8 blk_drewN free_drewN put_drewN blk_raw free_raw
theorem slot_set2 {C : List Value} {q : Nat} {s : Slot} (h : seg C q 6 = Slot.enc s) (hq : q + 6 ≤ C.length) : splice (splice C (q + 5) [.bool true]) (q + 4) [.int .i64 0] = splice C q (Slot.enc ⟨s.t, 0, true⟩) := by
  have e1 : splice C (q + 5) [.bool true] = splice C q (Slot.enc { s with live := true }) := by
    rw [splice_sub (X := Slot.enc s) (m := 6) (j := 5) h hq (by simp), Slot.live_set]
  have h2 : seg (splice C q (Slot.enc { s with live := true })) q 6 = Slot.enc { s with live := true } := by
    rw [seg_splice0 (by rw [Slot.length_enc]; exact hq) (by rw [Slot.length_enc]; exact Nat.le_refl _), seg_all _ _ (Slot.length_enc _)]
  rw [e1, splice_sub (X := Slot.enc { s with live := true }) (m := 6) (j := 4) h2 (by rw [length_splice _ _ _ (by rw [Slot.length_enc]; exact hq)]; exact hq) (by simp), Slot.mark_set, splice_over (by rw [Slot.length_enc]; exact hq) (by rw [Slot.length_enc, Slot.length_enc])]
theorem slot_set5 {C : List Value} {q : Nat} {s : Slot} (h : seg C q 6 = Slot.enc s) (hq : q + 6 ≤ C.length) (b : Bool) : splice C (q + 5) [.bool b] = splice C q (Slot.enc { s with live := b }) := by
  rw [splice_sub (X := Slot.enc s) (m := 6) (j := 5) h hq (by simp), Slot.live_set]
theorem slot_set4 {C : List Value} {q : Nat} {s : Slot} (h : seg C q 6 = Slot.enc s) (hq : q + 6 ≤ C.length) (x : Int) : splice C (q + 4) [.int .i64 x] = splice C q (Slot.enc { s with mark := x }) := by
  rw [splice_sub (X := Slot.enc s) (m := 6) (j := 4) h hq (by simp), Slot.mark_set]
def InsPost (B : Nat) (O : Own) (W : World) (gr o : Nat) (Cr : List Value) (tyr : TypeId) (lr : Lab) (i ar : Nat) (L : List Slot) (K : List IxD) (t : Tup) (e : Ending) (W' : World) : Prop := e = .returned (.tuple #[]) ∧ ∃ O' Cr' L' K', Fr (isRelR i lr) O W O' W' ∧ RelSt B O' W' gr o tyr i ar L' K' Cr' ∧ RelCh Cr Cr' o ∧ RInv ar L' K' ∧ K'.map (·.m) = K.map (·.m) ∧ (rowsOf L').Perm ((t, 0) :: rowsOf L)
set_option maxRecDepth 20000 in
set_option maxHeartbeats 4000000 in
theorem insert_tomb (B : Nat) (O : Own) (W : World) (gr o : Nat) (Cr : List Value) (tyr : TypeId) (lr : Lab) (i ar : Nat) (L : List Slot) (K : List IxD) (hS : RelSt B O W gr o tyr i ar L K Cr) (hlr : O gr = lr) (hnl : ¬ isRel i lr) (hno : lr ≠ .no) (hV : RInv ar L K) (hB : B ≤ W.heap.size) (t : Tup) (n : Nat) (s : Slot) (hs : L[n]? = some s) (hst : s.t = t) (hsl : s.live = false) (hfull : (liveL L).length < 512) :
    Calls Try.prog 70 #[.pointer (some ⟨gr, o, none⟩), .agg (arr i64v t).toArray, .int .i64 (n : Int)] W (InsPost B O W gr o Cr tyr lr i ar L K t) := by
  obtain ⟨sa, sn, sc, ia, iN, ic, hty, hR, hI⟩ := hS
  have hR0 := hR
  obtain ⟨r4, c0, c1, c2, c3⟩ := hR
  have hb : blk W gr = some Cr := blk_mk hty
  obtain ⟨lv, hlv⟩ : ∃ lv : Nat, lv = (liveL L).length := ⟨_, rfl⟩
  rw [← hlv] at c2
  have hlv5 : lv < 512 := by omega
  obtain ⟨gs, Cs, rfl, hCs, hfs, hogs, hBs, hn6, hsegs, hset⟩ := hI.slots.set Slot.length_enc (i := n) (by have := hI.lens.1; have := (List.getElem?_eq_some_iff.1 hs).1; omega) (⟨t, 0, true⟩ : Slot)
  have hnsn : n < sn := by have := hI.lens.1; have := (List.getElem?_eq_some_iff.1 hs).1; omega
  have hsn : sn ≤ 2048 := by have := hI.lens.1; have := hV.few.2.1; omega
  have hseg6 := hsegs n s hs
  have hsp := slot_set2 hseg6 hn6
  rw [hst] at hsp
  have hgn : gr ≠ gs := fun e => by rw [← e, hlr] at hogs; exact hnl (.inl hogs)
  have HFIN : Hid (∀ W0, W.Extends W0 → InsPost B O W gr o Cr tyr lr i ar L K t (.returned (.tuple #[])) (put (put W0 gr (splice Cr (o + 2) [.int .i64 ((lv : Int) + 1)])) gs (splice Cs (n * 6) (Slot.enc ⟨t, 0, true⟩)))) := by
    intro W0 hE
    have hF : Fr (isRelR i lr) O W O (put (put W0 gr (splice Cr (o + 2) [.int .i64 ((lv : Int) + 1)])) gs (splice Cs (n * 6) (Slot.enc ⟨t, 0, true⟩))) := by
      refine Fr.put (Fr.put (Fr.of_extends hE) ?_ _) ?_ _
      · rw [hlr]; exact .inl rfl
      · rw [hogs]; exact .inr (.inl rfl)
    have hty0 : W0.heap[gr]? = some (.cells Cr.toArray tyr (0, 0)) := (hE.block gr (blk_lt hb)).trans hty
    have htt : (L.set n ⟨t, 0, true⟩).map (·.t) = L.map (·.t) := set_t hs hst.symm
    obtain ⟨A, B', hL, hAl, hLs⟩ := set_split hs
    have hlive : (liveL (L.set n ⟨t, 0, true⟩)).length = lv + 1 := by
      rw [hLs, hlv, hL, ← rowsOf_len, ← rowsOf_len, rowsOf_app, rowsOf_app, rowsOf_cons, rowsOf_cons, if_pos rfl, hsl]
      simp; omega
    refine ⟨rfl, O, splice Cr (o + 2) [.int .i64 ((lv : Int) + 1)], L.set n ⟨t, 0, true⟩, K, hF, ⟨some ⟨gs, 0, none⟩, sn, sc, ia, iN, ic, ?_, ?_, ?_⟩, RelCh.put 2 _ (by omega) r4, ⟨hV.ar4, by rw [htt]; exact hV.nodup, by rw [hlive]; omega, ?_, hV.sizes, hV.masks, hV.mlt⟩, rfl, ?_⟩
    · rw [heap_put, if_neg hgn, heap_put, if_pos rfl, hty0]; rfl
    · rw [hlive]
      have := hR0.set2 ((lv : Int) + 1)
      exact this
    · have hFs : Fr (fun l => l = lr ∨ l = .slots i) O W O (put (put W0 gr (splice Cr (o + 2) [.int .i64 ((lv : Int) + 1)])) gs (splice Cs (n * 6) (Slot.enc ⟨t, 0, true⟩))) := by
        refine Fr.put (Fr.put (Fr.of_extends hE) ?_ _) ?_ _
        · rw [hlr]; exact .inl rfl
        · rw [hogs]; exact .inr rfl
      have hne : ∀ l, isRel i l → l ≠ .slots i → ¬ (l = lr ∨ l = .slots i) := fun l h1 h2 h3 => by
        rcases h3 with h3 | h3
        · exact hnl (h3 ▸ h1)
        · exact h2 h3
      refine ⟨?_, by rw [List.length_set]; exact hI.idx.fr hFs (hne _ (.inr (.inl rfl)) (by intro e; cases e)), fun j k hk => ?_⟩
      · refine hset.keep (fun k hk ho => ⟨?_, rfl⟩)
        rw [size_put] at hk
        by_cases e : k = gs
        · rw [e, heap_put, if_pos rfl, heap_put, if_neg (Ne.symm hgn), heap_put, if_pos rfl, hE.block gs (blk_lt hCs)]
        · rw [heap_put, if_neg e, heap_put, if_neg (fun e2 => by rw [e2, hlr] at ho; exact hnl (.inl ho)), heap_put, if_neg e, hE.block k hk]
      · have := (hI.ixs j k hk).fr hFs (hne _ (.inr (.inr (.inl ⟨j, rfl⟩))) (by intro e; cases e)) (hne _ (.inr (.inr (.inr ⟨j, rfl⟩))) (by intro e; cases e))
        obtain ⟨g1, g2, g3⟩ := this
        exact ⟨g1, by rw [bsOf_congr htt]; exact g2, by rw [bsOf_congr htt, List.length_set]; exact g3⟩
    · obtain ⟨k, h1, h2, h3⟩ := hV.k0
      exact ⟨k, h1, h2, by rw [List.length_set]; exact h3⟩
    · rw [hLs, hL, rowsOf_app, rowsOf_app, rowsOf_cons, rowsOf_cons, if_pos rfl, hsl]
      simp
  have q0 : (0 : Int) ≤ (n : Int) := by omega
  have q1 : (n : Int) < (sn : Int) := by omega
  have q2 : ((n : Int)).toNat = n := by omega
  have l2 : o + 2 + 1 ≤ Cr.length := by omega
  have l1 : o + 1 + 1 ≤ Cr.length := by omega
  have w5 : n * 6 + 5 + 1 ≤ Cs.length := by omega
  have w4 : n * 6 + 4 + 1 ≤ Cs.length := by omega
  obtain ⟨C1, hC1⟩ : ∃ C1, C1 = splice Cr (o + 2) [.int .i64 ((lv : Int) + 1)] := ⟨_, rfl⟩
  have hC1' : splice Cr (o + 2) [.int .i64 ((lv : Int) + 1)] = C1 := hC1.symm
  have k1 : nth C1 (o + 1) = some (.slice (some ⟨gs, 0, none⟩) sn sc) := by rw [hC1, splice_nth (by omega), if_neg (by omega)]; exact c1
  have kl : C1.length = Cr.length := by rw [hC1]; exact length_splice1 (by omega)
  rw [← hC1] at HFIN
  obtain ⟨Ca, hCa⟩ : ∃ Ca, Ca = splice Cs (n * 6 + 5) [.bool true] := ⟨_, rfl⟩
  have hCa' : splice Cs (n * 6 + 5) [.bool true] = Ca := hCa.symm
  have kla : Ca.length = Cs.length := by rw [hCa]; exact length_splice1 (by omega)
  obtain ⟨Cb, hCb⟩ : ∃ Cb, Cb = splice Ca (n * 6 + 4) [.int .i64 0] := ⟨_, rfl⟩
  have hCb' : splice Ca (n * 6 + 4) [.int .i64 0] = Cb := hCb.symm
  have hCbe : splice Cs (n * 6) (Slot.enc ⟨t, 0, true⟩) = Cb := by rw [hCb, hCa]; exact hsp.symm
  rw [hCbe] at HFIN
  have hf : free W gr = true := free_mk hty
  clear hI hV hset hsegs hseg6 hsp hlr hnl hogs hC1 hCa hCb hCbe hR0 hlv hfull hst hsl hs hty
  go_enter Try.func70, Try.ntmps70
  go_upto_region 1 with fail
  have lb := blk_lt hb
  have lbs := blk_lt hCs
  refine wp_world (fun W0 => blk W0 gr = some Cr ∧ free W0 gr = true ∧ blk W0 gs = some Cs ∧ free W0 gs = true ∧ Hid (W.Extends W0)) ⟨?_, ?_, ?_, ?_, extends_alloc (ext_Ext (Ext.refl _)) _⟩ ?_
  · rw [blk_alloc, if_neg (by omega)]; exact hb
  · rw [free_alloc, if_neg (by omega)]; exact hf
  · rw [blk_alloc, if_neg (by omega)]; exact hCs
  · rw [free_alloc, if_neg (by omega)]; exact hfs
  rintro W0 ⟨hb0, hf0, hCs0, hfs0, HE0⟩
  clear hb hf hCs hfs lb lbs
  go_wp2_with fail
  go_end0
  exact HFIN.out W0 HE0.out
end Go.Proofs.Qxb6500789a
