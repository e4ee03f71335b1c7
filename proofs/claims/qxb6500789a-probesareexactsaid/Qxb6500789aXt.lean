import Derived.Test.Qxb6500789aXs
import Derived.StillTailTactics
import Derived.Deep.QuietTactic
import Derived.BigQuiet
import Derived.Deep.RegionHeld
import Derived.Deep.CutRange
import Derived.Laws.ResultCell
import Derived.Laws.Rows
import Derived.DeepKeys
import Derived.DataBytes
import Derived.Laws.StructEq
import Derived.Laws.AppendOwn
import Derived.Laws.MakeOwn
import Derived.Lib.AppendStr
set_option linter.unusedSimpArgs false
set_option linter.unusedVariables false
namespace Go.Proofs.Qxb6500789a
open Go.RowKit Go.Blk
attribute [local go_sem ↓] execOp_load execOp_store execOp_alloc
attribute [local go_sem] Try.ld29 Try.st29 Try.ld3 Try.st3 Try.ld9 Try.st9 Try.ld30 Try.st30 Try.ld34 Try.st34 Try.ld35 Try.st35 Try.ld36 Try.st36 Try.ld37 Try.st37 Try.ld44 Try.st44 Try.ld45 Try.st45 Try.ld54 Try.st54 Try.ld55 Try.st55 Try.ld74 Try.st74 Try.ld80 Try.st80 Try.ld84 Try.st84 Try.ld106 Try.st106 Try.ld107 Try.st107 Try.ld4 Try.st4 Try.ld121 Try.st121 Try.ld2 Try.st2 Try.ld5 Try.st5 Try.ld12 Try.st12 Try.ld21 Try.st21 Try.ld22 Try.st22 Try.ld24 Try.st24 Try.ld26 Try.st26 Try.ld63 Try.st63 Try.ld71 Try.st71 Try.ld103 Try.st103 Try.ld130 Try.st130 Try.ld133 Try.st133 Try.ld140 Try.st140 Try.ld152 Try.st152 Try.ld39 Try.st39 Try.ld32 Try.st32 Try.ld41 Try.st41 Try.ld47 Try.st47 Try.ld57 Try.st57 Try.ld62 Try.st62 Try.ld76 Try.st76 Try.ld82 Try.st82 Try.ld86 Try.st86 Try.ld109 Try.st109 Try.ld115 Try.st115 Try.ld123 Try.st123 Try.ld135 Try.st135 Try.al39 Try.al32 Try.al41 Try.al47 Try.al57 Try.al62 Try.al76 Try.al82 Try.al86 Try.al109 Try.al115 Try.al123 Try.al135
attribute [local go_sem] Answer.length_enc Answer.ok_enc Answer.all_get Answer.all_set Answer.code_get Answer.code_set Answer.n_get Answer.n_set Answer.name_get Answer.name_set Answer.rows_get Answer.rows_set GOp.length_enc GOp.ok_enc GOp.all_get GOp.all_set GOp.kind_get GOp.kind_set GOp.rel_get GOp.rel_set GOp.mask_get GOp.mask_set GOp.t_get GOp.t_set GOp.n_get GOp.n_set GOp.name_get GOp.name_set Store.length_enc Store.ok_enc Store.all_get Store.all_set Store.names_get Store.names_set Store.rels_get Store.rels_set GRel.length_enc GRel.ok_enc GRel.all_get GRel.all_set GRel.arity_get GRel.arity_set GRel.masks_get GRel.masks_set GRel.rows_get GRel.rows_set Row.length_enc Row.ok_enc Row.all_get Row.all_set Row.t_get Row.t_set Row.mark_get Row.mark_set View.length_enc View.ok_enc View.all_get View.all_set View.names_get View.names_set View.rels_get View.rels_set Symtab.length_enc Symtab.ok_enc Symtab.all_get Symtab.all_set Symtab.names_get Symtab.names_set Symtab.table_get Symtab.table_set StoreTuplestore.length_enc StoreTuplestore.ok_enc StoreTuplestore.all_get StoreTuplestore.all_set StoreTuplestore.syms_get StoreTuplestore.syms_set StoreTuplestore.rels_get StoreTuplestore.rels_set StoreTuplestore.syms_names_get StoreTuplestore.syms_names_set StoreTuplestore.syms_table_get StoreTuplestore.syms_table_set Relation.length_enc Relation.ok_enc Relation.all_get Relation.all_set Relation.arity_get Relation.arity_set Relation.slots_get Relation.slots_set Relation.live_get Relation.live_set Relation.idx_get Relation.idx_set Slot.length_enc Slot.ok_enc Slot.all_get Slot.all_set Slot.t_get Slot.t_set Slot.mark_get Slot.mark_set Slot.live_get Slot.live_set RelView.length_enc RelView.ok_enc RelView.all_get RelView.all_set RelView.arity_get RelView.arity_set RelView.rows_get RelView.rows_set RelView.marks_get RelView.marks_set RelView.indexed_get RelView.indexed_set Index.length_enc Index.ok_enc Index.all_get Index.all_set Index.mask_get Index.mask_set Index.heads_get Index.heads_set Index.next_get Index.next_set
attribute [local go_sem] size_put size_ext blk_put free_put blk_alloc free_alloc blk_drew free_drew blk_ext free_ext lookOr_some putOr_some segAt_some cellAt_some storeIn_some put_put put_alloc_new length_arr ok_arr_u8 ok_arr_u32 ok_arr_u64 ok_arr_i64 ok_arr_sl cellsV_agg cellsV_int cellsV_bool cellsV_string cellsV_pointer cellsV_slice cellsV_sl ok_int ok_bool ok_string ok_pointer ok_slice ok_sl toList_arr seg_arr set_arr nth_splice nth_splice0 seg_splice seg_splice0 splice_splice splice_splice0 length_splice_if
attribute [local go_sem ↓] execOp_box
attribute [local go_sem] box_run nth_arr_u8 put_arr_u8 blk_drewN free_drewN put_drewN blk_raw free_raw
def RemPost (B : Nat) (O : Own) (W : World) (gr o : Nat) (Cr : List Value) (tyr : TypeId) (lr : Lab) (i ar : Nat) (L : List Slot) (K : List IxD) (t : Tup) (mk : Int) (e : Ending) (W' : World) : Prop := e = .returned (.tuple #[]) ∧ ∃ O' Cr' L' K', Fr (isRelR i lr) O W O' W' ∧ RelSt B O' W' gr o tyr i ar L' K' Cr' ∧ RelCh Cr Cr' o ∧ RInv ar L' K' ∧ K'.map (·.m) = K.map (·.m) ∧ (rowsOf L).Perm ((t, mk) :: rowsOf L')
set_option maxRecDepth 20000 in
set_option maxHeartbeats 4000000 in
theorem remove_any (B : Nat) (O : Own) (W : World) (gr o : Nat) (Cr : List Value) (tyr : TypeId) (lr : Lab) (i ar : Nat) (L : List Slot) (K : List IxD) (hS : RelSt B O W gr o tyr i ar L K Cr) (hlr : O gr = lr) (hnl : ¬ isRel i lr) (hno : lr ≠ .no) (hV : RInv ar L K) (hB : B ≤ W.heap.size) (n : Nat) (s : Slot) (hs : L[n]? = some s) (hsl : s.live = true) :
    Calls Try.prog 71 #[.pointer (some ⟨gr, o, none⟩), .int .i64 (n : Int)] W (RemPost B O W gr o Cr tyr lr i ar L K s.t s.mark) := by
  obtain ⟨sa, sn, sc, ia, iN, ic, hty, hR, hI⟩ := hS
  have hR0 := hR
  obtain ⟨r4, c0, c1, c2, c3⟩ := hR
  have hb : blk W gr = some Cr := blk_mk hty
  have hf : free W gr = true := free_mk hty
  obtain ⟨A, B', hL, hAl, hLs⟩ := set_split hs
  obtain ⟨lv, hlv⟩ : ∃ lv : Nat, (liveL L).length = lv + 1 := by
    refine ⟨(rowsOf A ++ rowsOf B').length, ?_⟩
    rw [← rowsOf_len, hL, rowsOf_app, rowsOf_cons, if_pos hsl]; simp; omega
  rw [hlv] at c2
  have hlv5 : lv < 512 := by have := hV.live; omega
  obtain ⟨hLn, hKn⟩ := hI.lens
  have hfew := hV.few
  have hsn : sn ≤ 2048 := by omega
  have hiN : iN ≤ 16 := by omega
  have hnsn : n < sn := by have := (List.getElem?_eq_some_iff.1 hs).1; omega
  obtain ⟨gs, Cs, rfl, hCs, hfs, hogs, hBs, hn6, hsegs, hset⟩ := hI.slots.set Slot.length_enc (i := n) hnsn ({ s with live := false } : Slot)
  have hsp := slot_set5 (hsegs n s hs) hn6 false
  have hgn : gr ≠ gs := fun e => by rw [← e, hlr] at hogs; exact hnl (.inl hogs)
  obtain ⟨C1, hC1⟩ : ∃ C1, C1 = splice Cr (o + 2) [.int .i64 (lv : Int)] := ⟨_, rfl⟩
  have hC1' : splice Cr (o + 2) [.int .i64 (lv : Int)] = C1 := hC1.symm
  have hR1 : RelAt C1 o (ar : Int) (some ⟨gs, 0, none⟩) sn sc (lv : Int) ia iN ic := by rw [hC1]; exact hR0.set2 _
  have hch1 : RelCh Cr C1 o := by rw [hC1]; exact RelCh.put 2 _ (by omega) r4
  obtain ⟨Ca, hCa⟩ : ∃ Ca, Ca = splice Cs (n * 6 + 5) [.bool false] := ⟨_, rfl⟩
  have hCa' : splice Cs (n * 6 + 5) [.bool false] = Ca := hCa.symm
  rw [← hsp, ← hCa] at hset
  obtain ⟨L1, hL1⟩ : ∃ L1, L1 = L.set n { s with live := false } := ⟨_, rfl⟩
  rw [← hL1] at hset
  have htt : L1.map (·.t) = L.map (·.t) := by rw [hL1]; exact set_t hs rfl
  have hl1 : L1.length = L.length := by rw [hL1, List.length_set]
  have hlive1 : (liveL L1).length = lv := by
    have h1 : (rowsOf L).length = lv + 1 := by rw [rowsOf_len]; exact hlv
    rw [hL, rowsOf_app, rowsOf_cons, if_pos hsl] at h1
    rw [← rowsOf_len, hL1, hLs, rowsOf_app, rowsOf_cons, if_neg (by simp)]
    simp at h1 ⊢; omega
  have hrows1 : (rowsOf L).Perm ((s.t, s.mark) :: rowsOf L1) := by
    rw [hL1, hLs, hL, rowsOf_app, rowsOf_app, rowsOf_cons, rowsOf_cons, if_pos hsl, if_neg (by simp)]
    exact List.perm_middle
  have hV1 : RInv ar L1 K := by
    refine ⟨hV.ar4, by rw [htt]; exact hV.nodup, by rw [hlive1]; omega, ?_, hV.sizes, hV.masks, hV.mlt⟩
    obtain ⟨k, h1, h2, h3⟩ := hV.k0
    exact ⟨k, h1, h2, by rw [hl1]; exact h3⟩
  obtain ⟨W1, hW1⟩ : ∃ W1, W1 = put (put W gs Ca) gr C1 := ⟨_, rfl⟩
  have hF1 : Fr (isRelR i lr) O W O W1 := by
    rw [hW1]
    refine Fr.put (Fr.put (Fr.refl _ _ _) ?_ _) ?_ _
    · rw [hogs]; exact .inr (.inl rfl)
    · rw [hlr]; exact .inl rfl
  have hty1 : W1.heap[gr]? = some (.cells C1.toArray tyr (0, 0)) := by rw [hW1, heap_put, if_pos rfl, heap_put, if_neg hgn, hty]; rfl
  have hI1 : RelIn B O W1 i (some ⟨gs, 0, none⟩) sn sc ia iN ic L1 K := by
    have hFs : Fr (fun l => l = lr ∨ l = .slots i) O W O W1 := by
      rw [hW1]
      refine Fr.put (Fr.put (Fr.refl _ _ _) ?_ _) ?_ _
      · rw [hogs]; exact .inr rfl
      · rw [hlr]; exact .inl rfl
    have hne : ∀ l, isRel i l → l ≠ .slots i → ¬ (l = lr ∨ l = .slots i) := fun l h1 h2 h3 => by
      rcases h3 with h3 | h3
      · exact hnl (h3 ▸ h1)
      · exact h2 h3
    refine ⟨?_, by rw [hl1]; exact hI.idx.fr hFs (hne _ (.inr (.inl rfl)) (by intro e; cases e)), fun j k hk => ?_⟩
    · refine hset.keep (fun k hk ho => ⟨?_, rfl⟩)
      rw [hW1, heap_put, if_neg (fun e2 => by rw [e2, hlr] at ho; exact hnl (.inl ho))]
    · have := (hI.ixs j k hk).fr hFs (hne _ (.inr (.inr (.inl ⟨j, rfl⟩))) (by intro e; cases e)) (hne _ (.inr (.inr (.inr ⟨j, rfl⟩))) (by intro e; cases e))
      obtain ⟨g1, g2, g3⟩ := this
      exact ⟨g1, by rw [bsOf_congr htt]; exact g2, by rw [bsOf_congr htt, hl1]; exact g3⟩
  have HFN : Hid (∀ k, RemPost B O W gr o Cr tyr lr i ar L K s.t s.mark (.returned (.tuple #[])) (W1.drewN k)) := fun k => ⟨rfl, O, C1, L1, K, hF1.drewN _, ⟨_, sn, sc, ia, iN, ic, hty1, by rw [hlive1]; exact hR1, hI1.ext (extends_drewN (ext_Ext (Ext.refl _)) _)⟩, hch1, hV1, rfl, hrows1⟩
  have HFC : Hid (∀ W2, CompPost B O W1.drew gr o C1 tyr lr i (some ⟨gs, 0, none⟩) sc ia iN ic L1 K (.returned (.tuple #[])) W2 → RemPost B O W gr o Cr tyr lr i ar L K s.t s.mark (.returned (.tuple #[])) W2) := by
    rintro W2 ⟨_, O2, K2, hF2, hty2, hI2, hKm2, hSz2⟩
    obtain ⟨hV2, _⟩ := rinv_live hV1 hKm2 hSz2 hI2.sz
    refine ⟨rfl, O2, _, liveL L1, K2, hF1.trans ⟨hF2.os, hF2.tape, hF2.output, hF2.size, hF2.keep, hF2.block⟩, ⟨_, _, sc, ia, iN, ic, hty2, ?_, hI2⟩, hch1.trans (RelCh.put 1 _ (by omega) hR1.len), hV2, hKm2, by rw [rowsOf_live]; exact hrows1⟩
    rw [liveL_live]
    have := hR1.set1 (some ⟨gs, 0, none⟩) (liveL L1).length sc
    rw [← hlive1] at this
    exact this
  have HI1 : Hid (RelIn B O W1 i (some ⟨gs, 0, none⟩) sn sc ia iN ic L1 K) := hI1
  have HT1 : Hid (W1.heap[gr]? = some (.cells C1.toArray tyr (0, 0))) := hty1
  have HR1 : Hid (RelAt C1 o (ar : Int) (some ⟨gs, 0, none⟩) sn sc (lv : Int) ia iN ic) := hR1
  have HLR : Hid (O gr = lr) := hlr
  have HNL : Hid (¬ isRel i lr) := hnl
  have HB1 : Hid (B ≤ W1.heap.size) := Nat.le_trans hB hF1.size
  have hlvl : lv ≤ sn := by rw [← hlive1, ← hLn, ← hl1]; exact liveL_le _
  have q0 : (0 : Int) ≤ (n : Int) := by omega
  have q1 : (n : Int) < (sn : Int) := by omega
  have q2 : ((n : Int)).toNat = n := by omega
  have l2 : o + 2 + 1 ≤ Cr.length := by omega
  have l1 : o + 1 + 1 ≤ Cr.length := by omega
  have w5 : n * 6 + 5 + 1 ≤ Cs.length := by omega
  have k1 := hR1.c1
  have k2 := hR1.c2
  have kl := hR1.len
  have kl1 : o + 1 + 1 ≤ C1.length := by omega
  have kl2 : o + 2 + 1 ≤ C1.length := by omega
  have hbm : blk (put W gs Ca) gr = some Cr := by rw [blk_put, if_neg hgn]; exact hb
  have hfm : free (put W gs Ca) gr = true := by rw [free_put]; exact hf
  have hb1 : blk W1 gr = some C1 := blk_mk hty1
  have HW1 : Hid (W1 = put (put W gs Ca) gr C1) := hW1
  have hwl : IntKind.i64.wrap (((lv + 1 : Nat) : Int) - 1) = (lv : Int) := by rw [IntKind.wrap_i64]; omega
  have hwd : IntKind.i64.wrap ((sn : Int) - (lv : Int)) = (sn : Int) - (lv : Int) := by rw [IntKind.wrap_i64]; omega
  clear hI hV hset hsegs hsp hlr hnl hno hogs hC1 hCa hR0 hlv hsl hs hty hR1 hch1 hL1 htt hl1 hlive1 hrows1 hV1 hW1 hF1 hty1 hI1 hL hLs hAl hLn hKn hfew
  go_enter Try.func71, Try.ntmps71
  go_upto_region 2 with fail
  refine wp_world (fun V => V = W1) HW1.out.symm ?_
  intro V hV1
  subst hV1
  clear hb hf hCs hfs hbm hfm HW1 hC1' hCa' c1 c2 c3 c0
  refine wp_region_held_drew (S := fun W' => blk W' gr = some C1) (by kernel_rfl) hb1 (fun hHeld => ?_)
  refine wpAnyH_take (i := 0) (oi := ⟨_, _, _, _, _, _⟩) (v := ?_) rfl (by kernel_rfl) (by kernel_rfl) (by kernel_rfl) (fun _ _ _ h => h) (Or.inl ⟨by rfl, ?_⟩) (by assumption) ?_
  rotate_left 1
  · intro W' hS1
    go_simp
    try with_reducible rfl
  try simp only [Act.put, List.setIfInBounds_toArray, List.set_cons_zero, List.set_cons_succ]
  refine wpAnyH_take (i := 1) (oi := ⟨_, _, _, _, _, _⟩) (v := ?_) rfl (by kernel_rfl) (by kernel_rfl) (by kernel_rfl) (fun _ _ _ h => h) (Or.inl ⟨by rfl, ?_⟩) (by assumption) ?_
  rotate_left 1
  · intro W' hS1
    go_simp
    try with_reducible rfl
  try simp only [Act.put, List.setIfInBounds_toArray, List.set_cons_zero, List.set_cons_succ]
  refine wpAnyH_take (i := 2) (oi := ⟨_, _, _, _, _, _⟩) (v := ?_) rfl (by kernel_rfl) (by kernel_rfl) (by kernel_rfl) (fun _ _ _ h => h) (Or.inl ⟨by rfl, ?_⟩) (by assumption) ?_
  rotate_left 1
  · intro W' hS1
    go_simp
    try with_reducible rfl
  try simp only [Act.put, List.setIfInBounds_toArray, List.set_cons_zero, List.set_cons_succ]
  refine wpAnyH_take (i := 3) (oi := ⟨_, _, _, _, _, _⟩) (v := ?_) rfl (by kernel_rfl) (by kernel_rfl) (by kernel_rfl) (fun _ _ _ h => h) (Or.inl ⟨by rfl, ?_⟩) (by assumption) ?_
  rotate_left 1
  · intro W' hS1
    go_simp
    try with_reducible rfl
  try simp only [Act.put, List.setIfInBounds_toArray, List.set_cons_zero, List.set_cons_succ]
  refine wpAnyH_take (i := 4) (oi := ⟨_, _, _, _, _, _⟩) (v := ?_) rfl (by kernel_rfl) (by kernel_rfl) (by kernel_rfl) (fun _ _ _ h => h) (Or.inl ⟨by rfl, ?_⟩) (by assumption) ?_
  rotate_left 1
  · intro W' hS1
    go_simp
    try with_reducible rfl
  try simp only [Act.put, List.setIfInBounds_toArray, List.set_cons_zero, List.set_cons_succ]
  refine wpAnyH_take (i := 5) (oi := ⟨_, _, _, _, _, _⟩) (v := ?_) rfl (by kernel_rfl) (by kernel_rfl) (by kernel_rfl) (fun _ _ _ h => h) (Or.inl ⟨by rfl, ?_⟩) (by assumption) ?_
  rotate_left 1
  · intro W' hS1
    go_simp
    try with_reducible rfl
  try simp only [Act.put, List.setIfInBounds_toArray, List.set_cons_zero, List.set_cons_succ]
  refine wpAnyH_take (i := 6) (oi := ⟨_, _, _, _, _, _⟩) (v := ?_) rfl (by kernel_rfl) (by kernel_rfl) (by kernel_rfl) (fun _ _ _ h => h) (Or.inl ⟨by rfl, ?_⟩) (by assumption) ?_
  rotate_left 1
  · intro W' hS1
    go_simp
    try with_reducible rfl
  try simp only [Act.put, List.setIfInBounds_toArray, List.set_cons_zero, List.set_cons_succ]
  refine wpAnyH_take (i := 7) (oi := ⟨_, _, _, _, _, _⟩) (v := ?_) rfl (by kernel_rfl) (by kernel_rfl) (by kernel_rfl) (fun _ _ _ h => h) (Or.inl ⟨by rfl, ?_⟩) (by assumption) ?_
  rotate_left 1
  · intro W' hS1
    go_simp
    try with_reducible rfl
  try simp only [Act.put, List.setIfInBounds_toArray, List.set_cons_zero, List.set_cons_succ]
  refine wpAnyH_take (i := 8) (oi := ⟨_, _, _, _, _, _⟩) (v := ?_) rfl (by kernel_rfl) (by kernel_rfl) (by kernel_rfl) (fun _ _ _ h => h) (Or.inl ⟨by rfl, ?_⟩) (by assumption) ?_
  rotate_left 1
  · intro W' hS1
    go_simp
    try with_reducible rfl
  try simp only [Act.put, List.setIfInBounds_toArray, List.set_cons_zero, List.set_cons_succ]
  refine wpAnyH_take (i := 9) (oi := ⟨_, _, _, _, _, _⟩) (v := ?_) rfl (by kernel_rfl) (by kernel_rfl) (by kernel_rfl) (fun _ _ _ h => h) (Or.inl ⟨by rfl, ?_⟩) (by assumption) ?_
  rotate_left 1
  · intro W' hS1
    go_simp
    try with_reducible rfl
  try simp only [Act.put, List.setIfInBounds_toArray, List.set_cons_zero, List.set_cons_succ]
  refine wpAnyH_take (i := 10) (oi := ⟨_, _, _, _, _, _⟩) (v := ?_) rfl (by kernel_rfl) (by kernel_rfl) (by kernel_rfl) (fun _ _ _ h => h) (Or.inl ⟨by rfl, ?_⟩) (by assumption) ?_
  rotate_left 1
  · intro W' hS1
    go_simp
    try with_reducible rfl
  try simp only [Act.put, List.setIfInBounds_toArray, List.set_cons_zero, List.set_cons_succ]
  refine wpAnyH_done (by kernel_rfl) ?_ _
  by_cases hd8 : (8 : Int) ≤ (sn : Int) - (lv : Int)
  · by_cases hdl : (lv : Int) < (sn : Int) - (lv : Int)
    · have hb1d : blk V.drew gr = some C1 := hb1
      go_wp2_with fail
      refine (compact_any B O V.drew gr o C1 tyr lr i (ar : Int) (some ⟨gs, 0, none⟩) sn sc (lv : Int) ia iN ic L1 K HT1.out HLR.out HNL.out HR1.out (HI1.out.ext (extends_drew (ext_Ext (Ext.refl _)))) (by omega) (by omega) HB1.out).mono ?_
      intro e W2 hP
      have HP : Hid (RemPost B O W gr o Cr tyr lr i ar L K s.t s.mark (.returned (.tuple #[])) W2) := HFC.out W2 (by obtain ⟨rfl, h⟩ := hP; exact ⟨rfl, h⟩)
      obtain ⟨rfl, _⟩ := hP
      clear HFC HFN
      dsimp only
      go_wp2_with fail
      go_end0
      exact HP.out
    · have hb1d : blk V.drew gr = some C1 := hb1
      have HP : Hid (RemPost B O W gr o Cr tyr lr i ar L K s.t s.mark (.returned (.tuple #[])) V.drew) := HFN.out 1
      clear HFC HFN
      go_wp2_with fail
      go_end0
      exact HP.out
  · have HP : Hid (RemPost B O W gr o Cr tyr lr i ar L K s.t s.mark (.returned (.tuple #[])) V.drew) := HFN.out 1
    clear HFC HFN
    go_wp2_with fail
    go_end0
    exact HP.out
end Go.Proofs.Qxb6500789a
