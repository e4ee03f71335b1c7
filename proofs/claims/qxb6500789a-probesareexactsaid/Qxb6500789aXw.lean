import Derived.Test.Qxb6500789aXv
import Derived.StillTailTactics
import Derived.Deep.QuietTactic
import Derived.BigQuiet
import Derived.Deep.RegionHeld
import Derived.Deep.CutRange
import Derived.Laws.ResultCell
import Derived.Laws.Rows
import Derived.DeepKeys
import Derived.DataBytes
import Derived.Laws.StructEq
import Derived.Laws.AppendOwn
import Derived.Laws.MakeOwn
import Derived.Lib.AppendStr
set_option linter.unusedSimpArgs false
set_option linter.unusedVariables false
namespace Go.Proofs.Qxb6500789a
open Go.RowKit Go.Blk
attribute [local go_sem ↓] execOp_load execOp_store execOp_alloc
attribute [local go_sem] Try.ld29 Try.st29 Try.ld3 Try.st3 Try.ld9 Try.st9 Try.ld30 Try.st30 Try.ld34 Try.st34 Try.ld35 Try.st35 Try.ld36 Try.st36 Try.ld37 Try.st37 Try.ld44 Try.st44 Try.ld45 Try.st45 Try.ld54 Try.st54 Try.ld55 Try.st55 Try.ld74 Try.st74 Try.ld80 Try.st80 Try.ld84 Try.st84 Try.ld106 Try.st106 Try.ld107 Try.st107 Try.ld4 Try.st4 Try.ld121 Try.st121 Try.ld2 Try.st2 Try.ld5 Try.st5 Try.ld12 Try.st12 Try.ld21 Try.st21 Try.ld22 Try.st22 Try.ld24 Try.st24 Try.ld26 Try.st26 Try.ld63 Try.st63 Try.ld71 Try.st71 Try.ld103 Try.st103 Try.ld130 Try.st130 Try.ld133 Try.st133 Try.ld140 Try.st140 Try.ld152 Try.st152 Try.ld39 Try.st39 Try.ld32 Try.st32 Try.ld41 Try.st41 Try.ld47 Try.st47 Try.ld57 Try.st57 Try.ld62 Try.st62 Try.ld76 Try.st76 Try.ld82 Try.st82 Try.ld86 Try.st86 Try.ld109 Try.st109 Try.ld115 Try.st115 Try.ld123 Try.st123 Try.ld135 Try.st135 Try.al39 Try.al32 Try.al41 Try.al47 Try.al57 Try.al62 Try.al76 Try.al82 Try.al86 Try.al109 Try.al115 Try.al123 Try.al135
attribute [local go_sem] Answer.length_enc Answer.ok_enc Answer.all_get Answer.all_set Answer.code_get Answer.code_set Answer.n_get Answer.n_set Answer.name_get Answer.name_set Answer.rows_get Answer.rows_set GOp.length_enc GOp.ok_enc GOp.all_get GOp.all_set GOp.kind_get GOp.kind_set GOp.rel_get GOp.rel_set GOp.mask_get GOp.mask_set GOp.t_get GOp.t_set GOp.n_get GOp.n_set GOp.name_get GOp.name_set Store.length_enc Store.ok_enc Store.all_get Store.all_set Store.names_get Store.names_set Store.rels_get Store.rels_set GRel.length_enc GRel.ok_enc GRel.all_get GRel.all_set GRel.arity_get GRel.arity_set GRel.masks_get GRel.masks_set GRel.rows_get GRel.rows_set Row.length_enc Row.ok_enc Row.all_get Row.all_set Row.t_get Row.t_set Row.mark_get Row.mark_set View.length_enc View.ok_enc View.all_get View.all_set View.names_get View.names_set View.rels_get View.rels_set Symtab.length_enc Symtab.ok_enc Symtab.all_get Symtab.all_set Symtab.names_get Symtab.names_set Symtab.table_get Symtab.table_set StoreTuplestore.length_enc StoreTuplestore.ok_enc StoreTuplestore.all_get StoreTuplestore.all_set StoreTuplestore.syms_get StoreTuplestore.syms_set StoreTuplestore.rels_get StoreTuplestore.rels_set StoreTuplestore.syms_names_get StoreTuplestore.syms_names_set StoreTuplestore.syms_table_get StoreTuplestore.syms_table_set Relation.length_enc Relation.ok_enc Relation.all_get Relation.all_set Relation.arity_get Relation.arity_set Relation.slots_get Relation.slots_set Relation.live_get Relation.live_set Relation.idx_get Relation.idx_set Slot.length_enc Slot.ok_enc Slot.all_get Slot.all_set Slot.t_get Slot.t_set Slot.mark_get Slot.mark_set Slot.live_get Slot.live_set RelView.length_enc RelView.ok_enc RelView.all_get RelView.all_set RelView.arity_get RelView.arity_set RelView.rows_get RelView.rows_set RelView.marks_get RelView.marks_set RelView.indexed_get RelView.indexed_set Index.length_enc Index.ok_enc Index.all_get Index.all_set Index.mask_get Index.mask_set Index.heads_get Index.heads_set Index.next_get Index.next_set
attribute [local go_sem] size_put size_ext blk_put free_put blk_alloc free_alloc blk_drew free_drew blk_ext free_ext lookOr_some putOr_some segAt_some cellAt_some storeIn_some put_put put_alloc_new length_arr ok_arr_u8 ok_arr_u32 ok_arr_u64 ok_arr_i64 ok_arr_sl cellsV_agg cellsV_int cellsV_bool cellsV_string cellsV_pointer cellsV_slice cellsV_sl ok_int ok_bool ok_string ok_pointer ok_slice ok_sl toList_arr seg_arr set_arr nth_splice nth_splice0 seg_splice seg_splice0 splice_splice splice_splice0 length_splice_if
attribute [local go_sem ↓] execOp_box
attribute [local go_sem] box_run nth_arr_u8 put_arr_u8 blk_drewN free_drewN put_drewN blk_raw free_raw
theorem build135 (w : World) (m : Int) : (buildOp 135 #[(0, .int .i64 m)]).run Try.prog w = .ok (.value (.agg (ixE m none 0 0 none 0 0).toArray)) w := by kernel_rfl
theorem bslice107_lit (w : World) (a b c : Value) : (bsliceOp 107 1 #[(0, .agg #[a, b, c])]).run Try.prog w = .ok (.value (.slice (some ⟨w.heap.size, 0, none⟩) 1 1)) (w.alloc (.cells #[a, b, c] 135)) := by kernel_rfl
theorem bslice107 (w : World) (m : Int) (ha : Option Addr) (hn hc : Nat) (xa : Option Addr) (xn xc : Nat) : (bsliceOp 107 1 #[(0, .agg (ixE m ha hn hc xa xn xc).toArray)]).run Try.prog w = .ok (.value (.slice (some ⟨w.heap.size, 0, none⟩) 1 1)) (w.alloc (.cells (ixE m ha hn hc xa xn xc).toArray 135)) := bslice107_lit w _ _ _
theorem IxR.one (r : IxR) : (IxR.enc r).all (fun v => v.oneCell') = true := rfl
/-- The last index is new and rebuilt. -/
theorem ix_last {B : Nat} {O : Own} {V : World} {i : Nat} {sa : Option Addr} {sn sc : Nat} {ia : Option Addr} {iN ic : Nat} {L : List Slot} {K : List IxD} {mk : Nat} (hrow : RowL B O (.idx i) V 135 3 (.slice ia (iN + 1) ic) (K.map (toR L.length) ++ [(⟨mk, none, 0, 0, none, 0, 0⟩ : IxR)]).length ((K.map (toR L.length) ++ [(⟨mk, none, 0, 0, none, 0, 0⟩ : IxR)]).flatMap IxR.enc)) (hKn : K.length = iN)
    (hs : RowL B O (.slots i) V 115 6 (.slice sa sn sc) L.length (L.flatMap Slot.enc)) (hix : ∀ (j : Nat) (k : IxD), K[j]? = some k → IxIn B O V i j L k) (hmk : mk < 16) :
    ∃ (gi : Nat) (Ci : List Value), ia = some ⟨gi, 0, none⟩ ∧ V.heap[gi]? = some (.cells Ci.toArray 135 (0, 0)) ∧ O gi = .idx i ∧ seg Ci (iN * 3) 3 = ixE (mk : Int) none 0 0 none 0 0 ∧ iN * 3 + 3 ≤ Ci.length ∧
      ∀ V', RebPost B O V gi (iN * 3) Ci 135 i iN mk L (.returned (.tuple #[])) V' → ∃ O' k, Fr (isIxs i) O V O' V' ∧ RelIn B O' V' i sa sn sc ia (iN + 1) ic L (K ++ [k]) ∧ k.m = mk ∧ SzB k L.length := by
  obtain ⟨gi, Ci, e1, e2, e3, e4, e5, e6, e7, e8⟩ := hrow.openT IxR.len (by omega)
  have hget : (K.map (toR L.length) ++ [(⟨mk, none, 0, 0, none, 0, 0⟩ : IxR)])[iN]? = some ⟨mk, none, 0, 0, none, 0, 0⟩ := by
    rw [List.getElem?_append_right (by simp [hKn])]; simp [hKn]
  have hseg := e7 iN _ hget
  refine ⟨gi, Ci, e1, e2, e4, hseg, by omega, fun V' hP => ?_⟩
  obtain ⟨_, ha, size, jj, hjj, hj3, hj20, hs1, hs2, O', xa, xc, hF, hty, hog, hH, hN⟩ := hP
  rw [List.take_of_length_le (Nat.le_refl _)] at hH hN
  have hF' : Fr (isIxs i) O V O' V' := hF.mono (fun l hl => by
    rcases hl with rfl | rfl | rfl
    · exact .inr (.inl ⟨_, rfl⟩)
    · exact .inr (.inr ⟨_, rfl⟩)
    · exact .inl rfl)
  refine ⟨O', ⟨mk, size, ha, xa, xc⟩, hF', ⟨hs.fr hF (by rintro (e | e | e) <;> cases e), ?_, fun j k hk => ?_⟩, rfl, hs1, hs2⟩
  · have h9 := e8 O' V' _ ((K ++ [(⟨mk, size, ha, xa, xc⟩ : IxD)]).map (toR L.length)) hty (ix_len (by omega)) (by simp) ?_ hog
    · rw [toR_flat, List.length_map] at h9
      exact h9
    · intro j x hx
      rw [List.map_append] at hx
      by_cases hj : j < iN
      · rw [List.getElem?_append_left (by simp [hKn]; exact hj)] at hx
        rw [seg_off (by show iN * 3 + 3 ≤ _; omega) (.inl (by omega))]
        exact e7 j x (by rw [List.getElem?_append_left (by simp [hKn]; exact hj)]; exact hx)
      · rw [List.getElem?_append_right (by simp [hKn]; omega)] at hx
        have hj0 : j = iN := by
          have := (List.getElem?_eq_some_iff.1 hx).1
          simp [hKn] at this; omega
        subst hj0
        simp [hKn] at hx
        rw [ix_seg (by omega), ← hx]; rfl
  · by_cases hj : j < iN
    · rw [List.getElem?_append_left (by omega)] at hk
      exact (hix j k hk).fr hF (by rintro (e | e | e) <;> cases e; omega) (by rintro (e | e | e) <;> cases e; omega)
    · rw [List.getElem?_append_right (by omega)] at hk
      have hj0 : j = iN := by
        have := (List.getElem?_eq_some_iff.1 hk).1
        simp at this; omega
      subst hj0
      simp [hKn] at hk
      rw [← hk]
      exact ⟨⟨hmk, jj, hjj, hj3, hj20⟩, hH, hN⟩
def AddIxPost (B : Nat) (O : Own) (W : World) (gr o : Nat) (Cr : List Value) (tyr : TypeId) (lr : Lab) (i ar : Nat) (L : List Slot) (K : List IxD) (mk : Nat) (e : Ending) (W' : World) : Prop := e = .returned (.tuple #[]) ∧ ∃ O' Cr' L' K', Fr (isRelR i lr) O W O' W' ∧ RelSt B O' W' gr o tyr i ar L' K' Cr' ∧ RelCh Cr Cr' o ∧ RInv ar L' K' ∧ K'.map (·.m) = K.map (·.m) ++ [mk] ∧ rowsOf L' = rowsOf L
attribute [local go_sem] build135 bslice107
attribute [local go_sem ↓] execOp_build execOp_bslice
set_option maxRecDepth 20000 in
set_option maxHeartbeats 4000000 in
theorem addIndex_any (B : Nat) (O : Own) (W : World) (gr o : Nat) (Cr : List Value) (tyr : TypeId) (lr : Lab) (i ar : Nat) (L : List Slot) (K : List IxD) (hS : RelSt B O W gr o tyr i ar L K Cr) (hlr : O gr = lr) (hnl : ¬ isRel i lr) (hno : lr ≠ .no) (hV : RInv ar L K) (hB : B ≤ W.heap.size) (mk : Nat) (hmk : mk < 2 ^ ar) (hnew : mk ∉ K.map (·.m)) :
    Calls Try.prog 69 #[.pointer (some ⟨gr, o, none⟩), .int .i64 (mk : Int)] W (AddIxPost B O W gr o Cr tyr lr i ar L K mk) := by
  obtain ⟨sa, sn, sc, ia, iN, ic, hty, hR, hI⟩ := hS
  have hfew := hV.few
  obtain ⟨hLn, hKn⟩ := hI.lens
  have hsn : sn ≤ 2048 := by omega
  have hiN : iN ≤ 16 := by omega
  have hb : blk W gr = some Cr := blk_mk hty
  have hmk16 : mk < 16 := by
    have := Nat.pow_le_pow_right (n := 2) (by decide) hV.ar4
    omega
  have HV : Hid (RInv ar L K) := hV
  have HNL : Hid (¬ isRel i lr) := hnl
  have HLR : Hid (O gr = lr) := hlr
  have HNEW : Hid (mk ∉ K.map (·.m)) := hnew
  have HR : Hid (RelAt Cr o (ar : Int) sa sn sc ((liveL L).length : Int) ia iN ic) := hR
  have HTY : Hid (W.heap[gr]? = some (.cells Cr.toArray tyr (0, 0))) := hty
  have HI : Hid (RelIn B O W i sa sn sc ia iN ic L K) := hI
  clear hV hnl hlr hnew hR hty hI hLn hKn hfew hno
  go_enter Try.func69, Try.ntmps69
  go_wp2_with fail
  refine (compact_any B O W gr o Cr tyr lr i (ar : Int) sa sn sc ((liveL L).length : Int) ia iN ic L K HTY.out HLR.out HNL.out HR.out HI.out (by omega) (by omega) hB).mono ?_
  rintro e W2 ⟨rfl, O2, K2, hF2, hty2, hI2, hKm2, hSz2⟩
  obtain ⟨hV2, hrm2⟩ := rinv_live HV.out hKm2 hSz2 hI2.sz
  obtain ⟨C2, hC2⟩ : ∃ C2, C2 = splice Cr (o + 1) [.slice sa (liveL L).length sc] := ⟨_, rfl⟩
  rw [← hC2] at hty2
  have hR2 : RelAt C2 o (ar : Int) sa (liveL L).length sc ((liveL L).length : Int) ia iN ic := by rw [hC2]; exact HR.out.set1 _ _ _
  have hch2 : RelCh Cr C2 o := by rw [hC2]; exact RelCh.put 1 _ (by omega) HR.out.len
  have hlr2 : O2 gr = lr := (hF2.keep gr (blk_lt hb)).trans HLR.out
  obtain ⟨L2, hL2⟩ : ∃ L2, L2 = liveL L := ⟨_, rfl⟩
  have hrows : rowsOf L2 = rowsOf L := by rw [hL2]; exact rowsOf_live L
  have hll : liveL L2 = L2 := by rw [hL2]; exact liveL_live L
  rw [← hL2] at hI2 hV2 hrm2 hR2 hSz2
  obtain ⟨n2, hn2⟩ : ∃ n2, n2 = L2.length := ⟨_, rfl⟩
  rw [← hn2] at hI2 hR2
  have hn2l : n2 ≤ 2048 := by have := hV2.few.2.1; omega
  have hK2n : K2.length = iN := hI2.lens.2
  have hb2 : blk W2 gr = some C2 := blk_mk hty2
  have hf2 : free W2 gr = true := free_mk hty2
  have hidx2 : RowL B O2 (.idx i) W2 135 3 (.slice ia iN ic) (K2.map (toR L2.length)).length ((K2.map (toR L2.length)).flatMap IxR.enc) := by rw [toR_flat, List.length_map]; exact hI2.idx
  obtain ⟨ia3, ic3, W3, hrun, hrow3, hfr3⟩ := appL IxR.enc 3 56 107 135 Try.underlying107 info135 IxR.len IxR.one (by omega) (by omega) (W := W2) 107 (⟨mk, none, 0, 0, none, 0, 0⟩ : IxR) hidx2 (Nat.le_trans hB hF2.size) (by rw [List.length_map]; omega) (ixE (mk : Int) none 0 0 none 0 0).toArray rfl 1
  obtain ⟨O3, hO3⟩ : ∃ O3, O3 = lab O2 W2.heap.size (.idx i) := ⟨_, rfl⟩
  rw [← hO3] at hrow3 hfr3
  have hnid : ¬ lr = .idx i := fun e => HNL.out (.inr (.inl e))
  have hb3 : blk W3 gr = some C2 := hfr3.blk hb2 (by rw [hlr2]; exact hnid)
  have hf3 : free W3 gr = true := hfr3.free hb2 hf2 (by rw [hlr2]; exact hnid)
  have hty3 : W3.heap[gr]? = some (.cells C2.toArray tyr (0, 0)) := (hfr3.block gr (blk_lt hb2) (by rw [hlr2]; exact hnid)).trans hty2
  have hlr3 : O3 gr = lr := (hfr3.keep gr (blk_lt hb2)).trans hlr2
  obtain ⟨C3, hC3⟩ : ∃ C3, C3 = splice C2 (o + 3) [.slice ia3 (iN + 1) ic3] := ⟨_, rfl⟩
  have hC3' : splice C2 (o + 3) [.slice ia3 (iN + 1) ic3] = C3 := hC3.symm
  have hR3 : RelAt C3 o (ar : Int) sa n2 sc (n2 : Int) ia3 (iN + 1) ic3 := by rw [hC3]; exact hR2.set3 _ _ _
  have hch3 : RelCh Cr C3 o := by rw [hC3]; exact hch2.trans (RelCh.put 3 _ (by omega) hR2.len)
  have hty4 : (put W3 gr C3).heap[gr]? = some (.cells C3.toArray tyr (0, 0)) := by rw [heap_put, if_pos rfl, hty3]; rfl
  have hF34 : Fr (fun l => l = .idx i ∨ l = lr) O2 W2 O3 (put W3 gr C3) := Fr.put (hfr3.mono (L' := fun l => l = .idx i ∨ l = lr) (fun l hl => .inl hl)) (by rw [hlr3]; exact .inr rfl) _
  have hne : ∀ l, isRel i l → l ≠ .idx i → ¬ (l = .idx i ∨ l = lr) := fun l h1 h2 h3 => by
    rcases h3 with h3 | h3
    · exact h2 h3
    · exact HNL.out (h3 ▸ h1)
  have hrow4 : RowL B O3 (.idx i) (put W3 gr C3) 135 3 (.slice ia3 (iN + 1) ic3) (K2.map (toR L2.length) ++ [(⟨mk, none, 0, 0, none, 0, 0⟩ : IxR)]).length ((K2.map (toR L2.length) ++ [(⟨mk, none, 0, 0, none, 0, 0⟩ : IxR)]).flatMap IxR.enc) := hrow3.keep (fun k hk ho => ⟨by rw [heap_put, if_neg (fun e => by rw [e, hlr3] at ho; exact hnid ho)], rfl⟩)
  have hsl4 := hI2.slots.fr hF34 (hne _ (.inl rfl) (by intro e; cases e))
  have hix4 : ∀ (j : Nat) (k : IxD), K2[j]? = some k → IxIn B O3 (put W3 gr C3) i j L2 k := fun j k hk => (hI2.ixs j k hk).fr hF34 (hne _ (.inr (.inr (.inl ⟨j, rfl⟩))) (by intro e; cases e)) (hne _ (.inr (.inr (.inr ⟨j, rfl⟩))) (by intro e; cases e))
  obtain ⟨gi, Ci, hia3, htyi, hoi, hsegi, hci, hcont⟩ := ix_last hrow4 hK2n hsl4 hix4 hmk16
  have hF04 : Fr (isRelR i lr) O W O3 (put W3 gr C3) := hF2.trans (hF34.mono (fun l hl => by
    rcases hl with hl | hl
    · exact .inr (.inr (.inl hl))
    · exact .inl hl))
  have hl2 : ¬ isIxs i lr := fun h => HNL.out (by
    rcases h with rfl | ⟨j, rfl⟩ | ⟨j, rfl⟩
    · exact .inr (.inl rfl)
    · exact .inr (.inr (.inl ⟨j, rfl⟩))
    · exact .inr (.inr (.inr ⟨j, rfl⟩)))
  have HFIN : Hid (∀ V', RebPost B O3 (put W3 gr C3).drew gi (iN * 3) Ci 135 i iN mk L2 (.returned (.tuple #[])) V' → AddIxPost B O W gr o Cr tyr lr i ar L K mk (.returned (.tuple #[])) V') := by
    intro V' h
    have h' : RebPost B O3 (put W3 gr C3) gi (iN * 3) Ci 135 i iN mk L2 (.returned (.tuple #[])) V' := by
      obtain ⟨g1, ha, size, jj, h1, h2, h3, h4, h5, O', xa, xc, hF, hrest⟩ := h
      exact ⟨g1, ha, size, jj, h1, h2, h3, h4, h5, O', xa, xc, ⟨hF.os, hF.tape, hF.output, hF.size, hF.keep, hF.block⟩, hrest⟩
    obtain ⟨O', k, hF5, hI5, hkm, hkz⟩ := hcont V' h'
    refine ⟨rfl, O', C3, L2, K2 ++ [k], hF04.trans (hF5.mono (fun l hl => .inr ?_)), ⟨sa, n2, sc, ia3, iN + 1, ic3, ?_, ?_, hI5⟩, hch3, ?_, ?_, hrows⟩
    · rcases hl with rfl | ⟨j, rfl⟩ | ⟨j, rfl⟩
      · exact .inr (.inl rfl)
      · exact .inr (.inr (.inl ⟨j, rfl⟩))
      · exact .inr (.inr (.inr ⟨j, rfl⟩))
    · exact (hF5.block gr (by rw [size_put]; exact blk_lt hb3) (by rw [hlr3]; exact hl2)).trans hty4
    · rw [hll, ← hn2]; exact hR3
    · refine ⟨hV2.ar4, hV2.nodup, hV2.live, ?_, ?_, ?_, ?_⟩
      · obtain ⟨k0, h1, h2, h3⟩ := hV2.k0
        exact ⟨k0, by rw [List.getElem?_append_left (List.getElem?_eq_some_iff.1 h1).1]; exact h1, h2, h3⟩
      · intro k' hk'
        rcases List.mem_append.1 hk' with h | h
        · exact hV2.sizes k' h
        · rw [List.mem_singleton.1 h]; exact szB_le hkz (by have := hV2.live; rw [hll] at this; exact this)
      · rw [List.map_append, List.nodup_append]
        refine ⟨hV2.masks, by simp, fun a ha b hb => ?_⟩
        have hbm : b = mk := by simpa [hkm] using hb
        rw [hbm]
        intro e
        rw [hKm2, e] at ha
        exact HNEW.out ha
      · intro k' hk'
        rcases List.mem_append.1 hk' with h | h
        · exact hV2.mlt k' h
        · rw [List.mem_singleton.1 h, hkm]; exact hmk
    · rw [List.map_append, hKm2, List.map_singleton, hkm]
  have HS4 : Hid (RowL B O3 (.slots i) (put W3 gr C3) 115 6 (.slice sa n2 sc) L2.length (L2.flatMap Slot.enc) ∧ seg Ci (iN * 3) 3 = ixE (mk : Int) none 0 0 none 0 0 ∧ (put W3 gr C3).heap[gi]? = some (.cells Ci.toArray 135 (0, 0)) ∧ O3 gi = .idx i ∧ B ≤ (put W3 gr C3).heap.size) := ⟨hsl4, hsegi, htyi, hoi, Nat.le_trans hB hF04.size⟩
  have HBK : Hid (∀ V', RebPost B O3 (put W3 gr C3).drew gi (iN * 3) Ci 135 i iN mk L2 (.returned (.tuple #[])) V' → blk V' gr = some C3) := by
    intro V' h
    obtain ⟨g1, ha, size, jj, h1, h2, h3, h4, h5, O', xa, xc, hF, hrest⟩ := h
    have hbp : blk (put W3 gr C3).drew gr = some C3 := blk_mk hty4
    refine hF.blk hbp (by rw [hlr3]; intro h; exact hl2 (by
      rcases h with h | h | h
      · exact .inr (.inl ⟨_, h⟩)
      · exact .inr (.inr ⟨_, h⟩)
      · exact .inl h))
  have m3 := hR2.c3
  have ml := hR2.len
  have g3l : o + 3 + 1 ≤ C2.length := by omega
  have o1 := hR3.c1
  have o3 := hR3.c3
  have ol := hR3.len
  have ol1 : o + 1 + 1 ≤ C3.length := by omega
  have ol3 : o + 3 + 1 ≤ C3.length := by omega
  have hb4 : blk (put W3 gr C3) gr = some C3 := blk_mk hty4
  have ngr : ¬ gr = W2.heap.size := Nat.ne_of_lt (blk_lt hb2)
  subst hia3
  have wj : IntKind.i64.wrap (((iN + 1 : Nat) : Int) - 1) = (iN : Int) := by rw [IntKind.wrap_i64]; omega
  have wj' : IntKind.i64.wrap (iN : Int) = (iN : Int) := by rw [IntKind.wrap_i64]; omega
  have q0 : (0 : Int) ≤ (iN : Int) := by omega
  have q1 : (iN : Int) < ((iN + 1 : Nat) : Int) := by omega
  have q1' : (iN : Int) < (iN : Int) + 1 := by omega
  have q2 : ((iN : Int)).toNat = iN := by omega
  clear hI2 hV2 hrm2 hSz2 hC2 hL2 hn2 hK2n hidx2 hrow3 hfr3 hO3 hC3 hR3 hch3 hty4 hF34 hne hrow4 hsl4 hix4 hcont hF04 hsegi htyi hoi hll hrows hty2 hty3 hF2 hKm2 hR2 hch2 hlr2 hlr3
  dsimp only
  go_upto_region 2 with (at_builtin; refine wpList_append_run rfl _ _ 107 rfl _ _ _ _ rfl rfl hrun ?_)
  refine wp_region_held_drew (S := fun W' => blk W' gr = some C3) (by kernel_rfl) hb4 (fun hHeld => ?_)
  refine wpAnyH_take (i := 0) (oi := ⟨_, _, _, _, _, _⟩) (v := ?_) rfl (by kernel_rfl) (by kernel_rfl) (by kernel_rfl) (fun _ _ _ h => h) (Or.inl ⟨by rfl, ?_⟩) (by assumption) ?_
  rotate_left 1
  · intro W' hS1
    go_simp
    try with_reducible rfl
  try simp only [Act.put, List.setIfInBounds_toArray, List.set_cons_zero, List.set_cons_succ]
  refine wpAnyH_take (i := 1) (oi := ⟨_, _, _, _, _, _⟩) (v := ?_) rfl (by kernel_rfl) (by kernel_rfl) (by kernel_rfl) (fun _ _ _ h => h) (Or.inl ⟨by rfl, ?_⟩) (by assumption) ?_
  rotate_left 1
  · intro W' hS1
    go_simp
    try with_reducible rfl
  try simp only [Act.put, List.setIfInBounds_toArray, List.set_cons_zero, List.set_cons_succ]
  refine wpAnyH_take (i := 2) (oi := ⟨_, _, _, _, _, _⟩) (v := ?_) rfl (by kernel_rfl) (by kernel_rfl) (by kernel_rfl) (fun _ _ _ h => h) (Or.inl ⟨by rfl, ?_⟩) (by assumption) ?_
  rotate_left 1
  · intro W' hS1
    go_simp
    try with_reducible rfl
  try simp only [Act.put, List.setIfInBounds_toArray, List.set_cons_zero, List.set_cons_succ]
  refine wpAnyH_take (i := 3) (oi := ⟨_, _, _, _, _, _⟩) (v := ?_) rfl (by kernel_rfl) (by kernel_rfl) (by kernel_rfl) (fun _ _ _ h => h) (Or.inl ⟨by rfl, ?_⟩) (by assumption) ?_
  rotate_left 1
  · intro W' hS1
    go_simp
    try with_reducible rfl
  try simp only [Act.put, List.setIfInBounds_toArray, List.set_cons_zero, List.set_cons_succ]
  refine wpAnyH_take (i := 4) (oi := ⟨_, _, _, _, _, _⟩) (v := ?_) rfl (by kernel_rfl) (by kernel_rfl) (by kernel_rfl) (fun _ _ _ h => h) (Or.inl ⟨by rfl, ?_⟩) (by assumption) ?_
  rotate_left 1
  · intro W' hS1
    go_simp
    try with_reducible rfl
  try simp only [Act.put, List.setIfInBounds_toArray, List.set_cons_zero, List.set_cons_succ]
  refine wpAnyH_take (i := 5) (oi := ⟨_, _, _, _, _, _⟩) (v := ?_) rfl (by kernel_rfl) (by kernel_rfl) (by kernel_rfl) (fun _ _ _ h => h) (Or.inl ⟨by rfl, ?_⟩) (by assumption) ?_
  rotate_left 1
  · intro W' hS1
    go_simp
    try with_reducible rfl
  try simp only [Act.put, List.setIfInBounds_toArray, List.set_cons_zero, List.set_cons_succ]
  refine wpAnyH_take (i := 6) (oi := ⟨_, _, _, _, _, _⟩) (v := ?_) rfl (by kernel_rfl) (by kernel_rfl) (by kernel_rfl) (fun _ _ _ h => h) (Or.inl ⟨by rfl, ?_⟩) (by assumption) ?_
  rotate_left 1
  · intro W' hS1
    go_simp
    try with_reducible rfl
  try simp only [Act.put, List.setIfInBounds_toArray, List.set_cons_zero, List.set_cons_succ]
  refine wpAnyH_take (i := 7) (oi := ⟨_, _, _, _, _, _⟩) (v := ?_) rfl (by kernel_rfl) (by kernel_rfl) (by kernel_rfl) (fun _ _ _ h => h) (Or.inl ⟨by rfl, ?_⟩) (by assumption) ?_
  rotate_left 1
  · intro W' hS1
    go_simp
    try with_reducible rfl
  try simp only [Act.put, List.setIfInBounds_toArray, List.set_cons_zero, List.set_cons_succ]
  refine wpAnyH_take (i := 8) (oi := ⟨_, _, _, _, _, _⟩) (v := ?_) rfl (by kernel_rfl) (by kernel_rfl) (by kernel_rfl) (fun _ _ _ h => h) (Or.inl ⟨by rfl, ?_⟩) (by assumption) ?_
  rotate_left 1
  · intro W' hS1
    go_simp
    try with_reducible rfl
  try simp only [Act.put, List.setIfInBounds_toArray, List.set_cons_zero, List.set_cons_succ]
  refine wpAnyH_take (i := 9) (oi := ⟨_, _, _, _, _, _⟩) (v := ?_) rfl (by kernel_rfl) (by kernel_rfl) (by kernel_rfl) (fun _ _ _ h => h) (Or.inl ⟨by rfl, ?_⟩) (by assumption) ?_
  rotate_left 1
  · intro W' hS1
    go_simp
    try with_reducible rfl
  try simp only [Act.put, List.setIfInBounds_toArray, List.set_cons_zero, List.set_cons_succ]
  refine wpAnyH_take (i := 10) (oi := ⟨_, _, _, _, _, _⟩) (v := ?_) rfl (by kernel_rfl) (by kernel_rfl) (by kernel_rfl) (fun _ _ _ h => h) (Or.inl ⟨by rfl, ?_⟩) (by assumption) ?_
  rotate_left 1
  · intro W' hS1
    go_simp
    try with_reducible rfl
  try simp only [Act.put, List.setIfInBounds_toArray, List.set_cons_zero, List.set_cons_succ]
  refine wpAnyH_take (i := 11) (oi := ⟨_, _, _, _, _, _⟩) (v := ?_) rfl (by kernel_rfl) (by kernel_rfl) (by kernel_rfl) (fun _ _ _ h => h) (Or.inl ⟨by rfl, ?_⟩) (by assumption) ?_
  rotate_left 1
  · intro W' hS1
    go_simp
    try with_reducible rfl
  try simp only [Act.put, List.setIfInBounds_toArray, List.set_cons_zero, List.set_cons_succ]
  refine wpAnyH_take (i := 12) (oi := ⟨_, _, _, _, _, _⟩) (v := ?_) rfl (by kernel_rfl) (by kernel_rfl) (by kernel_rfl) (fun _ _ _ h => h) (Or.inl ⟨by rfl, ?_⟩) (by assumption) ?_
  rotate_left 1
  · intro W' hS1
    go_simp
    try with_reducible rfl
  try simp only [Act.put, List.setIfInBounds_toArray, List.set_cons_zero, List.set_cons_succ]
  refine wpAnyH_take (i := 13) (oi := ⟨_, _, _, _, _, _⟩) (v := ?_) rfl (by kernel_rfl) (by kernel_rfl) (by kernel_rfl) (fun _ _ _ h => h) (Or.inl ⟨by rfl, ?_⟩) (by assumption) ?_
  rotate_left 1
  · intro W' hS1
    go_simp
    try with_reducible rfl
  try simp only [Act.put, List.setIfInBounds_toArray, List.set_cons_zero, List.set_cons_succ]
  refine wpAnyH_take (i := 14) (oi := ⟨_, _, _, _, _, _⟩) (v := ?_) rfl (by kernel_rfl) (by kernel_rfl) (by kernel_rfl) (fun _ _ _ h => h) (Or.inl ⟨by rfl, ?_⟩) (by assumption) ?_
  rotate_left 1
  · intro W' hS1
    go_simp
    try with_reducible rfl
  try simp only [Act.put, List.setIfInBounds_toArray, List.set_cons_zero, List.set_cons_succ]
  refine wpAnyH_ready (rs := [15]) (by kernel_rfl) (by simp) ?_
  refine AllReadyH.cons (o := ⟨_, _, _, _, _, _⟩) rfl (fun K' hK => ?_) AllReadyH.nil
  go_simp
  refine (rebuild_any B O3 (put W3 gr C3).drew gi (iN * 3) Ci i iN mk none 0 0 none 0 0 [] sa n2 sc L2 135 HS4.out.2.2.1 HS4.out.2.2.2.1 HS4.out.2.1 hci (RowL.nil _ _ _ _ _ _) HS4.out.1 hmk16 (by omega) HS4.out.2.2.2.2).mono ?_
  intro e V3 hP3
  have hbV3 : blk V3 gr = some C3 := HBK.out V3 (by obtain ⟨rfl, h⟩ := hP3; exact ⟨rfl, h⟩)
  have HD : Hid (AddIxPost B O W gr o Cr tyr lr i ar L K mk (.returned (.tuple #[])) V3) := HFIN.out V3 (by obtain ⟨rfl, h⟩ := hP3; exact ⟨rfl, h⟩)
  obtain ⟨rfl, _⟩ := hP3
  clear HFIN HBK HS4
  dsimp only
  refine hK.out _ _ hbV3 (fun hHeld => ?_)
  clear hK K'
  try simp only [Act.put, List.setIfInBounds_toArray, List.set_cons_zero, List.set_cons_succ]
  refine wpAnyH_done (by kernel_rfl) ?_ _
  go_wp2_with fail
  go_end0
  exact HD.out
end Go.Proofs.Qxb6500789a
