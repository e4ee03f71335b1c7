import Derived.Test.Qxb6500789aXq
import Derived.StillTailTactics
import Derived.Deep.QuietTactic
import Derived.BigQuiet
import Derived.Deep.RegionHeld
import Derived.Deep.CutRange
import Derived.Laws.ResultCell
import Derived.Laws.Rows
import Derived.DeepKeys
import Derived.DataBytes
import Derived.Laws.StructEq
import Derived.Laws.AppendOwn
import Derived.Laws.MakeOwn
import Derived.Lib.AppendStr
set_option linter.unusedSimpArgs false
set_option linter.unusedVariables false
namespace Go.Proofs.Qxb6500789a
open Go.RowKit Go.Blk
attribute [local go_sem ↓] execOp_load execOp_store execOp_alloc
attribute [local go_sem] Try.ld29 Try.st29 Try.ld3 Try.st3 Try.ld9 Try.st9 Try.ld30 Try.st30 Try.ld34 Try.st34 Try.ld35 Try.st35 Try.ld36 Try.st36 Try.ld37 Try.st37 Try.ld44 Try.st44 Try.ld45 Try.st45 Try.ld54 Try.st54 Try.ld55 Try.st55 Try.ld74 Try.st74 Try.ld80 Try.st80 Try.ld84 Try.st84 Try.ld106 Try.st106 Try.ld107 Try.st107 Try.ld4 Try.st4 Try.ld121 Try.st121 Try.ld2 Try.st2 Try.ld5 Try.st5 Try.ld12 Try.st12 Try.ld21 Try.st21 Try.ld22 Try.st22 Try.ld24 Try.st24 Try.ld26 Try.st26 Try.ld63 Try.st63 Try.ld71 Try.st71 Try.ld103 Try.st103 Try.ld130 Try.st130 Try.ld133 Try.st133 Try.ld140 Try.st140 Try.ld152 Try.st152 Try.ld39 Try.st39 Try.ld32 Try.st32 Try.ld41 Try.st41 Try.ld47 Try.st47 Try.ld57 Try.st57 Try.ld62 Try.st62 Try.ld76 Try.st76 Try.ld82 Try.st82 Try.ld86 Try.st86 Try.ld109 Try.st109 Try.ld115 Try.st115 Try.ld123 Try.st123 Try.ld135 Try.st135 Try.al39 Try.al32 Try.al41 Try.al47 Try.al57 Try.al62 Try.al76 Try.al82 Try.al86 Try.al109 Try.al115 Try.al123 Try.al135
attribute [local go_sem] Answer.length_enc Answer.ok_enc Answer.all_get Answer.all_set Answer.code_get Answer.code_set Answer.n_get Answer.n_set Answer.name_get Answer.name_set Answer.rows_get Answer.rows_set GOp.length_enc GOp.ok_enc GOp.all_get GOp.all_set GOp.kind_get GOp.kind_set GOp.rel_get GOp.rel_set GOp.mask_get GOp.mask_set GOp.t_get GOp.t_set GOp.n_get GOp.n_set GOp.name_get GOp.name_set Store.length_enc Store.ok_enc Store.all_get Store.all_set Store.names_get Store.names_set Store.rels_get Store.rels_set GRel.length_enc GRel.ok_enc GRel.all_get GRel.all_set GRel.arity_get GRel.arity_set GRel.masks_get GRel.masks_set GRel.rows_get GRel.rows_set Row.length_enc Row.ok_enc Row.all_get Row.all_set Row.t_get Row.t_set Row.mark_get Row.mark_set View.length_enc View.ok_enc View.all_get View.all_set View.names_get View.names_set View.rels_get View.rels_set Symtab.length_enc Symtab.ok_enc Symtab.all_get Symtab.all_set Symtab.names_get Symtab.names_set Symtab.table_get Symtab.table_set StoreTuplestore.length_enc StoreTuplestore.ok_enc StoreTuplestore.all_get StoreTuplestore.all_set StoreTuplestore.syms_get StoreTuplestore.syms_set StoreTuplestore.rels_get StoreTuplestore.rels_set StoreTuplestore.syms_names_get StoreTuplestore.syms_names_set StoreTuplestore.syms_table_get StoreTuplestore.syms_table_set Relation.length_enc Relation.ok_enc Relation.all_get Relation.all_set Relation.arity_get Relation.arity_set Relation.slots_get Relation.slots_set Relation.live_get Relation.live_set Relation.idx_get Relation.idx_set Slot.length_enc Slot.ok_enc Slot.all_get Slot.all_set Slot.t_get Slot.t_set Slot.mark_get Slot.mark_set Slot.live_get Slot.live_set RelView.length_enc RelView.ok_enc RelView.all_get RelView.all_set RelView.arity_get RelView.arity_set RelView.rows_get RelView.rows_set RelView.marks_get RelView.marks_set RelView.indexed_get RelView.indexed_set Index.length_enc Index.ok_enc Index.all_get Index.all_set Index.mask_get Index.mask_set Index.heads_get Index.heads_set Index.next_get Index.next_set
attribute [local go_sem] size_put size_ext blk_put free_put blk_alloc free_alloc blk_drew free_drew blk_ext free_ext lookOr_some putOr_some segAt_some cellAt_some storeIn_some put_put put_alloc_new length_arr ok_arr_u8 ok_arr_u32 ok_arr_u64 ok_arr_i64 ok_arr_sl cellsV_agg cellsV_int cellsV_bool cellsV_string cellsV_pointer cellsV_slice cellsV_sl ok_int ok_bool ok_string ok_pointer ok_slice ok_sl toList_arr seg_arr set_arr nth_splice nth_splice0 seg_splice seg_splice0 splice_splice splice_splice0 length_splice_if
attribute [local go_sem ↓] execOp_box
attribute [local go_sem] box_run nth_arr_u8 put_arr_u8 blk_drewN free_drewN put_drewN blk_raw free_raw
def lkF (B : Nat) (O2 : Own) (W2 : World) (gr o b4 : Nat) (i : Nat) (ia : Option Addr) (iN ic : Nat) (L : List Slot) (s : Slot) (K : List IxD) (f : Nat → Value) (V : World) : Prop := f 0 = .pointer (some ⟨gr, o, none⟩) ∧ f 4 = .pointer (some ⟨b4, 0, none⟩) ∧ f 6 = .int .i64 (L.length : Nat) ∧ ∃ j : Nat, j ≤ iN ∧ f 7 = .int .i64 (j : Nat) ∧ Hid (LkI B O2 W2 i ia iN ic L s K j V)
set_option maxRecDepth 100000 in
theorem frame81 (f : Nat → Value) : frameN 81 f = #[f 0, f 1, f 2, f 3, f 4, f 5, f 6, f 7, f 8, f 9, f 10, f 11, f 12, f 13, f 14, f 15, f 16, f 17, f 18, f 19, f 20, f 21, f 22, f 23, f 24, f 25, f 26, f 27, f 28, f 29, f 30, f 31, f 32, f 33, f 34, f 35, f 36, f 37, f 38, f 39, f 40, f 41, f 42, f 43, f 44, f 45, f 46, f 47, f 48, f 49, f 50, f 51, f 52, f 53, f 54, f 55, f 56, f 57, f 58, f 59, f 60, f 61, f 62, f 63, f 64, f 65, f 66, f 67, f 68, f 69, f 70, f 71, f 72, f 73, f 74, f 75, f 76, f 77, f 78, f 79, f 80] := by kernel_rfl
theorem nodup_snoc {L : List Slot} {t : Tup} (h : (L.map (·.t)).Nodup) (hn : ∀ s ∈ L, s.t ≠ t) : ((L ++ [(⟨t, 0, true⟩ : Slot)]).map (·.t)).Nodup := by
  rw [List.map_append, List.nodup_append]
  refine ⟨h, by simp, fun a ha b hb => ?_⟩
  obtain ⟨s, hs, rfl⟩ := List.mem_map.1 ha
  have : b = t := by simpa using hb
  rw [this]; exact hn s hs
attribute [local go_sem] build115 bslice106
attribute [local go_sem ↓] execOp_build execOp_bslice
/-- The insertion's second half: the relation is in state L, K, with room; its live count is already raised. -/
theorem ins_fin (B : Nat) (O0 : Own) (W0 : World) (O : Own) (W : World) (gr o : Nat) (Cr0 Cr : List Value) (tyr : TypeId) (lr : Lab) (i ar : Nat) (L0 L : List Slot) (K0 K : List IxD) (sa : Option Addr) (sn sc : Nat) (ia : Option Addr) (iN ic : Nat) (t : Tup)
    (hF0 : Fr (isRelR i lr) O0 W0 O W) (hch : RelCh Cr0 Cr o) (hnl : ¬ isRel i lr) (hlr : O gr = lr) (hR : RelAt Cr o (ar : Int) sa (sn + 1) sc (((liveL L).length + 1 : Nat) : Int) ia iN ic) (hty : W.heap[gr]? = some (.cells Cr.toArray tyr (0, 0)))
    (hsl : RowL B O (.slots i) W 115 6 (.slice sa (sn + 1) sc) (L ++ [(⟨t, 0, true⟩ : Slot)]).length ((L ++ [(⟨t, 0, true⟩ : Slot)]).flatMap Slot.enc)) (hLn : L.length = sn) (hKn : K.length = iN)
    (hV : RInv ar L K) (hfull : (liveL L).length < 512) (hrm : ∃ k, K[0]? = some k ∧ L.length + 1 ≤ k.size) (hni : ∀ s ∈ L, s.t ≠ t) (hrows : rowsOf L = rowsOf L0) (hKm : K.map (·.m) = K0.map (·.m)) (V : World) (h : LkI B O W i ia iN ic L ⟨t, 0, true⟩ K iN V) :
    InsPost B O0 W0 gr o Cr0 tyr lr i ar L0 K0 t (.returned (.tuple #[])) V := by
  rw [← hKn] at h
  obtain ⟨O', K', hF, hidx, hix, hm, hz⟩ := lk_done h
  rw [hKn] at hidx
  have hl2 : ¬ isIxs i lr := fun h => hnl (by
    rcases h with rfl | ⟨j, rfl⟩ | ⟨j, rfl⟩
    · exact .inr (.inl rfl)
    · exact .inr (.inr (.inl ⟨j, rfl⟩))
    · exact .inr (.inr (.inr ⟨j, rfl⟩)))
  have hb : blk W gr = some Cr := blk_mk hty
  have hlv : (liveL (L ++ [(⟨t, 0, true⟩ : Slot)])).length = (liveL L).length + 1 := by rw [liveL_snoc, if_pos rfl, List.length_append]; rfl
  have hget : ∀ (j : Nat) (k' : IxD), K'[j]? = some k' → ∃ k, K[j]? = some k ∧ k'.m = k.m ∧ k'.size = k.size := fun j k' hk' => by
    have hl : K'.length = K.length := by have := congrArg List.length hm; simpa using this
    have hj : j < K.length := by rw [← hl]; exact (List.getElem?_eq_some_iff.1 hk').1
    refine ⟨K[j], List.getElem?_eq_getElem hj, ?_, ?_⟩
    · have := congrArg (fun l => l[j]?) hm
      simp only [List.getElem?_map, hk', List.getElem?_eq_getElem hj, Option.map_some] at this
      exact Option.some.inj this
    · have := congrArg (fun l => l[j]?) hz
      simp only [List.getElem?_map, hk', List.getElem?_eq_getElem hj, Option.map_some] at this
      exact Option.some.inj this
  refine ⟨rfl, O', Cr, L ++ [⟨t, 0, true⟩], K', hF0.trans (hF.mono (fun l hl => .inr ?_)), ⟨sa, sn + 1, sc, ia, iN, ic, (hF.block gr (blk_lt hb) (by rw [hlr]; exact hl2)).trans hty, by rw [hlv]; exact hR, ⟨hsl.fr hF ?_, hidx, hix⟩⟩, hch, ⟨hV.ar4, nodup_snoc hV.nodup hni, by rw [hlv]; omega, ?_, ?_, ?_, ?_⟩, hm.trans hKm, ?_⟩
  · rcases hl with rfl | ⟨j, rfl⟩ | ⟨j, rfl⟩
    · exact .inr (.inl rfl)
    · exact .inr (.inr (.inl ⟨j, rfl⟩))
    · exact .inr (.inr (.inr ⟨j, rfl⟩))
  · rintro (e | ⟨j, e⟩ | ⟨j, e⟩) <;> cases e
  · obtain ⟨k, h1, h2, h3⟩ := hV.k0
    obtain ⟨k2, h4, h5⟩ := hrm
    obtain rfl := Option.some.inj (h1.symm.trans h4)
    have hl : K'.length = K.length := by have := congrArg List.length hm; simpa using this
    have h0 : 0 < K'.length := by rw [hl]; exact (List.getElem?_eq_some_iff.1 h1).1
    obtain ⟨k3, h6, h7, h8⟩ := hget 0 K'[0] (List.getElem?_eq_getElem h0)
    obtain rfl := Option.some.inj (h1.symm.trans h6)
    exact ⟨K'[0], List.getElem?_eq_getElem h0, h7.trans h2, by rw [List.length_append, List.length_singleton, h8]; exact h5⟩
  · intro k hk
    obtain ⟨j, hj⟩ := List.mem_iff_getElem?.1 hk
    obtain ⟨k2, h1, _, h3⟩ := hget j k hj
    rw [h3]; exact hV.sizes k2 (List.mem_of_getElem? h1)
  · rw [hm]; exact hV.masks
  · intro k hk
    obtain ⟨j, hj⟩ := List.mem_iff_getElem?.1 hk
    obtain ⟨k2, h1, h2, _⟩ := hget j k hj
    rw [h2]; exact hV.mlt k2 (List.mem_of_getElem? h1)
  · rw [rowsOf_app, hrows, rowsOf_cons, if_pos rfl]
    show (rowsOf L0 ++ [(t, 0)]).Perm _
    exact List.perm_append_comm.trans (by simp)
end Go.Proofs.Qxb6500789a
