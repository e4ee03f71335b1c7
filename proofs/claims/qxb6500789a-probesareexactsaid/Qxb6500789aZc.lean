import Derived.Test.Qxb6500789aZb
import Derived.StillTailTactics
import Derived.Deep.QuietTactic
import Derived.BigQuiet
import Derived.Deep.RegionHeld
import Derived.Deep.CutRange
import Derived.Laws.ResultCell
import Derived.Laws.Rows
import Derived.DeepKeys
import Derived.DataBytes
import Derived.Laws.StructEq
import Derived.Laws.AppendOwn
import Derived.Laws.MakeOwn
import Derived.Lib.AppendStr
set_option linter.unusedSimpArgs false
set_option linter.unusedVariables false
namespace Go.Proofs.Qxb6500789a
open Go.RowKit Go.Blk
attribute [local go_sem ↓] execOp_load execOp_store execOp_alloc
attribute [local go_sem] Try.ld29 Try.st29 Try.ld3 Try.st3 Try.ld9 Try.st9 Try.ld30 Try.st30 Try.ld34 Try.st34 Try.ld35 Try.st35 Try.ld36 Try.st36 Try.ld37 Try.st37 Try.ld44 Try.st44 Try.ld45 Try.st45 Try.ld54 Try.st54 Try.ld55 Try.st55 Try.ld74 Try.st74 Try.ld80 Try.st80 Try.ld84 Try.st84 Try.ld106 Try.st106 Try.ld107 Try.st107 Try.ld4 Try.st4 Try.ld121 Try.st121 Try.ld2 Try.st2 Try.ld5 Try.st5 Try.ld12 Try.st12 Try.ld21 Try.st21 Try.ld22 Try.st22 Try.ld24 Try.st24 Try.ld26 Try.st26 Try.ld63 Try.st63 Try.ld71 Try.st71 Try.ld103 Try.st103 Try.ld130 Try.st130 Try.ld133 Try.st133 Try.ld140 Try.st140 Try.ld152 Try.st152 Try.ld39 Try.st39 Try.ld32 Try.st32 Try.ld41 Try.st41 Try.ld47 Try.st47 Try.ld57 Try.st57 Try.ld62 Try.st62 Try.ld76 Try.st76 Try.ld82 Try.st82 Try.ld86 Try.st86 Try.ld109 Try.st109 Try.ld115 Try.st115 Try.ld123 Try.st123 Try.ld135 Try.st135 Try.al39 Try.al32 Try.al41 Try.al47 Try.al57 Try.al62 Try.al76 Try.al82 Try.al86 Try.al109 Try.al115 Try.al123 Try.al135
attribute [local go_sem] Answer.length_enc Answer.ok_enc Answer.all_get Answer.all_set Answer.code_get Answer.code_set Answer.n_get Answer.n_set Answer.name_get Answer.name_set Answer.rows_get Answer.rows_set GOp.length_enc GOp.ok_enc GOp.all_get GOp.all_set GOp.kind_get GOp.kind_set GOp.rel_get GOp.rel_set GOp.mask_get GOp.mask_set GOp.t_get GOp.t_set GOp.n_get GOp.n_set GOp.name_get GOp.name_set Store.length_enc Store.ok_enc Store.all_get Store.all_set Store.names_get Store.names_set Store.rels_get Store.rels_set GRel.length_enc GRel.ok_enc GRel.all_get GRel.all_set GRel.arity_get GRel.arity_set GRel.masks_get GRel.masks_set GRel.rows_get GRel.rows_set Row.length_enc Row.ok_enc Row.all_get Row.all_set Row.t_get Row.t_set Row.mark_get Row.mark_set View.length_enc View.ok_enc View.all_get View.all_set View.names_get View.names_set View.rels_get View.rels_set Symtab.length_enc Symtab.ok_enc Symtab.all_get Symtab.all_set Symtab.names_get Symtab.names_set Symtab.table_get Symtab.table_set StoreTuplestore.length_enc StoreTuplestore.ok_enc StoreTuplestore.all_get StoreTuplestore.all_set StoreTuplestore.syms_get StoreTuplestore.syms_set StoreTuplestore.rels_get StoreTuplestore.rels_set StoreTuplestore.syms_names_get StoreTuplestore.syms_names_set StoreTuplestore.syms_table_get StoreTuplestore.syms_table_set Relation.length_enc Relation.ok_enc Relation.all_get Relation.all_set Relation.arity_get Relation.arity_set Relation.slots_get Relation.slots_set Relation.live_get Relation.live_set Relation.idx_get Relation.idx_set Slot.length_enc Slot.ok_enc Slot.all_get Slot.all_set Slot.t_get Slot.t_set Slot.mark_get Slot.mark_set Slot.live_get Slot.live_set RelView.length_enc RelView.ok_enc RelView.all_get RelView.all_set RelView.arity_get RelView.arity_set RelView.rows_get RelView.rows_set RelView.marks_get RelView.marks_set RelView.indexed_get RelView.indexed_set Index.length_enc Index.ok_enc Index.all_get Index.all_set Index.mask_get Index.mask_set Index.heads_get Index.heads_set Index.next_get Index.next_set
attribute [local go_sem] size_put size_ext blk_put free_put blk_alloc free_alloc blk_drew free_drew blk_ext free_ext lookOr_some putOr_some segAt_some cellAt_some storeIn_some put_put put_alloc_new length_arr ok_arr_u8 ok_arr_u32 ok_arr_u64 ok_arr_i64 ok_arr_sl cellsV_agg cellsV_int cellsV_bool cellsV_string cellsV_pointer cellsV_slice cellsV_sl ok_int ok_bool ok_string ok_pointer ok_slice ok_sl toList_arr seg_arr set_arr nth_splice nth_splice0 seg_splice seg_splice0 splice_splice splice_splice0 length_splice_if
attribute [local go_sem ↓] execOp_box
attribute [local go_sem] box_run nth_arr_u8 put_arr_u8 blk_drewN free_drewN put_drewN blk_raw free_raw
attribute [local go_sem] v_len v_ok v_n0 v_n1 v_s0 v_s1 v_all v_put b32_0 b32_c b32_n b32_cn b32_s b32_r b57
attribute [local go_sem ↓] execOp_build execOp_bslice
attribute [local go_sem] mr_len mr_ok mr_n0 mr_n1 mr_n2 mr_s1 mr_s2 mr_all mr_putz bslice45 bslice54
theorem whR_pos {L : List (Tup × Int)} {t : Tup} (h : t ∈ L.map (·.1)) : ∃ k : Nat, whR L t = (k : Int) ∧ (L.map (·.1))[k]? = some t := by
  unfold whR
  rw [if_pos h]
  refine ⟨_, rfl, ?_⟩
  have hl : (L.map (·.1)).idxOf t < (L.map (·.1)).length := List.idxOf_lt_length_of_mem h
  rw [List.getElem?_eq_getElem hl, List.getElem_idxOf]
theorem whR_neg {L : List (Tup × Int)} {t : Tup} (h : t ∉ L.map (·.1)) : whR L t = -1 := if_neg h
theorem rowsOf_snoc (L : List Slot) (t : Tup) (mk : Int) : rowsOf (L ++ [⟨t, mk, true⟩]) = rowsOf L ++ [(t, mk)] := by
  unfold rowsOf
  rw [liveL_app, List.map_append]; rfl
theorem b62_lit (w : World) (a b c d : Int) : (buildOp 62 #[(0, .agg #[.int .i64 a, .int .i64 b, .int .i64 c, .int .i64 d])]).run Try.prog w = .ok (.value (.agg #[.int .i64 a, .int .i64 b, .int .i64 c, .int .i64 d, .int .i64 0])) w := by kernel_rfl
theorem b62 (w : World) (t : Tup) : (buildOp 62 #[(0, .agg (arr i64v t).toArray)]).run Try.prog w = .ok (.value (.agg (encW (t, 0)).toArray)) w := by
  have h := b62_lit w (tg t 0) (tg t 1) (tg t 2) (tg t 3)
  have e : encW (t, 0) = arr i64v t ++ [.int .i64 0] := rfl
  rw [e, arr4 t]; exact h
theorem bslice55_lit (w : World) (a b c d m : Int) : (bsliceOp 55 1 #[(0, .agg #[.int .i64 a, .int .i64 b, .int .i64 c, .int .i64 d, .int .i64 m])]).run Try.prog w = .ok (.value (.slice (some ⟨w.heap.size, 0, none⟩) 1 1)) (w.alloc (.cells #[.int .i64 a, .int .i64 b, .int .i64 c, .int .i64 d, .int .i64 m] 62)) := by kernel_rfl
theorem bslice55 (w : World) (r : Tup × Int) : (bsliceOp 55 1 #[(0, .agg (encW r).toArray)]).run Try.prog w = .ok (.value (.slice (some ⟨w.heap.size, 0, none⟩) 1 1)) (w.alloc (.cells (encW r).toArray 62)) := by
  have h := bslice55_lit w (tg r.1 0) (tg r.1 1) (tg r.1 2) (tg r.1 3) r.2
  have e : encW r = arr i64v r.1 ++ [.int .i64 r.2] := rfl
  rw [e, arr4 r.1]; exact h
attribute [local go_sem] b62 bslice55
theorem opm_ne {W : World} {bm : Nat} {sm : StS} {n : Nat} {s : RelS} {na : Option Addr} {nn nc gr rn rc : Nat} {Cr : List Value} {ka : Option Addr} {kn kc : Nat} {wa : Option Addr} {wn wc : Nat} (h : Opm W bm sm n s na nn nc gr rn rc Cr ka kn kc wa wn wc) : ¬ bm = gr := by
  intro e
  have h1 := h.hb
  rw [e, h.bc] at h1
  injection h1 with h1
  have c0 := h.c0
  have hl := h.len
  rw [h1] at c0 hl
  rcases n with _ | n
  · simp [vE, nth] at c0
  · rw [v_len] at hl; omega
theorem mat_gr {B : Nat} {O : Own} {W : World} {bm : Nat} {sm : StS} (h : MAt B O W bm sm) {n : Nat} {s : RelS} {na : Option Addr} {nn nc gr rn rc : Nat} {Cr : List Value} {ka : Option Addr} {kn kc : Nat} {wa : Option Addr} {wn wc : Nat} (ho : Opm W bm sm n s na nn nc gr rn rc Cr ka kn kc wa wn wc) : O gr = .cl 2 := by
  obtain ⟨na', nn', nc', ra', rn', rc', R, h⟩ := h
  have e := h.cell
  rw [ho.hb] at e
  injection e with e
  have e2 : Value.slice (some ⟨gr, 0, none⟩) rn rc = .slice ra' rn' rc' := by
    have := congrArg (fun l => nth l 1) e
    simpa [vE, nth] using this
  injection e2 with e2
  exact h.rls.2 gr (by rw [← e2]; rfl)
set_option maxRecDepth 20000 in
set_option maxHeartbeats 4000000 in
theorem minsert_any (B : Nat) (O : Own) (W : World) (bm : Nat) (sm : StS) (h : MAt B O W bm sm) (hm : MSm sm) (id : Int) (t : Tup) :
    Calls Try.prog 51 #[.pointer (some ⟨bm, 0, none⟩), .int .i64 id, .agg (arr i64v t).toArray] W (MAct B O W bm (insF sm id t) sm id (insP t)) := by
  have HM := hid_of h
  have HSM := hid_of hm
  obtain ⟨c, hc⟩ : ∃ c, c = insF sm id t := ⟨_, rfl⟩
  rw [← hc]
  have HC := hid_of hc
  obtain ⟨Q, hQ⟩ : ∃ Q, Q = MAct B O W bm c sm id (insP t) := ⟨_, rfl⟩
  rw [← hQ]
  have HQ := hid_of hQ
  clear hc hQ hm h
  go_enter Try.func51, Try.ntmps51
  go_upto_region 1 with fail
  refine wp_world (fun W1 => blk W1 W.heap.size = some (arr i64v t) ∧ blk W1 (W.heap.size + 1) = some (Answer.enc Answer.zero) ∧ free W1 (W.heap.size + 1) = true ∧ W.Extends W1) ⟨?_, ?_, ?_, extends_alloc (extends_alloc (ext_Ext (Ext.refl _)) _) _⟩ ?_
  · rw [blk_alloc, if_neg (by rw [World.size_alloc]; omega), blk_alloc, if_pos rfl]
  · rw [blk_alloc, if_pos (by rw [World.size_alloc])]
  · unfold free; rw [heap_alloc, if_pos (by rw [World.size_alloc])]; rfl
  rintro W1 ⟨hb5, hb4, hf4, hx1⟩
  obtain ⟨b4, e4⟩ : ∃ b4, b4 = W.heap.size + 1 := ⟨_, rfl⟩
  obtain ⟨b5, e5⟩ : ∃ b5, b5 = W.heap.size := ⟨_, rfl⟩
  try simp only [World.size_alloc]
  rw [← e4] at hb4 hf4 ⊢
  rw [← e5] at hb5 ⊢
  have hn4 : W.heap.size ≤ b4 := by omega
  have hn5 : W.heap.size ≤ b5 := by omega
  have hn4' := blk_lt hb4
  have nb45 : ¬ b4 = b5 := by omega
  obtain ⟨O1, hO1⟩ : ∃ O1, O1 = lab O W.heap.size .no := ⟨_, rfl⟩
  have hM1 : MAt B O1 W1 bm sm := by rw [hO1]; exact HM.out.new hx1
  have HM1 := hid_of hM1
  have HF : Hid (∀ sm' V C, MOut B O1 W1 bm sm' V → MOut B O W bm sm' (put V b4 C)) := by
    intro sm' V C h
    rw [hO1] at h
    exact mout_put hx1 hn4 hn4' h C
  have HG : Hid (∀ sm' V, MOut B O1 W1 bm sm' V → blk V b4 = some (Answer.enc Answer.zero) ∧ free V b4 = true) := by
    intro sm' V h
    rw [hO1] at h
    exact mout_blk hn4 hb4 hf4 h
  have HG5 : Hid (∀ sm' V, MOut B O1 W1 bm sm' V → blk V b5 = some (arr i64v t)) := by
    intro sm' V h
    rw [hO1] at h
    obtain ⟨O', hF', _⟩ := h
    exact hF'.blk hb5 (by rw [lab_ge hn5]; rintro ⟨m, e⟩; cases e)
  have HXW := hid_of hx1
  have HO5 : Hid (O1 b5 = .no) := by show O1 b5 = .no; rw [hO1]; exact lab_ge hn5
  clear e4 e5 hO1 hx1 hn4 hn5 hM1
  have HOX : Hid (∀ V, W1.Extends V → MOut B O1 W1 bm sm V) := fun V hx => mout_same HM1.out hx
  have hcr := checkRow_any B O1 W1 bm sm HM1.out HSM.out id t
  obtain ⟨cc, hcc⟩ : ∃ cc, cc = rowCode sm id t := ⟨_, rfl⟩
  rw [← hcc] at hcr
  have HCC := hid_of hcc
  clear hcc hb4 hf4
  go_wp2_with fail
  refine hcr.mono ?_
  rintro e V1 ⟨rfl, hx1⟩
  have hb51 : blk V1 b5 = some (arr i64v t) := (hx1.blk (blk_lt hb5)).trans hb5
  have HX1 := hid_of hx1
  clear hcr hb5
  dsimp only
  by_cases hc0 : cc = 0
  rotate_left 1
  · have e : c = cc := by rw [HC.out]; unfold insF; rw [if_neg (by rw [← HCC.out]; exact hc0), HCC.out]
    subst e
    have hcb : (c == 0) = false := by simp [hc0]
    have hcn : (c != 0) = true := by simp [hc0]
    have hcr2 := checkRow_any B O1 V1 bm sm (HM1.out.ext hx1) HSM.out id t
    rw [← HCC.out] at hcr2
    clear hx1
    go_wp2_with fail
    refine hcr2.mono ?_
    rintro e V2 ⟨rfl, hx2⟩
    have HP : Hid (Q (.returned (.agg (Answer.enc (ans c 0)).toArray)) (put (V2) b4 (Answer.enc (ans c 0)))) := by
      have ho := (HOX.out _ (HX1.out.trans hx2))
      show Q _ _
      rw [HQ.out]
      exact ⟨rfl, sm, HF.out _ _ _ ho, ⟨fun _ => rfl, fun h => absurd h hc0⟩⟩
    have hbV : blk (V2) b4 = some (Answer.enc Answer.zero) := (HG.out (sm) _ (HOX.out _ (HX1.out.trans hx2))).1
    have hfV : free (V2) b4 = true := (HG.out (sm) _ (HOX.out _ (HX1.out.trans hx2))).2
    have HBC : Hid (blk (put (V2) b4 (Answer.enc (ans c 0))) b4 = some (Answer.enc (ans c 0))) := by
      show blk _ _ = _
      rw [blk_put, if_pos rfl, hbV]; rfl
    clear HF HG hx2 hcr2
    dsimp only
    go_wp2_with fail
    try go_ret2
    refine ret_cell (C := Answer.enc (ans c 0)) rfl rfl HBC.out (by kernel_rfl) (by rw [Answer.length_enc]; kernel_rfl) rfl ?_
    exact HP.out
  subst hc0
  obtain ⟨n, s, rfl, hs⟩ := row0 HCC.out.symm
  have hrs : rowsS sm (n : Int) = rowsOf s.L := by unfold rowsS; rw [relF_some hs]
  have hwh := where_any B O1 V1 bm sm (HM1.out.ext hx1) HSM.out n s hs t
  by_cases hin : t ∈ (rowsOf s.L).map (·.1)
  · have e : c = 1 := by rw [HC.out]; unfold insF; rw [if_pos HCC.out.symm, hrs, if_pos hin]
    subst e
    obtain ⟨k, hk, _⟩ := whR_pos hin
    rw [hk] at hwh
    have hk0 : (0 : Int) ≤ (k : Int) := by omega
    clear hx1 hs hk hrs
    go_wp2_with fail
    refine hwh.mono ?_
    rintro e V2 ⟨rfl, hx2⟩
    have HP : Hid (Q (.returned (.agg (Answer.enc (ans 1 0)).toArray)) (put (V2) b4 (Answer.enc (ans 1 0)))) := by
      have ho := (HOX.out _ (HX1.out.trans hx2))
      show Q _ _
      rw [HQ.out]
      exact ⟨rfl, sm, HF.out _ _ _ ho, ⟨fun _ => rfl, fun h => absurd h (by decide)⟩⟩
    have hbV : blk (V2) b4 = some (Answer.enc Answer.zero) := (HG.out (sm) _ (HOX.out _ (HX1.out.trans hx2))).1
    have hfV : free (V2) b4 = true := (HG.out (sm) _ (HOX.out _ (HX1.out.trans hx2))).2
    have HBC : Hid (blk (put (V2) b4 (Answer.enc (ans 1 0))) b4 = some (Answer.enc (ans 1 0))) := by
      show blk _ _ = _
      rw [blk_put, if_pos rfl, hbV]; rfl
    clear HF HG hx2 hwh
    dsimp only
    go_wp2_with fail
    try go_ret2
    refine ret_cell (C := Answer.enc (ans 1 0)) rfl rfl HBC.out (by kernel_rfl) (by rw [Answer.length_enc]; kernel_rfl) rfl ?_
    exact HP.out
  rw [whR_neg hin] at hwh
  have hsm := HSM.out.rel s (List.mem_of_getElem? hs)
  have HS := hid_of hs
  have HRS := hid_of hrs
  have HHIN := hid_of hin
  clear hs hrs hx1 hin
  go_wp2_with fail
  refine hwh.mono ?_
  rintro e V2 ⟨rfl, hx2⟩
  have hb52 : blk V2 b5 = some (arr i64v t) := (hx2.blk (blk_lt hb51)).trans hb51
  have hxV2 := HX1.out.trans hx2
  clear hwh hx2 hb51
  dsimp only
  have hd1 : V2.Extends V2.drew := extends_drew (ext_Ext (Ext.refl _))
  have hM2 := HM1.out.ext hxV2
  obtain ⟨na, nn, nc, gr, rn, rc, Cr, ka, kn, kc, wa, wn, wc, ho, hB1, hok, hput, _, _⟩ := mat_put (hM2.ext hd1) HS.out
  have hngb := opm_ne ho
  have HGR : Hid (O1 gr = .cl 2) := mat_gr (hM2.ext hd1) ho
  obtain ⟨hbm, hnn, hrn, hn, hC, hl, c0, c1, c2, _, hw⟩ := ho
  have hwl := hw.1
  have hbm' : blk V2 bm = some (vE na nn nc (some ⟨gr, 0, none⟩) rn rc) := hbm
  have hC' : blk V2 gr = some Cr := hC
  have d1 : n * 3 + 2 + 1 ≤ Cr.length := by omega
  have d2 : n * 3 < Cr.length := by omega
  have q0 : (0 : Int) ≤ (n : Int) := by omega
  have q1 : (n : Int) < (rn : Int) := by omega
  have q2 : ((n : Int)).toNat = n := by omega
  by_cases hfull : wn = 512
  · have e : c = 4 := by rw [HC.out]; unfold insF; rw [if_pos HCC.out.symm, HRS.out, if_neg HHIN.out, if_pos (by omega)]
    subst e
    subst hfull
    have HP : Hid (Q (.returned (.agg (Answer.enc (ans 4 0)).toArray)) (put (V2) b4 (Answer.enc (ans 4 0)))) := by
      have ho := (HOX.out _ hxV2)
      show Q _ _
      rw [HQ.out]
      exact ⟨rfl, sm, HF.out _ _ _ ho, ⟨fun _ => rfl, fun h => absurd h (by decide)⟩⟩
    have hbV : blk (V2) b4 = some (Answer.enc Answer.zero) := (HG.out (sm) _ (HOX.out _ hxV2)).1
    have hfV : free (V2) b4 = true := (HG.out (sm) _ (HOX.out _ hxV2)).2
    have HBC : Hid (blk (put (V2) b4 (Answer.enc (ans 4 0))) b4 = some (Answer.enc (ans 4 0))) := by
      show blk _ _ = _
      rw [blk_put, if_pos rfl, hbV]; rfl
    clear HF HG hput hok hd1 hM2 hw hwl hnn hrn hn hl
    go_wp2_with fail
    try go_ret2
    refine ret_cell (C := Answer.enc (ans 4 0)) rfl rfl HBC.out (by kernel_rfl) (by rw [Answer.length_enc]; kernel_rfl) rfl ?_
    exact HP.out
  have e : c = 0 := by rw [HC.out]; unfold insF; rw [if_pos HCC.out.symm, HRS.out, if_neg HHIN.out, if_neg (by have := hsm.2.1; omega)]
  subst e
  have hfull' : ¬ (wn : Int) = 512 := by omega
  have hfullb : ((wn : Int) == 512) = false := by simp; omega
  obtain ⟨wa', wc', W2, hrun, hrow, hfr⟩ := appL encW 5 40 55 62 Try.underlying55 info62 encW_len encW_one (by omega) (by omega) (W := V2.drew) 55 (t, 0) hok.rows hB1 (by have := hsm.2.1; omega) (encW (t, 0)).toArray rfl 1
  obtain ⟨hbm2, hgr2, hgf2, hout⟩ := hput _ W2 wa' (wn + 1) wc' ⟨s.ar, s.L ++ [⟨t, 0, true⟩], s.M⟩ hfr (by rw [rowsOf_snoc]; exact hrow) rfl rfl
  have hu : ActR 0 sm (n : Int) (insP t) ⟨sm.names, sm.rels.set n ⟨s.ar, s.L ++ [⟨t, 0, true⟩], s.M⟩⟩ := ⟨fun h => absurd rfl h, fun _ => upd_mk HS.out rfl ⟨rfl, by rw [rowsOf_snoc]; exact List.perm_append_singleton _ _⟩⟩
  have HP : Hid (Q (.returned (.agg (Answer.enc (ans 0 0)).toArray)) (put (put W2 gr (splice Cr (n * 3 + 2) [.slice wa' (wn + 1) wc'])) b4 (Answer.enc (ans 0 0)))) := by
    have ho := ((hout.bef hd1).bef hxV2)
    show Q _ _
    rw [HQ.out]
    exact ⟨rfl, ⟨sm.names, sm.rels.set n ⟨s.ar, s.L ++ [⟨t, 0, true⟩], s.M⟩⟩, HF.out _ _ _ ho, hu⟩
  have hbV : blk (put W2 gr (splice Cr (n * 3 + 2) [.slice wa' (wn + 1) wc'])) b4 = some (Answer.enc Answer.zero) := (HG.out (⟨sm.names, sm.rels.set n ⟨s.ar, s.L ++ [⟨t, 0, true⟩], s.M⟩⟩) _ ((hout.bef hd1).bef hxV2)).1
  have hfV : free (put W2 gr (splice Cr (n * 3 + 2) [.slice wa' (wn + 1) wc'])) b4 = true := (HG.out (⟨sm.names, sm.rels.set n ⟨s.ar, s.L ++ [⟨t, 0, true⟩], s.M⟩⟩) _ ((hout.bef hd1).bef hxV2)).2
  have HBC : Hid (blk (put (put W2 gr (splice Cr (n * 3 + 2) [.slice wa' (wn + 1) wc'])) b4 (Answer.enc (ans 0 0))) b4 = some (Answer.enc (ans 0 0))) := by
    show blk _ _ = _
    rw [blk_put, if_pos rfl, hbV]; rfl
  have ho5 : ¬ O1 b5 = .cl (4 + 2 * n) := by
    rw [HO5.out]; intro e; cases e
  have hb53 : blk W2 b5 = some (arr i64v t) := hfr.blk hb52 ho5
  have hng5 : ¬ b5 = gr := by
    intro e
    have h0 := HGR.out
    rw [← e, HO5.out] at h0; cases h0
  have hS0 : ∀ X, blk (V2.drew.alloc X) bm = some (vE na nn nc (some ⟨gr, 0, none⟩) rn rc) ∧ blk (V2.drew.alloc X) b5 = some (arr i64v t) := fun X => ⟨((extends_alloc (ext_Ext (Ext.refl _)) _ : V2.drew.Extends _).blk (blk_lt hbm)).trans hbm, ((extends_alloc (ext_Ext (Ext.refl _)) _ : V2.drew.Extends _).blk (blk_lt hb52)).trans hb52⟩
  have hSP : blk (put W2 gr (splice Cr (n * 3 + 2) [.slice wa' (wn + 1) wc'])) bm = some (vE na nn nc (some ⟨gr, 0, none⟩) rn rc) ∧ blk (put W2 gr (splice Cr (n * 3 + 2) [.slice wa' (wn + 1) wc'])) b5 = some (arr i64v t) := ⟨by rw [blk_put, if_neg hngb]; exact hbm2, by rw [blk_put, if_neg hng5]; exact hb53⟩
  have ngA : ¬ gr = V2.heap.size := Nat.ne_of_lt (blk_lt hC')
  clear HF HG hput hfr hrow hok hsm hu hout hnn hrn hn c0 c1 hl hd1 hM2 hw hwl ho5
  go_upto_region 7 with fail
  refine wp_region_held_drew (S := fun W' => blk W' bm = some (vE na nn nc (some ⟨gr, 0, none⟩) rn rc) ∧ blk W' b5 = some (arr i64v t)) (by kernel_rfl) ⟨hbm', hb52⟩ (fun hHeld => ?_)
  refine wpAnyH_take (i := 0) (oi := ⟨_, _, _, _, _, _⟩) (v := ?_) rfl (by kernel_rfl) (by kernel_rfl) (by kernel_rfl) (fun _ _ _ h => h) (Or.inl ⟨by rfl, ?_⟩) (by assumption) ?_
  rotate_left 1
  · intro W' hSw
    obtain ⟨hS1, hS2⟩ := hSw
    go_simp
    try with_reducible rfl
  try simp only [Act.put, List.setIfInBounds_toArray, List.set_cons_zero, List.set_cons_succ]
  refine wpAnyH_take (i := 1) (oi := ⟨_, _, _, _, _, _⟩) (v := ?_) rfl (by kernel_rfl) (by kernel_rfl) (by kernel_rfl) (fun _ _ _ h => h) (Or.inl ⟨by rfl, ?_⟩) (by assumption) ?_
  rotate_left 1
  · intro W' hSw
    obtain ⟨hS1, hS2⟩ := hSw
    go_simp
    try with_reducible rfl
  try simp only [Act.put, List.setIfInBounds_toArray, List.set_cons_zero, List.set_cons_succ]
  refine wpAnyH_take (i := 2) (oi := ⟨_, _, _, _, _, _⟩) (v := ?_) rfl (by kernel_rfl) (by kernel_rfl) (by kernel_rfl) (fun _ _ _ h => h) (Or.inl ⟨by rfl, ?_⟩) (by assumption) ?_
  rotate_left 1
  · intro W' hSw
    obtain ⟨hS1, hS2⟩ := hSw
    go_simp
    try with_reducible rfl
  try simp only [Act.put, List.setIfInBounds_toArray, List.set_cons_zero, List.set_cons_succ]
  refine wpAnyH_take (i := 3) (oi := ⟨_, _, _, _, _, _⟩) (v := ?_) rfl (by kernel_rfl) (by kernel_rfl) (by kernel_rfl) (fun _ _ _ h => h) (Or.inl ⟨by rfl, ?_⟩) (by assumption) ?_
  rotate_left 1
  · intro W' hSw
    obtain ⟨hS1, hS2⟩ := hSw
    go_simp
    try with_reducible rfl
  try simp only [Act.put, List.setIfInBounds_toArray, List.set_cons_zero, List.set_cons_succ]
  refine wpAnyH_take (i := 4) (oi := ⟨_, _, _, _, _, _⟩) (v := ?_) rfl (by kernel_rfl) (by kernel_rfl) (by kernel_rfl) (fun _ _ _ h => h) (Or.inl ⟨by rfl, ?_⟩) (by assumption) ?_
  rotate_left 1
  · intro W' hSw
    obtain ⟨hS1, hS2⟩ := hSw
    go_simp
    try with_reducible rfl
  try simp only [Act.put, List.setIfInBounds_toArray, List.set_cons_zero, List.set_cons_succ]
  refine wpAnyH_take (i := 5) (oi := ⟨_, _, _, _, _, _⟩) (v := ?_) rfl (by kernel_rfl) (by kernel_rfl) (by kernel_rfl) (fun _ _ _ h => h) (Or.inl ⟨by rfl, ?_⟩) (by assumption) ?_
  rotate_left 1
  · intro W' hSw
    obtain ⟨hS1, hS2⟩ := hSw
    go_simp
    try with_reducible rfl
  try simp only [Act.put, List.setIfInBounds_toArray, List.set_cons_zero, List.set_cons_succ]
  refine wpAnyH_take (i := 6) (oi := ⟨_, _, _, _, _, _⟩) (v := ?_) rfl (by kernel_rfl) (by kernel_rfl) (by kernel_rfl) (fun _ _ _ h => h) (Or.inl ⟨by rfl, ?_⟩) (by assumption) ?_
  rotate_left 1
  · intro W' hSw
    obtain ⟨hS1, hS2⟩ := hSw
    go_simp
    try with_reducible rfl
  try simp only [Act.put, List.setIfInBounds_toArray, List.set_cons_zero, List.set_cons_succ]
  refine wpAnyH_take (i := 7) (oi := ⟨_, _, _, _, _, _⟩) (v := ?_) rfl (by kernel_rfl) (by kernel_rfl) (by kernel_rfl) (fun _ _ _ h => h) (Or.inl ⟨by rfl, ?_⟩) (by assumption) ?_
  rotate_left 1
  · intro W' hSw
    obtain ⟨hS1, hS2⟩ := hSw
    go_simp
    try with_reducible rfl
  try simp only [Act.put, List.setIfInBounds_toArray, List.set_cons_zero, List.set_cons_succ]
  refine wpAnyH_take (i := 8) (oi := ⟨_, _, _, _, _, _⟩) (v := ?_) rfl (by kernel_rfl) (by kernel_rfl) (by kernel_rfl) (fun _ _ _ h => h) (Or.inl ⟨by rfl, ?_⟩) (by assumption) ?_
  rotate_left 1
  · intro W' hSw
    obtain ⟨hS1, hS2⟩ := hSw
    go_simp
    try with_reducible rfl
  try simp only [Act.put, List.setIfInBounds_toArray, List.set_cons_zero, List.set_cons_succ]
  refine wpAnyH_take (i := 9) (oi := ⟨_, _, _, _, _, _⟩) (v := ?_) rfl (by kernel_rfl) (by kernel_rfl) (by kernel_rfl) (fun _ _ _ h => h) (Or.inl ⟨by rfl, ?_⟩) (by assumption) ?_
  rotate_left 1
  · intro W' hSw
    obtain ⟨hS1, hS2⟩ := hSw
    go_simp
    try with_reducible rfl
  try simp only [Act.put, List.setIfInBounds_toArray, List.set_cons_zero, List.set_cons_succ]
  refine wpAnyH_take (i := 10) (oi := ⟨_, _, _, _, _, _⟩) (v := ?_) rfl (by kernel_rfl) (by kernel_rfl) (by kernel_rfl) (fun _ _ _ h => h) (Or.inl ⟨by rfl, ?_⟩) (by assumption) ?_
  rotate_left 1
  · intro W' hSw
    obtain ⟨hS1, hS2⟩ := hSw
    go_simp
    try with_reducible rfl
  try simp only [Act.put, List.setIfInBounds_toArray, List.set_cons_zero, List.set_cons_succ]
  refine wpAnyH_take (i := 11) (oi := ⟨_, _, _, _, _, _⟩) (v := ?_) rfl (by kernel_rfl) (by kernel_rfl) (by kernel_rfl) (fun _ _ _ h => h) (Or.inl ⟨by rfl, ?_⟩) (by assumption) ?_
  rotate_left 1
  · intro W' hSw
    obtain ⟨hS1, hS2⟩ := hSw
    go_simp
    try with_reducible rfl
  try simp only [Act.put, List.setIfInBounds_toArray, List.set_cons_zero, List.set_cons_succ]
  refine wpAnyH_take (i := 13) (oi := ⟨_, _, _, _, _, _⟩) (v := ?_) rfl (by kernel_rfl) (by kernel_rfl) (by kernel_rfl) (fun _ _ _ h => h) (Or.inl ⟨by rfl, ?_⟩) (by assumption) ?_
  rotate_left 1
  · intro W' hSw
    obtain ⟨hS1, hS2⟩ := hSw
    go_simp
    try with_reducible rfl
  try simp only [Act.put, List.setIfInBounds_toArray, List.set_cons_zero, List.set_cons_succ]
  refine wpAnyH_take (i := 14) (oi := ⟨_, _, _, _, _, _⟩) (v := ?_) rfl (by kernel_rfl) (by kernel_rfl) (by kernel_rfl) (fun _ _ _ h => h) (Or.inl ⟨by rfl, ?_⟩) (by assumption) ?_
  rotate_left 1
  · intro W' hSw
    obtain ⟨hS1, hS2⟩ := hSw
    go_simp
    try with_reducible rfl
  try simp only [Act.put, List.setIfInBounds_toArray, List.set_cons_zero, List.set_cons_succ]
  refine wpAnyH_ready (rs := [12, 15]) (by kernel_rfl) (by simp) ?_
  refine AllReadyH.cons (o := ⟨_, _, _, _, _, _⟩) rfl (fun K' hK => ?_) (AllReadyH.cons (o := ⟨_, _, _, _, _, _⟩) rfl (fun K' hK => ?_) AllReadyH.nil)
  · go_simp
    refine hK.out _ _ ⟨hbm, hb52⟩ (fun hHeld => ?_)
    clear hK K'
    try simp only [Act.put, List.setIfInBounds_toArray, List.set_cons_zero, List.set_cons_succ]
    refine wpAnyH_ready (rs := [15]) (by kernel_rfl) (by simp) ?_
    refine AllReadyH.cons (o := ⟨_, _, _, _, _, _⟩) rfl (fun K' hK => ?_) AllReadyH.nil
    go_simp
    refine hK.out _ _ (hS0 _) (fun hHeld => ?_)
    clear hK K'
    try simp only [Act.put, List.setIfInBounds_toArray, List.set_cons_zero, List.set_cons_succ]
    refine wpAnyH_ready (rs := [16]) (by kernel_rfl) (by simp) ?_
    refine AllReadyH.cons (o := ⟨_, _, _, _, _, _⟩) rfl (fun K' hK => ?_) AllReadyH.nil
    refine wp_append_run _ _ 55 rfl _ _ _ _ rfl rfl hrun ?_
    refine hK.out _ _ ⟨hbm2, hb53⟩ (fun hHeld => ?_)
    clear hK K'
    try simp only [Act.put, List.setIfInBounds_toArray, List.set_cons_zero, List.set_cons_succ]
    refine wpAnyH_take (i := 17) (oi := ⟨_, _, _, _, _, _⟩) (v := ?_) rfl (by kernel_rfl) (by kernel_rfl) (by kernel_rfl) (fun _ _ _ h => h) (Or.inl ⟨by rfl, ?_⟩) (by assumption) ?_
    rotate_left 1
    · intro W' hSw
      obtain ⟨hS1, hS2⟩ := hSw
      go_simp
      try with_reducible rfl
    try simp only [Act.put, List.setIfInBounds_toArray, List.set_cons_zero, List.set_cons_succ]
    refine wpAnyH_take (i := 18) (oi := ⟨_, _, _, _, _, _⟩) (v := ?_) rfl (by kernel_rfl) (by kernel_rfl) (by kernel_rfl) (fun _ _ _ h => h) (Or.inl ⟨by rfl, ?_⟩) (by assumption) ?_
    rotate_left 1
    · intro W' hSw
      obtain ⟨hS1, hS2⟩ := hSw
      go_simp
      try with_reducible rfl
    try simp only [Act.put, List.setIfInBounds_toArray, List.set_cons_zero, List.set_cons_succ]
    refine wpAnyH_ready (rs := [19]) (by kernel_rfl) (by simp) ?_
    refine AllReadyH.cons (o := ⟨_, _, _, _, _, _⟩) rfl (fun K' hK => ?_) AllReadyH.nil
    go_simp
    refine hK.out _ _ hSP (fun hHeld => ?_)
    clear hK K'
    try simp only [Act.put, List.setIfInBounds_toArray, List.set_cons_zero, List.set_cons_succ]
    refine wpAnyH_done (by kernel_rfl) ?_ _
    obtain ⟨V3, hV3⟩ : ∃ V3, V3 = put W2 gr (splice Cr (n * 3 + 2) [.slice wa' (wn + 1) wc']) := ⟨_, rfl⟩
    rw [← hV3] at hbV hfV HBC HP ⊢
    clear hV3 hSP hS0 hrun hbm hbm2
    go_wp2_with fail
    try go_ret2
    refine ret_cell (C := Answer.enc (ans 0 0)) rfl rfl HBC.out (by kernel_rfl) (by rw [Answer.length_enc]; kernel_rfl) rfl ?_
    exact HP.out
  · go_simp
    refine hK.out _ _ (hS0 _) (fun hHeld => ?_)
    clear hK K'
    try simp only [Act.put, List.setIfInBounds_toArray, List.set_cons_zero, List.set_cons_succ]
    refine wpAnyH_ready (rs := [12]) (by kernel_rfl) (by simp) ?_
    refine AllReadyH.cons (o := ⟨_, _, _, _, _, _⟩) rfl (fun K' hK => ?_) AllReadyH.nil
    go_simp
    refine hK.out _ _ (hS0 _) (fun hHeld => ?_)
    clear hK K'
    try simp only [Act.put, List.setIfInBounds_toArray, List.set_cons_zero, List.set_cons_succ]
    refine wpAnyH_ready (rs := [16]) (by kernel_rfl) (by simp) ?_
    refine AllReadyH.cons (o := ⟨_, _, _, _, _, _⟩) rfl (fun K' hK => ?_) AllReadyH.nil
    refine wp_append_run _ _ 55 rfl _ _ _ _ rfl rfl hrun ?_
    refine hK.out _ _ ⟨hbm2, hb53⟩ (fun hHeld => ?_)
    clear hK K'
    try simp only [Act.put, List.setIfInBounds_toArray, List.set_cons_zero, List.set_cons_succ]
    refine wpAnyH_take (i := 17) (oi := ⟨_, _, _, _, _, _⟩) (v := ?_) rfl (by kernel_rfl) (by kernel_rfl) (by kernel_rfl) (fun _ _ _ h => h) (Or.inl ⟨by rfl, ?_⟩) (by assumption) ?_
    rotate_left 1
    · intro W' hSw
      obtain ⟨hS1, hS2⟩ := hSw
      go_simp
      try with_reducible rfl
    try simp only [Act.put, List.setIfInBounds_toArray, List.set_cons_zero, List.set_cons_succ]
    refine wpAnyH_take (i := 18) (oi := ⟨_, _, _, _, _, _⟩) (v := ?_) rfl (by kernel_rfl) (by kernel_rfl) (by kernel_rfl) (fun _ _ _ h => h) (Or.inl ⟨by rfl, ?_⟩) (by assumption) ?_
    rotate_left 1
    · intro W' hSw
      obtain ⟨hS1, hS2⟩ := hSw
      go_simp
      try with_reducible rfl
    try simp only [Act.put, List.setIfInBounds_toArray, List.set_cons_zero, List.set_cons_succ]
    refine wpAnyH_ready (rs := [19]) (by kernel_rfl) (by simp) ?_
    refine AllReadyH.cons (o := ⟨_, _, _, _, _, _⟩) rfl (fun K' hK => ?_) AllReadyH.nil
    go_simp
    refine hK.out _ _ hSP (fun hHeld => ?_)
    clear hK K'
    try simp only [Act.put, List.setIfInBounds_toArray, List.set_cons_zero, List.set_cons_succ]
    refine wpAnyH_done (by kernel_rfl) ?_ _
    obtain ⟨V3, hV3⟩ : ∃ V3, V3 = put W2 gr (splice Cr (n * 3 + 2) [.slice wa' (wn + 1) wc']) := ⟨_, rfl⟩
    rw [← hV3] at hbV hfV HBC HP ⊢
    clear hV3 hSP hS0 hrun hbm hbm2
    go_wp2_with fail
    try go_ret2
    refine ret_cell (C := Answer.enc (ans 0 0)) rfl rfl HBC.out (by kernel_rfl) (by rw [Answer.length_enc]; kernel_rfl) rfl ?_
    exact HP.out
end Go.Proofs.Qxb6500789a
