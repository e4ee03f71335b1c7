import Derived.Test.Qxb6500789aZd
import Derived.StillTailTactics
import Derived.Deep.QuietTactic
import Derived.BigQuiet
import Derived.Deep.RegionHeld
import Derived.Deep.CutRange
import Derived.Laws.ResultCell
import Derived.Laws.Rows
import Derived.DeepKeys
import Derived.DataBytes
import Derived.Laws.StructEq
import Derived.Laws.AppendOwn
import Derived.Laws.MakeOwn
import Derived.Lib.AppendStr
set_option linter.unusedSimpArgs false
set_option linter.unusedVariables false
namespace Go.Proofs.Qxb6500789a
open Go.RowKit Go.Blk
attribute [local go_sem ↓] execOp_load execOp_store execOp_alloc
attribute [local go_sem] Try.ld29 Try.st29 Try.ld3 Try.st3 Try.ld9 Try.st9 Try.ld30 Try.st30 Try.ld34 Try.st34 Try.ld35 Try.st35 Try.ld36 Try.st36 Try.ld37 Try.st37 Try.ld44 Try.st44 Try.ld45 Try.st45 Try.ld54 Try.st54 Try.ld55 Try.st55 Try.ld74 Try.st74 Try.ld80 Try.st80 Try.ld84 Try.st84 Try.ld106 Try.st106 Try.ld107 Try.st107 Try.ld4 Try.st4 Try.ld121 Try.st121 Try.ld2 Try.st2 Try.ld5 Try.st5 Try.ld12 Try.st12 Try.ld21 Try.st21 Try.ld22 Try.st22 Try.ld24 Try.st24 Try.ld26 Try.st26 Try.ld63 Try.st63 Try.ld71 Try.st71 Try.ld103 Try.st103 Try.ld130 Try.st130 Try.ld133 Try.st133 Try.ld140 Try.st140 Try.ld152 Try.st152 Try.ld39 Try.st39 Try.ld32 Try.st32 Try.ld41 Try.st41 Try.ld47 Try.st47 Try.ld57 Try.st57 Try.ld62 Try.st62 Try.ld76 Try.st76 Try.ld82 Try.st82 Try.ld86 Try.st86 Try.ld109 Try.st109 Try.ld115 Try.st115 Try.ld123 Try.st123 Try.ld135 Try.st135 Try.al39 Try.al32 Try.al41 Try.al47 Try.al57 Try.al62 Try.al76 Try.al82 Try.al86 Try.al109 Try.al115 Try.al123 Try.al135
attribute [local go_sem] Answer.length_enc Answer.ok_enc Answer.all_get Answer.all_set Answer.code_get Answer.code_set Answer.n_get Answer.n_set Answer.name_get Answer.name_set Answer.rows_get Answer.rows_set GOp.length_enc GOp.ok_enc GOp.all_get GOp.all_set GOp.kind_get GOp.kind_set GOp.rel_get GOp.rel_set GOp.mask_get GOp.mask_set GOp.t_get GOp.t_set GOp.n_get GOp.n_set GOp.name_get GOp.name_set Store.length_enc Store.ok_enc Store.all_get Store.all_set Store.names_get Store.names_set Store.rels_get Store.rels_set GRel.length_enc GRel.ok_enc GRel.all_get GRel.all_set GRel.arity_get GRel.arity_set GRel.masks_get GRel.masks_set GRel.rows_get GRel.rows_set Row.length_enc Row.ok_enc Row.all_get Row.all_set Row.t_get Row.t_set Row.mark_get Row.mark_set View.length_enc View.ok_enc View.all_get View.all_set View.names_get View.names_set View.rels_get View.rels_set Symtab.length_enc Symtab.ok_enc Symtab.all_get Symtab.all_set Symtab.names_get Symtab.names_set Symtab.table_get Symtab.table_set StoreTuplestore.length_enc StoreTuplestore.ok_enc StoreTuplestore.all_get StoreTuplestore.all_set StoreTuplestore.syms_get StoreTuplestore.syms_set StoreTuplestore.rels_get StoreTuplestore.rels_set StoreTuplestore.syms_names_get StoreTuplestore.syms_names_set StoreTuplestore.syms_table_get StoreTuplestore.syms_table_set Relation.length_enc Relation.ok_enc Relation.all_get Relation.all_set Relation.arity_get Relation.arity_set Relation.slots_get Relation.slots_set Relation.live_get Relation.live_set Relation.idx_get Relation.idx_set Slot.length_enc Slot.ok_enc Slot.all_get Slot.all_set Slot.t_get Slot.t_set Slot.mark_get Slot.mark_set Slot.live_get Slot.live_set RelView.length_enc RelView.ok_enc RelView.all_get RelView.all_set RelView.arity_get RelView.arity_set RelView.rows_get RelView.rows_set RelView.marks_get RelView.marks_set RelView.indexed_get RelView.indexed_set Index.length_enc Index.ok_enc Index.all_get Index.all_set Index.mask_get Index.mask_set Index.heads_get Index.heads_set Index.next_get Index.next_set
attribute [local go_sem] size_put size_ext blk_put free_put blk_alloc free_alloc blk_drew free_drew blk_ext free_ext lookOr_some putOr_some segAt_some cellAt_some storeIn_some put_put put_alloc_new length_arr ok_arr_u8 ok_arr_u32 ok_arr_u64 ok_arr_i64 ok_arr_sl cellsV_agg cellsV_int cellsV_bool cellsV_string cellsV_pointer cellsV_slice cellsV_sl ok_int ok_bool ok_string ok_pointer ok_slice ok_sl toList_arr seg_arr set_arr nth_splice nth_splice0 seg_splice seg_splice0 splice_splice splice_splice0 length_splice_if
attribute [local go_sem ↓] execOp_box
attribute [local go_sem] box_run nth_arr_u8 put_arr_u8 blk_drewN free_drewN put_drewN blk_raw free_raw
attribute [local go_sem] v_len v_ok v_n0 v_n1 v_s0 v_s1 v_all v_put b32_0 b32_c b32_n b32_cn b32_s b32_r b57
attribute [local go_sem ↓] execOp_build execOp_bslice
attribute [local go_sem] mr_len mr_ok mr_n0 mr_n1 mr_n2 mr_s1 mr_s2 mr_all mr_putz bslice45 bslice54
attribute [local go_sem ↓] execOp_eql39 execOp_neq39
attribute [local go_sem] eql39 neq39
theorem bslice55r (w : World) (t : Tup) (mk : Int) : (bsliceOp 55 1 #[(0, .agg (Row.enc ⟨t, mk⟩).toArray)]).run Try.prog w = .ok (.value (.slice (some ⟨w.heap.size, 0, none⟩) 1 1)) (w.alloc (.cells (encW (t, mk)).toArray 62)) := bslice55 w (t, mk)
attribute [local go_sem] bslice55r
def OutsW (W V : World) (a : Option Addr) (n c : Nat) (ws : List (Tup × Int)) : Prop := V.ownsRow W.heap.size 62 5 (.slice a n c) ws.length (ws.flatMap encW) ∧ W.Extends V ∧ n = ws.length
theorem OutsW.ext {W V V' : World} {a : Option Addr} {n c : Nat} {ws : List (Tup × Int)} (h : OutsW W V a n c ws) (he : V.Extends V') : OutsW W V' a n c ws :=
  ⟨row_keep h.1 (fun k hk => he.block k (row_at h.1 k hk).2.1), h.2.1.trans he, h.2.2⟩
theorem OutsW.nil (W V : World) (he : W.Extends V) : OutsW W V none 0 0 [] := ⟨⟨by simp, .inl ⟨rfl, rfl⟩⟩, he, rfl⟩
theorem OutsW.app {W V : World} {a : Option Addr} {n c : Nat} {ws : List (Tup × Int)} (h : OutsW W V a n c ws) (r : Tup × Int) (hl : ws.length ≤ 100000) :
    ∃ a' c' V', (Builtin.append_ #[55, 55] 55 #[.slice a n c, .slice (some ⟨V.heap.size, 0, none⟩) 1 1]).run Try.prog (V.alloc (.cells (encW r).toArray 62)) = .ok (.slice a' (n + 1) c') V' ∧ OutsW W V' a' (n + 1) c' (ws ++ [r]) := by
  have hx1 : V.Extends (V.alloc (.cells (encW r).toArray 62)) := extends_alloc (ext_Ext (Ext.refl _)) _
  have h1 := h.ext hx1
  obtain ⟨v', V', hr, ho, hg, _⟩ := appG encW 5 40 55 62 Try.underlying55 info62 encW_len encW_one (by omega) (by omega) W.heap.size (V.alloc (.cells (encW r).toArray 62)) 55 (.slice a n c) ws r V.heap.size 1 h1.1 ((blk_alloc _ _ _ _).trans (if_pos rfl)) h1.2.1.size (by omega)
  obtain ⟨a', c', rfl⟩ := row_val ho
  have hm : (ws ++ [r]).length = n + 1 := by rw [List.length_append, List.length_singleton, h.2.2]
  rw [hm] at hr
  exact ⟨a', c', V', hr, by rw [← hm]; exact ho, grown_ext h1.2.1 hg (fun k hk => (row_at h1.1 k hk).1), hm.symm⟩
def restF (L : List (Tup × Int)) (t : Tup) : List (Tup × Int) := L.filter (fun r => decide (r.1 ≠ t))
theorem restF_app (A B : List (Tup × Int)) (t : Tup) : restF (A ++ B) t = restF A t ++ restF B t := List.filter_append _ _
theorem rest_none {L : List (Tup × Int)} {t : Tup} (h : t ∉ L.map (·.1)) : restF L t = L := by
  unfold restF
  rw [List.filter_eq_self]
  intro r hr
  exact decide_eq_true (fun e => h (List.mem_map.2 ⟨r, hr, e⟩))
theorem del_perm {L : List (Tup × Int)} {t : Tup} (hN : (L.map (·.1)).Nodup) (h : t ∈ L.map (·.1)) : ∃ mk, L.Perm ((t, mk) :: restF L t) := by
  induction L with
  | nil => cases h
  | cons r L ih =>
    rw [List.map_cons, List.nodup_cons] at hN
    by_cases he : r.1 = t
    · refine ⟨r.2, ?_⟩
      have e : restF (r :: L) t = restF L t := by unfold restF; rw [List.filter_cons, if_neg (by simp [he])]
      rw [e, rest_none (by rw [← he]; exact hN.1), ← he]
    · obtain ⟨mk, hp⟩ := ih hN.2 (by
        rw [List.map_cons, List.mem_cons] at h
        exact h.resolve_left (fun e => he e.symm))
      have e : restF (r :: L) t = r :: restF L t := by unfold restF; rw [List.filter_cons, if_pos (by simp [he])]
      rw [e]
      exact ⟨mk, (hp.cons r).trans (List.Perm.swap _ _ _)⟩
def deI (V2 : World) (bm n b4 b5 wn : Nat) (L : List (Tup × Int)) (t : Tup) (f : Nat → Value) (W : World) : Prop := f 0 = .pointer (some ⟨bm, 0, none⟩) ∧ f 1 = .int .i64 (n : Int) ∧ f 5 = .pointer (some ⟨b5, 0, none⟩) ∧ f 6 = .pointer (some ⟨b4, 0, none⟩) ∧ ∃ (i : Nat) (a : Option Addr) (m c : Nat), i ≤ wn ∧ f 8 = .int .i64 (i : Nat) ∧ f 7 = .slice a m c ∧ Hid (∃ ws, OutsW V2 W a m c ws ∧ ws = restF (L.take i) t)
set_option maxRecDepth 100000 in
theorem frame75 (f : Nat → Value) : frameN 75 f = #[f 0, f 1, f 2, f 3, f 4, f 5, f 6, f 7, f 8, f 9, f 10, f 11, f 12, f 13, f 14, f 15, f 16, f 17, f 18, f 19, f 20, f 21, f 22, f 23, f 24, f 25, f 26, f 27, f 28, f 29, f 30, f 31, f 32, f 33, f 34, f 35, f 36, f 37, f 38, f 39, f 40, f 41, f 42, f 43, f 44, f 45, f 46, f 47, f 48, f 49, f 50, f 51, f 52, f 53, f 54, f 55, f 56, f 57, f 58, f 59, f 60, f 61, f 62, f 63, f 64, f 65, f 66, f 67, f 68, f 69, f 70, f 71, f 72, f 73, f 74] := by kernel_rfl
set_option maxRecDepth 20000 in
set_option maxHeartbeats 4000000 in
theorem mdelete_any (B : Nat) (O : Own) (W : World) (bm : Nat) (sm : StS) (h : MAt B O W bm sm) (hm : MSm sm) (id : Int) (t : Tup) :
    Calls Try.prog 52 #[.pointer (some ⟨bm, 0, none⟩), .int .i64 id, .agg (arr i64v t).toArray] W (MAct B O W bm (delF sm id t) sm id (delP t)) := by
  have HM := hid_of h
  have HSM := hid_of hm
  obtain ⟨c, hc⟩ : ∃ c, c = delF sm id t := ⟨_, rfl⟩
  rw [← hc]
  have HC := hid_of hc
  obtain ⟨Q, hQ⟩ : ∃ Q, Q = MAct B O W bm c sm id (delP t) := ⟨_, rfl⟩
  rw [← hQ]
  have HQ := hid_of hQ
  clear hc hQ hm h
  go_enter Try.func52, Try.ntmps52
  go_upto_region 1 with fail
  refine wp_world (fun W1 => blk W1 W.heap.size = some (arr i64v t) ∧ blk W1 (W.heap.size + 1) = some (Answer.enc Answer.zero) ∧ free W1 (W.heap.size + 1) = true ∧ W.Extends W1) ⟨?_, ?_, ?_, extends_alloc (extends_alloc (ext_Ext (Ext.refl _)) _) _⟩ ?_
  · rw [blk_alloc, if_neg (by rw [World.size_alloc]; omega), blk_alloc, if_pos rfl]
  · rw [blk_alloc, if_pos (by rw [World.size_alloc])]
  · unfold free; rw [heap_alloc, if_pos (by rw [World.size_alloc])]; rfl
  rintro W1 ⟨hb5, hb4, hf4, hx1⟩
  obtain ⟨b4, e4⟩ : ∃ b4, b4 = W.heap.size + 1 := ⟨_, rfl⟩
  obtain ⟨b5, e5⟩ : ∃ b5, b5 = W.heap.size := ⟨_, rfl⟩
  try simp only [World.size_alloc]
  rw [← e4] at hb4 hf4 ⊢
  rw [← e5] at hb5 ⊢
  have hn4 : W.heap.size ≤ b4 := by omega
  have hn5 : W.heap.size ≤ b5 := by omega
  have hn4' := blk_lt hb4
  have nb45 : ¬ b4 = b5 := by omega
  obtain ⟨O1, hO1⟩ : ∃ O1, O1 = lab O W.heap.size .no := ⟨_, rfl⟩
  have hM1 : MAt B O1 W1 bm sm := by rw [hO1]; exact HM.out.new hx1
  have HM1 := hid_of hM1
  have HF : Hid (∀ sm' V C, MOut B O1 W1 bm sm' V → MOut B O W bm sm' (put V b4 C)) := by
    intro sm' V C h
    rw [hO1] at h
    exact mout_put hx1 hn4 hn4' h C
  have HG : Hid (∀ sm' V, MOut B O1 W1 bm sm' V → blk V b4 = some (Answer.enc Answer.zero) ∧ free V b4 = true) := by
    intro sm' V h
    rw [hO1] at h
    exact mout_blk hn4 hb4 hf4 h
  have HG5 : Hid (∀ sm' V, MOut B O1 W1 bm sm' V → blk V b5 = some (arr i64v t)) := by
    intro sm' V h
    rw [hO1] at h
    obtain ⟨O', hF', _⟩ := h
    exact hF'.blk hb5 (by rw [lab_ge hn5]; rintro ⟨m, e⟩; cases e)
  have HXW := hid_of hx1
  clear e4 e5 hO1 hx1 hn4 hn5 hM1
  have HOX : Hid (∀ V, W1.Extends V → MOut B O1 W1 bm sm V) := fun V hx => mout_same HM1.out hx
  have hcr := checkRow_any B O1 W1 bm sm HM1.out HSM.out id t
  obtain ⟨cc, hcc⟩ : ∃ cc, cc = rowCode sm id t := ⟨_, rfl⟩
  rw [← hcc] at hcr
  have HCC := hid_of hcc
  clear hcc hb4 hf4
  go_wp2_with fail
  refine hcr.mono ?_
  rintro e V1 ⟨rfl, hx1⟩
  have hb51 : blk V1 b5 = some (arr i64v t) := (hx1.blk (blk_lt hb5)).trans hb5
  have HX1 := hid_of hx1
  clear hcr hb5
  dsimp only
  by_cases hc0 : cc = 0
  rotate_left 1
  · have e : c = cc := by rw [HC.out]; unfold delF; rw [if_neg (by rw [← HCC.out]; exact hc0), HCC.out]
    subst e
    have hcb : (c == 0) = false := by simp [hc0]
    have hcn : (c != 0) = true := by simp [hc0]
    have hcr2 := checkRow_any B O1 V1 bm sm (HM1.out.ext hx1) HSM.out id t
    rw [← HCC.out] at hcr2
    clear hx1
    go_wp2_with fail
    refine hcr2.mono ?_
    rintro e V2 ⟨rfl, hx2⟩
    have HP : Hid (Q (.returned (.agg (Answer.enc (ans c 0)).toArray)) (put (V2) b4 (Answer.enc (ans c 0)))) := by
      have ho := (HOX.out _ (HX1.out.trans hx2))
      show Q _ _
      rw [HQ.out]
      exact ⟨rfl, sm, HF.out _ _ _ ho, ⟨fun _ => rfl, fun h => absurd h hc0⟩⟩
    have hbV : blk (V2) b4 = some (Answer.enc Answer.zero) := (HG.out (sm) _ (HOX.out _ (HX1.out.trans hx2))).1
    have hfV : free (V2) b4 = true := (HG.out (sm) _ (HOX.out _ (HX1.out.trans hx2))).2
    have HBC : Hid (blk (put (V2) b4 (Answer.enc (ans c 0))) b4 = some (Answer.enc (ans c 0))) := by
      show blk _ _ = _
      rw [blk_put, if_pos rfl, hbV]; rfl
    clear HF HG hx2 hcr2
    dsimp only
    go_wp2_with fail
    try go_ret2
    refine ret_cell (C := Answer.enc (ans c 0)) rfl rfl HBC.out (by kernel_rfl) (by rw [Answer.length_enc]; kernel_rfl) rfl ?_
    exact HP.out
  subst hc0
  obtain ⟨n, s, rfl, hs⟩ := row0 HCC.out.symm
  have hrs : rowsS sm (n : Int) = rowsOf s.L := by unfold rowsS; rw [relF_some hs]
  have hwh := where_any B O1 V1 bm sm (HM1.out.ext hx1) HSM.out n s hs t
  have HS := hid_of hs
  by_cases hin : t ∈ (rowsOf s.L).map (·.1)
  rotate_left 1
  · have e : c = 2 := by rw [HC.out]; unfold delF; rw [if_pos HCC.out.symm, hrs, if_neg hin]
    subst e
    rw [whR_neg hin] at hwh
    clear hx1 hs hrs
    go_wp2_with fail
    refine hwh.mono ?_
    rintro e V2 ⟨rfl, hx2⟩
    have HP : Hid (Q (.returned (.agg (Answer.enc (ans 2 0)).toArray)) (put (V2) b4 (Answer.enc (ans 2 0)))) := by
      have ho := (HOX.out _ (HX1.out.trans hx2))
      show Q _ _
      rw [HQ.out]
      exact ⟨rfl, sm, HF.out _ _ _ ho, ⟨fun _ => rfl, fun h => absurd h (by decide)⟩⟩
    have hbV : blk (V2) b4 = some (Answer.enc Answer.zero) := (HG.out (sm) _ (HOX.out _ (HX1.out.trans hx2))).1
    have hfV : free (V2) b4 = true := (HG.out (sm) _ (HOX.out _ (HX1.out.trans hx2))).2
    have HBC : Hid (blk (put (V2) b4 (Answer.enc (ans 2 0))) b4 = some (Answer.enc (ans 2 0))) := by
      show blk _ _ = _
      rw [blk_put, if_pos rfl, hbV]; rfl
    clear HF HG hx2 hwh
    dsimp only
    go_wp2_with fail
    try go_ret2
    refine ret_cell (C := Answer.enc (ans 2 0)) rfl rfl HBC.out (by kernel_rfl) (by rw [Answer.length_enc]; kernel_rfl) rfl ?_
    exact HP.out
  have e : c = 0 := by rw [HC.out]; unfold delF; rw [if_pos HCC.out.symm, hrs, if_pos hin]
  subst e
  obtain ⟨k, hk, _⟩ := whR_pos hin
  rw [hk] at hwh
  have hk0 : ¬ (k : Int) < 0 := by omega
  have hsm := HSM.out.rel s (List.mem_of_getElem? hs)
  obtain ⟨mk, hpm⟩ := del_perm hsm.2.2.2 hin
  have hu : ActR 0 sm (n : Int) (delP t) ⟨sm.names, sm.rels.set n ⟨s.ar, slotsOf (restF (rowsOf s.L) t), s.M⟩⟩ := ⟨fun h => absurd rfl h, fun _ => upd_mk hs rfl ⟨rfl, mk, by rw [rowsOf_slotsOf]; exact hpm⟩⟩
  have HU := hid_of hu
  have h512 := hsm.2.1
  clear hs hrs hx1 hin hk hsm hu hpm
  go_wp2_with fail
  refine hwh.mono ?_
  rintro e V2 ⟨rfl, hx2⟩
  have hb52 : blk V2 b5 = some (arr i64v t) := (hx2.blk (blk_lt hb51)).trans hb51
  have hxV2 := HX1.out.trans hx2
  have HXV2 := hid_of hxV2
  clear hwh hx2 hb51
  dsimp only
  have hM2 := HM1.out.ext hxV2
  obtain ⟨na, nn, nc, gr, rn, rc, Cr, ka, kn, kc, wa, wn, wc, ho, hB1, hok, hput, _, _⟩ := mat_put hM2 HS.out
  have hngb := opm_ne ho
  obtain ⟨hbm, hnn, hrn, hn, hC, hl, c0, c1, c2, _, hw⟩ := ho
  obtain ⟨L, hL⟩ : ∃ L, L = rowsOf s.L := ⟨_, rfl⟩
  rw [← hL] at hw h512 HU
  have HL := hid_of hL
  have hwl := hw.1
  have hwn : wn ≤ 512 := by omega
  have HW := hid_of hw
  have HPUT := hid_of hput
  have d1 : n * 3 + 2 + 1 ≤ Cr.length := by omega
  have d2 : n * 3 < Cr.length := by omega
  have q0 : (0 : Int) ≤ (n : Int) := by omega
  have q1 : (n : Int) < (rn : Int) := by omega
  have q2 : ((n : Int)).toNat = n := by omega
  have HWL := hid_of hwl
  have HK2 : Hid (blk V2 bm = some (vE na nn nc (some ⟨gr, 0, none⟩) rn rc) ∧ blk V2 gr = some Cr ∧ blk V2 b5 = some (arr i64v t)) := ⟨hbm, hC, hb52⟩
  clear hnn hrn hn c0 c1 hl hw hwl hok hput hL hxV2
  go_wp2_with fail
  have HQ0 : Hid (∃ ws, OutsW V2 V2 none 0 0 ws ∧ ws = restF (L.take 0) t) := ⟨[], OutsW.nil _ _ (ext_Ext (Ext.refl _)), rfl⟩
  refine wp_loop_f 75 (deI V2 bm n b4 b5 wn L t) (fun f _ => wn - (intOf (f 8)).toNat) rfl ⟨rfl, rfl, rfl, rfl, 0, none, 0, 0, by omega, rfl, rfl, HQ0⟩ ?_
  clear HQ0 hbm hC hb52
  intro F V hrel
  obtain ⟨f0, f1, f5, f6, i, a, m, c, hi, f8, f7, HQ1⟩ := hrel
  have H8 := hid_of f8
  rw [frame75, f0, f1, f5, f6, f7, f8]
  clear f0 f1 f5 f6 f7 f8
  obtain ⟨ws, hout, hws⟩ := HQ1.out
  have hE := hout.2.1
  have hbm : blk V bm = some (vE na nn nc (some ⟨gr, 0, none⟩) rn rc) := (hE.blk (blk_lt HK2.out.1)).trans HK2.out.1
  have hC : blk V gr = some Cr := (hE.blk (blk_lt HK2.out.2.1)).trans HK2.out.2.1
  have hb5 : blk V b5 = some (arr i64v t) := (hE.blk (blk_lt HK2.out.2.2)).trans HK2.out.2.2
  by_cases hin : i < wn
  · have hin' : (i : Int) < (wn : Int) := by omega
    obtain ⟨r, hr⟩ : ∃ r, L[i]? = some r := ⟨_, List.getElem?_eq_getElem (by rw [HWL.out]; exact hin)⟩
    obtain ⟨bn, Cn, rfl, hCn, hcn, _, un, _, ur⟩ := wrow_at (HW.out.ext' hE) hr
    have p0 : (0 : Int) ≤ (i : Int) := by omega
    have p2 : ((i : Int)).toNat = i := by omega
    have p4 : i * 5 + 4 ≤ Cn.length := by omega
    have p5 : i * 5 < Cn.length := by omega
    have p6 : i * 5 + 5 ≤ Cn.length := by omega
    have hnx : restF (L.take (i + 1)) t = ws ++ restF [r] t := by rw [List.take_add_one, hr, restF_app, ← hws]; rfl
    have hwsl : ws.length ≤ 1000 := by
      rw [hws]
      refine Nat.le_trans (List.length_filter_le _ _) ?_
      rw [List.length_take]; omega
    obtain ⟨x, xm⟩ := r
    dsimp only at un ur
    have HOUT := hid_of hout
    have hd : V.Extends V.drew := extends_drew (ext_Ext (Ext.refl _))
    by_cases he : x = t
    · have e : restF [(x, xm)] t = [] := by unfold restF; simp [he]
      have HQ' : Hid (∃ ws, OutsW V2 V.drew a m c ws ∧ ws = restF (L.take (i + 1)) t) := ⟨ws, hout.ext hd, by rw [hnx, e, List.append_nil]⟩
      have hde : decide (x = t) = true := decide_eq_true he
      clear hnx hws hr hout hE HQ1 e he hd
      go_upto_region 9 with fail
      refine wp_region_held_drew (S := fun W' => blk W' bm = some (vE na nn nc (some ⟨gr, 0, none⟩) rn rc) ∧ blk W' gr = some Cr ∧ blk W' b5 = some (arr i64v t) ∧ blk W' bn = some Cn) (by kernel_rfl) ⟨hbm, hC, hb5, hCn⟩ (fun hHeld => ?_)
      refine wpAnyH_take (i := 0) (oi := ⟨_, _, _, _, _, _⟩) (v := ?_) rfl (by kernel_rfl) (by kernel_rfl) (by kernel_rfl) (fun _ _ _ h => h) (Or.inl ⟨by rfl, ?_⟩) (by assumption) ?_
      rotate_left 1
      · intro W' hSw
        obtain ⟨hS1, hS2, hS3, hS4⟩ := hSw
        go_simp
        try with_reducible rfl
      try simp only [Act.put, List.setIfInBounds_toArray, List.set_cons_zero, List.set_cons_succ]
      refine wpAnyH_take (i := 1) (oi := ⟨_, _, _, _, _, _⟩) (v := ?_) rfl (by kernel_rfl) (by kernel_rfl) (by kernel_rfl) (fun _ _ _ h => h) (Or.inl ⟨by rfl, ?_⟩) (by assumption) ?_
      rotate_left 1
      · intro W' hSw
        obtain ⟨hS1, hS2, hS3, hS4⟩ := hSw
        go_simp
        try with_reducible rfl
      try simp only [Act.put, List.setIfInBounds_toArray, List.set_cons_zero, List.set_cons_succ]
      refine wpAnyH_take (i := 2) (oi := ⟨_, _, _, _, _, _⟩) (v := ?_) rfl (by kernel_rfl) (by kernel_rfl) (by kernel_rfl) (fun _ _ _ h => h) (Or.inl ⟨by rfl, ?_⟩) (by assumption) ?_
      rotate_left 1
      · intro W' hSw
        obtain ⟨hS1, hS2, hS3, hS4⟩ := hSw
        go_simp
        try with_reducible rfl
      try simp only [Act.put, List.setIfInBounds_toArray, List.set_cons_zero, List.set_cons_succ]
      refine wpAnyH_take (i := 3) (oi := ⟨_, _, _, _, _, _⟩) (v := ?_) rfl (by kernel_rfl) (by kernel_rfl) (by kernel_rfl) (fun _ _ _ h => h) (Or.inl ⟨by rfl, ?_⟩) (by assumption) ?_
      rotate_left 1
      · intro W' hSw
        obtain ⟨hS1, hS2, hS3, hS4⟩ := hSw
        go_simp
        try with_reducible rfl
      try simp only [Act.put, List.setIfInBounds_toArray, List.set_cons_zero, List.set_cons_succ]
      refine wpAnyH_take (i := 4) (oi := ⟨_, _, _, _, _, _⟩) (v := ?_) rfl (by kernel_rfl) (by kernel_rfl) (by kernel_rfl) (fun _ _ _ h => h) (Or.inl ⟨by rfl, ?_⟩) (by assumption) ?_
      rotate_left 1
      · intro W' hSw
        obtain ⟨hS1, hS2, hS3, hS4⟩ := hSw
        go_simp
        try with_reducible rfl
      try simp only [Act.put, List.setIfInBounds_toArray, List.set_cons_zero, List.set_cons_succ]
      refine wpAnyH_take (i := 5) (oi := ⟨_, _, _, _, _, _⟩) (v := ?_) rfl (by kernel_rfl) (by kernel_rfl) (by kernel_rfl) (fun _ _ _ h => h) (Or.inl ⟨by rfl, ?_⟩) (by assumption) ?_
      rotate_left 1
      · intro W' hSw
        obtain ⟨hS1, hS2, hS3, hS4⟩ := hSw
        go_simp
        try with_reducible rfl
      try simp only [Act.put, List.setIfInBounds_toArray, List.set_cons_zero, List.set_cons_succ]
      refine wpAnyH_take (i := 6) (oi := ⟨_, _, _, _, _, _⟩) (v := ?_) rfl (by kernel_rfl) (by kernel_rfl) (by kernel_rfl) (fun _ _ _ h => h) (Or.inl ⟨by rfl, ?_⟩) (by assumption) ?_
      rotate_left 1
      · intro W' hSw
        obtain ⟨hS1, hS2, hS3, hS4⟩ := hSw
        go_simp
        try with_reducible rfl
      try simp only [Act.put, List.setIfInBounds_toArray, List.set_cons_zero, List.set_cons_succ]
      refine wpAnyH_take (i := 7) (oi := ⟨_, _, _, _, _, _⟩) (v := ?_) rfl (by kernel_rfl) (by kernel_rfl) (by kernel_rfl) (fun _ _ _ h => h) (Or.inl ⟨by rfl, ?_⟩) (by assumption) ?_
      rotate_left 1
      · intro W' hSw
        obtain ⟨hS1, hS2, hS3, hS4⟩ := hSw
        go_simp
        try with_reducible rfl
      try simp only [Act.put, List.setIfInBounds_toArray, List.set_cons_zero, List.set_cons_succ]
      refine wpAnyH_take (i := 8) (oi := ⟨_, _, _, _, _, _⟩) (v := ?_) rfl (by kernel_rfl) (by kernel_rfl) (by kernel_rfl) (fun _ _ _ h => h) (Or.inl ⟨by rfl, ?_⟩) (by assumption) ?_
      rotate_left 1
      · intro W' hSw
        obtain ⟨hS1, hS2, hS3, hS4⟩ := hSw
        go_simp
        try with_reducible rfl
      try simp only [Act.put, List.setIfInBounds_toArray, List.set_cons_zero, List.set_cons_succ]
      refine wpAnyH_take (i := 9) (oi := ⟨_, _, _, _, _, _⟩) (v := ?_) rfl (by kernel_rfl) (by kernel_rfl) (by kernel_rfl) (fun _ _ _ h => h) (Or.inl ⟨by rfl, ?_⟩) (by assumption) ?_
      rotate_left 1
      · intro W' hSw
        obtain ⟨hS1, hS2, hS3, hS4⟩ := hSw
        go_simp
        try with_reducible rfl
      try simp only [Act.put, List.setIfInBounds_toArray, List.set_cons_zero, List.set_cons_succ]
      refine wpAnyH_take (i := 10) (oi := ⟨_, _, _, _, _, _⟩) (v := ?_) rfl (by kernel_rfl) (by kernel_rfl) (by kernel_rfl) (fun _ _ _ h => h) (Or.inl ⟨by rfl, ?_⟩) (by assumption) ?_
      rotate_left 1
      · intro W' hSw
        obtain ⟨hS1, hS2, hS3, hS4⟩ := hSw
        go_simp
        try with_reducible rfl
      try simp only [Act.put, List.setIfInBounds_toArray, List.set_cons_zero, List.set_cons_succ]
      refine wpAnyH_take (i := 11) (oi := ⟨_, _, _, _, _, _⟩) (v := ?_) rfl (by kernel_rfl) (by kernel_rfl) (by kernel_rfl) (fun _ _ _ h => h) (Or.inl ⟨by rfl, ?_⟩) (by assumption) ?_
      rotate_left 1
      · intro W' hSw
        obtain ⟨hS1, hS2, hS3, hS4⟩ := hSw
        go_simp
        try with_reducible rfl
      try simp only [Act.put, List.setIfInBounds_toArray, List.set_cons_zero, List.set_cons_succ]
      refine wpAnyH_take (i := 12) (oi := ⟨_, _, _, _, _, _⟩) (v := ?_) rfl (by kernel_rfl) (by kernel_rfl) (by kernel_rfl) (fun _ _ _ h => h) (Or.inl ⟨by rfl, ?_⟩) (by assumption) ?_
      rotate_left 1
      · intro W' hSw
        obtain ⟨hS1, hS2, hS3, hS4⟩ := hSw
        go_simp
        try with_reducible rfl
      try simp only [Act.put, List.setIfInBounds_toArray, List.set_cons_zero, List.set_cons_succ]
      refine wpAnyH_take (i := 13) (oi := ⟨_, _, _, _, _, _⟩) (v := ?_) rfl (by kernel_rfl) (by kernel_rfl) (by kernel_rfl) (fun _ _ _ h => h) (Or.inl ⟨by rfl, ?_⟩) (by assumption) ?_
      rotate_left 1
      · intro W' hSw
        obtain ⟨hS1, hS2, hS3, hS4⟩ := hSw
        go_simp
        try with_reducible rfl
      try simp only [Act.put, List.setIfInBounds_toArray, List.set_cons_zero, List.set_cons_succ]
      refine wpAnyH_done (by kernel_rfl) ?_ _
      go_wp2_with fail
      refine ⟨rfl, rfl, ⟨rfl, rfl, rfl, rfl, i + 1, _, _, _, by omega, ?_, rfl, HQ'⟩, ?_⟩
      · show Value.int .i64 _ = _
        go_num
      · show wn - (intOf (Value.int .i64 _)).toNat < wn - (intOf (F 8)).toNat
        rw [H8.out]
        simp [intOf]; omega
    · have e : restF [(x, xm)] t = [(x, xm)] := by unfold restF; simp [he]
      obtain ⟨a', c', W3, hrun, hout3⟩ := (hout.ext hd).app (x, xm) (by omega)
      have HQ' : Hid (∃ ws, OutsW V2 W3 a' (m + 1) c' ws ∧ ws = restF (L.take (i + 1)) t) := ⟨_, hout3, by rw [hnx, e]⟩
      have hde : decide (x = t) = false := decide_eq_false he
      have hbmd : blk V.drew bm = some (vE na nn nc (some ⟨gr, 0, none⟩) rn rc) := hbm
      have hCd : blk V.drew gr = some Cr := hC
      have hCnd : blk V.drew bn = some Cn := hCn
      clear hnx hws hr hout hE HQ1 e he hd hout3
      go_upto_region 9 with fail
      refine wp_region_held_drew (S := fun W' => blk W' bm = some (vE na nn nc (some ⟨gr, 0, none⟩) rn rc) ∧ blk W' gr = some Cr ∧ blk W' b5 = some (arr i64v t) ∧ blk W' bn = some Cn) (by kernel_rfl) ⟨hbm, hC, hb5, hCn⟩ (fun hHeld => ?_)
      refine wpAnyH_take (i := 0) (oi := ⟨_, _, _, _, _, _⟩) (v := ?_) rfl (by kernel_rfl) (by kernel_rfl) (by kernel_rfl) (fun _ _ _ h => h) (Or.inl ⟨by rfl, ?_⟩) (by assumption) ?_
      rotate_left 1
      · intro W' hSw
        obtain ⟨hS1, hS2, hS3, hS4⟩ := hSw
        go_simp
        try with_reducible rfl
      try simp only [Act.put, List.setIfInBounds_toArray, List.set_cons_zero, List.set_cons_succ]
      refine wpAnyH_take (i := 1) (oi := ⟨_, _, _, _, _, _⟩) (v := ?_) rfl (by kernel_rfl) (by kernel_rfl) (by kernel_rfl) (fun _ _ _ h => h) (Or.inl ⟨by rfl, ?_⟩) (by assumption) ?_
      rotate_left 1
      · intro W' hSw
        obtain ⟨hS1, hS2, hS3, hS4⟩ := hSw
        go_simp
        try with_reducible rfl
      try simp only [Act.put, List.setIfInBounds_toArray, List.set_cons_zero, List.set_cons_succ]
      refine wpAnyH_take (i := 2) (oi := ⟨_, _, _, _, _, _⟩) (v := ?_) rfl (by kernel_rfl) (by kernel_rfl) (by kernel_rfl) (fun _ _ _ h => h) (Or.inl ⟨by rfl, ?_⟩) (by assumption) ?_
      rotate_left 1
      · intro W' hSw
        obtain ⟨hS1, hS2, hS3, hS4⟩ := hSw
        go_simp
        try with_reducible rfl
      try simp only [Act.put, List.setIfInBounds_toArray, List.set_cons_zero, List.set_cons_succ]
      refine wpAnyH_take (i := 3) (oi := ⟨_, _, _, _, _, _⟩) (v := ?_) rfl (by kernel_rfl) (by kernel_rfl) (by kernel_rfl) (fun _ _ _ h => h) (Or.inl ⟨by rfl, ?_⟩) (by assumption) ?_
      rotate_left 1
      · intro W' hSw
        obtain ⟨hS1, hS2, hS3, hS4⟩ := hSw
        go_simp
        try with_reducible rfl
      try simp only [Act.put, List.setIfInBounds_toArray, List.set_cons_zero, List.set_cons_succ]
      refine wpAnyH_take (i := 4) (oi := ⟨_, _, _, _, _, _⟩) (v := ?_) rfl (by kernel_rfl) (by kernel_rfl) (by kernel_rfl) (fun _ _ _ h => h) (Or.inl ⟨by rfl, ?_⟩) (by assumption) ?_
      rotate_left 1
      · intro W' hSw
        obtain ⟨hS1, hS2, hS3, hS4⟩ := hSw
        go_simp
        try with_reducible rfl
      try simp only [Act.put, List.setIfInBounds_toArray, List.set_cons_zero, List.set_cons_succ]
      refine wpAnyH_take (i := 5) (oi := ⟨_, _, _, _, _, _⟩) (v := ?_) rfl (by kernel_rfl) (by kernel_rfl) (by kernel_rfl) (fun _ _ _ h => h) (Or.inl ⟨by rfl, ?_⟩) (by assumption) ?_
      rotate_left 1
      · intro W' hSw
        obtain ⟨hS1, hS2, hS3, hS4⟩ := hSw
        go_simp
        try with_reducible rfl
      try simp only [Act.put, List.setIfInBounds_toArray, List.set_cons_zero, List.set_cons_succ]
      refine wpAnyH_take (i := 6) (oi := ⟨_, _, _, _, _, _⟩) (v := ?_) rfl (by kernel_rfl) (by kernel_rfl) (by kernel_rfl) (fun _ _ _ h => h) (Or.inl ⟨by rfl, ?_⟩) (by assumption) ?_
      rotate_left 1
      · intro W' hSw
        obtain ⟨hS1, hS2, hS3, hS4⟩ := hSw
        go_simp
        try with_reducible rfl
      try simp only [Act.put, List.setIfInBounds_toArray, List.set_cons_zero, List.set_cons_succ]
      refine wpAnyH_take (i := 7) (oi := ⟨_, _, _, _, _, _⟩) (v := ?_) rfl (by kernel_rfl) (by kernel_rfl) (by kernel_rfl) (fun _ _ _ h => h) (Or.inl ⟨by rfl, ?_⟩) (by assumption) ?_
      rotate_left 1
      · intro W' hSw
        obtain ⟨hS1, hS2, hS3, hS4⟩ := hSw
        go_simp
        try with_reducible rfl
      try simp only [Act.put, List.setIfInBounds_toArray, List.set_cons_zero, List.set_cons_succ]
      refine wpAnyH_take (i := 8) (oi := ⟨_, _, _, _, _, _⟩) (v := ?_) rfl (by kernel_rfl) (by kernel_rfl) (by kernel_rfl) (fun _ _ _ h => h) (Or.inl ⟨by rfl, ?_⟩) (by assumption) ?_
      rotate_left 1
      · intro W' hSw
        obtain ⟨hS1, hS2, hS3, hS4⟩ := hSw
        go_simp
        try with_reducible rfl
      try simp only [Act.put, List.setIfInBounds_toArray, List.set_cons_zero, List.set_cons_succ]
      refine wpAnyH_take (i := 9) (oi := ⟨_, _, _, _, _, _⟩) (v := ?_) rfl (by kernel_rfl) (by kernel_rfl) (by kernel_rfl) (fun _ _ _ h => h) (Or.inl ⟨by rfl, ?_⟩) (by assumption) ?_
      rotate_left 1
      · intro W' hSw
        obtain ⟨hS1, hS2, hS3, hS4⟩ := hSw
        go_simp
        try with_reducible rfl
      try simp only [Act.put, List.setIfInBounds_toArray, List.set_cons_zero, List.set_cons_succ]
      refine wpAnyH_take (i := 10) (oi := ⟨_, _, _, _, _, _⟩) (v := ?_) rfl (by kernel_rfl) (by kernel_rfl) (by kernel_rfl) (fun _ _ _ h => h) (Or.inl ⟨by rfl, ?_⟩) (by assumption) ?_
      rotate_left 1
      · intro W' hSw
        obtain ⟨hS1, hS2, hS3, hS4⟩ := hSw
        go_simp
        try with_reducible rfl
      try simp only [Act.put, List.setIfInBounds_toArray, List.set_cons_zero, List.set_cons_succ]
      refine wpAnyH_take (i := 11) (oi := ⟨_, _, _, _, _, _⟩) (v := ?_) rfl (by kernel_rfl) (by kernel_rfl) (by kernel_rfl) (fun _ _ _ h => h) (Or.inl ⟨by rfl, ?_⟩) (by assumption) ?_
      rotate_left 1
      · intro W' hSw
        obtain ⟨hS1, hS2, hS3, hS4⟩ := hSw
        go_simp
        try with_reducible rfl
      try simp only [Act.put, List.setIfInBounds_toArray, List.set_cons_zero, List.set_cons_succ]
      refine wpAnyH_take (i := 12) (oi := ⟨_, _, _, _, _, _⟩) (v := ?_) rfl (by kernel_rfl) (by kernel_rfl) (by kernel_rfl) (fun _ _ _ h => h) (Or.inl ⟨by rfl, ?_⟩) (by assumption) ?_
      rotate_left 1
      · intro W' hSw
        obtain ⟨hS1, hS2, hS3, hS4⟩ := hSw
        go_simp
        try with_reducible rfl
      try simp only [Act.put, List.setIfInBounds_toArray, List.set_cons_zero, List.set_cons_succ]
      refine wpAnyH_take (i := 13) (oi := ⟨_, _, _, _, _, _⟩) (v := ?_) rfl (by kernel_rfl) (by kernel_rfl) (by kernel_rfl) (fun _ _ _ h => h) (Or.inl ⟨by rfl, ?_⟩) (by assumption) ?_
      rotate_left 1
      · intro W' hSw
        obtain ⟨hS1, hS2, hS3, hS4⟩ := hSw
        go_simp
        try with_reducible rfl
      try simp only [Act.put, List.setIfInBounds_toArray, List.set_cons_zero, List.set_cons_succ]
      refine wpAnyH_done (by kernel_rfl) ?_ _
      go_wp2_with (at_builtin; refine wpList_append_run rfl _ _ 55 rfl _ _ _ _ rfl rfl hrun ?_)
      refine ⟨rfl, rfl, ⟨rfl, rfl, rfl, rfl, i + 1, _, _, _, by omega, ?_, rfl, HQ'⟩, ?_⟩
      · show Value.int .i64 _ = _
        go_num
      · show wn - (intOf (Value.int .i64 _)).toNat < wn - (intOf (F 8)).toNat
        rw [H8.out]
        simp [intOf]; omega
  have hin' : ¬ (i : Int) < (wn : Int) := by omega
  have hwsE : ws = restF L t := by rw [hws, List.take_of_length_le (by rw [HWL.out]; omega)]
  have hfr : Fr (fun l => l = .cl (4 + 2 * n)) O1 V2 (lab O1 V2.heap.size (.cl (4 + 2 * n))) V := ⟨hE.os, hE.tape, hE.output, hE.size, fun k hk => lab_lt hk, fun k hk _ => hE.block k hk⟩
  obtain ⟨hbm2, hgr2, hgf2, houtM⟩ := HPUT.out _ V a m c ⟨s.ar, slotsOf (restF L t), s.M⟩ hfr (by
    rw [rowsOf_slotsOf, ← hwsE]
    exact ⟨row_base hout.1 hB1, fun k hk => lab_ge (row_at hout.1 k hk).1⟩) rfl rfl
  have HP : Hid (Q (.returned (.agg (Answer.enc (ans 0 0)).toArray)) (put (put V gr (splice Cr (n * 3 + 2) [.slice a m c])) b4 (Answer.enc (ans 0 0)))) := by
    have ho := (houtM.bef HXV2.out)
    show Q _ _
    rw [HQ.out]
    exact ⟨rfl, ⟨sm.names, sm.rels.set n ⟨s.ar, slotsOf (restF L t), s.M⟩⟩, HF.out _ _ _ ho, HU.out⟩
  have hbV : blk (put V gr (splice Cr (n * 3 + 2) [.slice a m c])) b4 = some (Answer.enc Answer.zero) := (HG.out (⟨sm.names, sm.rels.set n ⟨s.ar, slotsOf (restF L t), s.M⟩⟩) _ (houtM.bef HXV2.out)).1
  have hfV : free (put V gr (splice Cr (n * 3 + 2) [.slice a m c])) b4 = true := (HG.out (⟨sm.names, sm.rels.set n ⟨s.ar, slotsOf (restF L t), s.M⟩⟩) _ (houtM.bef HXV2.out)).2
  have HBC : Hid (blk (put (put V gr (splice Cr (n * 3 + 2) [.slice a m c])) b4 (Answer.enc (ans 0 0))) b4 = some (Answer.enc (ans 0 0))) := by
    show blk _ _ = _
    rw [blk_put, if_pos rfl, hbV]; rfl
  clear HF HG HPUT hfr houtM hwsE hws hout hE HQ1
  go_upto_region 12 with fail
  obtain ⟨V4, hV4⟩ : ∃ V4, V4 = put V gr (splice Cr (n * 3 + 2) [.slice a m c]) := ⟨_, rfl⟩
  rw [← hV4] at hbV hfV HBC HP ⊢
  clear hV4
  go_wp2_with fail
  try go_ret2
  refine ret_cell (C := Answer.enc (ans 0 0)) rfl rfl HBC.out (by kernel_rfl) (by rw [Answer.length_enc]; kernel_rfl) rfl ?_
  exact HP.out
end Go.Proofs.Qxb6500789a
