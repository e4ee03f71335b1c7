import Derived.Test.Qxb6500789aZc
import Derived.StillTailTactics
import Derived.Deep.QuietTactic
import Derived.BigQuiet
import Derived.Deep.RegionHeld
import Derived.Deep.CutRange
import Derived.Laws.ResultCell
import Derived.Laws.Rows
import Derived.DeepKeys
import Derived.DataBytes
import Derived.Laws.StructEq
import Derived.Laws.AppendOwn
import Derived.Laws.MakeOwn
import Derived.Lib.AppendStr
set_option linter.unusedSimpArgs false
set_option linter.unusedVariables false
namespace Go.Proofs.Qxb6500789a
open Go.RowKit Go.Blk
attribute [local go_sem ↓] execOp_load execOp_store execOp_alloc
attribute [local go_sem] Try.ld29 Try.st29 Try.ld3 Try.st3 Try.ld9 Try.st9 Try.ld30 Try.st30 Try.ld34 Try.st34 Try.ld35 Try.st35 Try.ld36 Try.st36 Try.ld37 Try.st37 Try.ld44 Try.st44 Try.ld45 Try.st45 Try.ld54 Try.st54 Try.ld55 Try.st55 Try.ld74 Try.st74 Try.ld80 Try.st80 Try.ld84 Try.st84 Try.ld106 Try.st106 Try.ld107 Try.st107 Try.ld4 Try.st4 Try.ld121 Try.st121 Try.ld2 Try.st2 Try.ld5 Try.st5 Try.ld12 Try.st12 Try.ld21 Try.st21 Try.ld22 Try.st22 Try.ld24 Try.st24 Try.ld26 Try.st26 Try.ld63 Try.st63 Try.ld71 Try.st71 Try.ld103 Try.st103 Try.ld130 Try.st130 Try.ld133 Try.st133 Try.ld140 Try.st140 Try.ld152 Try.st152 Try.ld39 Try.st39 Try.ld32 Try.st32 Try.ld41 Try.st41 Try.ld47 Try.st47 Try.ld57 Try.st57 Try.ld62 Try.st62 Try.ld76 Try.st76 Try.ld82 Try.st82 Try.ld86 Try.st86 Try.ld109 Try.st109 Try.ld115 Try.st115 Try.ld123 Try.st123 Try.ld135 Try.st135 Try.al39 Try.al32 Try.al41 Try.al47 Try.al57 Try.al62 Try.al76 Try.al82 Try.al86 Try.al109 Try.al115 Try.al123 Try.al135
attribute [local go_sem] Answer.length_enc Answer.ok_enc Answer.all_get Answer.all_set Answer.code_get Answer.code_set Answer.n_get Answer.n_set Answer.name_get Answer.name_set Answer.rows_get Answer.rows_set GOp.length_enc GOp.ok_enc GOp.all_get GOp.all_set GOp.kind_get GOp.kind_set GOp.rel_get GOp.rel_set GOp.mask_get GOp.mask_set GOp.t_get GOp.t_set GOp.n_get GOp.n_set GOp.name_get GOp.name_set Store.length_enc Store.ok_enc Store.all_get Store.all_set Store.names_get Store.names_set Store.rels_get Store.rels_set GRel.length_enc GRel.ok_enc GRel.all_get GRel.all_set GRel.arity_get GRel.arity_set GRel.masks_get GRel.masks_set GRel.rows_get GRel.rows_set Row.length_enc Row.ok_enc Row.all_get Row.all_set Row.t_get Row.t_set Row.mark_get Row.mark_set View.length_enc View.ok_enc View.all_get View.all_set View.names_get View.names_set View.rels_get View.rels_set Symtab.length_enc Symtab.ok_enc Symtab.all_get Symtab.all_set Symtab.names_get Symtab.names_set Symtab.table_get Symtab.table_set StoreTuplestore.length_enc StoreTuplestore.ok_enc StoreTuplestore.all_get StoreTuplestore.all_set StoreTuplestore.syms_get StoreTuplestore.syms_set StoreTuplestore.rels_get StoreTuplestore.rels_set StoreTuplestore.syms_names_get StoreTuplestore.syms_names_set StoreTuplestore.syms_table_get StoreTuplestore.syms_table_set Relation.length_enc Relation.ok_enc Relation.all_get Relation.all_set Relation.arity_get Relation.arity_set Relation.slots_get Relation.slots_set Relation.live_get Relation.live_set Relation.idx_get Relation.idx_set Slot.length_enc Slot.ok_enc Slot.all_get Slot.all_set Slot.t_get Slot.t_set Slot.mark_get Slot.mark_set Slot.live_get Slot.live_set RelView.length_enc RelView.ok_enc RelView.all_get RelView.all_set RelView.arity_get RelView.arity_set RelView.rows_get RelView.rows_set RelView.marks_get RelView.marks_set RelView.indexed_get RelView.indexed_set Index.length_enc Index.ok_enc Index.all_get Index.all_set Index.mask_get Index.mask_set Index.heads_get Index.heads_set Index.next_get Index.next_set
attribute [local go_sem] size_put size_ext blk_put free_put blk_alloc free_alloc blk_drew free_drew blk_ext free_ext lookOr_some putOr_some segAt_some cellAt_some storeIn_some put_put put_alloc_new length_arr ok_arr_u8 ok_arr_u32 ok_arr_u64 ok_arr_i64 ok_arr_sl cellsV_agg cellsV_int cellsV_bool cellsV_string cellsV_pointer cellsV_slice cellsV_sl ok_int ok_bool ok_string ok_pointer ok_slice ok_sl toList_arr seg_arr set_arr nth_splice nth_splice0 seg_splice seg_splice0 splice_splice splice_splice0 length_splice_if
attribute [local go_sem ↓] execOp_box
attribute [local go_sem] box_run nth_arr_u8 put_arr_u8 blk_drewN free_drewN put_drewN blk_raw free_raw
attribute [local go_sem] v_len v_ok v_n0 v_n1 v_s0 v_s1 v_all v_put b32_0 b32_c b32_n b32_cn b32_s b32_r b57
attribute [local go_sem ↓] execOp_build execOp_bslice
attribute [local go_sem] mr_len mr_ok mr_n0 mr_n1 mr_n2 mr_s1 mr_s2 mr_all mr_putz bslice45 bslice54
attribute [local go_sem] b62 bslice55
def slotsOf (rows : List (Tup × Int)) : List Slot := rows.map (fun r => ⟨r.1, r.2, true⟩)
theorem rowsOf_slotsOf (rows : List (Tup × Int)) : rowsOf (slotsOf rows) = rows := by
  unfold rowsOf slotsOf liveL
  induction rows with
  | nil => rfl
  | cons r rows ih =>
    rw [List.map_cons, List.filter_cons, if_pos rfl, List.map_cons, ih]
theorem set_map {L : List (Tup × Int)} {t : Tup} {mk : Int} (hN : (L.map (·.1)).Nodup) : ∀ {k : Nat}, (L.map (·.1))[k]? = some t → L.set k (t, mk) = L.map (fun r => if r.1 = t then (t, mk) else r) := by
  induction L with
  | nil => intro k h; simp at h
  | cons r L ih =>
    intro k h
    rw [List.map_cons, List.nodup_cons] at hN
    have hrest : ∀ L' : List (Tup × Int), t ∉ L'.map (·.1) → L'.map (fun r => if r.1 = t then (t, mk) else r) = L' := by
      intro L' h'
      induction L' with
      | nil => rfl
      | cons x L' ih' =>
        rw [List.map_cons, List.mem_cons, not_or] at h'
        rw [List.map_cons, if_neg (fun e => h'.1 e.symm), ih' h'.2]
    cases k with
    | zero =>
      have e : r.1 = t := by simpa using h
      rw [List.set_cons_zero, List.map_cons, if_pos e, hrest L (by rw [← e]; exact hN.1)]
    | succ k =>
      have hk : (L.map (·.1))[k]? = some t := by simpa using h
      have hne : ¬ r.1 = t := fun e => hN.1 (by rw [e]; exact List.mem_of_getElem? hk)
      rw [List.set_cons_succ, List.map_cons, if_neg hne, ih hN.2 hk]
/-- A mark changed where it lies. -/
theorem mat_rowput {B : Nat} {O : Own} {W : World} {bm : Nat} {sm : StS} (h : MAt B O W bm sm) {n : Nat} {s : RelS} (hs : sm.rels[n]? = some s) {k : Nat} {r : Tup × Int} (hr : (rowsOf s.L)[k]? = some r) (mk : Int) :
    ∃ na nn nc gr rn rc Cr ka kn kc gw wn wc Cw, Opm W bm sm n s na nn nc gr rn rc Cr ka kn kc (some ⟨gw, 0, none⟩) wn wc ∧ k < wn ∧ blk W gw = some Cw ∧ free W gw = true ∧ k * 5 + 5 ≤ Cw.length ∧ ¬ gw = bm ∧ ¬ gw = gr ∧ O gw = .cl (4 + 2 * n) ∧ MOut B O W bm ⟨sm.names, sm.rels.set n ⟨s.ar, slotsOf ((rowsOf s.L).set k (r.1, mk)), s.M⟩⟩ (put W gw (splice Cw (k * 5 + 4) [.int .i64 mk])) := by
  obtain ⟨na, nn, nc, gr, rn, rc, Cr, ka, kn, kc, wa, wn, wc, ho, hB, hog, hty, hok, hshut⟩ := mat_open h hs
  have hob : O bm = .cl 0 := by obtain ⟨_, _, _, _, _, _, _, h⟩ := h; exact h.own
  have hwl := ho.rows.1
  have hk : k < (rowsOf s.L).length := (List.getElem?_eq_some_iff.1 hr).1
  obtain ⟨gw, Cw, e1, e2, e3, e4, e5, e6, e7, e8, e9⟩ := hok.rows.open encW_len (show 0 < wn by omega)
  subst e1
  have hle : (k + 1) * 5 ≤ wn * 5 := Nat.mul_le_mul_right _ (by omega)
  have hng : ¬ gw = gr := fun e => by rw [e, hog] at e5; injection e5 with e5; omega
  have hnb : ¬ gw = bm := fun e => by rw [e, hob] at e5; injection e5 with e5; omega
  refine ⟨na, nn, nc, gr, rn, rc, Cr, ka, kn, kc, gw, wn, wc, Cw, ho, by omega, e2, e3, by omega, hnb, hng, e5, ?_⟩
  have hF : Fr (relM n) O W O (put W gw (splice Cw (k * 5 + 4) [.int .i64 mk])) := (Fr.refl _ O W).put (.inr (.inr e5)) _
  refine ⟨O, hF.mono (fun l e => relM_isM e), hshut O _ Cr ⟨(s.ar : Int), ka, kn, kc, some ⟨gw, 0, none⟩, wn, wc⟩ _ hF (by rw [heap_put, if_neg (fun e => hng e.symm)]; exact hty) rfl (fun _ _ _ => rfl) ?_ ⟨rfl, ?_, ?_⟩⟩
  · apply List.ext_getElem?
    intro x
    rw [seg_nth]
    by_cases hx : x < 3
    · rw [if_pos hx]
      have h : x = 0 ∨ x = 1 ∨ x = 2 := by omega
      rcases h with rfl | rfl | rfl
      · exact ho.c0
      · exact ho.c1
      · exact ho.c2
    · rw [if_neg hx, List.getElem?_eq_none (by show 3 ≤ x; omega)]
  · exact hok.mks.keep (fun x hx hxo => ⟨by rw [heap_put, if_neg (fun e => by rw [e, e5] at hxo; injection hxo with e; omega)], rfl⟩)
  · show RowL B O _ _ 62 5 _ (rowsOf (slotsOf ((rowsOf s.L).set k (r.1, mk)))).length ((rowsOf (slotsOf ((rowsOf s.L).set k (r.1, mk)))).flatMap encW)
    rw [rowsOf_slotsOf]
    refine e9 _ _ (length_splice1 (by omega)) (by simp) (fun i x hx => ?_)
    rw [List.getElem?_set] at hx
    by_cases hik : k = i
    · subst hik
      rw [if_pos rfl, if_pos hk] at hx
      rw [seg_splice_in (e8 k r hr) (by omega) (by omega), ← Option.some.inj hx]
      exact Row.mark_set ⟨r.1, r.2⟩ mk
    · rw [if_neg hik] at hx
      rw [seg_splice_off (by omega) (by omega)]
      exact e8 i x hx
set_option maxRecDepth 20000 in
set_option maxHeartbeats 4000000 in
theorem msetMark_any (B : Nat) (O : Own) (W : World) (bm : Nat) (sm : StS) (h : MAt B O W bm sm) (hm : MSm sm) (id : Int) (t : Tup) (mk : Int) :
    Calls Try.prog 56 #[.pointer (some ⟨bm, 0, none⟩), .int .i64 id, .agg (arr i64v t).toArray, .int .i64 mk] W (MAct B O W bm (setF sm id t mk) sm id (setP t mk)) := by
  have HM := hid_of h
  have HSM := hid_of hm
  obtain ⟨c, hc⟩ : ∃ c, c = setF sm id t mk := ⟨_, rfl⟩
  rw [← hc]
  have HC := hid_of hc
  obtain ⟨Q, hQ⟩ : ∃ Q, Q = MAct B O W bm c sm id (setP t mk) := ⟨_, rfl⟩
  rw [← hQ]
  have HQ := hid_of hQ
  clear hc hQ hm h
  go_enter Try.func56, Try.ntmps56
  go_upto_region 1 with fail
  refine wp_world (fun W1 => blk W1 W.heap.size = some (arr i64v t) ∧ blk W1 (W.heap.size + 1) = some (Answer.enc Answer.zero) ∧ free W1 (W.heap.size + 1) = true ∧ W.Extends W1) ⟨?_, ?_, ?_, extends_alloc (extends_alloc (ext_Ext (Ext.refl _)) _) _⟩ ?_
  · rw [blk_alloc, if_neg (by rw [World.size_alloc]; omega), blk_alloc, if_pos rfl]
  · rw [blk_alloc, if_pos (by rw [World.size_alloc])]
  · unfold free; rw [heap_alloc, if_pos (by rw [World.size_alloc])]; rfl
  rintro W1 ⟨hb5, hb4, hf4, hx1⟩
  obtain ⟨b4, e4⟩ : ∃ b4, b4 = W.heap.size + 1 := ⟨_, rfl⟩
  obtain ⟨b5, e5⟩ : ∃ b5, b5 = W.heap.size := ⟨_, rfl⟩
  try simp only [World.size_alloc]
  rw [← e4] at hb4 hf4 ⊢
  rw [← e5] at hb5 ⊢
  have hn4 : W.heap.size ≤ b4 := by omega
  have hn5 : W.heap.size ≤ b5 := by omega
  have hn4' := blk_lt hb4
  have nb45 : ¬ b4 = b5 := by omega
  obtain ⟨O1, hO1⟩ : ∃ O1, O1 = lab O W.heap.size .no := ⟨_, rfl⟩
  have hM1 : MAt B O1 W1 bm sm := by rw [hO1]; exact HM.out.new hx1
  have HM1 := hid_of hM1
  have HF : Hid (∀ sm' V C, MOut B O1 W1 bm sm' V → MOut B O W bm sm' (put V b4 C)) := by
    intro sm' V C h
    rw [hO1] at h
    exact mout_put hx1 hn4 hn4' h C
  have HG : Hid (∀ sm' V, MOut B O1 W1 bm sm' V → blk V b4 = some (Answer.enc Answer.zero) ∧ free V b4 = true) := by
    intro sm' V h
    rw [hO1] at h
    exact mout_blk hn4 hb4 hf4 h
  have HG5 : Hid (∀ sm' V, MOut B O1 W1 bm sm' V → blk V b5 = some (arr i64v t)) := by
    intro sm' V h
    rw [hO1] at h
    obtain ⟨O', hF', _⟩ := h
    exact hF'.blk hb5 (by rw [lab_ge hn5]; rintro ⟨m, e⟩; cases e)
  have HXW := hid_of hx1
  have HO5 : Hid (O1 b5 = .no) := by show O1 b5 = .no; rw [hO1]; exact lab_ge hn5
  clear e4 e5 hO1 hx1 hn4 hn5 hM1
  have HOX : Hid (∀ V, W1.Extends V → MOut B O1 W1 bm sm V) := fun V hx => mout_same HM1.out hx
  have hcr := checkRow_any B O1 W1 bm sm HM1.out HSM.out id t
  obtain ⟨cc, hcc⟩ : ∃ cc, cc = rowCode sm id t := ⟨_, rfl⟩
  rw [← hcc] at hcr
  have HCC := hid_of hcc
  clear hcc hb4 hf4
  go_wp2_with fail
  refine hcr.mono ?_
  rintro e V1 ⟨rfl, hx1⟩
  have hb51 : blk V1 b5 = some (arr i64v t) := (hx1.blk (blk_lt hb5)).trans hb5
  have HX1 := hid_of hx1
  clear hcr hb5
  dsimp only
  by_cases hc0 : cc = 0
  rotate_left 1
  · have e : c = cc := by rw [HC.out]; unfold setF; rw [if_neg (by rw [← HCC.out]; exact hc0), HCC.out]
    subst e
    have hcb : (c == 0) = false := by simp [hc0]
    have hcn : (c != 0) = true := by simp [hc0]
    have hcr2 := checkRow_any B O1 V1 bm sm (HM1.out.ext hx1) HSM.out id t
    rw [← HCC.out] at hcr2
    clear hx1
    go_wp2_with fail
    refine hcr2.mono ?_
    rintro e V2 ⟨rfl, hx2⟩
    have HP : Hid (Q (.returned (.agg (Answer.enc (ans c 0)).toArray)) (put (V2) b4 (Answer.enc (ans c 0)))) := by
      have ho := (HOX.out _ (HX1.out.trans hx2))
      show Q _ _
      rw [HQ.out]
      exact ⟨rfl, sm, HF.out _ _ _ ho, ⟨fun _ => rfl, fun h => absurd h hc0⟩⟩
    have hbV : blk (V2) b4 = some (Answer.enc Answer.zero) := (HG.out (sm) _ (HOX.out _ (HX1.out.trans hx2))).1
    have hfV : free (V2) b4 = true := (HG.out (sm) _ (HOX.out _ (HX1.out.trans hx2))).2
    have HBC : Hid (blk (put (V2) b4 (Answer.enc (ans c 0))) b4 = some (Answer.enc (ans c 0))) := by
      show blk _ _ = _
      rw [blk_put, if_pos rfl, hbV]; rfl
    clear HF HG hx2 hcr2
    dsimp only
    go_wp2_with fail
    try go_ret2
    refine ret_cell (C := Answer.enc (ans c 0)) rfl rfl HBC.out (by kernel_rfl) (by rw [Answer.length_enc]; kernel_rfl) rfl ?_
    exact HP.out
  subst hc0
  obtain ⟨n, s, rfl, hs⟩ := row0 HCC.out.symm
  have hrs : rowsS sm (n : Int) = rowsOf s.L := by unfold rowsS; rw [relF_some hs]
  by_cases hmk : 0 ≤ mk ∧ mk ≤ 255
  rotate_left 1
  · have e : c = 11 := by rw [HC.out]; unfold setF; rw [if_pos HCC.out.symm, if_neg hmk]
    subst e
    have HP : Hid (Q (.returned (.agg (Answer.enc (ans 11 0)).toArray)) (put (V1) b4 (Answer.enc (ans 11 0)))) := by
      have ho := (HOX.out _ HX1.out)
      show Q _ _
      rw [HQ.out]
      exact ⟨rfl, sm, HF.out _ _ _ ho, ⟨fun _ => rfl, fun h => absurd h (by decide)⟩⟩
    have hbV : blk (V1) b4 = some (Answer.enc Answer.zero) := (HG.out (sm) _ (HOX.out _ HX1.out)).1
    have hfV : free (V1) b4 = true := (HG.out (sm) _ (HOX.out _ HX1.out)).2
    have HBC : Hid (blk (put (V1) b4 (Answer.enc (ans 11 0))) b4 = some (Answer.enc (ans 11 0))) := by
      show blk _ _ = _
      rw [blk_put, if_pos rfl, hbV]; rfl
    clear HF HG hx1 hs hrs
    by_cases h0 : mk < 0
    · clear hmk
      go_wp2_with fail
      try go_ret2
      refine ret_cell (C := Answer.enc (ans 11 0)) rfl rfl HBC.out (by kernel_rfl) (by rw [Answer.length_enc]; kernel_rfl) rfl ?_
      exact HP.out
    · have h255 : 255 < mk := by omega
      clear hmk
      go_wp2_with fail
      try go_ret2
      refine ret_cell (C := Answer.enc (ans 11 0)) rfl rfl HBC.out (by kernel_rfl) (by rw [Answer.length_enc]; kernel_rfl) rfl ?_
      exact HP.out
  have hmk0 : ¬ mk < 0 := by omega
  have hmk1 : ¬ 255 < mk := by omega
  have hwh := where_any B O1 V1 bm sm (HM1.out.ext hx1) HSM.out n s hs t
  have HS := hid_of hs
  by_cases hin : t ∈ (rowsOf s.L).map (·.1)
  rotate_left 1
  · have e : c = 2 := by rw [HC.out]; unfold setF; rw [if_pos HCC.out.symm, if_pos hmk, hrs, if_neg hin]
    subst e
    rw [whR_neg hin] at hwh
    clear hx1 hs hrs hmk
    go_wp2_with fail
    refine hwh.mono ?_
    rintro e V2 ⟨rfl, hx2⟩
    have HP : Hid (Q (.returned (.agg (Answer.enc (ans 2 0)).toArray)) (put (V2) b4 (Answer.enc (ans 2 0)))) := by
      have ho := (HOX.out _ (HX1.out.trans hx2))
      show Q _ _
      rw [HQ.out]
      exact ⟨rfl, sm, HF.out _ _ _ ho, ⟨fun _ => rfl, fun h => absurd h (by decide)⟩⟩
    have hbV : blk (V2) b4 = some (Answer.enc Answer.zero) := (HG.out (sm) _ (HOX.out _ (HX1.out.trans hx2))).1
    have hfV : free (V2) b4 = true := (HG.out (sm) _ (HOX.out _ (HX1.out.trans hx2))).2
    have HBC : Hid (blk (put (V2) b4 (Answer.enc (ans 2 0))) b4 = some (Answer.enc (ans 2 0))) := by
      show blk _ _ = _
      rw [blk_put, if_pos rfl, hbV]; rfl
    clear HF HG hx2 hwh
    dsimp only
    go_wp2_with fail
    try go_ret2
    refine ret_cell (C := Answer.enc (ans 2 0)) rfl rfl HBC.out (by kernel_rfl) (by rw [Answer.length_enc]; kernel_rfl) rfl ?_
    exact HP.out
  have e : c = 0 := by rw [HC.out]; unfold setF; rw [if_pos HCC.out.symm, if_pos hmk, hrs, if_pos hin]
  subst e
  obtain ⟨k, hk, hkt⟩ := whR_pos hin
  rw [hk] at hwh
  have hk0 : ¬ (k : Int) < 0 := by omega
  have HWK := hid_of hk
  obtain ⟨r, hr, hrt⟩ : ∃ r, (rowsOf s.L)[k]? = some r ∧ r.1 = t := by
    rw [List.getElem?_map] at hkt
    cases hx : (rowsOf s.L)[k]? with
    | none => rw [hx] at hkt; cases hkt
    | some r => rw [hx] at hkt; exact ⟨r, rfl, Option.some.inj hkt⟩
  have hsm := HSM.out.rel s (List.mem_of_getElem? hs)
  have hu : ActR 0 sm (n : Int) (setP t mk) ⟨sm.names, sm.rels.set n ⟨s.ar, slotsOf ((rowsOf s.L).set k (r.1, mk)), s.M⟩⟩ := ⟨fun h => absurd rfl h, fun _ => upd_mk hs rfl ⟨rfl, by rw [rowsOf_slotsOf, hrt]; exact set_map hsm.2.2.2 hkt⟩⟩
  have HU := hid_of hu
  have HR := hid_of hr
  clear hs hrs hx1 hin hk hkt hr hsm hu hmk hrt
  go_wp2_with fail
  refine hwh.mono ?_
  rintro e V2 ⟨rfl, hx2⟩
  have hb52 : blk V2 b5 = some (arr i64v t) := (hx2.blk (blk_lt hb51)).trans hb51
  have hxV2 := HX1.out.trans hx2
  have HXV2 := hid_of hxV2
  clear hwh hx2 hb51
  dsimp only
  have hM2 := HM1.out.ext hxV2
  obtain ⟨na, nn, nc, gr, rn, rc, Cr, ka, kn, kc, wa, wn, wc, ho, hB1, _, _, _, _⟩ := mat_put hM2 HS.out
  have HO := hid_of ho
  obtain ⟨hbm, hnn, hrn, hn, hC, hl, c0, c1, c2, _, hw⟩ := ho
  have d1 : n * 3 + 2 + 1 ≤ Cr.length := by omega
  have d2 : n * 3 < Cr.length := by omega
  have q0 : (0 : Int) ≤ (n : Int) := by omega
  have q1 : (n : Int) < (rn : Int) := by omega
  have q2 : ((n : Int)).toNat = n := by omega
  have hd2 : V2.Extends V2.drew := extends_drew (ext_Ext (Ext.refl _))
  have hwh2 := where_any B O1 V2.drew bm sm (hM2.ext hd2) HSM.out n s HS.out t
  rw [HWK.out] at hwh2
  have hSx : ∀ V', V2.Extends V' → blk V' bm = some (vE na nn nc (some ⟨gr, 0, none⟩) rn rc) ∧ blk V' gr = some Cr ∧ blk V' b5 = some (arr i64v t) := fun V' hx => ⟨(hx.blk (blk_lt hbm)).trans hbm, (hx.blk (blk_lt hC)).trans hC, (hx.blk (blk_lt hb52)).trans hb52⟩
  have HSX := hid_of hSx
  clear hnn hrn hn c0 c1 hl hw hSx hxV2
  go_upto_region 7 with fail
  refine wp_region_held_drew (S := fun W' => blk W' bm = some (vE na nn nc (some ⟨gr, 0, none⟩) rn rc) ∧ blk W' gr = some Cr ∧ blk W' b5 = some (arr i64v t)) (by kernel_rfl) ⟨hbm, hC, hb52⟩ (fun hHeld => ?_)
  refine wpAnyH_take (i := 0) (oi := ⟨_, _, _, _, _, _⟩) (v := ?_) rfl (by kernel_rfl) (by kernel_rfl) (by kernel_rfl) (fun _ _ _ h => h) (Or.inl ⟨by rfl, ?_⟩) (by assumption) ?_
  rotate_left 1
  · intro W' hSw
    obtain ⟨hS1, hS2, hS3⟩ := hSw
    go_simp
    try with_reducible rfl
  try simp only [Act.put, List.setIfInBounds_toArray, List.set_cons_zero, List.set_cons_succ]
  refine wpAnyH_take (i := 1) (oi := ⟨_, _, _, _, _, _⟩) (v := ?_) rfl (by kernel_rfl) (by kernel_rfl) (by kernel_rfl) (fun _ _ _ h => h) (Or.inl ⟨by rfl, ?_⟩) (by assumption) ?_
  rotate_left 1
  · intro W' hSw
    obtain ⟨hS1, hS2, hS3⟩ := hSw
    go_simp
    try with_reducible rfl
  try simp only [Act.put, List.setIfInBounds_toArray, List.set_cons_zero, List.set_cons_succ]
  refine wpAnyH_take (i := 2) (oi := ⟨_, _, _, _, _, _⟩) (v := ?_) rfl (by kernel_rfl) (by kernel_rfl) (by kernel_rfl) (fun _ _ _ h => h) (Or.inl ⟨by rfl, ?_⟩) (by assumption) ?_
  rotate_left 1
  · intro W' hSw
    obtain ⟨hS1, hS2, hS3⟩ := hSw
    go_simp
    try with_reducible rfl
  try simp only [Act.put, List.setIfInBounds_toArray, List.set_cons_zero, List.set_cons_succ]
  refine wpAnyH_take (i := 3) (oi := ⟨_, _, _, _, _, _⟩) (v := ?_) rfl (by kernel_rfl) (by kernel_rfl) (by kernel_rfl) (fun _ _ _ h => h) (Or.inl ⟨by rfl, ?_⟩) (by assumption) ?_
  rotate_left 1
  · intro W' hSw
    obtain ⟨hS1, hS2, hS3⟩ := hSw
    go_simp
    try with_reducible rfl
  try simp only [Act.put, List.setIfInBounds_toArray, List.set_cons_zero, List.set_cons_succ]
  refine wpAnyH_take (i := 4) (oi := ⟨_, _, _, _, _, _⟩) (v := ?_) rfl (by kernel_rfl) (by kernel_rfl) (by kernel_rfl) (fun _ _ _ h => h) (Or.inl ⟨by rfl, ?_⟩) (by assumption) ?_
  rotate_left 1
  · intro W' hSw
    obtain ⟨hS1, hS2, hS3⟩ := hSw
    go_simp
    try with_reducible rfl
  try simp only [Act.put, List.setIfInBounds_toArray, List.set_cons_zero, List.set_cons_succ]
  refine wpAnyH_take (i := 5) (oi := ⟨_, _, _, _, _, _⟩) (v := ?_) rfl (by kernel_rfl) (by kernel_rfl) (by kernel_rfl) (fun _ _ _ h => h) (Or.inl ⟨by rfl, ?_⟩) (by assumption) ?_
  rotate_left 1
  · intro W' hSw
    obtain ⟨hS1, hS2, hS3⟩ := hSw
    go_simp
    try with_reducible rfl
  try simp only [Act.put, List.setIfInBounds_toArray, List.set_cons_zero, List.set_cons_succ]
  refine wpAnyH_take (i := 6) (oi := ⟨_, _, _, _, _, _⟩) (v := ?_) rfl (by kernel_rfl) (by kernel_rfl) (by kernel_rfl) (fun _ _ _ h => h) (Or.inl ⟨by rfl, ?_⟩) (by assumption) ?_
  rotate_left 1
  · intro W' hSw
    obtain ⟨hS1, hS2, hS3⟩ := hSw
    go_simp
    try with_reducible rfl
  try simp only [Act.put, List.setIfInBounds_toArray, List.set_cons_zero, List.set_cons_succ]
  refine wpAnyH_take (i := 7) (oi := ⟨_, _, _, _, _, _⟩) (v := ?_) rfl (by kernel_rfl) (by kernel_rfl) (by kernel_rfl) (fun _ _ _ h => h) (Or.inl ⟨by rfl, ?_⟩) (by assumption) ?_
  rotate_left 1
  · intro W' hSw
    obtain ⟨hS1, hS2, hS3⟩ := hSw
    go_simp
    try with_reducible rfl
  try simp only [Act.put, List.setIfInBounds_toArray, List.set_cons_zero, List.set_cons_succ]
  refine wpAnyH_take (i := 8) (oi := ⟨_, _, _, _, _, _⟩) (v := ?_) rfl (by kernel_rfl) (by kernel_rfl) (by kernel_rfl) (fun _ _ _ h => h) (Or.inl ⟨by rfl, ?_⟩) (by assumption) ?_
  rotate_left 1
  · intro W' hSw
    obtain ⟨hS1, hS2, hS3⟩ := hSw
    go_simp
    try with_reducible rfl
  try simp only [Act.put, List.setIfInBounds_toArray, List.set_cons_zero, List.set_cons_succ]
  refine wpAnyH_take (i := 9) (oi := ⟨_, _, _, _, _, _⟩) (v := ?_) rfl (by kernel_rfl) (by kernel_rfl) (by kernel_rfl) (fun _ _ _ h => h) (Or.inl ⟨by rfl, ?_⟩) (by assumption) ?_
  rotate_left 1
  · intro W' hSw
    obtain ⟨hS1, hS2, hS3⟩ := hSw
    go_simp
    try with_reducible rfl
  try simp only [Act.put, List.setIfInBounds_toArray, List.set_cons_zero, List.set_cons_succ]
  refine wpAnyH_take (i := 10) (oi := ⟨_, _, _, _, _, _⟩) (v := ?_) rfl (by kernel_rfl) (by kernel_rfl) (by kernel_rfl) (fun _ _ _ h => h) (Or.inl ⟨by rfl, ?_⟩) (by assumption) ?_
  rotate_left 1
  · intro W' hSw
    obtain ⟨hS1, hS2, hS3⟩ := hSw
    go_simp
    try with_reducible rfl
  try simp only [Act.put, List.setIfInBounds_toArray, List.set_cons_zero, List.set_cons_succ]
  refine wpAnyH_take (i := 12) (oi := ⟨_, _, _, _, _, _⟩) (v := ?_) rfl (by kernel_rfl) (by kernel_rfl) (by kernel_rfl) (fun _ _ _ h => h) (Or.inl ⟨by rfl, ?_⟩) (by assumption) ?_
  rotate_left 1
  · intro W' hSw
    obtain ⟨hS1, hS2, hS3⟩ := hSw
    go_simp
    try with_reducible rfl
  try simp only [Act.put, List.setIfInBounds_toArray, List.set_cons_zero, List.set_cons_succ]
  refine wpAnyH_ready (rs := [11]) (by kernel_rfl) (by simp) ?_
  refine AllReadyH.cons (o := ⟨_, _, _, _, _, _⟩) rfl (fun K' hK => ?_) AllReadyH.nil
  go_simp
  refine hwh2.mono ?_
  rintro e V3 ⟨rfl, hx3⟩
  have hxV3 := hd2.trans hx3
  obtain ⟨na1, nn1, nc1, gr1, rn1, rc1, Cr1, ka1, kn1, kc1, gw, wn1, wc1, Cw, ho1, hkw, hCw, hfw, hlw, hnb, hng, how, hout⟩ := mat_rowput (hM2.ext hxV3) HS.out HR.out mk
  have ho2 := HO.out.ext hxV3
  have e1 := ho2.hb
  rw [ho1.hb] at e1
  have e2 : (some ⟨gr1, 0, none⟩ : Option Addr) = some ⟨gr, 0, none⟩ ∧ rn1 = rn ∧ rc1 = rc := by
    injection e1 with e1
    have := congrArg (fun l => nth l 1) e1
    simp only [v_n1] at this
    injection this with this
    injection this with h1 h2 h3
    exact ⟨h1, h2, h3⟩
  have e3 : gr1 = gr := by have := e2.1; injection this with this; injection this
  have e4 : Cr1 = Cr := by
    have h1 := ho1.bc
    rw [e3, ho2.bc] at h1
    exact (Option.some.inj h1).symm
  have e5 : (some ⟨gw, 0, none⟩ : Option Addr) = wa ∧ wn1 = wn ∧ wc1 = wc := by
    have h1 := ho1.c2
    rw [e4, ho2.c2] at h1
    injection h1 with h1
    injection h1 with h1 h2 h3
    exact ⟨h1.symm, h2.symm, h3.symm⟩
  obtain ⟨e6, e7, e8⟩ := e5
  subst e6 e7 e8 e3
  have hng5 : ¬ b5 = gw := fun e => by rw [← e, HO5.out] at how; cases how
  have hSP : blk (put V3 gw (splice Cw (k * 5 + 4) [.int .i64 mk])) bm = some (vE na nn nc (some ⟨gr1, 0, none⟩) rn rc) ∧ blk (put V3 gw (splice Cw (k * 5 + 4) [.int .i64 mk])) gr1 = some Cr ∧ blk (put V3 gw (splice Cw (k * 5 + 4) [.int .i64 mk])) b5 = some (arr i64v t) := ⟨by rw [blk_put, if_neg (fun e => hnb e.symm)]; exact (HSX.out V3 hxV3).1, by rw [blk_put, if_neg (fun e => hng e.symm)]; exact (HSX.out V3 hxV3).2.1, by rw [blk_put, if_neg hng5]; exact (HSX.out V3 hxV3).2.2⟩
  have k0 : (0 : Int) ≤ (k : Int) := by omega
  have k1 : (k : Int) < (wn1 : Int) := by omega
  have k2 : ((k : Int)).toNat = k := by omega
  have k3 : k * 5 + 4 + 1 ≤ Cw.length := by omega
  have k4 : k * 5 < Cw.length := by omega
  have HP : Hid (Q (.returned (.agg (Answer.enc (ans 0 0)).toArray)) (put (put V3 gw (splice Cw (k * 5 + 4) [.int .i64 mk])) b4 (Answer.enc (ans 0 0)))) := by
    have ho := ((hout.bef hxV3).bef HXV2.out)
    show Q _ _
    rw [HQ.out]
    exact ⟨rfl, ⟨sm.names, sm.rels.set n ⟨s.ar, slotsOf ((rowsOf s.L).set k (r.1, mk)), s.M⟩⟩, HF.out _ _ _ ho, HU.out⟩
  have hbV : blk (put V3 gw (splice Cw (k * 5 + 4) [.int .i64 mk])) b4 = some (Answer.enc Answer.zero) := (HG.out (⟨sm.names, sm.rels.set n ⟨s.ar, slotsOf ((rowsOf s.L).set k (r.1, mk)), s.M⟩⟩) _ ((hout.bef hxV3).bef HXV2.out)).1
  have hfV : free (put V3 gw (splice Cw (k * 5 + 4) [.int .i64 mk])) b4 = true := (HG.out (⟨sm.names, sm.rels.set n ⟨s.ar, slotsOf ((rowsOf s.L).set k (r.1, mk)), s.M⟩⟩) _ ((hout.bef hxV3).bef HXV2.out)).2
  have HBC : Hid (blk (put (put V3 gw (splice Cw (k * 5 + 4) [.int .i64 mk])) b4 (Answer.enc (ans 0 0))) b4 = some (Answer.enc (ans 0 0))) := by
    show blk _ _ = _
    rw [blk_put, if_pos rfl, hbV]; rfl
  have hSV3 := HSX.out V3 hxV3
  clear HF HG hx3 hxV3 ho1 ho2 hout e1 e2 e4 hnb hng how
  dsimp only
  refine hK.out _ _ hSV3 (fun hHeld => ?_)
  clear hK K'
  try simp only [Act.put, List.setIfInBounds_toArray, List.set_cons_zero, List.set_cons_succ]
  refine wpAnyH_take (i := 13) (oi := ⟨_, _, _, _, _, _⟩) (v := ?_) rfl (by kernel_rfl) (by kernel_rfl) (by kernel_rfl) (fun _ _ _ h => h) (Or.inl ⟨by rfl, ?_⟩) (by assumption) ?_
  rotate_left 1
  · intro W' hSw
    obtain ⟨hS1, hS2, hS3⟩ := hSw
    go_simp
    try with_reducible rfl
  try simp only [Act.put, List.setIfInBounds_toArray, List.set_cons_zero, List.set_cons_succ]
  refine wpAnyH_take (i := 14) (oi := ⟨_, _, _, _, _, _⟩) (v := ?_) rfl (by kernel_rfl) (by kernel_rfl) (by kernel_rfl) (fun _ _ _ h => h) (Or.inl ⟨by rfl, ?_⟩) (by assumption) ?_
  rotate_left 1
  · intro W' hSw
    obtain ⟨hS1, hS2, hS3⟩ := hSw
    go_simp
    try with_reducible rfl
  try simp only [Act.put, List.setIfInBounds_toArray, List.set_cons_zero, List.set_cons_succ]
  refine wpAnyH_ready (rs := [15]) (by kernel_rfl) (by simp) ?_
  refine AllReadyH.cons (o := ⟨_, _, _, _, _, _⟩) rfl (fun K' hK => ?_) AllReadyH.nil
  go_simp
  refine hK.out _ _ hSP (fun hHeld => ?_)
  clear hK K'
  try simp only [Act.put, List.setIfInBounds_toArray, List.set_cons_zero, List.set_cons_succ]
  refine wpAnyH_done (by kernel_rfl) ?_ _
  obtain ⟨V4, hV4⟩ : ∃ V4, V4 = put V3 gw (splice Cw (k * 5 + 4) [.int .i64 mk]) := ⟨_, rfl⟩
  rw [← hV4] at hbV hfV HBC HP ⊢
  clear hV4 hSP hSV3
  go_wp2_with fail
  try go_ret2
  refine ret_cell (C := Answer.enc (ans 0 0)) rfl rfl HBC.out (by kernel_rfl) (by rw [Answer.length_enc]; kernel_rfl) rfl ?_
  exact HP.out
end Go.Proofs.Qxb6500789a
