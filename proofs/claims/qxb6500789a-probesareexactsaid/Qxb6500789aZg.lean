import Derived.Test.Qxb6500789aZf
import Derived.StillTailTactics
import Derived.Deep.QuietTactic
import Derived.BigQuiet
import Derived.Deep.RegionHeld
import Derived.Deep.CutRange
import Derived.Laws.ResultCell
import Derived.Laws.Rows
import Derived.DeepKeys
import Derived.DataBytes
import Derived.Laws.StructEq
import Derived.Laws.AppendOwn
import Derived.Laws.MakeOwn
import Derived.Lib.AppendStr
set_option linter.unusedSimpArgs false
set_option linter.unusedVariables false
namespace Go.Proofs.Qxb6500789a
open Go.RowKit Go.Blk
attribute [local go_sem ↓] execOp_load execOp_store execOp_alloc
attribute [local go_sem] Try.ld29 Try.st29 Try.ld3 Try.st3 Try.ld9 Try.st9 Try.ld30 Try.st30 Try.ld34 Try.st34 Try.ld35 Try.st35 Try.ld36 Try.st36 Try.ld37 Try.st37 Try.ld44 Try.st44 Try.ld45 Try.st45 Try.ld54 Try.st54 Try.ld55 Try.st55 Try.ld74 Try.st74 Try.ld80 Try.st80 Try.ld84 Try.st84 Try.ld106 Try.st106 Try.ld107 Try.st107 Try.ld4 Try.st4 Try.ld121 Try.st121 Try.ld2 Try.st2 Try.ld5 Try.st5 Try.ld12 Try.st12 Try.ld21 Try.st21 Try.ld22 Try.st22 Try.ld24 Try.st24 Try.ld26 Try.st26 Try.ld63 Try.st63 Try.ld71 Try.st71 Try.ld103 Try.st103 Try.ld130 Try.st130 Try.ld133 Try.st133 Try.ld140 Try.st140 Try.ld152 Try.st152 Try.ld39 Try.st39 Try.ld32 Try.st32 Try.ld41 Try.st41 Try.ld47 Try.st47 Try.ld57 Try.st57 Try.ld62 Try.st62 Try.ld76 Try.st76 Try.ld82 Try.st82 Try.ld86 Try.st86 Try.ld109 Try.st109 Try.ld115 Try.st115 Try.ld123 Try.st123 Try.ld135 Try.st135 Try.al39 Try.al32 Try.al41 Try.al47 Try.al57 Try.al62 Try.al76 Try.al82 Try.al86 Try.al109 Try.al115 Try.al123 Try.al135
attribute [local go_sem] Answer.length_enc Answer.ok_enc Answer.all_get Answer.all_set Answer.code_get Answer.code_set Answer.n_get Answer.n_set Answer.name_get Answer.name_set Answer.rows_get Answer.rows_set GOp.length_enc GOp.ok_enc GOp.all_get GOp.all_set GOp.kind_get GOp.kind_set GOp.rel_get GOp.rel_set GOp.mask_get GOp.mask_set GOp.t_get GOp.t_set GOp.n_get GOp.n_set GOp.name_get GOp.name_set Store.length_enc Store.ok_enc Store.all_get Store.all_set Store.names_get Store.names_set Store.rels_get Store.rels_set GRel.length_enc GRel.ok_enc GRel.all_get GRel.all_set GRel.arity_get GRel.arity_set GRel.masks_get GRel.masks_set GRel.rows_get GRel.rows_set Row.length_enc Row.ok_enc Row.all_get Row.all_set Row.t_get Row.t_set Row.mark_get Row.mark_set View.length_enc View.ok_enc View.all_get View.all_set View.names_get View.names_set View.rels_get View.rels_set Symtab.length_enc Symtab.ok_enc Symtab.all_get Symtab.all_set Symtab.names_get Symtab.names_set Symtab.table_get Symtab.table_set StoreTuplestore.length_enc StoreTuplestore.ok_enc StoreTuplestore.all_get StoreTuplestore.all_set StoreTuplestore.syms_get StoreTuplestore.syms_set StoreTuplestore.rels_get StoreTuplestore.rels_set StoreTuplestore.syms_names_get StoreTuplestore.syms_names_set StoreTuplestore.syms_table_get StoreTuplestore.syms_table_set Relation.length_enc Relation.ok_enc Relation.all_get Relation.all_set Relation.arity_get Relation.arity_set Relation.slots_get Relation.slots_set Relation.live_get Relation.live_set Relation.idx_get Relation.idx_set Slot.length_enc Slot.ok_enc Slot.all_get Slot.all_set Slot.t_get Slot.t_set Slot.mark_get Slot.mark_set Slot.live_get Slot.live_set RelView.length_enc RelView.ok_enc RelView.all_get RelView.all_set RelView.arity_get RelView.arity_set RelView.rows_get RelView.rows_set RelView.marks_get RelView.marks_set RelView.indexed_get RelView.indexed_set Index.length_enc Index.ok_enc Index.all_get Index.all_set Index.mask_get Index.mask_set Index.heads_get Index.heads_set Index.next_get Index.next_set
attribute [local go_sem] size_put size_ext blk_put free_put blk_alloc free_alloc blk_drew free_drew blk_ext free_ext lookOr_some putOr_some segAt_some cellAt_some storeIn_some put_put put_alloc_new length_arr ok_arr_u8 ok_arr_u32 ok_arr_u64 ok_arr_i64 ok_arr_sl cellsV_agg cellsV_int cellsV_bool cellsV_string cellsV_pointer cellsV_slice cellsV_sl ok_int ok_bool ok_string ok_pointer ok_slice ok_sl toList_arr seg_arr set_arr nth_splice nth_splice0 seg_splice seg_splice0 splice_splice splice_splice0 length_splice_if
attribute [local go_sem ↓] execOp_box
attribute [local go_sem] box_run nth_arr_u8 put_arr_u8 blk_drewN free_drewN put_drewN blk_raw free_raw
attribute [local go_sem] v_len v_ok v_n0 v_n1 v_s0 v_s1 v_all v_put b32_0 b32_c b32_n b32_cn b32_s b32_r b57
attribute [local go_sem ↓] execOp_build execOp_bslice
attribute [local go_sem] mr_len mr_ok mr_n0 mr_n1 mr_n2 mr_s1 mr_s2 mr_all mr_putz bslice45 bslice54
attribute [local go_sem] build39
def MPlay (B : Nat) (O : Own) (W : World) (bm : Nat) (sm : StS) (op : GOp) (e : Ending) (W' : World) : Prop := ∃ A : Answer, e = .returned (.agg A.enc.toArray) ∧ ∃ O' sm' ts, Fr isM O W O' W' ∧ MAt B O' W' bm sm' ∧ RowL W.heap.size O' .no W' 39 4 (Sl.val A.rows) ts.length (ts.flatMap tpl) ∧ PlayR sm op sm' A ts
theorem mplay_n {B : Nat} {O : Own} {W W1 V : World} {bm b4 : Nat} {sm sm' : StS} {op : GOp} {A : Answer} (hx : W.Extends W1) (h4 : W.heap.size ≤ b4) (h4' : b4 < W1.heap.size) (h : MOut B (lab O W.heap.size .no) W1 bm sm' V) (hA : A.rows = ⟨none, 0, 0⟩) (hP : PlayR sm op sm' A []) : MPlay B O W bm sm op (.returned (.agg A.enc.toArray)) (put V b4 A.enc) := by
  obtain ⟨O', hF, hM⟩ := mout_put hx h4 h4' h A.enc
  exact ⟨A, rfl, O', sm', [], hF, hM, by rw [hA]; exact RowL.nil _ _ _ _ _ _, hP⟩
theorem mplay_r {B : Nat} {O : Own} {W W1 V : World} {bm b4 : Nat} {sm : StS} {op : GOp} {c : Int} {a : Option Addr} {n k : Nat} {ts : List Tup} (hM : MAt B O W bm sm) (hx : W.Extends W1) (h4 : W.heap.size ≤ b4) (h4' : b4 < W1.heap.size) (hV : W1.Extends V) (hr : V.ownsRow W1.heap.size 39 4 (.slice a n k) ts.length (ts.flatMap tpl)) (hP : PlayR sm op sm ⟨c, 0, ByteArray.empty, ⟨a, n, k⟩⟩ ts) : MPlay B O W bm sm op (.returned (.agg (Answer.enc ⟨c, 0, ByteArray.empty, ⟨a, n, k⟩⟩).toArray)) (put V b4 (Answer.enc ⟨c, 0, ByteArray.empty, ⟨a, n, k⟩⟩)) := by
  have hxV := hx.trans hV
  have ho : lab O W.heap.size .no b4 = .no := lab_ge h4
  refine ⟨_, rfl, lab O W.heap.size .no, sm, ts, ?_, ?_, ⟨?_, fun x hx' => lab_ge (Nat.le_trans hx.size (row_at hr x hx').1)⟩, hP⟩
  · have h0 : Fr isM O W (lab O W.heap.size .no) V := ⟨hxV.os, hxV.tape, hxV.output, hxV.size, fun k hk => lab_lt hk, fun k hk _ => hxV.block k hk⟩
    exact h0.put_new h4 _
  · exact (hM.new hxV).keep (by rw [size_put]; exact Nat.le_refl _) (fun k hk hm => ⟨by rw [heap_put, if_neg (fun e => by rw [e, ho] at hm; obtain ⟨n, e⟩ := hm; cases e)], rfl⟩)
  · refine row_keep (row_base hr hx.size) (fun x hx' => ?_)
    have := (row_at hr x hx').1
    rw [heap_put, if_neg (by omega)]
theorem upd_self {sm : StS} {n : Nat} {s : RelS} (hs : sm.rels[n]? = some s) : Upd sm (n : Int) compP sm := by
  refine ⟨s, s, relF_some hs, ?_, rfl, rfl, rfl⟩
  have e : sm.rels.set n s = sm.rels := by
    apply List.ext_getElem?
    intro i
    rw [List.getElem?_set]
    by_cases h : n = i
    · subst h
      rw [if_pos rfl, if_pos (List.getElem?_eq_some_iff.1 hs).1, hs]
    · rw [if_neg h]
  rw [Int.toNat_natCast, e]
theorem find_at {L : List (Tup × Int)} (hN : (L.map (·.1)).Nodup) : ∀ {k : Nat} {r : Tup × Int}, L[k]? = some r → L.find? (fun x => decide (x.1 = r.1)) = some r := by
  induction L with
  | nil => intro k r h; simp at h
  | cons x L ih =>
    intro k r h
    rw [List.map_cons, List.nodup_cons] at hN
    cases k with
    | zero =>
      have e : x = r := by simpa using h
      rw [List.find?_cons_of_pos (by simp [e]), e]
    | succ k =>
      have hk : L[k]? = some r := by simpa using h
      have hne : ¬ x.1 = r.1 := fun e => hN.1 (by rw [e]; exact List.mem_map.2 ⟨r, List.mem_of_getElem? hk, rfl⟩)
      rw [List.find?_cons_of_neg (by simp [hne])]
      exact ih hN.2 hk
theorem hasIx_bad {sm : StS} {id m : Int} (h : colCode sm id m ≠ 0) : hasIxF sm id m = (false, colCode sm id m) := by unfold hasIxF; rw [if_neg h]
theorem hasIx_at {sm : StS} {n k : Nat} {s : RelS} (hs : sm.rels[n]? = some s) (h : colCode sm (n : Int) (k : Int) = 0) : hasIxF sm (n : Int) (k : Int) = (decide (k ∈ mk0 s), 0) := by
  unfold hasIxF masksS
  rw [if_pos h, relF_some hs, Int.toNat_natCast]
  congr 1
  by_cases hk : k = 0
  · subst hk
    have h0 : (0 : Nat) ∉ mk0 s := fun h => by unfold mk0 at h; rw [List.mem_filter] at h; simp at h
    rw [decide_eq_false h0]
    rfl
  · have hk' : ((k : Int) ≠ 0) := by omega
    rw [decide_eq_true hk', Bool.true_and]
    by_cases hm : k ∈ s.M
    · rw [decide_eq_true hm, decide_eq_true ((mem_mk0 hk).2 hm)]
    · rw [decide_eq_false hm, decide_eq_false (fun h => hm ((mem_mk0 hk).1 h))]
theorem contains_bad {sm : StS} {id : Int} {t : Tup} (h : rowCode sm id t ≠ 0) : containsF sm id t = (false, rowCode sm id t) := by unfold containsF; rw [if_neg h]
theorem contains_at {sm : StS} {n : Nat} {s : RelS} {t : Tup} (hs : sm.rels[n]? = some s) (h : rowCode sm (n : Int) t = 0) : containsF sm (n : Int) t = (decide (t ∈ (rowsOf s.L).map (·.1)), 0) := by
  unfold containsF rowsS
  rw [if_pos h, relF_some hs]
theorem mark_bad {sm : StS} {id : Int} {t : Tup} (h : rowCode sm id t ≠ 0) : markF sm id t = (0, rowCode sm id t) := by unfold markF; rw [if_neg h]
theorem mark_no {sm : StS} {n : Nat} {s : RelS} {t : Tup} (hs : sm.rels[n]? = some s) (h : rowCode sm (n : Int) t = 0) (hn : t ∉ (rowsOf s.L).map (·.1)) : markF sm (n : Int) t = (0, 2) := by
  unfold markF rowsS
  rw [if_pos h, relF_some hs, find_norow hn]
theorem mark_at {sm : StS} {n k : Nat} {s : RelS} {r : Tup × Int} (hs : sm.rels[n]? = some s) (h : rowCode sm (n : Int) r.1 = 0) (hN : ((rowsOf s.L).map (·.1)).Nodup) (hr : (rowsOf s.L)[k]? = some r) : markF sm (n : Int) r.1 = (r.2, 0) := by
  unfold markF rowsS
  rw [if_pos h, relF_some hs]
  dsimp only
  rw [find_at hN hr]
theorem whR_row {L : List (Tup × Int)} {t : Tup} (h : t ∈ L.map (·.1)) : ∃ (k : Nat) (r : Tup × Int), whR L t = (k : Int) ∧ L[k]? = some r ∧ r.1 = t := by
  obtain ⟨k, h1, h2⟩ := whR_pos h
  rw [List.getElem?_map] at h2
  cases hx : L[k]? with
  | none => rw [hx] at h2; cases h2
  | some r => rw [hx] at h2; exact ⟨k, r, h1, hx, Option.some.inj h2⟩
set_option maxRecDepth 20000 in
set_option maxHeartbeats 16000000 in
theorem mstep_any (B : Nat) (O : Own) (W : World) (bm : Nat) (sm : StS) (h : MAt B O W bm sm) (hm : MSm sm) (op : GOp) (hl : (nmO op).length ≤ 1000000) :
    Calls Try.prog 15 #[.pointer (some ⟨bm, 0, none⟩), .agg (GOp.enc op).toArray] W (MPlay B O W bm sm op) := by
  have HM := hid_of h
  have HSM := hid_of hm
  obtain ⟨kind, rel, mask, t, n0, name⟩ := op
  have hT0 : nth (GOp.enc ⟨kind, rel, mask, t, n0, name⟩) 3 = some (.int .i64 (tg t 0)) := by
    have := nth_in (j := 0) (GOp.t_get ⟨kind, rel, mask, t, n0, name⟩) (nth_t t 0 (by omega)) (by omega)
    exact this
  obtain ⟨nm, hnm⟩ : ∃ nm, nm = name.data.toList := ⟨_, rfl⟩
  have hns : name = ⟨nm.toArray⟩ := by rw [hnm, nm_str]
  have hl' : nm.length ≤ 1000000 := by rw [hnm]; exact hl
  have HNS : Hid (name = ⟨nm.toArray⟩) := hns
  have HNM : Hid (nmO ⟨kind, rel, mask, t, n0, name⟩ = nm) := hnm.symm
  obtain ⟨Q, hQ⟩ : ∃ Q, Q = MPlay B O W bm sm ⟨kind, rel, mask, t, n0, name⟩ := ⟨_, rfl⟩
  rw [← hQ]
  have HQ := hid_of hQ
  clear hl hnm hns hQ hm h
  go_enter Try.func15, Try.ntmps15
  go_upto_region 1 with fail
  refine wp_world (fun W1 => blk W1 W.heap.size = some (GOp.enc ⟨kind, rel, mask, t, n0, name⟩) ∧ blk W1 (W.heap.size + 1) = some (Answer.enc Answer.zero) ∧ free W1 (W.heap.size + 1) = true ∧ W.Extends W1) ⟨?_, ?_, ?_, extends_alloc (extends_alloc (ext_Ext (Ext.refl _)) _) _⟩ ?_
  · rw [blk_alloc, if_neg (by rw [World.size_alloc]; omega), blk_alloc, if_pos rfl]
  · rw [blk_alloc, if_pos (by rw [World.size_alloc])]
  · unfold free; rw [heap_alloc, if_pos (by rw [World.size_alloc])]; rfl
  rintro W1 ⟨hb3, hb4, hf4, hx1⟩
  obtain ⟨b4, e4⟩ : ∃ b4, b4 = W.heap.size + 1 := ⟨_, rfl⟩
  obtain ⟨b3, e3⟩ : ∃ b3, b3 = W.heap.size := ⟨_, rfl⟩
  try simp only [World.size_alloc]
  rw [← e4] at hb4 hf4 ⊢
  rw [← e3] at hb3 ⊢
  have hn4 : W.heap.size ≤ b4 := by omega
  have hn3 : W.heap.size ≤ b3 := by omega
  have hn4' := blk_lt hb4
  have nb43 : ¬ b4 = b3 := by omega
  have nb34 : ¬ b3 = b4 := by omega
  obtain ⟨O1, hO1⟩ : ∃ O1, O1 = lab O W.heap.size .no := ⟨_, rfl⟩
  have hM1 : MAt B O1 W1 bm sm := by rw [hO1]; exact HM.out.new hx1
  have HM1 := hid_of hM1
  have hob : O1 bm = .cl 0 := by obtain ⟨_, _, _, _, _, _, _, h⟩ := hM1; exact h.own
  have ho3 : O1 b3 = .no := by rw [hO1]; exact lab_ge hn3
  have nbm3 : ¬ b3 = bm := fun e => by rw [e, hob] at ho3; cases ho3
  have ho4 : O1 b4 = .no := by rw [hO1]; exact lab_ge hn4
  have nbm4 : ¬ bm = b4 := fun e => by rw [← e, hob] at ho4; cases ho4
  have HO4 := hid_of ho4
  have HO3 := hid_of ho3
  have HFN : Hid (∀ sm' V A, MOut B O1 W1 bm sm' V → A.rows = ⟨none, 0, 0⟩ → PlayR sm ⟨kind, rel, mask, t, n0, name⟩ sm' A [] → Q (.returned (.agg A.enc.toArray)) (put V b4 A.enc) ∧ blk V b4 = some (Answer.enc Answer.zero) ∧ free V b4 = true) := by
    intro sm' V A h hA hP
    rw [hO1] at h
    refine ⟨?_, mout_blk hn4 hb4 hf4 h⟩
    rw [HQ.out]
    exact mplay_n hx1 hn4 hn4' h hA hP
  have HFR : Hid (∀ V c a n k ts, MPr W1 c ts (.returned (.agg (Answer.enc ⟨c, 0, ByteArray.empty, ⟨a, n, k⟩⟩).toArray)) V → V.ownsRow W1.heap.size 39 4 (.slice a n k) ts.length (ts.flatMap tpl) → PlayR sm ⟨kind, rel, mask, t, n0, name⟩ sm ⟨c, 0, ByteArray.empty, ⟨a, n, k⟩⟩ ts → Q (.returned (.agg (Answer.enc ⟨c, 0, ByteArray.empty, ⟨a, n, k⟩⟩).toArray)) (put V b4 (Answer.enc ⟨c, 0, ByteArray.empty, ⟨a, n, k⟩⟩)) ∧ blk V b4 = some (Answer.enc Answer.zero) ∧ free V b4 = true) := by
    rintro V c a n k ts ⟨_, _, _, _, hV, _⟩ hr hP
    refine ⟨?_, (hV.blk hn4').trans hb4, (free_of_heap (hV.block b4 hn4')).trans hf4⟩
    rw [HQ.out]
    exact mplay_r HM.out hx1 hn4 hn4' hV hr hP
  clear e4 e3 hO1 hx1 hn4 hn3 hM1 hob ho3 hn4' ho4
  by_cases hk : kind = 0
  · subst hk
    have hcall := mintern_any B O1 W1 bm sm HM1.out HSM.out nm hl'
    obtain ⟨q, hq⟩ : ∃ q : Int × Int × List (List UInt8), q = internF sm.names nm := ⟨_, rfl⟩
    rw [← hq] at hcall
    have HQQ := hid_of hq
    clear hq
    rw [← HNS.out] at hcall
    go_wp2_with fail
    refine hcall.mono ?_
    rintro e V ⟨rfl, hout⟩
    obtain ⟨hq1, hbV, hfV⟩ := HFN.out ⟨q.2.2, sm.rels⟩ (V) (ans q.2.1 q.1) hout rfl (by rw [HQQ.out, ← HNM.out]; exact PlayR.intern rfl)
    have HP := hid_of hq1
    have HBC : Hid (blk (put (V) b4 (Answer.enc (ans q.2.1 q.1))) b4 = some (Answer.enc (ans q.2.1 q.1))) := by
      show blk _ _ = _
      rw [blk_put, if_pos rfl, hbV]; rfl
    clear hq1 HFN HFR
    clear hb4 hf4 hout
    dsimp only
    go_wp2_with fail
    try go_ret2
    refine ret_cell (C := Answer.enc (ans q.2.1 q.1)) rfl rfl HBC.out (by kernel_rfl) (by rw [Answer.length_enc]; kernel_rfl) rfl ?_
    exact HP.out
  have hk0 : (kind == 0) = false := by simp [hk]
  have HK0 := hid_of hk
  clear hk
  by_cases hk : kind = 1
  · subst hk
    have hcall := symOf_any B O1 W1 bm sm HM1.out HSM.out nm
    rw [← HNS.out] at hcall
    unfold lookupF at hcall
    cases hlk : lookF sm.names nm with
    | none =>
      rw [hlk] at hcall
      have hcall' : Calls Try.prog 45 #[.pointer (some ⟨bm, 0, none⟩), .string name] W1 fun e W' => e = .returned (.int .i64 (-1)) ∧ W' = W1 := hcall
      have hpr : PlayR sm ⟨1, rel, mask, t, n0, name⟩ sm (ans 2 (-1)) [] := by
        have e : lookupF sm.names (nmO ⟨1, rel, mask, t, n0, name⟩) = (-1, 2) := by rw [HNM.out]; unfold lookupF; rw [hlk]; rfl
        have h := PlayR.lookup (st := sm) (op := ⟨1, rel, mask, t, n0, name⟩) rfl
        rw [e] at h; exact h
      obtain ⟨hq1, hbV, hfV⟩ := HFN.out sm (W1) (ans 2 (-1)) (mout_same HM1.out (ext_Ext (Ext.refl _))) rfl hpr
      have HP := hid_of hq1
      have HBC : Hid (blk (put (W1) b4 (Answer.enc (ans 2 (-1)))) b4 = some (Answer.enc (ans 2 (-1)))) := by
        show blk _ _ = _
        rw [blk_put, if_pos rfl, hbV]; rfl
      clear hq1 HFN HFR
      clear hcall hlk hpr
      go_wp2_with fail
      refine hcall'.mono ?_
      rintro e V ⟨rfl, rfl⟩
      dsimp only
      go_wp2_with fail
      try go_ret2
      refine ret_cell (C := Answer.enc (ans 2 (-1))) rfl rfl HBC.out (by kernel_rfl) (by rw [Answer.length_enc]; kernel_rfl) rfl ?_
      exact HP.out
    | some j =>
      rw [hlk] at hcall
      have hcall' : Calls Try.prog 45 #[.pointer (some ⟨bm, 0, none⟩), .string name] W1 fun e W' => e = .returned (.int .i64 (j : Int)) ∧ W' = W1 := hcall
      have hpr : PlayR sm ⟨1, rel, mask, t, n0, name⟩ sm (ans 0 (j : Int)) [] := by
        have e : lookupF sm.names (nmO ⟨1, rel, mask, t, n0, name⟩) = ((j : Int), 0) := by rw [HNM.out]; unfold lookupF; rw [hlk]; rfl
        have h := PlayR.lookup (st := sm) (op := ⟨1, rel, mask, t, n0, name⟩) rfl
        rw [e] at h; exact h
      have hj0 : ¬ (j : Int) < 0 := by omega
      obtain ⟨hq1, hbV, hfV⟩ := HFN.out sm (W1) (ans 0 (j : Int)) (mout_same HM1.out (ext_Ext (Ext.refl _))) rfl hpr
      have HP := hid_of hq1
      have HBC : Hid (blk (put (W1) b4 (Answer.enc (ans 0 (j : Int)))) b4 = some (Answer.enc (ans 0 (j : Int)))) := by
        show blk _ _ = _
        rw [blk_put, if_pos rfl, hbV]; rfl
      clear hq1 HFN HFR
      clear hcall hlk hpr
      go_wp2_with fail
      refine hcall'.mono ?_
      rintro e V ⟨rfl, rfl⟩
      dsimp only
      go_wp2_with fail
      refine hcall'.mono ?_
      rintro e V ⟨rfl, rfl⟩
      dsimp only
      go_wp2_with fail
      try go_ret2
      refine ret_cell (C := Answer.enc (ans 0 (j : Int))) rfl rfl HBC.out (by kernel_rfl) (by rw [Answer.length_enc]; kernel_rfl) rfl ?_
      exact HP.out
  have hk1 : (kind == 1) = false := by simp [hk]
  have HK1 := hid_of hk
  clear hk
  by_cases hk : kind = 2
  · subst hk
    have hcall := symOK_any B O1 W1 bm sm HM1.out (tg t 0)
    obtain ⟨y, hy⟩ : ∃ y, y = tg t 0 := ⟨_, rfl⟩
    rw [← hy] at hcall hT0
    by_cases hkn : knowsF sm.names.length y = true
    rotate_left 1
    · rw [Bool.eq_false_iff.2 hkn] at hcall
      have hpr : PlayR sm ⟨2, rel, mask, t, n0, name⟩ sm (ans 10 0) [] := by
        have e : nameF sm.names (tg t 0) = ([], 10) := by
          unfold nameF
          rw [if_neg (fun h => hkn (by unfold knowsF; rw [hy, decide_eq_true h.1, decide_eq_true h.2]; rfl))]
        have h := PlayR.name (st := sm) (op := ⟨2, rel, mask, t, n0, name⟩) rfl
        dsimp only at h
        rw [e] at h; exact h
      obtain ⟨hq1, hbV, hfV⟩ := HFN.out sm (W1) (ans 10 0) (mout_same HM1.out (ext_Ext (Ext.refl _))) rfl hpr
      have HP := hid_of hq1
      have HBC : Hid (blk (put (W1) b4 (Answer.enc (ans 10 0))) b4 = some (Answer.enc (ans 10 0))) := by
        show blk _ _ = _
        rw [blk_put, if_pos rfl, hbV]; rfl
      clear hq1 HFN HFR
      clear hpr hy hkn
      go_wp2_with fail
      refine hcall.mono ?_
      rintro e V ⟨rfl, rfl⟩
      dsimp only
      go_wp2_with fail
      try go_ret2
      refine ret_cell (C := Answer.enc (ans 10 0)) rfl rfl HBC.out (by kernel_rfl) (by rw [Answer.length_enc]; kernel_rfl) rfl ?_
      exact HP.out
    have hyy : 0 ≤ y ∧ y < (sm.names.length : Int) := by
      unfold knowsF at hkn
      simp only [Bool.and_eq_true, decide_eq_true_eq] at hkn
      exact hkn
    rw [hkn] at hcall
    obtain ⟨j, hj⟩ : ∃ j : Nat, y = (j : Int) := ⟨y.toNat, by omega⟩
    obtain ⟨x, hx⟩ : ∃ x, sm.names[j]? = some x := ⟨_, List.getElem?_eq_getElem (by omega)⟩
    have hd1 : W1.Extends W1.drew := extends_drew (ext_Ext (Ext.refl _))
    obtain ⟨na, nn, nc, ra, rn, rc, hbm, hfm, hrn, hnn, hrw⟩ := mat_bad HM1.out
    obtain ⟨bn, Cn, rfl, hCn, hcn, hjn, un⟩ := rw_cell (v := .string ⟨x.toArray⟩) hrw hx rfl
    have hpr : PlayR sm ⟨2, rel, mask, t, n0, name⟩ sm ⟨0, 0, ⟨x.toArray⟩, ⟨none, 0, 0⟩⟩ [] := by
      have e : nameF sm.names (tg t 0) = (x, 0) := by
        unfold nameF
        rw [← hy, hj, if_pos ⟨by omega, by omega⟩, Int.toNat_natCast, List.getD_eq_getElem?_getD, hx]; rfl
      have h := PlayR.name (st := sm) (op := ⟨2, rel, mask, t, n0, name⟩) rfl
      dsimp only at h
      rw [e] at h; exact h
    obtain ⟨sv, hsv⟩ : ∃ sv : ByteArray, sv = ⟨x.toArray⟩ := ⟨_, rfl⟩
    rw [← hsv] at un hpr
    subst hj
    have j0 : (0 : Int) ≤ (j : Int) := by omega
    have j1 : (j : Int) < (nn : Int) := by omega
    have j2 : ((j : Int)).toNat = j := by omega
    have hMd := HM1.out.ext hd1
    have nbn4 : ¬ bn = b4 := by
      intro e
      obtain ⟨na', nn', nc', ra', rn', rc', R, hh⟩ := HM1.out
      have hc := hh.cell
      rw [hbm] at hc
      injection hc with hc
      have e2 : Value.slice (some ⟨bn, 0, none⟩) nn nc = .slice na' nn' nc' := by
        have := congrArg (fun l => nth l 0) hc
        simpa [vE, nth] using this
      injection e2 with e2
      have := hh.nms.2 bn (by rw [← e2]; rfl)
      rw [e, HO4.out] at this; cases this
    obtain ⟨hq1, hbV, hfV⟩ := HFN.out sm (W1.drew) (⟨0, 0, sv, ⟨none, 0, 0⟩⟩) (mout_same HM1.out hd1) rfl hpr
    have HP := hid_of hq1
    have HBC : Hid (blk (put (W1.drew) b4 (Answer.enc (⟨0, 0, sv, ⟨none, 0, 0⟩⟩))) b4 = some (Answer.enc (⟨0, 0, sv, ⟨none, 0, 0⟩⟩))) := by
      show blk _ _ = _
      rw [blk_put, if_pos rfl, hbV]; rfl
    clear hq1 HFN HFR
    have hS3 : blk W1.drew bm = some (vE (some ⟨bn, 0, none⟩) nn nc ra rn rc) ∧ blk W1.drew b3 = some (GOp.enc ⟨2, rel, mask, t, n0, name⟩) ∧ blk W1.drew bn = some Cn := ⟨hbm, hb3, hCn⟩
    have hSP : blk (put W1.drew b4 (Answer.enc ⟨0, 0, sv, ⟨none, 0, 0⟩⟩)) bm = some (vE (some ⟨bn, 0, none⟩) nn nc ra rn rc) ∧ blk (put W1.drew b4 (Answer.enc ⟨0, 0, sv, ⟨none, 0, 0⟩⟩)) b3 = some (GOp.enc ⟨2, rel, mask, t, n0, name⟩) ∧ blk (put W1.drew b4 (Answer.enc ⟨0, 0, sv, ⟨none, 0, 0⟩⟩)) bn = some Cn := ⟨by rw [blk_put, if_neg nbm4]; exact hbm, by rw [blk_put, if_neg nb34]; exact hb3, by rw [blk_put, if_neg nbn4]; exact hCn⟩
    clear hpr hy hkn hx hsv hMd hrw hnn hrn hyy hd1
    go_wp2_with fail
    refine hcall.mono ?_
    rintro e V ⟨rfl, rfl⟩
    clear hcall
    dsimp only
    go_upto_region 11 with fail
    refine wp_region_held_drew (S := fun W' => blk W' bm = some (vE (some ⟨bn, 0, none⟩) nn nc ra rn rc) ∧ blk W' b3 = some (GOp.enc ⟨2, rel, mask, t, n0, name⟩) ∧ blk W' bn = some Cn) (by kernel_rfl) ⟨hbm, hb3, hCn⟩ (fun hHeld => ?_)
    refine wpAnyH_take (i := 0) (oi := ⟨_, _, _, _, _, _⟩) (v := ?_) rfl (by kernel_rfl) (by kernel_rfl) (by kernel_rfl) (fun _ _ _ h => h) (Or.inl ⟨by rfl, ?_⟩) (by assumption) ?_
    rotate_left 1
    · intro W' hSw
      obtain ⟨hS1, hS2, hS3⟩ := hSw
      go_simp
      try with_reducible rfl
    try simp only [Act.put, List.setIfInBounds_toArray, List.set_cons_zero, List.set_cons_succ]
    refine wpAnyH_take (i := 1) (oi := ⟨_, _, _, _, _, _⟩) (v := ?_) rfl (by kernel_rfl) (by kernel_rfl) (by kernel_rfl) (fun _ _ _ h => h) (Or.inl ⟨by rfl, ?_⟩) (by assumption) ?_
    rotate_left 1
    · intro W' hSw
      obtain ⟨hS1, hS2, hS3⟩ := hSw
      go_simp
      try with_reducible rfl
    try simp only [Act.put, List.setIfInBounds_toArray, List.set_cons_zero, List.set_cons_succ]
    refine wpAnyH_take (i := 2) (oi := ⟨_, _, _, _, _, _⟩) (v := ?_) rfl (by kernel_rfl) (by kernel_rfl) (by kernel_rfl) (fun _ _ _ h => h) (Or.inl ⟨by rfl, ?_⟩) (by assumption) ?_
    rotate_left 1
    · intro W' hSw
      obtain ⟨hS1, hS2, hS3⟩ := hSw
      go_simp
      try with_reducible rfl
    try simp only [Act.put, List.setIfInBounds_toArray, List.set_cons_zero, List.set_cons_succ]
    refine wpAnyH_take (i := 3) (oi := ⟨_, _, _, _, _, _⟩) (v := ?_) rfl (by kernel_rfl) (by kernel_rfl) (by kernel_rfl) (fun _ _ _ h => h) (Or.inl ⟨by rfl, ?_⟩) (by assumption) ?_
    rotate_left 1
    · intro W' hSw
      obtain ⟨hS1, hS2, hS3⟩ := hSw
      go_simp
      try with_reducible rfl
    try simp only [Act.put, List.setIfInBounds_toArray, List.set_cons_zero, List.set_cons_succ]
    refine wpAnyH_take (i := 4) (oi := ⟨_, _, _, _, _, _⟩) (v := ?_) rfl (by kernel_rfl) (by kernel_rfl) (by kernel_rfl) (fun _ _ _ h => h) (Or.inl ⟨by rfl, ?_⟩) (by assumption) ?_
    rotate_left 1
    · intro W' hSw
      obtain ⟨hS1, hS2, hS3⟩ := hSw
      go_simp
      try with_reducible rfl
    try simp only [Act.put, List.setIfInBounds_toArray, List.set_cons_zero, List.set_cons_succ]
    refine wpAnyH_take (i := 5) (oi := ⟨_, _, _, _, _, _⟩) (v := ?_) rfl (by kernel_rfl) (by kernel_rfl) (by kernel_rfl) (fun _ _ _ h => h) (Or.inl ⟨by rfl, ?_⟩) (by assumption) ?_
    rotate_left 1
    · intro W' hSw
      obtain ⟨hS1, hS2, hS3⟩ := hSw
      go_simp
      try with_reducible rfl
    try simp only [Act.put, List.setIfInBounds_toArray, List.set_cons_zero, List.set_cons_succ]
    refine wpAnyH_take (i := 6) (oi := ⟨_, _, _, _, _, _⟩) (v := ?_) rfl (by kernel_rfl) (by kernel_rfl) (by kernel_rfl) (fun _ _ _ h => h) (Or.inl ⟨by rfl, ?_⟩) (by assumption) ?_
    rotate_left 1
    · intro W' hSw
      obtain ⟨hS1, hS2, hS3⟩ := hSw
      go_simp
      try with_reducible rfl
    try simp only [Act.put, List.setIfInBounds_toArray, List.set_cons_zero, List.set_cons_succ]
    refine wpAnyH_take (i := 7) (oi := ⟨_, _, _, _, _, _⟩) (v := ?_) rfl (by kernel_rfl) (by kernel_rfl) (by kernel_rfl) (fun _ _ _ h => h) (Or.inl ⟨by rfl, ?_⟩) (by assumption) ?_
    rotate_left 1
    · intro W' hSw
      obtain ⟨hS1, hS2, hS3⟩ := hSw
      go_simp
      try with_reducible rfl
    try simp only [Act.put, List.setIfInBounds_toArray, List.set_cons_zero, List.set_cons_succ]
    refine wpAnyH_take (i := 8) (oi := ⟨_, _, _, _, _, _⟩) (v := ?_) rfl (by kernel_rfl) (by kernel_rfl) (by kernel_rfl) (fun _ _ _ h => h) (Or.inl ⟨by rfl, ?_⟩) (by assumption) ?_
    rotate_left 1
    · intro W' hSw
      obtain ⟨hS1, hS2, hS3⟩ := hSw
      go_simp
      try with_reducible rfl
    try simp only [Act.put, List.setIfInBounds_toArray, List.set_cons_zero, List.set_cons_succ]
    refine wpAnyH_take (i := 9) (oi := ⟨_, _, _, _, _, _⟩) (v := ?_) rfl (by kernel_rfl) (by kernel_rfl) (by kernel_rfl) (fun _ _ _ h => h) (Or.inl ⟨by rfl, ?_⟩) (by assumption) ?_
    rotate_left 1
    · intro W' hSw
      obtain ⟨hS1, hS2, hS3⟩ := hSw
      go_simp
      try with_reducible rfl
    try simp only [Act.put, List.setIfInBounds_toArray, List.set_cons_zero, List.set_cons_succ]
    refine wpAnyH_ready (rs := [10]) (by kernel_rfl) (by simp) ?_
    refine AllReadyH.cons (o := ⟨_, _, _, _, _, _⟩) rfl (fun K' hK => ?_) AllReadyH.nil
    go_simp
    refine hK.out _ _ hSP (fun hHeld => ?_)
    clear hK K'
    try simp only [Act.put, List.setIfInBounds_toArray, List.set_cons_zero, List.set_cons_succ]
    refine wpAnyH_done (by kernel_rfl) ?_ _
    go_wp2_with fail
    try go_ret2
    refine ret_cell (C := Answer.enc (⟨0, 0, sv, ⟨none, 0, 0⟩⟩)) rfl rfl HBC.out (by kernel_rfl) (by rw [Answer.length_enc]; kernel_rfl) rfl ?_
    exact HP.out
  have hk2 : (kind == 2) = false := by simp [hk]
  have HK2 := hid_of hk
  clear hk
  by_cases hk : kind = 3
  · subst hk
    have hcall := mdefine_any B O1 W1 bm sm HM1.out HSM.out n0
    obtain ⟨q, hq⟩ : ∃ q : Int × Int × StS, q = defF sm n0 := ⟨_, rfl⟩
    rw [← hq] at hcall
    have HQQ := hid_of hq
    clear hq
    go_wp2_with fail
    refine hcall.mono ?_
    rintro e V ⟨rfl, hout⟩
    obtain ⟨hq1, hbV, hfV⟩ := HFN.out q.2.2 (V) (ans q.2.1 q.1) hout rfl (by rw [HQQ.out]; exact PlayR.define rfl)
    have HP := hid_of hq1
    have HBC : Hid (blk (put (V) b4 (Answer.enc (ans q.2.1 q.1))) b4 = some (Answer.enc (ans q.2.1 q.1))) := by
      show blk _ _ = _
      rw [blk_put, if_pos rfl, hbV]; rfl
    clear hq1 HFN HFR
    clear hb4 hf4 hout
    dsimp only
    go_wp2_with fail
    try go_ret2
    refine ret_cell (C := Answer.enc (ans q.2.1 q.1)) rfl rfl HBC.out (by kernel_rfl) (by rw [Answer.length_enc]; kernel_rfl) rfl ?_
    exact HP.out
  have hk3 : (kind == 3) = false := by simp [hk]
  have HK3 := hid_of hk
  clear hk
  by_cases hk : kind = 4
  · subst hk
    have hcall := mindex_any B O1 W1 bm sm HM1.out HSM.out rel mask
    obtain ⟨q, hq⟩ : ∃ q : Int, q = addIxF sm rel mask := ⟨_, rfl⟩
    rw [← hq] at hcall
    have HQQ := hid_of hq
    clear hq
    go_wp2_with fail
    refine hcall.mono ?_
    rintro e V ⟨rfl, sm', hout, hact⟩
    obtain ⟨hq1, hbV, hfV⟩ := HFN.out sm' (V) (ans q 0) hout rfl (by have h := hact; rw [HQQ.out] at h ⊢; exact PlayR.index rfl h)
    have HP := hid_of hq1
    have HBC : Hid (blk (put (V) b4 (Answer.enc (ans q 0))) b4 = some (Answer.enc (ans q 0))) := by
      show blk _ _ = _
      rw [blk_put, if_pos rfl, hbV]; rfl
    clear hq1 HFN HFR
    clear hb4 hf4 hout hact
    dsimp only
    go_wp2_with fail
    try go_ret2
    refine ret_cell (C := Answer.enc (ans q 0)) rfl rfl HBC.out (by kernel_rfl) (by rw [Answer.length_enc]; kernel_rfl) rfl ?_
    exact HP.out
  have hk4 : (kind == 4) = false := by simp [hk]
  have HK4 := hid_of hk
  clear hk
  by_cases hk : kind = 5
  · subst hk
    have hcall := checkMask_any B O1 W1 bm sm HM1.out HSM.out rel mask
    obtain ⟨cc, hcc⟩ : ∃ cc, cc = colCode sm rel mask := ⟨_, rfl⟩
    rw [← hcc] at hcall
    by_cases hc0 : cc = 0
    rotate_left 1
    · have hcb : (cc == 0) = false := by simp [hc0]
      have hcn : (cc != 0) = true := by simp [hc0]
      have hpr : PlayR sm ⟨5, rel, mask, t, n0, name⟩ sm (ans cc 0) [] := by
        have h := PlayR.hasIx (st := sm) (op := ⟨5, rel, mask, t, n0, name⟩) rfl
        dsimp only at h
        rw [hasIx_bad (by rw [← hcc]; exact hc0), ← hcc] at h; exact h
      obtain ⟨hq1, hbV, hfV⟩ := HFN.out sm (W1) (ans cc 0) (mout_same HM1.out (ext_Ext (Ext.refl _))) rfl hpr
      have HP := hid_of hq1
      have HBC : Hid (blk (put (W1) b4 (Answer.enc (ans cc 0))) b4 = some (Answer.enc (ans cc 0))) := by
        show blk _ _ = _
        rw [blk_put, if_pos rfl, hbV]; rfl
      clear hq1 HFN HFR
      clear hpr hcc
      go_wp2_with fail
      refine hcall.mono ?_
      rintro e V ⟨rfl, rfl⟩
      dsimp only
      go_wp2_with fail
      refine hcall.mono ?_
      rintro e V ⟨rfl, rfl⟩
      dsimp only
      go_wp2_with fail
      try go_ret2
      refine ret_cell (C := Answer.enc (ans cc 0)) rfl rfl HBC.out (by kernel_rfl) (by rw [Answer.length_enc]; kernel_rfl) rfl ?_
      exact HP.out
    subst hc0
    obtain ⟨n, s, k, rfl, hs, rfl, hk⟩ := col0 hcc.symm
    have hix := indexed_any B O1 W1 bm sm HM1.out HSM.out n s hs k
    have hpr := PlayR.hasIx (st := sm) (op := ⟨5, (n : Int), (k : Int), t, n0, name⟩) rfl
    dsimp only at hpr
    rw [hasIx_at hs hcc.symm] at hpr
    by_cases hin : k ∈ mk0 s
    · rw [decide_eq_true hin] at hix hpr
      have hpr' : PlayR sm ⟨5, (n : Int), (k : Int), t, n0, name⟩ sm (ans 0 1) [] := hpr
      obtain ⟨hq1, hbV, hfV⟩ := HFN.out sm (W1) (ans 0 1) (mout_same HM1.out (ext_Ext (Ext.refl _))) rfl hpr'
      have HP := hid_of hq1
      have HBC : Hid (blk (put (W1) b4 (Answer.enc (ans 0 1))) b4 = some (Answer.enc (ans 0 1))) := by
        show blk _ _ = _
        rw [blk_put, if_pos rfl, hbV]; rfl
      clear hq1 HFN HFR
      clear hpr hpr' hcc hin hs hk
      go_wp2_with fail
      refine hcall.mono ?_
      rintro e V ⟨rfl, rfl⟩
      dsimp only
      go_wp2_with fail
      refine hix.mono ?_
      rintro e V ⟨rfl, rfl⟩
      dsimp only
      go_wp2_with fail
      try go_ret2
      refine ret_cell (C := Answer.enc (ans 0 1)) rfl rfl HBC.out (by kernel_rfl) (by rw [Answer.length_enc]; kernel_rfl) rfl ?_
      exact HP.out
    · rw [decide_eq_false hin] at hix hpr
      have hpr' : PlayR sm ⟨5, (n : Int), (k : Int), t, n0, name⟩ sm (ans 0 0) [] := hpr
      obtain ⟨hq1, hbV, hfV⟩ := HFN.out sm (W1) (ans 0 0) (mout_same HM1.out (ext_Ext (Ext.refl _))) rfl hpr'
      have HP := hid_of hq1
      have HBC : Hid (blk (put (W1) b4 (Answer.enc (ans 0 0))) b4 = some (Answer.enc (ans 0 0))) := by
        show blk _ _ = _
        rw [blk_put, if_pos rfl, hbV]; rfl
      clear hq1 HFN HFR
      clear hpr hpr' hcc hin hs hk
      go_wp2_with fail
      refine hcall.mono ?_
      rintro e V ⟨rfl, rfl⟩
      dsimp only
      go_wp2_with fail
      refine hix.mono ?_
      rintro e V ⟨rfl, rfl⟩
      dsimp only
      go_wp2_with fail
      try go_ret2
      refine ret_cell (C := Answer.enc (ans 0 0)) rfl rfl HBC.out (by kernel_rfl) (by rw [Answer.length_enc]; kernel_rfl) rfl ?_
      exact HP.out
  have hk5 : (kind == 5) = false := by simp [hk]
  have HK5 := hid_of hk
  clear hk
  by_cases hk : kind = 6
  · subst hk
    have hcall := minsert_any B O1 W1 bm sm HM1.out HSM.out rel t
    obtain ⟨q, hq⟩ : ∃ q : Int, q = insF sm rel t := ⟨_, rfl⟩
    rw [← hq] at hcall
    have HQQ := hid_of hq
    clear hq
    go_wp2_with fail
    refine hcall.mono ?_
    rintro e V ⟨rfl, sm', hout, hact⟩
    obtain ⟨hq1, hbV, hfV⟩ := HFN.out sm' (V) (ans q 0) hout rfl (by have h := hact; rw [HQQ.out] at h ⊢; exact PlayR.insert rfl h)
    have HP := hid_of hq1
    have HBC : Hid (blk (put (V) b4 (Answer.enc (ans q 0))) b4 = some (Answer.enc (ans q 0))) := by
      show blk _ _ = _
      rw [blk_put, if_pos rfl, hbV]; rfl
    clear hq1 HFN HFR
    clear hb4 hf4 hout hact
    dsimp only
    go_wp2_with fail
    try go_ret2
    refine ret_cell (C := Answer.enc (ans q 0)) rfl rfl HBC.out (by kernel_rfl) (by rw [Answer.length_enc]; kernel_rfl) rfl ?_
    exact HP.out
  have hk6 : (kind == 6) = false := by simp [hk]
  have HK6 := hid_of hk
  clear hk
  by_cases hk : kind = 7
  · subst hk
    have hcall := mdelete_any B O1 W1 bm sm HM1.out HSM.out rel t
    obtain ⟨q, hq⟩ : ∃ q : Int, q = delF sm rel t := ⟨_, rfl⟩
    rw [← hq] at hcall
    have HQQ := hid_of hq
    clear hq
    go_wp2_with fail
    refine hcall.mono ?_
    rintro e V ⟨rfl, sm', hout, hact⟩
    obtain ⟨hq1, hbV, hfV⟩ := HFN.out sm' (V) (ans q 0) hout rfl (by have h := hact; rw [HQQ.out] at h ⊢; exact PlayR.delete rfl h)
    have HP := hid_of hq1
    have HBC : Hid (blk (put (V) b4 (Answer.enc (ans q 0))) b4 = some (Answer.enc (ans q 0))) := by
      show blk _ _ = _
      rw [blk_put, if_pos rfl, hbV]; rfl
    clear hq1 HFN HFR
    clear hb4 hf4 hout hact
    dsimp only
    go_wp2_with fail
    try go_ret2
    refine ret_cell (C := Answer.enc (ans q 0)) rfl rfl HBC.out (by kernel_rfl) (by rw [Answer.length_enc]; kernel_rfl) rfl ?_
    exact HP.out
  have hk7 : (kind == 7) = false := by simp [hk]
  have HK7 := hid_of hk
  clear hk
  by_cases hk : kind = 8
  · subst hk
    have hcall := checkRow_any B O1 W1 bm sm HM1.out HSM.out rel t
    obtain ⟨cc, hcc⟩ : ∃ cc, cc = rowCode sm rel t := ⟨_, rfl⟩
    rw [← hcc] at hcall
    have HCC := hid_of hcc
    clear hcc
    go_wp2_with fail
    refine hcall.mono ?_
    rintro e V1 ⟨rfl, hx1⟩
    have hb31 : blk V1 b3 = some (GOp.enc ⟨8, rel, mask, t, n0, name⟩) := (hx1.blk (blk_lt hb3)).trans hb3
    have HX1 := hid_of hx1
    have hM2 := HM1.out.ext hx1
    clear hcall hx1
    dsimp only
    by_cases hc0 : cc = 0
    rotate_left 1
    · have hcb : (cc == 0) = false := by simp [hc0]
      have hcn : (cc != 0) = true := by simp [hc0]
      have hcall := checkRow_any B O1 V1 bm sm hM2 HSM.out rel t
      rw [← HCC.out] at hcall
      have hpr : PlayR sm ⟨8, rel, mask, t, n0, name⟩ sm (ans cc 0) [] := by
        have h := PlayR.contains (st := sm) (op := ⟨8, rel, mask, t, n0, name⟩) rfl
        dsimp only at h
        rw [contains_bad (by rw [← HCC.out]; exact hc0), ← HCC.out] at h; exact h
      clear hM2
      go_wp2_with fail
      refine hcall.mono ?_
      rintro e V2 ⟨rfl, hx2⟩
      obtain ⟨hq1, hbV, hfV⟩ := HFN.out sm (V2) (ans cc 0) (mout_same HM1.out (HX1.out.trans hx2)) rfl hpr
      have HP := hid_of hq1
      have HBC : Hid (blk (put (V2) b4 (Answer.enc (ans cc 0))) b4 = some (Answer.enc (ans cc 0))) := by
        show blk _ _ = _
        rw [blk_put, if_pos rfl, hbV]; rfl
      clear hq1 HFN HFR
      clear hpr hx2 hcall
      dsimp only
      go_wp2_with fail
      try go_ret2
      refine ret_cell (C := Answer.enc (ans cc 0)) rfl rfl HBC.out (by kernel_rfl) (by rw [Answer.length_enc]; kernel_rfl) rfl ?_
      exact HP.out
    subst hc0
    obtain ⟨n, s, rfl, hs⟩ := row0 HCC.out.symm
    have hwh := where_any B O1 V1 bm sm hM2 HSM.out n s hs t
    have hpr := PlayR.contains (st := sm) (op := ⟨8, (n : Int), mask, t, n0, name⟩) rfl
    dsimp only at hpr
    rw [contains_at hs HCC.out.symm] at hpr
    by_cases hin : t ∈ (rowsOf s.L).map (·.1)
    · rw [decide_eq_true hin] at hpr
      have hpr' : PlayR sm ⟨8, (n : Int), mask, t, n0, name⟩ sm (ans 0 1) [] := hpr
      obtain ⟨k, hk, _⟩ := whR_pos hin
      rw [hk] at hwh
      have hk0 : (0 : Int) ≤ (k : Int) := by omega
      clear hM2 hpr hin hs hk
      go_wp2_with fail
      refine hwh.mono ?_
      rintro e V2 ⟨rfl, hx2⟩
      obtain ⟨hq1, hbV, hfV⟩ := HFN.out sm (V2) (ans 0 1) (mout_same HM1.out (HX1.out.trans hx2)) rfl hpr'
      have HP := hid_of hq1
      have HBC : Hid (blk (put (V2) b4 (Answer.enc (ans 0 1))) b4 = some (Answer.enc (ans 0 1))) := by
        show blk _ _ = _
        rw [blk_put, if_pos rfl, hbV]; rfl
      clear hq1 HFN HFR
      clear hpr' hx2 hwh
      dsimp only
      go_wp2_with fail
      try go_ret2
      refine ret_cell (C := Answer.enc (ans 0 1)) rfl rfl HBC.out (by kernel_rfl) (by rw [Answer.length_enc]; kernel_rfl) rfl ?_
      exact HP.out
    · rw [decide_eq_false hin] at hpr
      have hpr' : PlayR sm ⟨8, (n : Int), mask, t, n0, name⟩ sm (ans 0 0) [] := hpr
      rw [whR_neg hin] at hwh
      clear hM2 hpr hin hs
      go_wp2_with fail
      refine hwh.mono ?_
      rintro e V2 ⟨rfl, hx2⟩
      obtain ⟨hq1, hbV, hfV⟩ := HFN.out sm (V2) (ans 0 0) (mout_same HM1.out (HX1.out.trans hx2)) rfl hpr'
      have HP := hid_of hq1
      have HBC : Hid (blk (put (V2) b4 (Answer.enc (ans 0 0))) b4 = some (Answer.enc (ans 0 0))) := by
        show blk _ _ = _
        rw [blk_put, if_pos rfl, hbV]; rfl
      clear hq1 HFN HFR
      clear hpr' hx2 hwh
      dsimp only
      go_wp2_with fail
      try go_ret2
      refine ret_cell (C := Answer.enc (ans 0 0)) rfl rfl HBC.out (by kernel_rfl) (by rw [Answer.length_enc]; kernel_rfl) rfl ?_
      exact HP.out
  have hk8 : (kind == 8) = false := by simp [hk]
  have HK8 := hid_of hk
  clear hk
  by_cases hk : kind = 9
  · subst hk
    have hcall := mprobe_any B O1 W1 bm sm HM1.out HSM.out rel mask t
    obtain ⟨q, hq⟩ : ∃ q : Int, q = probeCode sm rel mask t := ⟨_, rfl⟩
    rw [← hq] at hcall
    have HQQ := hid_of hq
    obtain ⟨ts, hts⟩ : ∃ ts, ts = probeR sm rel mask t := ⟨_, rfl⟩
    rw [← hts] at hcall
    have HTS := hid_of hts
    clear hq hts
    go_wp2_with fail
    refine hcall.mono ?_
    rintro e V ⟨a, m, cp, rfl, hxV, hrow⟩
    obtain ⟨hq1, hbV, hfV⟩ := HFR.out (V) q a m cp _ ⟨a, m, cp, rfl, hxV, hrow⟩ hrow (by rw [HQQ.out]; exact PlayR.probe rfl _ (by rw [HTS.out]))
    have HP := hid_of hq1
    have HBC : Hid (blk (put (V) b4 (Answer.enc (⟨q, 0, ByteArray.empty, ⟨a, m, cp⟩⟩))) b4 = some (Answer.enc (⟨q, 0, ByteArray.empty, ⟨a, m, cp⟩⟩))) := by
      show blk _ _ = _
      rw [blk_put, if_pos rfl, hbV]; rfl
    clear hq1 HFN HFR
    clear hcall hxV hrow
    dsimp only
    go_wp2_with fail
    try go_ret2
    refine ret_cell (C := Answer.enc (⟨q, 0, ByteArray.empty, ⟨a, m, cp⟩⟩)) rfl rfl HBC.out (by kernel_rfl) (by rw [Answer.length_enc]; kernel_rfl) rfl ?_
    exact HP.out
  have hk9 : (kind == 9) = false := by simp [hk]
  have HK9 := hid_of hk
  clear hk
  by_cases hk : kind = 10
  · subst hk
    by_cases hid : 0 ≤ rel ∧ rel < (sm.rels.length : Int)
    rotate_left 1
    · have hcall := mrel_no HM1.out hid
      have e : relCode sm rel = 7 := by unfold relCode; rw [relF_none hid]
      have hpr : PlayR sm ⟨10, rel, mask, t, n0, name⟩ sm (ans 7 0) [] := by
        have h := PlayR.compact (st := sm) (op := ⟨10, rel, mask, t, n0, name⟩) rfl (st' := sm) (by dsimp only; rw [e]; exact ⟨fun _ => rfl, fun h => absurd h (by decide)⟩)
        dsimp only at h
        rw [e] at h; exact h
      obtain ⟨hq1, hbV, hfV⟩ := HFN.out sm (W1) (ans 7 0) (mout_same HM1.out (ext_Ext (Ext.refl _))) rfl hpr
      have HP := hid_of hq1
      have HBC : Hid (blk (put (W1) b4 (Answer.enc (ans 7 0))) b4 = some (Answer.enc (ans 7 0))) := by
        show blk _ _ = _
        rw [blk_put, if_pos rfl, hbV]; rfl
      clear hq1 HFN HFR
      clear hpr e hid
      go_wp2_with fail
      refine hcall.mono ?_
      rintro e V ⟨rfl, rfl⟩
      dsimp only
      go_wp2_with fail
      try go_ret2
      refine ret_cell (C := Answer.enc (ans 7 0)) rfl rfl HBC.out (by kernel_rfl) (by rw [Answer.length_enc]; kernel_rfl) rfl ?_
      exact HP.out
    have hcall := mrel_ok HM1.out hid
    obtain ⟨n, rfl⟩ : ∃ n : Nat, rel = (n : Int) := ⟨rel.toNat, by omega⟩
    obtain ⟨s, hs⟩ : ∃ s, sm.rels[n]? = some s := ⟨_, List.getElem?_eq_getElem (by omega)⟩
    have e0 : relCode sm (n : Int) = 0 := by unfold relCode; rw [relF_some hs]
    have hpr : PlayR sm ⟨10, (n : Int), mask, t, n0, name⟩ sm (ans 0 0) [] := by
      have h := PlayR.compact (st := sm) (op := ⟨10, (n : Int), mask, t, n0, name⟩) rfl (st' := sm) ⟨fun _ => rfl, fun _ => upd_self hs⟩
      dsimp only at h
      rw [e0] at h; exact h
    obtain ⟨hq1, hbV, hfV⟩ := HFN.out sm (W1) (ans 0 0) (mout_same HM1.out (ext_Ext (Ext.refl _))) rfl hpr
    have HP := hid_of hq1
    have HBC : Hid (blk (put (W1) b4 (Answer.enc (ans 0 0))) b4 = some (Answer.enc (ans 0 0))) := by
      show blk _ _ = _
      rw [blk_put, if_pos rfl, hbV]; rfl
    clear hq1 HFN HFR
    clear hpr hs hid e0
    go_wp2_with fail
    refine hcall.mono ?_
    rintro e V ⟨rfl, rfl⟩
    dsimp only
    go_wp2_with fail
    try go_ret2
    refine ret_cell (C := Answer.enc (ans 0 0)) rfl rfl HBC.out (by kernel_rfl) (by rw [Answer.length_enc]; kernel_rfl) rfl ?_
    exact HP.out
  have hk10 : (kind == 10) = false := by simp [hk]
  have HK10 := hid_of hk
  clear hk
  by_cases hk : kind = 11
  · subst hk
    by_cases hid : 0 ≤ rel ∧ rel < (sm.rels.length : Int)
    rotate_left 1
    · have hcall := mrel_no HM1.out hid
      have e : relCode sm rel = 7 := by unfold relCode; rw [relF_none hid]
      have hpr : PlayR sm ⟨11, rel, mask, t, n0, name⟩ sm (ans 7 0) [] := by
        have h := PlayR.clear (st := sm) (op := ⟨11, rel, mask, t, n0, name⟩) rfl (st' := sm) (by dsimp only; rw [e]; exact ⟨fun _ => rfl, fun h => absurd h (by decide)⟩)
        dsimp only at h
        rw [e] at h; exact h
      obtain ⟨hq1, hbV, hfV⟩ := HFN.out sm (W1) (ans 7 0) (mout_same HM1.out (ext_Ext (Ext.refl _))) rfl hpr
      have HP := hid_of hq1
      have HBC : Hid (blk (put (W1) b4 (Answer.enc (ans 7 0))) b4 = some (Answer.enc (ans 7 0))) := by
        show blk _ _ = _
        rw [blk_put, if_pos rfl, hbV]; rfl
      clear hq1 HFN HFR
      clear hpr e hid
      go_wp2_with fail
      refine hcall.mono ?_
      rintro e V ⟨rfl, rfl⟩
      dsimp only
      go_wp2_with fail
      try go_ret2
      refine ret_cell (C := Answer.enc (ans 7 0)) rfl rfl HBC.out (by kernel_rfl) (by rw [Answer.length_enc]; kernel_rfl) rfl ?_
      exact HP.out
    have hcall := mrel_ok HM1.out hid
    obtain ⟨n, rfl⟩ : ∃ n : Nat, rel = (n : Int) := ⟨rel.toNat, by omega⟩
    obtain ⟨s, hs⟩ : ∃ s, sm.rels[n]? = some s := ⟨_, List.getElem?_eq_getElem (by omega)⟩
    have e0 : relCode sm (n : Int) = 0 := by unfold relCode; rw [relF_some hs]
    have hpr : PlayR sm ⟨11, (n : Int), mask, t, n0, name⟩ ⟨sm.names, sm.rels.set n ⟨s.ar, [], s.M⟩⟩ (ans 0 0) [] := by
      have h := PlayR.clear (st := sm) (op := ⟨11, (n : Int), mask, t, n0, name⟩) rfl (st' := ⟨sm.names, sm.rels.set n ⟨s.ar, [], s.M⟩⟩) ⟨fun h => absurd e0 h, fun _ => upd_mk hs rfl ⟨rfl, rfl⟩⟩
      dsimp only at h
      rw [e0] at h; exact h
    have hd1 : W1.Extends W1.drew := extends_drew (ext_Ext (Ext.refl _))
    obtain ⟨na, nn, nc, gr, rn, rc, Cr, ka, kn, kc, wa, wn, wc, ho, hB1, hok, hput, _, _⟩ := mat_put (HM1.out.ext hd1) hs
    have hngb := opm_ne ho
    have hog := mat_gr (HM1.out.ext hd1) ho
    have nbg3 : ¬ b3 = gr := fun e => by rw [← e, HO3.out] at hog; cases hog
    obtain ⟨hbm2, hgr2, hgf2, hout⟩ := hput O1 W1.drew none 0 0 ⟨s.ar, [], s.M⟩ (Fr.refl _ _ _) (RowL.nil _ _ _ _ _ _) rfl rfl
    obtain ⟨hbm, hnn, hrn, hn, hC, hl, c0, c1, c2, _, hw⟩ := ho
    have hbm' : blk W1 bm = some (vE na nn nc (some ⟨gr, 0, none⟩) rn rc) := hbm
    have d1 : n * 3 + 2 + 1 ≤ Cr.length := by omega
    have d2 : n * 3 < Cr.length := by omega
    have q0 : (0 : Int) ≤ (n : Int) := by omega
    have q1 : (n : Int) < (rn : Int) := by omega
    have q2 : ((n : Int)).toNat = n := by omega
    obtain ⟨hq1, hbV, hfV⟩ := HFN.out _ (put W1.drew gr (splice Cr (n * 3 + 2) [.slice none 0 0])) (ans 0 0) (hout.bef hd1) rfl hpr
    have HP := hid_of hq1
    have HBC : Hid (blk (put (put W1.drew gr (splice Cr (n * 3 + 2) [.slice none 0 0])) b4 (Answer.enc (ans 0 0))) b4 = some (Answer.enc (ans 0 0))) := by
      show blk _ _ = _
      rw [blk_put, if_pos rfl, hbV]; rfl
    clear hq1 HFN HFR
    have hSP : blk (put W1.drew gr (splice Cr (n * 3 + 2) [.slice none 0 0])) bm = some (vE na nn nc (some ⟨gr, 0, none⟩) rn rc) ∧ blk (put W1.drew gr (splice Cr (n * 3 + 2) [.slice none 0 0])) b3 = some (GOp.enc ⟨11, (n : Int), mask, t, n0, name⟩) := ⟨by rw [blk_put, if_neg hngb]; exact hbm2, by rw [blk_put, if_neg nbg3]; exact hb3⟩
    clear hpr hs hid e0 hnn hrn hn c0 c1 c2 hw hl hok hput hout hd1 hog
    go_wp2_with fail
    refine hcall.mono ?_
    rintro e V ⟨rfl, rfl⟩
    clear hcall
    dsimp only
    go_upto_region 41 with fail
    refine wp_region_held_drew (S := fun W' => blk W' bm = some (vE na nn nc (some ⟨gr, 0, none⟩) rn rc) ∧ blk W' b3 = some (GOp.enc ⟨11, (n : Int), mask, t, n0, name⟩)) (by kernel_rfl) ⟨hbm', hb3⟩ (fun hHeld => ?_)
    refine wpAnyH_take (i := 0) (oi := ⟨_, _, _, _, _, _⟩) (v := ?_) rfl (by kernel_rfl) (by kernel_rfl) (by kernel_rfl) (fun _ _ _ h => h) (Or.inl ⟨by rfl, ?_⟩) (by assumption) ?_
    rotate_left 1
    · intro W' hSw
      obtain ⟨hS1, hS2⟩ := hSw
      go_simp
      try with_reducible rfl
    try simp only [Act.put, List.setIfInBounds_toArray, List.set_cons_zero, List.set_cons_succ]
    refine wpAnyH_take (i := 1) (oi := ⟨_, _, _, _, _, _⟩) (v := ?_) rfl (by kernel_rfl) (by kernel_rfl) (by kernel_rfl) (fun _ _ _ h => h) (Or.inl ⟨by rfl, ?_⟩) (by assumption) ?_
    rotate_left 1
    · intro W' hSw
      obtain ⟨hS1, hS2⟩ := hSw
      go_simp
      try with_reducible rfl
    try simp only [Act.put, List.setIfInBounds_toArray, List.set_cons_zero, List.set_cons_succ]
    refine wpAnyH_take (i := 2) (oi := ⟨_, _, _, _, _, _⟩) (v := ?_) rfl (by kernel_rfl) (by kernel_rfl) (by kernel_rfl) (fun _ _ _ h => h) (Or.inl ⟨by rfl, ?_⟩) (by assumption) ?_
    rotate_left 1
    · intro W' hSw
      obtain ⟨hS1, hS2⟩ := hSw
      go_simp
      try with_reducible rfl
    try simp only [Act.put, List.setIfInBounds_toArray, List.set_cons_zero, List.set_cons_succ]
    refine wpAnyH_take (i := 3) (oi := ⟨_, _, _, _, _, _⟩) (v := ?_) rfl (by kernel_rfl) (by kernel_rfl) (by kernel_rfl) (fun _ _ _ h => h) (Or.inl ⟨by rfl, ?_⟩) (by assumption) ?_
    rotate_left 1
    · intro W' hSw
      obtain ⟨hS1, hS2⟩ := hSw
      go_simp
      try with_reducible rfl
    try simp only [Act.put, List.setIfInBounds_toArray, List.set_cons_zero, List.set_cons_succ]
    refine wpAnyH_take (i := 4) (oi := ⟨_, _, _, _, _, _⟩) (v := ?_) rfl (by kernel_rfl) (by kernel_rfl) (by kernel_rfl) (fun _ _ _ h => h) (Or.inl ⟨by rfl, ?_⟩) (by assumption) ?_
    rotate_left 1
    · intro W' hSw
      obtain ⟨hS1, hS2⟩ := hSw
      go_simp
      try with_reducible rfl
    try simp only [Act.put, List.setIfInBounds_toArray, List.set_cons_zero, List.set_cons_succ]
    refine wpAnyH_take (i := 5) (oi := ⟨_, _, _, _, _, _⟩) (v := ?_) rfl (by kernel_rfl) (by kernel_rfl) (by kernel_rfl) (fun _ _ _ h => h) (Or.inl ⟨by rfl, ?_⟩) (by assumption) ?_
    rotate_left 1
    · intro W' hSw
      obtain ⟨hS1, hS2⟩ := hSw
      go_simp
      try with_reducible rfl
    try simp only [Act.put, List.setIfInBounds_toArray, List.set_cons_zero, List.set_cons_succ]
    refine wpAnyH_take (i := 6) (oi := ⟨_, _, _, _, _, _⟩) (v := ?_) rfl (by kernel_rfl) (by kernel_rfl) (by kernel_rfl) (fun _ _ _ h => h) (Or.inl ⟨by rfl, ?_⟩) (by assumption) ?_
    rotate_left 1
    · intro W' hSw
      obtain ⟨hS1, hS2⟩ := hSw
      go_simp
      try with_reducible rfl
    try simp only [Act.put, List.setIfInBounds_toArray, List.set_cons_zero, List.set_cons_succ]
    refine wpAnyH_take (i := 7) (oi := ⟨_, _, _, _, _, _⟩) (v := ?_) rfl (by kernel_rfl) (by kernel_rfl) (by kernel_rfl) (fun _ _ _ h => h) (Or.inl ⟨by rfl, ?_⟩) (by assumption) ?_
    rotate_left 1
    · intro W' hSw
      obtain ⟨hS1, hS2⟩ := hSw
      go_simp
      try with_reducible rfl
    try simp only [Act.put, List.setIfInBounds_toArray, List.set_cons_zero, List.set_cons_succ]
    refine wpAnyH_ready (rs := [8]) (by kernel_rfl) (by simp) ?_
    refine AllReadyH.cons (o := ⟨_, _, _, _, _, _⟩) rfl (fun K' hK => ?_) AllReadyH.nil
    go_simp
    refine hK.out _ _ hSP (fun hHeld => ?_)
    clear hK K'
    try simp only [Act.put, List.setIfInBounds_toArray, List.set_cons_zero, List.set_cons_succ]
    refine wpAnyH_done (by kernel_rfl) ?_ _
    obtain ⟨V4, hV4⟩ : ∃ V4, V4 = put V.drew gr (splice Cr (n * 3 + 2) [.slice none 0 0]) := ⟨_, rfl⟩
    rw [← hV4] at hbV hfV HBC HP ⊢
    clear hV4 hSP
    go_wp2_with fail
    try go_ret2
    refine ret_cell (C := Answer.enc (ans 0 0)) rfl rfl HBC.out (by kernel_rfl) (by rw [Answer.length_enc]; kernel_rfl) rfl ?_
    exact HP.out
  have hk11 : (kind == 11) = false := by simp [hk]
  have HK11 := hid_of hk
  clear hk
  by_cases hk : kind = 12
  · subst hk
    have hcall := msetMark_any B O1 W1 bm sm HM1.out HSM.out rel t n0
    obtain ⟨q, hq⟩ : ∃ q : Int, q = setF sm rel t n0 := ⟨_, rfl⟩
    rw [← hq] at hcall
    have HQQ := hid_of hq
    clear hq
    go_wp2_with fail
    refine hcall.mono ?_
    rintro e V ⟨rfl, sm', hout, hact⟩
    obtain ⟨hq1, hbV, hfV⟩ := HFN.out sm' (V) (ans q 0) hout rfl (by have h := hact; rw [HQQ.out] at h ⊢; exact PlayR.setMark rfl h)
    have HP := hid_of hq1
    have HBC : Hid (blk (put (V) b4 (Answer.enc (ans q 0))) b4 = some (Answer.enc (ans q 0))) := by
      show blk _ _ = _
      rw [blk_put, if_pos rfl, hbV]; rfl
    clear hq1 HFN HFR
    clear hb4 hf4 hout hact
    dsimp only
    go_wp2_with fail
    try go_ret2
    refine ret_cell (C := Answer.enc (ans q 0)) rfl rfl HBC.out (by kernel_rfl) (by rw [Answer.length_enc]; kernel_rfl) rfl ?_
    exact HP.out
  have hk12 : (kind == 12) = false := by simp [hk]
  have HK12 := hid_of hk
  clear hk
  by_cases hk : kind = 13
  · subst hk
    have hcall := checkRow_any B O1 W1 bm sm HM1.out HSM.out rel t
    obtain ⟨cc, hcc⟩ : ∃ cc, cc = rowCode sm rel t := ⟨_, rfl⟩
    rw [← hcc] at hcall
    have HCC := hid_of hcc
    clear hcc
    go_wp2_with fail
    refine hcall.mono ?_
    rintro e V1 ⟨rfl, hx1⟩
    have hb31 : blk V1 b3 = some (GOp.enc ⟨13, rel, mask, t, n0, name⟩) := (hx1.blk (blk_lt hb3)).trans hb3
    have HX1 := hid_of hx1
    have hM2 := HM1.out.ext hx1
    clear hcall hx1
    dsimp only
    by_cases hc0 : cc = 0
    rotate_left 1
    · have hcb : (cc == 0) = false := by simp [hc0]
      have hcn : (cc != 0) = true := by simp [hc0]
      have hcall := checkRow_any B O1 V1 bm sm hM2 HSM.out rel t
      rw [← HCC.out] at hcall
      have hpr : PlayR sm ⟨13, rel, mask, t, n0, name⟩ sm (ans cc 0) [] := by
        have h := PlayR.mark (st := sm) (op := ⟨13, rel, mask, t, n0, name⟩) rfl
        dsimp only at h
        rw [mark_bad (by rw [← HCC.out]; exact hc0), ← HCC.out] at h; exact h
      clear hM2
      go_wp2_with fail
      refine hcall.mono ?_
      rintro e V2 ⟨rfl, hx2⟩
      obtain ⟨hq1, hbV, hfV⟩ := HFN.out sm (V2) (ans cc 0) (mout_same HM1.out (HX1.out.trans hx2)) rfl hpr
      have HP := hid_of hq1
      have HBC : Hid (blk (put (V2) b4 (Answer.enc (ans cc 0))) b4 = some (Answer.enc (ans cc 0))) := by
        show blk _ _ = _
        rw [blk_put, if_pos rfl, hbV]; rfl
      clear hq1 HFN HFR
      clear hpr hx2 hcall
      dsimp only
      go_wp2_with fail
      try go_ret2
      refine ret_cell (C := Answer.enc (ans cc 0)) rfl rfl HBC.out (by kernel_rfl) (by rw [Answer.length_enc]; kernel_rfl) rfl ?_
      exact HP.out
    subst hc0
    obtain ⟨n, s, rfl, hs⟩ := row0 HCC.out.symm
    have hwh := where_any B O1 V1 bm sm hM2 HSM.out n s hs t
    by_cases hin : t ∈ (rowsOf s.L).map (·.1)
    rotate_left 1
    · have hpr := PlayR.mark (st := sm) (op := ⟨13, (n : Int), mask, t, n0, name⟩) rfl
      dsimp only at hpr
      rw [mark_no hs HCC.out.symm hin] at hpr
      have hpr' : PlayR sm ⟨13, (n : Int), mask, t, n0, name⟩ sm (ans 2 0) [] := hpr
      rw [whR_neg hin] at hwh
      clear hM2 hpr hin hs
      go_wp2_with fail
      refine hwh.mono ?_
      rintro e V2 ⟨rfl, hx2⟩
      obtain ⟨hq1, hbV, hfV⟩ := HFN.out sm (V2) (ans 2 0) (mout_same HM1.out (HX1.out.trans hx2)) rfl hpr'
      have HP := hid_of hq1
      have HBC : Hid (blk (put (V2) b4 (Answer.enc (ans 2 0))) b4 = some (Answer.enc (ans 2 0))) := by
        show blk _ _ = _
        rw [blk_put, if_pos rfl, hbV]; rfl
      clear hq1 HFN HFR
      clear hpr' hx2 hwh
      dsimp only
      go_wp2_with fail
      try go_ret2
      refine ret_cell (C := Answer.enc (ans 2 0)) rfl rfl HBC.out (by kernel_rfl) (by rw [Answer.length_enc]; kernel_rfl) rfl ?_
      exact HP.out
    obtain ⟨k, r, hk, hr, hrt⟩ := whR_row hin
    rw [hk] at hwh
    have hk0 : ¬ (k : Int) < 0 := by omega
    have HWK := hid_of hk
    have hsm := HSM.out.rel s (List.mem_of_getElem? hs)
    have hpr := PlayR.mark (st := sm) (op := ⟨13, (n : Int), mask, t, n0, name⟩) rfl
    dsimp only at hpr
    rw [← hrt, mark_at hs (by rw [hrt]; exact HCC.out.symm) hsm.2.2.2 hr, hrt] at hpr
    obtain ⟨xm, hxm⟩ : ∃ xm, xm = r.2 := ⟨_, rfl⟩
    rw [← hxm] at hpr
    have hpr' : PlayR sm ⟨13, (n : Int), mask, t, n0, name⟩ sm (ans 0 xm) [] := hpr
    have HPR := hid_of hpr'
    have HS := hid_of hs
    have HR := hid_of hr
    have HXM := hid_of hxm
    clear hpr hpr' hs hr hxm hin hk hsm hrt hM2
    go_wp2_with fail
    refine hwh.mono ?_
    rintro e V2 ⟨rfl, hx2⟩
    have hb32 : blk V2 b3 = some (GOp.enc ⟨13, (n : Int), mask, t, n0, name⟩) := (hx2.blk (blk_lt hb31)).trans hb31
    have HXV2 := hid_of (HX1.out.trans hx2)
    clear hwh hx2 hb31
    dsimp only
    have hM2 := HM1.out.ext HXV2.out
    obtain ⟨na, nn, nc, gr, rn, rc, Cr, ka, kn, kc, wa, wn, wc, ho, _, _⟩ := mat_open hM2 HS.out
    have HO := hid_of ho
    obtain ⟨hbm, hnn, hrn, hn, hC, hl, c0, c1, c2, _, hw⟩ := ho
    obtain ⟨bn, Cn, rfl, hCn, hcn, hkn, _, um, _⟩ := wrow_at hw HR.out
    rw [← HXM.out] at um
    have d1 : n * 3 + 2 + 1 ≤ Cr.length := by omega
    have d2 : n * 3 < Cr.length := by omega
    have q0 : (0 : Int) ≤ (n : Int) := by omega
    have q1 : (n : Int) < (rn : Int) := by omega
    have q2 : ((n : Int)).toNat = n := by omega
    have k0 : (0 : Int) ≤ (k : Int) := by omega
    have k1 : (k : Int) < (wn : Int) := by omega
    have k2 : ((k : Int)).toNat = k := by omega
    have k3 : k * 5 + 4 + 1 ≤ Cn.length := by omega
    have k4 : k * 5 < Cn.length := by omega
    have hd2 : V2.Extends V2.drew := extends_drew (ext_Ext (Ext.refl _))
    have hwh2 := where_any B O1 V2.drew bm sm (hM2.ext hd2) HSM.out n s HS.out t
    rw [HWK.out] at hwh2
    have hSx : ∀ V', V2.Extends V' → blk V' bm = some (vE na nn nc (some ⟨gr, 0, none⟩) rn rc) ∧ blk V' gr = some Cr ∧ blk V' b3 = some (GOp.enc ⟨13, (n : Int), mask, t, n0, name⟩) ∧ blk V' bn = some Cn := fun V' hx => ⟨(hx.blk (blk_lt hbm)).trans hbm, (hx.blk (blk_lt hC)).trans hC, (hx.blk (blk_lt hb32)).trans hb32, (hx.blk (blk_lt hCn)).trans hCn⟩
    have HSX := hid_of hSx
    have hog := mat_gr hM2 HO.out
    have nbg4 : ¬ gr = b4 := fun e => by rw [e, HO4.out] at hog; cases hog
    have nbn4 : ¬ bn = b4 := by
      intro e
      obtain ⟨_, _, _, gr2, _, _, Cr2, _, _, _, wa2, _, _, ho2, _, _, _, hok2, _⟩ := mat_open hM2 HS.out
      have e1 := ho2.hb
      rw [HO.out.hb] at e1
      injection e1 with e1
      have e2 := congrArg (fun l => nth l 1) e1
      simp only [v_n1] at e2
      injection e2 with e2
      injection e2 with e2
      injection e2 with e2
      injection e2 with e2
      have e3 := ho2.bc
      rw [← e2, HO.out.bc] at e3
      have e4 : Cr = Cr2 := Option.some.inj e3
      have e5 := ho2.c2
      rw [← e4, HO.out.c2] at e5
      injection e5 with e5
      injection e5 with e5
      have := hok2.rows.2 bn (by dsimp only; rw [← e5]; rfl)
      rw [e, HO4.out] at this; cases this
    clear hnn hrn hn c0 c1 hl hw hSx hM2 hog
    go_upto_region 50 with fail
    refine wp_region_held_drew (S := fun W' => blk W' bm = some (vE na nn nc (some ⟨gr, 0, none⟩) rn rc) ∧ blk W' gr = some Cr ∧ blk W' b3 = some (GOp.enc ⟨13, (n : Int), mask, t, n0, name⟩) ∧ blk W' bn = some Cn) (by kernel_rfl) ⟨hbm, hC, hb32, hCn⟩ (fun hHeld => ?_)
    refine wpAnyH_take (i := 0) (oi := ⟨_, _, _, _, _, _⟩) (v := ?_) rfl (by kernel_rfl) (by kernel_rfl) (by kernel_rfl) (fun _ _ _ h => h) (Or.inl ⟨by rfl, ?_⟩) (by assumption) ?_
    rotate_left 1
    · intro W' hSw
      obtain ⟨hS1, hS2, hS3, hS4⟩ := hSw
      go_simp
      try with_reducible rfl
    try simp only [Act.put, List.setIfInBounds_toArray, List.set_cons_zero, List.set_cons_succ]
    refine wpAnyH_take (i := 1) (oi := ⟨_, _, _, _, _, _⟩) (v := ?_) rfl (by kernel_rfl) (by kernel_rfl) (by kernel_rfl) (fun _ _ _ h => h) (Or.inl ⟨by rfl, ?_⟩) (by assumption) ?_
    rotate_left 1
    · intro W' hSw
      obtain ⟨hS1, hS2, hS3, hS4⟩ := hSw
      go_simp
      try with_reducible rfl
    try simp only [Act.put, List.setIfInBounds_toArray, List.set_cons_zero, List.set_cons_succ]
    refine wpAnyH_take (i := 2) (oi := ⟨_, _, _, _, _, _⟩) (v := ?_) rfl (by kernel_rfl) (by kernel_rfl) (by kernel_rfl) (fun _ _ _ h => h) (Or.inl ⟨by rfl, ?_⟩) (by assumption) ?_
    rotate_left 1
    · intro W' hSw
      obtain ⟨hS1, hS2, hS3, hS4⟩ := hSw
      go_simp
      try with_reducible rfl
    try simp only [Act.put, List.setIfInBounds_toArray, List.set_cons_zero, List.set_cons_succ]
    refine wpAnyH_take (i := 3) (oi := ⟨_, _, _, _, _, _⟩) (v := ?_) rfl (by kernel_rfl) (by kernel_rfl) (by kernel_rfl) (fun _ _ _ h => h) (Or.inl ⟨by rfl, ?_⟩) (by assumption) ?_
    rotate_left 1
    · intro W' hSw
      obtain ⟨hS1, hS2, hS3, hS4⟩ := hSw
      go_simp
      try with_reducible rfl
    try simp only [Act.put, List.setIfInBounds_toArray, List.set_cons_zero, List.set_cons_succ]
    refine wpAnyH_take (i := 4) (oi := ⟨_, _, _, _, _, _⟩) (v := ?_) rfl (by kernel_rfl) (by kernel_rfl) (by kernel_rfl) (fun _ _ _ h => h) (Or.inl ⟨by rfl, ?_⟩) (by assumption) ?_
    rotate_left 1
    · intro W' hSw
      obtain ⟨hS1, hS2, hS3, hS4⟩ := hSw
      go_simp
      try with_reducible rfl
    try simp only [Act.put, List.setIfInBounds_toArray, List.set_cons_zero, List.set_cons_succ]
    refine wpAnyH_take (i := 5) (oi := ⟨_, _, _, _, _, _⟩) (v := ?_) rfl (by kernel_rfl) (by kernel_rfl) (by kernel_rfl) (fun _ _ _ h => h) (Or.inl ⟨by rfl, ?_⟩) (by assumption) ?_
    rotate_left 1
    · intro W' hSw
      obtain ⟨hS1, hS2, hS3, hS4⟩ := hSw
      go_simp
      try with_reducible rfl
    try simp only [Act.put, List.setIfInBounds_toArray, List.set_cons_zero, List.set_cons_succ]
    refine wpAnyH_take (i := 6) (oi := ⟨_, _, _, _, _, _⟩) (v := ?_) rfl (by kernel_rfl) (by kernel_rfl) (by kernel_rfl) (fun _ _ _ h => h) (Or.inl ⟨by rfl, ?_⟩) (by assumption) ?_
    rotate_left 1
    · intro W' hSw
      obtain ⟨hS1, hS2, hS3, hS4⟩ := hSw
      go_simp
      try with_reducible rfl
    try simp only [Act.put, List.setIfInBounds_toArray, List.set_cons_zero, List.set_cons_succ]
    refine wpAnyH_take (i := 7) (oi := ⟨_, _, _, _, _, _⟩) (v := ?_) rfl (by kernel_rfl) (by kernel_rfl) (by kernel_rfl) (fun _ _ _ h => h) (Or.inl ⟨by rfl, ?_⟩) (by assumption) ?_
    rotate_left 1
    · intro W' hSw
      obtain ⟨hS1, hS2, hS3, hS4⟩ := hSw
      go_simp
      try with_reducible rfl
    try simp only [Act.put, List.setIfInBounds_toArray, List.set_cons_zero, List.set_cons_succ]
    refine wpAnyH_take (i := 8) (oi := ⟨_, _, _, _, _, _⟩) (v := ?_) rfl (by kernel_rfl) (by kernel_rfl) (by kernel_rfl) (fun _ _ _ h => h) (Or.inl ⟨by rfl, ?_⟩) (by assumption) ?_
    rotate_left 1
    · intro W' hSw
      obtain ⟨hS1, hS2, hS3, hS4⟩ := hSw
      go_simp
      try with_reducible rfl
    try simp only [Act.put, List.setIfInBounds_toArray, List.set_cons_zero, List.set_cons_succ]
    refine wpAnyH_take (i := 9) (oi := ⟨_, _, _, _, _, _⟩) (v := ?_) rfl (by kernel_rfl) (by kernel_rfl) (by kernel_rfl) (fun _ _ _ h => h) (Or.inl ⟨by rfl, ?_⟩) (by assumption) ?_
    rotate_left 1
    · intro W' hSw
      obtain ⟨hS1, hS2, hS3, hS4⟩ := hSw
      go_simp
      try with_reducible rfl
    try simp only [Act.put, List.setIfInBounds_toArray, List.set_cons_zero, List.set_cons_succ]
    refine wpAnyH_take (i := 10) (oi := ⟨_, _, _, _, _, _⟩) (v := ?_) rfl (by kernel_rfl) (by kernel_rfl) (by kernel_rfl) (fun _ _ _ h => h) (Or.inl ⟨by rfl, ?_⟩) (by assumption) ?_
    rotate_left 1
    · intro W' hSw
      obtain ⟨hS1, hS2, hS3, hS4⟩ := hSw
      go_simp
      try with_reducible rfl
    try simp only [Act.put, List.setIfInBounds_toArray, List.set_cons_zero, List.set_cons_succ]
    refine wpAnyH_take (i := 11) (oi := ⟨_, _, _, _, _, _⟩) (v := ?_) rfl (by kernel_rfl) (by kernel_rfl) (by kernel_rfl) (fun _ _ _ h => h) (Or.inl ⟨by rfl, ?_⟩) (by assumption) ?_
    rotate_left 1
    · intro W' hSw
      obtain ⟨hS1, hS2, hS3, hS4⟩ := hSw
      go_simp
      try with_reducible rfl
    try simp only [Act.put, List.setIfInBounds_toArray, List.set_cons_zero, List.set_cons_succ]
    refine wpAnyH_take (i := 12) (oi := ⟨_, _, _, _, _, _⟩) (v := ?_) rfl (by kernel_rfl) (by kernel_rfl) (by kernel_rfl) (fun _ _ _ h => h) (Or.inl ⟨by rfl, ?_⟩) (by assumption) ?_
    rotate_left 1
    · intro W' hSw
      obtain ⟨hS1, hS2, hS3, hS4⟩ := hSw
      go_simp
      try with_reducible rfl
    try simp only [Act.put, List.setIfInBounds_toArray, List.set_cons_zero, List.set_cons_succ]
    refine wpAnyH_take (i := 13) (oi := ⟨_, _, _, _, _, _⟩) (v := ?_) rfl (by kernel_rfl) (by kernel_rfl) (by kernel_rfl) (fun _ _ _ h => h) (Or.inl ⟨by rfl, ?_⟩) (by assumption) ?_
    rotate_left 1
    · intro W' hSw
      obtain ⟨hS1, hS2, hS3, hS4⟩ := hSw
      go_simp
      try with_reducible rfl
    try simp only [Act.put, List.setIfInBounds_toArray, List.set_cons_zero, List.set_cons_succ]
    refine wpAnyH_ready (rs := [14]) (by kernel_rfl) (by simp) ?_
    refine AllReadyH.cons (o := ⟨_, _, _, _, _, _⟩) rfl (fun K' hK => ?_) AllReadyH.nil
    go_simp
    refine hwh2.mono ?_
    rintro e V3 ⟨rfl, hx3⟩
    have hxV3 := hd2.trans hx3
    obtain ⟨hq1, hbV, hfV⟩ := HFN.out sm (V3) (ans 0 xm) (mout_same HM1.out (HXV2.out.trans hxV3)) rfl HPR.out
    have HP := hid_of hq1
    have HBC : Hid (blk (put (V3) b4 (Answer.enc (ans 0 xm))) b4 = some (Answer.enc (ans 0 xm))) := by
      show blk _ _ = _
      rw [blk_put, if_pos rfl, hbV]; rfl
    clear hq1 HFN HFR
    have hSV3 := HSX.out V3 hxV3
    have hSP : blk (put V3 b4 (Answer.enc (ans 0 xm))) bm = some (vE na nn nc (some ⟨gr, 0, none⟩) rn rc) ∧ blk (put V3 b4 (Answer.enc (ans 0 xm))) gr = some Cr ∧ blk (put V3 b4 (Answer.enc (ans 0 xm))) b3 = some (GOp.enc ⟨13, (n : Int), mask, t, n0, name⟩) ∧ blk (put V3 b4 (Answer.enc (ans 0 xm))) bn = some Cn := ⟨by rw [blk_put, if_neg nbm4]; exact hSV3.1, by rw [blk_put, if_neg nbg4]; exact hSV3.2.1, by rw [blk_put, if_neg nb34]; exact hSV3.2.2.1, by rw [blk_put, if_neg nbn4]; exact hSV3.2.2.2⟩
    clear hx3 hxV3 hwh2
    dsimp only
    refine hK.out _ _ hSV3 (fun hHeld => ?_)
    clear hK K'
    try simp only [Act.put, List.setIfInBounds_toArray, List.set_cons_zero, List.set_cons_succ]
    refine wpAnyH_take (i := 15) (oi := ⟨_, _, _, _, _, _⟩) (v := ?_) rfl (by kernel_rfl) (by kernel_rfl) (by kernel_rfl) (fun _ _ _ h => h) (Or.inl ⟨by rfl, ?_⟩) (by assumption) ?_
    rotate_left 1
    · intro W' hSw
      obtain ⟨hS1, hS2, hS3, hS4⟩ := hSw
      go_simp
      try with_reducible rfl
    try simp only [Act.put, List.setIfInBounds_toArray, List.set_cons_zero, List.set_cons_succ]
    refine wpAnyH_take (i := 16) (oi := ⟨_, _, _, _, _, _⟩) (v := ?_) rfl (by kernel_rfl) (by kernel_rfl) (by kernel_rfl) (fun _ _ _ h => h) (Or.inl ⟨by rfl, ?_⟩) (by assumption) ?_
    rotate_left 1
    · intro W' hSw
      obtain ⟨hS1, hS2, hS3, hS4⟩ := hSw
      go_simp
      try with_reducible rfl
    try simp only [Act.put, List.setIfInBounds_toArray, List.set_cons_zero, List.set_cons_succ]
    refine wpAnyH_take (i := 17) (oi := ⟨_, _, _, _, _, _⟩) (v := ?_) rfl (by kernel_rfl) (by kernel_rfl) (by kernel_rfl) (fun _ _ _ h => h) (Or.inl ⟨by rfl, ?_⟩) (by assumption) ?_
    rotate_left 1
    · intro W' hSw
      obtain ⟨hS1, hS2, hS3, hS4⟩ := hSw
      go_simp
      try with_reducible rfl
    try simp only [Act.put, List.setIfInBounds_toArray, List.set_cons_zero, List.set_cons_succ]
    refine wpAnyH_take (i := 18) (oi := ⟨_, _, _, _, _, _⟩) (v := ?_) rfl (by kernel_rfl) (by kernel_rfl) (by kernel_rfl) (fun _ _ _ h => h) (Or.inl ⟨by rfl, ?_⟩) (by assumption) ?_
    rotate_left 1
    · intro W' hSw
      obtain ⟨hS1, hS2, hS3, hS4⟩ := hSw
      go_simp
      try with_reducible rfl
    try simp only [Act.put, List.setIfInBounds_toArray, List.set_cons_zero, List.set_cons_succ]
    refine wpAnyH_ready (rs := [19]) (by kernel_rfl) (by simp) ?_
    refine AllReadyH.cons (o := ⟨_, _, _, _, _, _⟩) rfl (fun K' hK => ?_) AllReadyH.nil
    go_simp
    refine hK.out _ _ hSP (fun hHeld => ?_)
    clear hK K'
    try simp only [Act.put, List.setIfInBounds_toArray, List.set_cons_zero, List.set_cons_succ]
    refine wpAnyH_done (by kernel_rfl) ?_ _
    go_wp2_with fail
    try go_ret2
    refine ret_cell (C := Answer.enc (ans 0 xm)) rfl rfl HBC.out (by kernel_rfl) (by rw [Answer.length_enc]; kernel_rfl) rfl ?_
    exact HP.out
  have hk13 : (kind == 13) = false := by simp [hk]
  have HK13 := hid_of hk
  clear hk
  by_cases hk : kind = 14
  · subst hk
    by_cases hid : 0 ≤ rel ∧ rel < (sm.rels.length : Int)
    rotate_left 1
    · have hcall := mrel_no HM1.out hid
      have e : relCode sm rel = 7 := by unfold relCode; rw [relF_none hid]
      have hpr : PlayR sm ⟨14, rel, mask, t, n0, name⟩ sm (ans 7 0) [] := by
        have h := PlayR.len (st := sm) (op := ⟨14, rel, mask, t, n0, name⟩) rfl
        dsimp only at h
        have e2 : lenF sm rel = (0, 7) := by unfold lenF; rw [relF_none hid]
        rw [e2] at h; exact h
      obtain ⟨hq1, hbV, hfV⟩ := HFN.out sm (W1) (ans 7 0) (mout_same HM1.out (ext_Ext (Ext.refl _))) rfl hpr
      have HP := hid_of hq1
      have HBC : Hid (blk (put (W1) b4 (Answer.enc (ans 7 0))) b4 = some (Answer.enc (ans 7 0))) := by
        show blk _ _ = _
        rw [blk_put, if_pos rfl, hbV]; rfl
      clear hq1 HFN HFR
      clear hpr e hid
      go_wp2_with fail
      refine hcall.mono ?_
      rintro e V ⟨rfl, rfl⟩
      dsimp only
      go_wp2_with fail
      try go_ret2
      refine ret_cell (C := Answer.enc (ans 7 0)) rfl rfl HBC.out (by kernel_rfl) (by rw [Answer.length_enc]; kernel_rfl) rfl ?_
      exact HP.out
    have hcall := mrel_ok HM1.out hid
    obtain ⟨n, rfl⟩ : ∃ n : Nat, rel = (n : Int) := ⟨rel.toNat, by omega⟩
    obtain ⟨s, hs⟩ : ∃ s, sm.rels[n]? = some s := ⟨_, List.getElem?_eq_getElem (by omega)⟩
    have e0 : relCode sm (n : Int) = 0 := by unfold relCode; rw [relF_some hs]
    have hd1 : W1.Extends W1.drew := extends_drew (ext_Ext (Ext.refl _))
    obtain ⟨na, nn, nc, gr, rn, rc, Cr, ka, kn, kc, wa, wn, wc, ho, _, _⟩ := mat_open HM1.out hs
    have hog := mat_gr HM1.out ho
    have nbg4 : ¬ gr = b4 := fun e => by rw [e, HO4.out] at hog; cases hog
    obtain ⟨hbm, hnn, hrn, hn, hC, hl, c0, c1, c2, _, hw⟩ := ho
    have hpr : PlayR sm ⟨14, (n : Int), mask, t, n0, name⟩ sm (ans 0 (wn : Int)) [] := by
      have h := PlayR.len (st := sm) (op := ⟨14, (n : Int), mask, t, n0, name⟩) rfl
      dsimp only at h
      have e2 : lenF sm (n : Int) = ((wn : Int), 0) := by unfold lenF; rw [relF_some hs]; dsimp only; rw [hw.1]
      rw [e2] at h; exact h
    have d1 : n * 3 + 2 + 1 ≤ Cr.length := by omega
    have d2 : n * 3 < Cr.length := by omega
    have q0 : (0 : Int) ≤ (n : Int) := by omega
    have q1 : (n : Int) < (rn : Int) := by omega
    have q2 : ((n : Int)).toNat = n := by omega
    obtain ⟨hq1, hbV, hfV⟩ := HFN.out sm (W1.drew) (ans 0 (wn : Int)) (mout_same HM1.out hd1) rfl hpr
    have HP := hid_of hq1
    have HBC : Hid (blk (put (W1.drew) b4 (Answer.enc (ans 0 (wn : Int)))) b4 = some (Answer.enc (ans 0 (wn : Int)))) := by
      show blk _ _ = _
      rw [blk_put, if_pos rfl, hbV]; rfl
    clear hq1 HFN HFR
    have hSP : blk (put W1.drew b4 (Answer.enc (ans 0 (wn : Int)))) bm = some (vE na nn nc (some ⟨gr, 0, none⟩) rn rc) ∧ blk (put W1.drew b4 (Answer.enc (ans 0 (wn : Int)))) gr = some Cr ∧ blk (put W1.drew b4 (Answer.enc (ans 0 (wn : Int)))) b3 = some (GOp.enc ⟨14, (n : Int), mask, t, n0, name⟩) := ⟨by rw [blk_put, if_neg nbm4]; exact hbm, by rw [blk_put, if_neg nbg4]; exact hC, by rw [blk_put, if_neg nb34]; exact hb3⟩
    clear hpr hs hid e0 hnn hrn hn c0 c1 hw hl hd1 hog
    go_wp2_with fail
    refine hcall.mono ?_
    rintro e V ⟨rfl, rfl⟩
    clear hcall
    dsimp only
    go_upto_region 54 with fail
    refine wp_region_held_drew (S := fun W' => blk W' bm = some (vE na nn nc (some ⟨gr, 0, none⟩) rn rc) ∧ blk W' gr = some Cr ∧ blk W' b3 = some (GOp.enc ⟨14, (n : Int), mask, t, n0, name⟩)) (by kernel_rfl) ⟨hbm, hC, hb3⟩ (fun hHeld => ?_)
    refine wpAnyH_take (i := 0) (oi := ⟨_, _, _, _, _, _⟩) (v := ?_) rfl (by kernel_rfl) (by kernel_rfl) (by kernel_rfl) (fun _ _ _ h => h) (Or.inl ⟨by rfl, ?_⟩) (by assumption) ?_
    rotate_left 1
    · intro W' hSw
      obtain ⟨hS1, hS2, hS3⟩ := hSw
      go_simp
      try with_reducible rfl
    try simp only [Act.put, List.setIfInBounds_toArray, List.set_cons_zero, List.set_cons_succ]
    refine wpAnyH_take (i := 1) (oi := ⟨_, _, _, _, _, _⟩) (v := ?_) rfl (by kernel_rfl) (by kernel_rfl) (by kernel_rfl) (fun _ _ _ h => h) (Or.inl ⟨by rfl, ?_⟩) (by assumption) ?_
    rotate_left 1
    · intro W' hSw
      obtain ⟨hS1, hS2, hS3⟩ := hSw
      go_simp
      try with_reducible rfl
    try simp only [Act.put, List.setIfInBounds_toArray, List.set_cons_zero, List.set_cons_succ]
    refine wpAnyH_take (i := 2) (oi := ⟨_, _, _, _, _, _⟩) (v := ?_) rfl (by kernel_rfl) (by kernel_rfl) (by kernel_rfl) (fun _ _ _ h => h) (Or.inl ⟨by rfl, ?_⟩) (by assumption) ?_
    rotate_left 1
    · intro W' hSw
      obtain ⟨hS1, hS2, hS3⟩ := hSw
      go_simp
      try with_reducible rfl
    try simp only [Act.put, List.setIfInBounds_toArray, List.set_cons_zero, List.set_cons_succ]
    refine wpAnyH_take (i := 3) (oi := ⟨_, _, _, _, _, _⟩) (v := ?_) rfl (by kernel_rfl) (by kernel_rfl) (by kernel_rfl) (fun _ _ _ h => h) (Or.inl ⟨by rfl, ?_⟩) (by assumption) ?_
    rotate_left 1
    · intro W' hSw
      obtain ⟨hS1, hS2, hS3⟩ := hSw
      go_simp
      try with_reducible rfl
    try simp only [Act.put, List.setIfInBounds_toArray, List.set_cons_zero, List.set_cons_succ]
    refine wpAnyH_take (i := 4) (oi := ⟨_, _, _, _, _, _⟩) (v := ?_) rfl (by kernel_rfl) (by kernel_rfl) (by kernel_rfl) (fun _ _ _ h => h) (Or.inl ⟨by rfl, ?_⟩) (by assumption) ?_
    rotate_left 1
    · intro W' hSw
      obtain ⟨hS1, hS2, hS3⟩ := hSw
      go_simp
      try with_reducible rfl
    try simp only [Act.put, List.setIfInBounds_toArray, List.set_cons_zero, List.set_cons_succ]
    refine wpAnyH_take (i := 5) (oi := ⟨_, _, _, _, _, _⟩) (v := ?_) rfl (by kernel_rfl) (by kernel_rfl) (by kernel_rfl) (fun _ _ _ h => h) (Or.inl ⟨by rfl, ?_⟩) (by assumption) ?_
    rotate_left 1
    · intro W' hSw
      obtain ⟨hS1, hS2, hS3⟩ := hSw
      go_simp
      try with_reducible rfl
    try simp only [Act.put, List.setIfInBounds_toArray, List.set_cons_zero, List.set_cons_succ]
    refine wpAnyH_take (i := 6) (oi := ⟨_, _, _, _, _, _⟩) (v := ?_) rfl (by kernel_rfl) (by kernel_rfl) (by kernel_rfl) (fun _ _ _ h => h) (Or.inl ⟨by rfl, ?_⟩) (by assumption) ?_
    rotate_left 1
    · intro W' hSw
      obtain ⟨hS1, hS2, hS3⟩ := hSw
      go_simp
      try with_reducible rfl
    try simp only [Act.put, List.setIfInBounds_toArray, List.set_cons_zero, List.set_cons_succ]
    refine wpAnyH_take (i := 7) (oi := ⟨_, _, _, _, _, _⟩) (v := ?_) rfl (by kernel_rfl) (by kernel_rfl) (by kernel_rfl) (fun _ _ _ h => h) (Or.inl ⟨by rfl, ?_⟩) (by assumption) ?_
    rotate_left 1
    · intro W' hSw
      obtain ⟨hS1, hS2, hS3⟩ := hSw
      go_simp
      try with_reducible rfl
    try simp only [Act.put, List.setIfInBounds_toArray, List.set_cons_zero, List.set_cons_succ]
    refine wpAnyH_take (i := 8) (oi := ⟨_, _, _, _, _, _⟩) (v := ?_) rfl (by kernel_rfl) (by kernel_rfl) (by kernel_rfl) (fun _ _ _ h => h) (Or.inl ⟨by rfl, ?_⟩) (by assumption) ?_
    rotate_left 1
    · intro W' hSw
      obtain ⟨hS1, hS2, hS3⟩ := hSw
      go_simp
      try with_reducible rfl
    try simp only [Act.put, List.setIfInBounds_toArray, List.set_cons_zero, List.set_cons_succ]
    refine wpAnyH_take (i := 9) (oi := ⟨_, _, _, _, _, _⟩) (v := ?_) rfl (by kernel_rfl) (by kernel_rfl) (by kernel_rfl) (fun _ _ _ h => h) (Or.inl ⟨by rfl, ?_⟩) (by assumption) ?_
    rotate_left 1
    · intro W' hSw
      obtain ⟨hS1, hS2, hS3⟩ := hSw
      go_simp
      try with_reducible rfl
    try simp only [Act.put, List.setIfInBounds_toArray, List.set_cons_zero, List.set_cons_succ]
    refine wpAnyH_take (i := 10) (oi := ⟨_, _, _, _, _, _⟩) (v := ?_) rfl (by kernel_rfl) (by kernel_rfl) (by kernel_rfl) (fun _ _ _ h => h) (Or.inl ⟨by rfl, ?_⟩) (by assumption) ?_
    rotate_left 1
    · intro W' hSw
      obtain ⟨hS1, hS2, hS3⟩ := hSw
      go_simp
      try with_reducible rfl
    try simp only [Act.put, List.setIfInBounds_toArray, List.set_cons_zero, List.set_cons_succ]
    refine wpAnyH_ready (rs := [11]) (by kernel_rfl) (by simp) ?_
    refine AllReadyH.cons (o := ⟨_, _, _, _, _, _⟩) rfl (fun K' hK => ?_) AllReadyH.nil
    go_simp
    refine hK.out _ _ hSP (fun hHeld => ?_)
    clear hK K'
    try simp only [Act.put, List.setIfInBounds_toArray, List.set_cons_zero, List.set_cons_succ]
    refine wpAnyH_done (by kernel_rfl) ?_ _
    go_wp2_with fail
    try go_ret2
    refine ret_cell (C := Answer.enc (ans 0 (wn : Int))) rfl rfl HBC.out (by kernel_rfl) (by rw [Answer.length_enc]; kernel_rfl) rfl ?_
    exact HP.out
  have hk14 : (kind == 14) = false := by simp [hk]
  have HK14 := hid_of hk
  clear hk
  by_cases hk : kind = 15
  · subst hk
    by_cases hid : 0 ≤ rel ∧ rel < (sm.rels.length : Int)
    rotate_left 1
    · have hcall := mrel_no HM1.out hid
      have e : relCode sm rel = 7 := by unfold relCode; rw [relF_none hid]
      have hpr : PlayR sm ⟨15, rel, mask, t, n0, name⟩ sm (ans 7 0) [] := by
        have h := PlayR.list (st := sm) (op := ⟨15, rel, mask, t, n0, name⟩) rfl ⟨none, 0, 0⟩ (ts := []) (by dsimp only; unfold rowsS; rw [relF_none hid]; rfl)
        dsimp only at h
        rw [e] at h; exact h
      obtain ⟨hq1, hbV, hfV⟩ := HFN.out sm (W1) (ans 7 0) (mout_same HM1.out (ext_Ext (Ext.refl _))) rfl hpr
      have HP := hid_of hq1
      have HBC : Hid (blk (put (W1) b4 (Answer.enc (ans 7 0))) b4 = some (Answer.enc (ans 7 0))) := by
        show blk _ _ = _
        rw [blk_put, if_pos rfl, hbV]; rfl
      clear hq1 HFN HFR
      clear hpr e hid
      go_wp2_with fail
      refine hcall.mono ?_
      rintro e V ⟨rfl, rfl⟩
      dsimp only
      go_wp2_with fail
      try go_ret2
      refine ret_cell (C := Answer.enc (ans 7 0)) rfl rfl HBC.out (by kernel_rfl) (by rw [Answer.length_enc]; kernel_rfl) rfl ?_
      exact HP.out
    have hcall := mrel_ok HM1.out hid
    obtain ⟨n, rfl⟩ : ∃ n : Nat, rel = (n : Int) := ⟨rel.toNat, by omega⟩
    obtain ⟨s, hs⟩ : ∃ s, sm.rels[n]? = some s := ⟨_, List.getElem?_eq_getElem (by omega)⟩
    have e0 : relCode sm (n : Int) = 0 := by unfold relCode; rw [relF_some hs]
    have hp := mprobe_any B O1 W1 bm sm HM1.out HSM.out (n : Int) 0 tup0
    have e1 : probeCode sm (n : Int) 0 tup0 = 0 := by
      unfold probeCode
      rw [relF_some hs]
      show probeC _ _ _ _ = 0
      unfold probeC colC
      have h2 : (0 : Int) < ((2 ^ s.ar : Nat) : Int) := by have := Nat.two_pow_pos s.ar; omega
      rw [if_pos (if_pos ⟨by omega, h2⟩), if_pos]
      intro c _ h
      simp at h
    have e2 : probeR sm (n : Int) 0 tup0 = (rowsS sm (n : Int)).map (·.1) := by
      unfold probeR
      rw [if_pos e1]
      rw [List.filter_eq_self]
      intro x _
      exact agree_zero x tup0
    rw [e1, e2] at hp
    obtain ⟨ts, hts⟩ : ∃ ts, ts = (rowsS sm (n : Int)).map (·.1) := ⟨_, rfl⟩
    rw [← hts] at hp
    have HTS := hid_of hts
    have HE0 := hid_of e0
    clear e0 e1 e2 hts hs hid
    go_wp2_with fail
    refine hcall.mono ?_
    rintro e V ⟨rfl, rfl⟩
    dsimp only
    go_wp2_with fail
    refine hp.mono ?_
    rintro e V1 ⟨a, m, cp, rfl, hxV, hrow⟩
    obtain ⟨hq1, hbV, hfV⟩ := HFR.out (V1) 0 a m cp _ ⟨a, m, cp, rfl, hxV, hrow⟩ hrow (by have h := PlayR.list (st := sm) (op := ⟨15, (n : Int), mask, t, n0, name⟩) rfl ⟨a, m, cp⟩ HTS.out; dsimp only at h; rw [HE0.out] at h; exact h)
    have HP := hid_of hq1
    have HBC : Hid (blk (put (V1) b4 (Answer.enc (⟨0, 0, ByteArray.empty, ⟨a, m, cp⟩⟩))) b4 = some (Answer.enc (⟨0, 0, ByteArray.empty, ⟨a, m, cp⟩⟩))) := by
      show blk _ _ = _
      rw [blk_put, if_pos rfl, hbV]; rfl
    clear hq1 HFN HFR
    clear hp hxV hrow hcall
    dsimp only
    go_wp2_with fail
    try go_ret2
    refine ret_cell (C := Answer.enc (⟨0, 0, ByteArray.empty, ⟨a, m, cp⟩⟩)) rfl rfl HBC.out (by kernel_rfl) (by rw [Answer.length_enc]; kernel_rfl) rfl ?_
    exact HP.out
  have hk15 : (kind == 15) = false := by simp [hk]
  have HK15 := hid_of hk
  clear hk
  have HBAD : Hid (PlayR sm ⟨kind, rel, mask, t, n0, name⟩ sm (ans 13 0) []) := by
    refine PlayR.bad (fun i hi e => ?_)
    have h : i = 0 ∨ i = 1 ∨ i = 2 ∨ i = 3 ∨ i = 4 ∨ i = 5 ∨ i = 6 ∨ i = 7 ∨ i = 8 ∨ i = 9 ∨ i = 10 ∨ i = 11 ∨ i = 12 ∨ i = 13 ∨ i = 14 ∨ i = 15 := by omega
    rcases h with rfl | rfl | rfl | rfl | rfl | rfl | rfl | rfl | rfl | rfl | rfl | rfl | rfl | rfl | rfl | rfl
    · exact HK0.out e
    · exact HK1.out e
    · exact HK2.out e
    · exact HK3.out e
    · exact HK4.out e
    · exact HK5.out e
    · exact HK6.out e
    · exact HK7.out e
    · exact HK8.out e
    · exact HK9.out e
    · exact HK10.out e
    · exact HK11.out e
    · exact HK12.out e
    · exact HK13.out e
    · exact HK14.out e
    · exact HK15.out e
  obtain ⟨hq1, hbV, hfV⟩ := HFN.out sm (W1) (ans 13 0) (mout_same HM1.out (ext_Ext (Ext.refl _))) rfl HBAD.out
  have HP := hid_of hq1
  have HBC : Hid (blk (put (W1) b4 (Answer.enc (ans 13 0))) b4 = some (Answer.enc (ans 13 0))) := by
    show blk _ _ = _
    rw [blk_put, if_pos rfl, hbV]; rfl
  clear hq1 HFN HFR
  go_wp2_with fail
  try go_ret2
  refine ret_cell (C := Answer.enc (ans 13 0)) rfl rfl HBC.out (by kernel_rfl) (by rw [Answer.length_enc]; kernel_rfl) rfl ?_
  exact HP.out
end Go.Proofs.Qxb6500789a
