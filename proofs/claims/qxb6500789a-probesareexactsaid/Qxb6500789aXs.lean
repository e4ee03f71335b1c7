import Derived.Test.Qxb6500789aXr
import Derived.StillTailTactics
import Derived.Deep.QuietTactic
import Derived.BigQuiet
import Derived.Deep.RegionHeld
import Derived.Deep.CutRange
import Derived.Laws.ResultCell
import Derived.Laws.Rows
import Derived.DeepKeys
import Derived.DataBytes
import Derived.Laws.StructEq
import Derived.Laws.AppendOwn
import Derived.Laws.MakeOwn
import Derived.Lib.AppendStr
set_option linter.unusedSimpArgs false
set_option linter.unusedVariables false
namespace Go.Proofs.Qxb6500789a
open Go.RowKit Go.Blk
attribute [local go_sem ↓] execOp_load execOp_store execOp_alloc
attribute [local go_sem] Try.ld29 Try.st29 Try.ld3 Try.st3 Try.ld9 Try.st9 Try.ld30 Try.st30 Try.ld34 Try.st34 Try.ld35 Try.st35 Try.ld36 Try.st36 Try.ld37 Try.st37 Try.ld44 Try.st44 Try.ld45 Try.st45 Try.ld54 Try.st54 Try.ld55 Try.st55 Try.ld74 Try.st74 Try.ld80 Try.st80 Try.ld84 Try.st84 Try.ld106 Try.st106 Try.ld107 Try.st107 Try.ld4 Try.st4 Try.ld121 Try.st121 Try.ld2 Try.st2 Try.ld5 Try.st5 Try.ld12 Try.st12 Try.ld21 Try.st21 Try.ld22 Try.st22 Try.ld24 Try.st24 Try.ld26 Try.st26 Try.ld63 Try.st63 Try.ld71 Try.st71 Try.ld103 Try.st103 Try.ld130 Try.st130 Try.ld133 Try.st133 Try.ld140 Try.st140 Try.ld152 Try.st152 Try.ld39 Try.st39 Try.ld32 Try.st32 Try.ld41 Try.st41 Try.ld47 Try.st47 Try.ld57 Try.st57 Try.ld62 Try.st62 Try.ld76 Try.st76 Try.ld82 Try.st82 Try.ld86 Try.st86 Try.ld109 Try.st109 Try.ld115 Try.st115 Try.ld123 Try.st123 Try.ld135 Try.st135 Try.al39 Try.al32 Try.al41 Try.al47 Try.al57 Try.al62 Try.al76 Try.al82 Try.al86 Try.al109 Try.al115 Try.al123 Try.al135
attribute [local go_sem] Answer.length_enc Answer.ok_enc Answer.all_get Answer.all_set Answer.code_get Answer.code_set Answer.n_get Answer.n_set Answer.name_get Answer.name_set Answer.rows_get Answer.rows_set GOp.length_enc GOp.ok_enc GOp.all_get GOp.all_set GOp.kind_get GOp.kind_set GOp.rel_get GOp.rel_set GOp.mask_get GOp.mask_set GOp.t_get GOp.t_set GOp.n_get GOp.n_set GOp.name_get GOp.name_set Store.length_enc Store.ok_enc Store.all_get Store.all_set Store.names_get Store.names_set Store.rels_get Store.rels_set GRel.length_enc GRel.ok_enc GRel.all_get GRel.all_set GRel.arity_get GRel.arity_set GRel.masks_get GRel.masks_set GRel.rows_get GRel.rows_set Row.length_enc Row.ok_enc Row.all_get Row.all_set Row.t_get Row.t_set Row.mark_get Row.mark_set View.length_enc View.ok_enc View.all_get View.all_set View.names_get View.names_set View.rels_get View.rels_set Symtab.length_enc Symtab.ok_enc Symtab.all_get Symtab.all_set Symtab.names_get Symtab.names_set Symtab.table_get Symtab.table_set StoreTuplestore.length_enc StoreTuplestore.ok_enc StoreTuplestore.all_get StoreTuplestore.all_set StoreTuplestore.syms_get StoreTuplestore.syms_set StoreTuplestore.rels_get StoreTuplestore.rels_set StoreTuplestore.syms_names_get StoreTuplestore.syms_names_set StoreTuplestore.syms_table_get StoreTuplestore.syms_table_set Relation.length_enc Relation.ok_enc Relation.all_get Relation.all_set Relation.arity_get Relation.arity_set Relation.slots_get Relation.slots_set Relation.live_get Relation.live_set Relation.idx_get Relation.idx_set Slot.length_enc Slot.ok_enc Slot.all_get Slot.all_set Slot.t_get Slot.t_set Slot.mark_get Slot.mark_set Slot.live_get Slot.live_set RelView.length_enc RelView.ok_enc RelView.all_get RelView.all_set RelView.arity_get RelView.arity_set RelView.rows_get RelView.rows_set RelView.marks_get RelView.marks_set RelView.indexed_get RelView.indexed_set Index.length_enc Index.ok_enc Index.all_get Index.all_set Index.mask_get Index.mask_set Index.heads_get Index.heads_set Index.next_get Index.next_set
attribute [local go_sem] size_put size_ext blk_put free_put blk_alloc free_alloc blk_drew free_drew blk_ext free_ext lookOr_some putOr_some segAt_some cellAt_some storeIn_some put_put put_alloc_new length_arr ok_arr_u8 ok_arr_u32 ok_arr_u64 ok_arr_i64 ok_arr_sl cellsV_agg cellsV_int cellsV_bool cellsV_string cellsV_pointer cellsV_slice cellsV_sl ok_int ok_bool ok_string ok_pointer ok_slice ok_sl toList_arr seg_arr set_arr nth_splice nth_splice0 seg_splice seg_splice0 splice_splice splice_splice0 length_splice_if
attribute [local go_sem ↓] execOp_box
attribute [local go_sem] box_run nth_arr_u8 put_arr_u8 blk_drewN free_drewN put_drewN blk_raw free_raw
theorem szB_room {k : IxD} {n : Nat} (h : SzB k n) (h8 : 8 ≤ k.size) : n + 1 ≤ k.size := by obtain ⟨h1, h2⟩ := h; omega
theorem szB_le {k : IxD} {n : Nat} (h : SzB k n) (hn : n ≤ 512) : k.size ≤ 2048 := by obtain ⟨h1, h2⟩ := h; omega
theorem sz8 {k : IxD} (h : SzOk k) : 8 ≤ k.size := by
  obtain ⟨_, jj, h1, h2, _⟩ := h
  rw [h1]; exact Nat.pow_le_pow_right (n := 2) (by decide) h2
theorem rinv_live {ar : Nat} {L : List Slot} {K K' : List IxD} (hV : RInv ar L K) (hm : K'.map (·.m) = K.map (·.m)) (hz : ∀ k ∈ K', SzB k (liveL L).length) (h8 : ∀ k ∈ K', SzOk k) : RInv ar (liveL L) K' ∧ ∃ k, K'[0]? = some k ∧ (liveL L).length + 1 ≤ k.size := by
  have hlen : K'.length = K.length := by have := congrArg List.length hm; simpa using this
  obtain ⟨k, h1, h2, h3⟩ := hV.k0
  have h0 : 0 < K'.length := by rw [hlen]; exact (List.getElem?_eq_some_iff.1 h1).1
  have hk' : K'[0]? = some K'[0] := List.getElem?_eq_getElem h0
  have hmem : K'[0] ∈ K' := List.getElem_mem h0
  have hmm : K'[0].m = k.m := by
    have := congrArg (fun l => l[0]?) hm
    simp only [List.getElem?_map, hk', h1, Option.map_some] at this
    exact Option.some.inj this
  have hr := szB_room (hz _ hmem) (sz8 (h8 _ hmem))
  refine ⟨⟨hV.ar4, nodup_live hV.nodup, by rw [liveL_live]; exact hV.live, ⟨_, hk', hmm.trans h2, by omega⟩, fun k hk => szB_le (hz k hk) hV.live, by rw [hm]; exact hV.masks, fun k hk => ?_⟩, _, hk', hr⟩
  have : k.m ∈ K'.map (·.m) := List.mem_map.2 ⟨k, hk, rfl⟩
  rw [hm] at this
  obtain ⟨k2, hk2, e⟩ := List.mem_map.1 this
  rw [← e]; exact hV.mlt k2 hk2
theorem RelIn.sz {B : Nat} {O : Own} {W : World} {i : Nat} {sa : Option Addr} {sn sc : Nat} {ia : Option Addr} {iN ic : Nat} {L : List Slot} {K : List IxD} (h : RelIn B O W i sa sn sc ia iN ic L K) : ∀ k ∈ K, SzOk k := fun k hk => by
  obtain ⟨j, hj⟩ := List.mem_iff_getElem?.1 hk
  exact (h.ixs j k hj).sz
attribute [local go_sem] build115 bslice106
attribute [local go_sem ↓] execOp_build execOp_bslice
set_option maxRecDepth 20000 in
set_option maxHeartbeats 8000000 in
theorem insert_new (B : Nat) (O : Own) (W : World) (gr o : Nat) (Cr : List Value) (tyr : TypeId) (lr : Lab) (i ar : Nat) (L : List Slot) (K : List IxD) (hS : RelSt B O W gr o tyr i ar L K Cr) (hlr : O gr = lr) (hnl : ¬ isRel i lr) (hno : lr ≠ .no) (hV : RInv ar L K) (hB : B ≤ W.heap.size) (t : Tup) (hni : ∀ s ∈ L, s.t ≠ t) (hfull : (liveL L).length < 512) :
    Calls Try.prog 70 #[.pointer (some ⟨gr, o, none⟩), .agg (arr i64v t).toArray, .int .i64 (-1)] W (InsPost B O W gr o Cr tyr lr i ar L K t) := by
  obtain ⟨sa, sn, sc, ia, iN, ic, hty, hR, hI⟩ := hS
  have hR0 := hR
  obtain ⟨r4, c0, c1, c2, c3⟩ := hR
  have hb : blk W gr = some Cr := blk_mk hty
  have hf : free W gr = true := free_mk hty
  have hgrl : gr < W.heap.size := blk_lt hb
  obtain ⟨lv, hlv⟩ : ∃ lv : Nat, lv = (liveL L).length := ⟨_, rfl⟩
  rw [← hlv] at c2
  have hlv5 : lv < 512 := by omega
  obtain ⟨hLn, hKn⟩ := hI.lens
  have hfew := hV.few
  have hsn : sn ≤ 2048 := by omega
  have hiN : iN ≤ 16 := by omega
  obtain ⟨k0, hk0, hk0m, hk0l⟩ := hV.k0
  obtain ⟨gi, Ci, hia, hCi, hci3, hiN0, v0, v1, v2, _⟩ := ix_at (hI.idx.rw (IxD.len _)).1 hk0
  have hsz0 : k0.size ≤ 2048 := hV.sizes k0 (List.mem_of_getElem? hk0)
  have v1' : nth Ci 1 = some (.slice k0.ha k0.size k0.size) := v1
  obtain ⟨C1, hC1⟩ : ∃ C1, C1 = splice Cr (o + 2) [.int .i64 ((lv : Int) + 1)] := ⟨_, rfl⟩
  have hC1' : splice Cr (o + 2) [.int .i64 ((lv : Int) + 1)] = C1 := hC1.symm
  have hR1 : RelAt C1 o (ar : Int) sa sn sc ((lv + 1 : Nat) : Int) ia iN ic := by rw [hC1]; exact hR0.set2 _
  have hch1 : RelCh Cr C1 o := by rw [hC1]; exact RelCh.put 2 _ (by omega) r4
  have hoi : O gi = .idx i := hI.idx.2 gi (by rw [hia]; rfl)
  have hgri : gr ≠ gi := fun e => by rw [← e, hlr] at hoi; exact hnl (.inr (.inl hoi))
  have HS1 : Hid (∀ W0, W.Extends W0 → ∀ A : Array Value, W0 = W.alloc (.cells A 39) → Fr (isRelR i lr) O W (lab O W.heap.size .no) (put W0 gr C1) ∧ (put W0 gr C1).heap[gr]? = some (.cells C1.toArray tyr (0, 0)) ∧ RelIn B (lab O W.heap.size .no) (put W0 gr C1) i sa sn sc ia iN ic L K) := by
    intro W0 hE A hA
    have hF : Fr (fun l => l = lr) O W (lab O W.heap.size .no) (put W0 gr C1) := by
      refine Fr.put (O' := lab O W.heap.size .no) ⟨hE.os, hE.tape, hE.output, hE.size, fun k hk => lab_lt hk, fun k hk _ => hE.block k hk⟩ ?_ _
      rw [lab_lt (blk_lt hb), hlr]
    refine ⟨hF.mono (fun l hl => .inl hl), ?_, hI.fr hF (fun l h1 h2 => hnl (h2 ▸ h1))⟩
    rw [heap_put, if_pos rfl, hE.block gr (blk_lt hb), hty]; rfl
  have HV : Hid (RInv ar L K) := hV
  have HNI : Hid (∀ s ∈ L, s.t ≠ t) := hni
  have HLR : Hid (O gr = lr) := hlr
  have HNL : Hid (¬ isRel i lr) := hnl
  have HNO : Hid (lr ≠ .no) := hno
  have HR1 : Hid (RelAt C1 o (ar : Int) sa sn sc ((lv + 1 : Nat) : Int) ia iN ic) := hR1
  have HCH : Hid (RelCh Cr C1 o) := hch1
  have HLV : Hid (lv = (liveL L).length) := hlv
  have HLN : Hid (L.length = sn) := hLn
  have HKN : Hid (K.length = iN) := hKn
  have HK0 : Hid (K[0]? = some k0) := hk0
  obtain ⟨size0, hs0⟩ : ∃ size0, size0 = k0.size := ⟨_, rfl⟩
  rw [← hs0] at v1' hsz0
  have HS0 : Hid (size0 = k0.size) := hs0
  have l2 : o + 2 + 1 ≤ Cr.length := by omega
  have l1 : o + 1 + 1 ≤ C1.length := by have := hR1.len; omega
  have l3 : o + 3 + 1 ≤ C1.length := by have := hR1.len; omega
  have d1 : 1 + 1 ≤ Ci.length := by omega
  have k1 := hR1.c1
  have k3 := hR1.c3
  subst hia
  have hi0 : (0 : Int) < (iN : Int) := by omega
  clear hI hV hni hlr hnl hno hR1 hch1 hlv hLn hKn hk0 hs0 hC1 hR0 hty hfew v0 v1 v2 hk0m hk0l hfull
  go_enter Try.func70, Try.ntmps70
  go_upto_region 1 with fail
  have lb := blk_lt hb
  have lbi := blk_lt hCi
  refine wp_world (fun W0 => blk W0 gr = some Cr ∧ free W0 gr = true ∧ blk W0 gi = some Ci ∧ blk W0 W.heap.size = some (arr i64v t) ∧ Hid (W.Extends W0 ∧ ∃ A : Array Value, W0 = W.alloc (.cells A 39))) ⟨?_, ?_, ?_, ?_, extends_alloc (ext_Ext (Ext.refl _)) _, ⟨_, rfl⟩⟩ ?_
  · rw [blk_alloc, if_neg (by omega)]; exact hb
  · rw [free_alloc, if_neg (by omega)]; exact hf
  · rw [blk_alloc, if_neg (by omega)]; exact hCi
  · rw [blk_alloc, if_pos rfl]
  rintro W0 ⟨hb0, hf0, hCi0, hb40, HE0⟩
  obtain ⟨b4, hb4⟩ : ∃ b4, b4 = W.heap.size := ⟨_, rfl⟩
  have h4r : b4 ≠ gr := by omega
  have HB4 : Hid (b4 = W.heap.size) := hb4
  rw [← hb4] at hb40 ⊢
  clear hb hf hCi lb lbi hb4
  have hCi1 : blk (put W0 gr C1) gi = some Ci := by rw [blk_put, if_neg (Ne.symm hgri)]; exact hCi0
  have hb1 : blk (put W0 gr C1) gr = some C1 := by rw [blk_put, if_pos rfl, hb0]; rfl
  have hb41 : blk (put W0 gr C1) b4 = some (arr i64v t) := by rw [blk_put, if_neg h4r]; exact hb40
  obtain ⟨A0, hA0⟩ := HE0.out.2
  obtain ⟨hF1, hty1, hI1⟩ := HS1.out W0 HE0.out.1 A0 hA0
  obtain ⟨O1, hO1⟩ : ∃ O1, O1 = lab O W.heap.size .no := ⟨_, rfl⟩
  rw [← hO1] at hF1 hI1
  have hlr1 : O1 gr = lr := by rw [hO1, lab_lt hgrl]; exact HLR.out
  have hob4 : O1 b4 = .no := by rw [hO1, HB4.out]; exact lab_ge (Nat.le_refl _)
  have HF1 : Hid (Fr (isRelR i lr) O W O1 (put W0 gr C1)) := hF1
  have HT1 : Hid ((put W0 gr C1).heap[gr]? = some (.cells C1.toArray tyr (0, 0))) := hty1
  have HI1 : Hid (RelIn B O1 (put W0 gr C1) i sa sn sc (some ⟨gi, 0, none⟩) iN ic L K) := hI1
  have HL1 : Hid (O1 gr = lr) := hlr1
  have HO4 : Hid (O1 b4 = .no) := hob4
  clear hF1 hty1 hI1 hlr1 hob4 hO1 hA0 HS1
  go_upto_region 5 with fail
  obtain ⟨W1, hW1⟩ : ∃ W1, W1 = put W0 gr C1 := ⟨_, rfl⟩
  rw [← hW1] at HF1 HT1 HI1 hCi1 hb1 hb41 ⊢
  clear hW1 hb0 hf0 hCi0 hb40 HE0 hC1'
  refine wp_region_held_drew (S := fun W' => blk W' gr = some C1 ∧ blk W' gi = some Ci) (by kernel_rfl) ⟨hb1, hCi1⟩ (fun hHeld => ?_)
  refine wpAnyH_take (i := 0) (oi := ⟨_, _, _, _, _, _⟩) (v := ?_) rfl (by kernel_rfl) (by kernel_rfl) (by kernel_rfl) (fun _ _ _ h => h) (Or.inl ⟨by rfl, ?_⟩) (by assumption) ?_
  rotate_left 1
  · intro W' hSw
    obtain ⟨hS1, hS2⟩ := hSw
    go_simp
    try with_reducible rfl
  try simp only [Act.put, List.setIfInBounds_toArray, List.set_cons_zero, List.set_cons_succ]
  refine wpAnyH_take (i := 1) (oi := ⟨_, _, _, _, _, _⟩) (v := ?_) rfl (by kernel_rfl) (by kernel_rfl) (by kernel_rfl) (fun _ _ _ h => h) (Or.inl ⟨by rfl, ?_⟩) (by assumption) ?_
  rotate_left 1
  · intro W' hSw
    obtain ⟨hS1, hS2⟩ := hSw
    go_simp
    try with_reducible rfl
  try simp only [Act.put, List.setIfInBounds_toArray, List.set_cons_zero, List.set_cons_succ]
  refine wpAnyH_take (i := 2) (oi := ⟨_, _, _, _, _, _⟩) (v := ?_) rfl (by kernel_rfl) (by kernel_rfl) (by kernel_rfl) (fun _ _ _ h => h) (Or.inl ⟨by rfl, ?_⟩) (by assumption) ?_
  rotate_left 1
  · intro W' hSw
    obtain ⟨hS1, hS2⟩ := hSw
    go_simp
    try with_reducible rfl
  try simp only [Act.put, List.setIfInBounds_toArray, List.set_cons_zero, List.set_cons_succ]
  refine wpAnyH_take (i := 3) (oi := ⟨_, _, _, _, _, _⟩) (v := ?_) rfl (by kernel_rfl) (by kernel_rfl) (by kernel_rfl) (fun _ _ _ h => h) (Or.inl ⟨by rfl, ?_⟩) (by assumption) ?_
  rotate_left 1
  · intro W' hSw
    obtain ⟨hS1, hS2⟩ := hSw
    go_simp
    try with_reducible rfl
  try simp only [Act.put, List.setIfInBounds_toArray, List.set_cons_zero, List.set_cons_succ]
  refine wpAnyH_take (i := 4) (oi := ⟨_, _, _, _, _, _⟩) (v := ?_) rfl (by kernel_rfl) (by kernel_rfl) (by kernel_rfl) (fun _ _ _ h => h) (Or.inl ⟨by rfl, ?_⟩) (by assumption) ?_
  rotate_left 1
  · intro W' hSw
    obtain ⟨hS1, hS2⟩ := hSw
    go_simp
    try with_reducible rfl
  try simp only [Act.put, List.setIfInBounds_toArray, List.set_cons_zero, List.set_cons_succ]
  refine wpAnyH_take (i := 5) (oi := ⟨_, _, _, _, _, _⟩) (v := ?_) rfl (by kernel_rfl) (by kernel_rfl) (by kernel_rfl) (fun _ _ _ h => h) (Or.inl ⟨by rfl, ?_⟩) (by assumption) ?_
  rotate_left 1
  · intro W' hSw
    obtain ⟨hS1, hS2⟩ := hSw
    go_simp
    try with_reducible rfl
  try simp only [Act.put, List.setIfInBounds_toArray, List.set_cons_zero, List.set_cons_succ]
  refine wpAnyH_take (i := 6) (oi := ⟨_, _, _, _, _, _⟩) (v := ?_) rfl (by kernel_rfl) (by kernel_rfl) (by kernel_rfl) (fun _ _ _ h => h) (Or.inl ⟨by rfl, ?_⟩) (by assumption) ?_
  rotate_left 1
  · intro W' hSw
    obtain ⟨hS1, hS2⟩ := hSw
    go_simp
    try with_reducible rfl
  try simp only [Act.put, List.setIfInBounds_toArray, List.set_cons_zero, List.set_cons_succ]
  refine wpAnyH_take (i := 7) (oi := ⟨_, _, _, _, _, _⟩) (v := ?_) rfl (by kernel_rfl) (by kernel_rfl) (by kernel_rfl) (fun _ _ _ h => h) (Or.inl ⟨by rfl, ?_⟩) (by assumption) ?_
  rotate_left 1
  · intro W' hSw
    obtain ⟨hS1, hS2⟩ := hSw
    go_simp
    try with_reducible rfl
  try simp only [Act.put, List.setIfInBounds_toArray, List.set_cons_zero, List.set_cons_succ]
  refine wpAnyH_take (i := 8) (oi := ⟨_, _, _, _, _, _⟩) (v := ?_) rfl (by kernel_rfl) (by kernel_rfl) (by kernel_rfl) (fun _ _ _ h => h) (Or.inl ⟨by rfl, ?_⟩) (by assumption) ?_
  rotate_left 1
  · intro W' hSw
    obtain ⟨hS1, hS2⟩ := hSw
    go_simp
    try with_reducible rfl
  try simp only [Act.put, List.setIfInBounds_toArray, List.set_cons_zero, List.set_cons_succ]
  refine wpAnyH_take (i := 9) (oi := ⟨_, _, _, _, _, _⟩) (v := ?_) rfl (by kernel_rfl) (by kernel_rfl) (by kernel_rfl) (fun _ _ _ h => h) (Or.inl ⟨by rfl, ?_⟩) (by assumption) ?_
  rotate_left 1
  · intro W' hSw
    obtain ⟨hS1, hS2⟩ := hSw
    go_simp
    try with_reducible rfl
  try simp only [Act.put, List.setIfInBounds_toArray, List.set_cons_zero, List.set_cons_succ]
  refine wpAnyH_take (i := 10) (oi := ⟨_, _, _, _, _, _⟩) (v := ?_) rfl (by kernel_rfl) (by kernel_rfl) (by kernel_rfl) (fun _ _ _ h => h) (Or.inl ⟨by rfl, ?_⟩) (by assumption) ?_
  rotate_left 1
  · intro W' hSw
    obtain ⟨hS1, hS2⟩ := hSw
    go_simp
    try with_reducible rfl
  try simp only [Act.put, List.setIfInBounds_toArray, List.set_cons_zero, List.set_cons_succ]
  refine wpAnyH_take (i := 11) (oi := ⟨_, _, _, _, _, _⟩) (v := ?_) rfl (by kernel_rfl) (by kernel_rfl) (by kernel_rfl) (fun _ _ _ h => h) (Or.inl ⟨by rfl, ?_⟩) (by assumption) ?_
  rotate_left 1
  · intro W' hSw
    obtain ⟨hS1, hS2⟩ := hSw
    go_simp
    try with_reducible rfl
  try simp only [Act.put, List.setIfInBounds_toArray, List.set_cons_zero, List.set_cons_succ]
  refine wpAnyH_take (i := 12) (oi := ⟨_, _, _, _, _, _⟩) (v := ?_) rfl (by kernel_rfl) (by kernel_rfl) (by kernel_rfl) (fun _ _ _ h => h) (Or.inl ⟨by rfl, ?_⟩) (by assumption) ?_
  rotate_left 1
  · intro W' hSw
    obtain ⟨hS1, hS2⟩ := hSw
    go_simp
    try with_reducible rfl
  try simp only [Act.put, List.setIfInBounds_toArray, List.set_cons_zero, List.set_cons_succ]
  refine wpAnyH_take (i := 13) (oi := ⟨_, _, _, _, _, _⟩) (v := ?_) rfl (by kernel_rfl) (by kernel_rfl) (by kernel_rfl) (fun _ _ _ h => h) (Or.inl ⟨by rfl, ?_⟩) (by assumption) ?_
  rotate_left 1
  · intro W' hSw
    obtain ⟨hS1, hS2⟩ := hSw
    go_simp
    try with_reducible rfl
  try simp only [Act.put, List.setIfInBounds_toArray, List.set_cons_zero, List.set_cons_succ]
  refine wpAnyH_done (by kernel_rfl) ?_ _
  by_cases hge : size0 ≤ sn
  · have hge' : (size0 : Int) ≤ (sn : Int) := by omega
    have hgb : decide ((size0 : Int) ≤ (sn : Int)) = true := decide_eq_true hge'
    go_wp2_with fail
    refine (compact_any B O1 W1.drew gr o C1 tyr lr i (ar : Int) sa sn sc ((lv + 1 : Nat) : Int) (some ⟨gi, 0, none⟩) iN ic L K HT1.out HL1.out HNL.out HR1.out (HI1.out.ext (extends_drew (ext_Ext (Ext.refl _)))) (by omega) (by omega) (Nat.le_trans hB HF1.out.size)).mono ?_
    rintro e W2 ⟨rfl, O2, K2, hF2, hty2, hI2, hKm2, hSz2⟩
    obtain ⟨hV2, hrm2⟩ := rinv_live HV.out hKm2 hSz2 hI2.sz
    obtain ⟨C2, hC2⟩ : ∃ C2, C2 = splice C1 (o + 1) [.slice sa (liveL L).length sc] := ⟨_, rfl⟩
    rw [← hC2] at hty2
    have hR2 : RelAt C2 o (ar : Int) sa (liveL L).length sc ((lv + 1 : Nat) : Int) (some ⟨gi, 0, none⟩) iN ic := by rw [hC2]; exact HR1.out.set1 _ _ _
    have hch2 : RelCh Cr C2 o := by rw [hC2]; exact HCH.out.trans (RelCh.put 1 _ (by omega) HR1.out.len)
    have hF02 : Fr (isRelR i lr) O W O2 W2 := HF1.out.trans ⟨hF2.os, hF2.tape, hF2.output, hF2.size, hF2.keep, hF2.block⟩
    have hlr2 : O2 gr = lr := (hF2.keep gr (blk_lt hb1)).trans HL1.out
    have hb42 : blk W2 b4 = some (arr i64v t) := hF2.blk (C := arr i64v t) hb41 (by rw [HO4.out]; exact (fun h => by rcases h with h | h | h | ⟨j, h⟩ | ⟨j, h⟩ <;> first | exact HNO.out h.symm | cases h))
    have hob42 : O2 b4 = .no := (hF2.keep b4 (blk_lt hb41)).trans HO4.out
    have hni2 : ∀ s ∈ liveL L, s.t ≠ t := fun s hs => HNI.out s (List.mem_filter.1 hs).1
    have hrows2 : rowsOf (liveL L) = rowsOf L := rowsOf_live L
    have hcnt2 : (liveL (liveL L)).length = lv := by rw [liveL_live]; exact HLV.out.symm
    obtain ⟨L2, hL2⟩ : ∃ L2, L2 = liveL L := ⟨_, rfl⟩
    rw [← hL2] at hI2 hV2 hrm2 hR2 hni2 hrows2 hcnt2
    obtain ⟨n2, hn2⟩ : ∃ n2, n2 = L2.length := ⟨_, rfl⟩
    rw [← hn2] at hI2 hR2
    have hn2l : n2 ≤ 2048 := by have := hV2.few.2.1; omega
    clear hC2 hL2 hF2 hSz2 hgb hge'
    dsimp only
    have hb2 : blk W2 gr = some C2 := blk_mk hty2
    have hf2 : free W2 gr = true := free_mk hty2
    have m1 := hR2.c1
    have m3 := hR2.c3
    have ml := hR2.len
    have g1l : o + 1 + 1 ≤ C2.length := by omega
    have HI2 : Hid (RelIn B O2 W2 i sa n2 sc (some ⟨gi, 0, none⟩) iN ic L2 K2) := hI2
    obtain ⟨sa3, sc3, W3, hrun, hrow3, hfr3⟩ := appL Slot.enc 6 48 106 115 Try.underlying106 info115 Slot.length_enc Slot.one_enc (by omega) (by omega) (W := W2.drew) 106 (⟨t, 0, true⟩ : Slot) (B := B) (O := O2) (l := .slots i) hI2.slots (Nat.le_trans hB hF02.size) (by rw [← hn2]; omega) (Slot.enc ⟨t, 0, true⟩).toArray rfl 1
    obtain ⟨O3, hO3⟩ : ∃ O3, O3 = lab O2 W2.drew.heap.size (.slots i) := ⟨_, rfl⟩
    rw [← hO3] at hrow3 hfr3
    clear hO3
    have hsl1 : ¬ lr = .slots i := fun e => HNL.out (.inl e)
    have hb3 : blk W3 gr = some C2 := hfr3.blk (C := C2) hb2 (by rw [hlr2]; exact hsl1)
    have hf3 : free W3 gr = true := hfr3.free (C := C2) hb2 hf2 (by rw [hlr2]; exact hsl1)
    have hty3 : W3.heap[gr]? = some (.cells C2.toArray tyr (0, 0)) := (hfr3.block gr (blk_lt hb2) (by rw [hlr2]; exact hsl1)).trans hty2
    have hb43 : blk W3 b4 = some (arr i64v t) := hfr3.blk (C := arr i64v t) hb42 (by rw [hob42]; intro e; cases e)
    have hlr3 : O3 gr = lr := (hfr3.keep gr (blk_lt hb2)).trans hlr2
    have hob43 : O3 b4 = .no := (hfr3.keep b4 (blk_lt hb42)).trans hob42
    obtain ⟨C3, hC3⟩ : ∃ C3, C3 = splice C2 (o + 1) [.slice sa3 (n2 + 1) sc3] := ⟨_, rfl⟩
    have hC3' : splice C2 (o + 1) [.slice sa3 (n2 + 1) sc3] = C3 := hC3.symm
    have hR3 : RelAt C3 o (ar : Int) sa3 (n2 + 1) sc3 ((lv + 1 : Nat) : Int) (some ⟨gi, 0, none⟩) iN ic := by rw [hC3]; exact hR2.set1 _ _ _
    have hch3 : RelCh Cr C3 o := by rw [hC3]; exact hch2.trans (RelCh.put 1 _ (by omega) hR2.len)
    have hty4 : (put W3 gr C3).heap[gr]? = some (.cells C3.toArray tyr (0, 0)) := by rw [heap_put, if_pos rfl, hty3]; rfl
    have hF04 : Fr (isRelR i lr) O W O3 (put W3 gr C3) := Fr.put (hF02.trans ⟨hfr3.os, hfr3.tape, hfr3.output, hfr3.size, hfr3.keep, fun k hk hn => hfr3.block k hk (fun e => hn (.inr (.inl e)))⟩) (by rw [hlr3]; exact .inl rfl) _
    have hF23 : Fr (fun l => l = .slots i ∨ l = lr) O2 W2 O3 W3 := ⟨hfr3.os, hfr3.tape, hfr3.output, hfr3.size, hfr3.keep, fun k hk hn => hfr3.block k hk (fun e => hn (.inl e))⟩
    have hF24 : Fr (fun l => l = .slots i ∨ l = lr) O2 W2 O3 (put W3 gr C3) := Fr.put hF23 (by rw [hlr3]; exact .inr rfl) _
    have hne : ∀ l, isRel i l → l ≠ .slots i → ¬ (l = .slots i ∨ l = lr) := fun l h1 h2 h3 => by
      rcases h3 with h3 | h3
      · exact h2 h3
      · exact HNL.out (h3 ▸ h1)
    have HLK0 : Hid (LkI B O3 (put W3 gr C3) i (some ⟨gi, 0, none⟩) iN ic L2 ⟨t, 0, true⟩ K2 0 (put W3 gr C3)) := by
      refine lk_start (HI2.out.idx.fr hF24 (hne _ (.inr (.inl rfl)) (by intro e; cases e))) (fun j k hk => ?_)
      exact (HI2.out.ixs j k hk).fr hF24 (hne _ (.inr (.inr (.inl ⟨j, rfl⟩))) (by intro e; cases e)) (hne _ (.inr (.inr (.inr ⟨j, rfl⟩))) (by intro e; cases e))
    have hrow4 : RowL B O3 (.slots i) (put W3 gr C3) 115 6 (.slice sa3 (n2 + 1) sc3) (L2 ++ [(⟨t, 0, true⟩ : Slot)]).length ((L2 ++ [(⟨t, 0, true⟩ : Slot)]).flatMap Slot.enc) := hrow3.keep (fun k hk ho => ⟨by rw [heap_put, if_neg (fun e => by rw [e, hlr3] at ho; exact hsl1 ho)], rfl⟩)
    have hKl2 : K2.length = iN := HI2.out.lens.2
    have HFIN : Hid (∀ V, LkI B O3 (put W3 gr C3) i (some ⟨gi, 0, none⟩) iN ic L2 ⟨t, 0, true⟩ K2 iN V → InsPost B O W gr o Cr tyr lr i ar L K t (.returned (.tuple #[])) V) := fun V h =>
      ins_fin B O W O3 (put W3 gr C3) gr o Cr C3 tyr lr i ar L L2 K K2 sa3 n2 sc3 (some ⟨gi, 0, none⟩) iN ic t hF04 hch3 HNL.out hlr3 (by rw [hcnt2]; exact hR3) hty4 hrow4 hn2.symm hKl2 hV2 (by rw [hcnt2]; exact hlv5) hrm2 hni2 hrows2 hKm2 V h
    have HL3 : Hid (O3 gr = lr ∧ O3 b4 = .no) := ⟨hlr3, hob43⟩
    have HKL : Hid (K2.length = iN) := hKl2
    have HN2 : Hid (n2 = L2.length) := hn2
    have HB0 : Hid (B ≤ (put W3 gr C3).heap.size) := Nat.le_trans hB hF04.size
    have o1 := hR3.c1
    have o3 := hR3.c3
    have ol := hR3.len
    have ol3 : o + 3 + 1 ≤ C3.length := by omega
    have hb44 : blk (put W3 gr C3) b4 = some (arr i64v t) := by rw [blk_put, if_neg h4r]; exact hb43
    have hb2d : blk W2.drew gr = some C2 := hb2
    have hb42d : blk W2.drew b4 = some (arr i64v t) := hb42
    have ngr : ¬ gr = W2.heap.size := Nat.ne_of_lt (blk_lt hb2)
    have hb4A : blk (W2.drew.alloc (.cells (Slot.enc ⟨t, 0, true⟩).toArray 115)) b4 = some (arr i64v t) := by
      have := blk_lt hb42d
      rw [blk_alloc, if_neg (by omega)]; exact hb42d
    clear hI2 hrow3 hfr3 hC3 hR3 hch3 hF04 hF23 hF24 hne hrow4 hV2 hrm2 hni2 hrows2 hcnt2 hKm2 hR2 hch2 hty2 hty3 hF02 hKl2 hlr2 hob42 hlr3 hob43 hn2
    go_upto_region 8 with fail
    refine wp_region_held_drew (S := fun W' => blk W' b4 = some (arr i64v t)) (by kernel_rfl) hb42 (fun hHeld => ?_)
    refine wpAnyH_take (i := 0) (oi := ⟨_, _, _, _, _, _⟩) (v := ?_) rfl (by kernel_rfl) (by kernel_rfl) (by kernel_rfl) (fun _ _ _ h => h) (Or.inl ⟨by rfl, ?_⟩) (by assumption) ?_
    rotate_left 1
    · intro W' hS1
      go_simp
      try with_reducible rfl
    try simp only [Act.put, List.setIfInBounds_toArray, List.set_cons_zero, List.set_cons_succ]
    refine wpAnyH_take (i := 1) (oi := ⟨_, _, _, _, _, _⟩) (v := ?_) rfl (by kernel_rfl) (by kernel_rfl) (by kernel_rfl) (fun _ _ _ h => h) (Or.inl ⟨by rfl, ?_⟩) (by assumption) ?_
    rotate_left 1
    · intro W' hS1
      go_simp
      try with_reducible rfl
    try simp only [Act.put, List.setIfInBounds_toArray, List.set_cons_zero, List.set_cons_succ]
    refine wpAnyH_take (i := 2) (oi := ⟨_, _, _, _, _, _⟩) (v := ?_) rfl (by kernel_rfl) (by kernel_rfl) (by kernel_rfl) (fun _ _ _ h => h) (Or.inl ⟨by rfl, ?_⟩) (by assumption) ?_
    rotate_left 1
    · intro W' hS1
      go_simp
      try with_reducible rfl
    try simp only [Act.put, List.setIfInBounds_toArray, List.set_cons_zero, List.set_cons_succ]
    refine wpAnyH_take (i := 3) (oi := ⟨_, _, _, _, _, _⟩) (v := ?_) rfl (by kernel_rfl) (by kernel_rfl) (by kernel_rfl) (fun _ _ _ h => h) (Or.inl ⟨by rfl, ?_⟩) (by assumption) ?_
    rotate_left 1
    · intro W' hS1
      go_simp
      try with_reducible rfl
    try simp only [Act.put, List.setIfInBounds_toArray, List.set_cons_zero, List.set_cons_succ]
    refine wpAnyH_take (i := 5) (oi := ⟨_, _, _, _, _, _⟩) (v := ?_) rfl (by kernel_rfl) (by kernel_rfl) (by kernel_rfl) (fun _ _ _ h => h) (Or.inl ⟨by rfl, ?_⟩) (by assumption) ?_
    rotate_left 1
    · intro W' hS1
      go_simp
      try with_reducible rfl
    try simp only [Act.put, List.setIfInBounds_toArray, List.set_cons_zero, List.set_cons_succ]
    refine wpAnyH_take (i := 6) (oi := ⟨_, _, _, _, _, _⟩) (v := ?_) rfl (by kernel_rfl) (by kernel_rfl) (by kernel_rfl) (fun _ _ _ h => h) (Or.inl ⟨by rfl, ?_⟩) (by assumption) ?_
    rotate_left 1
    · intro W' hS1
      go_simp
      try with_reducible rfl
    try simp only [Act.put, List.setIfInBounds_toArray, List.set_cons_zero, List.set_cons_succ]
    refine wpAnyH_ready (rs := [4, 7]) (by kernel_rfl) (by simp) ?_
    refine AllReadyH.cons (o := ⟨_, _, _, _, _, _⟩) rfl (fun K' hK => ?_) (AllReadyH.cons (o := ⟨_, _, _, _, _, _⟩) rfl (fun K' hK => ?_) AllReadyH.nil)
    · go_simp
      refine hK.out _ _ hb42d (fun hHeld => ?_)
      clear hK K'
      try simp only [Act.put, List.setIfInBounds_toArray, List.set_cons_zero, List.set_cons_succ]
      refine wpAnyH_ready (rs := [7]) (by kernel_rfl) (by simp) ?_
      refine AllReadyH.cons (o := ⟨_, _, _, _, _, _⟩) rfl (fun K' hK => ?_) AllReadyH.nil
      go_simp
      refine hK.out _ _ hb4A (fun hHeld => ?_)
      clear hK K'
      try simp only [Act.put, List.setIfInBounds_toArray, List.set_cons_zero, List.set_cons_succ]
      refine wpAnyH_ready (rs := [8]) (by kernel_rfl) (by simp) ?_
      refine AllReadyH.cons (o := ⟨_, _, _, _, _, _⟩) rfl (fun K' hK => ?_) AllReadyH.nil
      refine wp_append_run _ _ 106 rfl _ _ _ _ rfl rfl hrun ?_
      refine hK.out _ _ hb43 (fun hHeld => ?_)
      clear hK K'
      try simp only [Act.put, List.setIfInBounds_toArray, List.set_cons_zero, List.set_cons_succ]
      refine wpAnyH_take (i := 9) (oi := ⟨_, _, _, _, _, _⟩) (v := ?_) rfl (by kernel_rfl) (by kernel_rfl) (by kernel_rfl) (fun _ _ _ h => h) (Or.inl ⟨by rfl, ?_⟩) (by assumption) ?_
      rotate_left 1
      · intro W' hS1
        go_simp
        try with_reducible rfl
      try simp only [Act.put, List.setIfInBounds_toArray, List.set_cons_zero, List.set_cons_succ]
      refine wpAnyH_take (i := 10) (oi := ⟨_, _, _, _, _, _⟩) (v := ?_) rfl (by kernel_rfl) (by kernel_rfl) (by kernel_rfl) (fun _ _ _ h => h) (Or.inl ⟨by rfl, ?_⟩) (by assumption) ?_
      rotate_left 1
      · intro W' hS1
        go_simp
        try with_reducible rfl
      try simp only [Act.put, List.setIfInBounds_toArray, List.set_cons_zero, List.set_cons_succ]
      refine wpAnyH_ready (rs := [11]) (by kernel_rfl) (by simp) ?_
      refine AllReadyH.cons (o := ⟨_, _, _, _, _, _⟩) rfl (fun K' hK => ?_) AllReadyH.nil
      go_simp
      refine hK.out _ _ hb44 (fun hHeld => ?_)
      clear hK K'
      try simp only [Act.put, List.setIfInBounds_toArray, List.set_cons_zero, List.set_cons_succ]
      refine wpAnyH_done (by kernel_rfl) ?_ _
      obtain ⟨W4, hW4⟩ : ∃ W4, W4 = put W3 gr C3 := ⟨_, rfl⟩
      rw [← hW4] at HLK0 HFIN HB0 hb44 hty4 ⊢
      have HT4 : Hid (W4.heap[gr]? = some (.cells C3.toArray tyr (0, 0))) := hty4
      have hb4g : blk W4 gr = some C3 := blk_mk hty4
      clear hW4 hb2 hf2 hb3 hf3 hb2d hb42d hb4A hb43 hC3' hty4
      go_wp2_with fail
      refine wp_loop_f 81 (lkF B O3 W4 gr o b4 i (some ⟨gi, 0, none⟩) iN ic L2 ⟨t, 0, true⟩ K2) (fun f _ => iN - (intOf (f 7)).toNat) rfl ⟨rfl, rfl, by rw [← HN2.out]; rfl, 0, by omega, rfl, HLK0⟩ ?_
      clear HLK0
      intro F V hrel
      obtain ⟨f0, f4, f6, j, hj, f7, HQ⟩ := hrel
      have H7 : Hid (F 7 = .int .i64 (j : Nat)) := f7
      rw [← HN2.out] at f6
      have H6 : Hid (F 6 = .int .i64 (n2 : Nat)) := f6
      rw [frame81, f0, f4, f6, f7]
      clear f0 f4 f6 f7
      have hl2 : ¬ isIxs i lr := fun h => HNL.out (by
        rcases h with rfl | ⟨j, rfl⟩ | ⟨j, rfl⟩
        · exact .inr (.inl rfl)
        · exact .inr (.inr (.inl ⟨j, rfl⟩))
        · exact .inr (.inr (.inr ⟨j, rfl⟩)))
      have hl4 : ¬ isIxs i .no := by rintro (e | ⟨j, e⟩ | ⟨j, e⟩) <;> cases e
      by_cases hjn : j < iN
      · have hjn' : (j : Int) < (iN : Int) := by omega
        obtain ⟨O5, gi5, Ci5, k5, e5, htyi, hoi5, _, hsegi, hci5, hin5, hF5, hnext⟩ := lk_open HQ.out (by rw [HKL.out]; exact hjn)
        injection e5 with e5; injection e5 with e5
        subst e5
        have hbV : blk V gr = some C3 := hF5.blk hb4g (by rw [HL3.out.1]; exact hl2)
        have hb4V : blk V b4 = some (arr i64v t) := hF5.blk hb44 (by rw [HL3.out.2]; exact hl4)
        have HC : Hid (∀ V', LinkPost B O5 V.drew gi (j * 3) Ci5 135 i j k5.ha k5.size k5.size L2.length ((headsF (bsOf L2 k5.m k5.size) k5.size).set (bF t k5.m k5.size) (L2.length + 1)) (nextF (bsOf L2 k5.m k5.size) ++ [(headsF (bsOf L2 k5.m k5.size) k5.size).getD (bF t k5.m k5.size) 0]) (.returned (.tuple #[])) V' → LkI B O3 W4 i (some ⟨gi, 0, none⟩) iN ic L2 ⟨t, 0, true⟩ K2 (j + 1) V') := fun V' h => hnext V' (by
          obtain ⟨g1, O', xa, xc, hF, hrest⟩ := h
          exact ⟨g1, O', xa, xc, ⟨hF.os, hF.tape, hF.output, hF.size, hF.keep, hF.block⟩, hrest⟩)
        have q0 : (0 : Int) ≤ (j : Int) := by omega
        have q2 : ((j : Int)).toNat = j := by omega
        have HP : Hid (IxIn B O5 V i j L2 k5 ∧ seg Ci5 (j * 3) 3 = ixE (k5.m : Int) k5.ha k5.size k5.size k5.xa L2.length k5.xc ∧ V.heap[gi]? = some (.cells Ci5.toArray 135 (0, 0)) ∧ O5 gi = .idx i ∧ B ≤ V.heap.size) := ⟨hin5, hsegi, htyi, hoi5, Nat.le_trans HB0.out hF5.size⟩
        clear hin5 hsegi htyi hoi5 hnext HQ hF5
        go_upto_region 12 with fail
        refine wp_region_held_drew (S := fun W' => blk W' gr = some C3 ∧ blk W' b4 = some (arr i64v t)) (by kernel_rfl) ⟨hbV, hb4V⟩ (fun hHeld => ?_)
        refine wpAnyH_take (i := 0) (oi := ⟨_, _, _, _, _, _⟩) (v := ?_) rfl (by kernel_rfl) (by kernel_rfl) (by kernel_rfl) (fun _ _ _ h => h) (Or.inl ⟨by rfl, ?_⟩) (by assumption) ?_
        rotate_left 1
        · intro W' hSw
          obtain ⟨hS1, hS2⟩ := hSw
          go_simp
          try with_reducible rfl
        try simp only [Act.put, List.setIfInBounds_toArray, List.set_cons_zero, List.set_cons_succ]
        refine wpAnyH_take (i := 1) (oi := ⟨_, _, _, _, _, _⟩) (v := ?_) rfl (by kernel_rfl) (by kernel_rfl) (by kernel_rfl) (fun _ _ _ h => h) (Or.inl ⟨by rfl, ?_⟩) (by assumption) ?_
        rotate_left 1
        · intro W' hSw
          obtain ⟨hS1, hS2⟩ := hSw
          go_simp
          try with_reducible rfl
        try simp only [Act.put, List.setIfInBounds_toArray, List.set_cons_zero, List.set_cons_succ]
        refine wpAnyH_take (i := 2) (oi := ⟨_, _, _, _, _, _⟩) (v := ?_) rfl (by kernel_rfl) (by kernel_rfl) (by kernel_rfl) (fun _ _ _ h => h) (Or.inl ⟨by rfl, ?_⟩) (by assumption) ?_
        rotate_left 1
        · intro W' hSw
          obtain ⟨hS1, hS2⟩ := hSw
          go_simp
          try with_reducible rfl
        try simp only [Act.put, List.setIfInBounds_toArray, List.set_cons_zero, List.set_cons_succ]
        refine wpAnyH_take (i := 3) (oi := ⟨_, _, _, _, _, _⟩) (v := ?_) rfl (by kernel_rfl) (by kernel_rfl) (by kernel_rfl) (fun _ _ _ h => h) (Or.inl ⟨by rfl, ?_⟩) (by assumption) ?_
        rotate_left 1
        · intro W' hSw
          obtain ⟨hS1, hS2⟩ := hSw
          go_simp
          try with_reducible rfl
        try simp only [Act.put, List.setIfInBounds_toArray, List.set_cons_zero, List.set_cons_succ]
        refine wpAnyH_take (i := 4) (oi := ⟨_, _, _, _, _, _⟩) (v := ?_) rfl (by kernel_rfl) (by kernel_rfl) (by kernel_rfl) (fun _ _ _ h => h) (Or.inl ⟨by rfl, ?_⟩) (by assumption) ?_
        rotate_left 1
        · intro W' hSw
          obtain ⟨hS1, hS2⟩ := hSw
          go_simp
          try with_reducible rfl
        try simp only [Act.put, List.setIfInBounds_toArray, List.set_cons_zero, List.set_cons_succ]
        refine wpAnyH_take (i := 5) (oi := ⟨_, _, _, _, _, _⟩) (v := ?_) rfl (by kernel_rfl) (by kernel_rfl) (by kernel_rfl) (fun _ _ _ h => h) (Or.inl ⟨by rfl, ?_⟩) (by assumption) ?_
        rotate_left 1
        · intro W' hSw
          obtain ⟨hS1, hS2⟩ := hSw
          go_simp
          try with_reducible rfl
        try simp only [Act.put, List.setIfInBounds_toArray, List.set_cons_zero, List.set_cons_succ]
        refine wpAnyH_take (i := 6) (oi := ⟨_, _, _, _, _, _⟩) (v := ?_) rfl (by kernel_rfl) (by kernel_rfl) (by kernel_rfl) (fun _ _ _ h => h) (Or.inl ⟨by rfl, ?_⟩) (by assumption) ?_
        rotate_left 1
        · intro W' hSw
          obtain ⟨hS1, hS2⟩ := hSw
          go_simp
          try with_reducible rfl
        try simp only [Act.put, List.setIfInBounds_toArray, List.set_cons_zero, List.set_cons_succ]
        refine wpAnyH_take (i := 7) (oi := ⟨_, _, _, _, _, _⟩) (v := ?_) rfl (by kernel_rfl) (by kernel_rfl) (by kernel_rfl) (fun _ _ _ h => h) (Or.inl ⟨by rfl, ?_⟩) (by assumption) ?_
        rotate_left 1
        · intro W' hSw
          obtain ⟨hS1, hS2⟩ := hSw
          go_simp
          try with_reducible rfl
        try simp only [Act.put, List.setIfInBounds_toArray, List.set_cons_zero, List.set_cons_succ]
        refine wpAnyH_ready (rs := [8]) (by kernel_rfl) (by simp) ?_
        refine AllReadyH.cons (o := ⟨_, _, _, _, _, _⟩) rfl (fun K' hK => ?_) AllReadyH.nil
        go_simp
        obtain ⟨⟨hm5, jj5, hjj5, hj35, hj205⟩, hH5, hX5⟩ := HP.out.1
        have hlk := link_any B O5 V.drew gi (j * 3) Ci5 i j k5.m k5.ha k5.size k5.size k5.xa L2.length k5.xc _ _ t 135 HP.out.2.2.1 HP.out.2.2.2.1 HP.out.2.1 hci5 hH5 hX5 hm5 jj5 hjj5 hj205 (by rw [← HN2.out]; omega) HP.out.2.2.2.2
        rw [← HN2.out] at hlk
        refine hlk.mono ?_
        intro e V3 hP3
        rw [HN2.out] at hP3
        have HN : Hid (LkI B O3 W4 i (some ⟨gi, 0, none⟩) iN ic L2 ⟨t, 0, true⟩ K2 (j + 1) V3) := HC.out V3 (by obtain ⟨rfl, h⟩ := hP3; exact ⟨rfl, h⟩)
        have hbV3 : blk V3 gr = some C3 := by
          obtain ⟨O9, K9, g1, _⟩ := HN.out
          exact g1.blk hb4g (by rw [HL3.out.1]; exact hl2)
        have hb4V3 : blk V3 b4 = some (arr i64v t) := by
          obtain ⟨O9, K9, g1, _⟩ := HN.out
          exact g1.blk hb44 (by rw [HL3.out.2]; exact hl4)
        obtain ⟨rfl, _⟩ := hP3
        clear HC HP hlk hH5 hX5
        dsimp only
        refine hK.out _ _ ⟨hbV3, hb4V3⟩ (fun hHeld => ?_)
        clear hK K'
        try simp only [Act.put, List.setIfInBounds_toArray, List.set_cons_zero, List.set_cons_succ]
        refine wpAnyH_done (by kernel_rfl) ?_ _
        go_wp2_with fail
        refine ⟨rfl, rfl, ⟨rfl, rfl, by rw [← HN2.out]; rfl, j + 1, by omega, ?_, HN⟩, ?_⟩
        · show Value.int .i64 _ = _
          go_num
        · show iN - (intOf (Value.int .i64 _)).toNat < iN - (intOf (F 7)).toNat
          rw [H7.out]
          simp [intOf]; omega
      · obtain rfl : j = iN := by omega
        have hjn' : ¬ ((j : Int) < (j : Int)) := by omega
        have HD : Hid (InsPost B O W gr o Cr tyr lr i ar L K t (.returned (.tuple #[])) V) := HFIN.out V HQ.out
        have hbV : blk V gr = some C3 := by
          obtain ⟨O9, K9, g1, _⟩ := HQ.out
          exact g1.blk hb4g (by rw [HL3.out.1]; exact hl2)
        clear HQ HFIN
        go_wp2_with fail
        go_end0
        exact HD.out
    · go_simp
      refine hK.out _ _ hb4A (fun hHeld => ?_)
      clear hK K'
      try simp only [Act.put, List.setIfInBounds_toArray, List.set_cons_zero, List.set_cons_succ]
      refine wpAnyH_ready (rs := [4]) (by kernel_rfl) (by simp) ?_
      refine AllReadyH.cons (o := ⟨_, _, _, _, _, _⟩) rfl (fun K' hK => ?_) AllReadyH.nil
      go_simp
      refine hK.out _ _ hb4A (fun hHeld => ?_)
      clear hK K'
      try simp only [Act.put, List.setIfInBounds_toArray, List.set_cons_zero, List.set_cons_succ]
      refine wpAnyH_ready (rs := [8]) (by kernel_rfl) (by simp) ?_
      refine AllReadyH.cons (o := ⟨_, _, _, _, _, _⟩) rfl (fun K' hK => ?_) AllReadyH.nil
      refine wp_append_run _ _ 106 rfl _ _ _ _ rfl rfl hrun ?_
      refine hK.out _ _ hb43 (fun hHeld => ?_)
      clear hK K'
      try simp only [Act.put, List.setIfInBounds_toArray, List.set_cons_zero, List.set_cons_succ]
      refine wpAnyH_take (i := 9) (oi := ⟨_, _, _, _, _, _⟩) (v := ?_) rfl (by kernel_rfl) (by kernel_rfl) (by kernel_rfl) (fun _ _ _ h => h) (Or.inl ⟨by rfl, ?_⟩) (by assumption) ?_
      rotate_left 1
      · intro W' hS1
        go_simp
        try with_reducible rfl
      try simp only [Act.put, List.setIfInBounds_toArray, List.set_cons_zero, List.set_cons_succ]
      refine wpAnyH_take (i := 10) (oi := ⟨_, _, _, _, _, _⟩) (v := ?_) rfl (by kernel_rfl) (by kernel_rfl) (by kernel_rfl) (fun _ _ _ h => h) (Or.inl ⟨by rfl, ?_⟩) (by assumption) ?_
      rotate_left 1
      · intro W' hS1
        go_simp
        try with_reducible rfl
      try simp only [Act.put, List.setIfInBounds_toArray, List.set_cons_zero, List.set_cons_succ]
      refine wpAnyH_ready (rs := [11]) (by kernel_rfl) (by simp) ?_
      refine AllReadyH.cons (o := ⟨_, _, _, _, _, _⟩) rfl (fun K' hK => ?_) AllReadyH.nil
      go_simp
      refine hK.out _ _ hb44 (fun hHeld => ?_)
      clear hK K'
      try simp only [Act.put, List.setIfInBounds_toArray, List.set_cons_zero, List.set_cons_succ]
      refine wpAnyH_done (by kernel_rfl) ?_ _
      obtain ⟨W4, hW4⟩ : ∃ W4, W4 = put W3 gr C3 := ⟨_, rfl⟩
      rw [← hW4] at HLK0 HFIN HB0 hb44 hty4 ⊢
      have HT4 : Hid (W4.heap[gr]? = some (.cells C3.toArray tyr (0, 0))) := hty4
      have hb4g : blk W4 gr = some C3 := blk_mk hty4
      clear hW4 hb2 hf2 hb3 hf3 hb2d hb42d hb4A hb43 hC3' hty4
      go_wp2_with fail
      refine wp_loop_f 81 (lkF B O3 W4 gr o b4 i (some ⟨gi, 0, none⟩) iN ic L2 ⟨t, 0, true⟩ K2) (fun f _ => iN - (intOf (f 7)).toNat) rfl ⟨rfl, rfl, by rw [← HN2.out]; rfl, 0, by omega, rfl, HLK0⟩ ?_
      clear HLK0
      intro F V hrel
      obtain ⟨f0, f4, f6, j, hj, f7, HQ⟩ := hrel
      have H7 : Hid (F 7 = .int .i64 (j : Nat)) := f7
      rw [← HN2.out] at f6
      have H6 : Hid (F 6 = .int .i64 (n2 : Nat)) := f6
      rw [frame81, f0, f4, f6, f7]
      clear f0 f4 f6 f7
      have hl2 : ¬ isIxs i lr := fun h => HNL.out (by
        rcases h with rfl | ⟨j, rfl⟩ | ⟨j, rfl⟩
        · exact .inr (.inl rfl)
        · exact .inr (.inr (.inl ⟨j, rfl⟩))
        · exact .inr (.inr (.inr ⟨j, rfl⟩)))
      have hl4 : ¬ isIxs i .no := by rintro (e | ⟨j, e⟩ | ⟨j, e⟩) <;> cases e
      by_cases hjn : j < iN
      · have hjn' : (j : Int) < (iN : Int) := by omega
        obtain ⟨O5, gi5, Ci5, k5, e5, htyi, hoi5, _, hsegi, hci5, hin5, hF5, hnext⟩ := lk_open HQ.out (by rw [HKL.out]; exact hjn)
        injection e5 with e5; injection e5 with e5
        subst e5
        have hbV : blk V gr = some C3 := hF5.blk hb4g (by rw [HL3.out.1]; exact hl2)
        have hb4V : blk V b4 = some (arr i64v t) := hF5.blk hb44 (by rw [HL3.out.2]; exact hl4)
        have HC : Hid (∀ V', LinkPost B O5 V.drew gi (j * 3) Ci5 135 i j k5.ha k5.size k5.size L2.length ((headsF (bsOf L2 k5.m k5.size) k5.size).set (bF t k5.m k5.size) (L2.length + 1)) (nextF (bsOf L2 k5.m k5.size) ++ [(headsF (bsOf L2 k5.m k5.size) k5.size).getD (bF t k5.m k5.size) 0]) (.returned (.tuple #[])) V' → LkI B O3 W4 i (some ⟨gi, 0, none⟩) iN ic L2 ⟨t, 0, true⟩ K2 (j + 1) V') := fun V' h => hnext V' (by
          obtain ⟨g1, O', xa, xc, hF, hrest⟩ := h
          exact ⟨g1, O', xa, xc, ⟨hF.os, hF.tape, hF.output, hF.size, hF.keep, hF.block⟩, hrest⟩)
        have q0 : (0 : Int) ≤ (j : Int) := by omega
        have q2 : ((j : Int)).toNat = j := by omega
        have HP : Hid (IxIn B O5 V i j L2 k5 ∧ seg Ci5 (j * 3) 3 = ixE (k5.m : Int) k5.ha k5.size k5.size k5.xa L2.length k5.xc ∧ V.heap[gi]? = some (.cells Ci5.toArray 135 (0, 0)) ∧ O5 gi = .idx i ∧ B ≤ V.heap.size) := ⟨hin5, hsegi, htyi, hoi5, Nat.le_trans HB0.out hF5.size⟩
        clear hin5 hsegi htyi hoi5 hnext HQ hF5
        go_upto_region 12 with fail
        refine wp_region_held_drew (S := fun W' => blk W' gr = some C3 ∧ blk W' b4 = some (arr i64v t)) (by kernel_rfl) ⟨hbV, hb4V⟩ (fun hHeld => ?_)
        refine wpAnyH_take (i := 0) (oi := ⟨_, _, _, _, _, _⟩) (v := ?_) rfl (by kernel_rfl) (by kernel_rfl) (by kernel_rfl) (fun _ _ _ h => h) (Or.inl ⟨by rfl, ?_⟩) (by assumption) ?_
        rotate_left 1
        · intro W' hSw
          obtain ⟨hS1, hS2⟩ := hSw
          go_simp
          try with_reducible rfl
        try simp only [Act.put, List.setIfInBounds_toArray, List.set_cons_zero, List.set_cons_succ]
        refine wpAnyH_take (i := 1) (oi := ⟨_, _, _, _, _, _⟩) (v := ?_) rfl (by kernel_rfl) (by kernel_rfl) (by kernel_rfl) (fun _ _ _ h => h) (Or.inl ⟨by rfl, ?_⟩) (by assumption) ?_
        rotate_left 1
        · intro W' hSw
          obtain ⟨hS1, hS2⟩ := hSw
          go_simp
          try with_reducible rfl
        try simp only [Act.put, List.setIfInBounds_toArray, List.set_cons_zero, List.set_cons_succ]
        refine wpAnyH_take (i := 2) (oi := ⟨_, _, _, _, _, _⟩) (v := ?_) rfl (by kernel_rfl) (by kernel_rfl) (by kernel_rfl) (fun _ _ _ h => h) (Or.inl ⟨by rfl, ?_⟩) (by assumption) ?_
        rotate_left 1
        · intro W' hSw
          obtain ⟨hS1, hS2⟩ := hSw
          go_simp
          try with_reducible rfl
        try simp only [Act.put, List.setIfInBounds_toArray, List.set_cons_zero, List.set_cons_succ]
        refine wpAnyH_take (i := 3) (oi := ⟨_, _, _, _, _, _⟩) (v := ?_) rfl (by kernel_rfl) (by kernel_rfl) (by kernel_rfl) (fun _ _ _ h => h) (Or.inl ⟨by rfl, ?_⟩) (by assumption) ?_
        rotate_left 1
        · intro W' hSw
          obtain ⟨hS1, hS2⟩ := hSw
          go_simp
          try with_reducible rfl
        try simp only [Act.put, List.setIfInBounds_toArray, List.set_cons_zero, List.set_cons_succ]
        refine wpAnyH_take (i := 4) (oi := ⟨_, _, _, _, _, _⟩) (v := ?_) rfl (by kernel_rfl) (by kernel_rfl) (by kernel_rfl) (fun _ _ _ h => h) (Or.inl ⟨by rfl, ?_⟩) (by assumption) ?_
        rotate_left 1
        · intro W' hSw
          obtain ⟨hS1, hS2⟩ := hSw
          go_simp
          try with_reducible rfl
        try simp only [Act.put, List.setIfInBounds_toArray, List.set_cons_zero, List.set_cons_succ]
        refine wpAnyH_take (i := 5) (oi := ⟨_, _, _, _, _, _⟩) (v := ?_) rfl (by kernel_rfl) (by kernel_rfl) (by kernel_rfl) (fun _ _ _ h => h) (Or.inl ⟨by rfl, ?_⟩) (by assumption) ?_
        rotate_left 1
        · intro W' hSw
          obtain ⟨hS1, hS2⟩ := hSw
          go_simp
          try with_reducible rfl
        try simp only [Act.put, List.setIfInBounds_toArray, List.set_cons_zero, List.set_cons_succ]
        refine wpAnyH_take (i := 6) (oi := ⟨_, _, _, _, _, _⟩) (v := ?_) rfl (by kernel_rfl) (by kernel_rfl) (by kernel_rfl) (fun _ _ _ h => h) (Or.inl ⟨by rfl, ?_⟩) (by assumption) ?_
        rotate_left 1
        · intro W' hSw
          obtain ⟨hS1, hS2⟩ := hSw
          go_simp
          try with_reducible rfl
        try simp only [Act.put, List.setIfInBounds_toArray, List.set_cons_zero, List.set_cons_succ]
        refine wpAnyH_take (i := 7) (oi := ⟨_, _, _, _, _, _⟩) (v := ?_) rfl (by kernel_rfl) (by kernel_rfl) (by kernel_rfl) (fun _ _ _ h => h) (Or.inl ⟨by rfl, ?_⟩) (by assumption) ?_
        rotate_left 1
        · intro W' hSw
          obtain ⟨hS1, hS2⟩ := hSw
          go_simp
          try with_reducible rfl
        try simp only [Act.put, List.setIfInBounds_toArray, List.set_cons_zero, List.set_cons_succ]
        refine wpAnyH_ready (rs := [8]) (by kernel_rfl) (by simp) ?_
        refine AllReadyH.cons (o := ⟨_, _, _, _, _, _⟩) rfl (fun K' hK => ?_) AllReadyH.nil
        go_simp
        obtain ⟨⟨hm5, jj5, hjj5, hj35, hj205⟩, hH5, hX5⟩ := HP.out.1
        have hlk := link_any B O5 V.drew gi (j * 3) Ci5 i j k5.m k5.ha k5.size k5.size k5.xa L2.length k5.xc _ _ t 135 HP.out.2.2.1 HP.out.2.2.2.1 HP.out.2.1 hci5 hH5 hX5 hm5 jj5 hjj5 hj205 (by rw [← HN2.out]; omega) HP.out.2.2.2.2
        rw [← HN2.out] at hlk
        refine hlk.mono ?_
        intro e V3 hP3
        rw [HN2.out] at hP3
        have HN : Hid (LkI B O3 W4 i (some ⟨gi, 0, none⟩) iN ic L2 ⟨t, 0, true⟩ K2 (j + 1) V3) := HC.out V3 (by obtain ⟨rfl, h⟩ := hP3; exact ⟨rfl, h⟩)
        have hbV3 : blk V3 gr = some C3 := by
          obtain ⟨O9, K9, g1, _⟩ := HN.out
          exact g1.blk hb4g (by rw [HL3.out.1]; exact hl2)
        have hb4V3 : blk V3 b4 = some (arr i64v t) := by
          obtain ⟨O9, K9, g1, _⟩ := HN.out
          exact g1.blk hb44 (by rw [HL3.out.2]; exact hl4)
        obtain ⟨rfl, _⟩ := hP3
        clear HC HP hlk hH5 hX5
        dsimp only
        refine hK.out _ _ ⟨hbV3, hb4V3⟩ (fun hHeld => ?_)
        clear hK K'
        try simp only [Act.put, List.setIfInBounds_toArray, List.set_cons_zero, List.set_cons_succ]
        refine wpAnyH_done (by kernel_rfl) ?_ _
        go_wp2_with fail
        refine ⟨rfl, rfl, ⟨rfl, rfl, by rw [← HN2.out]; rfl, j + 1, by omega, ?_, HN⟩, ?_⟩
        · show Value.int .i64 _ = _
          go_num
        · show iN - (intOf (Value.int .i64 _)).toNat < iN - (intOf (F 7)).toNat
          rw [H7.out]
          simp [intOf]; omega
      · obtain rfl : j = iN := by omega
        have hjn' : ¬ ((j : Int) < (j : Int)) := by omega
        have HD : Hid (InsPost B O W gr o Cr tyr lr i ar L K t (.returned (.tuple #[])) V) := HFIN.out V HQ.out
        have hbV : blk V gr = some C3 := by
          obtain ⟨O9, K9, g1, _⟩ := HQ.out
          exact g1.blk hb4g (by rw [HL3.out.1]; exact hl2)
        clear HQ HFIN
        go_wp2_with fail
        go_end0
        exact HD.out
  · have hge' : ¬ (size0 : Int) ≤ (sn : Int) := by omega
    have hgb : decide ((size0 : Int) ≤ (sn : Int)) = false := decide_eq_false hge'
    obtain ⟨W2, hW2⟩ : ∃ W2, W2 = W1.drew := ⟨_, rfl⟩
    have hty2 : W2.heap[gr]? = some (.cells C1.toArray tyr (0, 0)) := by rw [hW2]; exact HT1.out
    have hI2 : RelIn B O1 W2 i sa sn sc (some ⟨gi, 0, none⟩) iN ic L K := by rw [hW2]; exact HI1.out.ext (extends_drew (ext_Ext (Ext.refl _)))
    have hF02 : Fr (isRelR i lr) O W O1 W2 := by rw [hW2]; exact HF1.out.drew
    have hb42 : blk W2 b4 = some (arr i64v t) := by rw [hW2]; exact hb41
    have hKm2 : K.map (·.m) = K.map (·.m) := rfl
    have hV2 := HV.out
    have hrm2 : ∃ k, K[0]? = some k ∧ L.length + 1 ≤ k.size := ⟨k0, HK0.out, by rw [← HS0.out, HLN.out]; omega⟩
    have hR2 := HR1.out
    have hch2 := HCH.out
    have hlr2 := HL1.out
    have hob42 := HO4.out
    have hni2 := HNI.out
    have hrows2 : rowsOf L = rowsOf L := rfl
    have hcnt2 : (liveL L).length = lv := HLV.out.symm
    have hn2 : sn = L.length := HLN.out.symm
    have hn2l : sn ≤ 2048 := hsn
    rw [← hW2]
    clear hW2 hgb
    have hb2 : blk W2 gr = some C1 := blk_mk hty2
    have hf2 : free W2 gr = true := free_mk hty2
    have m1 := hR2.c1
    have m3 := hR2.c3
    have ml := hR2.len
    have g1l : o + 1 + 1 ≤ C1.length := by omega
    have HI2 : Hid (RelIn B O1 W2 i sa sn sc (some ⟨gi, 0, none⟩) iN ic L K) := hI2
    obtain ⟨sa3, sc3, W3, hrun, hrow3, hfr3⟩ := appL Slot.enc 6 48 106 115 Try.underlying106 info115 Slot.length_enc Slot.one_enc (by omega) (by omega) (W := W2.drew) 106 (⟨t, 0, true⟩ : Slot) (B := B) (O := O1) (l := .slots i) hI2.slots (Nat.le_trans hB hF02.size) (by rw [← hn2]; omega) (Slot.enc ⟨t, 0, true⟩).toArray rfl 1
    obtain ⟨O3, hO3⟩ : ∃ O3, O3 = lab O1 W2.drew.heap.size (.slots i) := ⟨_, rfl⟩
    rw [← hO3] at hrow3 hfr3
    clear hO3
    have hsl1 : ¬ lr = .slots i := fun e => HNL.out (.inl e)
    have hb3 : blk W3 gr = some C1 := hfr3.blk (C := C1) hb2 (by rw [hlr2]; exact hsl1)
    have hf3 : free W3 gr = true := hfr3.free (C := C1) hb2 hf2 (by rw [hlr2]; exact hsl1)
    have hty3 : W3.heap[gr]? = some (.cells C1.toArray tyr (0, 0)) := (hfr3.block gr (blk_lt hb2) (by rw [hlr2]; exact hsl1)).trans hty2
    have hb43 : blk W3 b4 = some (arr i64v t) := hfr3.blk (C := arr i64v t) hb42 (by rw [hob42]; intro e; cases e)
    have hlr3 : O3 gr = lr := (hfr3.keep gr (blk_lt hb2)).trans hlr2
    have hob43 : O3 b4 = .no := (hfr3.keep b4 (blk_lt hb42)).trans hob42
    obtain ⟨C3, hC3⟩ : ∃ C3, C3 = splice C1 (o + 1) [.slice sa3 (sn + 1) sc3] := ⟨_, rfl⟩
    have hC3' : splice C1 (o + 1) [.slice sa3 (sn + 1) sc3] = C3 := hC3.symm
    have hR3 : RelAt C3 o (ar : Int) sa3 (sn + 1) sc3 ((lv + 1 : Nat) : Int) (some ⟨gi, 0, none⟩) iN ic := by rw [hC3]; exact hR2.set1 _ _ _
    have hch3 : RelCh Cr C3 o := by rw [hC3]; exact hch2.trans (RelCh.put 1 _ (by omega) hR2.len)
    have hty4 : (put W3 gr C3).heap[gr]? = some (.cells C3.toArray tyr (0, 0)) := by rw [heap_put, if_pos rfl, hty3]; rfl
    have hF04 : Fr (isRelR i lr) O W O3 (put W3 gr C3) := Fr.put (hF02.trans ⟨hfr3.os, hfr3.tape, hfr3.output, hfr3.size, hfr3.keep, fun k hk hn => hfr3.block k hk (fun e => hn (.inr (.inl e)))⟩) (by rw [hlr3]; exact .inl rfl) _
    have hF23 : Fr (fun l => l = .slots i ∨ l = lr) O1 W2 O3 W3 := ⟨hfr3.os, hfr3.tape, hfr3.output, hfr3.size, hfr3.keep, fun k hk hn => hfr3.block k hk (fun e => hn (.inl e))⟩
    have hF24 : Fr (fun l => l = .slots i ∨ l = lr) O1 W2 O3 (put W3 gr C3) := Fr.put hF23 (by rw [hlr3]; exact .inr rfl) _
    have hne : ∀ l, isRel i l → l ≠ .slots i → ¬ (l = .slots i ∨ l = lr) := fun l h1 h2 h3 => by
      rcases h3 with h3 | h3
      · exact h2 h3
      · exact HNL.out (h3 ▸ h1)
    have HLK0 : Hid (LkI B O3 (put W3 gr C3) i (some ⟨gi, 0, none⟩) iN ic L ⟨t, 0, true⟩ K 0 (put W3 gr C3)) := by
      refine lk_start (HI2.out.idx.fr hF24 (hne _ (.inr (.inl rfl)) (by intro e; cases e))) (fun j k hk => ?_)
      exact (HI2.out.ixs j k hk).fr hF24 (hne _ (.inr (.inr (.inl ⟨j, rfl⟩))) (by intro e; cases e)) (hne _ (.inr (.inr (.inr ⟨j, rfl⟩))) (by intro e; cases e))
    have hrow4 : RowL B O3 (.slots i) (put W3 gr C3) 115 6 (.slice sa3 (sn + 1) sc3) (L ++ [(⟨t, 0, true⟩ : Slot)]).length ((L ++ [(⟨t, 0, true⟩ : Slot)]).flatMap Slot.enc) := hrow3.keep (fun k hk ho => ⟨by rw [heap_put, if_neg (fun e => by rw [e, hlr3] at ho; exact hsl1 ho)], rfl⟩)
    have hKl2 : K.length = iN := HI2.out.lens.2
    have HFIN : Hid (∀ V, LkI B O3 (put W3 gr C3) i (some ⟨gi, 0, none⟩) iN ic L ⟨t, 0, true⟩ K iN V → InsPost B O W gr o Cr tyr lr i ar L K t (.returned (.tuple #[])) V) := fun V h =>
      ins_fin B O W O3 (put W3 gr C3) gr o Cr C3 tyr lr i ar L L K K sa3 sn sc3 (some ⟨gi, 0, none⟩) iN ic t hF04 hch3 HNL.out hlr3 (by rw [hcnt2]; exact hR3) hty4 hrow4 hn2.symm hKl2 hV2 (by rw [hcnt2]; exact hlv5) hrm2 hni2 hrows2 hKm2 V h
    have HL3 : Hid (O3 gr = lr ∧ O3 b4 = .no) := ⟨hlr3, hob43⟩
    have HKL : Hid (K.length = iN) := hKl2
    have HN2 : Hid (sn = L.length) := hn2
    have HB0 : Hid (B ≤ (put W3 gr C3).heap.size) := Nat.le_trans hB hF04.size
    have o1 := hR3.c1
    have o3 := hR3.c3
    have ol := hR3.len
    have ol3 : o + 3 + 1 ≤ C3.length := by omega
    have hb44 : blk (put W3 gr C3) b4 = some (arr i64v t) := by rw [blk_put, if_neg h4r]; exact hb43
    have hb2d : blk W2.drew gr = some C1 := hb2
    have hb42d : blk W2.drew b4 = some (arr i64v t) := hb42
    have ngr : ¬ gr = W2.heap.size := Nat.ne_of_lt (blk_lt hb2)
    have hb4A : blk (W2.drew.alloc (.cells (Slot.enc ⟨t, 0, true⟩).toArray 115)) b4 = some (arr i64v t) := by
      have := blk_lt hb42d
      rw [blk_alloc, if_neg (by omega)]; exact hb42d
    clear hI2 hrow3 hfr3 hC3 hR3 hch3 hF04 hF23 hF24 hne hrow4 hV2 hrm2 hni2 hrows2 hcnt2 hKm2 hR2 hch2 hty2 hty3 hF02 hKl2 hlr2 hob42 hlr3 hob43 hn2
    go_upto_region 8 with fail
    refine wp_region_held_drew (S := fun W' => blk W' b4 = some (arr i64v t)) (by kernel_rfl) hb42 (fun hHeld => ?_)
    refine wpAnyH_take (i := 0) (oi := ⟨_, _, _, _, _, _⟩) (v := ?_) rfl (by kernel_rfl) (by kernel_rfl) (by kernel_rfl) (fun _ _ _ h => h) (Or.inl ⟨by rfl, ?_⟩) (by assumption) ?_
    rotate_left 1
    · intro W' hS1
      go_simp
      try with_reducible rfl
    try simp only [Act.put, List.setIfInBounds_toArray, List.set_cons_zero, List.set_cons_succ]
    refine wpAnyH_take (i := 1) (oi := ⟨_, _, _, _, _, _⟩) (v := ?_) rfl (by kernel_rfl) (by kernel_rfl) (by kernel_rfl) (fun _ _ _ h => h) (Or.inl ⟨by rfl, ?_⟩) (by assumption) ?_
    rotate_left 1
    · intro W' hS1
      go_simp
      try with_reducible rfl
    try simp only [Act.put, List.setIfInBounds_toArray, List.set_cons_zero, List.set_cons_succ]
    refine wpAnyH_take (i := 2) (oi := ⟨_, _, _, _, _, _⟩) (v := ?_) rfl (by kernel_rfl) (by kernel_rfl) (by kernel_rfl) (fun _ _ _ h => h) (Or.inl ⟨by rfl, ?_⟩) (by assumption) ?_
    rotate_left 1
    · intro W' hS1
      go_simp
      try with_reducible rfl
    try simp only [Act.put, List.setIfInBounds_toArray, List.set_cons_zero, List.set_cons_succ]
    refine wpAnyH_take (i := 3) (oi := ⟨_, _, _, _, _, _⟩) (v := ?_) rfl (by kernel_rfl) (by kernel_rfl) (by kernel_rfl) (fun _ _ _ h => h) (Or.inl ⟨by rfl, ?_⟩) (by assumption) ?_
    rotate_left 1
    · intro W' hS1
      go_simp
      try with_reducible rfl
    try simp only [Act.put, List.setIfInBounds_toArray, List.set_cons_zero, List.set_cons_succ]
    refine wpAnyH_take (i := 5) (oi := ⟨_, _, _, _, _, _⟩) (v := ?_) rfl (by kernel_rfl) (by kernel_rfl) (by kernel_rfl) (fun _ _ _ h => h) (Or.inl ⟨by rfl, ?_⟩) (by assumption) ?_
    rotate_left 1
    · intro W' hS1
      go_simp
      try with_reducible rfl
    try simp only [Act.put, List.setIfInBounds_toArray, List.set_cons_zero, List.set_cons_succ]
    refine wpAnyH_take (i := 6) (oi := ⟨_, _, _, _, _, _⟩) (v := ?_) rfl (by kernel_rfl) (by kernel_rfl) (by kernel_rfl) (fun _ _ _ h => h) (Or.inl ⟨by rfl, ?_⟩) (by assumption) ?_
    rotate_left 1
    · intro W' hS1
      go_simp
      try with_reducible rfl
    try simp only [Act.put, List.setIfInBounds_toArray, List.set_cons_zero, List.set_cons_succ]
    refine wpAnyH_ready (rs := [4, 7]) (by kernel_rfl) (by simp) ?_
    refine AllReadyH.cons (o := ⟨_, _, _, _, _, _⟩) rfl (fun K' hK => ?_) (AllReadyH.cons (o := ⟨_, _, _, _, _, _⟩) rfl (fun K' hK => ?_) AllReadyH.nil)
    · go_simp
      refine hK.out _ _ hb42d (fun hHeld => ?_)
      clear hK K'
      try simp only [Act.put, List.setIfInBounds_toArray, List.set_cons_zero, List.set_cons_succ]
      refine wpAnyH_ready (rs := [7]) (by kernel_rfl) (by simp) ?_
      refine AllReadyH.cons (o := ⟨_, _, _, _, _, _⟩) rfl (fun K' hK => ?_) AllReadyH.nil
      go_simp
      refine hK.out _ _ hb4A (fun hHeld => ?_)
      clear hK K'
      try simp only [Act.put, List.setIfInBounds_toArray, List.set_cons_zero, List.set_cons_succ]
      refine wpAnyH_ready (rs := [8]) (by kernel_rfl) (by simp) ?_
      refine AllReadyH.cons (o := ⟨_, _, _, _, _, _⟩) rfl (fun K' hK => ?_) AllReadyH.nil
      refine wp_append_run _ _ 106 rfl _ _ _ _ rfl rfl hrun ?_
      refine hK.out _ _ hb43 (fun hHeld => ?_)
      clear hK K'
      try simp only [Act.put, List.setIfInBounds_toArray, List.set_cons_zero, List.set_cons_succ]
      refine wpAnyH_take (i := 9) (oi := ⟨_, _, _, _, _, _⟩) (v := ?_) rfl (by kernel_rfl) (by kernel_rfl) (by kernel_rfl) (fun _ _ _ h => h) (Or.inl ⟨by rfl, ?_⟩) (by assumption) ?_
      rotate_left 1
      · intro W' hS1
        go_simp
        try with_reducible rfl
      try simp only [Act.put, List.setIfInBounds_toArray, List.set_cons_zero, List.set_cons_succ]
      refine wpAnyH_take (i := 10) (oi := ⟨_, _, _, _, _, _⟩) (v := ?_) rfl (by kernel_rfl) (by kernel_rfl) (by kernel_rfl) (fun _ _ _ h => h) (Or.inl ⟨by rfl, ?_⟩) (by assumption) ?_
      rotate_left 1
      · intro W' hS1
        go_simp
        try with_reducible rfl
      try simp only [Act.put, List.setIfInBounds_toArray, List.set_cons_zero, List.set_cons_succ]
      refine wpAnyH_ready (rs := [11]) (by kernel_rfl) (by simp) ?_
      refine AllReadyH.cons (o := ⟨_, _, _, _, _, _⟩) rfl (fun K' hK => ?_) AllReadyH.nil
      go_simp
      refine hK.out _ _ hb44 (fun hHeld => ?_)
      clear hK K'
      try simp only [Act.put, List.setIfInBounds_toArray, List.set_cons_zero, List.set_cons_succ]
      refine wpAnyH_done (by kernel_rfl) ?_ _
      obtain ⟨W4, hW4⟩ : ∃ W4, W4 = put W3 gr C3 := ⟨_, rfl⟩
      rw [← hW4] at HLK0 HFIN HB0 hb44 hty4 ⊢
      have HT4 : Hid (W4.heap[gr]? = some (.cells C3.toArray tyr (0, 0))) := hty4
      have hb4g : blk W4 gr = some C3 := blk_mk hty4
      clear hW4 hb2 hf2 hb3 hf3 hb2d hb42d hb4A hb43 hC3' hty4
      go_wp2_with fail
      refine wp_loop_f 81 (lkF B O3 W4 gr o b4 i (some ⟨gi, 0, none⟩) iN ic L ⟨t, 0, true⟩ K) (fun f _ => iN - (intOf (f 7)).toNat) rfl ⟨rfl, rfl, by rw [← HN2.out]; rfl, 0, by omega, rfl, HLK0⟩ ?_
      clear HLK0
      intro F V hrel
      obtain ⟨f0, f4, f6, j, hj, f7, HQ⟩ := hrel
      have H7 : Hid (F 7 = .int .i64 (j : Nat)) := f7
      rw [← HN2.out] at f6
      have H6 : Hid (F 6 = .int .i64 (sn : Nat)) := f6
      rw [frame81, f0, f4, f6, f7]
      clear f0 f4 f6 f7
      have hl2 : ¬ isIxs i lr := fun h => HNL.out (by
        rcases h with rfl | ⟨j, rfl⟩ | ⟨j, rfl⟩
        · exact .inr (.inl rfl)
        · exact .inr (.inr (.inl ⟨j, rfl⟩))
        · exact .inr (.inr (.inr ⟨j, rfl⟩)))
      have hl4 : ¬ isIxs i .no := by rintro (e | ⟨j, e⟩ | ⟨j, e⟩) <;> cases e
      by_cases hjn : j < iN
      · have hjn' : (j : Int) < (iN : Int) := by omega
        obtain ⟨O5, gi5, Ci5, k5, e5, htyi, hoi5, _, hsegi, hci5, hin5, hF5, hnext⟩ := lk_open HQ.out (by rw [HKL.out]; exact hjn)
        injection e5 with e5; injection e5 with e5
        subst e5
        have hbV : blk V gr = some C3 := hF5.blk hb4g (by rw [HL3.out.1]; exact hl2)
        have hb4V : blk V b4 = some (arr i64v t) := hF5.blk hb44 (by rw [HL3.out.2]; exact hl4)
        have HC : Hid (∀ V', LinkPost B O5 V.drew gi (j * 3) Ci5 135 i j k5.ha k5.size k5.size L.length ((headsF (bsOf L k5.m k5.size) k5.size).set (bF t k5.m k5.size) (L.length + 1)) (nextF (bsOf L k5.m k5.size) ++ [(headsF (bsOf L k5.m k5.size) k5.size).getD (bF t k5.m k5.size) 0]) (.returned (.tuple #[])) V' → LkI B O3 W4 i (some ⟨gi, 0, none⟩) iN ic L ⟨t, 0, true⟩ K (j + 1) V') := fun V' h => hnext V' (by
          obtain ⟨g1, O', xa, xc, hF, hrest⟩ := h
          exact ⟨g1, O', xa, xc, ⟨hF.os, hF.tape, hF.output, hF.size, hF.keep, hF.block⟩, hrest⟩)
        have q0 : (0 : Int) ≤ (j : Int) := by omega
        have q2 : ((j : Int)).toNat = j := by omega
        have HP : Hid (IxIn B O5 V i j L k5 ∧ seg Ci5 (j * 3) 3 = ixE (k5.m : Int) k5.ha k5.size k5.size k5.xa L.length k5.xc ∧ V.heap[gi]? = some (.cells Ci5.toArray 135 (0, 0)) ∧ O5 gi = .idx i ∧ B ≤ V.heap.size) := ⟨hin5, hsegi, htyi, hoi5, Nat.le_trans HB0.out hF5.size⟩
        clear hin5 hsegi htyi hoi5 hnext HQ hF5
        go_upto_region 12 with fail
        refine wp_region_held_drew (S := fun W' => blk W' gr = some C3 ∧ blk W' b4 = some (arr i64v t)) (by kernel_rfl) ⟨hbV, hb4V⟩ (fun hHeld => ?_)
        refine wpAnyH_take (i := 0) (oi := ⟨_, _, _, _, _, _⟩) (v := ?_) rfl (by kernel_rfl) (by kernel_rfl) (by kernel_rfl) (fun _ _ _ h => h) (Or.inl ⟨by rfl, ?_⟩) (by assumption) ?_
        rotate_left 1
        · intro W' hSw
          obtain ⟨hS1, hS2⟩ := hSw
          go_simp
          try with_reducible rfl
        try simp only [Act.put, List.setIfInBounds_toArray, List.set_cons_zero, List.set_cons_succ]
        refine wpAnyH_take (i := 1) (oi := ⟨_, _, _, _, _, _⟩) (v := ?_) rfl (by kernel_rfl) (by kernel_rfl) (by kernel_rfl) (fun _ _ _ h => h) (Or.inl ⟨by rfl, ?_⟩) (by assumption) ?_
        rotate_left 1
        · intro W' hSw
          obtain ⟨hS1, hS2⟩ := hSw
          go_simp
          try with_reducible rfl
        try simp only [Act.put, List.setIfInBounds_toArray, List.set_cons_zero, List.set_cons_succ]
        refine wpAnyH_take (i := 2) (oi := ⟨_, _, _, _, _, _⟩) (v := ?_) rfl (by kernel_rfl) (by kernel_rfl) (by kernel_rfl) (fun _ _ _ h => h) (Or.inl ⟨by rfl, ?_⟩) (by assumption) ?_
        rotate_left 1
        · intro W' hSw
          obtain ⟨hS1, hS2⟩ := hSw
          go_simp
          try with_reducible rfl
        try simp only [Act.put, List.setIfInBounds_toArray, List.set_cons_zero, List.set_cons_succ]
        refine wpAnyH_take (i := 3) (oi := ⟨_, _, _, _, _, _⟩) (v := ?_) rfl (by kernel_rfl) (by kernel_rfl) (by kernel_rfl) (fun _ _ _ h => h) (Or.inl ⟨by rfl, ?_⟩) (by assumption) ?_
        rotate_left 1
        · intro W' hSw
          obtain ⟨hS1, hS2⟩ := hSw
          go_simp
          try with_reducible rfl
        try simp only [Act.put, List.setIfInBounds_toArray, List.set_cons_zero, List.set_cons_succ]
        refine wpAnyH_take (i := 4) (oi := ⟨_, _, _, _, _, _⟩) (v := ?_) rfl (by kernel_rfl) (by kernel_rfl) (by kernel_rfl) (fun _ _ _ h => h) (Or.inl ⟨by rfl, ?_⟩) (by assumption) ?_
        rotate_left 1
        · intro W' hSw
          obtain ⟨hS1, hS2⟩ := hSw
          go_simp
          try with_reducible rfl
        try simp only [Act.put, List.setIfInBounds_toArray, List.set_cons_zero, List.set_cons_succ]
        refine wpAnyH_take (i := 5) (oi := ⟨_, _, _, _, _, _⟩) (v := ?_) rfl (by kernel_rfl) (by kernel_rfl) (by kernel_rfl) (fun _ _ _ h => h) (Or.inl ⟨by rfl, ?_⟩) (by assumption) ?_
        rotate_left 1
        · intro W' hSw
          obtain ⟨hS1, hS2⟩ := hSw
          go_simp
          try with_reducible rfl
        try simp only [Act.put, List.setIfInBounds_toArray, List.set_cons_zero, List.set_cons_succ]
        refine wpAnyH_take (i := 6) (oi := ⟨_, _, _, _, _, _⟩) (v := ?_) rfl (by kernel_rfl) (by kernel_rfl) (by kernel_rfl) (fun _ _ _ h => h) (Or.inl ⟨by rfl, ?_⟩) (by assumption) ?_
        rotate_left 1
        · intro W' hSw
          obtain ⟨hS1, hS2⟩ := hSw
          go_simp
          try with_reducible rfl
        try simp only [Act.put, List.setIfInBounds_toArray, List.set_cons_zero, List.set_cons_succ]
        refine wpAnyH_take (i := 7) (oi := ⟨_, _, _, _, _, _⟩) (v := ?_) rfl (by kernel_rfl) (by kernel_rfl) (by kernel_rfl) (fun _ _ _ h => h) (Or.inl ⟨by rfl, ?_⟩) (by assumption) ?_
        rotate_left 1
        · intro W' hSw
          obtain ⟨hS1, hS2⟩ := hSw
          go_simp
          try with_reducible rfl
        try simp only [Act.put, List.setIfInBounds_toArray, List.set_cons_zero, List.set_cons_succ]
        refine wpAnyH_ready (rs := [8]) (by kernel_rfl) (by simp) ?_
        refine AllReadyH.cons (o := ⟨_, _, _, _, _, _⟩) rfl (fun K' hK => ?_) AllReadyH.nil
        go_simp
        obtain ⟨⟨hm5, jj5, hjj5, hj35, hj205⟩, hH5, hX5⟩ := HP.out.1
        have hlk := link_any B O5 V.drew gi (j * 3) Ci5 i j k5.m k5.ha k5.size k5.size k5.xa L.length k5.xc _ _ t 135 HP.out.2.2.1 HP.out.2.2.2.1 HP.out.2.1 hci5 hH5 hX5 hm5 jj5 hjj5 hj205 (by rw [← HN2.out]; omega) HP.out.2.2.2.2
        rw [← HN2.out] at hlk
        refine hlk.mono ?_
        intro e V3 hP3
        rw [HN2.out] at hP3
        have HN : Hid (LkI B O3 W4 i (some ⟨gi, 0, none⟩) iN ic L ⟨t, 0, true⟩ K (j + 1) V3) := HC.out V3 (by obtain ⟨rfl, h⟩ := hP3; exact ⟨rfl, h⟩)
        have hbV3 : blk V3 gr = some C3 := by
          obtain ⟨O9, K9, g1, _⟩ := HN.out
          exact g1.blk hb4g (by rw [HL3.out.1]; exact hl2)
        have hb4V3 : blk V3 b4 = some (arr i64v t) := by
          obtain ⟨O9, K9, g1, _⟩ := HN.out
          exact g1.blk hb44 (by rw [HL3.out.2]; exact hl4)
        obtain ⟨rfl, _⟩ := hP3
        clear HC HP hlk hH5 hX5
        dsimp only
        refine hK.out _ _ ⟨hbV3, hb4V3⟩ (fun hHeld => ?_)
        clear hK K'
        try simp only [Act.put, List.setIfInBounds_toArray, List.set_cons_zero, List.set_cons_succ]
        refine wpAnyH_done (by kernel_rfl) ?_ _
        go_wp2_with fail
        refine ⟨rfl, rfl, ⟨rfl, rfl, by rw [← HN2.out]; rfl, j + 1, by omega, ?_, HN⟩, ?_⟩
        · show Value.int .i64 _ = _
          go_num
        · show iN - (intOf (Value.int .i64 _)).toNat < iN - (intOf (F 7)).toNat
          rw [H7.out]
          simp [intOf]; omega
      · obtain rfl : j = iN := by omega
        have hjn' : ¬ ((j : Int) < (j : Int)) := by omega
        have HD : Hid (InsPost B O W gr o Cr tyr lr i ar L K t (.returned (.tuple #[])) V) := HFIN.out V HQ.out
        have hbV : blk V gr = some C3 := by
          obtain ⟨O9, K9, g1, _⟩ := HQ.out
          exact g1.blk hb4g (by rw [HL3.out.1]; exact hl2)
        clear HQ HFIN
        go_wp2_with fail
        go_end0
        exact HD.out
    · go_simp
      refine hK.out _ _ hb4A (fun hHeld => ?_)
      clear hK K'
      try simp only [Act.put, List.setIfInBounds_toArray, List.set_cons_zero, List.set_cons_succ]
      refine wpAnyH_ready (rs := [4]) (by kernel_rfl) (by simp) ?_
      refine AllReadyH.cons (o := ⟨_, _, _, _, _, _⟩) rfl (fun K' hK => ?_) AllReadyH.nil
      go_simp
      refine hK.out _ _ hb4A (fun hHeld => ?_)
      clear hK K'
      try simp only [Act.put, List.setIfInBounds_toArray, List.set_cons_zero, List.set_cons_succ]
      refine wpAnyH_ready (rs := [8]) (by kernel_rfl) (by simp) ?_
      refine AllReadyH.cons (o := ⟨_, _, _, _, _, _⟩) rfl (fun K' hK => ?_) AllReadyH.nil
      refine wp_append_run _ _ 106 rfl _ _ _ _ rfl rfl hrun ?_
      refine hK.out _ _ hb43 (fun hHeld => ?_)
      clear hK K'
      try simp only [Act.put, List.setIfInBounds_toArray, List.set_cons_zero, List.set_cons_succ]
      refine wpAnyH_take (i := 9) (oi := ⟨_, _, _, _, _, _⟩) (v := ?_) rfl (by kernel_rfl) (by kernel_rfl) (by kernel_rfl) (fun _ _ _ h => h) (Or.inl ⟨by rfl, ?_⟩) (by assumption) ?_
      rotate_left 1
      · intro W' hS1
        go_simp
        try with_reducible rfl
      try simp only [Act.put, List.setIfInBounds_toArray, List.set_cons_zero, List.set_cons_succ]
      refine wpAnyH_take (i := 10) (oi := ⟨_, _, _, _, _, _⟩) (v := ?_) rfl (by kernel_rfl) (by kernel_rfl) (by kernel_rfl) (fun _ _ _ h => h) (Or.inl ⟨by rfl, ?_⟩) (by assumption) ?_
      rotate_left 1
      · intro W' hS1
        go_simp
        try with_reducible rfl
      try simp only [Act.put, List.setIfInBounds_toArray, List.set_cons_zero, List.set_cons_succ]
      refine wpAnyH_ready (rs := [11]) (by kernel_rfl) (by simp) ?_
      refine AllReadyH.cons (o := ⟨_, _, _, _, _, _⟩) rfl (fun K' hK => ?_) AllReadyH.nil
      go_simp
      refine hK.out _ _ hb44 (fun hHeld => ?_)
      clear hK K'
      try simp only [Act.put, List.setIfInBounds_toArray, List.set_cons_zero, List.set_cons_succ]
      refine wpAnyH_done (by kernel_rfl) ?_ _
      obtain ⟨W4, hW4⟩ : ∃ W4, W4 = put W3 gr C3 := ⟨_, rfl⟩
      rw [← hW4] at HLK0 HFIN HB0 hb44 hty4 ⊢
      have HT4 : Hid (W4.heap[gr]? = some (.cells C3.toArray tyr (0, 0))) := hty4
      have hb4g : blk W4 gr = some C3 := blk_mk hty4
      clear hW4 hb2 hf2 hb3 hf3 hb2d hb42d hb4A hb43 hC3' hty4
      go_wp2_with fail
      refine wp_loop_f 81 (lkF B O3 W4 gr o b4 i (some ⟨gi, 0, none⟩) iN ic L ⟨t, 0, true⟩ K) (fun f _ => iN - (intOf (f 7)).toNat) rfl ⟨rfl, rfl, by rw [← HN2.out]; rfl, 0, by omega, rfl, HLK0⟩ ?_
      clear HLK0
      intro F V hrel
      obtain ⟨f0, f4, f6, j, hj, f7, HQ⟩ := hrel
      have H7 : Hid (F 7 = .int .i64 (j : Nat)) := f7
      rw [← HN2.out] at f6
      have H6 : Hid (F 6 = .int .i64 (sn : Nat)) := f6
      rw [frame81, f0, f4, f6, f7]
      clear f0 f4 f6 f7
      have hl2 : ¬ isIxs i lr := fun h => HNL.out (by
        rcases h with rfl | ⟨j, rfl⟩ | ⟨j, rfl⟩
        · exact .inr (.inl rfl)
        · exact .inr (.inr (.inl ⟨j, rfl⟩))
        · exact .inr (.inr (.inr ⟨j, rfl⟩)))
      have hl4 : ¬ isIxs i .no := by rintro (e | ⟨j, e⟩ | ⟨j, e⟩) <;> cases e
      by_cases hjn : j < iN
      · have hjn' : (j : Int) < (iN : Int) := by omega
        obtain ⟨O5, gi5, Ci5, k5, e5, htyi, hoi5, _, hsegi, hci5, hin5, hF5, hnext⟩ := lk_open HQ.out (by rw [HKL.out]; exact hjn)
        injection e5 with e5; injection e5 with e5
        subst e5
        have hbV : blk V gr = some C3 := hF5.blk hb4g (by rw [HL3.out.1]; exact hl2)
        have hb4V : blk V b4 = some (arr i64v t) := hF5.blk hb44 (by rw [HL3.out.2]; exact hl4)
        have HC : Hid (∀ V', LinkPost B O5 V.drew gi (j * 3) Ci5 135 i j k5.ha k5.size k5.size L.length ((headsF (bsOf L k5.m k5.size) k5.size).set (bF t k5.m k5.size) (L.length + 1)) (nextF (bsOf L k5.m k5.size) ++ [(headsF (bsOf L k5.m k5.size) k5.size).getD (bF t k5.m k5.size) 0]) (.returned (.tuple #[])) V' → LkI B O3 W4 i (some ⟨gi, 0, none⟩) iN ic L ⟨t, 0, true⟩ K (j + 1) V') := fun V' h => hnext V' (by
          obtain ⟨g1, O', xa, xc, hF, hrest⟩ := h
          exact ⟨g1, O', xa, xc, ⟨hF.os, hF.tape, hF.output, hF.size, hF.keep, hF.block⟩, hrest⟩)
        have q0 : (0 : Int) ≤ (j : Int) := by omega
        have q2 : ((j : Int)).toNat = j := by omega
        have HP : Hid (IxIn B O5 V i j L k5 ∧ seg Ci5 (j * 3) 3 = ixE (k5.m : Int) k5.ha k5.size k5.size k5.xa L.length k5.xc ∧ V.heap[gi]? = some (.cells Ci5.toArray 135 (0, 0)) ∧ O5 gi = .idx i ∧ B ≤ V.heap.size) := ⟨hin5, hsegi, htyi, hoi5, Nat.le_trans HB0.out hF5.size⟩
        clear hin5 hsegi htyi hoi5 hnext HQ hF5
        go_upto_region 12 with fail
        refine wp_region_held_drew (S := fun W' => blk W' gr = some C3 ∧ blk W' b4 = some (arr i64v t)) (by kernel_rfl) ⟨hbV, hb4V⟩ (fun hHeld => ?_)
        refine wpAnyH_take (i := 0) (oi := ⟨_, _, _, _, _, _⟩) (v := ?_) rfl (by kernel_rfl) (by kernel_rfl) (by kernel_rfl) (fun _ _ _ h => h) (Or.inl ⟨by rfl, ?_⟩) (by assumption) ?_
        rotate_left 1
        · intro W' hSw
          obtain ⟨hS1, hS2⟩ := hSw
          go_simp
          try with_reducible rfl
        try simp only [Act.put, List.setIfInBounds_toArray, List.set_cons_zero, List.set_cons_succ]
        refine wpAnyH_take (i := 1) (oi := ⟨_, _, _, _, _, _⟩) (v := ?_) rfl (by kernel_rfl) (by kernel_rfl) (by kernel_rfl) (fun _ _ _ h => h) (Or.inl ⟨by rfl, ?_⟩) (by assumption) ?_
        rotate_left 1
        · intro W' hSw
          obtain ⟨hS1, hS2⟩ := hSw
          go_simp
          try with_reducible rfl
        try simp only [Act.put, List.setIfInBounds_toArray, List.set_cons_zero, List.set_cons_succ]
        refine wpAnyH_take (i := 2) (oi := ⟨_, _, _, _, _, _⟩) (v := ?_) rfl (by kernel_rfl) (by kernel_rfl) (by kernel_rfl) (fun _ _ _ h => h) (Or.inl ⟨by rfl, ?_⟩) (by assumption) ?_
        rotate_left 1
        · intro W' hSw
          obtain ⟨hS1, hS2⟩ := hSw
          go_simp
          try with_reducible rfl
        try simp only [Act.put, List.setIfInBounds_toArray, List.set_cons_zero, List.set_cons_succ]
        refine wpAnyH_take (i := 3) (oi := ⟨_, _, _, _, _, _⟩) (v := ?_) rfl (by kernel_rfl) (by kernel_rfl) (by kernel_rfl) (fun _ _ _ h => h) (Or.inl ⟨by rfl, ?_⟩) (by assumption) ?_
        rotate_left 1
        · intro W' hSw
          obtain ⟨hS1, hS2⟩ := hSw
          go_simp
          try with_reducible rfl
        try simp only [Act.put, List.setIfInBounds_toArray, List.set_cons_zero, List.set_cons_succ]
        refine wpAnyH_take (i := 4) (oi := ⟨_, _, _, _, _, _⟩) (v := ?_) rfl (by kernel_rfl) (by kernel_rfl) (by kernel_rfl) (fun _ _ _ h => h) (Or.inl ⟨by rfl, ?_⟩) (by assumption) ?_
        rotate_left 1
        · intro W' hSw
          obtain ⟨hS1, hS2⟩ := hSw
          go_simp
          try with_reducible rfl
        try simp only [Act.put, List.setIfInBounds_toArray, List.set_cons_zero, List.set_cons_succ]
        refine wpAnyH_take (i := 5) (oi := ⟨_, _, _, _, _, _⟩) (v := ?_) rfl (by kernel_rfl) (by kernel_rfl) (by kernel_rfl) (fun _ _ _ h => h) (Or.inl ⟨by rfl, ?_⟩) (by assumption) ?_
        rotate_left 1
        · intro W' hSw
          obtain ⟨hS1, hS2⟩ := hSw
          go_simp
          try with_reducible rfl
        try simp only [Act.put, List.setIfInBounds_toArray, List.set_cons_zero, List.set_cons_succ]
        refine wpAnyH_take (i := 6) (oi := ⟨_, _, _, _, _, _⟩) (v := ?_) rfl (by kernel_rfl) (by kernel_rfl) (by kernel_rfl) (fun _ _ _ h => h) (Or.inl ⟨by rfl, ?_⟩) (by assumption) ?_
        rotate_left 1
        · intro W' hSw
          obtain ⟨hS1, hS2⟩ := hSw
          go_simp
          try with_reducible rfl
        try simp only [Act.put, List.setIfInBounds_toArray, List.set_cons_zero, List.set_cons_succ]
        refine wpAnyH_take (i := 7) (oi := ⟨_, _, _, _, _, _⟩) (v := ?_) rfl (by kernel_rfl) (by kernel_rfl) (by kernel_rfl) (fun _ _ _ h => h) (Or.inl ⟨by rfl, ?_⟩) (by assumption) ?_
        rotate_left 1
        · intro W' hSw
          obtain ⟨hS1, hS2⟩ := hSw
          go_simp
          try with_reducible rfl
        try simp only [Act.put, List.setIfInBounds_toArray, List.set_cons_zero, List.set_cons_succ]
        refine wpAnyH_ready (rs := [8]) (by kernel_rfl) (by simp) ?_
        refine AllReadyH.cons (o := ⟨_, _, _, _, _, _⟩) rfl (fun K' hK => ?_) AllReadyH.nil
        go_simp
        obtain ⟨⟨hm5, jj5, hjj5, hj35, hj205⟩, hH5, hX5⟩ := HP.out.1
        have hlk := link_any B O5 V.drew gi (j * 3) Ci5 i j k5.m k5.ha k5.size k5.size k5.xa L.length k5.xc _ _ t 135 HP.out.2.2.1 HP.out.2.2.2.1 HP.out.2.1 hci5 hH5 hX5 hm5 jj5 hjj5 hj205 (by rw [← HN2.out]; omega) HP.out.2.2.2.2
        rw [← HN2.out] at hlk
        refine hlk.mono ?_
        intro e V3 hP3
        rw [HN2.out] at hP3
        have HN : Hid (LkI B O3 W4 i (some ⟨gi, 0, none⟩) iN ic L ⟨t, 0, true⟩ K (j + 1) V3) := HC.out V3 (by obtain ⟨rfl, h⟩ := hP3; exact ⟨rfl, h⟩)
        have hbV3 : blk V3 gr = some C3 := by
          obtain ⟨O9, K9, g1, _⟩ := HN.out
          exact g1.blk hb4g (by rw [HL3.out.1]; exact hl2)
        have hb4V3 : blk V3 b4 = some (arr i64v t) := by
          obtain ⟨O9, K9, g1, _⟩ := HN.out
          exact g1.blk hb44 (by rw [HL3.out.2]; exact hl4)
        obtain ⟨rfl, _⟩ := hP3
        clear HC HP hlk hH5 hX5
        dsimp only
        refine hK.out _ _ ⟨hbV3, hb4V3⟩ (fun hHeld => ?_)
        clear hK K'
        try simp only [Act.put, List.setIfInBounds_toArray, List.set_cons_zero, List.set_cons_succ]
        refine wpAnyH_done (by kernel_rfl) ?_ _
        go_wp2_with fail
        refine ⟨rfl, rfl, ⟨rfl, rfl, by rw [← HN2.out]; rfl, j + 1, by omega, ?_, HN⟩, ?_⟩
        · show Value.int .i64 _ = _
          go_num
        · show iN - (intOf (Value.int .i64 _)).toNat < iN - (intOf (F 7)).toNat
          rw [H7.out]
          simp [intOf]; omega
      · obtain rfl : j = iN := by omega
        have hjn' : ¬ ((j : Int) < (j : Int)) := by omega
        have HD : Hid (InsPost B O W gr o Cr tyr lr i ar L K t (.returned (.tuple #[])) V) := HFIN.out V HQ.out
        have hbV : blk V gr = some C3 := by
          obtain ⟨O9, K9, g1, _⟩ := HQ.out
          exact g1.blk hb4g (by rw [HL3.out.1]; exact hl2)
        clear HQ HFIN
        go_wp2_with fail
        go_end0
        exact HD.out
end Go.Proofs.Qxb6500789a
