import Derived.Test.Qxb6500789aYr
import Derived.StillTailTactics
import Derived.Deep.QuietTactic
import Derived.BigQuiet
import Derived.Deep.RegionHeld
import Derived.Deep.CutRange
import Derived.Laws.ResultCell
import Derived.Laws.Rows
import Derived.DeepKeys
import Derived.DataBytes
import Derived.Laws.StructEq
import Derived.Laws.AppendOwn
import Derived.Laws.MakeOwn
import Derived.Lib.AppendStr
set_option linter.unusedSimpArgs false
set_option linter.unusedVariables false
namespace Go.Proofs.Qxb6500789a
open Go.RowKit Go.Blk
attribute [local go_sem ↓] execOp_load execOp_store execOp_alloc
attribute [local go_sem] Try.ld29 Try.st29 Try.ld3 Try.st3 Try.ld9 Try.st9 Try.ld30 Try.st30 Try.ld34 Try.st34 Try.ld35 Try.st35 Try.ld36 Try.st36 Try.ld37 Try.st37 Try.ld44 Try.st44 Try.ld45 Try.st45 Try.ld54 Try.st54 Try.ld55 Try.st55 Try.ld74 Try.st74 Try.ld80 Try.st80 Try.ld84 Try.st84 Try.ld106 Try.st106 Try.ld107 Try.st107 Try.ld4 Try.st4 Try.ld121 Try.st121 Try.ld2 Try.st2 Try.ld5 Try.st5 Try.ld12 Try.st12 Try.ld21 Try.st21 Try.ld22 Try.st22 Try.ld24 Try.st24 Try.ld26 Try.st26 Try.ld63 Try.st63 Try.ld71 Try.st71 Try.ld103 Try.st103 Try.ld130 Try.st130 Try.ld133 Try.st133 Try.ld140 Try.st140 Try.ld152 Try.st152 Try.ld39 Try.st39 Try.ld32 Try.st32 Try.ld41 Try.st41 Try.ld47 Try.st47 Try.ld57 Try.st57 Try.ld62 Try.st62 Try.ld76 Try.st76 Try.ld82 Try.st82 Try.ld86 Try.st86 Try.ld109 Try.st109 Try.ld115 Try.st115 Try.ld123 Try.st123 Try.ld135 Try.st135 Try.al39 Try.al32 Try.al41 Try.al47 Try.al57 Try.al62 Try.al76 Try.al82 Try.al86 Try.al109 Try.al115 Try.al123 Try.al135
attribute [local go_sem] Answer.length_enc Answer.ok_enc Answer.all_get Answer.all_set Answer.code_get Answer.code_set Answer.n_get Answer.n_set Answer.name_get Answer.name_set Answer.rows_get Answer.rows_set GOp.length_enc GOp.ok_enc GOp.all_get GOp.all_set GOp.kind_get GOp.kind_set GOp.rel_get GOp.rel_set GOp.mask_get GOp.mask_set GOp.t_get GOp.t_set GOp.n_get GOp.n_set GOp.name_get GOp.name_set Store.length_enc Store.ok_enc Store.all_get Store.all_set Store.names_get Store.names_set Store.rels_get Store.rels_set GRel.length_enc GRel.ok_enc GRel.all_get GRel.all_set GRel.arity_get GRel.arity_set GRel.masks_get GRel.masks_set GRel.rows_get GRel.rows_set Row.length_enc Row.ok_enc Row.all_get Row.all_set Row.t_get Row.t_set Row.mark_get Row.mark_set View.length_enc View.ok_enc View.all_get View.all_set View.names_get View.names_set View.rels_get View.rels_set Symtab.length_enc Symtab.ok_enc Symtab.all_get Symtab.all_set Symtab.names_get Symtab.names_set Symtab.table_get Symtab.table_set StoreTuplestore.length_enc StoreTuplestore.ok_enc StoreTuplestore.all_get StoreTuplestore.all_set StoreTuplestore.syms_get StoreTuplestore.syms_set StoreTuplestore.rels_get StoreTuplestore.rels_set StoreTuplestore.syms_names_get StoreTuplestore.syms_names_set StoreTuplestore.syms_table_get StoreTuplestore.syms_table_set Relation.length_enc Relation.ok_enc Relation.all_get Relation.all_set Relation.arity_get Relation.arity_set Relation.slots_get Relation.slots_set Relation.live_get Relation.live_set Relation.idx_get Relation.idx_set Slot.length_enc Slot.ok_enc Slot.all_get Slot.all_set Slot.t_get Slot.t_set Slot.mark_get Slot.mark_set Slot.live_get Slot.live_set RelView.length_enc RelView.ok_enc RelView.all_get RelView.all_set RelView.arity_get RelView.arity_set RelView.rows_get RelView.rows_set RelView.marks_get RelView.marks_set RelView.indexed_get RelView.indexed_set Index.length_enc Index.ok_enc Index.all_get Index.all_set Index.mask_get Index.mask_set Index.heads_get Index.heads_set Index.next_get Index.next_set
attribute [local go_sem] size_put size_ext blk_put free_put blk_alloc free_alloc blk_drew free_drew blk_ext free_ext lookOr_some putOr_some segAt_some cellAt_some storeIn_some put_put put_alloc_new length_arr ok_arr_u8 ok_arr_u32 ok_arr_u64 ok_arr_i64 ok_arr_sl cellsV_agg cellsV_int cellsV_bool cellsV_string cellsV_pointer cellsV_slice cellsV_sl ok_int ok_bool ok_string ok_pointer ok_slice ok_sl toList_arr seg_arr set_arr nth_splice nth_splice0 seg_splice seg_splice0 splice_splice splice_splice0 length_splice_if
attribute [local go_sem ↓] execOp_box
attribute [local go_sem] box_run nth_arr_u8 put_arr_u8 blk_drewN free_drewN put_drewN blk_raw free_raw
def LkS (W0 : World) (b2 b3 : Nat) (names : List (List UInt8)) (P : List RvS) (W : World) : Prop := ∃ O na nn nc ra rn rc, Lk W0 O W b2 b3 na nn nc ra rn rc names P
def LmS (W0 : World) (b2 b3 b8 : Nat) (names : List (List UInt8)) (P : List RvS) (p : RvS) (W : World) : Prop := ∃ O na nn nc ra rn rc d, Lk W0 O W b2 b3 na nn nc ra rn rc names P ∧ Lr W0.heap.size O W b8 d p
def lvF (bs b2 b3 : Nat) (f : Nat → Value) : Prop := f 0 = .pointer (some ⟨bs, 0, none⟩) ∧ f 2 = .pointer (some ⟨b2, 0, none⟩) ∧ f 3 = .pointer (some ⟨b3, 0, none⟩)
def lvI (W0 : World) (bs b2 b3 : Nat) (st : StS) (f : Nat → Value) (W : World) : Prop := lvF bs b2 b3 f ∧ ∃ y : Nat, y ≤ st.names.length ∧ f 4 = .int .i64 (y : Nat) ∧ Hid (LkS W0 b2 b3 (st.names.take y) [] W)
def lvJ (W0 : World) (bs b2 b3 : Nat) (st : StS) (f : Nat → Value) (W : World) : Prop := lvF bs b2 b3 f ∧ ∃ i : Nat, i ≤ st.rels.length ∧ f 7 = .int .i64 (i : Nat) ∧ Hid (LkS W0 b2 b3 st.names ((List.range i).map (rvOf st)) W)
def lvM (W0 : World) (bs b2 b3 b8 i : Nat) (st : StS) (ar : Int) (rows : List Tup) (f : Nat → Value) (W : World) : Prop := lvF bs b2 b3 f ∧ f 7 = .int .i64 (i : Nat) ∧ f 8 = .pointer (some ⟨b8, 0, none⟩) ∧ ∃ j : Nat, j ≤ rows.length ∧ f 9 = .int .i64 (j : Nat) ∧ Hid (LmS W0 b2 b3 b8 st.names ((List.range i).map (rvOf st)) ⟨ar, rows, (rows.take j).map (fun t => (markF st (i : Int) t).1), []⟩ W)
def lvX (W0 : World) (bs b2 b3 b8 i : Nat) (st : StS) (ar : Int) (K : Nat) (rows : List Tup) (marks : List Int) (f : Nat → Value) (W : World) : Prop := lvF bs b2 b3 f ∧ f 7 = .int .i64 (i : Nat) ∧ f 8 = .pointer (some ⟨b8, 0, none⟩) ∧ ∃ m : Nat, m ≤ K ∧ f 12 = .int .i64 (m : Nat) ∧ Hid (LmS W0 b2 b3 b8 st.names ((List.range i).map (rvOf st)) ⟨ar, rows, marks, (List.range m).map (fun m : Nat => (hasIxF st (i : Int) (m : Int)).1)⟩ W)
def LookPost (W : World) (st : StS) (e : Ending) (W' : World) : Prop := ∃ na nn nc ra rn rc, e = .returned (.agg (vE na nn nc ra rn rc).toArray) ∧ W.Extends W' ∧ VwAt W.heap.size W' na nn nc ra rn rc st.names ((List.range st.rels.length).map (rvOf st))
theorem wrap_ar (ar : Nat) (h : ar ≤ 4) : wrap64 (2 ^ ar) = ((2 ^ ar : Nat) : Int) := by
  have hcc : ar = 0 ∨ ar = 1 ∨ ar = 2 ∨ ar = 3 ∨ ar = 4 := by omega
  rcases hcc with rfl | rfl | rfl | rfl | rfl <;> (rw [IntWalk.wrap64_in _ (by decide)]; rfl)
theorem shl_ar (ar : Nat) (h : ar ≤ 4) : ∃ K : Nat, K = 2 ^ ar ∧ K ≤ 16 := ⟨_, rfl, Nat.pow_le_pow_right (n := 2) (by decide) h⟩
theorem StAt.ar4 {B : Nat} {O : Own} {W : World} {bs : Nat} {st : StS} (h : StAt B O W bs st) {i : Nat} {s : RelS} (hs : st.rels[i]? = some s) : s.ar ≤ 4 := by
  obtain ⟨na, nn, nc, ta, tn, tc, gr, rn, rc, Cr, K, ho⟩ := stat_opn h hs
  exact ho.inv.ar4
set_option maxRecDepth 100000 in
theorem frame105 (f : Nat → Value) : frameN 105 f = #[f 0, f 1, f 2, f 3, f 4, f 5, f 6, f 7, f 8, f 9, f 10, f 11, f 12, f 13, f 14, f 15, f 16, f 17, f 18, f 19, f 20, f 21, f 22, f 23, f 24, f 25, f 26, f 27, f 28, f 29, f 30, f 31, f 32, f 33, f 34, f 35, f 36, f 37, f 38, f 39, f 40, f 41, f 42, f 43, f 44, f 45, f 46, f 47, f 48, f 49, f 50, f 51, f 52, f 53, f 54, f 55, f 56, f 57, f 58, f 59, f 60, f 61, f 62, f 63, f 64, f 65, f 66, f 67, f 68, f 69, f 70, f 71, f 72, f 73, f 74, f 75, f 76, f 77, f 78, f 79, f 80, f 81, f 82, f 83, f 84, f 85, f 86, f 87, f 88, f 89, f 90, f 91, f 92, f 93, f 94, f 95, f 96, f 97, f 98, f 99, f 100, f 101, f 102, f 103, f 104] := by kernel_rfl
attribute [local go_sem] v_len v_ok v_n0 v_n1 v_s0 v_s1 v_all v_put rv_len rv_ok rv_n0 rv_n1 rv_n2 rv_n3 rv_s0 rv_s1 rv_s2 rv_s3 rv_all bslice121 bslice74 bslice80
attribute [local go_sem ↓] execOp_bslice
set_option maxRecDepth 20000 in
set_option maxHeartbeats 8000000 in
theorem look_any (B : Nat) (O : Own) (W : World) (bs : Nat) (st : StS) (hS : StAt B O W bs st) : Calls Try.prog 32 #[.pointer (some ⟨bs, 0, none⟩)] W (LookPost W st) := by
  have HS := hid_of hS
  have hcap := hS.caps 0
  have hn256 : st.names.length ≤ 256 := hcap.1
  have hr192 : st.rels.length ≤ 192 := hcap.2.1
  clear hS hcap
  obtain ⟨Q, hQ⟩ : ∃ Q, Q = LookPost W st := ⟨_, rfl⟩
  rw [← hQ]
  have HQ := hid_of hQ
  clear hQ
  go_enter Try.func32, Try.ntmps32
  go_upto_region 2 with fail
  refine wp_world (fun W1 => LkS W W.heap.size (W.heap.size + 1) [] [] W1) ?_ ?_
  · obtain ⟨O0, h0⟩ := Lk.start (W0 := W) (W := (W.alloc (.cells (View.enc View.zero).toArray 76)).alloc (.cells (View.enc View.zero).toArray 76)) (b2 := W.heap.size) (b3 := W.heap.size + 1) (extends_alloc (extends_alloc (ext_Ext (Ext.refl _)) _) _) (by rw [blk_alloc, if_neg (by rw [World.size_alloc]; omega), blk_alloc, if_pos rfl]; rfl) (by unfold free; rw [heap_alloc, if_neg (by rw [World.size_alloc]; omega), heap_alloc, if_pos rfl]; rfl) (by rw [blk_alloc, if_pos (by rw [World.size_alloc])]; rfl) (by unfold free; rw [heap_alloc, if_pos (by rw [World.size_alloc])]; rfl) (Nat.le_refl _) (by omega)
    exact ⟨O0, _, _, _, _, _, _, h0⟩
  intro W1 hL1
  obtain ⟨b2, e2⟩ : ∃ b2, b2 = W.heap.size := ⟨_, rfl⟩
  obtain ⟨b3, e3⟩ : ∃ b3, b3 = W.heap.size + 1 := ⟨_, rfl⟩
  rw [← e3, ← e2] at hL1
  try simp only [World.size_alloc]
  rw [← e3, ← e2]
  have HL1 : Hid (LkS W b2 b3 (st.names.take 0) [] W1) := hL1
  clear e2 e3 hL1
  go_wp2_with fail
  refine wp_loop_f 105 (lvI W bs b2 b3 st) (fun f _ => st.names.length - (intOf (f 4)).toNat) rfl ⟨⟨rfl, rfl, rfl⟩, 0, by omega, rfl, HL1⟩ ?_
  clear HL1
  intro F V hrel
  obtain ⟨⟨f0, f2, f3⟩, y, hy, f4, HL⟩ := hrel
  have H4 := hid_of f4
  rw [frame105, f0, f2, f3, f4]
  clear f0 f2 f3 f4
  obtain ⟨O1, na, nn, nc, ra, rn, rc, hl⟩ := HL.out
  have hstV := HS.out.ext hl.ext
  have hsy := symsS_any B O V bs st hstV
  by_cases hyl : y < st.names.length
  · have hyl' : (y : Int) < (st.names.length : Int) := by omega
    obtain ⟨nm, hnm⟩ : ∃ nm, st.names[y]? = some nm := ⟨_, List.getElem?_eq_getElem hyl⟩
    have hns : Calls Try.prog 18 #[.pointer (some ⟨bs, 0, none⟩), .int .i64 (y : Int)] V fun e W' => e = .returned (.tuple #[.string ⟨nm.toArray⟩, .int .i64 0]) ∧ W' = V := by
      obtain ⟨ra, rn, rc, hy, _⟩ := hstV.sym
      have := nameS_any B O V bs st.names ra rn rc (y : Int) hy
      have enm : nameF st.names (y : Int) = (nm, 0) := by
        unfold nameF
        rw [if_pos ⟨by omega, by omega⟩, Int.toNat_natCast, List.getD_eq_getElem?_getD, hnm]; rfl
      rw [enm] at this
      exact this
    obtain ⟨na', nc', W2, hrun, n3, n3f, O', hl'⟩ := hl.name (by rw [List.length_take]; omega) nm
    have HLN : Hid (LkS W b2 b3 (st.names.take (y + 1)) [] (put W2 b3 (vE na' (nn + 1) nc' ra rn rc))) := by
      refine ⟨O', na', nn + 1, nc', ra, rn, rc, ?_⟩
      rw [List.take_add_one, hnm]; exact hl'
    have hC3 := hl.c3.1
    have hbs44 : ∀ w : World, (bsliceOp 44 1 #[(0, .string ⟨nm.toArray⟩)]).run Try.prog w = .ok (.value (.slice (some ⟨w.heap.size, 0, none⟩) 1 1)) (w.alloc (.cells (encS nm).toArray 9)) := fun w => bslice44 w nm
    obtain ⟨sv, hsv⟩ : ∃ sv : ByteArray, sv = ⟨nm.toArray⟩ := ⟨_, rfl⟩
    rw [← hsv] at hns hbs44
    clear hl hl' hnm hstV HL hsv hyl
    go_wp2_with fail
    refine hsy.mono ?_
    rintro e V1 ⟨rfl, rfl⟩
    dsimp only
    go_wp2_with fail
    refine hns.mono ?_
    rintro e V2 ⟨rfl, rfl⟩
    dsimp only
    go_wp2_with (at_builtin; refine wpList_append_run rfl _ _ 44 rfl _ _ _ _ rfl rfl hrun ?_)
    refine ⟨rfl, rfl, ⟨⟨rfl, rfl, rfl⟩, y + 1, by omega, ?_, HLN⟩, ?_⟩
    · show Value.int .i64 _ = _
      go_num
    · show st.names.length - (intOf (Value.int .i64 _)).toNat < st.names.length - (intOf (F 4)).toNat
      rw [H4.out]
      simp [intOf]; omega
  obtain rfl : y = st.names.length := by omega
  have hyl' : ¬ (st.names.length : Int) < (st.names.length : Int) := by omega
  have HL2 : Hid (LkS W b2 b3 st.names ((List.range 0).map (rvOf st)) V) := ⟨O1, na, nn, nc, ra, rn, rc, by rw [List.take_length] at hl; exact hl⟩
  clear hstV HL hl hyl hy
  go_wp2_with fail
  refine hsy.mono ?_
  rintro e V1 ⟨rfl, rfl⟩
  dsimp only
  go_wp2_with fail
  refine wp_loop_f 105 (lvJ W bs b2 b3 st) (fun f _ => st.rels.length - (intOf (f 7)).toNat) rfl ⟨⟨rfl, rfl, rfl⟩, 0, by omega, rfl, HL2⟩ ?_
  clear HL2 hsy H4
  intro F1 V2 hrel
  obtain ⟨⟨f0, f2, f3⟩, i, hi, f7, HL⟩ := hrel
  have H7 := hid_of f7
  rw [frame105, f0, f2, f3, f7]
  clear f0 f2 f3 f7
  obtain ⟨O1, na, nn, nc, ra, rn, rc, hl⟩ := HL.out
  have hstV := HS.out.ext hl.ext
  have hre := relsS_any B O V2 bs st hstV
  by_cases hil : i < st.rels.length
  rotate_left 1
  · obtain rfl : i = st.rels.length := by omega
    have hil' : ¬ (st.rels.length : Int) < (st.rels.length : Int) := by omega
    have hC3 := hl.c3.1
    have hC2 := hl.c2.1
    have hF2 := hl.c2.2.1
    obtain ⟨hv1, hv2⟩ := hl.view
    have HP : Hid (LookPost W st (.returned (.agg (vE na nn nc ra rn rc).toArray)) (put V2 b2 (vE na nn nc ra rn rc))) := ⟨na, nn, nc, ra, rn, rc, rfl, hv2, hv1⟩
    have hbC : blk (put V2 b2 (vE na nn nc ra rn rc)) b2 = some (vE na nn nc ra rn rc) := by rw [blk_put, if_pos rfl, hC2]; rfl
    have HBC := hid_of hbC
    clear hl hv1 hv2 HL hstV hil hbC
    go_wp2_with fail
    refine hre.mono ?_
    rintro e V3 ⟨rfl, rfl⟩
    dsimp only
    go_wp2_with fail
    refine ret_cell (C := vE na nn nc ra rn rc) rfl rfl HBC.out (by kernel_rfl) (by rw [v_len]; kernel_rfl) rfl ?_
    rw [HQ.out]
    exact HP.out
  have hil' : (i : Int) < (st.rels.length : Int) := by omega
  obtain ⟨s, hs⟩ : ∃ s, st.rels[i]? = some s := ⟨_, List.getElem?_eq_getElem hil⟩
  have har := hstV.ar4 hs
  have harF : arityF st (i : Int) = ((s.ar : Int), 0) := by unfold arityF; rw [relF_some hs]
  have hrcF : relCode st (i : Int) = 0 := by unfold relCode; rw [relF_some hs]
  have hlen5 : ((rowsS st (i : Int)).map (·.1)).length ≤ 512 := by
    have h1 := (hstV.caps (i : Int)).2.2.2
    unfold lenF at h1
    unfold rowsS
    rw [relF_some hs] at h1 ⊢
    dsimp only at h1 ⊢
    rw [List.length_map]; omega
  obtain ⟨ar, hard⟩ : ∃ ar, ar = s.ar := ⟨_, rfl⟩
  rw [← hard] at har harF
  obtain ⟨rows, hrows⟩ : ∃ rows, rows = (rowsS st (i : Int)).map (·.1) := ⟨_, rfl⟩
  rw [← hrows] at hlen5
  have HROWS := hid_of hrows
  have HARF := hid_of harF
  obtain ⟨O2, hk8, hr8⟩ := hl.begin
  clear hs hard hrows hl HL hstV s
  go_wp2_with fail
  refine hre.mono ?_
  rintro e V3 ⟨rfl, rfl⟩
  dsimp only
  go_upto_region 11 with fail
  refine wp_world (fun W3 => LmS W b2 b3 V3.heap.size st.names ((List.range i).map (rvOf st)) ⟨0, [], [], []⟩ W3) ⟨O2, na, nn, nc, ra, rn, rc, _, hk8, hr8⟩ ?_
  clear hk8 hr8
  intro V4 hL4
  obtain ⟨b8, e8⟩ : ∃ b8, b8 = V3.heap.size := ⟨_, rfl⟩
  rw [← e8] at hL4 ⊢
  clear e8 hre
  obtain ⟨O3, na, nn, nc, ra, rn, rc, d, hk, hr⟩ := hL4
  have hst4 := HS.out.ext hk.ext
  have haS := arityS_any B O V4 bs st hst4 (i : Int)
  rw [harF] at haS
  obtain ⟨hk5, hr5⟩ := Lr.arity hk hr (ar : Int)
  have hC8 := hr.c8.1
  have hF8 := hr.c8.2.1
  obtain ⟨dar, ta, tn, tc, ma, mn, mc, xa, xn, xc⟩ := d
  dsimp only at hk5 hr5
  have hC8' : blk V4 b8 = some (rvE dar ta tn tc ma mn mc xa xn xc) := hC8
  have HL5 : Hid (LmS W b2 b3 b8 st.names ((List.range i).map (rvOf st)) ⟨(ar : Int), [], [], []⟩ (put V4 b8 (rvE (ar : Int) ta tn tc ma mn mc xa xn xc))) := ⟨O3, na, nn, nc, ra, rn, rc, _, hk5, hr5⟩
  clear hk hr hk5 hr5 hst4 hC8
  go_wp2_with fail
  refine haS.mono ?_
  rintro e V5 ⟨rfl, rfl⟩
  dsimp only
  go_upto_region 12 with fail
  refine wp_world (fun W3 => LmS W b2 b3 b8 st.names ((List.range i).map (rvOf st)) ⟨(ar : Int), [], [], []⟩ W3) HL5.out ?_
  clear HL5 haS hC8' hF8
  intro V6 hL6
  obtain ⟨O3, na, nn, nc, ra, rn, rc, d, hk, hr⟩ := hL6
  have hst6 := HS.out.ext hk.ext
  have hli := listS_any B O V6 bs st hst6 (i : Int)
  rw [hrcF] at hli
  have HK6 := hid_of (And.intro hk hr)
  clear hk hr hst6
  go_wp2_with fail
  refine hli.mono ?_
  rintro e V7 ⟨a, n, k, ts, rfl, hout, hts⟩
  obtain ⟨hk, hr⟩ := HK6.out
  obtain ⟨hC8, hF8, O4, hk7, hr7⟩ := Lr.rowsPut hk hr hout
  obtain ⟨dar, ta, tn, tc, ma, mn, mc, xa, xn, xc⟩ := d
  dsimp only at hk7 hr7
  have hC8' : blk V7 b8 = some (rvE dar ta tn tc ma mn mc xa xn xc) := hC8
  have HL7 : Hid (LmS W b2 b3 b8 st.names ((List.range i).map (rvOf st)) ⟨(ar : Int), rows, [], []⟩ (put V7 b8 (rvE dar a n k ma mn mc xa xn xc))) := ⟨O4, na, nn, nc, ra, rn, rc, _, hk7, by rw [HROWS.out, ← hts]; exact hr7⟩
  clear hk hr hk7 hr7 hC8 hout hts HK6 hli
  dsimp only
  go_upto_region 13 with fail
  refine wp_world (fun W3 => LmS W b2 b3 b8 st.names ((List.range i).map (rvOf st)) ⟨(ar : Int), rows, [], []⟩ W3) HL7.out ?_
  clear HL7 hC8' hF8
  intro V8 hL8
  have HL8 := hid_of hL8
  clear hL8
  go_wp2_with fail
  refine wp_loop_f 105 (lvM W bs b2 b3 b8 i st (ar : Int) rows) (fun f _ => rows.length - (intOf (f 9)).toNat) rfl ⟨⟨rfl, rfl, rfl⟩, rfl, rfl, 0, by omega, rfl, HL8⟩ ?_
  clear HL8
  intro F2 V9 hrel
  obtain ⟨⟨f0, f2, f3⟩, f7, f8, j, hj, f9, HL⟩ := hrel
  have H9 := hid_of f9
  rw [frame105, f0, f2, f3, f7, f8, f9]
  clear f0 f2 f3 f7 f8 f9
  obtain ⟨O3, na, nn, nc, ra, rn, rc, d, hk, hr⟩ := HL.out
  have hC8 := hr.c8.1
  have hF8 := hr.c8.2.1
  have htn : rows.length = d.tn := (hr.rv.rows.rw tpl_len).1.1
  by_cases hjl : j < rows.length
  · obtain ⟨t, ht⟩ : ∃ t, rows[j]? = some t := ⟨_, List.getElem?_eq_getElem hjl⟩
    obtain ⟨bt, Ct, hta, hCt, hlt, hjn, hsg⟩ := tup_at (hr.rv.rows.rw tpl_len).1 ht
    have hst9 := HS.out.ext hk.ext
    have hmk := mark_any B O V9 bs st hst9 (i : Int) t
    obtain ⟨mv, hmv⟩ : ∃ mv, mv = (markF st (i : Int) t).1 := ⟨_, rfl⟩
    obtain ⟨mc2, hmc2⟩ : ∃ mc2, mc2 = (markF st (i : Int) t).2 := ⟨_, rfl⟩
    rw [← hmv, ← hmc2] at hmk
    have HT : Hid (rows[j]? = some t ∧ mv = (markF st (i : Int) t).1) := ⟨ht, hmv⟩
    obtain ⟨dar, ta, tn, tc, ma, mn, mc, xa, xn, xc⟩ := d
    dsimp only at hta hjn htn
    subst hta
    have hC8' : blk V9 b8 = some (rvE dar (some ⟨bt, 0, none⟩) tn tc ma mn mc xa xn xc) := hC8
    have HKR := hid_of (And.intro hk hr)
    have hjl' : (j : Int) < (tn : Int) := by omega
    have q0 : (0 : Int) ≤ (j : Int) := by omega
    have q2 : ((j : Int)).toNat = j := by omega
    clear hk hr hC8 hst9 ht hmv hmc2 HL hF8
    go_wp2_with fail
    refine hmk.mono ?_
    rintro e V10 ⟨rfl, hx10⟩
    obtain ⟨hk, hr⟩ := HKR.out
    obtain ⟨ma', mc', W1, hrun, n8, n8f, O', hk', hr'⟩ := Lr.mark (hk.ext' hx10) (hr.ext hx10) (by simp only [List.length_map, List.length_take]; omega) mv
    dsimp only at hrun hk' hr'
    have n8' : blk W1 b8 = some (rvE dar (some ⟨bt, 0, none⟩) tn tc ma mn mc xa xn xc) := n8
    have hC810 : blk V10 b8 = some (rvE dar (some ⟨bt, 0, none⟩) tn tc ma mn mc xa xn xc) := (hx10.blk (blk_lt hC8')).trans hC8'
    have HLN : Hid (LmS W b2 b3 b8 st.names ((List.range i).map (rvOf st)) ⟨(ar : Int), rows, (rows.take (j + 1)).map (fun t => (markF st (i : Int) t).1), []⟩ (put W1 b8 (rvE dar (some ⟨bt, 0, none⟩) tn tc ma' (mn + 1) mc' xa xn xc))) := by
      refine ⟨O', na, nn, nc, ra, rn, rc, ⟨dar, some ⟨bt, 0, none⟩, tn, tc, ma', mn + 1, mc', xa, xn, xc⟩, hk', ?_⟩
      rw [List.take_add_one, HT.out.1, List.map_append]
      have e := HT.out.2
      show Lr _ _ _ _ _ ⟨_, _, _ ++ [(markF st (i : Int) t).1], _⟩
      rw [← e]; exact hr'
    have hb80 : ∀ w : World, (bsliceOp 80 1 #[(0, .int .i64 mv)]).run Try.prog w = .ok (.value (.slice (some ⟨w.heap.size, 0, none⟩) 1 1)) (w.alloc (.cells (encI mv).toArray 3)) := fun w => bslice80 w mv
    clear hk hr hk' hr' n8 HKR hmk hC8' hx10 hCt hsg hlt
    dsimp only
    go_wp2_with (at_builtin; refine wpList_append_run rfl _ _ 80 rfl _ _ _ _ rfl rfl hrun ?_)
    refine ⟨rfl, rfl, ⟨⟨rfl, rfl, rfl⟩, rfl, rfl, j + 1, by omega, ?_, HLN⟩, ?_⟩
    · show Value.int .i64 _ = _
      go_num
    · show rows.length - (intOf (Value.int .i64 _)).toNat < rows.length - (intOf (F2 9)).toNat
      rw [H9.out]
      simp [intOf]; omega
  have hjl' : ¬ (j : Int) < (d.tn : Int) := by omega
  obtain ⟨K, hK, hK16⟩ := shl_ar ar har
  obtain ⟨marks, hmarks⟩ : ∃ marks, marks = rows.map (fun t => (markF st (i : Int) t).1) := ⟨_, rfl⟩
  have HMARKS := hid_of hmarks
  have HL9 : Hid (LmS W b2 b3 b8 st.names ((List.range i).map (rvOf st)) ⟨(ar : Int), rows, marks, (List.range 0).map (fun m : Nat => (hasIxF st (i : Int) (m : Int)).1)⟩ V9) := by
    refine ⟨O3, na, nn, nc, ra, rn, rc, d, hk, ?_⟩
    rw [hmarks]
    rw [List.take_of_length_le (by omega)] at hr
    exact hr
  obtain ⟨dar, ta, tn, tc, ma, mn, mc, xa, xn, xc⟩ := d
  have hC8' : blk V9 b8 = some (rvE dar ta tn tc ma mn mc xa xn xc) := hC8
  dsimp only at hjl'
  have HK := hid_of hK
  clear hk hr HL hC8 hF8 htn hmarks hK H9 hjl
  go_wp2_with fail
  refine wp_loop_f 105 (lvX W bs b2 b3 b8 i st (ar : Int) K rows marks) (fun f _ => K - (intOf (f 12)).toNat) rfl ⟨⟨rfl, rfl, rfl⟩, rfl, rfl, 0, by omega, rfl, HL9⟩ ?_
  clear HL9 hC8'
  intro F3 V11 hrel
  obtain ⟨⟨f0, f2, f3⟩, f7, f8, m, hm, f12, HL⟩ := hrel
  have H12 := hid_of f12
  rw [frame105, f0, f2, f3, f7, f8, f12]
  clear f0 f2 f3 f7 f8 f12
  obtain ⟨O3, na, nn, nc, ra, rn, rc, d, hk, hr⟩ := HL.out
  have hdar : d.ar = (ar : Int) := hr.rv.ar
  obtain ⟨dar, ta, tn, tc, ma, mn, mc, xa, xn, xc⟩ := d
  dsimp only at hdar
  subst hdar
  have hC8 : blk V11 b8 = some (rvE (ar : Int) ta tn tc ma mn mc xa xn xc) := hr.c8.1
  by_cases hml : m < K
  · have hst11 := HS.out.ext hk.ext
    have hhi := hasIxS_any B O V11 bs st hst11 (i : Int) (m : Int) (by omega)
    obtain ⟨xv, hxv⟩ : ∃ xv, xv = (hasIxF st (i : Int) (m : Int)).1 := ⟨_, rfl⟩
    obtain ⟨xc2, hxc2⟩ : ∃ xc2, xc2 = (hasIxF st (i : Int) (m : Int)).2 := ⟨_, rfl⟩
    rw [← hxv, ← hxc2] at hhi
    obtain ⟨xa', xc', W1, hrun, n8, n8f, O', hk', hr'⟩ := Lr.ix hk hr (by simp only [List.length_map, List.length_range]; omega) xv
    dsimp only at hrun hk' hr'
    have n8' : blk W1 b8 = some (rvE (ar : Int) ta tn tc ma mn mc xa xn xc) := n8
    have HLN : Hid (LmS W b2 b3 b8 st.names ((List.range i).map (rvOf st)) ⟨(ar : Int), rows, marks, (List.range (m + 1)).map (fun m : Nat => (hasIxF st (i : Int) (m : Int)).1)⟩ (put W1 b8 (rvE (ar : Int) ta tn tc ma mn mc xa' (xn + 1) xc'))) := by
      refine ⟨O', na, nn, nc, ra, rn, rc, ⟨(ar : Int), ta, tn, tc, ma, mn, mc, xa', xn + 1, xc'⟩, hk', ?_⟩
      rw [List.range_succ, List.map_append]
      show Lr _ _ _ _ _ ⟨_, _, _, _ ++ [(hasIxF st (i : Int) (m : Int)).1]⟩
      rw [← hxv]; exact hr'
    have hb121 : ∀ w : World, (bsliceOp 121 1 #[(0, .bool xv)]).run Try.prog w = .ok (.value (.slice (some ⟨w.heap.size, 0, none⟩) 1 1)) (w.alloc (.cells (encB xv).toArray 4)) := fun w => bslice121 w xv
    have hml' : (m : Int) < wrap64 (2 ^ ar) := by rw [wrap_ar ar har, ← HK.out]; omega
    clear hk hr hk' hr' n8 hst11 hxv hxc2 HL
    go_wp2_with fail
    refine hhi.mono ?_
    rintro e V12 ⟨rfl, rfl⟩
    dsimp only
    go_wp2_with (at_builtin; refine wpList_append_run rfl _ _ 121 rfl _ _ _ _ rfl rfl hrun ?_)
    refine ⟨rfl, rfl, ⟨⟨rfl, rfl, rfl⟩, rfl, rfl, m + 1, by omega, ?_, HLN⟩, ?_⟩
    · show Value.int .i64 _ = _
      go_num
    · show K - (intOf (Value.int .i64 _)).toNat < K - (intOf (F3 12)).toNat
      rw [H12.out]
      simp [intOf]; omega
  obtain rfl : m = K := by omega
  have hml' : ¬ (m : Int) < wrap64 (2 ^ ar) := by rw [wrap_ar ar har, ← HK.out]; omega
  obtain ⟨ra', rc', W1, hrun, n3, n3f, O', hk'⟩ := hk.rel (by simp only [List.length_map, List.length_range]; omega) hr
  have hC3 := hk.c3.1
  have HLN : Hid (LkS W b2 b3 st.names ((List.range (i + 1)).map (rvOf st)) (put W1 b3 (vE na nn nc ra' (rn + 1) rc'))) := by
    refine ⟨O', na, nn, nc, ra', rn + 1, rc', ?_⟩
    have e : rvOf st i = ⟨(ar : Int), rows, marks, (List.range m).map (fun m : Nat => (hasIxF st (i : Int) (m : Int)).1)⟩ := by
      unfold rvOf
      rw [HARF.out, ← HROWS.out, ← HMARKS.out]
      dsimp only
      rw [Int.toNat_natCast, ← HK.out]
    rw [List.range_succ, List.map_append]
    show Lk _ _ _ _ _ _ _ _ _ _ _ _ (_ ++ [rvOf st i])
    rw [e]; exact hk'
  have hb74 : ∀ w : World, (bsliceOp 74 1 #[(0, .agg (rvE (ar : Int) ta tn tc ma mn mc xa xn xc).toArray)]).run Try.prog w = .ok (.value (.slice (some ⟨w.heap.size, 0, none⟩) 1 1)) (w.alloc (.cells (RvD.enc ⟨(ar : Int), ta, tn, tc, ma, mn, mc, xa, xn, xc⟩).toArray 123)) := fun w => bslice74 w _ _ _ _ _ _ _ _ _ _
  clear hk hr hk' HL hm
  go_wp2_with (at_builtin; refine wpList_append_run rfl _ _ 74 rfl _ _ _ _ rfl rfl hrun ?_)
  refine ⟨rfl, rfl, ⟨⟨rfl, rfl, rfl⟩, i + 1, by omega, ?_, HLN⟩, ?_⟩
  · show Value.int .i64 _ = _
    go_num
  · show st.rels.length - (intOf (Value.int .i64 _)).toNat < st.rels.length - (intOf (F1 7)).toNat
    rw [H7.out]
    simp [intOf]; omega
end Go.Proofs.Qxb6500789a
